/- Texts of this claim, joined: Ty, Bag, Ones, Arr, Prs, Ints, Mark, MarkP, Grf, Base, PermP, PutP, Sort. -/
import Derived.Test.YtlfongfhbkefmaaProg
import Derived.KernelRfl
import Derived.Laws.Bits64
import Derived.Laws.BitsLemmas
import Derived.Test.YtlfongfhbkefmaaMgLawMss2
namespace Go.Proofs.Ytlfongfhbkefmaa.Ai
open Go
theorem cs3 : Try.prog.cellsOf 3 = 1 := by kernel_rfl
theorem by3 : Try.prog.bytesOf 3 = 8 := by kernel_rfl
theorem ag3 : isAggA Try.prog 3 = some false := by kernel_rfl
theorem ze3 : zeroA Try.prog 3 = some (.int .i64 0) := by kernel_rfl
theorem zk3 : zeroOk Try.prog 3 = true := by kernel_rfl
theorem cs4 : Try.prog.cellsOf 4 = 1 := by kernel_rfl
theorem by4 : Try.prog.bytesOf 4 = 1 := by kernel_rfl
theorem ag4 : isAggA Try.prog 4 = some false := by kernel_rfl
theorem ze4 : zeroA Try.prog 4 = some (.bool false) := by kernel_rfl
theorem zk4 : zeroOk Try.prog 4 = true := by kernel_rfl
theorem cs5 : Try.prog.cellsOf 5 = 1 := by kernel_rfl
theorem by5 : Try.prog.bytesOf 5 = 1 := by kernel_rfl
theorem ag5 : isAggA Try.prog 5 = some false := by kernel_rfl
theorem ze5 : zeroA Try.prog 5 = some (.int .u8 0) := by kernel_rfl
theorem zk5 : zeroOk Try.prog 5 = true := by kernel_rfl
theorem cs9 : Try.prog.cellsOf 9 = 1 := by kernel_rfl
theorem by9 : Try.prog.bytesOf 9 = 16 := by kernel_rfl
theorem ag9 : isAggA Try.prog 9 = some false := by kernel_rfl
theorem ze9 : zeroA Try.prog 9 = some (.string ⟨#[]⟩) := by kernel_rfl
theorem zk9 : zeroOk Try.prog 9 = true := by kernel_rfl
theorem cs22 : Try.prog.cellsOf 22 = 1 := by kernel_rfl
theorem by22 : Try.prog.bytesOf 22 = 24 := by kernel_rfl
theorem ag22 : isAggA Try.prog 22 = some false := by kernel_rfl
theorem ze22 : zeroA Try.prog 22 = some (.slice none 0 0) := by kernel_rfl
theorem zk22 : zeroOk Try.prog 22 = true := by kernel_rfl
theorem cs24 : Try.prog.cellsOf 24 = 2 := by kernel_rfl
theorem by24 : Try.prog.bytesOf 24 = 32 := by kernel_rfl
theorem ag24 : isAggA Try.prog 24 = some true := by kernel_rfl
theorem ze24 : zeroA Try.prog 24 = some (.agg #[(.int .i64 0), (.slice none 0 0)]) := by kernel_rfl
theorem zk24 : zeroOk Try.prog 24 = true := by kernel_rfl
theorem cs26 : Try.prog.cellsOf 26 = 1 := by kernel_rfl
theorem by26 : Try.prog.bytesOf 26 = 24 := by kernel_rfl
theorem ag26 : isAggA Try.prog 26 = some false := by kernel_rfl
theorem ze26 : zeroA Try.prog 26 = some (.slice none 0 0) := by kernel_rfl
theorem zk26 : zeroOk Try.prog 26 = true := by kernel_rfl
theorem cs28 : Try.prog.cellsOf 28 = 2 := by kernel_rfl
theorem by28 : Try.prog.bytesOf 28 = 48 := by kernel_rfl
theorem ag28 : isAggA Try.prog 28 = some true := by kernel_rfl
theorem ze28 : zeroA Try.prog 28 = some (.agg #[(.slice none 0 0), (.slice none 0 0)]) := by kernel_rfl
theorem zk28 : zeroOk Try.prog 28 = true := by kernel_rfl
theorem cs31 : Try.prog.cellsOf 31 = 2 := by kernel_rfl
theorem by31 : Try.prog.bytesOf 31 = 32 := by kernel_rfl
theorem ag31 : isAggA Try.prog 31 = some true := by kernel_rfl
theorem ze31 : zeroA Try.prog 31 = some (.agg #[(.int .i64 0), (.slice none 0 0)]) := by kernel_rfl
theorem zk31 : zeroOk Try.prog 31 = true := by kernel_rfl
theorem cs32 : Try.prog.cellsOf 32 = 1 := by kernel_rfl
theorem by32 : Try.prog.bytesOf 32 = 8 := by kernel_rfl
theorem ag32 : isAggA Try.prog 32 = some false := by kernel_rfl
theorem ze32 : zeroA Try.prog 32 = some .nilFunc := by kernel_rfl
theorem zk32 : zeroOk Try.prog 32 = true := by kernel_rfl
theorem cs38 : Try.prog.cellsOf 38 = 1 := by kernel_rfl
theorem by38 : Try.prog.bytesOf 38 = 24 := by kernel_rfl
theorem ag38 : isAggA Try.prog 38 = some false := by kernel_rfl
theorem ze38 : zeroA Try.prog 38 = some (.slice none 0 0) := by kernel_rfl
theorem zk38 : zeroOk Try.prog 38 = true := by kernel_rfl
theorem cs81 : Try.prog.cellsOf 81 = 2 := by kernel_rfl
theorem by81 : Try.prog.bytesOf 81 = 16 := by kernel_rfl
theorem ag81 : isAggA Try.prog 81 = some true := by kernel_rfl
theorem ze81 : zeroA Try.prog 81 = some (.agg #[(.int .i64 0), (.int .i64 0)]) := by kernel_rfl
theorem zk81 : zeroOk Try.prog 81 = true := by kernel_rfl
theorem cs85 : Try.prog.cellsOf 85 = 1 := by kernel_rfl
theorem by85 : Try.prog.bytesOf 85 = 8 := by kernel_rfl
theorem ag85 : isAggA Try.prog 85 = some false := by kernel_rfl
theorem ze85 : zeroA Try.prog 85 = some .nilFunc := by kernel_rfl
theorem zk85 : zeroOk Try.prog 85 = true := by kernel_rfl
theorem cs93 : Try.prog.cellsOf 93 = 1 := by kernel_rfl
theorem by93 : Try.prog.bytesOf 93 = 8 := by kernel_rfl
theorem ag93 : isAggA Try.prog 93 = some false := by kernel_rfl
theorem ze93 : zeroA Try.prog 93 = some .nilFunc := by kernel_rfl
theorem zk93 : zeroOk Try.prog 93 = true := by kernel_rfl
theorem cs95 : Try.prog.cellsOf 95 = 1 := by kernel_rfl
theorem by95 : Try.prog.bytesOf 95 = 8 := by kernel_rfl
theorem ag95 : isAggA Try.prog 95 = some false := by kernel_rfl
theorem ze95 : zeroA Try.prog 95 = some .nilFunc := by kernel_rfl
theorem zk95 : zeroOk Try.prog 95 = true := by kernel_rfl
theorem cs97 : Try.prog.cellsOf 97 = 1 := by kernel_rfl
theorem by97 : Try.prog.bytesOf 97 = 8 := by kernel_rfl
theorem ag97 : isAggA Try.prog 97 = some false := by kernel_rfl
theorem ze97 : zeroA Try.prog 97 = some (.int .u64 0) := by kernel_rfl
theorem zk97 : zeroOk Try.prog 97 = true := by kernel_rfl
theorem cs98 : Try.prog.cellsOf 98 = 1 := by kernel_rfl
theorem by98 : Try.prog.bytesOf 98 = 8 := by kernel_rfl
theorem ag98 : isAggA Try.prog 98 = some false := by kernel_rfl
theorem ze98 : zeroA Try.prog 98 = some (.int .u64 0) := by kernel_rfl
theorem zk98 : zeroOk Try.prog 98 = true := by kernel_rfl
theorem cs99 : Try.prog.cellsOf 99 = 1 := by kernel_rfl
theorem by99 : Try.prog.bytesOf 99 = 8 := by kernel_rfl
theorem ag99 : isAggA Try.prog 99 = some false := by kernel_rfl
theorem ze99 : zeroA Try.prog 99 = some .nilFunc := by kernel_rfl
theorem zk99 : zeroOk Try.prog 99 = true := by kernel_rfl
theorem cs103 : Try.prog.cellsOf 103 = 1 := by kernel_rfl
theorem by103 : Try.prog.bytesOf 103 = 8 := by kernel_rfl
theorem ag103 : isAggA Try.prog 103 = some false := by kernel_rfl
theorem ze103 : zeroA Try.prog 103 = some .nilFunc := by kernel_rfl
theorem zk103 : zeroOk Try.prog 103 = true := by kernel_rfl
theorem cs111 : Try.prog.cellsOf 111 = 1 := by kernel_rfl
theorem by111 : Try.prog.bytesOf 111 = 8 := by kernel_rfl
theorem ag111 : isAggA Try.prog 111 = some false := by kernel_rfl
theorem ze111 : zeroA Try.prog 111 = some .nilFunc := by kernel_rfl
theorem zk111 : zeroOk Try.prog 111 = true := by kernel_rfl
theorem cs122 : Try.prog.cellsOf 122 = 1 := by kernel_rfl
theorem by122 : Try.prog.bytesOf 122 = 8 := by kernel_rfl
theorem ag122 : isAggA Try.prog 122 = some false := by kernel_rfl
theorem ze122 : zeroA Try.prog 122 = some (.int .u64 0) := by kernel_rfl
theorem zk122 : zeroOk Try.prog 122 = true := by kernel_rfl
theorem cs129 : Try.prog.cellsOf 129 = 1 := by kernel_rfl
theorem by129 : Try.prog.bytesOf 129 = 8 := by kernel_rfl
theorem ag129 : isAggA Try.prog 129 = some false := by kernel_rfl
theorem ze129 : zeroA Try.prog 129 = some .nilFunc := by kernel_rfl
theorem zk129 : zeroOk Try.prog 129 = true := by kernel_rfl
theorem cs133 : Try.prog.cellsOf 133 = 1 := by kernel_rfl
theorem by133 : Try.prog.bytesOf 133 = 24 := by kernel_rfl
theorem ag133 : isAggA Try.prog 133 = some false := by kernel_rfl
theorem ze133 : zeroA Try.prog 133 = some (.slice none 0 0) := by kernel_rfl
theorem zk133 : zeroOk Try.prog 133 = true := by kernel_rfl
theorem cs134 : Try.prog.cellsOf 134 = 1 := by kernel_rfl
theorem by134 : Try.prog.bytesOf 134 = 8 := by kernel_rfl
theorem ag134 : isAggA Try.prog 134 = some false := by kernel_rfl
theorem ze134 : zeroA Try.prog 134 = some .nilFunc := by kernel_rfl
theorem zk134 : zeroOk Try.prog 134 = true := by kernel_rfl
theorem cs145 : Try.prog.cellsOf 145 = 1 := by kernel_rfl
theorem by145 : Try.prog.bytesOf 145 = 8 := by kernel_rfl
theorem ag145 : isAggA Try.prog 145 = some false := by kernel_rfl
theorem ze145 : zeroA Try.prog 145 = some .nilFunc := by kernel_rfl
theorem zk145 : zeroOk Try.prog 145 = true := by kernel_rfl
theorem cs151 : Try.prog.cellsOf 151 = 1 := by kernel_rfl
theorem by151 : Try.prog.bytesOf 151 = 8 := by kernel_rfl
theorem ag151 : isAggA Try.prog 151 = some false := by kernel_rfl
theorem ze151 : zeroA Try.prog 151 = some .nilFunc := by kernel_rfl
theorem zk151 : zeroOk Try.prog 151 = true := by kernel_rfl
theorem cs159 : Try.prog.cellsOf 159 = 1 := by kernel_rfl
theorem by159 : Try.prog.bytesOf 159 = 8 := by kernel_rfl
theorem ag159 : isAggA Try.prog 159 = some false := by kernel_rfl
theorem ze159 : zeroA Try.prog 159 = some .nilFunc := by kernel_rfl
theorem zk159 : zeroOk Try.prog 159 = true := by kernel_rfl
theorem cs182 : Try.prog.cellsOf 182 = 1 := by kernel_rfl
theorem by182 : Try.prog.bytesOf 182 = 4 := by kernel_rfl
theorem ag182 : isAggA Try.prog 182 = some false := by kernel_rfl
theorem ze182 : zeroA Try.prog 182 = some (.int .u32 0) := by kernel_rfl
theorem zk182 : zeroOk Try.prog 182 = true := by kernel_rfl
theorem cs185 : Try.prog.cellsOf 185 = 1 := by kernel_rfl
theorem by185 : Try.prog.bytesOf 185 = 8 := by kernel_rfl
theorem ag185 : isAggA Try.prog 185 = some false := by kernel_rfl
theorem ze185 : zeroA Try.prog 185 = some .nilFunc := by kernel_rfl
theorem zk185 : zeroOk Try.prog 185 = true := by kernel_rfl
theorem cs188 : Try.prog.cellsOf 188 = 1 := by kernel_rfl
theorem by188 : Try.prog.bytesOf 188 = 8 := by kernel_rfl
theorem ag188 : isAggA Try.prog 188 = some false := by kernel_rfl
theorem ze188 : zeroA Try.prog 188 = some .nilFunc := by kernel_rfl
theorem zk188 : zeroOk Try.prog 188 = true := by kernel_rfl
theorem own1_22 {H0 H : AH} {v : Value} {ps : List (Int × Int)} (h : MineP 81 H0 H v ps) (hp : H0 <+: H) (hb : ps.length ≤ 1099511627775) (a b : Int) : ∃ v' H', appendA Try.prog 22 22 v (.slice (some ⟨H.length, 0, none⟩) 1 1) (H ++ [.cells [.int .i64 a, .int .i64 b] 81 false]) = some (v', H') ∧ MineP 81 H0 H' v' (ps ++ [(a, b)]) ∧ H0 <+: H' ∧ Kept v H H' ∧ H.length ≤ rowO v' ∧ isTup v' = false := MineP.app1 Try.underlying22 cs81 (by rw [by81]; decide) zk81 h hp hb a b
theorem mks22 {n : Int} (h0 : 0 ≤ n) (h1 : n ≤ 1099511627776) (H : AH) : makeSliceA Try.prog 22 (.int .i64 n) (.int .i64 n) H = some (.slice (some ⟨H.length, 0, none⟩) n.toNat n.toNat, H ++ [.cells (ints (flat (List.replicate n.toNat (0, 0)))) 81 false]) := mk_prs Try.underlying22 cs81 (by rw [by81]; decide) ze81 h0 h1 H
theorem app26 {H : AH} {o : Nat} {vs : List Value} {v : Value} {n c : Nat} (ho : H[o]? = some (.cells vs 38 false)) (hn : vs.length = n) (hb : n ≤ 1099511627776) : appendA Try.prog 26 26 (.slice (some ⟨o, 0, none⟩) n c) (.slice (some ⟨H.length, 0, none⟩) 1 1) (H ++ [.cells [v] 38 false]) = some (.slice (some ⟨H.length + 1, 0, none⟩) (n + 1) (n + 1), H.set o .dead ++ [.cells [v] 38 false, .cells (vs ++ [v]) 38 false]) := app_one Try.underlying26 cs38 (by rw [by38]; decide) zk38 ho hn hb
theorem app38 {H : AH} {o : Nat} {vs : List Value} {v : Value} {n c : Nat} (ho : H[o]? = some (.cells vs 3 false)) (hn : vs.length = n) (hb : n ≤ 1099511627776) : appendA Try.prog 38 38 (.slice (some ⟨o, 0, none⟩) n c) (.slice (some ⟨H.length, 0, none⟩) 1 1) (H ++ [.cells [v] 3 false]) = some (.slice (some ⟨H.length + 1, 0, none⟩) (n + 1) (n + 1), H.set o .dead ++ [.cells [v] 3 false, .cells (vs ++ [v]) 3 false]) := app_one Try.underlying38 cs3 (by rw [by3]; decide) zk3 ho hn hb
theorem mks38 {n : Int} (h0 : 0 ≤ n) (h1 : n ≤ 1099511627776) (H : AH) : makeSliceA Try.prog 38 (.int .i64 n) (.int .i64 n) H = some (.slice (some ⟨H.length, 0, none⟩) n.toNat n.toNat, H ++ [.cells (ints (List.replicate n.toNat 0)) 3 false]) := mk_ints Try.underlying38 cs3 (by rw [by3]; decide) ze3 h0 h1 H
theorem own1_38 {H0 H : AH} {v : Value} {ys : List Int} (h : Own 3 H0 H v ys) (hp : H0 <+: H) (hb : ys.length ≤ 1099511627775) (x : Int) : ∃ v' H', appendA Try.prog 38 38 v (.slice (some ⟨H.length, 0, none⟩) 1 1) (H ++ [.cells [.int .i64 x] 3 false]) = some (v', H') ∧ Own 3 H0 H' v' (ys ++ [x]) ∧ H0 <+: H' ∧ Kept v H H' ∧ H.length ≤ rowO v' ∧ isTup v' = false := Own.app1 Try.underlying38 cs3 (by rw [by3]; decide) zk3 h hp hb x
theorem appi38 {H : AH} {o : Nat} {xs : List Int} {x : Int} {n c : Nat} (ho : H[o]? = some (.cells (ints xs) 3 false)) (hn : xs.length = n) (hb : n ≤ 1099511627776) : appendA Try.prog 38 38 (.slice (some ⟨o, 0, none⟩) n c) (.slice (some ⟨H.length, 0, none⟩) 1 1) (H ++ [.cells [.int .i64 x] 3 false]) = some (.slice (some ⟨H.length + 1, 0, none⟩) (n + 1) (n + 1), H.set o .dead ++ [.cells [.int .i64 x] 3 false, .cells (ints (xs ++ [x])) 3 false]) := by rw [ints_app]; exact app38 ho (by rw [ints_len]; exact hn) hb
theorem ixa81 (p : Addr) (k : IntKind) {i : Int} (h0 : 0 ≤ i) (h1 : i < 2) : indexAddrA Try.prog 81 (.pointer (some p)) (.int k i) = some (.pointer (some ⟨p.block, p.off + i.toNat, none⟩)) := ix_arr Try.underlying81 cs3 p k h0 h1
theorem app133 {H : AH} {o : Nat} {vs : List Value} {v : Value} {n c : Nat} (ho : H[o]? = some (.cells vs 3 false)) (hn : vs.length = n) (hb : n ≤ 1099511627776) : appendA Try.prog 133 133 (.slice (some ⟨o, 0, none⟩) n c) (.slice (some ⟨H.length, 0, none⟩) 1 1) (H ++ [.cells [v] 3 false]) = some (.slice (some ⟨H.length + 1, 0, none⟩) (n + 1) (n + 1), H.set o .dead ++ [.cells [v] 3 false, .cells (vs ++ [v]) 3 false]) := app_one Try.underlying133 cs3 (by rw [by3]; decide) zk3 ho hn hb
theorem mks133 {n : Int} (h0 : 0 ≤ n) (h1 : n ≤ 1099511627776) (H : AH) : makeSliceA Try.prog 133 (.int .i64 n) (.int .i64 n) H = some (.slice (some ⟨H.length, 0, none⟩) n.toNat n.toNat, H ++ [.cells (ints (List.replicate n.toNat 0)) 3 false]) := mk_ints Try.underlying133 cs3 (by rw [by3]; decide) ze3 h0 h1 H
theorem own1_133 {H0 H : AH} {v : Value} {ys : List Int} (h : Own 3 H0 H v ys) (hp : H0 <+: H) (hb : ys.length ≤ 1099511627775) (x : Int) : ∃ v' H', appendA Try.prog 133 133 v (.slice (some ⟨H.length, 0, none⟩) 1 1) (H ++ [.cells [.int .i64 x] 3 false]) = some (v', H') ∧ Own 3 H0 H' v' (ys ++ [x]) ∧ H0 <+: H' ∧ Kept v H H' ∧ H.length ≤ rowO v' ∧ isTup v' = false := Own.app1 Try.underlying133 cs3 (by rw [by3]; decide) zk3 h hp hb x
theorem appi133 {H : AH} {o : Nat} {xs : List Int} {x : Int} {n c : Nat} (ho : H[o]? = some (.cells (ints xs) 3 false)) (hn : xs.length = n) (hb : n ≤ 1099511627776) : appendA Try.prog 133 133 (.slice (some ⟨o, 0, none⟩) n c) (.slice (some ⟨H.length, 0, none⟩) 1 1) (H ++ [.cells [.int .i64 x] 3 false]) = some (.slice (some ⟨H.length + 1, 0, none⟩) (n + 1) (n + 1), H.set o .dead ++ [.cells [.int .i64 x] 3 false, .cells (ints (xs ++ [x])) 3 false]) := by rw [ints_app]; exact app133 ho (by rw [ints_len]; exact hn) hb
theorem ST : (∀ p H, loadA Try.prog 3 (.pointer (some p)) H = cellA H p.block p.off) ∧
    (∀ p H, loadA Try.prog 4 (.pointer (some p)) H = cellA H p.block p.off) ∧
    (∀ a b, binA Try.prog .eql 4 (.bool a) (.bool b) = some (.bool (decide (a = b)))) ∧
    (∀ a b, binA Try.prog .neq 4 (.bool a) (.bool b) = some (.bool (decide (a ≠ b)))) ∧
    (∀ p H, loadA Try.prog 5 (.pointer (some p)) H = cellA H p.block p.off) ∧
    (∀ p H, loadA Try.prog 9 (.pointer (some p)) H = cellA H p.block p.off) ∧
    (∀ p H, loadA Try.prog 22 (.pointer (some p)) H = cellA H p.block p.off) ∧
    (∀ H, buildSliceA Try.prog 22 0 [] H = some (.slice (some ⟨H.length, 0, none⟩) 0 0, H ++ [.cells [] 81 false])) ∧
    (∀ H a b, buildSliceA Try.prog 22 1 [(0, .agg (List.toArray [a, b]))] H = some (.slice (some ⟨H.length, 0, none⟩) 1 1, H ++ [.cells [a, b] 81 false])) ∧
    (∀ (p : Addr) (n c : Nat) (k : IntKind) {i : Int}, 0 ≤ i → i < (n : Int) → indexAddrA Try.prog 22 (.slice (some p) n c) (.int k i) = some (.pointer (some ⟨p.block, p.off + 2 * i.toNat, none⟩))) ∧
    (∀ a n c m d, binA Try.prog .eql 22 (.slice a n c) (.slice none m d) = some (.bool (a.isNone))) ∧
    (∀ a n c m d, binA Try.prog .neq 22 (.slice a n c) (.slice none m d) = some (.bool (!a.isNone))) ∧
    (∀ x H, lenS Try.prog 22 x H = lenA Try.prog 22 x) ∧
    (∀ p n c, lenA Try.prog 22 (.slice p n c) = some (.int .i64 n)) ∧
    (∀ (p : Addr), fieldAddrA Try.prog 24 (.pointer (some p)) 0 = some (.pointer (some ⟨p.block, p.off, none⟩))) ∧
    (∀ (p : Addr), fieldAddrA Try.prog 24 (.pointer (some p)) 1 = some (.pointer (some ⟨p.block, p.off + 1, none⟩))) ∧
    (∀ p H, loadA Try.prog 26 (.pointer (some p)) H = cellA H p.block p.off) ∧
    (∀ (p : Addr) (n c : Nat) (k : IntKind) {i : Int}, 0 ≤ i → i < (n : Int) → indexAddrA Try.prog 26 (.slice (some p) n c) (.int k i) = some (.pointer (some ⟨p.block, p.off + i.toNat, none⟩))) ∧
    (∀ H, buildSliceA Try.prog 26 0 [] H = some (.slice (some ⟨H.length, 0, none⟩) 0 0, H ++ [.cells [] 38 false])) ∧
    (∀ H p0 n0 c0, buildSliceA Try.prog 26 1 [(0, (.slice p0 n0 c0))] H = some (.slice (some ⟨H.length, 0, none⟩) 1 1, H ++ [.cells [(.slice p0 n0 c0)] 38 false])) ∧
    (∀ H p0 n0 c0 p1 n1 c1, buildSliceA Try.prog 26 2 [(0, (.slice p0 n0 c0)), (1, (.slice p1 n1 c1))] H = some (.slice (some ⟨H.length, 0, none⟩) 2 2, H ++ [.cells [(.slice p0 n0 c0), (.slice p1 n1 c1)] 38 false])) ∧
    (∀ H p0 n0 c0 p1 n1 c1 p2 n2 c2, buildSliceA Try.prog 26 3 [(0, (.slice p0 n0 c0)), (1, (.slice p1 n1 c1)), (2, (.slice p2 n2 c2))] H = some (.slice (some ⟨H.length, 0, none⟩) 3 3, H ++ [.cells [(.slice p0 n0 c0), (.slice p1 n1 c1), (.slice p2 n2 c2)] 38 false])) ∧
    (∀ a n c m d, binA Try.prog .eql 26 (.slice a n c) (.slice none m d) = some (.bool (a.isNone))) ∧
    (∀ a n c m d, binA Try.prog .neq 26 (.slice a n c) (.slice none m d) = some (.bool (!a.isNone))) ∧
    (∀ x H, lenS Try.prog 26 x H = lenA Try.prog 26 x) ∧
    (∀ p n c, lenA Try.prog 26 (.slice p n c) = some (.int .i64 n)) ∧
    (∀ (p : Addr), fieldAddrA Try.prog 28 (.pointer (some p)) 0 = some (.pointer (some ⟨p.block, p.off, none⟩))) ∧
    (∀ (p : Addr), fieldAddrA Try.prog 28 (.pointer (some p)) 1 = some (.pointer (some ⟨p.block, p.off + 1, none⟩))) ∧
    (∀ (p : Addr), fieldAddrA Try.prog 31 (.pointer (some p)) 0 = some (.pointer (some ⟨p.block, p.off, none⟩))) ∧
    (∀ (p : Addr), fieldAddrA Try.prog 31 (.pointer (some p)) 1 = some (.pointer (some ⟨p.block, p.off + 1, none⟩))) ∧
    (∀ p H, loadA Try.prog 32 (.pointer (some p)) H = cellA H p.block p.off) ∧
    (∀ p H, loadA Try.prog 38 (.pointer (some p)) H = cellA H p.block p.off) ∧
    (∀ (p : Addr) (n c : Nat) (k : IntKind) {i : Int}, 0 ≤ i → i < (n : Int) → indexAddrA Try.prog 38 (.slice (some p) n c) (.int k i) = some (.pointer (some ⟨p.block, p.off + i.toNat, none⟩))) ∧
    (∀ H, buildSliceA Try.prog 38 0 [] H = some (.slice (some ⟨H.length, 0, none⟩) 0 0, H ++ [.cells [] 3 false])) ∧
    (∀ H k0 x0, buildSliceA Try.prog 38 1 [(0, (.int k0 x0))] H = some (.slice (some ⟨H.length, 0, none⟩) 1 1, H ++ [.cells [(.int k0 x0)] 3 false])) ∧
    (∀ H k0 x0 k1 x1, buildSliceA Try.prog 38 2 [(0, (.int k0 x0)), (1, (.int k1 x1))] H = some (.slice (some ⟨H.length, 0, none⟩) 2 2, H ++ [.cells [(.int k0 x0), (.int k1 x1)] 3 false])) ∧
    (∀ H k0 x0 k1 x1 k2 x2, buildSliceA Try.prog 38 3 [(0, (.int k0 x0)), (1, (.int k1 x1)), (2, (.int k2 x2))] H = some (.slice (some ⟨H.length, 0, none⟩) 3 3, H ++ [.cells [(.int k0 x0), (.int k1 x1), (.int k2 x2)] 3 false])) ∧
    (∀ a n c m d, binA Try.prog .eql 38 (.slice a n c) (.slice none m d) = some (.bool (a.isNone))) ∧
    (∀ a n c m d, binA Try.prog .neq 38 (.slice a n c) (.slice none m d) = some (.bool (!a.isNone))) ∧
    (∀ x H, lenS Try.prog 38 x H = lenA Try.prog 38 x) ∧
    (∀ p n c, lenA Try.prog 38 (.slice p n c) = some (.int .i64 n)) ∧
    (∀ (p : Addr) (k : IntKind), indexAddrA Try.prog 81 (.pointer (some p)) (.int k 0) = some (.pointer (some ⟨p.block, p.off, none⟩))) ∧
    (∀ (p : Addr) (k : IntKind), indexAddrA Try.prog 81 (.pointer (some p)) (.int k 1) = some (.pointer (some ⟨p.block, p.off + 1, none⟩))) ∧
    (∀ p H, loadA Try.prog 85 (.pointer (some p)) H = cellA H p.block p.off) ∧
    (∀ p H, loadA Try.prog 93 (.pointer (some p)) H = cellA H p.block p.off) ∧
    (∀ p H, loadA Try.prog 95 (.pointer (some p)) H = cellA H p.block p.off) ∧
    (∀ p H, loadA Try.prog 97 (.pointer (some p)) H = cellA H p.block p.off) ∧
    (∀ p H, loadA Try.prog 98 (.pointer (some p)) H = cellA H p.block p.off) ∧
    (∀ p H, loadA Try.prog 99 (.pointer (some p)) H = cellA H p.block p.off) ∧
    (∀ p H, loadA Try.prog 103 (.pointer (some p)) H = cellA H p.block p.off) ∧
    (∀ p H, loadA Try.prog 111 (.pointer (some p)) H = cellA H p.block p.off) ∧
    (∀ p H, loadA Try.prog 122 (.pointer (some p)) H = cellA H p.block p.off) ∧
    (∀ p H, loadA Try.prog 129 (.pointer (some p)) H = cellA H p.block p.off) ∧
    (∀ p H, loadA Try.prog 133 (.pointer (some p)) H = cellA H p.block p.off) ∧
    (∀ (p : Addr) (n c : Nat) (k : IntKind) {i : Int}, 0 ≤ i → i < (n : Int) → indexAddrA Try.prog 133 (.slice (some p) n c) (.int k i) = some (.pointer (some ⟨p.block, p.off + i.toNat, none⟩))) ∧
    (∀ H, buildSliceA Try.prog 133 0 [] H = some (.slice (some ⟨H.length, 0, none⟩) 0 0, H ++ [.cells [] 3 false])) ∧
    (∀ H k0 x0, buildSliceA Try.prog 133 1 [(0, (.int k0 x0))] H = some (.slice (some ⟨H.length, 0, none⟩) 1 1, H ++ [.cells [(.int k0 x0)] 3 false])) ∧
    (∀ H k0 x0 k1 x1, buildSliceA Try.prog 133 2 [(0, (.int k0 x0)), (1, (.int k1 x1))] H = some (.slice (some ⟨H.length, 0, none⟩) 2 2, H ++ [.cells [(.int k0 x0), (.int k1 x1)] 3 false])) ∧
    (∀ H k0 x0 k1 x1 k2 x2, buildSliceA Try.prog 133 3 [(0, (.int k0 x0)), (1, (.int k1 x1)), (2, (.int k2 x2))] H = some (.slice (some ⟨H.length, 0, none⟩) 3 3, H ++ [.cells [(.int k0 x0), (.int k1 x1), (.int k2 x2)] 3 false])) ∧
    (∀ a n c m d, binA Try.prog .eql 133 (.slice a n c) (.slice none m d) = some (.bool (a.isNone))) ∧
    (∀ a n c m d, binA Try.prog .neq 133 (.slice a n c) (.slice none m d) = some (.bool (!a.isNone))) ∧
    (∀ x H, lenS Try.prog 133 x H = lenA Try.prog 133 x) ∧
    (∀ p n c, lenA Try.prog 133 (.slice p n c) = some (.int .i64 n)) ∧
    (∀ p H, loadA Try.prog 134 (.pointer (some p)) H = cellA H p.block p.off) ∧
    (∀ p H, loadA Try.prog 145 (.pointer (some p)) H = cellA H p.block p.off) ∧
    (∀ p H, loadA Try.prog 151 (.pointer (some p)) H = cellA H p.block p.off) ∧
    (∀ p H, loadA Try.prog 159 (.pointer (some p)) H = cellA H p.block p.off) ∧
    (∀ p H, loadA Try.prog 182 (.pointer (some p)) H = cellA H p.block p.off) ∧
    (∀ p H, loadA Try.prog 185 (.pointer (some p)) H = cellA H p.block p.off) ∧
    (∀ p H, loadA Try.prog 188 (.pointer (some p)) H = cellA H p.block p.off) ∧
    (∀ k n, convA Try.prog 3 5 (.int k n) = some (.int .u8 (IntKind.u8.wrap n))) ∧
    (∀ k n, convA Try.prog 3 97 (.int k n) = some (.int .u64 (IntKind.u64.wrap n))) ∧
    (∀ k n, convA Try.prog 3 98 (.int k n) = some (.int .u64 (IntKind.u64.wrap n))) ∧
    (∀ k n, convA Try.prog 3 122 (.int k n) = some (.int .u64 (IntKind.u64.wrap n))) ∧
    (∀ k n, convA Try.prog 3 182 (.int k n) = some (.int .u32 (IntKind.u32.wrap n))) ∧
    (∀ k n, convA Try.prog 5 3 (.int k n) = some (.int .i64 (IntKind.i64.wrap n))) ∧
    (∀ k n, convA Try.prog 5 97 (.int k n) = some (.int .u64 (IntKind.u64.wrap n))) ∧
    (∀ k n, convA Try.prog 5 98 (.int k n) = some (.int .u64 (IntKind.u64.wrap n))) ∧
    (∀ k n, convA Try.prog 5 122 (.int k n) = some (.int .u64 (IntKind.u64.wrap n))) ∧
    (∀ k n, convA Try.prog 5 182 (.int k n) = some (.int .u32 (IntKind.u32.wrap n))) ∧
    (∀ k n, convA Try.prog 97 3 (.int k n) = some (.int .i64 (IntKind.i64.wrap n))) ∧
    (∀ k n, convA Try.prog 97 5 (.int k n) = some (.int .u8 (IntKind.u8.wrap n))) ∧
    (∀ k n, convA Try.prog 97 98 (.int k n) = some (.int .u64 (IntKind.u64.wrap n))) ∧
    (∀ k n, convA Try.prog 97 122 (.int k n) = some (.int .u64 (IntKind.u64.wrap n))) ∧
    (∀ k n, convA Try.prog 97 182 (.int k n) = some (.int .u32 (IntKind.u32.wrap n))) ∧
    (∀ k n, convA Try.prog 98 3 (.int k n) = some (.int .i64 (IntKind.i64.wrap n))) ∧
    (∀ k n, convA Try.prog 98 5 (.int k n) = some (.int .u8 (IntKind.u8.wrap n))) ∧
    (∀ k n, convA Try.prog 98 97 (.int k n) = some (.int .u64 (IntKind.u64.wrap n))) ∧
    (∀ k n, convA Try.prog 98 122 (.int k n) = some (.int .u64 (IntKind.u64.wrap n))) ∧
    (∀ k n, convA Try.prog 98 182 (.int k n) = some (.int .u32 (IntKind.u32.wrap n))) ∧
    (∀ k n, convA Try.prog 122 3 (.int k n) = some (.int .i64 (IntKind.i64.wrap n))) ∧
    (∀ k n, convA Try.prog 122 5 (.int k n) = some (.int .u8 (IntKind.u8.wrap n))) ∧
    (∀ k n, convA Try.prog 122 97 (.int k n) = some (.int .u64 (IntKind.u64.wrap n))) ∧
    (∀ k n, convA Try.prog 122 98 (.int k n) = some (.int .u64 (IntKind.u64.wrap n))) ∧
    (∀ k n, convA Try.prog 122 182 (.int k n) = some (.int .u32 (IntKind.u32.wrap n))) ∧
    (∀ k n, convA Try.prog 182 3 (.int k n) = some (.int .i64 (IntKind.i64.wrap n))) ∧
    (∀ k n, convA Try.prog 182 5 (.int k n) = some (.int .u8 (IntKind.u8.wrap n))) ∧
    (∀ k n, convA Try.prog 182 97 (.int k n) = some (.int .u64 (IntKind.u64.wrap n))) ∧
    (∀ k n, convA Try.prog 182 98 (.int k n) = some (.int .u64 (IntKind.u64.wrap n))) ∧
    (∀ k n, convA Try.prog 182 122 (.int k n) = some (.int .u64 (IntKind.u64.wrap n))) :=
  ⟨ld_one ag3,
   ld_one ag4,
   eq_bool_eql Try.underlying4,
   eq_bool_neq Try.underlying4,
   ld_one ag5,
   ld_one ag9,
   ld_one ag22,
   bsP0 Try.underlying22 cs81 ze81 ⟨by kernel_rfl, by kernel_rfl⟩,
   bsP1 Try.underlying22 cs81 ze81,
   ix_two Try.underlying22 cs81,
   eq_nil_eql Try.underlying22,
   eq_nil_neq Try.underlying22,
   lenS_sl (by decide),
   ln_sl Try.underlying22,
   fun p => by kernel_rfl,
   fun p => by kernel_rfl,
   ld_one ag26,
   ix_one Try.underlying26 cs38,
   bs0 Try.underlying26 cs38 ze38 ⟨by kernel_rfl, by kernel_rfl⟩,
   fun H _ _ _ => bs1 Try.underlying26 cs38 ze38 ⟨by kernel_rfl, by kernel_rfl⟩ H rfl,
   fun H _ _ _ _ _ _ => bs2 Try.underlying26 cs38 ze38 ⟨by kernel_rfl, by kernel_rfl⟩ H rfl rfl,
   fun H _ _ _ _ _ _ _ _ _ => bs3 Try.underlying26 cs38 ze38 ⟨by kernel_rfl, by kernel_rfl⟩ H rfl rfl rfl,
   eq_nil_eql Try.underlying26,
   eq_nil_neq Try.underlying26,
   lenS_sl (by decide),
   ln_sl Try.underlying26,
   fun p => by kernel_rfl,
   fun p => by kernel_rfl,
   fun p => by kernel_rfl,
   fun p => by kernel_rfl,
   ld_one ag32,
   ld_one ag38,
   ix_one Try.underlying38 cs3,
   bs0 Try.underlying38 cs3 ze3 ⟨by kernel_rfl, by kernel_rfl⟩,
   fun H _ _ => bs1 Try.underlying38 cs3 ze3 ⟨by kernel_rfl, by kernel_rfl⟩ H rfl,
   fun H _ _ _ _ => bs2 Try.underlying38 cs3 ze3 ⟨by kernel_rfl, by kernel_rfl⟩ H rfl rfl,
   fun H _ _ _ _ _ _ => bs3 Try.underlying38 cs3 ze3 ⟨by kernel_rfl, by kernel_rfl⟩ H rfl rfl rfl,
   eq_nil_eql Try.underlying38,
   eq_nil_neq Try.underlying38,
   lenS_sl (by decide),
   ln_sl Try.underlying38,
   fun p k => ix_arr Try.underlying81 cs3 p k (by decide) (by decide),
   fun p k => ix_arr Try.underlying81 cs3 p k (by decide) (by decide),
   ld_one ag85,
   ld_one ag93,
   ld_one ag95,
   ld_one ag97,
   ld_one ag98,
   ld_one ag99,
   ld_one ag103,
   ld_one ag111,
   ld_one ag122,
   ld_one ag129,
   ld_one ag133,
   ix_one Try.underlying133 cs3,
   bs0 Try.underlying133 cs3 ze3 ⟨by kernel_rfl, by kernel_rfl⟩,
   fun H _ _ => bs1 Try.underlying133 cs3 ze3 ⟨by kernel_rfl, by kernel_rfl⟩ H rfl,
   fun H _ _ _ _ => bs2 Try.underlying133 cs3 ze3 ⟨by kernel_rfl, by kernel_rfl⟩ H rfl rfl,
   fun H _ _ _ _ _ _ => bs3 Try.underlying133 cs3 ze3 ⟨by kernel_rfl, by kernel_rfl⟩ H rfl rfl rfl,
   eq_nil_eql Try.underlying133,
   eq_nil_neq Try.underlying133,
   lenS_sl (by decide),
   ln_sl Try.underlying133,
   ld_one ag134,
   ld_one ag145,
   ld_one ag151,
   ld_one ag159,
   ld_one ag182,
   ld_one ag185,
   ld_one ag188,
   fun _ _ => by simp only [convA, Try.underlying3, Try.underlying5],
   fun _ _ => by simp only [convA, Try.underlying3, Try.underlying97],
   fun _ _ => by simp only [convA, Try.underlying3, Try.underlying98],
   fun _ _ => by simp only [convA, Try.underlying3, Try.underlying122],
   fun _ _ => by simp only [convA, Try.underlying3, Try.underlying182],
   fun _ _ => by simp only [convA, Try.underlying5, Try.underlying3],
   fun _ _ => by simp only [convA, Try.underlying5, Try.underlying97],
   fun _ _ => by simp only [convA, Try.underlying5, Try.underlying98],
   fun _ _ => by simp only [convA, Try.underlying5, Try.underlying122],
   fun _ _ => by simp only [convA, Try.underlying5, Try.underlying182],
   fun _ _ => by simp only [convA, Try.underlying97, Try.underlying3],
   fun _ _ => by simp only [convA, Try.underlying97, Try.underlying5],
   fun _ _ => by simp only [convA, Try.underlying97, Try.underlying98],
   fun _ _ => by simp only [convA, Try.underlying97, Try.underlying122],
   fun _ _ => by simp only [convA, Try.underlying97, Try.underlying182],
   fun _ _ => by simp only [convA, Try.underlying98, Try.underlying3],
   fun _ _ => by simp only [convA, Try.underlying98, Try.underlying5],
   fun _ _ => by simp only [convA, Try.underlying98, Try.underlying97],
   fun _ _ => by simp only [convA, Try.underlying98, Try.underlying122],
   fun _ _ => by simp only [convA, Try.underlying98, Try.underlying182],
   fun _ _ => by simp only [convA, Try.underlying122, Try.underlying3],
   fun _ _ => by simp only [convA, Try.underlying122, Try.underlying5],
   fun _ _ => by simp only [convA, Try.underlying122, Try.underlying97],
   fun _ _ => by simp only [convA, Try.underlying122, Try.underlying98],
   fun _ _ => by simp only [convA, Try.underlying122, Try.underlying182],
   fun _ _ => by simp only [convA, Try.underlying182, Try.underlying3],
   fun _ _ => by simp only [convA, Try.underlying182, Try.underlying5],
   fun _ _ => by simp only [convA, Try.underlying182, Try.underlying97],
   fun _ _ => by simp only [convA, Try.underlying182, Try.underlying98],
   fun _ _ => by simp only [convA, Try.underlying182, Try.underlying122]⟩
end Go.Proofs.Ytlfongfhbkefmaa.Ai
namespace Go.Proofs.Ytlfongfhbkefmaa.Ai
open Go
def ords171 : List (Nat × List (Nat × Bool)) := []
def cd171 : Cd := (.seq (.reg [⟨⟨some 4, Op.assign (Operand.const (Value.bool false)), none⟩, []⟩]) (.seq (.reg [⟨⟨some 5, Op.move (Operand.tmp 0), none⟩, []⟩,
  ⟨⟨some 6, Op.move (Operand.tmp 1), none⟩, []⟩,
  ⟨⟨some 7, Op.binOp BinOp.shr 98 (Operand.tmp 5) (Operand.tmp 6) 3, none⟩, []⟩,
  ⟨⟨some 8, Op.binOp BinOp.and 98 (Operand.tmp 7) (Operand.const (Value.int IntKind.u64 1)) 98, none⟩, []⟩,
  ⟨⟨some 9, Op.binOp BinOp.eql 98 (Operand.tmp 8) (Operand.const (Value.int IntKind.u64 1)) 98, none⟩, []⟩,
  ⟨⟨some 4, Op.assign (Operand.tmp 9), none⟩, []⟩]) .ret))
theorem sl171 : slim Try.f171.ntmps ords171 (Try.f171.body.getD .skip) = some cd171 := by kernel_rfl
theorem in171 {args : List Value} {H : AH} {R : Value → AH → Prop} (hl : args.length = 2) (h : ∀ (Q : Exit → Sl → AH → Prop), (∀ e s H, endA Try.prog [ResultVar.tmp 4] R e s H → Q e s H) → wpC Try.prog cd171 Q (enterA args) H) : ACalls Try.prog 171 args H R :=
  ACalls.intro (by kernel_rfl) Try.func171 rfl (by kernel_rfl) sl171 hl (of_decide_eq_true (by kernel_rfl)) (by kernel_rfl) h
end Go.Proofs.Ytlfongfhbkefmaa.Ai
namespace Go.Proofs.Ytlfongfhbkefmaa.Ai
open Go Go.RowKit
set_option linter.unusedVariables false
set_option linter.unusedSimpArgs false
theorem ofInt_nat (n : Nat) (h : n < 2 ^ 64) : (BitVec.ofInt 64 (n : Int)).toNat = n := by
  rw [BitVec.ofInt_natCast, BitVec.toNat_ofNat, Nat.mod_eq_of_lt h]
theorem and_nat (a b : Nat) (ha : a < 2 ^ 64) (hb : b < 2 ^ 64) : bitsA .and .u64 (a : Int) (b : Int) = ((a &&& b : Nat) : Int) := by
  have h : a &&& b < 2 ^ 64 := Nat.lt_of_le_of_lt Nat.and_le_left ha
  have e : (BitVec.ofInt 64 (a : Int) &&& BitVec.ofInt 64 (b : Int)).toNat = a &&& b := by rw [BitVec.toNat_and, ofInt_nat a ha, ofInt_nat b hb]
  show IntKind.u64.wrap (((BitVec.ofInt 64 (a : Int) &&& BitVec.ofInt 64 (b : Int)).toNat : Nat) : Int) = _
  rw [e, IntKind.wrap_u64]; omega
theorem or_nat (a b : Nat) (ha : a < 2 ^ 64) (hb : b < 2 ^ 64) : bitsA .or .u64 (a : Int) (b : Int) = ((a ||| b : Nat) : Int) := by
  have h : a ||| b < 2 ^ 64 := Nat.or_lt_two_pow ha hb
  have e : (BitVec.ofInt 64 (a : Int) ||| BitVec.ofInt 64 (b : Int)).toNat = a ||| b := by rw [BitVec.toNat_or, ofInt_nat a ha, ofInt_nat b hb]
  show IntKind.u64.wrap (((BitVec.ofInt 64 (a : Int) ||| BitVec.ofInt 64 (b : Int)).toNat : Nat) : Int) = _
  rw [e, IntKind.wrap_u64]; omega
theorem shr_nat (a y : Nat) (hy : y ≤ 64) : (a : Int).fdiv (2 ^ (min (y : Int).toNat 64)) = ((a / 2 ^ y : Nat) : Int) := by
  rw [Int.toNat_natCast, Nat.min_eq_left hy]
  rw [Int.fdiv_eq_ediv_of_nonneg _ (Int.le_of_lt (Int.pow_pos (by decide)))]
  norm_cast
theorem bit_and (b y : Nat) : ((b / 2 ^ y) &&& 1 = 1) ↔ b.testBit y = true := by
  rw [Nat.testBit_eq_decide_div_mod_eq, Nat.and_one_is_mod]
  simp
theorem bin_shr (P : Program) (t : TypeId) (b y : Nat) (hy : y < 64) : binA P .shr t (.int .u64 (b : Int)) (.int .i64 (y : Int)) = some (.int .u64 ((b / 2 ^ y : Nat) : Int)) := by
  have : ¬ ((y : Int) < 0) := by omega
  simp only [binA, shiftA, this, if_false, IntKind.bits]
  rw [if_pos (.inr trivial)]
  have := shr_nat b y (by omega)
  simp only [this]
theorem bin_and (P : Program) (t : TypeId) (a b : Nat) (ha : a < 2 ^ 64) (hb : b < 2 ^ 64) : binA P .and t (.int .u64 (a : Int)) (.int .u64 (b : Int)) = some (.int .u64 ((a &&& b : Nat) : Int)) := by
  simp only [binA, intA, and_nat a b ha hb]
  simp
theorem bin_or (P : Program) (t : TypeId) (a b : Nat) (ha : a < 2 ^ 64) (hb : b < 2 ^ 64) : binA P .or t (.int .u64 (a : Int)) (.int .u64 (b : Int)) = some (.int .u64 ((a ||| b : Nat) : Int)) := by
  simp only [binA, intA, or_nat a b ha hb]
  simp
theorem bin_shl (P : Program) (t : TypeId) (y : Nat) (hy : y < 64) : binA P .shl t (.int .u64 1) (.int .i64 (y : Int)) = some (.int .u64 ((2 ^ y : Nat) : Int)) := by
  have h0 : ¬ ((y : Int) < 0) := by omega
  have h1 : 2 ^ y < 2 ^ 64 := Nat.pow_lt_pow_right (by decide) hy
  have h2 : (1 : Int) * 2 ^ (min (y : Int).toNat 64) = ((2 ^ y : Nat) : Int) := by
    rw [Int.toNat_natCast, Nat.min_eq_left (by omega), Int.one_mul]; norm_cast
  have h3 : binA P .shl t (.int .u64 1) (.int .i64 (y : Int)) = some (.int .u64 (IntKind.u64.wrap ((1 : Int) * 2 ^ (min (y : Int).toNat 64)))) := by
    simp only [binA, shiftA]
    rw [if_pos (.inl trivial), if_neg h0]; rfl
  have h4 : ((2 ^ y : Nat) : Int) % 18446744073709551616 = ((2 ^ y : Nat) : Int) := by
    generalize 2 ^ y = z at h1
    omega
  rw [h3, h2, IntKind.wrap_u64, h4]
theorem div_lt (b y : Nat) (hb : b < 2 ^ 64) : b / 2 ^ y < 2 ^ 64 := Nat.lt_of_le_of_lt (Nat.div_le_self _ _) hb
theorem has_c (b y : Nat) (H : AH) (hb : b < 2 ^ 64) (hy : y < 64) : ACalls Try.prog 171 [.int .u64 (b : Int), .int .i64 (y : Int)] H fun r H' => r = .bool (b.testBit y) ∧ H = H' := by
  refine in171 rfl ?_
  intro Q hQ
  have e1 := bin_shr Try.prog 98 b y hy
  have e2 : binA Try.prog .and 98 (.int .u64 ((b / 2 ^ y : Nat) : Int)) (.int .u64 1) = some (.int .u64 (((b / 2 ^ y) &&& 1 : Nat) : Int)) := bin_and Try.prog 98 (b / 2 ^ y) 1 (div_lt b y hb) (by decide)
  simp (maxSteps := 1000000) (disch := omega) only [cd171, e1, e2, S, S1, S2, S3, S4, S5, ST, eq_self, reduceIte, reduceCtorEq, Nat.reduceEqDiff, Nat.reduceAdd]
  refine hQ _ _ _ ?_
  simp (maxSteps := 1000000) (disch := omega) only [S, S1, S2, S3, S4, S5, ST, eq_self, reduceIte, reduceCtorEq, Nat.reduceEqDiff, Nat.reduceAdd]
  have : ((((b / 2 ^ y) &&& 1 : Nat) : Int) = 1) ↔ b.testBit y = true := by
    rw [← bit_and]; omega
  simp only [this]
  simp
/-- a word that is a set of numbers below L -/
def Bits (b : Nat) (L : Nat) (s : List Int) : Prop := b < 256 ∧ ∀ z, z < L → b.testBit z = decide ((z : Int) ∈ s)
theorem Bits.or {b L y : Nat} {s : List Int} (h : Bits b L s) (hy : y < 8) : Bits (b ||| 2 ^ y) L (s ++ [(y : Int)]) := by
  refine ⟨?_, fun z hz => ?_⟩
  · have h1 : 2 ^ y < 2 ^ 8 := Nat.pow_lt_pow_right (by decide) hy
    exact Nat.or_lt_two_pow (n := 8) h.1 h1
  · rw [Nat.testBit_or, h.2 z hz, Nat.testBit_two_pow]
    have e : (y = z) ↔ ((z : Int) = y) := by omega
    by_cases hm : (z : Int) ∈ s <;> by_cases hz2 : y = z <;> simp [hm, hz2, e]
    · intro hh; exact hz2 (by omega)
theorem Bits.no {b L x y : Nat} {s : List Int} (h : Bits b L s) (hx : x < L) (hy : y < L) : (b &&& (2 ^ x ||| 2 ^ y) ≠ 0) ↔ ((x : Int) ∈ s ∨ (y : Int) ∈ s) := by
  have hbx := h.2 x hx
  have hby := h.2 y hy
  constructor
  · intro hne
    apply Decidable.byContradiction
    intro hno
    rw [not_or] at hno
    rw [decide_eq_false hno.1] at hbx
    rw [decide_eq_false hno.2] at hby
    apply hne
    apply Nat.eq_of_testBit_eq
    intro z
    rw [Nat.testBit_and, Nat.testBit_or, Nat.testBit_two_pow, Nat.testBit_two_pow, Nat.zero_testBit]
    by_cases e1 : x = z
    · subst e1; rw [hbx]; rfl
    · by_cases e2 : y = z
      · subst e2; rw [hby]; rfl
      · simp [e1, e2]
  · rintro h' h0
    rcases h' with g | g
    · rw [decide_eq_true g] at hbx
      have := congrArg (fun n => Nat.testBit n x) h0
      simp only [Nat.testBit_and, Nat.testBit_or, Nat.testBit_two_pow, Nat.zero_testBit, hbx] at this
      simp at this
    · rw [decide_eq_true g] at hby
      have := congrArg (fun n => Nat.testBit n y) h0
      simp only [Nat.testBit_and, Nat.testBit_or, Nat.testBit_two_pow, Nat.zero_testBit, hby] at this
      simp at this
theorem Bits.or2 {b L x y : Nat} {s : List Int} (h : Bits b L s) (hx : x < 8) (hy : y < 8) : Bits (b ||| (2 ^ x ||| 2 ^ y)) L (s ++ [(x : Int), (y : Int)]) := by
  rw [← Nat.or_assoc]
  have := (h.or hx).or hy
  rwa [List.append_assoc] at this
end Go.Proofs.Ytlfongfhbkefmaa.Ai
namespace Go.Proofs.Ytlfongfhbkefmaa.Ai
open Go
def ords230 : List (Nat × List (Nat × Bool)) := []
def cd230 : Cd := (.seq (.reg [⟨⟨some 2, Op.assign (Operand.const (Value.int IntKind.i64 0)), none⟩, []⟩]) (.seq (.reg [⟨⟨some 3, Op.move (Operand.tmp 0), none⟩, []⟩,
  ⟨⟨some 4, Op.binOp BinOp.shr 122 (Operand.tmp 3) (Operand.const (Value.int IntKind.u64 1)) 97, none⟩, []⟩,
  ⟨⟨some 5, Op.binOp BinOp.and 122 (Operand.tmp 4) (Operand.const (Value.int IntKind.u64 6148914691236517205)) 122, none⟩, []⟩,
  ⟨⟨some 6, Op.move (Operand.tmp 0), none⟩, []⟩,
  ⟨⟨some 7, Op.binOp BinOp.and 122 (Operand.tmp 6) (Operand.const (Value.int IntKind.u64 6148914691236517205)) 122, none⟩, []⟩,
  ⟨⟨some 8, Op.binOp BinOp.add 122 (Operand.tmp 5) (Operand.tmp 7) 122, none⟩, []⟩,
  ⟨⟨some 0, Op.assign (Operand.tmp 8), none⟩, []⟩]) (.seq (.reg [⟨⟨some 9, Op.move (Operand.tmp 0), none⟩, []⟩,
  ⟨⟨some 10, Op.binOp BinOp.shr 122 (Operand.tmp 9) (Operand.const (Value.int IntKind.u64 2)) 97, none⟩, []⟩,
  ⟨⟨some 11, Op.binOp BinOp.and 122 (Operand.tmp 10) (Operand.const (Value.int IntKind.u64 3689348814741910323)) 122, none⟩, []⟩,
  ⟨⟨some 12, Op.move (Operand.tmp 0), none⟩, []⟩,
  ⟨⟨some 13, Op.binOp BinOp.and 122 (Operand.tmp 12) (Operand.const (Value.int IntKind.u64 3689348814741910323)) 122, none⟩, []⟩,
  ⟨⟨some 14, Op.binOp BinOp.add 122 (Operand.tmp 11) (Operand.tmp 13) 122, none⟩, []⟩,
  ⟨⟨some 0, Op.assign (Operand.tmp 14), none⟩, []⟩]) (.seq (.reg [⟨⟨some 15, Op.move (Operand.tmp 0), none⟩, []⟩,
  ⟨⟨some 16, Op.binOp BinOp.shr 122 (Operand.tmp 15) (Operand.const (Value.int IntKind.u64 4)) 97, none⟩, []⟩,
  ⟨⟨some 17, Op.move (Operand.tmp 0), none⟩, []⟩,
  ⟨⟨some 18, Op.binOp BinOp.add 122 (Operand.tmp 16) (Operand.tmp 17) 122, none⟩, []⟩,
  ⟨⟨some 19, Op.binOp BinOp.and 122 (Operand.tmp 18) (Operand.const (Value.int IntKind.u64 1085102592571150095)) 122, none⟩, []⟩,
  ⟨⟨some 0, Op.assign (Operand.tmp 19), none⟩, []⟩]) (.seq (.reg [⟨⟨some 20, Op.move (Operand.tmp 0), none⟩, []⟩,
  ⟨⟨some 21, Op.move (Operand.tmp 0), none⟩, []⟩,
  ⟨⟨some 22, Op.binOp BinOp.shr 122 (Operand.tmp 21) (Operand.const (Value.int IntKind.u64 8)) 97, none⟩, []⟩,
  ⟨⟨some 23, Op.binOp BinOp.add 122 (Operand.tmp 20) (Operand.tmp 22) 122, none⟩, []⟩,
  ⟨⟨some 0, Op.assign (Operand.tmp 23), none⟩, []⟩]) (.seq (.reg [⟨⟨some 24, Op.move (Operand.tmp 0), none⟩, []⟩,
  ⟨⟨some 25, Op.move (Operand.tmp 0), none⟩, []⟩,
  ⟨⟨some 26, Op.binOp BinOp.shr 122 (Operand.tmp 25) (Operand.const (Value.int IntKind.u64 16)) 97, none⟩, []⟩,
  ⟨⟨some 27, Op.binOp BinOp.add 122 (Operand.tmp 24) (Operand.tmp 26) 122, none⟩, []⟩,
  ⟨⟨some 0, Op.assign (Operand.tmp 27), none⟩, []⟩]) (.seq (.reg [⟨⟨some 28, Op.move (Operand.tmp 0), none⟩, []⟩,
  ⟨⟨some 29, Op.move (Operand.tmp 0), none⟩, []⟩,
  ⟨⟨some 30, Op.binOp BinOp.shr 122 (Operand.tmp 29) (Operand.const (Value.int IntKind.u64 32)) 97, none⟩, []⟩,
  ⟨⟨some 31, Op.binOp BinOp.add 122 (Operand.tmp 28) (Operand.tmp 30) 122, none⟩, []⟩,
  ⟨⟨some 0, Op.assign (Operand.tmp 31), none⟩, []⟩]) (.seq (.reg [⟨⟨some 32, Op.move (Operand.tmp 0), none⟩, []⟩,
  ⟨⟨some 33, Op.convert 122 3 (Operand.tmp 32), none⟩, []⟩,
  ⟨⟨some 34, Op.binOp BinOp.and 3 (Operand.tmp 33) (Operand.const (Value.int IntKind.i64 127)) 3, none⟩, []⟩,
  ⟨⟨some 2, Op.assign (Operand.tmp 34), none⟩, []⟩]) .ret))))))))
theorem sl230 : slim Try.f230.ntmps ords230 (Try.f230.body.getD .skip) = some cd230 := by kernel_rfl
theorem in230 {args : List Value} {H : AH} {R : Value → AH → Prop} (hl : args.length = 1) (h : ∀ (Q : Exit → Sl → AH → Prop), (∀ e s H, endA Try.prog [ResultVar.tmp 2] R e s H → Q e s H) → wpC Try.prog cd230 Q (enterA args) H) : ACalls Try.prog 230 args H R :=
  ACalls.intro (by kernel_rfl) Try.func230 rfl (by kernel_rfl) sl230 hl (of_decide_eq_true (by kernel_rfl)) (by kernel_rfl) h
def ords172 : List (Nat × List (Nat × Bool)) := []
def cd172 : Cd := (.seq (.reg [⟨⟨some 2, Op.assign (Operand.const (Value.int IntKind.i64 0)), none⟩, []⟩]) (.seq (.cond (Operand.const (Value.bool false)) (.seq (.reg [⟨⟨some 3, Op.move (Operand.tmp 0), none⟩, []⟩,
  ⟨⟨some 4, Op.convert 97 182 (Operand.tmp 3), none⟩, []⟩,
  ⟨⟨some 5, Op.call { callee := (Callee.value (Operand.func 229)), args := #[(Operand.tmp 4)], argTypes := #[182] }, none⟩, []⟩,
  ⟨⟨some 2, Op.assign (Operand.tmp 5), none⟩, []⟩]) .ret) .skip) (.seq (.reg [⟨⟨some 6, Op.move (Operand.tmp 0), none⟩, []⟩,
  ⟨⟨some 7, Op.call { callee := (Callee.value (Operand.func 230)), args := #[(Operand.tmp 6)], argTypes := #[122] }, none⟩, []⟩,
  ⟨⟨some 2, Op.assign (Operand.tmp 7), none⟩, []⟩]) .ret)))
theorem sl172 : slim Try.f172.ntmps ords172 (Try.f172.body.getD .skip) = some cd172 := by kernel_rfl
theorem in172 {args : List Value} {H : AH} {R : Value → AH → Prop} (hl : args.length = 1) (h : ∀ (Q : Exit → Sl → AH → Prop), (∀ e s H, endA Try.prog [ResultVar.tmp 2] R e s H → Q e s H) → wpC Try.prog cd172 Q (enterA args) H) : ACalls Try.prog 172 args H R :=
  ACalls.intro (by kernel_rfl) Try.func172 rfl (by kernel_rfl) sl172 hl (of_decide_eq_true (by kernel_rfl)) (by kernel_rfl) h
def ords102 : List (Nat × List (Nat × Bool)) := []
def cd102 : Cd := (.seq (.reg [⟨⟨some 2, Op.assign (Operand.const (Value.int IntKind.i64 0)), none⟩, []⟩]) (.seq (.reg [⟨⟨some 3, Op.move (Operand.tmp 0), none⟩, []⟩,
  ⟨⟨some 4, Op.call { callee := (Callee.value (Operand.func 172)), args := #[(Operand.tmp 3)], argTypes := #[97] }, none⟩, []⟩,
  ⟨⟨some 2, Op.assign (Operand.tmp 4), none⟩, []⟩]) .ret))
theorem sl102 : slim Try.f102.ntmps ords102 (Try.f102.body.getD .skip) = some cd102 := by kernel_rfl
theorem in102 {args : List Value} {H : AH} {R : Value → AH → Prop} (hl : args.length = 1) (h : ∀ (Q : Exit → Sl → AH → Prop), (∀ e s H, endA Try.prog [ResultVar.tmp 2] R e s H → Q e s H) → wpC Try.prog cd102 Q (enterA args) H) : ACalls Try.prog 102 args H R :=
  ACalls.intro (by kernel_rfl) Try.func102 rfl (by kernel_rfl) sl102 hl (of_decide_eq_true (by kernel_rfl)) (by kernel_rfl) h
end Go.Proofs.Ytlfongfhbkefmaa.Ai
namespace Go.Proofs.Ytlfongfhbkefmaa.Ai
open Go Go.RowKit
set_option linter.unusedVariables false
set_option linter.unusedSimpArgs false
/-- counting ones by parts -/
def pc1 (b : Nat) : Nat := ((b / 2 ^ 1) &&& 6148914691236517205) + (b &&& 6148914691236517205)
def pc2 (b : Nat) : Nat := ((b / 2 ^ 2) &&& 3689348814741910323) + (b &&& 3689348814741910323)
def pc3 (b : Nat) : Nat := (b / 2 ^ 4 + b) &&& 1085102592571150095
def pcS8 (b : Nat) : Nat := b + b / 2 ^ 8
def pcS16 (b : Nat) : Nat := b + b / 2 ^ 16
def pcS32 (b : Nat) : Nat := b + b / 2 ^ 32
def popc (b : Nat) : Nat := pcS32 (pcS16 (pcS8 (pc3 (pc2 (pc1 b))))) &&& 127
theorem pc1_le (b : Nat) : pc1 b ≤ 12297829382473034410 := by
  unfold pc1
  have h1 : (b / 2 ^ 1) &&& 6148914691236517205 ≤ 6148914691236517205 := Nat.and_le_right
  have h2 : b &&& 6148914691236517205 ≤ 6148914691236517205 := Nat.and_le_right
  omega
theorem pc2_le (b : Nat) : pc2 b ≤ 7378697629483820646 := by
  unfold pc2
  have h1 : (b / 2 ^ 2) &&& 3689348814741910323 ≤ 3689348814741910323 := Nat.and_le_right
  have h2 : b &&& 3689348814741910323 ≤ 3689348814741910323 := Nat.and_le_right
  omega
theorem pc3_le (b : Nat) : pc3 b ≤ 1085102592571150095 := by unfold pc3; exact Nat.and_le_right
theorem bin_shrU (P : Program) (t : TypeId) (b y : Nat) (hy : y < 64) : binA P .shr t (.int .u64 (b : Int)) (.int .u64 (y : Int)) = some (.int .u64 ((b / 2 ^ y : Nat) : Int)) := by
  have : ¬ ((y : Int) < 0) := by omega
  simp only [binA, shiftA, this, if_false, IntKind.bits]
  rw [if_pos (.inr trivial)]
  have := shr_nat b y (by omega)
  simp only [this]
theorem bin_addU (P : Program) (t : TypeId) (a b : Nat) (h : a + b < 2 ^ 64) : binA P .add t (.int .u64 (a : Int)) (.int .u64 (b : Int)) = some (.int .u64 ((a + b : Nat) : Int)) := by
  have e : IntKind.u64.wrap ((a : Int) + (b : Int)) = ((a + b : Nat) : Int) := by rw [IntKind.wrap_u64]; omega
  simp only [binA, intA, e]
  simp
theorem bin_and127 (P : Program) (t : TypeId) (a : Nat) (ha : a < 2 ^ 63) : binA P .and t (.int .i64 (a : Int)) (.int .i64 127) = some (.int .i64 ((a &&& 127 : Nat) : Int)) := by
  have e : bitsA .and .i64 (a : Int) 127 = ((a &&& 127 : Nat) : Int) := by
    have h : a &&& 127 ≤ 127 := Nat.and_le_right
    have e : (BitVec.ofInt 64 (a : Int) &&& BitVec.ofInt 64 ((127 : Nat) : Int)).toNat = a &&& 127 := by rw [BitVec.toNat_and, ofInt_nat a (by omega), ofInt_nat 127 (by decide)]
    show IntKind.i64.wrap (((BitVec.ofInt 64 (a : Int) &&& BitVec.ofInt 64 ((127 : Nat) : Int)).toNat : Nat) : Int) = _
    rw [e, wrap64 (by omega) (by omega)]
  simp only [binA, intA, e]
  simp
set_option maxRecDepth 20000 in
set_option maxHeartbeats 2000000 in
theorem Ones64_c (b : Nat) (H : AH) (hb : b < 2 ^ 64) : ACalls Try.prog 230 [.int .u64 (b : Int)] H fun r H' => r = .int .i64 ((popc b : Nat) : Int) ∧ H = H' := by
  refine in230 rfl ?_
  intro Q hQ
  have l1 := pc1_le b
  have l2 := pc2_le (pc1 b)
  have l3 := pc3_le (pc2 (pc1 b))
  have m1 : (b / 2 ^ 1) &&& 6148914691236517205 ≤ 6148914691236517205 := Nat.and_le_right
  have m2 : b &&& 6148914691236517205 ≤ 6148914691236517205 := Nat.and_le_right
  have m3 : (pc1 b / 2 ^ 2) &&& 3689348814741910323 ≤ 3689348814741910323 := Nat.and_le_right
  have m4 : pc1 b &&& 3689348814741910323 ≤ 3689348814741910323 := Nat.and_le_right
  have n8 : pcS8 (pc3 (pc2 (pc1 b))) ≤ 1085102592571150095 + 1085102592571150095 := by unfold pcS8; omega
  have n16 : pcS16 (pcS8 (pc3 (pc2 (pc1 b)))) ≤ 4 * 1085102592571150095 := by unfold pcS16; omega
  have n32 : pcS32 (pcS16 (pcS8 (pc3 (pc2 (pc1 b))))) ≤ 8 * 1085102592571150095 := by unfold pcS32; omega
  have k1 : binA Try.prog .shr 122 (.int .u64 ((b : Nat) : Int)) (.int .u64 1) = some (.int .u64 ((b / 2 ^ 1 : Nat) : Int)) := bin_shrU _ _ b 1 (by decide)
  have k2 : binA Try.prog .and 122 (.int .u64 ((b / 2 ^ 1 : Nat) : Int)) (.int .u64 6148914691236517205) = some (.int .u64 (((b / 2 ^ 1) &&& 6148914691236517205 : Nat) : Int)) := bin_and _ _ (b / 2 ^ 1) 6148914691236517205 (by omega) (by decide)
  have k3 : binA Try.prog .and 122 (.int .u64 ((b : Nat) : Int)) (.int .u64 6148914691236517205) = some (.int .u64 ((b &&& 6148914691236517205 : Nat) : Int)) := bin_and _ _ b 6148914691236517205 hb (by decide)
  have k4 : binA Try.prog .add 122 (.int .u64 (((b / 2 ^ 1) &&& 6148914691236517205 : Nat) : Int)) (.int .u64 ((b &&& 6148914691236517205 : Nat) : Int)) = some (.int .u64 ((pc1 b : Nat) : Int)) := bin_addU _ _ _ _ (by omega)
  have k5 : binA Try.prog .shr 122 (.int .u64 ((pc1 b : Nat) : Int)) (.int .u64 2) = some (.int .u64 ((pc1 b / 2 ^ 2 : Nat) : Int)) := bin_shrU _ _ (pc1 b) 2 (by decide)
  have k6 : binA Try.prog .and 122 (.int .u64 ((pc1 b / 2 ^ 2 : Nat) : Int)) (.int .u64 3689348814741910323) = some (.int .u64 (((pc1 b / 2 ^ 2) &&& 3689348814741910323 : Nat) : Int)) := bin_and _ _ (pc1 b / 2 ^ 2) 3689348814741910323 (by omega) (by decide)
  have k7 : binA Try.prog .and 122 (.int .u64 ((pc1 b : Nat) : Int)) (.int .u64 3689348814741910323) = some (.int .u64 ((pc1 b &&& 3689348814741910323 : Nat) : Int)) := bin_and _ _ (pc1 b) 3689348814741910323 (by omega) (by decide)
  have k8 : binA Try.prog .add 122 (.int .u64 (((pc1 b / 2 ^ 2) &&& 3689348814741910323 : Nat) : Int)) (.int .u64 ((pc1 b &&& 3689348814741910323 : Nat) : Int)) = some (.int .u64 ((pc2 (pc1 b) : Nat) : Int)) := bin_addU _ _ _ _ (by omega)
  have k9 : binA Try.prog .shr 122 (.int .u64 ((pc2 (pc1 b) : Nat) : Int)) (.int .u64 4) = some (.int .u64 ((pc2 (pc1 b) / 2 ^ 4 : Nat) : Int)) := bin_shrU _ _ (pc2 (pc1 b)) 4 (by decide)
  have k10 : binA Try.prog .add 122 (.int .u64 ((pc2 (pc1 b) / 2 ^ 4 : Nat) : Int)) (.int .u64 ((pc2 (pc1 b) : Nat) : Int)) = some (.int .u64 ((pc2 (pc1 b) / 2 ^ 4 + pc2 (pc1 b) : Nat) : Int)) := bin_addU _ _ _ _ (by omega)
  have k11 : binA Try.prog .and 122 (.int .u64 ((pc2 (pc1 b) / 2 ^ 4 + pc2 (pc1 b) : Nat) : Int)) (.int .u64 1085102592571150095) = some (.int .u64 ((pc3 (pc2 (pc1 b)) : Nat) : Int)) := bin_and _ _ (pc2 (pc1 b) / 2 ^ 4 + pc2 (pc1 b)) 1085102592571150095 (by omega) (by decide)
  have k12 : binA Try.prog .shr 122 (.int .u64 ((pc3 (pc2 (pc1 b)) : Nat) : Int)) (.int .u64 8) = some (.int .u64 ((pc3 (pc2 (pc1 b)) / 2 ^ 8 : Nat) : Int)) := bin_shrU _ _ (pc3 (pc2 (pc1 b))) 8 (by decide)
  have k13 : binA Try.prog .add 122 (.int .u64 ((pc3 (pc2 (pc1 b)) : Nat) : Int)) (.int .u64 ((pc3 (pc2 (pc1 b)) / 2 ^ 8 : Nat) : Int)) = some (.int .u64 ((pcS8 (pc3 (pc2 (pc1 b))) : Nat) : Int)) := bin_addU _ _ _ _ (by omega)
  have k14 : binA Try.prog .shr 122 (.int .u64 ((pcS8 (pc3 (pc2 (pc1 b))) : Nat) : Int)) (.int .u64 16) = some (.int .u64 ((pcS8 (pc3 (pc2 (pc1 b))) / 2 ^ 16 : Nat) : Int)) := bin_shrU _ _ (pcS8 (pc3 (pc2 (pc1 b)))) 16 (by decide)
  have k15 : binA Try.prog .add 122 (.int .u64 ((pcS8 (pc3 (pc2 (pc1 b))) : Nat) : Int)) (.int .u64 ((pcS8 (pc3 (pc2 (pc1 b))) / 2 ^ 16 : Nat) : Int)) = some (.int .u64 ((pcS16 (pcS8 (pc3 (pc2 (pc1 b)))) : Nat) : Int)) := bin_addU _ _ _ _ (by omega)
  have k16 : binA Try.prog .shr 122 (.int .u64 ((pcS16 (pcS8 (pc3 (pc2 (pc1 b)))) : Nat) : Int)) (.int .u64 32) = some (.int .u64 ((pcS16 (pcS8 (pc3 (pc2 (pc1 b)))) / 2 ^ 32 : Nat) : Int)) := bin_shrU _ _ (pcS16 (pcS8 (pc3 (pc2 (pc1 b))))) 32 (by decide)
  have k17 : binA Try.prog .add 122 (.int .u64 ((pcS16 (pcS8 (pc3 (pc2 (pc1 b)))) : Nat) : Int)) (.int .u64 ((pcS16 (pcS8 (pc3 (pc2 (pc1 b)))) / 2 ^ 32 : Nat) : Int)) = some (.int .u64 ((pcS32 (pcS16 (pcS8 (pc3 (pc2 (pc1 b))))) : Nat) : Int)) := bin_addU _ _ _ _ (by omega)
  have c1 : convA Try.prog 122 3 (.int .u64 ((pcS32 (pcS16 (pcS8 (pc3 (pc2 (pc1 b))))) : Nat) : Int)) = some (.int .i64 ((pcS32 (pcS16 (pcS8 (pc3 (pc2 (pc1 b))))) : Nat) : Int)) := by
    simp only [convA, Try.underlying122, Try.underlying3]
    rw [wrap64 (by omega) (by omega)]
  have c2 := bin_and127 Try.prog 3 (pcS32 (pcS16 (pcS8 (pc3 (pc2 (pc1 b)))))) (by omega)
  simp (maxSteps := 1000000) (disch := omega) only [cd230, k1, k2, k3, k4, k5, k6, k7, k8, k9, k10, k11, k12, k13, k14, k15, k16, k17, c1, c2, S, S1, S2, S3, S4, S5, ST, eq_self, reduceIte, reduceCtorEq, Nat.reduceEqDiff, Nat.reduceAdd]
  refine hQ _ _ _ ?_
  simp (maxSteps := 1000000) (disch := omega) only [S, S1, S2, S3, S4, S5, ST, eq_self, reduceIte, reduceCtorEq, Nat.reduceEqDiff, Nat.reduceAdd]
  rfl
theorem Ones_c (b : Nat) (H : AH) (hb : b < 2 ^ 64) : ACalls Try.prog 172 [.int .u64 (b : Int)] H fun r H' => r = .int .i64 ((popc b : Nat) : Int) ∧ H = H' := by
  refine in172 rfl ?_
  intro Q hQ
  simp (maxSteps := 1000000) (disch := omega) only [cd172, S, S1, S2, S3, S4, S5, ST, eq_self, reduceIte, reduceCtorEq, Nat.reduceEqDiff, Nat.reduceAdd]
  refine CallH.by (Ones64_c b H hb) ?_
  rintro _ _ ⟨rfl, rfl⟩
  simp (maxSteps := 1000000) (disch := omega) only [S, S1, S2, S3, S4, S5, ST, eq_self, reduceIte, reduceCtorEq, Nat.reduceEqDiff, Nat.reduceAdd]
  refine hQ _ _ _ ?_
  simp (maxSteps := 1000000) (disch := omega) only [S, S1, S2, S3, S4, S5, ST, eq_self, reduceIte, reduceCtorEq, Nat.reduceEqDiff, Nat.reduceAdd]
theorem size_c (b : Nat) (H : AH) (hb : b < 2 ^ 64) : ACalls Try.prog 102 [.int .u64 (b : Int)] H fun r H' => r = .int .i64 ((popc b : Nat) : Int) ∧ H = H' := by
  refine in102 rfl ?_
  intro Q hQ
  simp (maxSteps := 1000000) (disch := omega) only [cd102, S, S1, S2, S3, S4, S5, ST, eq_self, reduceIte, reduceCtorEq, Nat.reduceEqDiff, Nat.reduceAdd]
  refine CallH.by (Ones_c b H hb) ?_
  rintro _ _ ⟨rfl, rfl⟩
  simp (maxSteps := 1000000) (disch := omega) only [S, S1, S2, S3, S4, S5, ST, eq_self, reduceIte, reduceCtorEq, Nat.reduceEqDiff, Nat.reduceAdd]
  refine hQ _ _ _ ?_
  simp (maxSteps := 1000000) (disch := omega) only [S, S1, S2, S3, S4, S5, ST, eq_self, reduceIte, reduceCtorEq, Nat.reduceEqDiff, Nat.reduceAdd]
end Go.Proofs.Ytlfongfhbkefmaa.Ai
namespace Go.Proofs.Ytlfongfhbkefmaa.Ai
open Go Go.RowKit
set_option linter.unusedVariables false
set_option linter.unusedSimpArgs false
theorem alloc_a2 (H : AH) : allocA Try.prog 81 H = some (.pointer (some ⟨H.length, 0, none⟩), H ++ [.cells [.int .i64 0, .int .i64 0] 81 false]) := by kernel_rfl
theorem build_a2 (a b : Int) : buildA Try.prog 81 [(0, .int .i64 a), (1, .int .i64 b)] = some (.agg (List.toArray [.int .i64 a, .int .i64 b])) := by kernel_rfl
theorem store_a2 (H : AH) (vs : List Value) (hv : vs.length = 2) (a b : Value) : storeA Try.prog 81 (.pointer (some ⟨H.length, 0, none⟩)) (.agg (List.toArray [a, b])) (H ++ [.cells vs 81 false]) = some (H ++ [.cells [a, b] 81 false]) :=
  st_new rfl (by rw [cs81]; rfl) (by rw [cs81]; decide) (by rw [cs81]; exact hv)
theorem load_a2 (H : AH) (a b : Value) : loadA Try.prog 81 (.pointer (some ⟨H.length, 0, none⟩)) (H ++ [.cells [a, b] 81 false]) = some (.agg (List.toArray [a, b])) := by
  simp only [loadA, at_new, ag81, cs81]
  rfl
theorem end_cell (P : Program) (a : Nat) (t : TypeId) (R : Value → AH → Prop) (s : Sl) (H : AH) (v : Value) (h : loadA P t (s a) H = some v) (ht : isTup v = false) (hr : R v H) : endA P [.cell a t] R .ret s H := by
  simp only [endA, resA, h, ht]
  simp [outA]
  exact hr
theorem box_a2 (H : AH) (x y : Value) : boxA Try.prog 81 (.agg (List.toArray [x, y])) H = some (.pointer (some ⟨H.length, 0, none⟩), H ++ [.cells [x, y] 81 false]) := by kernel_rfl
theorem st_a2 {H : AH} {o : Nat} {vs : List Value} {e : TypeId} (ho : H[o]? = some (.cells vs e false)) (hv : vs.length = 2) (a b : Value) : storeA Try.prog 81 (.pointer (some ⟨o, 0, none⟩)) (.agg (List.toArray [a, b])) H = some (H.set o (.cells [a, b] e false)) := by
  simp only [storeA, ho, cs81]
  have hcl : (Value.agg (List.toArray [a, b])).cells.toList = [a, b] := rfl
  rw [hcl, if_pos ⟨rfl, rfl, by decide, by rw [hv]; exact Nat.le_refl 2⟩]
  have : putAt vs 0 [a, b] = [a, b] := by
    unfold putAt
    rw [List.take_zero, List.nil_append, List.drop_of_length_le (by simp; omega), List.append_nil]
  rw [this]
theorem ld_a2 {H : AH} {o : Nat} {a b : Value} {e : TypeId} {ro : Bool} (ho : H[o]? = some (.cells [a, b] e ro)) : loadA Try.prog 81 (.pointer (some ⟨o, 0, none⟩)) H = some (.agg (List.toArray [a, b])) :=
  ld_two ag81 cs81 (by rw [cell_of ho]; rfl) (by rw [cell_of ho]; rfl)
end Go.Proofs.Ytlfongfhbkefmaa.Ai
namespace Go.Proofs.Ytlfongfhbkefmaa.Ai
open Go
def ords65 : List (Nat × List (Nat × Bool)) := []
def cd65 : Cd := (.seq (.reg [⟨⟨some 4, Op.assign (Operand.const (Value.int IntKind.i64 0)), none⟩, []⟩]) (.seq (.reg [⟨⟨some 5, Op.move (Operand.tmp 1), none⟩, []⟩,
  ⟨⟨some 6, Op.move (Operand.tmp 0), none⟩, []⟩,
  ⟨⟨some 7, Op.call { callee := (Callee.builtin Builtin.len), args := #[(Operand.tmp 6)], argTypes := #[22] }, none⟩, []⟩,
  ⟨⟨some 8, Op.binOp BinOp.sub 3 (Operand.tmp 5) (Operand.tmp 7) 3, none⟩, []⟩,
  ⟨⟨some 1, Op.assign (Operand.tmp 8), none⟩, []⟩]) (.seq (.seq (.reg [⟨⟨some 9, Op.move (Operand.tmp 1), none⟩, []⟩,
  ⟨⟨some 10, Op.binOp BinOp.lss 3 (Operand.tmp 9) (Operand.const (Value.int IntKind.i64 0)) 3, none⟩, []⟩]) (.cond (Operand.tmp 10) (.seq (.reg [⟨⟨some 4, Op.assign (Operand.const (Value.int IntKind.i64 (-1))), none⟩, []⟩]) .ret) .skip)) (.seq (.reg [⟨⟨some 11, Op.move (Operand.tmp 1), none⟩, []⟩,
  ⟨⟨some 4, Op.assign (Operand.tmp 11), none⟩, []⟩]) .ret))))
theorem sl65 : slim Try.f65.ntmps ords65 (Try.f65.body.getD .skip) = some cd65 := by kernel_rfl
theorem in65 {args : List Value} {H : AH} {R : Value → AH → Prop} (hl : args.length = 2) (h : ∀ (Q : Exit → Sl → AH → Prop), (∀ e s H, endA Try.prog [ResultVar.tmp 4] R e s H → Q e s H) → wpC Try.prog cd65 Q (enterA args) H) : ACalls Try.prog 65 args H R :=
  ACalls.intro (by kernel_rfl) Try.func65 rfl (by kernel_rfl) sl65 hl (of_decide_eq_true (by kernel_rfl)) (by kernel_rfl) h
def ords152 : List (Nat × List (Nat × Bool)) := []
def cd152 : Cd := (.seq (.reg [⟨⟨some 1, Op.box 81 (Operand.tmp 0), none⟩, []⟩,
  ⟨⟨some 2, Op.alloc 81, none⟩, []⟩]) (.seq (.reg [⟨⟨some 3, Op.alloc 81, none⟩, []⟩]) (.seq (.seq (.reg [⟨⟨some 4, Op.assign (Operand.const (Value.int IntKind.i64 0)), none⟩, []⟩]) (.block 0 (.loop (.seq (.seq (.reg [⟨⟨some 5, Op.move (Operand.tmp 4), none⟩, []⟩,
  ⟨⟨some 6, Op.binOp BinOp.lss 3 (Operand.tmp 5) (Operand.const (Value.int IntKind.i64 2)) 3, none⟩, []⟩]) (.cond (Operand.tmp 6) .skip (.exit 0))) (.seq (.block 1 (.reg [⟨⟨some 9, Op.move (Operand.tmp 4), none⟩, []⟩,
  ⟨⟨some 10, Op.move (Operand.tmp 4), none⟩, []⟩,
  ⟨⟨some 11, Op.indexAddr 81 (Operand.tmp 1) (Operand.tmp 10), none⟩, []⟩,
  ⟨⟨some 12, Op.load 3 (Operand.tmp 11), none⟩, []⟩,
  ⟨⟨some 13, Op.indexAddr 81 (Operand.tmp 3) (Operand.tmp 9), none⟩, []⟩,
  ⟨⟨none, Op.store 3 (Operand.tmp 13) (Operand.tmp 12), none⟩, []⟩])) (.reg [⟨⟨some 7, Op.move (Operand.tmp 4), none⟩, []⟩,
  ⟨⟨some 8, Op.binOp BinOp.add 3 (Operand.tmp 7) (Operand.const (Value.int IntKind.i64 1)) 3, none⟩, []⟩,
  ⟨⟨some 4, Op.assign (Operand.tmp 8), none⟩, []⟩])))))) (.seq (.reg [⟨⟨some 14, Op.load 81 (Operand.tmp 3), none⟩, []⟩,
  ⟨⟨none, Op.store 81 (Operand.tmp 2) (Operand.tmp 14), none⟩, []⟩]) .ret))))
theorem sl152 : slim Try.f152.ntmps ords152 (Try.f152.body.getD .skip) = some cd152 := by kernel_rfl
set_option maxRecDepth 20000 in
theorem in152 {args : List Value} {H : AH} {R : Value → AH → Prop} (hl : args.length = 1) (h : ∀ (Q : Exit → Sl → AH → Prop), (∀ e s H, endA Try.prog [ResultVar.cell 2 81] R e s H → Q e s H) → wpC Try.prog cd152 Q (enterA args) H) : ACalls Try.prog 152 args H R :=
  ACalls.intro (by kernel_rfl) Try.func152 rfl (by kernel_rfl) sl152 hl (of_decide_eq_true (by kernel_rfl)) (by kernel_rfl) h
def ords70 : List (Nat × List (Nat × Bool)) := []
def cd70 : Cd := (.seq (.reg [⟨⟨some 2, Op.assign (Operand.const (Value.slice none 0 0)), none⟩, []⟩]) (.seq (.reg [⟨⟨some 5, Op.move (Operand.tmp 0), none⟩, []⟩,
  ⟨⟨some 6, Op.call { callee := (Callee.builtin Builtin.len), args := #[(Operand.tmp 5)], argTypes := #[22] }, none⟩, []⟩,
  ⟨⟨some 7, Op.makeSlice 22 (Operand.tmp 6) (Operand.tmp 6), none⟩, []⟩,
  ⟨⟨some 3, Op.assign (Operand.tmp 7), none⟩, []⟩]) (.seq (.seq (.reg [⟨⟨some 4, Op.assign (Operand.const (Value.int IntKind.i64 0)), none⟩, []⟩]) (.block 0 (.loop (.seq (.seq (.reg [⟨⟨some 8, Op.move (Operand.tmp 4), none⟩, []⟩,
  ⟨⟨some 9, Op.move (Operand.tmp 0), none⟩, []⟩,
  ⟨⟨some 10, Op.call { callee := (Callee.builtin Builtin.len), args := #[(Operand.tmp 9)], argTypes := #[22] }, none⟩, []⟩,
  ⟨⟨some 11, Op.binOp BinOp.lss 3 (Operand.tmp 8) (Operand.tmp 10) 3, none⟩, []⟩]) (.cond (Operand.tmp 11) .skip (.exit 0))) (.seq (.block 1 (.reg [⟨⟨some 14, Op.move (Operand.tmp 3), none⟩, []⟩,
  ⟨⟨some 15, Op.move (Operand.tmp 4), none⟩, []⟩,
  ⟨⟨some 16, Op.move (Operand.tmp 0), none⟩, []⟩,
  ⟨⟨some 17, Op.move (Operand.tmp 4), none⟩, []⟩,
  ⟨⟨some 18, Op.indexAddr 22 (Operand.tmp 16) (Operand.tmp 17), none⟩, []⟩,
  ⟨⟨some 19, Op.load 81 (Operand.tmp 18), none⟩, []⟩,
  ⟨⟨some 20, Op.call { callee := (Callee.value (Operand.func 152)), args := #[(Operand.tmp 19)], argTypes := #[81] }, none⟩, []⟩,
  ⟨⟨some 21, Op.indexAddr 22 (Operand.tmp 14) (Operand.tmp 15), none⟩, []⟩,
  ⟨⟨none, Op.store 81 (Operand.tmp 21) (Operand.tmp 20), none⟩, []⟩])) (.reg [⟨⟨some 12, Op.move (Operand.tmp 4), none⟩, []⟩,
  ⟨⟨some 13, Op.binOp BinOp.add 3 (Operand.tmp 12) (Operand.const (Value.int IntKind.i64 1)) 3, none⟩, []⟩,
  ⟨⟨some 4, Op.assign (Operand.tmp 13), none⟩, []⟩])))))) (.seq (.reg [⟨⟨some 22, Op.move (Operand.tmp 3), none⟩, []⟩,
  ⟨⟨some 2, Op.assign (Operand.tmp 22), none⟩, []⟩]) .ret))))
theorem sl70 : slim Try.f70.ntmps ords70 (Try.f70.body.getD .skip) = some cd70 := by kernel_rfl
theorem in70 {args : List Value} {H : AH} {R : Value → AH → Prop} (hl : args.length = 1) (h : ∀ (Q : Exit → Sl → AH → Prop), (∀ e s H, endA Try.prog [ResultVar.tmp 2] R e s H → Q e s H) → wpC Try.prog cd70 Q (enterA args) H) : ACalls Try.prog 70 args H R :=
  ACalls.intro (by kernel_rfl) Try.func70 rfl (by kernel_rfl) sl70 hl (of_decide_eq_true (by kernel_rfl)) (by kernel_rfl) h
def ords159 : List (Nat × List (Nat × Bool)) := [(4, [(0, false), (1, false), (2, false), (3, false), (4, false), (5, false), (6, false)])]
def cd159 : Cd := (.seq (.reg [⟨⟨some 2, Op.box 81 (Operand.tmp 0), none⟩, []⟩,
  ⟨⟨some 3, Op.box 81 (Operand.tmp 1), none⟩, []⟩,
  ⟨⟨some 4, Op.assign (Operand.const (Value.bool false)), none⟩, []⟩]) (.seq (.seq (.reg [⟨⟨some 5, Op.assign (Operand.const (Value.int IntKind.i64 0)), none⟩, []⟩]) (.block 0 (.loop (.seq (.seq (.reg [⟨⟨some 6, Op.move (Operand.tmp 5), none⟩, []⟩,
  ⟨⟨some 7, Op.binOp BinOp.lss 3 (Operand.tmp 6) (Operand.const (Value.int IntKind.i64 2)) 3, none⟩, []⟩]) (.cond (Operand.tmp 7) .skip (.exit 0))) (.seq (.block 1 (.seq (.reg [⟨⟨some 10, Op.move (Operand.tmp 5), none⟩, []⟩,
  ⟨⟨some 11, Op.indexAddr 81 (Operand.tmp 2) (Operand.tmp 10), none⟩, []⟩,
  ⟨⟨some 12, Op.load 3 (Operand.tmp 11), none⟩, []⟩,
  ⟨⟨some 13, Op.move (Operand.tmp 5), none⟩, []⟩,
  ⟨⟨some 14, Op.indexAddr 81 (Operand.tmp 3) (Operand.tmp 13), none⟩, []⟩,
  ⟨⟨some 15, Op.load 3 (Operand.tmp 14), none⟩, []⟩,
  ⟨⟨some 16, Op.binOp BinOp.neq 3 (Operand.tmp 12) (Operand.tmp 15) 3, none⟩, []⟩]) (.cond (Operand.tmp 16) (.seq (.reg [⟨⟨some 4, Op.assign (Operand.const (Value.bool false)), none⟩, []⟩]) .ret) .skip))) (.reg [⟨⟨some 8, Op.move (Operand.tmp 5), none⟩, []⟩,
  ⟨⟨some 9, Op.binOp BinOp.add 3 (Operand.tmp 8) (Operand.const (Value.int IntKind.i64 1)) 3, none⟩, []⟩,
  ⟨⟨some 5, Op.assign (Operand.tmp 9), none⟩, []⟩])))))) (.seq (.reg [⟨⟨some 4, Op.assign (Operand.const (Value.bool true)), none⟩, []⟩]) .ret)))
theorem sl159 : slim Try.f159.ntmps ords159 (Try.f159.body.getD .skip) = some cd159 := by kernel_rfl
theorem in159 {args : List Value} {H : AH} {R : Value → AH → Prop} (hl : args.length = 2) (h : ∀ (Q : Exit → Sl → AH → Prop), (∀ e s H, endA Try.prog [ResultVar.tmp 4] R e s H → Q e s H) → wpC Try.prog cd159 Q (enterA args) H) : ACalls Try.prog 159 args H R :=
  ACalls.intro (by kernel_rfl) Try.func159 rfl (by kernel_rfl) sl159 hl (of_decide_eq_true (by kernel_rfl)) (by kernel_rfl) h
def ords77 : List (Nat × List (Nat × Bool)) := [(6, [(0, false), (1, false), (2, false), (3, false), (4, false), (5, false), (6, false), (7, false), (8, true), (9, false)])]
def cd77 : Cd := (.seq (.reg [⟨⟨some 4, Op.assign (Operand.const (Value.bool false)), none⟩, []⟩]) (.seq (.seq (.reg [⟨⟨some 6, Op.move (Operand.tmp 0), none⟩, []⟩,
  ⟨⟨some 7, Op.call { callee := (Callee.builtin Builtin.len), args := #[(Operand.tmp 6)], argTypes := #[22] }, none⟩, []⟩,
  ⟨⟨some 8, Op.move (Operand.tmp 1), none⟩, []⟩,
  ⟨⟨some 9, Op.call { callee := (Callee.builtin Builtin.len), args := #[(Operand.tmp 8)], argTypes := #[22] }, none⟩, []⟩,
  ⟨⟨some 10, Op.binOp BinOp.neq 3 (Operand.tmp 7) (Operand.tmp 9) 3, none⟩, []⟩]) (.cond (Operand.tmp 10) (.seq (.reg [⟨⟨some 4, Op.assign (Operand.const (Value.bool false)), none⟩, []⟩]) .ret) .skip)) (.seq (.seq (.reg [⟨⟨some 5, Op.assign (Operand.const (Value.int IntKind.i64 0)), none⟩, []⟩]) (.block 0 (.loop (.seq (.seq (.reg [⟨⟨some 11, Op.move (Operand.tmp 5), none⟩, []⟩,
  ⟨⟨some 12, Op.move (Operand.tmp 0), none⟩, []⟩,
  ⟨⟨some 13, Op.call { callee := (Callee.builtin Builtin.len), args := #[(Operand.tmp 12)], argTypes := #[22] }, none⟩, []⟩,
  ⟨⟨some 14, Op.binOp BinOp.lss 3 (Operand.tmp 11) (Operand.tmp 13) 3, none⟩, []⟩]) (.cond (Operand.tmp 14) .skip (.exit 0))) (.seq (.block 1 (.seq (.reg [⟨⟨some 17, Op.move (Operand.tmp 0), none⟩, []⟩,
  ⟨⟨some 18, Op.move (Operand.tmp 5), none⟩, []⟩,
  ⟨⟨some 19, Op.indexAddr 22 (Operand.tmp 17) (Operand.tmp 18), none⟩, []⟩,
  ⟨⟨some 20, Op.load 81 (Operand.tmp 19), none⟩, []⟩,
  ⟨⟨some 21, Op.move (Operand.tmp 1), none⟩, []⟩,
  ⟨⟨some 22, Op.move (Operand.tmp 5), none⟩, []⟩,
  ⟨⟨some 23, Op.indexAddr 22 (Operand.tmp 21) (Operand.tmp 22), none⟩, []⟩,
  ⟨⟨some 24, Op.load 81 (Operand.tmp 23), none⟩, []⟩,
  ⟨⟨some 25, Op.call { callee := (Callee.value (Operand.func 159)), args := #[(Operand.tmp 20), (Operand.tmp 24)], argTypes := #[81, 81] }, none⟩, []⟩,
  ⟨⟨some 26, Op.unOp UnOp.not 4 (Operand.tmp 25), none⟩, []⟩]) (.cond (Operand.tmp 26) (.seq (.reg [⟨⟨some 4, Op.assign (Operand.const (Value.bool false)), none⟩, []⟩]) .ret) .skip))) (.reg [⟨⟨some 15, Op.move (Operand.tmp 5), none⟩, []⟩,
  ⟨⟨some 16, Op.binOp BinOp.add 3 (Operand.tmp 15) (Operand.const (Value.int IntKind.i64 1)) 3, none⟩, []⟩,
  ⟨⟨some 5, Op.assign (Operand.tmp 16), none⟩, []⟩])))))) (.seq (.reg [⟨⟨some 4, Op.assign (Operand.const (Value.bool true)), none⟩, []⟩]) .ret))))
theorem sl77 : slim Try.f77.ntmps ords77 (Try.f77.body.getD .skip) = some cd77 := by kernel_rfl
theorem in77 {args : List Value} {H : AH} {R : Value → AH → Prop} (hl : args.length = 2) (h : ∀ (Q : Exit → Sl → AH → Prop), (∀ e s H, endA Try.prog [ResultVar.tmp 4] R e s H → Q e s H) → wpC Try.prog cd77 Q (enterA args) H) : ACalls Try.prog 77 args H R :=
  ACalls.intro (by kernel_rfl) Try.func77 rfl (by kernel_rfl) sl77 hl (of_decide_eq_true (by kernel_rfl)) (by kernel_rfl) h
end Go.Proofs.Ytlfongfhbkefmaa.Ai
namespace Go.Proofs.Ytlfongfhbkefmaa.Ai
open Go Go.RowKit
set_option linter.unusedVariables false
set_option linter.unusedSimpArgs false
theorem szIntA2S_c (v : Value) (ps : List (Int × Int)) (k : Int) (H : AH) (hr : RowP 81 H v ps) (hk : 0 ≤ k ∧ k ≤ 1099511627776) (hl : (ps.length : Int) ≤ 9223372036854775807) :
    ACalls Try.prog 65 [v, .int .i64 k] H fun r H' => r = .int .i64 (if k - ps.length < 0 then -1 else k - ps.length) ∧ H = H' := by
  refine in65 rfl ?_
  intro Q hQ
  simp (maxSteps := 1000000) (disch := omega) only [cd65, hr.len Try.underlying22, wrap64, S, S1, S2, S3, S4, S5, ST, eq_self, reduceIte, reduceCtorEq, Nat.reduceEqDiff, Nat.reduceAdd]
  refine brD.intro (fun g => ?_) (fun g => ?_) <;> simp (maxSteps := 1000000) (disch := omega) only [g, S, S1, S2, S3, S4, S5, ST, eq_self, reduceIte, reduceCtorEq, Nat.reduceEqDiff, Nat.reduceAdd] <;> refine hQ _ _ _ ?_ <;> simp (maxSteps := 1000000) (disch := omega) only [g, S, S1, S2, S3, S4, S5, ST, eq_self, reduceIte, reduceCtorEq, Nat.reduceEqDiff, Nat.reduceAdd]
theorem toIntA2_c (a b : Int) (H : AH) : ACalls Try.prog 152 [.agg (List.toArray [.int .i64 a, .int .i64 b])] H fun r H' => r = .agg (List.toArray [.int .i64 a, .int .i64 b]) ∧ H <+: H' := by
  refine in152 rfl ?_
  intro Q hQ
  simp (maxSteps := 1000000) (disch := omega) only [cd152, box_a2, alloc_a2, S, S1, S2, S3, S4, S5, ST, eq_self, reduceIte, reduceCtorEq, Nat.reduceEqDiff, Nat.reduceAdd]
  generalize hA : H ++ [AObj.cells [.int .i64 a, .int .i64 b] 81 false] = A
  have a0 : A[H.length]? = some (.cells (ints [a, b]) 81 false) := by rw [← hA]; exact at_new ..
  have pA : H <+: A := by rw [← hA]; exact List.prefix_append _ _
  have lA : H.length ≤ A.length := pA.length_le
  generalize hB : A ++ [AObj.cells [.int .i64 0, .int .i64 0] 81 false] = B
  have b0 : B[H.length]? = some (.cells (ints [a, b]) 81 false) := by rw [← hB]; exact at_app a0 _
  have b1 : B[A.length]? = some (.cells [.int .i64 0, .int .i64 0] 81 false) := by rw [← hB]; exact at_new ..
  have pB : H <+: B := by rw [← hB]; exact pre_app pA _
  refine LoopH.by (fun m s H' => ∃ i ys, m + i = 2 ∧ s 1 = .pointer (some ⟨H.length, 0, none⟩) ∧ s 2 = .pointer (some ⟨A.length, 0, none⟩) ∧ s 3 = .pointer (some ⟨B.length, 0, none⟩) ∧ s 4 = .int .i64 ((i : Nat) : Int) ∧ H' = B ++ [.cells (ints ys) 81 false] ∧ ys.length = 2 ∧ ys.take i = [a, b].take i) 2 ?_ ?_
  · exact ⟨0, [0, 0], by simp, rfl, rfl, rfl, rfl, rfl, rfl, rfl⟩
  · rintro m s H' ⟨i, ys, hm, h1, h2, h3, h4, rfl, hl, ht⟩
    have hc0 : (B ++ [AObj.cells (ints ys) 81 false])[H.length]? = some (.cells (ints [a, b]) 81 false) := at_app b0 _
    have hc1 : (B ++ [AObj.cells (ints ys) 81 false])[A.length]? = some (.cells [.int .i64 0, .int .i64 0] 81 false) := at_app b1 _
    have hc := at_new B (.cells (ints ys) 81 false)
    simp (maxSteps := 1000000) (disch := omega) only [h1, h2, h3, h4, S, S1, S2, S3, S4, S5, ST, eq_self, reduceIte, reduceCtorEq, Nat.reduceEqDiff, Nat.reduceAdd]
    refine brD.intro (fun g => ?_) (fun g => ?_)
    · have hi : i < 2 := by omega
      have hi2 : i < [a, b].length := hi
      simp (maxSteps := 1000000) (disch := omega) only [h1, h2, h3, h4, ixa81, Int.toNat_natCast, Nat.zero_add, cell_ints hc0 hi2, st_ints cs3 hc, set_new, wrap64, S, S1, S2, S3, S4, S5, ST, eq_self, reduceIte, reduceCtorEq, Nat.reduceEqDiff, Nat.reduceAdd]
      have e1 : (ys.set i ([a, b].getD i 0)).take (i + 1) = [a, b].take (i + 1) := by
        rw [List.take_add_one, List.take_add_one, List.getElem?_set_self (by omega), List.getElem?_eq_getElem hi2, ← ht]
        congr 1
        · rw [List.take_set, List.set_eq_of_length_le (by simp; omega)]
        · simp [hi]
      refine ⟨m - 1, by omega, i + 1, ys.set i ([a, b].getD i 0), ?_⟩
      (repeat' apply And.intro) <;> first | exact e1 | (simp only [Value.int.injEq, true_and]; omega) | omega | rfl | assumption | (simp; done) | (simp; omega)
    · have hy : ys = [a, b] := by
        have : i = 2 := by omega
        subst this
        rw [List.take_of_length_le (by omega)] at ht
        exact ht
      subst hy
      simp (maxSteps := 1000000) (disch := omega) only [h1, h2, h3, h4, ld_a2 hc, st_a2 hc1 rfl, S, S1, S2, S3, S4, S5, ST, eq_self, reduceIte, reduceCtorEq, Nat.reduceEqDiff, Nat.reduceAdd]
      refine hQ _ _ _ (end_cell _ _ _ _ _ _ (.agg (List.toArray [.int .i64 a, .int .i64 b])) ?_ rfl ⟨rfl, ?_⟩)
      · simp (maxSteps := 1000000) (disch := omega) only [h2, S, S1, S2, S3, S4, S5, ST, eq_self, reduceIte, reduceCtorEq, Nat.reduceEqDiff, Nat.reduceAdd]
        exact ld_a2 (at_set hc1)
      · exact pre_set (pre_app pB _) lA _
set_option maxRecDepth 20000 in
set_option maxHeartbeats 1000000 in
theorem toIntA2S_c (v : Value) (ps : List (Int × Int)) (H : AH) (hr : RowP 81 H v ps) (hlen : ps.length ≤ 1099511627776) : ACalls Try.prog 70 [v] H fun r H' => MineP 81 H H' r ps ∧ H <+: H' := by
  refine in70 rfl ?_
  intro Q hQ
  simp (maxSteps := 1000000) (disch := omega) only [cd70, hr.len Try.underlying22, mks22, Int.toNat_natCast, S, S1, S2, S3, S4, S5, ST, eq_self, reduceIte, reduceCtorEq, Nat.reduceEqDiff, Nat.reduceAdd]
  refine LoopH.by (fun m s H' => ∃ i qs, m + i = ps.length ∧ s 0 = v ∧ s 3 = .slice (some ⟨H.length, 0, none⟩) ps.length ps.length ∧ s 4 = .int .i64 ((i : Nat) : Int) ∧ H <+: H' ∧ H'[H.length]? = some (.cells (ints (flat qs)) 81 false) ∧ qs.length = ps.length ∧ qs.take i = ps.take i) ps.length ?_ ?_
  · exact ⟨0, List.replicate ps.length (0, 0), by simp, rfl, by simp [S, S1, S2, S3, S4, S5, ST, eq_self, reduceIte, reduceCtorEq, Nat.reduceEqDiff, Nat.reduceAdd], by simp [S, S1, S2, S3, S4, S5, ST, eq_self, reduceIte, reduceCtorEq, Nat.reduceEqDiff, Nat.reduceAdd], List.prefix_append _ _, by rw [at_new], by simp, by simp⟩
  · rintro m s H' ⟨i, qs, hm, h0, h3, h4, hp, hc, hl, ht⟩
    have hr' := hr.pre hp
    simp (maxSteps := 1000000) (disch := omega) only [h0, h3, h4, hr'.len Try.underlying22, S, S1, S2, S3, S4, S5, ST, eq_self, reduceIte, reduceCtorEq, Nat.reduceEqDiff, Nat.reduceAdd]
    refine brD.intro (fun g => ?_) (fun g => ?_)
    · have hi : i < ps.length := by omega
      have hi2 : i < qs.length := by omega
      have hg : ps.getD i (0, 0) = ps[i] := by simp [hi]
      have e1 : (qs.set i ((ps.getD i (0, 0)).1, (ps.getD i (0, 0)).2)).take (i + 1) = ps.take (i + 1) := by
        rw [List.take_add_one, List.take_add_one, List.getElem?_set_self hi2, List.getElem?_eq_getElem hi, ← ht]
        congr 1
        · rw [List.take_set, List.set_eq_of_length_le (by simp; omega)]
        · rw [hg]
      simp (maxSteps := 1000000) (disch := omega) only [h0, h3, h4, hr'.ix Try.underlying22 cs81, Int.toNat_natCast, hr'.ld ag81 cs81 hi, S, S1, S2, S3, S4, S5, ST, eq_self, reduceIte, reduceCtorEq, Nat.reduceEqDiff, Nat.reduceAdd]
      refine CallH.by (toIntA2_c (ps.getD i (0, 0)).1 (ps.getD i (0, 0)).2 H') ?_
      rintro _ H2 ⟨rfl, hp2⟩
      have hc2 := pre_at hp2 hc
      simp (maxSteps := 1000000) (disch := omega) only [h0, h3, h4, Int.toNat_natCast, st_prs cs81 hc2 hi2, wrap64, S, S1, S2, S3, S4, S5, ST, eq_self, reduceIte, reduceCtorEq, Nat.reduceEqDiff, Nat.reduceAdd]
      have hpp := pre_set (hp.trans hp2) (Nat.le_refl _) (.cells (ints (flat (qs.set i ((ps.getD i (0, 0)).1, (ps.getD i (0, 0)).2)))) 81 false)
      have hcc := at_set (d := .cells (ints (flat (qs.set i ((ps.getD i (0, 0)).1, (ps.getD i (0, 0)).2)))) 81 false) hc2
      refine ⟨m - 1, by omega, i + 1, qs.set i ((ps.getD i (0, 0)).1, (ps.getD i (0, 0)).2), ?_⟩
      (repeat' first | exact e1 | exact hpp | exact hcc | apply And.intro) <;> first | (simp only [Value.int.injEq, true_and]; omega) | omega | rfl | assumption | (simp; done) | (simp; omega)
    · simp (maxSteps := 1000000) (disch := omega) only [h3, S, S1, S2, S3, S4, S5, ST, eq_self, reduceIte, reduceCtorEq, Nat.reduceEqDiff, Nat.reduceAdd]
      refine hQ _ _ _ ?_
      simp (maxSteps := 1000000) (disch := omega) only [h3, S, S1, S2, S3, S4, S5, ST, eq_self, reduceIte, reduceCtorEq, Nat.reduceEqDiff, Nat.reduceAdd]
      rw [List.take_of_length_le (by omega), List.take_of_length_le (by omega)] at ht
      subst ht
      exact ⟨.inr ⟨H.length, _, rfl, Nat.le_refl _, hc, by rw [List.take_of_length_le (by rw [flat_len]; omega)]⟩, hp⟩
theorem eqIntA2_c (a b c d : Int) (H : AH) : ACalls Try.prog 159 [.agg (List.toArray [.int .i64 a, .int .i64 b]), .agg (List.toArray [.int .i64 c, .int .i64 d])] H fun r H' => r = .bool (decide ((a, b) = (c, d))) ∧ H <+: H' := by
  refine in159 rfl ?_
  intro Q hQ
  simp (maxSteps := 1000000) (disch := omega) only [cd159, box_a2, S, S1, S2, S3, S4, S5, ST, eq_self, reduceIte, reduceCtorEq, Nat.reduceEqDiff, Nat.reduceAdd]
  generalize hA : H ++ [AObj.cells [.int .i64 a, .int .i64 b] 81 false] = A
  have a0 : A[H.length]? = some (.cells (ints [a, b]) 81 false) := by rw [← hA]; exact at_new ..
  have pA : H <+: A := by rw [← hA]; exact List.prefix_append _ _
  generalize hB : A ++ [AObj.cells [.int .i64 c, .int .i64 d] 81 false] = B
  have b0 : B[H.length]? = some (.cells (ints [a, b]) 81 false) := by rw [← hB]; exact at_app a0 _
  have b1 : B[A.length]? = some (.cells (ints [c, d]) 81 false) := by rw [← hB]; exact at_new ..
  have pB : H <+: B := by rw [← hB]; exact pre_app pA _
  refine LoopH.by (fun m s H' => ∃ i, m + i = 2 ∧ s 2 = .pointer (some ⟨H.length, 0, none⟩) ∧ s 3 = .pointer (some ⟨A.length, 0, none⟩) ∧ s 5 = .int .i64 ((i : Nat) : Int) ∧ H' = B ∧ [a, b].take i = [c, d].take i) 2 ?_ ?_
  · exact ⟨0, by simp, rfl, rfl, rfl, rfl, rfl⟩
  · rintro m s H' ⟨i, hm, h2, h3, h5, rfl, ht⟩
    simp (maxSteps := 1000000) (disch := omega) only [h2, h3, h5, S, S1, S2, S3, S4, S5, ST, eq_self, reduceIte, reduceCtorEq, Nat.reduceEqDiff, Nat.reduceAdd]
    refine brD.intro (fun g => ?_) (fun g => ?_)
    · have hi : i < [a, b].length := by show i < 2; omega
      have hi2 : i < [c, d].length := hi
      simp (maxSteps := 1000000) (disch := omega) only [h2, h3, h5, ixa81, Int.toNat_natCast, Nat.zero_add, cell_ints b0 hi, cell_ints b1 hi2, S, S1, S2, S3, S4, S5, ST, eq_self, reduceIte, reduceCtorEq, Nat.reduceEqDiff, Nat.reduceAdd]
      refine brD.intro (fun e => ?_) (fun e => ?_) <;> simp (maxSteps := 1000000) (disch := omega) only [h2, h3, h5, wrap64, S, S1, S2, S3, S4, S5, ST, eq_self, reduceIte, reduceCtorEq, Nat.reduceEqDiff, Nat.reduceAdd]
      · refine hQ _ _ _ ?_
        simp (maxSteps := 1000000) (disch := omega) only [S, S1, S2, S3, S4, S5, ST, eq_self, reduceIte, reduceCtorEq, Nat.reduceEqDiff, Nat.reduceAdd]
        have : (a, b) ≠ (c, d) := by
          intro e'
          injection e' with e1 e2
          subst e1; subst e2
          exact e rfl
        simp [this, pB]
      · have fx : [a, b].take (i + 1) = [c, d].take (i + 1) := by
          rw [List.take_add_one, List.take_add_one, ht, List.getElem?_eq_getElem hi, List.getElem?_eq_getElem hi2]
          have e' := Decidable.not_not.1 e
          have g1 : [a, b].getD i 0 = [a, b][i] := by rw [List.getD_eq_getElem?_getD, List.getElem?_eq_getElem hi]; rfl
          have g2 : [c, d].getD i 0 = [c, d][i] := by rw [List.getD_eq_getElem?_getD, List.getElem?_eq_getElem hi2]; rfl
          rw [g1, g2] at e'
          rw [e']
        refine ⟨m - 1, by omega, i + 1, ?_⟩
        (repeat' first | exact fx | apply And.intro) <;> first | (simp only [Value.int.injEq, true_and]; omega) | omega | rfl | assumption | (simp; done) | (simp; omega)
    · simp (maxSteps := 1000000) (disch := omega) only [S, S1, S2, S3, S4, S5, ST, eq_self, reduceIte, reduceCtorEq, Nat.reduceEqDiff, Nat.reduceAdd]
      refine hQ _ _ _ ?_
      simp (maxSteps := 1000000) (disch := omega) only [S, S1, S2, S3, S4, S5, ST, eq_self, reduceIte, reduceCtorEq, Nat.reduceEqDiff, Nat.reduceAdd]
      have : i = 2 := by omega
      subst this
      simp only [List.take_succ_cons, List.take_zero, List.cons.injEq] at ht
      simp [ht.1, ht.2.1, pB]
set_option maxRecDepth 20000 in
set_option maxHeartbeats 1000000 in
theorem eqIntA2S_c (v w : Value) (ps qs : List (Int × Int)) (H : AH) (hr : RowP 81 H v ps) (hr2 : RowP 81 H w qs) (hlen : ps.length ≤ 1099511627776) : ACalls Try.prog 77 [v, w] H fun r H' => r = .bool (decide (ps = qs)) ∧ H <+: H' := by
  refine in77 rfl ?_
  intro Q hQ
  simp (maxSteps := 1000000) (disch := omega) only [cd77, hr.len Try.underlying22, hr2.len Try.underlying22, S, S1, S2, S3, S4, S5, ST, eq_self, reduceIte, reduceCtorEq, Nat.reduceEqDiff, Nat.reduceAdd]
  refine brD.intro (fun g => ?_) (fun g => ?_) <;> simp (maxSteps := 1000000) (disch := omega) only [hr.len Try.underlying22, S, S1, S2, S3, S4, S5, ST, eq_self, reduceIte, reduceCtorEq, Nat.reduceEqDiff, Nat.reduceAdd]
  · refine hQ _ _ _ ?_
    simp (maxSteps := 1000000) (disch := omega) only [S, S1, S2, S3, S4, S5, ST, eq_self, reduceIte, reduceCtorEq, Nat.reduceEqDiff, Nat.reduceAdd]
    have : ps ≠ qs := fun e => g (by rw [e])
    simp [this, List.prefix_refl]
  · have hl : ps.length = qs.length := by omega
    refine LoopH.by (fun m s H' => ∃ i, m + i = ps.length ∧ s 0 = v ∧ s 1 = w ∧ s 5 = .int .i64 ((i : Nat) : Int) ∧ H <+: H' ∧ ps.take i = qs.take i) ps.length ?_ ?_
    · exact ⟨0, by simp, rfl, rfl, rfl, List.prefix_refl _, by simp⟩
    · rintro m s H' ⟨i, hm, h0, h1, h5, hp, hn⟩
      have hr' := hr.pre hp
      have hr2' := hr2.pre hp
      simp (maxSteps := 1000000) (disch := omega) only [h0, h1, h5, hr'.len Try.underlying22, S, S1, S2, S3, S4, S5, ST, eq_self, reduceIte, reduceCtorEq, Nat.reduceEqDiff, Nat.reduceAdd]
      refine brD.intro (fun g => ?_) (fun g => ?_)
      · have hi : i < ps.length := by omega
        have hi2 : i < qs.length := by omega
        have hg : ps.getD i (0, 0) = ps[i] := by simp [hi]
        have hg2 : qs.getD i (0, 0) = qs[i] := by simp [hi2]
        simp (maxSteps := 1000000) (disch := omega) only [h0, h1, h5, hr'.ix Try.underlying22 cs81, hr2'.ix Try.underlying22 cs81, Int.toNat_natCast, hr'.ld ag81 cs81 hi, hr2'.ld ag81 cs81 hi2, S, S1, S2, S3, S4, S5, ST, eq_self, reduceIte, reduceCtorEq, Nat.reduceEqDiff, Nat.reduceAdd]
        refine CallH.by (eqIntA2_c _ _ _ _ H') ?_
        rintro _ H2 ⟨rfl, hp2⟩
        have hpp := hp.trans hp2
        simp (maxSteps := 1000000) (disch := omega) only [S, S1, S2, S3, S4, S5, ST, eq_self, reduceIte, reduceCtorEq, Nat.reduceEqDiff, Nat.reduceAdd]
        refine brD.intro (fun e => ?_) (fun e => ?_) <;> simp (maxSteps := 1000000) (disch := omega) only [h0, h1, h5, wrap64, S, S1, S2, S3, S4, S5, ST, eq_self, reduceIte, reduceCtorEq, Nat.reduceEqDiff, Nat.reduceAdd]
        · have fx : ps.take (i + 1) = qs.take (i + 1) := by
            rw [List.take_add_one, List.take_add_one, hn, List.getElem?_eq_getElem hi, List.getElem?_eq_getElem hi2]
            rw [hg, hg2] at e
            have e' : ps[i] = qs[i] := e
            rw [e']
          refine ⟨m - 1, by omega, i + 1, ?_⟩
          (repeat' first | exact fx | exact hpp | apply And.intro) <;> first | (simp only [Value.int.injEq, true_and]; omega) | omega | rfl | assumption | (simp; done) | (simp; omega)
        · refine hQ _ _ _ ?_
          simp (maxSteps := 1000000) (disch := omega) only [S, S1, S2, S3, S4, S5, ST, eq_self, reduceIte, reduceCtorEq, Nat.reduceEqDiff, Nat.reduceAdd]
          have : ps ≠ qs := by
            intro e'
            subst e'
            exact e rfl
          simp [this, hpp]
      · simp (maxSteps := 1000000) (disch := omega) only [h0, h1, h5, S, S1, S2, S3, S4, S5, ST, eq_self, reduceIte, reduceCtorEq, Nat.reduceEqDiff, Nat.reduceAdd]
        refine hQ _ _ _ ?_
        simp (maxSteps := 1000000) (disch := omega) only [S, S1, S2, S3, S4, S5, ST, eq_self, reduceIte, reduceCtorEq, Nat.reduceEqDiff, Nat.reduceAdd]
        rw [List.take_of_length_le (by omega), List.take_of_length_le (by omega)] at hn
        simp [hn, hp]
end Go.Proofs.Ytlfongfhbkefmaa.Ai
namespace Go.Proofs.Ytlfongfhbkefmaa.Ai
open Go
def ords22 : List (Nat × List (Nat × Bool)) := []
def cd22 : Cd := (.seq (.reg [⟨⟨some 2, Op.assign (Operand.const (Value.slice none 0 0)), none⟩, []⟩]) (.seq (.reg [⟨⟨some 5, Op.move (Operand.tmp 0), none⟩, []⟩,
  ⟨⟨some 6, Op.call { callee := (Callee.builtin Builtin.len), args := #[(Operand.tmp 5)], argTypes := #[38] }, none⟩, []⟩,
  ⟨⟨some 7, Op.makeSlice 38 (Operand.tmp 6) (Operand.tmp 6), none⟩, []⟩,
  ⟨⟨some 3, Op.assign (Operand.tmp 7), none⟩, []⟩]) (.seq (.seq (.reg [⟨⟨some 4, Op.assign (Operand.const (Value.int IntKind.i64 0)), none⟩, []⟩]) (.block 0 (.loop (.seq (.seq (.reg [⟨⟨some 8, Op.move (Operand.tmp 4), none⟩, []⟩,
  ⟨⟨some 9, Op.move (Operand.tmp 0), none⟩, []⟩,
  ⟨⟨some 10, Op.call { callee := (Callee.builtin Builtin.len), args := #[(Operand.tmp 9)], argTypes := #[38] }, none⟩, []⟩,
  ⟨⟨some 11, Op.binOp BinOp.lss 3 (Operand.tmp 8) (Operand.tmp 10) 3, none⟩, []⟩]) (.cond (Operand.tmp 11) .skip (.exit 0))) (.seq (.block 1 (.reg [⟨⟨some 14, Op.move (Operand.tmp 3), none⟩, []⟩,
  ⟨⟨some 15, Op.move (Operand.tmp 4), none⟩, []⟩,
  ⟨⟨some 16, Op.move (Operand.tmp 0), none⟩, []⟩,
  ⟨⟨some 17, Op.move (Operand.tmp 4), none⟩, []⟩,
  ⟨⟨some 18, Op.indexAddr 38 (Operand.tmp 16) (Operand.tmp 17), none⟩, []⟩,
  ⟨⟨some 19, Op.load 3 (Operand.tmp 18), none⟩, []⟩,
  ⟨⟨some 20, Op.indexAddr 38 (Operand.tmp 14) (Operand.tmp 15), none⟩, []⟩,
  ⟨⟨none, Op.store 3 (Operand.tmp 20) (Operand.tmp 19), none⟩, []⟩])) (.reg [⟨⟨some 12, Op.move (Operand.tmp 4), none⟩, []⟩,
  ⟨⟨some 13, Op.binOp BinOp.add 3 (Operand.tmp 12) (Operand.const (Value.int IntKind.i64 1)) 3, none⟩, []⟩,
  ⟨⟨some 4, Op.assign (Operand.tmp 13), none⟩, []⟩])))))) (.seq (.reg [⟨⟨some 21, Op.move (Operand.tmp 3), none⟩, []⟩,
  ⟨⟨some 2, Op.assign (Operand.tmp 21), none⟩, []⟩]) .ret))))
theorem sl22 : slim Try.f22.ntmps ords22 (Try.f22.body.getD .skip) = some cd22 := by kernel_rfl
theorem in22 {args : List Value} {H : AH} {R : Value → AH → Prop} (hl : args.length = 1) (h : ∀ (Q : Exit → Sl → AH → Prop), (∀ e s H, endA Try.prog [ResultVar.tmp 2] R e s H → Q e s H) → wpC Try.prog cd22 Q (enterA args) H) : ACalls Try.prog 22 args H R :=
  ACalls.intro (by kernel_rfl) Try.func22 rfl (by kernel_rfl) sl22 hl (of_decide_eq_true (by kernel_rfl)) (by kernel_rfl) h
def ords25 : List (Nat × List (Nat × Bool)) := [(6, [(0, false), (1, false), (2, false), (3, false), (4, false), (5, false), (6, false), (7, false), (8, false)])]
def cd25 : Cd := (.seq (.reg [⟨⟨some 4, Op.assign (Operand.const (Value.bool false)), none⟩, []⟩]) (.seq (.seq (.reg [⟨⟨some 6, Op.move (Operand.tmp 0), none⟩, []⟩,
  ⟨⟨some 7, Op.call { callee := (Callee.builtin Builtin.len), args := #[(Operand.tmp 6)], argTypes := #[38] }, none⟩, []⟩,
  ⟨⟨some 8, Op.move (Operand.tmp 1), none⟩, []⟩,
  ⟨⟨some 9, Op.call { callee := (Callee.builtin Builtin.len), args := #[(Operand.tmp 8)], argTypes := #[38] }, none⟩, []⟩,
  ⟨⟨some 10, Op.binOp BinOp.neq 3 (Operand.tmp 7) (Operand.tmp 9) 3, none⟩, []⟩]) (.cond (Operand.tmp 10) (.seq (.reg [⟨⟨some 4, Op.assign (Operand.const (Value.bool false)), none⟩, []⟩]) .ret) .skip)) (.seq (.seq (.reg [⟨⟨some 5, Op.assign (Operand.const (Value.int IntKind.i64 0)), none⟩, []⟩]) (.block 0 (.loop (.seq (.seq (.reg [⟨⟨some 11, Op.move (Operand.tmp 5), none⟩, []⟩,
  ⟨⟨some 12, Op.move (Operand.tmp 0), none⟩, []⟩,
  ⟨⟨some 13, Op.call { callee := (Callee.builtin Builtin.len), args := #[(Operand.tmp 12)], argTypes := #[38] }, none⟩, []⟩,
  ⟨⟨some 14, Op.binOp BinOp.lss 3 (Operand.tmp 11) (Operand.tmp 13) 3, none⟩, []⟩]) (.cond (Operand.tmp 14) .skip (.exit 0))) (.seq (.block 1 (.seq (.reg [⟨⟨some 17, Op.move (Operand.tmp 0), none⟩, []⟩,
  ⟨⟨some 18, Op.move (Operand.tmp 5), none⟩, []⟩,
  ⟨⟨some 19, Op.indexAddr 38 (Operand.tmp 17) (Operand.tmp 18), none⟩, []⟩,
  ⟨⟨some 20, Op.load 3 (Operand.tmp 19), none⟩, []⟩,
  ⟨⟨some 21, Op.move (Operand.tmp 1), none⟩, []⟩,
  ⟨⟨some 22, Op.move (Operand.tmp 5), none⟩, []⟩,
  ⟨⟨some 23, Op.indexAddr 38 (Operand.tmp 21) (Operand.tmp 22), none⟩, []⟩,
  ⟨⟨some 24, Op.load 3 (Operand.tmp 23), none⟩, []⟩,
  ⟨⟨some 25, Op.binOp BinOp.neq 3 (Operand.tmp 20) (Operand.tmp 24) 3, none⟩, []⟩]) (.cond (Operand.tmp 25) (.seq (.reg [⟨⟨some 4, Op.assign (Operand.const (Value.bool false)), none⟩, []⟩]) .ret) .skip))) (.reg [⟨⟨some 15, Op.move (Operand.tmp 5), none⟩, []⟩,
  ⟨⟨some 16, Op.binOp BinOp.add 3 (Operand.tmp 15) (Operand.const (Value.int IntKind.i64 1)) 3, none⟩, []⟩,
  ⟨⟨some 5, Op.assign (Operand.tmp 16), none⟩, []⟩])))))) (.seq (.reg [⟨⟨some 4, Op.assign (Operand.const (Value.bool true)), none⟩, []⟩]) .ret))))
theorem sl25 : slim Try.f25.ntmps ords25 (Try.f25.body.getD .skip) = some cd25 := by kernel_rfl
theorem in25 {args : List Value} {H : AH} {R : Value → AH → Prop} (hl : args.length = 2) (h : ∀ (Q : Exit → Sl → AH → Prop), (∀ e s H, endA Try.prog [ResultVar.tmp 4] R e s H → Q e s H) → wpC Try.prog cd25 Q (enterA args) H) : ACalls Try.prog 25 args H R :=
  ACalls.intro (by kernel_rfl) Try.func25 rfl (by kernel_rfl) sl25 hl (of_decide_eq_true (by kernel_rfl)) (by kernel_rfl) h
end Go.Proofs.Ytlfongfhbkefmaa.Ai
namespace Go.Proofs.Ytlfongfhbkefmaa.Ai
open Go Go.RowKit
set_option linter.unusedVariables false
set_option linter.unusedSimpArgs false
theorem toIntS_c (v : Value) (xs : List Int) (H : AH) (hr : Row 3 H v xs) (hlen : xs.length ≤ 1099511627776) : ACalls Try.prog 22 [v] H fun r H' => Own 3 H H' r xs ∧ H <+: H' := by
  refine in22 rfl ?_
  intro Q hQ
  simp (maxSteps := 1000000) (disch := omega) only [cd22, hr.len Try.underlying38, mks38, S, S1, S2, S3, S4, S5, ST, eq_self, reduceIte, reduceCtorEq, Nat.reduceEqDiff, Nat.reduceAdd]
  refine LoopH.by (fun m s H' => ∃ i, m + i = xs.length ∧ s 0 = v ∧ s 3 = .slice (some ⟨H.length, 0, none⟩) xs.length xs.length ∧ s 4 = .int .i64 ((i : Nat) : Int) ∧ H' = H ++ [.cells (ints (xs.take i ++ List.replicate (xs.length - i) 0)) 3 false]) xs.length ?_ ?_
  · exact ⟨0, by simp, rfl, by simp [S, S1, S2, S3, S4, S5, ST, eq_self, reduceIte, reduceCtorEq, Nat.reduceEqDiff, Nat.reduceAdd], by simp [S, S1, S2, S3, S4, S5, ST, eq_self, reduceIte, reduceCtorEq, Nat.reduceEqDiff, Nat.reduceAdd], by simp⟩
  · rintro m s H' ⟨i, hm, h0, h3, h4, rfl⟩
    generalize hys : xs.take i ++ List.replicate (xs.length - i) 0 = ys
    have hyl : ys.length = xs.length := by rw [← hys]; simp; omega
    have hr' := hr.pre (List.prefix_append H [.cells (ints ys) 3 false])
    have hc := at_new H (.cells (ints ys) 3 false)
    simp (maxSteps := 1000000) (disch := omega) only [h0, h3, h4, hr'.len Try.underlying38, S, S1, S2, S3, S4, S5, ST, eq_self, reduceIte, reduceCtorEq, Nat.reduceEqDiff, Nat.reduceAdd]
    refine brD.intro (fun g => ?_) (fun g => ?_) <;> simp (maxSteps := 1000000) (disch := omega) only [h0, h3, h4, hr'.ix Try.underlying38 cs3, hr'.cell, Int.toNat_natCast, st_ints cs3 hc, set_new, wrap64, S, S1, S2, S3, S4, S5, ST, eq_self, reduceIte, reduceCtorEq, Nat.reduceEqDiff, Nat.reduceAdd]
    · have hi : i < xs.length := by omega
      refine ⟨m - 1, by omega, i + 1, by omega, by simp, ?_⟩
      have : ys.set i (xs.getD i 0) = xs.take (i + 1) ++ List.replicate (xs.length - (i + 1)) 0 := by
        rw [← hys]
        apply List.ext_getElem?
        intro k
        rw [List.getElem?_set]
        by_cases hk : i = k
        · subst hk
          have : i < (xs.take i ++ List.replicate (xs.length - i) (0 : Int)).length := by simp; omega
          rw [if_pos rfl, if_pos this, List.getElem?_append_left (by simp; omega), List.getElem?_take, if_pos (by omega)]
          simp [hi]
        · rw [if_neg hk]
          by_cases hk2 : k < i
          · rw [List.getElem?_append_left (by simp; omega), List.getElem?_append_left (by simp; omega), List.getElem?_take, List.getElem?_take, if_pos hk2, if_pos (by omega)]
          · rw [List.getElem?_append_right (by simp; omega), List.getElem?_append_right (by simp; omega), List.getElem?_replicate, List.getElem?_replicate]
            simp only [List.length_take]
            rw [Nat.min_eq_left (by omega), Nat.min_eq_left (by omega)]
            by_cases hk3 : k < xs.length
            · rw [if_pos (by omega), if_pos (by omega)]
            · rw [if_neg (by omega), if_neg (by omega)]
      rw [this]
    · refine hQ _ _ _ ?_
      simp (maxSteps := 1000000) (disch := omega) only [S, S1, S2, S3, S4, S5, ST, eq_self, reduceIte, reduceCtorEq, Nat.reduceEqDiff, Nat.reduceAdd]
      have : ys = xs := by
        rw [← hys, List.take_of_length_le (by omega), show xs.length - i = 0 from by omega]; simp
      subst this
      exact ⟨.inr ⟨H.length, rfl, Nat.le_refl _, at_new ..⟩, List.prefix_append _ _⟩
theorem eqIntS_c (v w : Value) (xs ys : List Int) (H : AH) (hr : Row 3 H v xs) (hr2 : Row 3 H w ys) (hlen : xs.length ≤ 1099511627776) : ACalls Try.prog 25 [v, w] H fun r H' => r = .bool (decide (xs = ys)) ∧ H = H' := by
  refine in25 rfl ?_
  intro Q hQ
  simp (maxSteps := 1000000) (disch := omega) only [cd25, hr.len Try.underlying38, hr2.len Try.underlying38, S, S1, S2, S3, S4, S5, ST, eq_self, reduceIte, reduceCtorEq, Nat.reduceEqDiff, Nat.reduceAdd]
  refine brD.intro (fun g => ?_) (fun g => ?_) <;> simp (maxSteps := 1000000) (disch := omega) only [hr.len Try.underlying38, S, S1, S2, S3, S4, S5, ST, eq_self, reduceIte, reduceCtorEq, Nat.reduceEqDiff, Nat.reduceAdd]
  · refine hQ _ _ _ ?_
    simp (maxSteps := 1000000) (disch := omega) only [S, S1, S2, S3, S4, S5, ST, eq_self, reduceIte, reduceCtorEq, Nat.reduceEqDiff, Nat.reduceAdd]
    have : xs ≠ ys := fun e => g (by rw [e])
    simp [this]
  · have hl : xs.length = ys.length := by omega
    refine LoopH.by (fun m s H' => ∃ i, m + i = xs.length ∧ s 0 = v ∧ s 1 = w ∧ s 5 = .int .i64 ((i : Nat) : Int) ∧ H = H' ∧ xs.take i = ys.take i) xs.length ?_ ?_
    · exact ⟨0, by simp, rfl, rfl, rfl, rfl, by simp⟩
    · rintro m s H' ⟨i, hm, h0, h1, h5, rfl, hn⟩
      simp (maxSteps := 1000000) (disch := omega) only [h0, h1, h5, hr.len Try.underlying38, S, S1, S2, S3, S4, S5, ST, eq_self, reduceIte, reduceCtorEq, Nat.reduceEqDiff, Nat.reduceAdd]
      refine brD.intro (fun g => ?_) (fun g => ?_) <;> simp (maxSteps := 1000000) (disch := omega) only [h0, h1, h5, hr.ix Try.underlying38 cs3, hr.cell, hr2.ix Try.underlying38 cs3, hr2.cell, Int.toNat_natCast, S, S1, S2, S3, S4, S5, ST, eq_self, reduceIte, reduceCtorEq, Nat.reduceEqDiff, Nat.reduceAdd]
      · have hi : i < xs.length := by omega
        have hg : xs.getD i 0 = xs[i] := by simp [hi]
        have hg2 : ys.getD i 0 = ys[i] := by simp [hl ▸ hi]
        refine brD.intro (fun e => ?_) (fun e => ?_) <;> simp (maxSteps := 1000000) (disch := omega) only [h0, h1, h5, wrap64, S, S1, S2, S3, S4, S5, ST, eq_self, reduceIte, reduceCtorEq, Nat.reduceEqDiff, Nat.reduceAdd]
        · refine hQ _ _ _ ?_
          simp (maxSteps := 1000000) (disch := omega) only [S, S1, S2, S3, S4, S5, ST, eq_self, reduceIte, reduceCtorEq, Nat.reduceEqDiff, Nat.reduceAdd]
          have : xs ≠ ys := by
            intro e'
            subst e'
            exact e rfl
          simp [this]
        · refine ⟨m - 1, by omega, i + 1, by omega, by simp, ?_⟩
          rw [List.take_add_one, List.take_add_one, hn, List.getElem?_eq_getElem hi, List.getElem?_eq_getElem (hl ▸ hi)]
          rw [hg, hg2] at e
          rw [Decidable.not_not.1 e]
      · refine hQ _ _ _ ?_
        simp (maxSteps := 1000000) (disch := omega) only [S, S1, S2, S3, S4, S5, ST, eq_self, reduceIte, reduceCtorEq, Nat.reduceEqDiff, Nat.reduceAdd]
        rw [List.take_of_length_le (by omega), List.take_of_length_le (by omega)] at hn
        simp [hn]
end Go.Proofs.Ytlfongfhbkefmaa.Ai
namespace Go.Proofs.Ytlfongfhbkefmaa.Ai
open Go
def ords26 : List (Nat × List (Nat × Bool)) := []
def cd26 : Cd := (.seq (.reg [⟨⟨some 4, Op.assign (Operand.const (Value.int IntKind.i64 0)), none⟩, []⟩]) (.seq (.seq (.reg [⟨⟨some 5, Op.assign (Operand.const (Value.int IntKind.i64 0)), none⟩, []⟩]) (.block 0 (.loop (.seq (.seq (.reg [⟨⟨some 6, Op.move (Operand.tmp 5), none⟩, []⟩,
  ⟨⟨some 7, Op.move (Operand.tmp 0), none⟩, []⟩,
  ⟨⟨some 8, Op.call { callee := (Callee.builtin Builtin.len), args := #[(Operand.tmp 7)], argTypes := #[38] }, none⟩, []⟩,
  ⟨⟨some 9, Op.binOp BinOp.lss 3 (Operand.tmp 6) (Operand.tmp 8) 3, none⟩, []⟩]) (.cond (Operand.tmp 9) .skip (.exit 0))) (.seq (.block 1 (.seq (.reg [⟨⟨some 12, Op.move (Operand.tmp 0), none⟩, []⟩,
  ⟨⟨some 13, Op.move (Operand.tmp 5), none⟩, []⟩,
  ⟨⟨some 14, Op.move (Operand.tmp 1), none⟩, []⟩,
  ⟨⟨some 15, Op.indexAddr 38 (Operand.tmp 12) (Operand.tmp 13), none⟩, []⟩,
  ⟨⟨none, Op.store 3 (Operand.tmp 15) (Operand.tmp 14), none⟩, []⟩]) (.reg [⟨⟨some 16, Op.move (Operand.tmp 1), none⟩, []⟩,
  ⟨⟨some 17, Op.binOp BinOp.add 3 (Operand.tmp 16) (Operand.const (Value.int IntKind.i64 1)) 3, none⟩, []⟩,
  ⟨⟨some 1, Op.assign (Operand.tmp 17), none⟩, []⟩]))) (.reg [⟨⟨some 10, Op.move (Operand.tmp 5), none⟩, []⟩,
  ⟨⟨some 11, Op.binOp BinOp.add 3 (Operand.tmp 10) (Operand.const (Value.int IntKind.i64 1)) 3, none⟩, []⟩,
  ⟨⟨some 5, Op.assign (Operand.tmp 11), none⟩, []⟩])))))) (.seq (.reg [⟨⟨some 18, Op.move (Operand.tmp 1), none⟩, []⟩,
  ⟨⟨some 4, Op.assign (Operand.tmp 18), none⟩, []⟩]) .ret)))
theorem sl26 : slim Try.f26.ntmps ords26 (Try.f26.body.getD .skip) = some cd26 := by kernel_rfl
theorem in26 {args : List Value} {H : AH} {R : Value → AH → Prop} (hl : args.length = 2) (h : ∀ (Q : Exit → Sl → AH → Prop), (∀ e s H, endA Try.prog [ResultVar.tmp 4] R e s H → Q e s H) → wpC Try.prog cd26 Q (enterA args) H) : ACalls Try.prog 26 args H R :=
  ACalls.intro (by kernel_rfl) Try.func26 rfl (by kernel_rfl) sl26 hl (of_decide_eq_true (by kernel_rfl)) (by kernel_rfl) h
def ords93 : List (Nat × List (Nat × Bool)) := []
def cd93 : Cd := (.seq (.reg [⟨⟨some 4, Op.assign (Operand.const (Value.int IntKind.i64 0)), none⟩, []⟩]) (.seq (.seq (.reg [⟨⟨some 5, Op.assign (Operand.const (Value.int IntKind.i64 0)), none⟩, []⟩]) (.block 0 (.loop (.seq (.seq (.reg [⟨⟨some 6, Op.move (Operand.tmp 5), none⟩, []⟩,
  ⟨⟨some 7, Op.move (Operand.tmp 0), none⟩, []⟩,
  ⟨⟨some 8, Op.call { callee := (Callee.builtin Builtin.len), args := #[(Operand.tmp 7)], argTypes := #[38] }, none⟩, []⟩,
  ⟨⟨some 9, Op.binOp BinOp.lss 3 (Operand.tmp 6) (Operand.tmp 8) 3, none⟩, []⟩]) (.cond (Operand.tmp 9) .skip (.exit 0))) (.seq (.block 1 (.seq (.seq (.reg [⟨⟨some 12, Op.move (Operand.tmp 0), none⟩, []⟩,
  ⟨⟨some 13, Op.move (Operand.tmp 5), none⟩, []⟩,
  ⟨⟨some 14, Op.indexAddr 38 (Operand.tmp 12) (Operand.tmp 13), none⟩, []⟩,
  ⟨⟨some 15, Op.load 3 (Operand.tmp 14), none⟩, []⟩,
  ⟨⟨some 16, Op.move (Operand.tmp 1), none⟩, []⟩,
  ⟨⟨some 17, Op.binOp BinOp.neq 3 (Operand.tmp 15) (Operand.tmp 16) 3, none⟩, []⟩]) (.cond (Operand.tmp 17) (.seq (.reg [⟨⟨some 4, Op.assign (Operand.const (Value.int IntKind.i64 (-1))), none⟩, []⟩]) .ret) .skip)) (.reg [⟨⟨some 18, Op.move (Operand.tmp 1), none⟩, []⟩,
  ⟨⟨some 19, Op.binOp BinOp.add 3 (Operand.tmp 18) (Operand.const (Value.int IntKind.i64 1)) 3, none⟩, []⟩,
  ⟨⟨some 1, Op.assign (Operand.tmp 19), none⟩, []⟩]))) (.reg [⟨⟨some 10, Op.move (Operand.tmp 5), none⟩, []⟩,
  ⟨⟨some 11, Op.binOp BinOp.add 3 (Operand.tmp 10) (Operand.const (Value.int IntKind.i64 1)) 3, none⟩, []⟩,
  ⟨⟨some 5, Op.assign (Operand.tmp 11), none⟩, []⟩])))))) (.seq (.reg [⟨⟨some 20, Op.move (Operand.tmp 1), none⟩, []⟩,
  ⟨⟨some 4, Op.assign (Operand.tmp 20), none⟩, []⟩]) .ret)))
theorem sl93 : slim Try.f93.ntmps ords93 (Try.f93.body.getD .skip) = some cd93 := by kernel_rfl
theorem in93 {args : List Value} {H : AH} {R : Value → AH → Prop} (hl : args.length = 2) (h : ∀ (Q : Exit → Sl → AH → Prop), (∀ e s H, endA Try.prog [ResultVar.tmp 4] R e s H → Q e s H) → wpC Try.prog cd93 Q (enterA args) H) : ACalls Try.prog 93 args H R :=
  ACalls.intro (by kernel_rfl) Try.func93 rfl (by kernel_rfl) sl93 hl (of_decide_eq_true (by kernel_rfl)) (by kernel_rfl) h
end Go.Proofs.Ytlfongfhbkefmaa.Ai
namespace Go.Proofs.Ytlfongfhbkefmaa.Ai
open Go Go.RowKit
set_option linter.unusedVariables false
set_option linter.unusedSimpArgs false
theorem take_set_succ (zs : List Int) (i : Nat) (x : Int) (h : i < zs.length) : (zs.set i x).take (i + 1) = zs.take i ++ [x] := by
  rw [List.take_add_one, List.getElem?_set_self h]
  congr 1
  apply List.ext_getElem?
  intro j
  rw [List.getElem?_take, List.getElem?_take]
  by_cases hj : j < i
  · rw [if_pos hj, if_pos hj, List.getElem?_set_ne (by omega)]
  · rw [if_neg hj, if_neg hj]
set_option maxHeartbeats 1000000 in
theorem markIntS_c (v : Value) (xs : List Int) (k : Int) (H0 H : AH) (hm : Mine 3 H0 H v xs) (hlen : xs.length ≤ 1099511627776) (hk : 0 ≤ k ∧ k ≤ 4611686018427387904) :
    ACalls Try.prog 26 [v, .int .i64 k] H fun r H' => r = .int .i64 (k + xs.length) ∧ Mine 3 H0 H' v (runI k xs.length) ∧ Else v H H' := by
  refine in26 rfl ?_
  intro Q hQ
  simp (maxSteps := 1000000) (disch := omega) only [cd26, S, S1, S2, S3, S4, S5, ST, eq_self, reduceIte, reduceCtorEq, Nat.reduceEqDiff, Nat.reduceAdd]
  rcases hm with ⟨rfl, rfl⟩ | ⟨o, zs, rfl, ho, hc, ht⟩
  · refine LoopH.by (fun m s H' => s 0 = .slice none 0 0 ∧ s 1 = .int .i64 k ∧ s 5 = .int .i64 0 ∧ H = H') 0 ?_ ?_
    · exact ⟨rfl, rfl, rfl, rfl⟩
    · rintro m s H' ⟨h0, h1, h5, rfl⟩
      simp (maxSteps := 1000000) (disch := omega) only [h0, h1, h5, S, S1, S2, S3, S4, S5, ST, eq_self, reduceIte, reduceCtorEq, Nat.reduceEqDiff, Nat.reduceAdd]
      refine brD.intro (fun g => ?_) (fun g => ?_) <;> simp (maxSteps := 1000000) (disch := omega) only [h0, h1, h5, S, S1, S2, S3, S4, S5, ST, eq_self, reduceIte, reduceCtorEq, Nat.reduceEqDiff, Nat.reduceAdd]
      · exact absurd g (by decide)
      · refine hQ _ _ _ ?_
        simp (maxSteps := 1000000) (disch := omega) only [h0, h1, h5, S, S1, S2, S3, S4, S5, ST, eq_self, reduceIte, reduceCtorEq, Nat.reduceEqDiff, Nat.reduceAdd]
        exact ⟨by simp, .inl ⟨rfl, rfl⟩, Else.refl _ _⟩
  · have hzl : xs.length ≤ zs.length := by have := congrArg List.length ht; simp at this; omega
    refine LoopH.by (fun m s H' => ∃ i ys, m + i = xs.length ∧ s 0 = .slice (some ⟨o, 0, none⟩) xs.length xs.length ∧ s 1 = .int .i64 (k + (i : Nat)) ∧ s 5 = .int .i64 ((i : Nat) : Int) ∧ H' = H.set o (.cells (ints ys) 3 false) ∧ ys.length = zs.length ∧ ys.take i = runI k i) xs.length ?_ ?_
    · refine ⟨0, zs, by simp, rfl, by simp [S, S1, S2, S3, S4, S5, ST, eq_self, reduceIte, reduceCtorEq, Nat.reduceEqDiff, Nat.reduceAdd], rfl, ?_, rfl, by simp [runI]⟩
      apply List.ext_getElem?
      intro j
      rw [List.getElem?_set]
      by_cases hj : o = j
      · subst hj; rw [if_pos rfl, if_pos (at_lt hc), hc]
      · rw [if_neg hj]
    · rintro m s H' ⟨i, ys, hm, h0, h1, h5, rfl, hyl, hyt⟩
      have hc' : (H.set o (.cells (ints ys) 3 false))[o]? = some (.cells (ints ys) 3 false) := at_set hc
      simp (maxSteps := 1000000) (disch := omega) only [h0, h1, h5, S, S1, S2, S3, S4, S5, ST, eq_self, reduceIte, reduceCtorEq, Nat.reduceEqDiff, Nat.reduceAdd]
      refine brD.intro (fun g => ?_) (fun g => ?_) <;> simp (maxSteps := 1000000) (disch := omega) only [h0, h1, h5, Int.toNat_natCast, Nat.zero_add, st_ints cs3 hc', wrap64, S, S1, S2, S3, S4, S5, ST, eq_self, reduceIte, reduceCtorEq, Nat.reduceEqDiff, Nat.reduceAdd]
      · have hi : i < ys.length := by omega
        have e1 : (ys.set i (k + i)).take (i + 1) = runI k (i + 1) := by rw [take_set_succ ys i _ hi, hyt]; rfl
        have e2 : (ys.set i (k + i)).length = zs.length := by simp [hyl]
        have e3 : (H.set o (.cells (ints ys) 3 false)).set o (.cells (ints (ys.set i (k + i))) 3 false) = H.set o (.cells (ints (ys.set i (k + i))) 3 false) := List.set_set ..
        refine ⟨m - 1, by omega, i + 1, ys.set i (k + i), ?_⟩
        (repeat' apply And.intro) <;> first | rfl | trivial | assumption | omega | (simp only [Value.int.injEq, true_and]; omega) | (simp; done) | (simp; omega) | exact e1 | exact e2 | exact e3
      · refine hQ _ _ _ ?_
        simp (maxSteps := 1000000) (disch := omega) only [h1, S, S1, S2, S3, S4, S5, ST, eq_self, reduceIte, reduceCtorEq, Nat.reduceEqDiff, Nat.reduceAdd]
        have hi : i = xs.length := by omega
        subst hi
        refine ⟨rfl, .inr ⟨o, ys, by rw [runI_len], ho, hc', by rw [runI_len]; exact hyt⟩, Else.set _ _⟩
theorem heldIntS_c (v : Value) (xs : List Int) (k : Int) (H : AH) (hr : Row 3 H v xs) (hlen : xs.length ≤ 1099511627776) (hk : 0 ≤ k ∧ k ≤ 4611686018427387904) (hx : xs = runI k xs.length) :
    ACalls Try.prog 93 [v, .int .i64 k] H fun r H' => r = .int .i64 (k + xs.length) ∧ H = H' := by
  refine in93 rfl ?_
  intro Q hQ
  simp (maxSteps := 1000000) (disch := omega) only [cd93, S, S1, S2, S3, S4, S5, ST, eq_self, reduceIte, reduceCtorEq, Nat.reduceEqDiff, Nat.reduceAdd]
  refine LoopH.by (fun m s H' => ∃ i, m + i = xs.length ∧ s 0 = v ∧ s 1 = .int .i64 (k + (i : Nat)) ∧ s 5 = .int .i64 ((i : Nat) : Int) ∧ H = H') xs.length ?_ ?_
  · exact ⟨0, by simp, rfl, by simp [S, S1, S2, S3, S4, S5, ST, eq_self, reduceIte, reduceCtorEq, Nat.reduceEqDiff, Nat.reduceAdd], rfl, rfl⟩
  · rintro m s H' ⟨i, hm, h0, h1, h5, rfl⟩
    simp (maxSteps := 1000000) (disch := omega) only [h0, h1, h5, hr.len Try.underlying38, S, S1, S2, S3, S4, S5, ST, eq_self, reduceIte, reduceCtorEq, Nat.reduceEqDiff, Nat.reduceAdd]
    refine brD.intro (fun g => ?_) (fun g => ?_) <;> simp (maxSteps := 1000000) (disch := omega) only [h0, h1, h5, hr.ix Try.underlying38 cs3, hr.cell, Int.toNat_natCast, S, S1, S2, S3, S4, S5, ST, eq_self, reduceIte, reduceCtorEq, Nat.reduceEqDiff, Nat.reduceAdd]
    · have hi : i < xs.length := by omega
      have hg : xs.getD i 0 = k + i := by
        have h2 : (runI k xs.length).getD i 0 = k + i := runI_at k _ i hi
        rw [← hx] at h2; exact h2
      simp (maxSteps := 1000000) (disch := omega) only [hg, S, S1, S2, S3, S4, S5, ST, eq_self, reduceIte, reduceCtorEq, Nat.reduceEqDiff, Nat.reduceAdd]
      simp (maxSteps := 1000000) (disch := omega) only [h0, h1, h5, wrap64, S, S1, S2, S3, S4, S5, ST, eq_self, reduceIte, reduceCtorEq, Nat.reduceEqDiff, Nat.reduceAdd]
      refine ⟨m - 1, by omega, i + 1, ?_⟩
      (repeat' apply And.intro) <;> first | rfl | trivial | assumption | omega | (simp only [Value.int.injEq, true_and]; omega) | (simp; done) | (simp; omega)
    · refine hQ _ _ _ ?_
      simp (maxSteps := 1000000) (disch := omega) only [h1, S, S1, S2, S3, S4, S5, ST, eq_self, reduceIte, reduceCtorEq, Nat.reduceEqDiff, Nat.reduceAdd]
      have : i = xs.length := by omega
      rw [this]
theorem markIntS_B (v : Value) (xs : List Int) (k : Int) (lo hi : Nat) (H : AH) (h : InI lo hi 3 H v xs) (hlen : xs.length ≤ 1099511627776) (hk : 0 ≤ k ∧ k ≤ 4611686018427387904) :
    ACalls Try.prog 26 [v, .int .i64 k] H fun r H' => r = .int .i64 (k + xs.length) ∧ InI lo hi 3 H' v (runI k xs.length) ∧ ElseR lo hi H H' := by
  have hm : Mine 3 (List.replicate lo AObj.dead) H v xs := by
    rcases h with h | ⟨o, zs, h1, h2, h3, h4, h5⟩
    · exact .inl h
    · exact .inr ⟨o, zs, h1, by simpa using h2, h4, h5⟩
  refine (markIntS_c v xs k _ H hm hlen hk).mono ?_
  rintro r H' ⟨h1, h2, h3⟩
  refine ⟨h1, ?_, h3.1, fun o x ho hx => h3.2 o x ?_ hx⟩
  · rcases h with ⟨g1, g2⟩ | ⟨o, zs, g1, g2, g3, g4, g5⟩
    · subst g2; exact .inl ⟨g1, rfl⟩
    · rcases h2 with ⟨f1, f2⟩ | ⟨o', zs', f1, f2, f3, f4⟩
      · rw [g1] at f1; cases f1
      · rw [g1] at f1
        simp only [Value.slice.injEq, Option.some.injEq, Addr.mk.injEq] at f1
        refine .inr ⟨o', zs', ?_, ?_, ?_, f3, f4⟩
        · rw [g1, f1.1.1, runI_len]
        · omega
        · omega
  · rcases h with g | ⟨o', zs, g1, g2, g3, g4, g5⟩
    · exact .inl g.1
    · subst g1
      right
      show o ≠ o'
      omega
end Go.Proofs.Ytlfongfhbkefmaa.Ai
namespace Go.Proofs.Ytlfongfhbkefmaa.Ai
open Go
def ords78 : List (Nat × List (Nat × Bool)) := []
def cd78 : Cd := (.seq (.reg [⟨⟨some 4, Op.assign (Operand.const (Value.int IntKind.i64 0)), none⟩, []⟩]) (.seq (.seq (.reg [⟨⟨some 5, Op.assign (Operand.const (Value.int IntKind.i64 0)), none⟩, []⟩]) (.block 0 (.loop (.seq (.seq (.reg [⟨⟨some 7, Op.move (Operand.tmp 5), none⟩, []⟩,
  ⟨⟨some 8, Op.move (Operand.tmp 0), none⟩, []⟩,
  ⟨⟨some 9, Op.call { callee := (Callee.builtin Builtin.len), args := #[(Operand.tmp 8)], argTypes := #[22] }, none⟩, []⟩,
  ⟨⟨some 10, Op.binOp BinOp.lss 3 (Operand.tmp 7) (Operand.tmp 9) 3, none⟩, []⟩]) (.cond (Operand.tmp 10) .skip (.exit 0))) (.seq (.block 1 (.seq (.reg [⟨⟨some 6, Op.assign (Operand.const (Value.int IntKind.i64 0)), none⟩, []⟩]) (.block 2 (.loop (.seq (.seq (.reg [⟨⟨some 13, Op.move (Operand.tmp 6), none⟩, []⟩,
  ⟨⟨some 14, Op.binOp BinOp.lss 3 (Operand.tmp 13) (Operand.const (Value.int IntKind.i64 2)) 3, none⟩, []⟩]) (.cond (Operand.tmp 14) .skip (.exit 2))) (.seq (.block 3 (.seq (.reg [⟨⟨some 17, Op.move (Operand.tmp 0), none⟩, []⟩,
  ⟨⟨some 18, Op.move (Operand.tmp 5), none⟩, []⟩,
  ⟨⟨some 19, Op.move (Operand.tmp 6), none⟩, []⟩,
  ⟨⟨some 20, Op.move (Operand.tmp 1), none⟩, []⟩,
  ⟨⟨some 21, Op.indexAddr 22 (Operand.tmp 17) (Operand.tmp 18), none⟩, []⟩,
  ⟨⟨some 22, Op.indexAddr 81 (Operand.tmp 21) (Operand.tmp 19), none⟩, []⟩,
  ⟨⟨none, Op.store 3 (Operand.tmp 22) (Operand.tmp 20), none⟩, []⟩]) (.reg [⟨⟨some 23, Op.move (Operand.tmp 1), none⟩, []⟩,
  ⟨⟨some 24, Op.binOp BinOp.add 3 (Operand.tmp 23) (Operand.const (Value.int IntKind.i64 1)) 3, none⟩, []⟩,
  ⟨⟨some 1, Op.assign (Operand.tmp 24), none⟩, []⟩]))) (.reg [⟨⟨some 15, Op.move (Operand.tmp 6), none⟩, []⟩,
  ⟨⟨some 16, Op.binOp BinOp.add 3 (Operand.tmp 15) (Operand.const (Value.int IntKind.i64 1)) 3, none⟩, []⟩,
  ⟨⟨some 6, Op.assign (Operand.tmp 16), none⟩, []⟩]))))))) (.reg [⟨⟨some 11, Op.move (Operand.tmp 5), none⟩, []⟩,
  ⟨⟨some 12, Op.binOp BinOp.add 3 (Operand.tmp 11) (Operand.const (Value.int IntKind.i64 1)) 3, none⟩, []⟩,
  ⟨⟨some 5, Op.assign (Operand.tmp 12), none⟩, []⟩])))))) (.seq (.reg [⟨⟨some 25, Op.move (Operand.tmp 1), none⟩, []⟩,
  ⟨⟨some 4, Op.assign (Operand.tmp 25), none⟩, []⟩]) .ret)))
theorem sl78 : slim Try.f78.ntmps ords78 (Try.f78.body.getD .skip) = some cd78 := by kernel_rfl
theorem in78 {args : List Value} {H : AH} {R : Value → AH → Prop} (hl : args.length = 2) (h : ∀ (Q : Exit → Sl → AH → Prop), (∀ e s H, endA Try.prog [ResultVar.tmp 4] R e s H → Q e s H) → wpC Try.prog cd78 Q (enterA args) H) : ACalls Try.prog 78 args H R :=
  ACalls.intro (by kernel_rfl) Try.func78 rfl (by kernel_rfl) sl78 hl (of_decide_eq_true (by kernel_rfl)) (by kernel_rfl) h
def ords79 : List (Nat × List (Nat × Bool)) := []
def cd79 : Cd := (.seq (.reg [⟨⟨some 4, Op.assign (Operand.const (Value.int IntKind.i64 0)), none⟩, []⟩]) (.seq (.seq (.reg [⟨⟨some 5, Op.assign (Operand.const (Value.int IntKind.i64 0)), none⟩, []⟩]) (.block 0 (.loop (.seq (.seq (.reg [⟨⟨some 7, Op.move (Operand.tmp 5), none⟩, []⟩,
  ⟨⟨some 8, Op.move (Operand.tmp 0), none⟩, []⟩,
  ⟨⟨some 9, Op.call { callee := (Callee.builtin Builtin.len), args := #[(Operand.tmp 8)], argTypes := #[22] }, none⟩, []⟩,
  ⟨⟨some 10, Op.binOp BinOp.lss 3 (Operand.tmp 7) (Operand.tmp 9) 3, none⟩, []⟩]) (.cond (Operand.tmp 10) .skip (.exit 0))) (.seq (.block 1 (.seq (.reg [⟨⟨some 6, Op.assign (Operand.const (Value.int IntKind.i64 0)), none⟩, []⟩]) (.block 2 (.loop (.seq (.seq (.reg [⟨⟨some 13, Op.move (Operand.tmp 6), none⟩, []⟩,
  ⟨⟨some 14, Op.binOp BinOp.lss 3 (Operand.tmp 13) (Operand.const (Value.int IntKind.i64 2)) 3, none⟩, []⟩]) (.cond (Operand.tmp 14) .skip (.exit 2))) (.seq (.block 3 (.seq (.seq (.reg [⟨⟨some 17, Op.move (Operand.tmp 0), none⟩, []⟩,
  ⟨⟨some 18, Op.move (Operand.tmp 5), none⟩, []⟩,
  ⟨⟨some 19, Op.move (Operand.tmp 6), none⟩, []⟩,
  ⟨⟨some 20, Op.indexAddr 22 (Operand.tmp 17) (Operand.tmp 18), none⟩, []⟩,
  ⟨⟨some 21, Op.indexAddr 81 (Operand.tmp 20) (Operand.tmp 19), none⟩, []⟩,
  ⟨⟨some 22, Op.load 3 (Operand.tmp 21), none⟩, []⟩,
  ⟨⟨some 23, Op.move (Operand.tmp 1), none⟩, []⟩,
  ⟨⟨some 24, Op.binOp BinOp.neq 3 (Operand.tmp 22) (Operand.tmp 23) 3, none⟩, []⟩]) (.cond (Operand.tmp 24) (.seq (.reg [⟨⟨some 4, Op.assign (Operand.const (Value.int IntKind.i64 (-1))), none⟩, []⟩]) .ret) .skip)) (.reg [⟨⟨some 25, Op.move (Operand.tmp 1), none⟩, []⟩,
  ⟨⟨some 26, Op.binOp BinOp.add 3 (Operand.tmp 25) (Operand.const (Value.int IntKind.i64 1)) 3, none⟩, []⟩,
  ⟨⟨some 1, Op.assign (Operand.tmp 26), none⟩, []⟩]))) (.reg [⟨⟨some 15, Op.move (Operand.tmp 6), none⟩, []⟩,
  ⟨⟨some 16, Op.binOp BinOp.add 3 (Operand.tmp 15) (Operand.const (Value.int IntKind.i64 1)) 3, none⟩, []⟩,
  ⟨⟨some 6, Op.assign (Operand.tmp 16), none⟩, []⟩]))))))) (.reg [⟨⟨some 11, Op.move (Operand.tmp 5), none⟩, []⟩,
  ⟨⟨some 12, Op.binOp BinOp.add 3 (Operand.tmp 11) (Operand.const (Value.int IntKind.i64 1)) 3, none⟩, []⟩,
  ⟨⟨some 5, Op.assign (Operand.tmp 12), none⟩, []⟩])))))) (.seq (.reg [⟨⟨some 27, Op.move (Operand.tmp 1), none⟩, []⟩,
  ⟨⟨some 4, Op.assign (Operand.tmp 27), none⟩, []⟩]) .ret)))
theorem sl79 : slim Try.f79.ntmps ords79 (Try.f79.body.getD .skip) = some cd79 := by kernel_rfl
theorem in79 {args : List Value} {H : AH} {R : Value → AH → Prop} (hl : args.length = 2) (h : ∀ (Q : Exit → Sl → AH → Prop), (∀ e s H, endA Try.prog [ResultVar.tmp 4] R e s H → Q e s H) → wpC Try.prog cd79 Q (enterA args) H) : ACalls Try.prog 79 args H R :=
  ACalls.intro (by kernel_rfl) Try.func79 rfl (by kernel_rfl) sl79 hl (of_decide_eq_true (by kernel_rfl)) (by kernel_rfl) h
end Go.Proofs.Ytlfongfhbkefmaa.Ai
namespace Go.Proofs.Ytlfongfhbkefmaa.Ai
open Go Go.RowKit
set_option linter.unusedVariables false
set_option linter.unusedSimpArgs false
set_option maxHeartbeats 1000000 in
theorem markIntA2S_B (v : Value) (ps : List (Int × Int)) (k : Int) (lo hi : Nat) (H : AH) (h : InP lo hi 81 H v ps) (hlen : ps.length ≤ 1099511627776) (hk : 0 ≤ k ∧ k ≤ 1099511627776) :
    ACalls Try.prog 78 [v, .int .i64 k] H fun r H' => r = .int .i64 (k + 2 * ps.length) ∧ InP lo hi 81 H' v (runP k ps.length) ∧ ElseR lo hi H H' := by
  refine in78 rfl ?_
  intro Q hQ
  simp (maxSteps := 1000000) (disch := omega) only [cd78, S, S1, S2, S3, S4, S5, ST, eq_self, reduceIte, reduceCtorEq, Nat.reduceEqDiff, Nat.reduceAdd]
  rcases h with ⟨rfl, rfl⟩ | ⟨o, zs, rfl, hlo, hhi, hc, ht⟩
  · refine LoopH.by (fun m s H' => s 0 = .slice none 0 0 ∧ s 1 = .int .i64 k ∧ s 5 = .int .i64 0 ∧ H = H') 0 ?_ ?_
    · exact ⟨rfl, rfl, rfl, rfl⟩
    · rintro m s H' ⟨h0, h1, h5, rfl⟩
      simp (maxSteps := 1000000) (disch := omega) only [h0, h1, h5, S, S1, S2, S3, S4, S5, ST, eq_self, reduceIte, reduceCtorEq, Nat.reduceEqDiff, Nat.reduceAdd]
      refine brD.intro (fun g => ?_) (fun g => ?_) <;> simp (maxSteps := 1000000) (disch := omega) only [h0, h1, h5, S, S1, S2, S3, S4, S5, ST, eq_self, reduceIte, reduceCtorEq, Nat.reduceEqDiff, Nat.reduceAdd]
      · exact absurd g (by decide)
      · refine hQ _ _ _ ?_
        simp (maxSteps := 1000000) (disch := omega) only [h0, h1, h5, S, S1, S2, S3, S4, S5, ST, eq_self, reduceIte, reduceCtorEq, Nat.reduceEqDiff, Nat.reduceAdd]
        exact ⟨by simp, .inl ⟨rfl, rfl⟩, ElseR.refl _ _ _⟩
  · have hzl := take_flat_len ht
    refine LoopH.by (fun m s H' => ∃ i ys, m + i = ps.length ∧ s 0 = .slice (some ⟨o, 0, none⟩) ps.length ps.length ∧ s 1 = .int .i64 (k + 2 * (i : Nat)) ∧ s 5 = .int .i64 ((i : Nat) : Int) ∧ H' = H.set o (.cells (ints ys) 81 false) ∧ ys.length = zs.length ∧ ys.take (2 * i) = runI k (2 * i)) ps.length ?_ ?_
    · refine ⟨0, zs, by simp, rfl, by simp [S, S1, S2, S3, S4, S5, ST, eq_self, reduceIte, reduceCtorEq, Nat.reduceEqDiff, Nat.reduceAdd], rfl, ?_, rfl, by simp [runI]⟩
      apply List.ext_getElem?
      intro j
      rw [List.getElem?_set]
      by_cases hj : o = j
      · subst hj; rw [if_pos rfl, if_pos (at_lt hc), hc]
      · rw [if_neg hj]
    · rintro m s H' ⟨i, ys, hm, h0, h1, h5, rfl, hyl, hyt⟩
      simp (maxSteps := 1000000) (disch := omega) only [h0, h1, h5, S, S1, S2, S3, S4, S5, ST, eq_self, reduceIte, reduceCtorEq, Nat.reduceEqDiff, Nat.reduceAdd]
      refine brD.intro (fun g => ?_) (fun g => ?_)
      · have hi : i < ps.length := by omega
        simp (maxSteps := 1000000) (disch := omega) only [h0, h1, h5, wrap64, S, S1, S2, S3, S4, S5, ST, eq_self, reduceIte, reduceCtorEq, Nat.reduceEqDiff, Nat.reduceAdd]
        refine LoopH.by (fun m' s' H' => ∃ j ys, m' + j = 2 ∧ s' 0 = .slice (some ⟨o, 0, none⟩) ps.length ps.length ∧ s' 1 = .int .i64 (k + 2 * (i : Nat) + (j : Nat)) ∧ s' 5 = .int .i64 ((i : Nat) : Int) ∧ s' 6 = .int .i64 ((j : Nat) : Int) ∧ H' = H.set o (.cells (ints ys) 81 false) ∧ ys.length = zs.length ∧ ys.take (2 * i + j) = runI k (2 * i + j)) 2 ?_ ?_
        · exact ⟨0, ys, by simp, by simp [S, S1, S2, S3, S4, S5, ST, eq_self, reduceIte, reduceCtorEq, Nat.reduceEqDiff, Nat.reduceAdd, h0], by simp [S, S1, S2, S3, S4, S5, ST, eq_self, reduceIte, reduceCtorEq, Nat.reduceEqDiff, Nat.reduceAdd, h1], by simp [S, S1, S2, S3, S4, S5, ST, eq_self, reduceIte, reduceCtorEq, Nat.reduceEqDiff, Nat.reduceAdd, h5], by simp [S, S1, S2, S3, S4, S5, ST, eq_self, reduceIte, reduceCtorEq, Nat.reduceEqDiff, Nat.reduceAdd], rfl, hyl, hyt⟩
        · rintro m' s' H' ⟨j, ys, hm', g0, g1, g5, g6, rfl, hyl, hyt⟩
          have hc' : (H.set o (.cells (ints ys) 81 false))[o]? = some (.cells (ints ys) 81 false) := at_set hc
          simp (maxSteps := 1000000) (disch := omega) only [g0, g1, g5, g6, S, S1, S2, S3, S4, S5, ST, eq_self, reduceIte, reduceCtorEq, Nat.reduceEqDiff, Nat.reduceAdd]
          refine brD.intro (fun q => ?_) (fun q => ?_)
          · have hj : 2 * i + j < ys.length := by omega
            simp (maxSteps := 1000000) (disch := omega) only [g0, g1, g5, g6, ixa81, Int.toNat_natCast, Nat.zero_add, st_ints cs3 hc', wrap64, S, S1, S2, S3, S4, S5, ST, eq_self, reduceIte, reduceCtorEq, Nat.reduceEqDiff, Nat.reduceAdd]
            have e1 : (ys.set (2 * i + j) (k + 2 * i + j)).take (2 * i + (j + 1)) = runI k (2 * i + (j + 1)) := by
              rw [← Nat.add_assoc, take_set_succ ys _ _ hj, hyt, runI]
              congr 2
              omega
            have e2 : (ys.set (2 * i + j) (k + 2 * i + j)).length = zs.length := by simp [hyl]
            have e3 : (H.set o (.cells (ints ys) 81 false)).set o (.cells (ints (ys.set (2 * i + j) (k + 2 * i + j))) 81 false) = H.set o (.cells (ints (ys.set (2 * i + j) (k + 2 * i + j))) 81 false) := List.set_set ..
            refine ⟨m' - 1, by omega, j + 1, ys.set (2 * i + j) (k + 2 * i + j), ?_⟩
            (repeat' first | exact e1 | exact e2 | exact e3 | apply And.intro) <;> first | (simp only [Value.int.injEq, true_and]; omega) | omega | rfl | assumption | (simp; done) | (simp; omega)
          · have hj : j = 2 := by omega
            subst hj
            simp (maxSteps := 1000000) (disch := omega) only [g0, g1, g5, g6, wrap64, S, S1, S2, S3, S4, S5, ST, eq_self, reduceIte, reduceCtorEq, Nat.reduceEqDiff, Nat.reduceAdd]
            have e1 : ys.take (2 * (i + 1)) = runI k (2 * (i + 1)) := hyt
            refine ⟨m - 1, by omega, i + 1, ys, ?_⟩
            (repeat' first | exact e1 | exact hyl | apply And.intro) <;> first | (simp only [Value.int.injEq, true_and]; omega) | omega | rfl | assumption | (simp; done) | (simp; omega)
      · simp (maxSteps := 1000000) (disch := omega) only [h1, S, S1, S2, S3, S4, S5, ST, eq_self, reduceIte, reduceCtorEq, Nat.reduceEqDiff, Nat.reduceAdd]
        refine hQ _ _ _ ?_
        simp (maxSteps := 1000000) (disch := omega) only [h1, S, S1, S2, S3, S4, S5, ST, eq_self, reduceIte, reduceCtorEq, Nat.reduceEqDiff, Nat.reduceAdd]
        have hi : i = ps.length := by omega
        subst hi
        refine ⟨rfl, .inr ⟨o, ys, by rw [runP_len], hlo, hhi, at_set hc, by rw [runP_len, hyt, runP_flat]⟩, by simp, fun o' x ho hx => ?_⟩
        rw [List.getElem?_set_ne (by omega)]; exact hx
set_option maxHeartbeats 1000000 in
theorem heldIntA2S_c (v : Value) (n : Nat) (k : Int) (H : AH) (hr : RowP 81 H v (runP k n)) (hlen : n ≤ 1099511627776) (hk : 0 ≤ k ∧ k ≤ 1099511627776) :
    ACalls Try.prog 79 [v, .int .i64 k] H fun r H' => r = .int .i64 (k + 2 * n) ∧ H = H' := by
  have hl := hr.len Try.underlying22
  rw [runP_len] at hl
  refine in79 rfl ?_
  intro Q hQ
  simp (maxSteps := 1000000) (disch := omega) only [cd79, S, S1, S2, S3, S4, S5, ST, eq_self, reduceIte, reduceCtorEq, Nat.reduceEqDiff, Nat.reduceAdd]
  refine LoopH.by (fun m s H' => ∃ i, m + i = n ∧ s 0 = v ∧ s 1 = .int .i64 (k + 2 * (i : Nat)) ∧ s 5 = .int .i64 ((i : Nat) : Int) ∧ H = H') n ?_ ?_
  · exact ⟨0, by simp, rfl, by simp [S, S1, S2, S3, S4, S5, ST, eq_self, reduceIte, reduceCtorEq, Nat.reduceEqDiff, Nat.reduceAdd], rfl, rfl⟩
  · rintro m s H' ⟨i, hm, h0, h1, h5, rfl⟩
    simp (maxSteps := 1000000) (disch := omega) only [h0, h1, h5, hl, S, S1, S2, S3, S4, S5, ST, eq_self, reduceIte, reduceCtorEq, Nat.reduceEqDiff, Nat.reduceAdd]
    refine brD.intro (fun g => ?_) (fun g => ?_)
    · have hi : i < n := by omega
      have hi2 : i < (runP k n).length := by rw [runP_len]; exact hi
      simp (maxSteps := 1000000) (disch := omega) only [h0, h1, h5, wrap64, S, S1, S2, S3, S4, S5, ST, eq_self, reduceIte, reduceCtorEq, Nat.reduceEqDiff, Nat.reduceAdd]
      refine LoopH.by (fun m' s' H' => ∃ j, m' + j = 2 ∧ s' 0 = v ∧ s' 1 = .int .i64 (k + 2 * (i : Nat) + (j : Nat)) ∧ s' 5 = .int .i64 ((i : Nat) : Int) ∧ s' 6 = .int .i64 ((j : Nat) : Int) ∧ H = H') 2 ?_ ?_
      · exact ⟨0, by simp, by simp [S, S1, S2, S3, S4, S5, ST, eq_self, reduceIte, reduceCtorEq, Nat.reduceEqDiff, Nat.reduceAdd, h0], by simp [S, S1, S2, S3, S4, S5, ST, eq_self, reduceIte, reduceCtorEq, Nat.reduceEqDiff, Nat.reduceAdd, h1], by simp [S, S1, S2, S3, S4, S5, ST, eq_self, reduceIte, reduceCtorEq, Nat.reduceEqDiff, Nat.reduceAdd, h5], by simp [S, S1, S2, S3, S4, S5, ST, eq_self, reduceIte, reduceCtorEq, Nat.reduceEqDiff, Nat.reduceAdd], rfl⟩
      · rintro m' s' H' ⟨j, hm', g0, g1, g5, g6, rfl⟩
        simp (maxSteps := 1000000) (disch := omega) only [g0, g1, g5, g6, S, S1, S2, S3, S4, S5, ST, eq_self, reduceIte, reduceCtorEq, Nat.reduceEqDiff, Nat.reduceAdd]
        refine brD.intro (fun q => ?_) (fun q => ?_)
        · have hcell : cellA H (rowO v) (rowK v + 2 * i + j) = some (.int .i64 (k + 2 * i + j)) := by
            rw [Nat.add_assoc, hr.cell (by rw [runP_len]; omega), runP_flat, runI_at k _ _ (by omega)]
            congr 2
            omega
          simp (maxSteps := 1000000) (disch := omega) only [g0, g1, g5, g6, hr.ix Try.underlying22 cs81, runP_len, ixa81, Int.toNat_natCast, hcell, S, S1, S2, S3, S4, S5, ST, eq_self, reduceIte, reduceCtorEq, Nat.reduceEqDiff, Nat.reduceAdd]
          simp (maxSteps := 1000000) (disch := omega) only [g0, g1, g5, g6, wrap64, S, S1, S2, S3, S4, S5, ST, eq_self, reduceIte, reduceCtorEq, Nat.reduceEqDiff, Nat.reduceAdd]
          refine ⟨m' - 1, by omega, j + 1, ?_⟩
          (repeat' first | apply And.intro) <;> first | (simp only [Value.int.injEq, true_and]; omega) | omega | rfl | assumption | (simp; done) | (simp; omega)
        · have hj : j = 2 := by omega
          subst hj
          simp (maxSteps := 1000000) (disch := omega) only [g0, g1, g5, g6, wrap64, S, S1, S2, S3, S4, S5, ST, eq_self, reduceIte, reduceCtorEq, Nat.reduceEqDiff, Nat.reduceAdd]
          refine ⟨m - 1, by omega, i + 1, ?_⟩
          (repeat' first | apply And.intro) <;> first | (simp only [Value.int.injEq, true_and]; omega) | omega | rfl | assumption | (simp; done) | (simp; omega)
    · simp (maxSteps := 1000000) (disch := omega) only [h1, S, S1, S2, S3, S4, S5, ST, eq_self, reduceIte, reduceCtorEq, Nat.reduceEqDiff, Nat.reduceAdd]
      refine hQ _ _ _ ?_
      simp (maxSteps := 1000000) (disch := omega) only [h1, S, S1, S2, S3, S4, S5, ST, eq_self, reduceIte, reduceCtorEq, Nat.reduceEqDiff, Nat.reduceAdd]
      have : i = n := by omega
      rw [this]
end Go.Proofs.Ytlfongfhbkefmaa.Ai
namespace Go.Proofs.Ytlfongfhbkefmaa.Ai
open Go
def ords12 : List (Nat × List (Nat × Bool)) := []
def cd12 : Cd := (.seq (.reg [⟨⟨some 2, Op.box 24 (Operand.tmp 0), none⟩, []⟩,
  ⟨⟨some 4, Op.assign (Operand.const (Value.int IntKind.i64 0)), none⟩, []⟩]) (.seq (.reg [⟨⟨some 5, Op.fieldAddr 24 (Operand.tmp 2) 1, none⟩, []⟩,
  ⟨⟨some 6, Op.load 22 (Operand.tmp 5), none⟩, []⟩,
  ⟨⟨some 7, Op.move (Operand.tmp 1), none⟩, []⟩,
  ⟨⟨some 8, Op.call { callee := (Callee.value (Operand.func 65)), args := #[(Operand.tmp 6), (Operand.tmp 7)], argTypes := #[22, 3] }, none⟩, []⟩,
  ⟨⟨some 1, Op.assign (Operand.tmp 8), none⟩, []⟩]) (.seq (.seq (.reg [⟨⟨some 9, Op.move (Operand.tmp 1), none⟩, []⟩,
  ⟨⟨some 10, Op.binOp BinOp.lss 3 (Operand.tmp 9) (Operand.const (Value.int IntKind.i64 0)) 3, none⟩, []⟩]) (.cond (Operand.tmp 10) (.seq (.reg [⟨⟨some 4, Op.assign (Operand.const (Value.int IntKind.i64 (-1))), none⟩, []⟩]) .ret) .skip)) (.seq (.reg [⟨⟨some 11, Op.move (Operand.tmp 1), none⟩, []⟩,
  ⟨⟨some 4, Op.assign (Operand.tmp 11), none⟩, []⟩]) .ret))))
theorem sl12 : slim Try.f12.ntmps ords12 (Try.f12.body.getD .skip) = some cd12 := by kernel_rfl
theorem in12 {args : List Value} {H : AH} {R : Value → AH → Prop} (hl : args.length = 2) (h : ∀ (Q : Exit → Sl → AH → Prop), (∀ e s H, endA Try.prog [ResultVar.tmp 4] R e s H → Q e s H) → wpC Try.prog cd12 Q (enterA args) H) : ACalls Try.prog 12 args H R :=
  ACalls.intro (by kernel_rfl) Try.func12 rfl (by kernel_rfl) sl12 hl (of_decide_eq_true (by kernel_rfl)) (by kernel_rfl) h
def ords14 : List (Nat × List (Nat × Bool)) := []
def cd14 : Cd := (.seq (.reg [⟨⟨some 1, Op.box 24 (Operand.tmp 0), none⟩, []⟩,
  ⟨⟨some 2, Op.alloc 31, none⟩, []⟩]) (.seq (.reg [⟨⟨some 3, Op.alloc 31, none⟩, []⟩]) (.seq (.reg [⟨⟨some 4, Op.fieldAddr 24 (Operand.tmp 1) 0, none⟩, []⟩,
  ⟨⟨some 5, Op.load 3 (Operand.tmp 4), none⟩, []⟩,
  ⟨⟨some 6, Op.fieldAddr 31 (Operand.tmp 3) 0, none⟩, []⟩,
  ⟨⟨none, Op.store 3 (Operand.tmp 6) (Operand.tmp 5), none⟩, []⟩]) (.seq (.reg [⟨⟨some 7, Op.fieldAddr 24 (Operand.tmp 1) 1, none⟩, []⟩,
  ⟨⟨some 8, Op.load 22 (Operand.tmp 7), none⟩, []⟩,
  ⟨⟨some 9, Op.call { callee := (Callee.value (Operand.func 70)), args := #[(Operand.tmp 8)], argTypes := #[22] }, none⟩, []⟩,
  ⟨⟨some 10, Op.fieldAddr 31 (Operand.tmp 3) 1, none⟩, []⟩,
  ⟨⟨none, Op.store 22 (Operand.tmp 10) (Operand.tmp 9), none⟩, []⟩]) (.seq (.reg [⟨⟨some 11, Op.load 31 (Operand.tmp 3), none⟩, []⟩,
  ⟨⟨none, Op.store 31 (Operand.tmp 2) (Operand.tmp 11), none⟩, []⟩]) .ret)))))
theorem sl14 : slim Try.f14.ntmps ords14 (Try.f14.body.getD .skip) = some cd14 := by kernel_rfl
set_option maxRecDepth 20000 in
theorem in14 {args : List Value} {H : AH} {R : Value → AH → Prop} (hl : args.length = 1) (h : ∀ (Q : Exit → Sl → AH → Prop), (∀ e s H, endA Try.prog [ResultVar.cell 2 31] R e s H → Q e s H) → wpC Try.prog cd14 Q (enterA args) H) : ACalls Try.prog 14 args H R :=
  ACalls.intro (by kernel_rfl) Try.func14 rfl (by kernel_rfl) sl14 hl (of_decide_eq_true (by kernel_rfl)) (by kernel_rfl) h
def ords17 : List (Nat × List (Nat × Bool)) := []
def cd17 : Cd := (.seq (.reg [⟨⟨some 2, Op.box 31 (Operand.tmp 0), none⟩, []⟩,
  ⟨⟨some 3, Op.box 31 (Operand.tmp 1), none⟩, []⟩,
  ⟨⟨some 4, Op.assign (Operand.const (Value.bool false)), none⟩, []⟩]) (.seq (.seq (.reg [⟨⟨some 5, Op.fieldAddr 31 (Operand.tmp 2) 0, none⟩, []⟩,
  ⟨⟨some 6, Op.load 3 (Operand.tmp 5), none⟩, []⟩,
  ⟨⟨some 7, Op.fieldAddr 31 (Operand.tmp 3) 0, none⟩, []⟩,
  ⟨⟨some 8, Op.load 3 (Operand.tmp 7), none⟩, []⟩,
  ⟨⟨some 9, Op.binOp BinOp.neq 3 (Operand.tmp 6) (Operand.tmp 8) 3, none⟩, []⟩]) (.cond (Operand.tmp 9) (.seq (.reg [⟨⟨some 4, Op.assign (Operand.const (Value.bool false)), none⟩, []⟩]) .ret) .skip)) (.seq (.seq (.reg [⟨⟨some 10, Op.fieldAddr 31 (Operand.tmp 2) 1, none⟩, []⟩,
  ⟨⟨some 11, Op.load 22 (Operand.tmp 10), none⟩, []⟩,
  ⟨⟨some 12, Op.fieldAddr 31 (Operand.tmp 3) 1, none⟩, []⟩,
  ⟨⟨some 13, Op.load 22 (Operand.tmp 12), none⟩, []⟩,
  ⟨⟨some 14, Op.call { callee := (Callee.value (Operand.func 77)), args := #[(Operand.tmp 11), (Operand.tmp 13)], argTypes := #[22, 22] }, none⟩, []⟩,
  ⟨⟨some 15, Op.unOp UnOp.not 4 (Operand.tmp 14), none⟩, []⟩]) (.cond (Operand.tmp 15) (.seq (.reg [⟨⟨some 4, Op.assign (Operand.const (Value.bool false)), none⟩, []⟩]) .ret) .skip)) (.seq (.reg [⟨⟨some 4, Op.assign (Operand.const (Value.bool true)), none⟩, []⟩]) .ret))))
theorem sl17 : slim Try.f17.ntmps ords17 (Try.f17.body.getD .skip) = some cd17 := by kernel_rfl
theorem in17 {args : List Value} {H : AH} {R : Value → AH → Prop} (hl : args.length = 2) (h : ∀ (Q : Exit → Sl → AH → Prop), (∀ e s H, endA Try.prog [ResultVar.tmp 4] R e s H → Q e s H) → wpC Try.prog cd17 Q (enterA args) H) : ACalls Try.prog 17 args H R :=
  ACalls.intro (by kernel_rfl) Try.func17 rfl (by kernel_rfl) sl17 hl (of_decide_eq_true (by kernel_rfl)) (by kernel_rfl) h
def ords18 : List (Nat × List (Nat × Bool)) := []
def cd18 : Cd := (.seq (.reg [⟨⟨some 2, Op.box 31 (Operand.tmp 0), none⟩, []⟩,
  ⟨⟨some 4, Op.assign (Operand.const (Value.int IntKind.i64 0)), none⟩, []⟩]) (.seq (.reg [⟨⟨some 5, Op.fieldAddr 31 (Operand.tmp 2) 1, none⟩, []⟩,
  ⟨⟨some 6, Op.load 22 (Operand.tmp 5), none⟩, []⟩,
  ⟨⟨some 7, Op.move (Operand.tmp 1), none⟩, []⟩,
  ⟨⟨some 8, Op.call { callee := (Callee.value (Operand.func 78)), args := #[(Operand.tmp 6), (Operand.tmp 7)], argTypes := #[22, 3] }, none⟩, []⟩,
  ⟨⟨some 1, Op.assign (Operand.tmp 8), none⟩, []⟩]) (.seq (.reg [⟨⟨some 9, Op.move (Operand.tmp 1), none⟩, []⟩,
  ⟨⟨some 4, Op.assign (Operand.tmp 9), none⟩, []⟩]) .ret)))
theorem sl18 : slim Try.f18.ntmps ords18 (Try.f18.body.getD .skip) = some cd18 := by kernel_rfl
theorem in18 {args : List Value} {H : AH} {R : Value → AH → Prop} (hl : args.length = 2) (h : ∀ (Q : Exit → Sl → AH → Prop), (∀ e s H, endA Try.prog [ResultVar.tmp 4] R e s H → Q e s H) → wpC Try.prog cd18 Q (enterA args) H) : ACalls Try.prog 18 args H R :=
  ACalls.intro (by kernel_rfl) Try.func18 rfl (by kernel_rfl) sl18 hl (of_decide_eq_true (by kernel_rfl)) (by kernel_rfl) h
end Go.Proofs.Ytlfongfhbkefmaa.Ai
namespace Go.Proofs.Ytlfongfhbkefmaa.Ai
open Go Go.RowKit
set_option linter.unusedVariables false
set_option linter.unusedSimpArgs false
theorem st_at {P : Program} {t e : TypeId} (hc : P.cellsOf t = 1) {H : AH} {o i : Nat} {vs : List Value} {y : Value} (ho : H[o]? = some (.cells vs e false)) (hi : i < vs.length) (h1 : isTup y = false) (h2 : y.cells.toList = [y]) :
    storeA P t (.pointer (some ⟨o, i, none⟩)) y H = some (H.set o (.cells (vs.set i y) e false)) := by
  simp only [storeA, ho]
  rw [h2, if_pos ⟨h1, by rw [hc]; rfl, by omega, by simp; omega⟩]
  have : putAt vs i [y] = vs.set i y := by
    unfold putAt
    rw [List.set_eq_take_append_cons_drop, if_pos hi]
    simp
  rw [this]
theorem ld_agg {P : Program} {t e : TypeId} (h : isAggA P t = some true) (hc : P.cellsOf t = 2) {H : AH} {o : Nat} {a b : Value} {ro : Bool} (ho : H[o]? = some (.cells [a, b] e ro)) : loadA P t (.pointer (some ⟨o, 0, none⟩)) H = some (.agg (List.toArray [a, b])) :=
  ld_two h hc (by rw [cell_of ho]; rfl) (by rw [cell_of ho]; rfl)
section
variable {e : TypeId} {G H : AH} {v : Value} {ps : List (Int × Int)}
theorem RowP.boxL (h : RowP e G v ps) (n : Int) : boxA Try.prog 24 (.agg (List.toArray [.int .i64 n, v])) H = some (.pointer (some ⟨H.length, 0, none⟩), H ++ [.cells [.int .i64 n, v] 24 false]) := by
  obtain ⟨q, rfl⟩ := h.shape; kernel_rfl
theorem RowP.boxG (h : RowP e G v ps) (n : Int) : boxA Try.prog 31 (.agg (List.toArray [.int .i64 n, v])) H = some (.pointer (some ⟨H.length, 0, none⟩), H ++ [.cells [.int .i64 n, v] 31 false]) := by
  obtain ⟨q, rfl⟩ := h.shape; kernel_rfl
end
theorem alloc_G (H : AH) : allocA Try.prog 31 H = some (.pointer (some ⟨H.length, 0, none⟩), H ++ [.cells [.int .i64 0, .slice none 0 0] 31 false]) := by kernel_rfl
theorem st_G {e e2 : TypeId} {G H : AH} {v : Value} {ps : List (Int × Int)} (h : RowP e2 G v ps) {o : Nat} {vs : List Value} (ho : H[o]? = some (.cells vs e false)) (hv : vs.length = 2) (n : Int) :
    storeA Try.prog 31 (.pointer (some ⟨o, 0, none⟩)) (.agg (List.toArray [.int .i64 n, v])) H = some (H.set o (.cells [.int .i64 n, v] e false)) := by
  obtain ⟨q, rfl⟩ := h.shape
  simp only [storeA, ho, cs31]
  have hcl : (Value.agg (List.toArray [.int .i64 n, .slice q ps.length ps.length])).cells.toList = [.int .i64 n, .slice q ps.length ps.length] := rfl
  rw [hcl, if_pos ⟨rfl, rfl, by decide, by rw [hv]; exact Nat.le_refl 2⟩]
  have : putAt vs 0 [.int .i64 n, .slice q ps.length ps.length] = [.int .i64 n, .slice q ps.length ps.length] := by
    unfold putAt
    rw [List.take_zero, List.nil_append, List.drop_of_length_le (by simp; omega), List.append_nil]
  rw [this]
theorem MineP.keepL {e : TypeId} {H0 H H' : AH} {v : Value} {ps : List (Int × Int)} (h : MineP e H0 H v ps) (hh : H0.length ≤ rowO v → ∀ y, H[rowO v]? = some y → H'[rowO v]? = some y) : MineP e H0 H' v ps := by
  rcases h with h | ⟨o, zs, h1, h2, h3, h4⟩
  · exact .inl h
  · subst h1; exact .inr ⟨o, zs, rfl, h2, hh h2 _ h3, h4⟩
theorem two_of {α : Type} : ∀ (l : List α), l.length = 2 → ∃ a b, l = [a, b]
  | [a, b], _ => ⟨a, b, rfl⟩
theorem cell_new (H : AH) (vs : List Value) (e : TypeId) (ro : Bool) (i : Nat) : cellA (H ++ [.cells vs e ro]) H.length i = vs[i]? := cell_of (at_new ..) i
theorem szGraph_c (n : Int) (v : Value) (ps : List (Int × Int)) (k : Int) (H : AH) (hr : RowP 81 H v ps) (hk : 0 ≤ k ∧ k ≤ 1099511627776) (hl : (ps.length : Int) ≤ 9223372036854775807) :
    ACalls Try.prog 12 [.agg (List.toArray [.int .i64 n, v]), .int .i64 k] H fun r H' => r = .int .i64 (if k - ps.length < 0 then -1 else k - ps.length) ∧ H <+: H' := by
  refine in12 rfl ?_
  intro Q hQ
  have hp := List.prefix_append H [AObj.cells [.int .i64 n, v] 24 false]
  simp (maxSteps := 1000000) (disch := omega) only [cd12, hr.boxL, cell_new, S, S1, S2, S3, S4, S5, ST, eq_self, reduceIte, reduceCtorEq, Nat.reduceEqDiff, Nat.reduceAdd]
  refine CallH.by (szIntA2S_c v ps k _ (hr.pre hp) hk hl) ?_
  rintro _ _ ⟨rfl, rfl⟩
  simp (maxSteps := 1000000) (disch := omega) only [S, S1, S2, S3, S4, S5, ST, eq_self, reduceIte, reduceCtorEq, Nat.reduceEqDiff, Nat.reduceAdd]
  by_cases g : k - (ps.length : Int) < 0
  · rw [if_pos g]
    refine brD.intro (fun _ => ?_) (fun h => absurd h (by omega)) <;> simp (maxSteps := 1000000) (disch := omega) only [S, S1, S2, S3, S4, S5, ST, eq_self, reduceIte, reduceCtorEq, Nat.reduceEqDiff, Nat.reduceAdd]
    refine hQ _ _ _ ?_
    simp (maxSteps := 1000000) (disch := omega) only [g, S, S1, S2, S3, S4, S5, ST, eq_self, reduceIte, reduceCtorEq, Nat.reduceEqDiff, Nat.reduceAdd]
    exact hp
  · rw [if_neg g]
    refine brD.intro (fun h => absurd h (by omega)) (fun _ => ?_) <;> simp (maxSteps := 1000000) (disch := omega) only [S, S1, S2, S3, S4, S5, ST, eq_self, reduceIte, reduceCtorEq, Nat.reduceEqDiff, Nat.reduceAdd]
    refine hQ _ _ _ ?_
    simp (maxSteps := 1000000) (disch := omega) only [g, S, S1, S2, S3, S4, S5, ST, eq_self, reduceIte, reduceCtorEq, Nat.reduceEqDiff, Nat.reduceAdd]
    exact hp
set_option maxRecDepth 20000 in
set_option maxHeartbeats 1000000 in
theorem toGraph_c (n : Int) (v : Value) (ps : List (Int × Int)) (H : AH) (hr : RowP 81 H v ps) (hlen : ps.length ≤ 1099511627776) :
    ACalls Try.prog 14 [.agg (List.toArray [.int .i64 n, v])] H fun r H' => ∃ g, r = .agg (List.toArray [.int .i64 n, g]) ∧ MineP 81 H H' g ps ∧ H <+: H' := by
  refine in14 rfl ?_
  intro Q hQ
  simp (maxSteps := 1000000) (disch := omega) only [cd14, hr.boxL, alloc_G, S, S1, S2, S3, S4, S5, ST, eq_self, reduceIte, reduceCtorEq, Nat.reduceEqDiff, Nat.reduceAdd]
  generalize hA : H ++ [AObj.cells [.int .i64 n, v] 24 false] = A
  have pA : H <+: A := by rw [← hA]; exact List.prefix_append _ _
  have a0 : A[H.length]? = some (.cells [.int .i64 n, v] 24 false) := by rw [← hA]; exact at_new ..
  generalize hB : A ++ [AObj.cells [.int .i64 0, .slice none 0 0] 31 false] = B
  have pB : A <+: B := by rw [← hB]; exact List.prefix_append _ _
  have b1 : B[A.length]? = some (.cells [.int .i64 0, .slice none 0 0] 31 false) := by rw [← hB]; exact at_new ..
  have c0 : (B ++ [AObj.cells [.int .i64 0, .slice none 0 0] 31 false])[B.length]? = some (.cells [.int .i64 0, .slice none 0 0] 31 false) := at_new ..
  have pC : H <+: B ++ [AObj.cells [.int .i64 0, .slice none 0 0] 31 false] := pre_app (pA.trans pB) _
  have a1 : ∀ x, (B ++ [x])[H.length]? = some (.cells [.int .i64 n, v] 24 false) := fun x => at_app (pre_at pB a0) [x]
  have b2 : ∀ x, (B ++ [x])[A.length]? = some (.cells [.int .i64 0, .slice none 0 0] 31 false) := fun x => at_app b1 [x]
  have c1 : (B ++ [AObj.cells [.int .i64 n, .slice none 0 0] 31 false])[B.length]? = some (.cells [.int .i64 n, .slice none 0 0] 31 false) := at_new ..
  simp (maxSteps := 1000000) (disch := omega) only [cell_of (a1 _), st_at cs3 c0 (i := 0) (y := .int .i64 n) (by show 0 < 2; decide) rfl rfl, set_new, List.set_cons_zero, S, S1, S2, S3, S4, S5, ST, eq_self, reduceIte, reduceCtorEq, Nat.reduceEqDiff, Nat.reduceAdd]
  generalize hC : B ++ [AObj.cells [.int .i64 n, .slice none 0 0] 31 false] = C at *
  have pBC : B <+: C := by rw [← hC]; exact List.prefix_append _ _
  have pHC := (pA.trans pB).trans pBC
  refine CallH.by (toIntA2S_c v ps C (hr.pre pHC) hlen) ?_
  rintro g D ⟨hg, pD⟩
  have c2 := pre_at pD c1
  have hgs := hg.row.shape
  obtain ⟨q, eg⟩ := hgs
  have t1 : isTup g = false := by rw [eg]; rfl
  have t2 : g.cells.toList = [g] := by rw [eg]; rfl
  have d1 : (D.set B.length (.cells [.int .i64 n, g] 31 false))[B.length]? = some (.cells [.int .i64 n, g] 31 false) := at_set c2
  simp (maxSteps := 1000000) (disch := omega) only [st_at cs22 c2 (i := 1) (y := g) (by show 1 < 2; decide) t1 t2, List.set_cons_zero, List.set_cons_succ, ld_agg ag31 cs31 d1, S, S1, S2, S3, S4, S5, ST, eq_self, reduceIte, reduceCtorEq, Nat.reduceEqDiff, Nat.reduceAdd]
  have d2 : (D.set B.length (.cells [.int .i64 n, g] 31 false))[A.length]? = some (.cells [.int .i64 0, .slice none 0 0] 31 false) := by
    rw [List.getElem?_set_ne (by rw [← hB]; simp)]
    exact pre_at (pBC.trans pD) b1
  simp (maxSteps := 1000000) (disch := omega) only [st_G hg.row d2 rfl n, S, S1, S2, S3, S4, S5, ST, eq_self, reduceIte, reduceCtorEq, Nat.reduceEqDiff, Nat.reduceAdd]
  have d3 := at_set (d := .cells [.int .i64 n, g] 31 false) d2
  refine hQ _ _ _ (end_cell _ _ _ _ _ _ (.agg (List.toArray [.int .i64 n, g])) ?_ rfl ⟨g, rfl, ?_, ?_⟩)
  · simp (maxSteps := 1000000) (disch := omega) only [ld_agg ag31 cs31 d3, S, S1, S2, S3, S4, S5, ST, eq_self, reduceIte, reduceCtorEq, Nat.reduceEqDiff, Nat.reduceAdd]
  · refine (hg.keepL ?_).base pHC
    intro hl y hy
    have l1 := pHC.length_le
    have l2 : C.length = B.length + 1 := by rw [← hC]; simp
    have l3 : B.length = A.length + 1 := by rw [← hB]; simp
    rw [List.getElem?_set_ne (by omega), List.getElem?_set_ne (by omega)]
    exact hy
  · exact pre_set (pre_set (pHC.trans pD) (by have := (pA.trans pB).length_le; omega) _) pA.length_le _
theorem eqGraph_c (n m : Int) (v w : Value) (ps qs : List (Int × Int)) (H : AH) (hr : RowP 81 H v ps) (hr2 : RowP 81 H w qs) (hlen : ps.length ≤ 1099511627776) :
    ACalls Try.prog 17 [.agg (List.toArray [.int .i64 n, v]), .agg (List.toArray [.int .i64 m, w])] H fun r H' => r = .bool (decide (n = m ∧ ps = qs)) ∧ H <+: H' := by
  refine in17 rfl ?_
  intro Q hQ
  simp (maxSteps := 1000000) (disch := omega) only [cd17, hr.boxG, hr2.boxG, S, S1, S2, S3, S4, S5, ST, eq_self, reduceIte, reduceCtorEq, Nat.reduceEqDiff, Nat.reduceAdd]
  generalize hA : H ++ [AObj.cells [.int .i64 n, v] 31 false] = A
  have pA : H <+: A := by rw [← hA]; exact List.prefix_append _ _
  have a0 : A[H.length]? = some (.cells [.int .i64 n, v] 31 false) := by rw [← hA]; exact at_new ..
  generalize hB : A ++ [AObj.cells [.int .i64 m, w] 31 false] = B
  have pB : A <+: B := by rw [← hB]; exact List.prefix_append _ _
  have b0 := pre_at pB a0
  have b1 : B[A.length]? = some (.cells [.int .i64 m, w] 31 false) := by rw [← hB]; exact at_new ..
  have pHB := pA.trans pB
  simp (maxSteps := 1000000) (disch := omega) only [cell_of b0, cell_of b1, S, S1, S2, S3, S4, S5, ST, eq_self, reduceIte, reduceCtorEq, Nat.reduceEqDiff, Nat.reduceAdd]
  refine brD.intro (fun g => ?_) (fun g => ?_) <;> simp (maxSteps := 1000000) (disch := omega) only [cell_of b0, cell_of b1, S, S1, S2, S3, S4, S5, ST, eq_self, reduceIte, reduceCtorEq, Nat.reduceEqDiff, Nat.reduceAdd]
  · refine hQ _ _ _ ?_
    simp (maxSteps := 1000000) (disch := omega) only [S, S1, S2, S3, S4, S5, ST, eq_self, reduceIte, reduceCtorEq, Nat.reduceEqDiff, Nat.reduceAdd]
    refine ⟨?_, pHB⟩
    rw [decide_eq_false]
    intro h; exact g h.1
  · have g' := Decidable.not_not.1 g
    refine CallH.by (eqIntA2S_c v w ps qs B (hr.pre pHB) (hr2.pre pHB) hlen) ?_
    rintro _ C ⟨rfl, pC⟩
    have pHC := pHB.trans pC
    simp (maxSteps := 1000000) (disch := omega) only [S, S1, S2, S3, S4, S5, ST, eq_self, reduceIte, reduceCtorEq, Nat.reduceEqDiff, Nat.reduceAdd]
    by_cases e : ps = qs
    · rw [decide_eq_true e]
      simp (maxSteps := 1000000) (disch := omega) only [S, S1, S2, S3, S4, S5, ST, eq_self, reduceIte, reduceCtorEq, Nat.reduceEqDiff, Nat.reduceAdd]
      try (refine brD.intro (fun h => absurd h (by simp)) (fun _ => ?_))
      try simp (maxSteps := 1000000) (disch := omega) only [S, S1, S2, S3, S4, S5, ST, eq_self, reduceIte, reduceCtorEq, Nat.reduceEqDiff, Nat.reduceAdd]
      refine hQ _ _ _ ?_
      simp (maxSteps := 1000000) (disch := omega) only [S, S1, S2, S3, S4, S5, ST, eq_self, reduceIte, reduceCtorEq, Nat.reduceEqDiff, Nat.reduceAdd]
      exact ⟨by rw [decide_eq_true ⟨g', e⟩], pHC⟩
    · rw [decide_eq_false e]
      simp (maxSteps := 1000000) (disch := omega) only [S, S1, S2, S3, S4, S5, ST, eq_self, reduceIte, reduceCtorEq, Nat.reduceEqDiff, Nat.reduceAdd]
      try (refine brD.intro (fun _ => ?_) (fun h => absurd h (by simp)))
      try simp (maxSteps := 1000000) (disch := omega) only [S, S1, S2, S3, S4, S5, ST, eq_self, reduceIte, reduceCtorEq, Nat.reduceEqDiff, Nat.reduceAdd]
      refine hQ _ _ _ ?_
      simp (maxSteps := 1000000) (disch := omega) only [S, S1, S2, S3, S4, S5, ST, eq_self, reduceIte, reduceCtorEq, Nat.reduceEqDiff, Nat.reduceAdd]
      exact ⟨by rw [decide_eq_false (fun h => e h.2)], pHC⟩
theorem markGraph_B (n : Int) (v : Value) (ps : List (Int × Int)) (k : Int) (lo hi : Nat) (H : AH) (h : InP lo hi 81 H v ps) (hlen : ps.length ≤ 1099511627776) (hk : 0 ≤ k ∧ k ≤ 1099511627776) (hb : hi ≤ H.length) :
    ACalls Try.prog 18 [.agg (List.toArray [.int .i64 n, v]), .int .i64 k] H fun r H' => r = .int .i64 (k + 2 * ps.length) ∧ ∃ Hm, InP lo hi 81 Hm v (runP k ps.length) ∧ ElseR lo hi H Hm ∧ Hm <+: H' := by
  refine in18 rfl ?_
  intro Q hQ
  simp (maxSteps := 1000000) (disch := omega) only [cd18, h.row.1.boxG, cell_new, S, S1, S2, S3, S4, S5, ST, eq_self, reduceIte, reduceCtorEq, Nat.reduceEqDiff, Nat.reduceAdd]
  have hp := List.prefix_append H [AObj.cells [.int .i64 n, v] 31 false]
  refine CallH.by (markIntA2S_B v ps k lo hi _ (h.pre hp) hlen hk) ?_
  rintro _ H' ⟨rfl, hin, he⟩
  simp (maxSteps := 1000000) (disch := omega) only [S, S1, S2, S3, S4, S5, ST, eq_self, reduceIte, reduceCtorEq, Nat.reduceEqDiff, Nat.reduceAdd]
  refine hQ _ _ _ ?_
  simp (maxSteps := 1000000) (disch := omega) only [S, S1, S2, S3, S4, S5, ST, eq_self, reduceIte, reduceCtorEq, Nat.reduceEqDiff, Nat.reduceAdd]
  have hH : ∀ o, o < H.length → (H'.take H.length)[o]? = H'[o]? := fun o ho => List.getElem?_take_of_lt ho
  refine ⟨H'.take H.length, ?_, ⟨?_, ?_⟩, List.take_prefix _ _⟩
  · rcases hin with q | ⟨o, zs, h1, h2, h3, h4, h5⟩
    · exact .inl q
    · exact .inr ⟨o, zs, h1, h2, h3, by rw [hH o (by omega)]; exact h4, h5⟩
  · have := he.1
    simp only [List.length_append, List.length_cons, List.length_nil] at this
    rw [List.length_take]; omega
  · intro o x ho hx
    rw [hH o (at_lt hx)]
    exact he.2 o x ho (at_app hx _)
end Go.Proofs.Ytlfongfhbkefmaa.Ai
namespace Go.Proofs.Ytlfongfhbkefmaa.Ai
open Go
def ords67 : List (Nat × List (Nat × Bool)) := []
def cd67 : Cd := (.seq (.reg [⟨⟨some 6, Op.assign (Operand.const (Value.bool false)), none⟩, []⟩]) (.seq (.reg [⟨⟨some 7, Op.move (Operand.tmp 0), none⟩, []⟩,
  ⟨⟨some 8, Op.move (Operand.tmp 1), none⟩, []⟩,
  ⟨⟨some 9, Op.binOp BinOp.geq 3 (Operand.tmp 7) (Operand.tmp 8) 3, none⟩, []⟩,
  ⟨⟨some 10, Op.move (Operand.tmp 9), none⟩, []⟩,
  ⟨⟨some 11, Op.move (Operand.tmp 0), some (10, true)⟩, []⟩,
  ⟨⟨some 12, Op.move (Operand.tmp 2), some (10, true)⟩, []⟩,
  ⟨⟨some 13, Op.binOp BinOp.leq 3 (Operand.tmp 11) (Operand.tmp 12) 3, some (10, true)⟩, []⟩,
  ⟨⟨some 14, Op.pick (Operand.tmp 10) (Operand.tmp 13) (Operand.const (Value.bool false)), none⟩, []⟩,
  ⟨⟨some 6, Op.assign (Operand.tmp 14), none⟩, []⟩]) .ret))
theorem sl67 : slim Try.f67.ntmps ords67 (Try.f67.body.getD .skip) = some cd67 := by kernel_rfl
theorem in67 {args : List Value} {H : AH} {R : Value → AH → Prop} (hl : args.length = 3) (h : ∀ (Q : Exit → Sl → AH → Prop), (∀ e s H, endA Try.prog [ResultVar.tmp 6] R e s H → Q e s H) → wpC Try.prog cd67 Q (enterA args) H) : ACalls Try.prog 67 args H R :=
  ACalls.intro (by kernel_rfl) Try.func67 rfl (by kernel_rfl) sl67 hl (of_decide_eq_true (by kernel_rfl)) (by kernel_rfl) h
def ords72 : List (Nat × List (Nat × Bool)) := []
def cd72 : Cd := (.seq (.reg [⟨⟨some 6, Op.assign (Operand.const (Value.bool false)), none⟩, []⟩]) (.seq (.reg [⟨⟨some 7, Op.move (Operand.tmp 0), none⟩, []⟩,
  ⟨⟨some 8, Op.move (Operand.tmp 1), none⟩, []⟩,
  ⟨⟨some 9, Op.binOp BinOp.geq 3 (Operand.tmp 7) (Operand.tmp 8) 3, none⟩, []⟩,
  ⟨⟨some 10, Op.move (Operand.tmp 9), none⟩, []⟩,
  ⟨⟨some 11, Op.move (Operand.tmp 0), some (10, true)⟩, []⟩,
  ⟨⟨some 12, Op.move (Operand.tmp 2), some (10, true)⟩, []⟩,
  ⟨⟨some 13, Op.binOp BinOp.leq 3 (Operand.tmp 11) (Operand.tmp 12) 3, some (10, true)⟩, []⟩,
  ⟨⟨some 14, Op.pick (Operand.tmp 10) (Operand.tmp 13) (Operand.const (Value.bool false)), none⟩, []⟩,
  ⟨⟨some 6, Op.assign (Operand.tmp 14), none⟩, []⟩]) .ret))
theorem sl72 : slim Try.f72.ntmps ords72 (Try.f72.body.getD .skip) = some cd72 := by kernel_rfl
theorem in72 {args : List Value} {H : AH} {R : Value → AH → Prop} (hl : args.length = 3) (h : ∀ (Q : Exit → Sl → AH → Prop), (∀ e s H, endA Try.prog [ResultVar.tmp 6] R e s H → Q e s H) → wpC Try.prog cd72 Q (enterA args) H) : ACalls Try.prog 72 args H R :=
  ACalls.intro (by kernel_rfl) Try.func72 rfl (by kernel_rfl) sl72 hl (of_decide_eq_true (by kernel_rfl)) (by kernel_rfl) h
end Go.Proofs.Ytlfongfhbkefmaa.Ai
namespace Go.Proofs.Ytlfongfhbkefmaa.Ai
open Go Go.RowKit
set_option linter.unusedVariables false
set_option linter.unusedSimpArgs false
theorem l1In_c (a b c : Int) (H : AH) : ACalls Try.prog 67 [.int .i64 a, .int .i64 b, .int .i64 c] H fun r H' => r = .bool (decide (b ≤ a ∧ a ≤ c)) ∧ H = H' := by
  refine in67 rfl ?_
  intro Q hQ
  simp (maxSteps := 1000000) (disch := omega) only [cd67, S, S1, S2, S3, S4, S5, ST, eq_self, reduceIte, reduceCtorEq, Nat.reduceEqDiff, Nat.reduceAdd]
  refine brD.intro (fun h => ?_) (fun h => ?_) <;> simp (maxSteps := 1000000) (disch := omega) only [h, S, S1, S2, S3, S4, S5, ST, eq_self, reduceIte, reduceCtorEq, Nat.reduceEqDiff, Nat.reduceAdd] <;> refine hQ _ _ _ ?_ <;> simp (maxSteps := 1000000) (disch := omega) only [h, S, S1, S2, S3, S4, S5, ST, eq_self, reduceIte, reduceCtorEq, Nat.reduceEqDiff, Nat.reduceAdd] <;> simp [h]
theorem between_c (a b c : Int) (H : AH) : ACalls Try.prog 72 [.int .i64 a, .int .i64 b, .int .i64 c] H fun r H' => r = .bool (decide (b ≤ a ∧ a ≤ c)) ∧ H = H' := by
  refine in72 rfl ?_
  intro Q hQ
  simp (maxSteps := 1000000) (disch := omega) only [cd72, S, S1, S2, S3, S4, S5, ST, eq_self, reduceIte, reduceCtorEq, Nat.reduceEqDiff, Nat.reduceAdd]
  refine brD.intro (fun h => ?_) (fun h => ?_) <;> simp (maxSteps := 1000000) (disch := omega) only [h, S, S1, S2, S3, S4, S5, ST, eq_self, reduceIte, reduceCtorEq, Nat.reduceEqDiff, Nat.reduceAdd] <;> refine hQ _ _ _ ?_ <;> simp (maxSteps := 1000000) (disch := omega) only [h, S, S1, S2, S3, S4, S5, ST, eq_self, reduceIte, reduceCtorEq, Nat.reduceEqDiff, Nat.reduceAdd] <;> simp [h]
end Go.Proofs.Ytlfongfhbkefmaa.Ai
namespace Go.Proofs.Ytlfongfhbkefmaa.Ai
open Go
def Asc (ys : List Int) : Prop := ∀ i j, i < j → j < ys.length → ys.getD i 0 ≤ ys.getD j 0
def Rsg (n : Int) (ys : List Int) : Prop := ∀ i, i < ys.length → (0 ≤ ys.getD i 0 ∧ ys.getD i 0 ≤ n - 1) ∧ (0 < i → ys.getD (i - 1) 0 < ys.getD i 0)
def Prm (p : List Int) : Prop := p.length ≤ 8 ∧ ∀ x, x < p.length → (x : Int) ∈ p
instance (p : List Int) : Decidable (Prm p) := inferInstanceAs (Decidable (_ ∧ _))
theorem rsg_at {ys : List Int} (h : Rsg ys.length ys) : ∀ i, i < ys.length → ys.getD i 0 = i := by
  have lo : ∀ i, i < ys.length → (i : Int) ≤ ys.getD i 0 := by
    intro i
    induction i with
    | zero => intro hi; exact (h 0 hi).1.1
    | succ i ih =>
      intro hi
      have h1 := ih (by omega)
      have h2 := (h (i + 1) hi).2 (by omega)
      rw [Nat.add_sub_cancel] at h2
      omega
  have hi' : ∀ d i, i + d + 1 = ys.length → ys.getD i 0 ≤ i := by
    intro d
    induction d with
    | zero => intro i hi; have := (h i (by omega)).1.2; omega
    | succ d ih =>
      intro i hi
      have h1 := ih (i + 1) (by omega)
      have h2 := (h (i + 1) (by omega)).2 (by omega)
      rw [Nat.add_sub_cancel] at h2
      omega
  intro i hi
  have := lo i hi
  have := hi' (ys.length - i - 1) i (by omega)
  omega
theorem pos_ex {ys : List Int} {x : Int} (h : x ∈ ys) : ∃ i, i < ys.length ∧ ys.getD i 0 = x := by
  obtain ⟨i, hi, e⟩ := List.getElem_of_mem h
  exact ⟨i, hi, by simp [hi, e]⟩
theorem asc_at {ys : List Int} (ha : Asc ys) (h : ∀ x, x < ys.length → (x : Int) ∈ ys) : ∀ i, i < ys.length → ys.getD i 0 = i := by
  -- a place of each number
  have ex : ∀ x, ∃ i, x < ys.length → (i < ys.length ∧ ys.getD i 0 = x) := by
    intro x
    by_cases hx : x < ys.length
    · obtain ⟨i, hi⟩ := pos_ex (h x hx); exact ⟨i, fun _ => hi⟩
    · exact ⟨0, fun e => absurd e hx⟩
  let pos : Nat → Nat := fun x => Classical.choose (ex x)
  have hp : ∀ x, x < ys.length → pos x < ys.length ∧ ys.getD (pos x) 0 = x := fun x hx => Classical.choose_spec (ex x) hx
  have mono : ∀ x, x + 1 < ys.length → pos x < pos (x + 1) := by
    intro x hx
    have h1 := hp x (by omega)
    have h2 := hp (x + 1) hx
    rcases Nat.lt_trichotomy (pos x) (pos (x + 1)) with h3 | h3 | h3
    · exact h3
    · rw [h3] at h1; rw [h1.2] at h2; omega
    · have := ha _ _ h3 h1.1
      rw [h1.2, h2.2] at this; omega
  have lo : ∀ x, x < ys.length → x ≤ pos x := by
    intro x
    induction x with
    | zero => intro _; omega
    | succ x ih =>
      intro hx
      have := ih (by omega)
      have := mono x hx
      omega
  have hi' : ∀ d x, x + d + 1 = ys.length → pos x ≤ x := by
    intro d
    induction d with
    | zero => intro x hx; have := (hp x (by omega)).1; omega
    | succ d ih =>
      intro x hx
      have := ih (x + 1) (by omega)
      have := mono x (by omega)
      omega
  intro i hi
  have h1 := lo i hi
  have h2 := hi' (ys.length - i - 1) i (by omega)
  have h3 := hp i hi
  have : pos i = i := by omega
  rw [this] at h3
  exact h3.2
/-- THE SORTED LIST RISES exactly if the list has each number. -/
theorem rsg_iff {p ys : List Int} (hp : ys.Perm p) (ha : Asc ys) : Rsg p.length ys ↔ ∀ x, x < p.length → (x : Int) ∈ p := by
  have hl := hp.length_eq
  constructor
  · intro h x hx
    rw [← hl] at h
    have := rsg_at h x (by omega)
    have hm : ys.getD x 0 ∈ ys := by
      have : x < ys.length := by omega
      simp [this]
    rw [this] at hm
    exact hp.mem_iff.1 hm
  · intro h
    have hat := asc_at ha (fun x hx => hp.mem_iff.2 (h x (by omega)))
    intro i hi
    rw [hat i hi]
    refine ⟨⟨by omega, by omega⟩, fun h0 => ?_⟩
    rw [hat (i - 1) (by omega)]
    omega
theorem prm_at {p : List Int} (h : Prm p) {ys : List Int} (hp : ys.Perm p) (ha : Asc ys) : ∀ i, i < ys.length → ys.getD i 0 = i :=
  asc_at ha (fun x hx => hp.mem_iff.2 (h.2 x (by have := hp.length_eq; omega)))
end Go.Proofs.Ytlfongfhbkefmaa.Ai
namespace Go.Proofs.Ytlfongfhbkefmaa.Ai
open Go
/-- a number put into an ascending list -/
def put : List Int → Int → List Int
  | [], x => [x]
  | y :: ys, x => if y < x then y :: put ys x else if y = x then y :: ys else x :: y :: ys
theorem putAt_eq0 (l : List Int) (x : Int) : ∀ k, k ≤ l.length → (∀ j, j < k → l.getD j 0 < x) → (k < l.length → x ≤ l.getD k 0) → put l x = if k < l.length ∧ l.getD k 0 = x then l else l.take k ++ x :: l.drop k := by
  induction l with
  | nil => intro k hk _ _; simp at hk; subst hk; simp [put]
  | cons y ys ih =>
    intro k hk h1 h2
    cases k with
    | zero =>
      have := h2 (by simp)
      simp only [List.getD_cons_zero] at this
      simp only [put]
      rw [if_neg (by omega)]
      by_cases e : y = x
      · rw [if_pos e, if_pos ⟨by simp, by simpa using e⟩]
      · rw [if_neg e, if_neg (by rintro ⟨_, h⟩; exact e (by simpa using h))]; simp
    | succ k =>
      have := h1 0 (by omega)
      simp only [List.getD_cons_zero] at this
      simp only [put]
      rw [if_pos this, ih k (by simpa using hk) (fun j hj => by have := h1 (j + 1) (by omega); simpa using this) (fun hkk => by have := h2 (by simp; omega); simpa using this)]
      by_cases c : k < ys.length ∧ ys.getD k 0 = x
      · rw [if_pos c, if_pos (by simpa using c)]
      · rw [if_neg c, if_neg (by simpa using c)]; simp
theorem put_perm (l : List Int) (x : Int) (h : x ∉ l) : (put l x).Perm (x :: l) := by
  induction l with
  | nil => exact List.Perm.refl _
  | cons y ys ih =>
    simp only [List.mem_cons, not_or] at h
    simp only [put]
    split
    · exact ((ih h.2).cons y).trans (List.Perm.swap x y ys)
    · rw [if_neg (fun e => h.1 e.symm)]
theorem put_mem (l : List Int) (x y : Int) : y ∈ put l x ↔ y = x ∨ y ∈ l := by
  induction l with
  | nil => simp [put]
  | cons z zs ih =>
    simp only [put]
    split
    · simp only [List.mem_cons, ih]
      constructor
      · rintro (h | h | h)
        · exact .inr (.inl h)
        · exact .inl h
        · exact .inr (.inr h)
      · rintro (h | h | h)
        · exact .inr (.inl h)
        · exact .inl h
        · exact .inr (.inr h)
    · split
      · rename_i h1 h2
        subst h2
        simp
      · simp
theorem put_sorted (l : List Int) (x : Int) (h : l.Pairwise (· < ·)) : (put l x).Pairwise (· < ·) := by
  induction l with
  | nil => simp [put]
  | cons y ys ih =>
    simp only [List.pairwise_cons] at h
    simp only [put]
    split
    · rename_i h1
      rw [List.pairwise_cons]
      refine ⟨fun z hz => ?_, ih h.2⟩
      rcases (put_mem ys x z).1 hz with e | e
      · rw [e]; exact h1
      · exact h.1 z e
    · split
      · rw [List.pairwise_cons]; exact h
      · rename_i h1 h2
        rw [List.pairwise_cons]
        refine ⟨fun z hz => ?_, by rw [List.pairwise_cons]; exact h⟩
        rcases List.mem_cons.1 hz with e | e
        · rw [e]; omega
        · have := h.1 z e; omega
theorem put_len (l : List Int) (x : Int) : (put l x).length ≤ l.length + 1 := by
  induction l with
  | nil => simp [put]
  | cons y ys ih => simp only [put]; split <;> (try split) <;> simp <;> omega
/-- numbers put, one after the other -/
def puts (xs : List Int) : List Int := xs.foldl put []
theorem puts_step (xs : List Int) (x : Int) : puts (xs ++ [x]) = put (puts xs) x := by simp [puts]
theorem puts_perm : ∀ (n : Nat) (xs : List Int), xs.length = n → xs.Nodup → (puts xs).Perm xs ∧ (puts xs).Pairwise (· < ·) := by
  intro n
  induction n with
  | zero => intro xs h _; have : xs = [] := List.eq_nil_of_length_eq_zero h; subst this; exact ⟨List.Perm.refl _, List.Pairwise.nil⟩
  | succ n ih =>
    intro xs h hn
    rcases List.eq_nil_or_concat xs with e | ⟨ys, x, e⟩
    · subst e; simp at h
    · subst e
      rw [List.concat_eq_append] at h hn ⊢
      have hn' := List.nodup_append.1 hn
      obtain ⟨i1, i2⟩ := ih ys (by simpa using h) hn'.1
      have hx : x ∉ ys := fun hm => hn'.2.2 x hm x (by simp) rfl
      have hx2 : x ∉ puts ys := fun hm => hx (i1.mem_iff.1 hm)
      rw [puts_step]
      refine ⟨?_, put_sorted _ _ i2⟩
      exact (put_perm _ _ hx2).trans ((i1.cons x).trans (List.perm_append_singleton x ys).symm)
theorem asc_of {ys : List Int} (h : Asc ys) : ys.Pairwise (· ≤ ·) := by
  rw [List.pairwise_iff_getElem]
  intro i j hi hj hij
  have := h i j hij hj
  simpa [hi, hj] using this
/-- THE SORTED LIST is the one that comes of putting. -/
theorem puts_sorted {xs ys : List Int} (hn : xs.Nodup) (hp : ys.Perm xs) (ha : Asc ys) : ys = puts xs := by
  obtain ⟨h1, h2⟩ := puts_perm _ xs rfl hn
  refine List.Perm.eq_of_pairwise (le := (· ≤ ·)) (fun a b _ _ h h' => by omega) (asc_of ha) (h2.imp (fun h => by omega)) (hp.trans h1.symm)
end Go.Proofs.Ytlfongfhbkefmaa.Ai
namespace Go.Proofs.Ytlfongfhbkefmaa.Ai
open Go
def ords256 : List (Nat × List (Nat × Bool)) := []
def cd256 : Cd := (.seq (.reg [⟨⟨some 2, Op.assign (Operand.const (Value.bool false)), none⟩, []⟩]) (.seq (.reg [⟨⟨some 3, Op.move (Operand.tmp 0), none⟩, []⟩,
  ⟨⟨some 4, Op.move (Operand.tmp 0), none⟩, []⟩,
  ⟨⟨some 5, Op.binOp BinOp.neq 3 (Operand.tmp 3) (Operand.tmp 4) 3, none⟩, []⟩,
  ⟨⟨some 2, Op.assign (Operand.tmp 5), none⟩, []⟩]) .ret))
theorem sl256 : slim Try.f256.ntmps ords256 (Try.f256.body.getD .skip) = some cd256 := by kernel_rfl
theorem in256 {args : List Value} {H : AH} {R : Value → AH → Prop} (hl : args.length = 1) (h : ∀ (Q : Exit → Sl → AH → Prop), (∀ e s H, endA Try.prog [ResultVar.tmp 2] R e s H → Q e s H) → wpC Try.prog cd256 Q (enterA args) H) : ACalls Try.prog 256 args H R :=
  ACalls.intro (by kernel_rfl) Try.func256 rfl (by kernel_rfl) sl256 hl (of_decide_eq_true (by kernel_rfl)) (by kernel_rfl) h
def ords221 : List (Nat × List (Nat × Bool)) := []
def cd221 : Cd := (.seq (.reg [⟨⟨some 4, Op.assign (Operand.const (Value.bool false)), none⟩, []⟩]) (.seq (.reg [⟨⟨some 5, Op.move (Operand.tmp 0), none⟩, []⟩,
  ⟨⟨some 6, Op.call { callee := (Callee.value (Operand.func 256)), args := #[(Operand.tmp 5)], argTypes := #[3] }, none⟩, []⟩,
  ⟨⟨some 7, Op.move (Operand.tmp 6), none⟩, []⟩,
  ⟨⟨some 8, Op.move (Operand.tmp 1), some (7, true)⟩, []⟩,
  ⟨⟨some 9, Op.call { callee := (Callee.value (Operand.func 256)), args := #[(Operand.tmp 8)], argTypes := #[3] }, some (7, true)⟩, []⟩,
  ⟨⟨some 10, Op.unOp UnOp.not 4 (Operand.tmp 9), some (7, true)⟩, []⟩,
  ⟨⟨some 11, Op.pick (Operand.tmp 7) (Operand.tmp 10) (Operand.const (Value.bool false)), none⟩, []⟩,
  ⟨⟨some 12, Op.move (Operand.tmp 11), none⟩, []⟩,
  ⟨⟨some 13, Op.move (Operand.tmp 0), some (12, false)⟩, []⟩,
  ⟨⟨some 14, Op.move (Operand.tmp 1), some (12, false)⟩, []⟩,
  ⟨⟨some 15, Op.binOp BinOp.lss 3 (Operand.tmp 13) (Operand.tmp 14) 3, some (12, false)⟩, []⟩,
  ⟨⟨some 16, Op.pick (Operand.tmp 12) (Operand.const (Value.bool true)) (Operand.tmp 15), none⟩, []⟩,
  ⟨⟨some 4, Op.assign (Operand.tmp 16), none⟩, []⟩]) .ret))
theorem sl221 : slim Try.f221.ntmps ords221 (Try.f221.body.getD .skip) = some cd221 := by kernel_rfl
theorem in221 {args : List Value} {H : AH} {R : Value → AH → Prop} (hl : args.length = 2) (h : ∀ (Q : Exit → Sl → AH → Prop), (∀ e s H, endA Try.prog [ResultVar.tmp 4] R e s H → Q e s H) → wpC Try.prog cd221 Q (enterA args) H) : ACalls Try.prog 221 args H R :=
  ACalls.intro (by kernel_rfl) Try.func221 rfl (by kernel_rfl) sl221 hl (of_decide_eq_true (by kernel_rfl)) (by kernel_rfl) h
def ords215 : List (Nat × List (Nat × Bool)) := [(4, [(0, false), (1, false), (2, false), (3, false), (4, false), (5, false), (6, false), (7, false), (8, false), (9, false), (10, false), (11, false), (12, false), (13, true), (14, false)]), (6, [(0, false), (1, false), (2, false), (3, false), (4, false), (5, false), (6, false), (7, false), (8, false), (9, false), (10, false), (11, false), (12, false), (13, false), (14, false), (15, true), (16, false), (17, true)])]
def cd215 : Cd := (.seq (.reg [⟨⟨some 8, Op.move (Operand.tmp 1), none⟩, []⟩,
  ⟨⟨some 9, Op.binOp BinOp.add 3 (Operand.tmp 8) (Operand.const (Value.int IntKind.i64 1)) 3, none⟩, []⟩,
  ⟨⟨some 6, Op.assign (Operand.tmp 9), none⟩, []⟩]) (.block 0 (.loop (.seq (.seq (.reg [⟨⟨some 10, Op.move (Operand.tmp 6), none⟩, []⟩,
  ⟨⟨some 11, Op.move (Operand.tmp 2), none⟩, []⟩,
  ⟨⟨some 12, Op.binOp BinOp.lss 3 (Operand.tmp 10) (Operand.tmp 11) 3, none⟩, []⟩]) (.cond (Operand.tmp 12) .skip (.exit 0))) (.seq (.block 1 (.seq (.reg [⟨⟨some 15, Op.move (Operand.tmp 6), none⟩, []⟩,
  ⟨⟨some 7, Op.assign (Operand.tmp 15), none⟩, []⟩]) (.block 2 (.loop (.seq (.seq (.reg [⟨⟨some 16, Op.move (Operand.tmp 7), none⟩, []⟩,
  ⟨⟨some 17, Op.move (Operand.tmp 1), none⟩, []⟩,
  ⟨⟨some 18, Op.binOp BinOp.gtr 3 (Operand.tmp 16) (Operand.tmp 17) 3, none⟩, []⟩,
  ⟨⟨some 19, Op.move (Operand.tmp 18), none⟩, []⟩,
  ⟨⟨some 20, Op.move (Operand.tmp 0), some (19, true)⟩, []⟩,
  ⟨⟨some 21, Op.move (Operand.tmp 7), some (19, true)⟩, []⟩,
  ⟨⟨some 22, Op.indexAddr 38 (Operand.tmp 20) (Operand.tmp 21), some (19, true)⟩, []⟩,
  ⟨⟨some 23, Op.load 3 (Operand.tmp 22), some (19, true)⟩, []⟩,
  ⟨⟨some 24, Op.move (Operand.tmp 0), some (19, true)⟩, []⟩,
  ⟨⟨some 25, Op.move (Operand.tmp 7), some (19, true)⟩, []⟩,
  ⟨⟨some 26, Op.binOp BinOp.sub 3 (Operand.tmp 25) (Operand.const (Value.int IntKind.i64 1)) 3, some (19, true)⟩, []⟩,
  ⟨⟨some 27, Op.indexAddr 38 (Operand.tmp 24) (Operand.tmp 26), some (19, true)⟩, []⟩,
  ⟨⟨some 28, Op.load 3 (Operand.tmp 27), some (19, true)⟩, []⟩,
  ⟨⟨some 29, Op.call { callee := (Callee.value (Operand.func 221)), args := #[(Operand.tmp 23), (Operand.tmp 28)], argTypes := #[3, 3] }, some (19, true)⟩, []⟩,
  ⟨⟨some 30, Op.pick (Operand.tmp 19) (Operand.tmp 29) (Operand.const (Value.bool false)), none⟩, []⟩]) (.cond (Operand.tmp 30) .skip (.exit 2))) (.seq (.block 3 (.reg [⟨⟨some 33, Op.move (Operand.tmp 0), none⟩, []⟩,
  ⟨⟨some 34, Op.move (Operand.tmp 7), none⟩, []⟩,
  ⟨⟨some 35, Op.move (Operand.tmp 0), none⟩, []⟩,
  ⟨⟨some 36, Op.move (Operand.tmp 7), none⟩, []⟩,
  ⟨⟨some 37, Op.binOp BinOp.sub 3 (Operand.tmp 36) (Operand.const (Value.int IntKind.i64 1)) 3, none⟩, []⟩,
  ⟨⟨some 38, Op.move (Operand.tmp 0), none⟩, []⟩,
  ⟨⟨some 39, Op.move (Operand.tmp 7), none⟩, []⟩,
  ⟨⟨some 40, Op.binOp BinOp.sub 3 (Operand.tmp 39) (Operand.const (Value.int IntKind.i64 1)) 3, none⟩, []⟩,
  ⟨⟨some 41, Op.indexAddr 38 (Operand.tmp 38) (Operand.tmp 40), none⟩, []⟩,
  ⟨⟨some 42, Op.load 3 (Operand.tmp 41), none⟩, []⟩,
  ⟨⟨some 43, Op.move (Operand.tmp 0), none⟩, []⟩,
  ⟨⟨some 44, Op.move (Operand.tmp 7), none⟩, []⟩,
  ⟨⟨some 45, Op.indexAddr 38 (Operand.tmp 43) (Operand.tmp 44), none⟩, []⟩,
  ⟨⟨some 46, Op.load 3 (Operand.tmp 45), none⟩, []⟩,
  ⟨⟨some 47, Op.indexAddr 38 (Operand.tmp 33) (Operand.tmp 34), none⟩, []⟩,
  ⟨⟨none, Op.store 3 (Operand.tmp 47) (Operand.tmp 42), none⟩, []⟩,
  ⟨⟨some 48, Op.indexAddr 38 (Operand.tmp 35) (Operand.tmp 37), none⟩, []⟩,
  ⟨⟨none, Op.store 3 (Operand.tmp 48) (Operand.tmp 46), none⟩, []⟩])) (.reg [⟨⟨some 31, Op.move (Operand.tmp 7), none⟩, []⟩,
  ⟨⟨some 32, Op.binOp BinOp.sub 3 (Operand.tmp 31) (Operand.const (Value.int IntKind.i64 1)) 3, none⟩, []⟩,
  ⟨⟨some 7, Op.assign (Operand.tmp 32), none⟩, []⟩]))))))) (.reg [⟨⟨some 13, Op.move (Operand.tmp 6), none⟩, []⟩,
  ⟨⟨some 14, Op.binOp BinOp.add 3 (Operand.tmp 13) (Operand.const (Value.int IntKind.i64 1)) 3, none⟩, []⟩,
  ⟨⟨some 6, Op.assign (Operand.tmp 14), none⟩, []⟩]))))))
theorem sl215 : slim Try.f215.ntmps ords215 (Try.f215.body.getD .skip) = some cd215 := by kernel_rfl
theorem in215 {args : List Value} {H : AH} {R : Value → AH → Prop} (hl : args.length = 3) (h : ∀ (Q : Exit → Sl → AH → Prop), (∀ e s H, endA Try.prog [] R e s H → Q e s H) → wpC Try.prog cd215 Q (enterA args) H) : ACalls Try.prog 215 args H R :=
  ACalls.intro (by kernel_rfl) Try.func215 rfl (by kernel_rfl) sl215 hl (of_decide_eq_true (by kernel_rfl)) (by kernel_rfl) h
def ords225 : List (Nat × List (Nat × Bool)) := []
def cd225 : Cd := (.seq (.reg [⟨⟨some 2, Op.assign (Operand.const (Value.int IntKind.i64 0)), none⟩, []⟩]) (.seq (.seq (.reg [⟨⟨some 3, Op.move (Operand.tmp 0), none⟩, []⟩,
  ⟨⟨some 4, Op.binOp BinOp.geq 122 (Operand.tmp 3) (Operand.const (Value.int IntKind.u64 4294967296)) 122, none⟩, []⟩]) (.cond (Operand.tmp 4) (.seq (.reg [⟨⟨some 5, Op.move (Operand.tmp 0), none⟩, []⟩,
  ⟨⟨some 6, Op.binOp BinOp.shr 122 (Operand.tmp 5) (Operand.const (Value.int IntKind.u64 32)) 97, none⟩, []⟩,
  ⟨⟨some 0, Op.assign (Operand.tmp 6), none⟩, []⟩]) (.reg [⟨⟨some 2, Op.assign (Operand.const (Value.int IntKind.i64 32)), none⟩, []⟩])) .skip)) (.seq (.seq (.reg [⟨⟨some 7, Op.move (Operand.tmp 0), none⟩, []⟩,
  ⟨⟨some 8, Op.binOp BinOp.geq 122 (Operand.tmp 7) (Operand.const (Value.int IntKind.u64 65536)) 122, none⟩, []⟩]) (.cond (Operand.tmp 8) (.seq (.reg [⟨⟨some 9, Op.move (Operand.tmp 0), none⟩, []⟩,
  ⟨⟨some 10, Op.binOp BinOp.shr 122 (Operand.tmp 9) (Operand.const (Value.int IntKind.u64 16)) 97, none⟩, []⟩,
  ⟨⟨some 0, Op.assign (Operand.tmp 10), none⟩, []⟩]) (.reg [⟨⟨some 11, Op.move (Operand.tmp 2), none⟩, []⟩,
  ⟨⟨some 12, Op.binOp BinOp.add 3 (Operand.tmp 11) (Operand.const (Value.int IntKind.i64 16)) 3, none⟩, []⟩,
  ⟨⟨some 2, Op.assign (Operand.tmp 12), none⟩, []⟩])) .skip)) (.seq (.seq (.reg [⟨⟨some 13, Op.move (Operand.tmp 0), none⟩, []⟩,
  ⟨⟨some 14, Op.binOp BinOp.geq 122 (Operand.tmp 13) (Operand.const (Value.int IntKind.u64 256)) 122, none⟩, []⟩]) (.cond (Operand.tmp 14) (.seq (.reg [⟨⟨some 15, Op.move (Operand.tmp 0), none⟩, []⟩,
  ⟨⟨some 16, Op.binOp BinOp.shr 122 (Operand.tmp 15) (Operand.const (Value.int IntKind.u64 8)) 97, none⟩, []⟩,
  ⟨⟨some 0, Op.assign (Operand.tmp 16), none⟩, []⟩]) (.reg [⟨⟨some 17, Op.move (Operand.tmp 2), none⟩, []⟩,
  ⟨⟨some 18, Op.binOp BinOp.add 3 (Operand.tmp 17) (Operand.const (Value.int IntKind.i64 8)) 3, none⟩, []⟩,
  ⟨⟨some 2, Op.assign (Operand.tmp 18), none⟩, []⟩])) .skip)) (.seq (.reg [⟨⟨some 19, Op.move (Operand.tmp 2), none⟩, []⟩,
  ⟨⟨some 20, Op.move (Operand.tmp 0), none⟩, []⟩,
  ⟨⟨some 21, Op.convert 122 5 (Operand.tmp 20), none⟩, []⟩,
  ⟨⟨some 22, Op.index 9 (Operand.const (Value.string { data := #[0, 1, 2, 2, 3, 3, 3, 3, 4, 4, 4, 4, 4, 4, 4, 4, 5, 5, 5, 5, 5, 5, 5, 5, 5, 5, 5, 5, 5, 5, 5, 5, 6, 6, 6, 6, 6, 6, 6, 6, 6, 6, 6, 6, 6, 6, 6, 6, 6, 6, 6, 6, 6, 6, 6, 6, 6, 6, 6, 6, 6, 6, 6, 6, 7, 7, 7, 7, 7, 7, 7, 7, 7, 7, 7, 7, 7, 7, 7, 7, 7, 7, 7, 7, 7, 7, 7, 7, 7, 7, 7, 7, 7, 7, 7, 7, 7, 7, 7, 7, 7, 7, 7, 7, 7, 7, 7, 7, 7, 7, 7, 7, 7, 7, 7, 7, 7, 7, 7, 7, 7, 7, 7, 7, 7, 7, 7, 7, 8, 8, 8, 8, 8, 8, 8, 8, 8, 8, 8, 8, 8, 8, 8, 8, 8, 8, 8, 8, 8, 8, 8, 8, 8, 8, 8, 8, 8, 8, 8, 8, 8, 8, 8, 8, 8, 8, 8, 8, 8, 8, 8, 8, 8, 8, 8, 8, 8, 8, 8, 8, 8, 8, 8, 8, 8, 8, 8, 8, 8, 8, 8, 8, 8, 8, 8, 8, 8, 8, 8, 8, 8, 8, 8, 8, 8, 8, 8, 8, 8, 8, 8, 8, 8, 8, 8, 8, 8, 8, 8, 8, 8, 8, 8, 8, 8, 8, 8, 8, 8, 8, 8, 8, 8, 8, 8, 8, 8, 8, 8, 8, 8, 8, 8, 8, 8, 8, 8, 8, 8, 8, 8, 8, 8, 8, 8, 8] })) (Operand.tmp 21), none⟩, []⟩,
  ⟨⟨some 23, Op.convert 5 3 (Operand.tmp 22), none⟩, []⟩,
  ⟨⟨some 24, Op.binOp BinOp.add 3 (Operand.tmp 19) (Operand.tmp 23) 3, none⟩, []⟩,
  ⟨⟨some 2, Op.assign (Operand.tmp 24), none⟩, []⟩]) .ret)))))
theorem sl225 : slim Try.f225.ntmps ords225 (Try.f225.body.getD .skip) = some cd225 := by kernel_rfl
theorem in225 {args : List Value} {H : AH} {R : Value → AH → Prop} (hl : args.length = 1) (h : ∀ (Q : Exit → Sl → AH → Prop), (∀ e s H, endA Try.prog [ResultVar.tmp 2] R e s H → Q e s H) → wpC Try.prog cd225 Q (enterA args) H) : ACalls Try.prog 225 args H R :=
  ACalls.intro (by kernel_rfl) Try.func225 rfl (by kernel_rfl) sl225 hl (of_decide_eq_true (by kernel_rfl)) (by kernel_rfl) h
def ords166 : List (Nat × List (Nat × Bool)) := []
def cd166 : Cd := (.seq (.reg [⟨⟨some 2, Op.assign (Operand.const (Value.int IntKind.i64 0)), none⟩, []⟩]) (.seq (.cond (Operand.const (Value.bool false)) (.seq (.reg [⟨⟨some 3, Op.move (Operand.tmp 0), none⟩, []⟩,
  ⟨⟨some 4, Op.convert 97 182 (Operand.tmp 3), none⟩, []⟩,
  ⟨⟨some 5, Op.call { callee := (Callee.value (Operand.func 224)), args := #[(Operand.tmp 4)], argTypes := #[182] }, none⟩, []⟩,
  ⟨⟨some 2, Op.assign (Operand.tmp 5), none⟩, []⟩]) .ret) .skip) (.seq (.reg [⟨⟨some 6, Op.move (Operand.tmp 0), none⟩, []⟩,
  ⟨⟨some 7, Op.call { callee := (Callee.value (Operand.func 225)), args := #[(Operand.tmp 6)], argTypes := #[122] }, none⟩, []⟩,
  ⟨⟨some 2, Op.assign (Operand.tmp 7), none⟩, []⟩]) .ret)))
theorem sl166 : slim Try.f166.ntmps ords166 (Try.f166.body.getD .skip) = some cd166 := by kernel_rfl
theorem in166 {args : List Value} {H : AH} {R : Value → AH → Prop} (hl : args.length = 1) (h : ∀ (Q : Exit → Sl → AH → Prop), (∀ e s H, endA Try.prog [ResultVar.tmp 2] R e s H → Q e s H) → wpC Try.prog cd166 Q (enterA args) H) : ACalls Try.prog 166 args H R :=
  ACalls.intro (by kernel_rfl) Try.func166 rfl (by kernel_rfl) sl166 hl (of_decide_eq_true (by kernel_rfl)) (by kernel_rfl) h
def ords165 : List (Nat × List (Nat × Bool)) := [(17, [(0, false), (1, false), (2, false), (3, false), (4, false), (5, false), (6, false), (7, false), (8, false), (9, false), (10, false), (11, false), (12, true), (13, false), (14, false)])]
def cd165 : Cd := (.seq (.reg [⟨⟨some 8, Op.assign (Operand.const (Value.bool true)), none⟩, []⟩]) (.seq (.reg [⟨⟨some 9, Op.assign (Operand.const (Value.bool true)), none⟩, []⟩]) (.block 0 (.loop (.block 1 (.seq (.reg [⟨⟨some 19, Op.move (Operand.tmp 2), none⟩, []⟩,
  ⟨⟨some 20, Op.move (Operand.tmp 1), none⟩, []⟩,
  ⟨⟨some 21, Op.binOp BinOp.sub 3 (Operand.tmp 19) (Operand.tmp 20) 3, none⟩, []⟩,
  ⟨⟨some 10, Op.assign (Operand.tmp 21), none⟩, []⟩]) (.seq (.seq (.reg [⟨⟨some 22, Op.move (Operand.tmp 10), none⟩, []⟩,
  ⟨⟨some 23, Op.binOp BinOp.leq 3 (Operand.tmp 22) (Operand.const (Value.int IntKind.i64 12)) 3, none⟩, []⟩]) (.cond (Operand.tmp 23) (.seq (.reg [⟨⟨some 24, Op.move (Operand.tmp 0), none⟩, []⟩,
  ⟨⟨some 25, Op.move (Operand.tmp 1), none⟩, []⟩,
  ⟨⟨some 26, Op.move (Operand.tmp 2), none⟩, []⟩,
  ⟨⟨some 27, Op.call { callee := (Callee.value (Operand.func 215)), args := #[(Operand.tmp 24), (Operand.tmp 25), (Operand.tmp 26)], argTypes := #[38, 3, 3] }, none⟩, []⟩]) .ret) .skip)) (.seq (.seq (.reg [⟨⟨some 28, Op.move (Operand.tmp 3), none⟩, []⟩,
  ⟨⟨some 29, Op.binOp BinOp.eql 3 (Operand.tmp 28) (Operand.const (Value.int IntKind.i64 0)) 3, none⟩, []⟩]) (.cond (Operand.tmp 29) (.seq (.reg [⟨⟨some 30, Op.move (Operand.tmp 0), none⟩, []⟩,
  ⟨⟨some 31, Op.move (Operand.tmp 1), none⟩, []⟩,
  ⟨⟨some 32, Op.move (Operand.tmp 2), none⟩, []⟩,
  ⟨⟨some 33, Op.call { callee := (Callee.value (Operand.func 216)), args := #[(Operand.tmp 30), (Operand.tmp 31), (Operand.tmp 32)], argTypes := #[38, 3, 3] }, none⟩, []⟩]) .ret) .skip)) (.seq (.seq (.reg [⟨⟨some 34, Op.move (Operand.tmp 8), none⟩, []⟩,
  ⟨⟨some 35, Op.unOp UnOp.not 4 (Operand.tmp 34), none⟩, []⟩]) (.cond (Operand.tmp 35) (.seq (.reg [⟨⟨some 36, Op.move (Operand.tmp 0), none⟩, []⟩,
  ⟨⟨some 37, Op.move (Operand.tmp 1), none⟩, []⟩,
  ⟨⟨some 38, Op.move (Operand.tmp 2), none⟩, []⟩,
  ⟨⟨some 39, Op.call { callee := (Callee.value (Operand.func 217)), args := #[(Operand.tmp 36), (Operand.tmp 37), (Operand.tmp 38)], argTypes := #[38, 3, 3] }, none⟩, []⟩]) (.reg [⟨⟨some 40, Op.move (Operand.tmp 3), none⟩, []⟩,
  ⟨⟨some 41, Op.binOp BinOp.sub 3 (Operand.tmp 40) (Operand.const (Value.int IntKind.i64 1)) 3, none⟩, []⟩,
  ⟨⟨some 3, Op.assign (Operand.tmp 41), none⟩, []⟩])) .skip)) (.seq (.reg [⟨⟨some 43, Op.move (Operand.tmp 0), none⟩, []⟩,
  ⟨⟨some 44, Op.move (Operand.tmp 1), none⟩, []⟩,
  ⟨⟨some 45, Op.move (Operand.tmp 2), none⟩, []⟩,
  ⟨⟨some 46, Op.call { callee := (Callee.value (Operand.func 218)), args := #[(Operand.tmp 43), (Operand.tmp 44), (Operand.tmp 45)], argTypes := #[38, 3, 3] }, none⟩, []⟩,
  ⟨⟨some 42, Op.move (Operand.tmp 46), none⟩, []⟩,
  ⟨⟨some 47, Op.extract (Operand.tmp 42) 0, none⟩, []⟩,
  ⟨⟨some 48, Op.extract (Operand.tmp 42) 1, none⟩, []⟩,
  ⟨⟨some 11, Op.assign (Operand.tmp 47), none⟩, []⟩,
  ⟨⟨some 12, Op.assign (Operand.tmp 48), none⟩, []⟩]) (.seq (.seq (.reg [⟨⟨some 49, Op.move (Operand.tmp 12), none⟩, []⟩,
  ⟨⟨some 50, Op.binOp BinOp.eql 175 (Operand.tmp 49) (Operand.const (Value.int IntKind.i64 2)) 175, none⟩, []⟩]) (.cond (Operand.tmp 50) (.seq (.reg [⟨⟨some 51, Op.move (Operand.tmp 0), none⟩, []⟩,
  ⟨⟨some 52, Op.move (Operand.tmp 1), none⟩, []⟩,
  ⟨⟨some 53, Op.move (Operand.tmp 2), none⟩, []⟩,
  ⟨⟨some 54, Op.call { callee := (Callee.value (Operand.func 219)), args := #[(Operand.tmp 51), (Operand.tmp 52), (Operand.tmp 53)], argTypes := #[38, 3, 3] }, none⟩, []⟩]) (.seq (.reg [⟨⟨some 55, Op.move (Operand.tmp 2), none⟩, []⟩,
  ⟨⟨some 56, Op.binOp BinOp.sub 3 (Operand.tmp 55) (Operand.const (Value.int IntKind.i64 1)) 3, none⟩, []⟩,
  ⟨⟨some 57, Op.move (Operand.tmp 11), none⟩, []⟩,
  ⟨⟨some 58, Op.move (Operand.tmp 1), none⟩, []⟩,
  ⟨⟨some 59, Op.binOp BinOp.sub 3 (Operand.tmp 57) (Operand.tmp 58) 3, none⟩, []⟩,
  ⟨⟨some 60, Op.binOp BinOp.sub 3 (Operand.tmp 56) (Operand.tmp 59) 3, none⟩, []⟩,
  ⟨⟨some 11, Op.assign (Operand.tmp 60), none⟩, []⟩]) (.reg [⟨⟨some 12, Op.assign (Operand.const (Value.int IntKind.i64 1)), none⟩, []⟩]))) .skip)) (.seq (.seq (.reg [⟨⟨some 61, Op.move (Operand.tmp 8), none⟩, []⟩,
  ⟨⟨some 62, Op.move (Operand.tmp 61), none⟩, []⟩,
  ⟨⟨some 63, Op.move (Operand.tmp 9), some (62, true)⟩, []⟩,
  ⟨⟨some 64, Op.pick (Operand.tmp 62) (Operand.tmp 63) (Operand.const (Value.bool false)), none⟩, []⟩,
  ⟨⟨some 65, Op.move (Operand.tmp 64), none⟩, []⟩,
  ⟨⟨some 66, Op.move (Operand.tmp 12), some (65, true)⟩, []⟩,
  ⟨⟨some 67, Op.binOp BinOp.eql 175 (Operand.tmp 66) (Operand.const (Value.int IntKind.i64 1)) 175, some (65, true)⟩, []⟩,
  ⟨⟨some 68, Op.pick (Operand.tmp 65) (Operand.tmp 67) (Operand.const (Value.bool false)), none⟩, []⟩]) (.cond (Operand.tmp 68) (.seq (.reg [⟨⟨some 69, Op.move (Operand.tmp 0), none⟩, []⟩,
  ⟨⟨some 70, Op.move (Operand.tmp 1), none⟩, []⟩,
  ⟨⟨some 71, Op.move (Operand.tmp 2), none⟩, []⟩,
  ⟨⟨some 72, Op.call { callee := (Callee.value (Operand.func 220)), args := #[(Operand.tmp 69), (Operand.tmp 70), (Operand.tmp 71)], argTypes := #[38, 3, 3] }, none⟩, []⟩]) (.cond (Operand.tmp 72) .ret .skip)) .skip)) (.seq (.seq (.reg [⟨⟨some 73, Op.move (Operand.tmp 1), none⟩, []⟩,
  ⟨⟨some 74, Op.binOp BinOp.gtr 3 (Operand.tmp 73) (Operand.const (Value.int IntKind.i64 0)) 3, none⟩, []⟩,
  ⟨⟨some 75, Op.move (Operand.tmp 74), none⟩, []⟩,
  ⟨⟨some 76, Op.move (Operand.tmp 0), some (75, true)⟩, []⟩,
  ⟨⟨some 77, Op.move (Operand.tmp 1), some (75, true)⟩, []⟩,
  ⟨⟨some 78, Op.binOp BinOp.sub 3 (Operand.tmp 77) (Operand.const (Value.int IntKind.i64 1)) 3, some (75, true)⟩, []⟩,
  ⟨⟨some 79, Op.indexAddr 38 (Operand.tmp 76) (Operand.tmp 78), some (75, true)⟩, []⟩,
  ⟨⟨some 80, Op.load 3 (Operand.tmp 79), some (75, true)⟩, []⟩,
  ⟨⟨some 81, Op.move (Operand.tmp 0), some (75, true)⟩, []⟩,
  ⟨⟨some 82, Op.move (Operand.tmp 11), some (75, true)⟩, []⟩,
  ⟨⟨some 83, Op.indexAddr 38 (Operand.tmp 81) (Operand.tmp 82), some (75, true)⟩, []⟩,
  ⟨⟨some 84, Op.load 3 (Operand.tmp 83), some (75, true)⟩, []⟩,
  ⟨⟨some 85, Op.call { callee := (Callee.value (Operand.func 221)), args := #[(Operand.tmp 80), (Operand.tmp 84)], argTypes := #[3, 3] }, some (75, true)⟩, []⟩,
  ⟨⟨some 86, Op.unOp UnOp.not 4 (Operand.tmp 85), some (75, true)⟩, []⟩,
  ⟨⟨some 87, Op.pick (Operand.tmp 75) (Operand.tmp 86) (Operand.const (Value.bool false)), none⟩, []⟩]) (.cond (Operand.tmp 87) (.seq (.reg [⟨⟨some 88, Op.move (Operand.tmp 0), none⟩, []⟩,
  ⟨⟨some 89, Op.move (Operand.tmp 1), none⟩, []⟩,
  ⟨⟨some 90, Op.move (Operand.tmp 2), none⟩, []⟩,
  ⟨⟨some 91, Op.move (Operand.tmp 11), none⟩, []⟩,
  ⟨⟨some 92, Op.call { callee := (Callee.value (Operand.func 222)), args := #[(Operand.tmp 88), (Operand.tmp 89), (Operand.tmp 90), (Operand.tmp 91)], argTypes := #[38, 3, 3, 3] }, none⟩, []⟩,
  ⟨⟨some 13, Op.assign (Operand.tmp 92), none⟩, []⟩]) (.seq (.reg [⟨⟨some 93, Op.move (Operand.tmp 13), none⟩, []⟩,
  ⟨⟨some 1, Op.assign (Operand.tmp 93), none⟩, []⟩]) (.exit 1))) .skip)) (.seq (.reg [⟨⟨some 95, Op.move (Operand.tmp 0), none⟩, []⟩,
  ⟨⟨some 96, Op.move (Operand.tmp 1), none⟩, []⟩,
  ⟨⟨some 97, Op.move (Operand.tmp 2), none⟩, []⟩,
  ⟨⟨some 98, Op.move (Operand.tmp 11), none⟩, []⟩,
  ⟨⟨some 99, Op.call { callee := (Callee.value (Operand.func 223)), args := #[(Operand.tmp 95), (Operand.tmp 96), (Operand.tmp 97), (Operand.tmp 98)], argTypes := #[38, 3, 3, 3] }, none⟩, []⟩,
  ⟨⟨some 94, Op.move (Operand.tmp 99), none⟩, []⟩,
  ⟨⟨some 100, Op.extract (Operand.tmp 94) 0, none⟩, []⟩,
  ⟨⟨some 101, Op.extract (Operand.tmp 94) 1, none⟩, []⟩,
  ⟨⟨some 14, Op.assign (Operand.tmp 100), none⟩, []⟩,
  ⟨⟨some 15, Op.assign (Operand.tmp 101), none⟩, []⟩]) (.seq (.reg [⟨⟨some 102, Op.move (Operand.tmp 15), none⟩, []⟩,
  ⟨⟨some 9, Op.assign (Operand.tmp 102), none⟩, []⟩]) (.seq (.reg [⟨⟨some 103, Op.move (Operand.tmp 14), none⟩, []⟩,
  ⟨⟨some 104, Op.move (Operand.tmp 1), none⟩, []⟩,
  ⟨⟨some 105, Op.binOp BinOp.sub 3 (Operand.tmp 103) (Operand.tmp 104) 3, none⟩, []⟩,
  ⟨⟨some 106, Op.move (Operand.tmp 2), none⟩, []⟩,
  ⟨⟨some 107, Op.move (Operand.tmp 14), none⟩, []⟩,
  ⟨⟨some 108, Op.binOp BinOp.sub 3 (Operand.tmp 106) (Operand.tmp 107) 3, none⟩, []⟩,
  ⟨⟨some 16, Op.assign (Operand.tmp 105), none⟩, []⟩,
  ⟨⟨some 17, Op.assign (Operand.tmp 108), none⟩, []⟩]) (.seq (.reg [⟨⟨some 109, Op.move (Operand.tmp 10), none⟩, []⟩,
  ⟨⟨some 110, Op.binOp BinOp.quo 3 (Operand.tmp 109) (Operand.const (Value.int IntKind.i64 8)) 3, none⟩, []⟩,
  ⟨⟨some 18, Op.assign (Operand.tmp 110), none⟩, []⟩]) (.seq (.reg [⟨⟨some 111, Op.move (Operand.tmp 16), none⟩, []⟩,
  ⟨⟨some 112, Op.move (Operand.tmp 17), none⟩, []⟩,
  ⟨⟨some 113, Op.binOp BinOp.lss 3 (Operand.tmp 111) (Operand.tmp 112) 3, none⟩, []⟩]) (.cond (Operand.tmp 113) (.seq (.reg [⟨⟨some 114, Op.move (Operand.tmp 16), none⟩, []⟩,
  ⟨⟨some 115, Op.move (Operand.tmp 18), none⟩, []⟩,
  ⟨⟨some 116, Op.binOp BinOp.geq 3 (Operand.tmp 114) (Operand.tmp 115) 3, none⟩, []⟩,
  ⟨⟨some 8, Op.assign (Operand.tmp 116), none⟩, []⟩]) (.seq (.reg [⟨⟨some 117, Op.move (Operand.tmp 0), none⟩, []⟩,
  ⟨⟨some 118, Op.move (Operand.tmp 1), none⟩, []⟩,
  ⟨⟨some 119, Op.move (Operand.tmp 14), none⟩, []⟩,
  ⟨⟨some 120, Op.move (Operand.tmp 3), none⟩, []⟩,
  ⟨⟨some 121, Op.call { callee := (Callee.value (Operand.func 165)), args := #[(Operand.tmp 117), (Operand.tmp 118), (Operand.tmp 119), (Operand.tmp 120)], argTypes := #[38, 3, 3, 3] }, none⟩, []⟩]) (.reg [⟨⟨some 122, Op.move (Operand.tmp 14), none⟩, []⟩,
  ⟨⟨some 123, Op.binOp BinOp.add 3 (Operand.tmp 122) (Operand.const (Value.int IntKind.i64 1)) 3, none⟩, []⟩,
  ⟨⟨some 1, Op.assign (Operand.tmp 123), none⟩, []⟩]))) (.seq (.reg [⟨⟨some 124, Op.move (Operand.tmp 17), none⟩, []⟩,
  ⟨⟨some 125, Op.move (Operand.tmp 18), none⟩, []⟩,
  ⟨⟨some 126, Op.binOp BinOp.geq 3 (Operand.tmp 124) (Operand.tmp 125) 3, none⟩, []⟩,
  ⟨⟨some 8, Op.assign (Operand.tmp 126), none⟩, []⟩]) (.seq (.reg [⟨⟨some 127, Op.move (Operand.tmp 0), none⟩, []⟩,
  ⟨⟨some 128, Op.move (Operand.tmp 14), none⟩, []⟩,
  ⟨⟨some 129, Op.binOp BinOp.add 3 (Operand.tmp 128) (Operand.const (Value.int IntKind.i64 1)) 3, none⟩, []⟩,
  ⟨⟨some 130, Op.move (Operand.tmp 2), none⟩, []⟩,
  ⟨⟨some 131, Op.move (Operand.tmp 3), none⟩, []⟩,
  ⟨⟨some 132, Op.call { callee := (Callee.value (Operand.func 165)), args := #[(Operand.tmp 127), (Operand.tmp 129), (Operand.tmp 130), (Operand.tmp 131)], argTypes := #[38, 3, 3, 3] }, none⟩, []⟩]) (.reg [⟨⟨some 133, Op.move (Operand.tmp 14), none⟩, []⟩,
  ⟨⟨some 2, Op.assign (Operand.tmp 133), none⟩, []⟩]))))))))))))))))))))))
theorem sl165 : slim Try.f165.ntmps ords165 (Try.f165.body.getD .skip) = some cd165 := by kernel_rfl
theorem in165 {args : List Value} {H : AH} {R : Value → AH → Prop} (hl : args.length = 4) (h : ∀ (Q : Exit → Sl → AH → Prop), (∀ e s H, endA Try.prog [] R e s H → Q e s H) → wpC Try.prog cd165 Q (enterA args) H) : ACalls Try.prog 165 args H R :=
  ACalls.intro (by kernel_rfl) Try.func165 rfl (by kernel_rfl) sl165 hl (of_decide_eq_true (by kernel_rfl)) (by kernel_rfl) h
def ords92 : List (Nat × List (Nat × Bool)) := []
def cd92 : Cd := (.seq (.reg [⟨⟨some 3, Op.move (Operand.tmp 0), none⟩, []⟩,
  ⟨⟨some 4, Op.call { callee := (Callee.builtin Builtin.len), args := #[(Operand.tmp 3)], argTypes := #[38] }, none⟩, []⟩,
  ⟨⟨some 2, Op.assign (Operand.tmp 4), none⟩, []⟩]) (.reg [⟨⟨some 5, Op.move (Operand.tmp 0), none⟩, []⟩,
  ⟨⟨some 6, Op.move (Operand.tmp 2), none⟩, []⟩,
  ⟨⟨some 7, Op.move (Operand.tmp 2), none⟩, []⟩,
  ⟨⟨some 8, Op.convert 3 97 (Operand.tmp 7), none⟩, []⟩,
  ⟨⟨some 9, Op.call { callee := (Callee.value (Operand.func 166)), args := #[(Operand.tmp 8)], argTypes := #[97] }, none⟩, []⟩,
  ⟨⟨some 10, Op.call { callee := (Callee.value (Operand.func 165)), args := #[(Operand.tmp 5), (Operand.const (Value.int IntKind.i64 0)), (Operand.tmp 6), (Operand.tmp 9)], argTypes := #[38, 3, 3, 3] }, none⟩, []⟩]))
theorem sl92 : slim Try.f92.ntmps ords92 (Try.f92.body.getD .skip) = some cd92 := by kernel_rfl
theorem in92 {args : List Value} {H : AH} {R : Value → AH → Prop} (hl : args.length = 1) (h : ∀ (Q : Exit → Sl → AH → Prop), (∀ e s H, endA Try.prog [] R e s H → Q e s H) → wpC Try.prog cd92 Q (enterA args) H) : ACalls Try.prog 92 args H R :=
  ACalls.intro (by kernel_rfl) Try.func92 rfl (by kernel_rfl) sl92 hl (of_decide_eq_true (by kernel_rfl)) (by kernel_rfl) h
end Go.Proofs.Ytlfongfhbkefmaa.Ai
namespace Go.Proofs.Ytlfongfhbkefmaa.Ai
open Go Go.RowKit
set_option linter.unusedVariables false
set_option linter.unusedSimpArgs false
theorem Own.else_pre {e : TypeId} {H0 H H' : AH} {v : Value} {xs : List Int} (h : Own e H0 H v xs) (hp : H0 <+: H) (he : Else v H H') : H0 <+: H' := by
  rcases h with h | ⟨o, h1, h2, h3⟩
  · exact hp.trans (else_pre_nil h.1 he)
  · exact Ai.else_pre hp (by rw [h1]; exact h2) he
theorem isNaN_c (x : Int) (H : AH) : ACalls Try.prog 256 [.int .i64 x] H fun r H' => r = .bool false ∧ H = H' := by
  refine in256 rfl ?_
  intro Q hQ
  simp (maxSteps := 1000000) (disch := omega) only [cd256, S, S1, S2, S3, S4, S5, ST, eq_self, reduceIte, reduceCtorEq, Nat.reduceEqDiff, Nat.reduceAdd]
  refine hQ _ _ _ ?_
  simp (maxSteps := 1000000) (disch := omega) only [S, S1, S2, S3, S4, S5, ST, eq_self, reduceIte, reduceCtorEq, Nat.reduceEqDiff, Nat.reduceAdd]
theorem Less_c (x y : Int) (H : AH) : ACalls Try.prog 221 [.int .i64 x, .int .i64 y] H fun r H' => r = .bool (decide (x < y)) ∧ H = H' := by
  refine in221 rfl ?_
  intro Q hQ
  simp (maxSteps := 1000000) (disch := omega) only [cd221, S, S1, S2, S3, S4, S5, ST, eq_self, reduceIte, reduceCtorEq, Nat.reduceEqDiff, Nat.reduceAdd]
  refine CallH.by (isNaN_c ..) ?_
  rintro _ _ ⟨rfl, rfl⟩
  simp (maxSteps := 1000000) (disch := omega) only [S, S1, S2, S3, S4, S5, ST, eq_self, reduceIte, reduceCtorEq, Nat.reduceEqDiff, Nat.reduceAdd]
  refine hQ _ _ _ ?_
  simp (maxSteps := 1000000) (disch := omega) only [S, S1, S2, S3, S4, S5, ST, eq_self, reduceIte, reduceCtorEq, Nat.reduceEqDiff, Nat.reduceAdd]
theorem getD_set (xs : List Int) (i k : Nat) (x : Int) (hi : i < xs.length) : (xs.set i x).getD k 0 = if k = i then x else xs.getD k 0 := by
  rw [List.getD_eq_getElem?_getD, List.getElem?_set]
  by_cases h : i = k
  · subst h; rw [if_pos rfl, if_pos rfl, if_pos hi]; rfl
  · rw [if_neg h, if_neg (fun e => h e.symm), ← List.getD_eq_getElem?_getD]
/-- two places exchanged -/
theorem swap_perm (xs : List Int) (i j : Nat) (hi : i < xs.length) (hj : j < xs.length) : ((xs.set i (xs.getD j 0)).set j (xs.getD i 0)).Perm xs := by
  have h := @List.set_set_perm _ xs i j hi hj
  have e1 : xs.getD j 0 = xs[j] := by simp [hj]
  have e2 : xs.getD i 0 = xs[i] := by simp [hi]
  rw [e1, e2]; exact h
theorem swap_at (zs : List Int) (j k p : Nat) (a b : Int) (hj : j < zs.length) (hk : k < zs.length) : ((zs.set j a).set k b).getD p 0 = if p = k then b else if p = j then a else zs.getD p 0 := by
  rw [getD_set (zs.set j a) k p b (by simpa using hk), getD_set zs j p a hj]
set_option maxHeartbeats 2000000 in
theorem insSort_c (o : Nat) (xs : List Int) (H : AH) (ho : H[o]? = some (.cells (ints xs) 3 false)) (hlen : xs.length ≤ 1099511627776) :
    ACalls Try.prog 215 [.slice (some ⟨o, 0, none⟩) xs.length xs.length, .int .i64 0, .int .i64 (xs.length : Int)] H fun r H' => ∃ ys, H' = H.set o (.cells (ints ys) 3 false) ∧ ys.Perm xs ∧ Asc ys := by
  refine in215 rfl ?_
  intro Q hQ
  generalize hn : xs.length = n at *
  simp (maxSteps := 1000000) (disch := omega) only [cd215, wrap64, S, S1, S2, S3, S4, S5, ST, eq_self, reduceIte, reduceCtorEq, Nat.reduceEqDiff, Nat.reduceAdd]
  refine LoopH.by (fun m s H' => ∃ i ys, m + i = n + 1 ∧ 1 ≤ i ∧ s 0 = .slice (some ⟨o, 0, none⟩) n n ∧ s 1 = .int .i64 0 ∧ s 2 = .int .i64 (n : Int) ∧ s 6 = .int .i64 ((i : Nat) : Int) ∧ H' = H.set o (.cells (ints ys) 3 false) ∧ ys.Perm xs ∧ ∀ p q, p < q → q < i → q < n → ys.getD p 0 ≤ ys.getD q 0) n ?_ ?_
  · refine ⟨1, xs, by omega, by omega, rfl, rfl, rfl, rfl, ?_, List.Perm.refl _, by omega⟩
    apply List.ext_getElem?
    intro j
    rw [List.getElem?_set]
    by_cases hj : o = j
    · subst hj; rw [if_pos rfl, if_pos (at_lt ho), ho]
    · rw [if_neg hj]
  · rintro m s H' ⟨i, ys, hm, hi1, h0, h1, h2, h6, rfl, hp, hs⟩
    have hyl : ys.length = n := by rw [hp.length_eq, hn]
    simp (maxSteps := 1000000) (disch := omega) only [h0, h1, h2, h6, S, S1, S2, S3, S4, S5, ST, eq_self, reduceIte, reduceCtorEq, Nat.reduceEqDiff, Nat.reduceAdd]
    refine brD.intro (fun g => ?_) (fun g => ?_) <;> simp (maxSteps := 1000000) (disch := omega) only [h0, h1, h2, h6, S, S1, S2, S3, S4, S5, ST, eq_self, reduceIte, reduceCtorEq, Nat.reduceEqDiff, Nat.reduceAdd]
    · have hi : i < n := by omega
      refine LoopH.by (fun m' s' H'' => ∃ zs, m' ≤ i ∧ s' 0 = .slice (some ⟨o, 0, none⟩) n n ∧ s' 1 = .int .i64 0 ∧ s' 2 = .int .i64 (n : Int) ∧ s' 6 = .int .i64 ((i : Nat) : Int) ∧ s' 7 = .int .i64 ((m' : Nat) : Int) ∧ H'' = H.set o (.cells (ints zs) 3 false) ∧ zs.Perm xs ∧ ∀ p q, p < q → q ≤ i → q ≠ m' → zs.getD p 0 ≤ zs.getD q 0) i ?_ ?_
      · refine ⟨ys, Nat.le_refl _, ?_⟩
        have f1 : ∀ p q, p < q → q ≤ i → q ≠ i → ys.getD p 0 ≤ ys.getD q 0 := fun p q h1 h2 h3 => hs p q h1 (by omega) (by omega)
        simp only [S, S1, S2, S3, S4, S5, ST, eq_self, reduceIte, reduceCtorEq, Nat.reduceEqDiff, Nat.reduceAdd, h0, h1, h2, h6]
        exact ⟨hp, f1⟩
      · rintro j s' H'' ⟨zs, hj, g0, g1, g2, g6, g7, rfl, hq, hz⟩
        have hzl : zs.length = n := by rw [hq.length_eq, hn]
        have hc : (H.set o (.cells (ints zs) 3 false))[o]? = some (.cells (ints zs) 3 false) := at_set ho
        have out : (j = 0 ∨ zs.getD (j - 1) 0 ≤ zs.getD j 0) → ∀ p q, p < q → q < i + 1 → q < n → zs.getD p 0 ≤ zs.getD q 0 := by
          intro h p q h1 h2 h3
          by_cases e : q = j
          · subst e
            rcases h with h | h
            · omega
            · by_cases e2 : p = q - 1
              · subst e2; exact h
              · have := hz p (q - 1) (by omega) (by omega) (by omega)
                omega
          · exact hz p q h1 (by omega) e
        simp (maxSteps := 1000000) (disch := omega) only [g0, g1, g2, g6, g7, S, S1, S2, S3, S4, S5, ST, eq_self, reduceIte, reduceCtorEq, Nat.reduceEqDiff, Nat.reduceAdd]
        refine brD.intro (fun q => ?_) (fun q => ?_)
        · have hj0 : 0 < j := by omega
          have e1 : ((j : Int) - 1).toNat = j - 1 := by omega
          have e3 : ((j : Int) - 1) = ((j - 1 : Nat) : Int) := by omega
          have c1 : cellA (H.set o (.cells (ints zs) 3 false)) o j = some (.int .i64 (zs.getD j 0)) := cell_ints hc (by omega)
          have c2 : cellA (H.set o (.cells (ints zs) 3 false)) o (j - 1) = some (.int .i64 (zs.getD (j - 1) 0)) := cell_ints hc (by omega)
          simp (maxSteps := 1000000) (disch := omega) only [q, g0, g1, g2, g6, g7, Int.toNat_natCast, Nat.zero_add, e1, c1, c2, wrap64, S, S1, S2, S3, S4, S5, ST, eq_self, reduceIte, reduceCtorEq, Nat.reduceEqDiff, Nat.reduceAdd]
          refine CallH.by (Less_c ..) ?_
          rintro _ _ ⟨rfl, rfl⟩
          simp (maxSteps := 1000000) (disch := omega) only [q, S, S1, S2, S3, S4, S5, ST, eq_self, reduceIte, reduceCtorEq, Nat.reduceEqDiff, Nat.reduceAdd]
          refine brD.intro (fun lt => ?_) (fun lt => ?_)
          · have st1 : ∀ x, storeA Try.prog 3 (.pointer (some ⟨o, j, none⟩)) (.int .i64 x) (H.set o (.cells (ints zs) 3 false)) = some (H.set o (.cells (ints (zs.set j x)) 3 false)) := by
              intro x; rw [st_ints cs3 hc (by omega), List.set_set]
            have st2 : ∀ x y, storeA Try.prog 3 (.pointer (some ⟨o, j - 1, none⟩)) (.int .i64 x) (H.set o (.cells (ints (zs.set j y)) 3 false)) = some (H.set o (.cells (ints ((zs.set j y).set (j - 1) x)) 3 false)) := by
              intro x y
              have : (H.set o (.cells (ints (zs.set j y)) 3 false))[o]? = some (.cells (ints (zs.set j y)) 3 false) := at_set ho
              rw [st_ints cs3 this (by simp; omega), List.set_set]
            simp (maxSteps := 1000000) (disch := omega) only [g0, g1, g2, g6, g7, Int.toNat_natCast, Nat.zero_add, e1, c1, c2, st1, st2, wrap64, S, S1, S2, S3, S4, S5, ST, eq_self, reduceIte, reduceCtorEq, Nat.reduceEqDiff, Nat.reduceAdd]
            have f1 := swap_perm zs j (j - 1) (by omega) (by omega)
            have f2 : ∀ p q, p < q → q ≤ i → q ≠ j - 1 → ((zs.set j (zs.getD (j - 1) 0)).set (j - 1) (zs.getD j 0)).getD p 0 ≤ ((zs.set j (zs.getD (j - 1) 0)).set (j - 1) (zs.getD j 0)).getD q 0 := by
              intro p q h1 h2 h3
              rw [swap_at zs j (j - 1) p _ _ (by omega) (by omega), swap_at zs j (j - 1) q _ _ (by omega) (by omega), if_neg h3]
              by_cases ep : p = j - 1
              · rw [if_pos ep]
                by_cases eq : q = j
                · rw [if_pos eq]; omega
                · rw [if_neg eq]; exact hz j q (by omega) h2 eq
              · rw [if_neg ep]
                by_cases ep2 : p = j
                · rw [if_pos ep2, if_neg (by omega)]; exact hz (j - 1) q (by omega) h2 (by omega)
                · rw [if_neg ep2]
                  by_cases eq : q = j
                  · rw [if_pos eq]; exact hz p (j - 1) (by omega) (by omega) (by omega)
                  · rw [if_neg eq]; exact hz p q h1 h2 eq
            refine ⟨j - 1, by omega, (zs.set j (zs.getD (j - 1) 0)).set (j - 1) (zs.getD j 0), ?_⟩
            (repeat' apply And.intro) <;> first | exact f1.trans hq | exact f2 | (simp only [Value.int.injEq, true_and]; omega) | omega | rfl | assumption | (simp; done) | (simp; omega)
          · simp (maxSteps := 1000000) (disch := omega) only [g0, g1, g2, g6, g7, wrap64, S, S1, S2, S3, S4, S5, ST, eq_self, reduceIte, reduceCtorEq, Nat.reduceEqDiff, Nat.reduceAdd]
            have f1 := out (.inr (by omega))
            refine ⟨m - 1, by omega, i + 1, zs, ?_⟩
            (repeat' apply And.intro) <;> first | exact hq | exact f1 | (simp only [Value.int.injEq, true_and]; omega) | omega | rfl | assumption | (simp; done) | (simp; omega)
        · simp (maxSteps := 1000000) (disch := omega) only [q, g0, g1, g2, g6, g7, wrap64, S, S1, S2, S3, S4, S5, ST, eq_self, reduceIte, reduceCtorEq, Nat.reduceEqDiff, Nat.reduceAdd]
          have f1 := out (.inl (by omega))
          refine ⟨m - 1, by omega, i + 1, zs, ?_⟩
          (repeat' apply And.intro) <;> first | exact hq | exact f1 | (simp only [Value.int.injEq, true_and]; omega) | omega | rfl | assumption | (simp; done) | (simp; omega)
    · refine hQ _ _ _ ?_
      simp (maxSteps := 1000000) (disch := omega) only [S, S1, S2, S3, S4, S5, ST, eq_self, reduceIte, reduceCtorEq, Nat.reduceEqDiff, Nat.reduceAdd]
      refine ⟨ys, rfl, hp, ?_⟩
      intro p q h1 h2
      exact hs p q h1 (by omega) (by omega)
theorem insNil_c (H : AH) : ACalls Try.prog 215 [.slice none 0 0, .int .i64 0, .int .i64 0] H fun r H' => H = H' := by
  refine in215 rfl ?_
  intro Q hQ
  simp (maxSteps := 1000000) (disch := omega) only [cd215, wrap64, S, S1, S2, S3, S4, S5, ST, eq_self, reduceIte, reduceCtorEq, Nat.reduceEqDiff, Nat.reduceAdd]
  refine LoopH.by (fun m s H' => s 2 = .int .i64 0 ∧ s 6 = .int .i64 1 ∧ H = H') 0 ?_ ?_
  · exact ⟨rfl, rfl, rfl⟩
  · rintro m s H' ⟨h2, h6, rfl⟩
    simp (maxSteps := 1000000) (disch := omega) only [h2, h6, S, S1, S2, S3, S4, S5, ST, eq_self, reduceIte, reduceCtorEq, Nat.reduceEqDiff, Nat.reduceAdd]
    refine brD.intro (fun h => absurd h (by decide)) (fun _ => ?_)
    simp (maxSteps := 1000000) (disch := omega) only [S, S1, S2, S3, S4, S5, ST, eq_self, reduceIte, reduceCtorEq, Nat.reduceEqDiff, Nat.reduceAdd]
    refine hQ _ _ _ ?_
    simp (maxSteps := 1000000) (disch := omega) only [S, S1, S2, S3, S4, S5, ST, eq_self, reduceIte, reduceCtorEq, Nat.reduceEqDiff, Nat.reduceAdd]
theorem wrapU64 {n : Int} (h1 : 0 ≤ n) (h2 : n < 18446744073709551616) : IntKind.u64.wrap n = n := by rw [IntKind.wrap_u64]; omega
theorem wrapU8 {n : Int} (h1 : 0 ≤ n) (h2 : n < 256) : IntKind.u8.wrap n = n := by rw [IntKind.wrap_u8]; omega
theorem str_ix {P : Program} {t : TypeId} (hu : P.underlying t = some .string) (s : ByteArray) (k : IntKind) (i : Int) (h0 : 0 ≤ i) (h1 : i.toNat < s.size) : ∃ b : UInt8, indexA P t (.string s) (.int k i) = some (.int .u8 b.toNat) := by
  have : s[i.toNat]? = some s[i.toNat] := by simp [h1]
  exact ⟨s[i.toNat], by simp only [indexA, hu, if_pos h0, this]⟩
set_option maxRecDepth 20000 in
theorem Len64_c (n : Int) (H : AH) (hn : 0 ≤ n ∧ n < 256) : ACalls Try.prog 225 [.int .u64 n] H fun r H' => (∃ k : Int, r = .int .i64 k) ∧ H = H' := by
  refine in225 rfl ?_
  intro Q hQ
  simp (maxSteps := 1000000) (disch := omega) only [cd225, S, S1, S2, S3, S4, S5, ST, eq_self, reduceIte, reduceCtorEq, Nat.reduceEqDiff, Nat.reduceAdd]
  refine brD.intro (fun h => absurd h (by omega)) (fun _ => ?_)
  simp (maxSteps := 1000000) (disch := omega) only [S, S1, S2, S3, S4, S5, ST, eq_self, reduceIte, reduceCtorEq, Nat.reduceEqDiff, Nat.reduceAdd]
  refine brD.intro (fun h => absurd h (by omega)) (fun _ => ?_)
  simp (maxSteps := 1000000) (disch := omega) only [S, S1, S2, S3, S4, S5, ST, eq_self, reduceIte, reduceCtorEq, Nat.reduceEqDiff, Nat.reduceAdd]
  refine brD.intro (fun h => absurd h (by omega)) (fun _ => ?_)
  simp (maxSteps := 1000000) (disch := omega) only [wrapU8, S, S1, S2, S3, S4, S5, ST, eq_self, reduceIte, reduceCtorEq, Nat.reduceEqDiff, Nat.reduceAdd]
  generalize hs : (ByteArray.mk _) = s
  have hz : s.size = 256 := by rw [← hs]; rfl
  obtain ⟨b, hb⟩ := str_ix (P := Try.prog) Try.underlying9 s .u8 n hn.1 (by omega)
  simp (maxSteps := 1000000) (disch := omega) only [hb, S, S1, S2, S3, S4, S5, ST, eq_self, reduceIte, reduceCtorEq, Nat.reduceEqDiff, Nat.reduceAdd]
  refine hQ _ _ _ ?_
  simp (maxSteps := 1000000) (disch := omega) only [S, S1, S2, S3, S4, S5, ST, eq_self, reduceIte, reduceCtorEq, Nat.reduceEqDiff, Nat.reduceAdd]
  exact ⟨_, rfl⟩
theorem Len_c (n : Int) (H : AH) (hn : 0 ≤ n ∧ n < 256) : ACalls Try.prog 166 [.int .u64 n] H fun r H' => (∃ k : Int, r = .int .i64 k) ∧ H = H' := by
  refine in166 rfl ?_
  intro Q hQ
  simp (maxSteps := 1000000) (disch := omega) only [cd166, S, S1, S2, S3, S4, S5, ST, eq_self, reduceIte, reduceCtorEq, Nat.reduceEqDiff, Nat.reduceAdd]
  refine CallH.by (Len64_c n H hn) ?_
  rintro _ _ ⟨⟨k, rfl⟩, rfl⟩
  simp (maxSteps := 1000000) (disch := omega) only [S, S1, S2, S3, S4, S5, ST, eq_self, reduceIte, reduceCtorEq, Nat.reduceEqDiff, Nat.reduceAdd]
  refine hQ _ _ _ ?_
  simp (maxSteps := 1000000) (disch := omega) only [S, S1, S2, S3, S4, S5, ST, eq_self, reduceIte, reduceCtorEq, Nat.reduceEqDiff, Nat.reduceAdd]
  exact ⟨_, rfl⟩
theorem pdq_c (o : Nat) (xs : List Int) (l : Int) (H : AH) (ho : H[o]? = some (.cells (ints xs) 3 false)) (hlen : xs.length ≤ 12) :
    ACalls Try.prog 165 [.slice (some ⟨o, 0, none⟩) xs.length xs.length, .int .i64 0, .int .i64 (xs.length : Int), .int .i64 l] H fun r H' => ∃ ys, H' = H.set o (.cells (ints ys) 3 false) ∧ ys.Perm xs ∧ Asc ys := by
  refine in165 rfl ?_
  intro Q hQ
  simp (maxSteps := 1000000) (disch := omega) only [cd165, S, S1, S2, S3, S4, S5, ST, eq_self, reduceIte, reduceCtorEq, Nat.reduceEqDiff, Nat.reduceAdd]
  refine LoopH.by (fun m s H' => s 0 = .slice (some ⟨o, 0, none⟩) xs.length xs.length ∧ s 1 = .int .i64 0 ∧ s 2 = .int .i64 (xs.length : Int) ∧ H = H') 0 ?_ ?_
  · exact ⟨rfl, rfl, rfl, rfl⟩
  · rintro m s H' ⟨h0, h1, h2, rfl⟩
    simp (maxSteps := 1000000) (disch := omega) only [h0, h1, h2, wrap64, S, S1, S2, S3, S4, S5, ST, eq_self, reduceIte, reduceCtorEq, Nat.reduceEqDiff, Nat.reduceAdd]
    refine brD.intro (fun _ => ?_) (fun h => absurd h (by omega))
    simp (maxSteps := 1000000) (disch := omega) only [h0, h1, h2, S, S1, S2, S3, S4, S5, ST, eq_self, reduceIte, reduceCtorEq, Nat.reduceEqDiff, Nat.reduceAdd]
    refine CallH.by (insSort_c o xs H ho (by omega)) ?_
    rintro r H1 hr
    simp (maxSteps := 1000000) (disch := omega) only [S, S1, S2, S3, S4, S5, ST, eq_self, reduceIte, reduceCtorEq, Nat.reduceEqDiff, Nat.reduceAdd]
    refine hQ _ _ _ ?_
    simp (maxSteps := 1000000) (disch := omega) only [S, S1, S2, S3, S4, S5, ST, eq_self, reduceIte, reduceCtorEq, Nat.reduceEqDiff, Nat.reduceAdd]
    exact hr
theorem pdqNil_c (l : Int) (H : AH) : ACalls Try.prog 165 [.slice none 0 0, .int .i64 0, .int .i64 0, .int .i64 l] H fun r H' => H = H' := by
  refine in165 rfl ?_
  intro Q hQ
  simp (maxSteps := 1000000) (disch := omega) only [cd165, S, S1, S2, S3, S4, S5, ST, eq_self, reduceIte, reduceCtorEq, Nat.reduceEqDiff, Nat.reduceAdd]
  refine LoopH.by (fun m s H' => s 0 = .slice none 0 0 ∧ s 1 = .int .i64 0 ∧ s 2 = .int .i64 0 ∧ H = H') 0 ?_ ?_
  · exact ⟨rfl, rfl, rfl, rfl⟩
  · rintro m s H' ⟨h0, h1, h2, rfl⟩
    simp (maxSteps := 1000000) (disch := omega) only [h0, h1, h2, wrap64, S, S1, S2, S3, S4, S5, ST, eq_self, reduceIte, reduceCtorEq, Nat.reduceEqDiff, Nat.reduceAdd]
    refine brD.intro (fun _ => ?_) (fun h => absurd h (by decide))
    simp (maxSteps := 1000000) (disch := omega) only [h0, h1, h2, S, S1, S2, S3, S4, S5, ST, eq_self, reduceIte, reduceCtorEq, Nat.reduceEqDiff, Nat.reduceAdd]
    refine CallH.by (insNil_c ..) ?_
    rintro _ _ rfl
    simp (maxSteps := 1000000) (disch := omega) only [S, S1, S2, S3, S4, S5, ST, eq_self, reduceIte, reduceCtorEq, Nat.reduceEqDiff, Nat.reduceAdd]
    refine hQ _ _ _ ?_
    simp (maxSteps := 1000000) (disch := omega) only [S, S1, S2, S3, S4, S5, ST, eq_self, reduceIte, reduceCtorEq, Nat.reduceEqDiff, Nat.reduceAdd]
theorem Sort_c (v : Value) (xs : List Int) (H0 H : AH) (ho : Own 3 H0 H v xs) (hlen : xs.length ≤ 12) :
    ACalls Try.prog 92 [v] H fun r H' => ∃ ys, Own 3 H0 H' v ys ∧ ys.Perm xs ∧ Asc ys ∧ Else v H H' := by
  refine in92 rfl ?_
  intro Q hQ
  obtain ⟨p, e⟩ := ho.row.shape
  rcases ho with ⟨rfl, rfl⟩ | ⟨o, rfl, hoo, hc⟩
  · simp (maxSteps := 1000000) (disch := omega) only [cd92, wrapU64, List.length_nil, Int.natCast_zero, S, S1, S2, S3, S4, S5, ST, eq_self, reduceIte, reduceCtorEq, Nat.reduceEqDiff, Nat.reduceAdd]
    refine CallH.by (Len_c _ _ (by decide)) ?_
    rintro _ _ ⟨⟨k, rfl⟩, rfl⟩
    simp (maxSteps := 1000000) (disch := omega) only [List.length_nil, Int.natCast_zero, S, S1, S2, S3, S4, S5, ST, eq_self, reduceIte, reduceCtorEq, Nat.reduceEqDiff, Nat.reduceAdd]
    refine CallH.by (pdqNil_c k H) ?_
    rintro _ _ rfl
    simp (maxSteps := 1000000) (disch := omega) only [S, S1, S2, S3, S4, S5, ST, eq_self, reduceIte, reduceCtorEq, Nat.reduceEqDiff, Nat.reduceAdd]
    refine hQ _ _ _ ?_
    simp (maxSteps := 1000000) (disch := omega) only [S, S1, S2, S3, S4, S5, ST, eq_self, reduceIte, reduceCtorEq, Nat.reduceEqDiff, Nat.reduceAdd]
    exact ⟨[], .inl ⟨rfl, rfl⟩, List.Perm.refl _, fun i j _ h => by simp at h, Else.refl _ _⟩
  · simp (maxSteps := 1000000) (disch := omega) only [cd92, wrapU64, S, S1, S2, S3, S4, S5, ST, eq_self, reduceIte, reduceCtorEq, Nat.reduceEqDiff, Nat.reduceAdd]
    refine CallH.by (Len_c _ _ (by omega)) ?_
    rintro _ _ ⟨⟨k, rfl⟩, rfl⟩
    simp (maxSteps := 1000000) (disch := omega) only [S, S1, S2, S3, S4, S5, ST, eq_self, reduceIte, reduceCtorEq, Nat.reduceEqDiff, Nat.reduceAdd]
    refine CallH.by (pdq_c o xs k H hc hlen) ?_
    rintro _ H1 ⟨ys, rfl, hp, ha⟩
    simp (maxSteps := 1000000) (disch := omega) only [S, S1, S2, S3, S4, S5, ST, eq_self, reduceIte, reduceCtorEq, Nat.reduceEqDiff, Nat.reduceAdd]
    refine hQ _ _ _ ?_
    simp (maxSteps := 1000000) (disch := omega) only [S, S1, S2, S3, S4, S5, ST, eq_self, reduceIte, reduceCtorEq, Nat.reduceEqDiff, Nat.reduceAdd]
    exact ⟨ys, .inr ⟨o, by rw [hp.length_eq], hoo, at_set hc⟩, hp, ha, Else.set _ _⟩
end Go.Proofs.Ytlfongfhbkefmaa.Ai
