/- Texts of this claim, joined: Ty, Arr, Grf, Bag, Ones, Drw, Kps, Drb, Base, PermP, PutP, Sort, Good, PrA, Drg, IdxP, Tri, Tri2, Tri3, At, Bound, CycP, SrtP, Clone, Swp, Drh, Bits, BtA, PmE, BrdP, Pair. -/
import Derived.Test.YtlcipphiflcaiaaGreatProg
import Derived.KernelRfl
import Derived.Laws.Bits64
import Derived.Laws.BitsLemmas
import Derived.Test.YtlcipphiflcaiaaGreatMgLawWyw2
set_option linter.unusedVariables false
set_option linter.unusedSimpArgs false
set_option maxHeartbeats 8000000
set_option maxRecDepth 20000
namespace Go.Proofs.YtlcipphiflcaiaaGreat.Ai
open Go Go.RowKit
theorem cs3:Tryz.prog.cellsOf 3=1:=by kernel_rfl
theorem by3:Tryz.prog.bytesOf 3=8:=by kernel_rfl
theorem ag3:isAggA Tryz.prog 3=some false:=by kernel_rfl
theorem ze3:zeroA Tryz.prog 3=some (.int .i64 0):=by kernel_rfl
theorem zk3:zeroOk Tryz.prog 3=true:=by kernel_rfl
theorem ag4:isAggA Tryz.prog 4=some false:=by kernel_rfl
theorem ag5:isAggA Tryz.prog 5=some false:=by kernel_rfl
theorem ag9:isAggA Tryz.prog 9=some false:=by kernel_rfl
theorem cs24:Tryz.prog.cellsOf 24=1:=by kernel_rfl
theorem ag24:isAggA Tryz.prog 24=some false:=by kernel_rfl
theorem cs26:Tryz.prog.cellsOf 26=2:=by kernel_rfl
theorem ag26:isAggA Tryz.prog 26=some true:=by kernel_rfl
theorem cs27:Tryz.prog.cellsOf 27=1:=by kernel_rfl
theorem by27:Tryz.prog.bytesOf 27=24:=by kernel_rfl
theorem ag27:isAggA Tryz.prog 27=some false:=by kernel_rfl
theorem ze27:zeroA Tryz.prog 27=some (.slice none 0 0):=by kernel_rfl
theorem zk27:zeroOk Tryz.prog 27=true:=by kernel_rfl
theorem cs32:Tryz.prog.cellsOf 32=1:=by kernel_rfl
theorem ag32:isAggA Tryz.prog 32=some false:=by kernel_rfl
theorem cs34:Tryz.prog.cellsOf 34=2:=by kernel_rfl
theorem ag34:isAggA Tryz.prog 34=some true:=by kernel_rfl
theorem ag65:isAggA Tryz.prog 65=some false:=by kernel_rfl
theorem ag68:isAggA Tryz.prog 68=some false:=by kernel_rfl
theorem ag76:isAggA Tryz.prog 76=some false:=by kernel_rfl
theorem ag80:isAggA Tryz.prog 80=some false:=by kernel_rfl
theorem ag91:isAggA Tryz.prog 91=some false:=by kernel_rfl
theorem ag94:isAggA Tryz.prog 94=some false:=by kernel_rfl
theorem cs95:Tryz.prog.cellsOf 95=1:=by kernel_rfl
theorem by95:Tryz.prog.bytesOf 95=8:=by kernel_rfl
theorem ag95:isAggA Tryz.prog 95=some false:=by kernel_rfl
theorem ze95:zeroA Tryz.prog 95=some (.int .u64 0):=by kernel_rfl
theorem ag97:isAggA Tryz.prog 97=some false:=by kernel_rfl
theorem ag106:isAggA Tryz.prog 106=some false:=by kernel_rfl
theorem ag110:isAggA Tryz.prog 110=some false:=by kernel_rfl
theorem cs115:Tryz.prog.cellsOf 115=2:=by kernel_rfl
theorem by115:Tryz.prog.bytesOf 115=16:=by kernel_rfl
theorem ag115:isAggA Tryz.prog 115=some true:=by kernel_rfl
theorem ze115:zeroA Tryz.prog 115=some (.agg #[(.int .i64 0),(.int .i64 0)]):=by kernel_rfl
theorem zk115:zeroOk Tryz.prog 115=true:=by kernel_rfl
theorem ag117:isAggA Tryz.prog 117=some false:=by kernel_rfl
theorem ag118:isAggA Tryz.prog 118=some false:=by kernel_rfl
theorem ag123:isAggA Tryz.prog 123=some false:=by kernel_rfl
theorem ag126:isAggA Tryz.prog 126=some false:=by kernel_rfl
theorem ag134:isAggA Tryz.prog 134=some false:=by kernel_rfl
theorem ag169:isAggA Tryz.prog 169=some false:=by kernel_rfl
theorem ag180:isAggA Tryz.prog 180=some false:=by kernel_rfl
theorem own1_24 {H0 H:AH}{v:Value}{ps:List (Int × Int)}(h:MineP 115 H0 H v ps)(hp:H0<+:H)(hb:ps.length<=1099511627775)(a b:Int):∃ v' H',appendA Tryz.prog 24 24 v (.slice (some ⟨H.length,0,none⟩) 1 1) (H ++ [.cells [.int .i64 a,.int .i64 b] 115 false])=some (v',H')/\MineP 115 H0 H' v' (ps ++ [(a,b)])/\H0<+:H'/\Kept v H H'/\H.length<=rowO v'/\isTup v'=false:=MineP.app1 Tryz.underlying24 cs115 (by rw [by115];decide) zk115 h hp hb a b
theorem mks27 {n:Int}(h0:0<=n)(h1:n<=1099511627776)(H:AH):makeSliceA Tryz.prog 27 (.int .i64 n) (.int .i64 n) H=some (.slice (some ⟨H.length,0,none⟩) n.toNat n.toNat,H ++ [.cells (ints (List.replicate n.toNat 0)) 3 false]):=mk_ints Tryz.underlying27 cs3 (by rw [by3];decide) ze3 h0 h1 H
theorem own1_27 {H0 H:AH}{v:Value}{ys:List Int}(h:Own 3 H0 H v ys)(hp:H0<+:H)(hb:ys.length<=1099511627775)(x:Int):∃ v' H',appendA Tryz.prog 27 27 v (.slice (some ⟨H.length,0,none⟩) 1 1) (H ++ [.cells [.int .i64 x] 3 false])=some (v',H')/\Own 3 H0 H' v' (ys ++ [x])/\H0<+:H'/\Kept v H H'/\H.length<=rowO v'/\isTup v'=false:=Own.app1 Tryz.underlying27 cs3 (by rw [by3];decide) zk3 h hp hb x
theorem ST:(∀ p H,loadA Tryz.prog 3 (.pointer (some p)) H=cellA H p.block p.off) /\
    (∀ p H,loadA Tryz.prog 4 (.pointer (some p)) H=cellA H p.block p.off) /\
    (∀ a b,binA Tryz.prog .eql 4 (.bool a) (.bool b)=some (.bool (decide (a=b)))) /\
    (∀ a b,binA Tryz.prog .neq 4 (.bool a) (.bool b)=some (.bool (decide (a ≠ b)))) /\
    (∀ p H,loadA Tryz.prog 5 (.pointer (some p)) H=cellA H p.block p.off) /\
    (∀ p H,loadA Tryz.prog 9 (.pointer (some p)) H=cellA H p.block p.off) /\
    (∀ p H,loadA Tryz.prog 24 (.pointer (some p)) H=cellA H p.block p.off) /\
    (∀ H,buildSliceA Tryz.prog 24 0 [] H=some (.slice (some ⟨H.length,0,none⟩) 0 0,H ++ [.cells [] 115 false])) /\
    (∀ H a b,buildSliceA Tryz.prog 24 1 [(0,.agg (List.toArray [a,b]))] H=some (.slice (some ⟨H.length,0,none⟩) 1 1,H ++ [.cells [a,b] 115 false])) /\
    (∀ (p:Addr) (n c:Nat) (k:IntKind) {i:Int},0<=i->i<(n:Int)->indexAddrA Tryz.prog 24 (.slice (some p) n c) (.int k i)=some (.pointer (some ⟨p.block,p.off+2 * i.toNat,none⟩))) /\
    (∀ a n c m d,binA Tryz.prog .eql 24 (.slice a n c) (.slice none m d)=some (.bool (a.isNone))) /\
    (∀ a n c m d,binA Tryz.prog .neq 24 (.slice a n c) (.slice none m d)=some (.bool (!a.isNone))) /\
    (∀ x H,lenS Tryz.prog 24 x H=lenA Tryz.prog 24 x) /\
    (∀ p n c,lenA Tryz.prog 24 (.slice p n c)=some (.int .i64 n)) /\
    (∀ (p:Addr),fieldAddrA Tryz.prog 26 (.pointer (some p)) 0=some (.pointer (some ⟨p.block,p.off,none⟩))) /\
    (∀ (p:Addr),fieldAddrA Tryz.prog 26 (.pointer (some p)) 1=some (.pointer (some ⟨p.block,p.off+1,none⟩))) /\
    (∀ p H,loadA Tryz.prog 27 (.pointer (some p)) H=cellA H p.block p.off) /\
    (∀ (p:Addr) (n c:Nat) (k:IntKind) {i:Int},0<=i->i<(n:Int)->indexAddrA Tryz.prog 27 (.slice (some p) n c) (.int k i)=some (.pointer (some ⟨p.block,p.off+i.toNat,none⟩))) /\
    (∀ H,buildSliceA Tryz.prog 27 0 [] H=some (.slice (some ⟨H.length,0,none⟩) 0 0,H ++ [.cells [] 3 false])) /\
    (∀ H k0 x0,buildSliceA Tryz.prog 27 1 [(0,(.int k0 x0))] H=some (.slice (some ⟨H.length,0,none⟩) 1 1,H ++ [.cells [(.int k0 x0)] 3 false])) /\
    (∀ H k0 x0 k1 x1,buildSliceA Tryz.prog 27 2 [(0,(.int k0 x0)),(1,(.int k1 x1))] H=some (.slice (some ⟨H.length,0,none⟩) 2 2,H ++ [.cells [(.int k0 x0),(.int k1 x1)] 3 false])) /\
    (∀ H k0 x0 k1 x1 k2 x2,buildSliceA Tryz.prog 27 3 [(0,(.int k0 x0)),(1,(.int k1 x1)),(2,(.int k2 x2))] H=some (.slice (some ⟨H.length,0,none⟩) 3 3,H ++ [.cells [(.int k0 x0),(.int k1 x1),(.int k2 x2)] 3 false])) /\
    (∀ a n c m d,binA Tryz.prog .eql 27 (.slice a n c) (.slice none m d)=some (.bool (a.isNone))) /\
    (∀ a n c m d,binA Tryz.prog .neq 27 (.slice a n c) (.slice none m d)=some (.bool (!a.isNone))) /\
    (∀ x H,lenS Tryz.prog 27 x H=lenA Tryz.prog 27 x) /\
    (∀ p n c,lenA Tryz.prog 27 (.slice p n c)=some (.int .i64 n)) /\
    (∀ p H,loadA Tryz.prog 32 (.pointer (some p)) H=cellA H p.block p.off) /\
    (∀ (p:Addr) (n c:Nat) (k:IntKind) {i:Int},0<=i->i<(n:Int)->indexAddrA Tryz.prog 32 (.slice (some p) n c) (.int k i)=some (.pointer (some ⟨p.block,p.off+i.toNat,none⟩))) /\
    (∀ H,buildSliceA Tryz.prog 32 0 [] H=some (.slice (some ⟨H.length,0,none⟩) 0 0,H ++ [.cells [] 27 false])) /\
    (∀ H p0 n0 c0,buildSliceA Tryz.prog 32 1 [(0,(.slice p0 n0 c0))] H=some (.slice (some ⟨H.length,0,none⟩) 1 1,H ++ [.cells [(.slice p0 n0 c0)] 27 false])) /\
    (∀ H p0 n0 c0 p1 n1 c1,buildSliceA Tryz.prog 32 2 [(0,(.slice p0 n0 c0)),(1,(.slice p1 n1 c1))] H=some (.slice (some ⟨H.length,0,none⟩) 2 2,H ++ [.cells [(.slice p0 n0 c0),(.slice p1 n1 c1)] 27 false])) /\
    (∀ H p0 n0 c0 p1 n1 c1 p2 n2 c2,buildSliceA Tryz.prog 32 3 [(0,(.slice p0 n0 c0)),(1,(.slice p1 n1 c1)),(2,(.slice p2 n2 c2))] H=some (.slice (some ⟨H.length,0,none⟩) 3 3,H ++ [.cells [(.slice p0 n0 c0),(.slice p1 n1 c1),(.slice p2 n2 c2)] 27 false])) /\
    (∀ a n c m d,binA Tryz.prog .eql 32 (.slice a n c) (.slice none m d)=some (.bool (a.isNone))) /\
    (∀ a n c m d,binA Tryz.prog .neq 32 (.slice a n c) (.slice none m d)=some (.bool (!a.isNone))) /\
    (∀ x H,lenS Tryz.prog 32 x H=lenA Tryz.prog 32 x) /\
    (∀ p n c,lenA Tryz.prog 32 (.slice p n c)=some (.int .i64 n)) /\
    (∀ (p:Addr),fieldAddrA Tryz.prog 34 (.pointer (some p)) 0=some (.pointer (some ⟨p.block,p.off,none⟩))) /\
    (∀ (p:Addr),fieldAddrA Tryz.prog 34 (.pointer (some p)) 1=some (.pointer (some ⟨p.block,p.off+1,none⟩))) /\
    (∀ p H,loadA Tryz.prog 65 (.pointer (some p)) H=cellA H p.block p.off) /\
    (∀ p H,loadA Tryz.prog 68 (.pointer (some p)) H=cellA H p.block p.off) /\
    (∀ p H,loadA Tryz.prog 76 (.pointer (some p)) H=cellA H p.block p.off) /\
    (∀ p H,loadA Tryz.prog 80 (.pointer (some p)) H=cellA H p.block p.off) /\
    (∀ p H,loadA Tryz.prog 91 (.pointer (some p)) H=cellA H p.block p.off) /\
    (∀ p H,loadA Tryz.prog 94 (.pointer (some p)) H=cellA H p.block p.off) /\
    (∀ p H,loadA Tryz.prog 95 (.pointer (some p)) H=cellA H p.block p.off) /\
    (∀ p H,loadA Tryz.prog 97 (.pointer (some p)) H=cellA H p.block p.off) /\
    (∀ p H,loadA Tryz.prog 106 (.pointer (some p)) H=cellA H p.block p.off) /\
    (∀ p H,loadA Tryz.prog 110 (.pointer (some p)) H=cellA H p.block p.off) /\
    (∀ (p:Addr) (n c:Nat) (k:IntKind) {i:Int},0<=i->i<(n:Int)->indexAddrA Tryz.prog 110 (.slice (some p) n c) (.int k i)=some (.pointer (some ⟨p.block,p.off+i.toNat,none⟩))) /\
    (∀ H,buildSliceA Tryz.prog 110 0 [] H=some (.slice (some ⟨H.length,0,none⟩) 0 0,H ++ [.cells [] 95 false])) /\
    (∀ H k0 x0,buildSliceA Tryz.prog 110 1 [(0,(.int k0 x0))] H=some (.slice (some ⟨H.length,0,none⟩) 1 1,H ++ [.cells [(.int k0 x0)] 95 false])) /\
    (∀ H k0 x0 k1 x1,buildSliceA Tryz.prog 110 2 [(0,(.int k0 x0)),(1,(.int k1 x1))] H=some (.slice (some ⟨H.length,0,none⟩) 2 2,H ++ [.cells [(.int k0 x0),(.int k1 x1)] 95 false])) /\
    (∀ H k0 x0 k1 x1 k2 x2,buildSliceA Tryz.prog 110 3 [(0,(.int k0 x0)),(1,(.int k1 x1)),(2,(.int k2 x2))] H=some (.slice (some ⟨H.length,0,none⟩) 3 3,H ++ [.cells [(.int k0 x0),(.int k1 x1),(.int k2 x2)] 95 false])) /\
    (∀ a n c m d,binA Tryz.prog .eql 110 (.slice a n c) (.slice none m d)=some (.bool (a.isNone))) /\
    (∀ a n c m d,binA Tryz.prog .neq 110 (.slice a n c) (.slice none m d)=some (.bool (!a.isNone))) /\
    (∀ x H,lenS Tryz.prog 110 x H=lenA Tryz.prog 110 x) /\
    (∀ p n c,lenA Tryz.prog 110 (.slice p n c)=some (.int .i64 n)) /\
    (∀ (p:Addr) (k:IntKind),indexAddrA Tryz.prog 115 (.pointer (some p)) (.int k 0)=some (.pointer (some ⟨p.block,p.off,none⟩))) /\
    (∀ (p:Addr) (k:IntKind),indexAddrA Tryz.prog 115 (.pointer (some p)) (.int k 1)=some (.pointer (some ⟨p.block,p.off+1,none⟩))) /\
    (∀ p H,loadA Tryz.prog 117 (.pointer (some p)) H=cellA H p.block p.off) /\
    (∀ (p:Addr) (n c:Nat) (k:IntKind) {i:Int},0<=i->i<(n:Int)->indexAddrA Tryz.prog 117 (.slice (some p) n c) (.int k i)=some (.pointer (some ⟨p.block,p.off+i.toNat,none⟩))) /\
    (∀ H,buildSliceA Tryz.prog 117 0 [] H=some (.slice (some ⟨H.length,0,none⟩) 0 0,H ++ [.cells [] 3 false])) /\
    (∀ H k0 x0,buildSliceA Tryz.prog 117 1 [(0,(.int k0 x0))] H=some (.slice (some ⟨H.length,0,none⟩) 1 1,H ++ [.cells [(.int k0 x0)] 3 false])) /\
    (∀ H k0 x0 k1 x1,buildSliceA Tryz.prog 117 2 [(0,(.int k0 x0)),(1,(.int k1 x1))] H=some (.slice (some ⟨H.length,0,none⟩) 2 2,H ++ [.cells [(.int k0 x0),(.int k1 x1)] 3 false])) /\
    (∀ H k0 x0 k1 x1 k2 x2,buildSliceA Tryz.prog 117 3 [(0,(.int k0 x0)),(1,(.int k1 x1)),(2,(.int k2 x2))] H=some (.slice (some ⟨H.length,0,none⟩) 3 3,H ++ [.cells [(.int k0 x0),(.int k1 x1),(.int k2 x2)] 3 false])) /\
    (∀ a n c m d,binA Tryz.prog .eql 117 (.slice a n c) (.slice none m d)=some (.bool (a.isNone))) /\
    (∀ a n c m d,binA Tryz.prog .neq 117 (.slice a n c) (.slice none m d)=some (.bool (!a.isNone))) /\
    (∀ x H,lenS Tryz.prog 117 x H=lenA Tryz.prog 117 x) /\
    (∀ p n c,lenA Tryz.prog 117 (.slice p n c)=some (.int .i64 n)) /\
    (∀ p H,loadA Tryz.prog 118 (.pointer (some p)) H=cellA H p.block p.off) /\
    (∀ p H,loadA Tryz.prog 123 (.pointer (some p)) H=cellA H p.block p.off) /\
    (∀ p H,loadA Tryz.prog 126 (.pointer (some p)) H=cellA H p.block p.off) /\
    (∀ p H,loadA Tryz.prog 134 (.pointer (some p)) H=cellA H p.block p.off) /\
    (∀ p H,loadA Tryz.prog 169 (.pointer (some p)) H=cellA H p.block p.off) /\
    (∀ p H,loadA Tryz.prog 180 (.pointer (some p)) H=cellA H p.block p.off) /\
    (∀ k n,convA Tryz.prog 3 5 (.int k n)=some (.int .u8 (IntKind.u8.wrap n))) /\
    (∀ k n,convA Tryz.prog 3 65 (.int k n)=some (.int .u64 (IntKind.u64.wrap n))) /\
    (∀ k n,convA Tryz.prog 3 94 (.int k n)=some (.int .u64 (IntKind.u64.wrap n))) /\
    (∀ k n,convA Tryz.prog 3 95 (.int k n)=some (.int .u64 (IntKind.u64.wrap n))) /\
    (∀ k n,convA Tryz.prog 3 169 (.int k n)=some (.int .u32 (IntKind.u32.wrap n))) /\
    (∀ k n,convA Tryz.prog 5 3 (.int k n)=some (.int .i64 (IntKind.i64.wrap n))) /\
    (∀ k n,convA Tryz.prog 5 65 (.int k n)=some (.int .u64 (IntKind.u64.wrap n))) /\
    (∀ k n,convA Tryz.prog 5 94 (.int k n)=some (.int .u64 (IntKind.u64.wrap n))) /\
    (∀ k n,convA Tryz.prog 5 95 (.int k n)=some (.int .u64 (IntKind.u64.wrap n))) /\
    (∀ k n,convA Tryz.prog 5 169 (.int k n)=some (.int .u32 (IntKind.u32.wrap n))) /\
    (∀ k n,convA Tryz.prog 65 3 (.int k n)=some (.int .i64 (IntKind.i64.wrap n))) /\
    (∀ k n,convA Tryz.prog 65 5 (.int k n)=some (.int .u8 (IntKind.u8.wrap n))) /\
    (∀ k n,convA Tryz.prog 65 94 (.int k n)=some (.int .u64 (IntKind.u64.wrap n))) /\
    (∀ k n,convA Tryz.prog 65 95 (.int k n)=some (.int .u64 (IntKind.u64.wrap n))) /\
    (∀ k n,convA Tryz.prog 65 169 (.int k n)=some (.int .u32 (IntKind.u32.wrap n))) /\
    (∀ k n,convA Tryz.prog 94 3 (.int k n)=some (.int .i64 (IntKind.i64.wrap n))) /\
    (∀ k n,convA Tryz.prog 94 5 (.int k n)=some (.int .u8 (IntKind.u8.wrap n))) /\
    (∀ k n,convA Tryz.prog 94 65 (.int k n)=some (.int .u64 (IntKind.u64.wrap n))) /\
    (∀ k n,convA Tryz.prog 94 95 (.int k n)=some (.int .u64 (IntKind.u64.wrap n))) /\
    (∀ k n,convA Tryz.prog 94 169 (.int k n)=some (.int .u32 (IntKind.u32.wrap n))) /\
    (∀ k n,convA Tryz.prog 95 3 (.int k n)=some (.int .i64 (IntKind.i64.wrap n))) /\
    (∀ k n,convA Tryz.prog 95 5 (.int k n)=some (.int .u8 (IntKind.u8.wrap n))) /\
    (∀ k n,convA Tryz.prog 95 65 (.int k n)=some (.int .u64 (IntKind.u64.wrap n))) /\
    (∀ k n,convA Tryz.prog 95 94 (.int k n)=some (.int .u64 (IntKind.u64.wrap n))) /\
    (∀ k n,convA Tryz.prog 95 169 (.int k n)=some (.int .u32 (IntKind.u32.wrap n))) /\
    (∀ k n,convA Tryz.prog 169 3 (.int k n)=some (.int .i64 (IntKind.i64.wrap n))) /\
    (∀ k n,convA Tryz.prog 169 5 (.int k n)=some (.int .u8 (IntKind.u8.wrap n))) /\
    (∀ k n,convA Tryz.prog 169 65 (.int k n)=some (.int .u64 (IntKind.u64.wrap n))) /\
    (∀ k n,convA Tryz.prog 169 94 (.int k n)=some (.int .u64 (IntKind.u64.wrap n))) /\
    (∀ k n,convA Tryz.prog 169 95 (.int k n)=some (.int .u64 (IntKind.u64.wrap n))) :=
  ⟨ld_one ag3,
   ld_one ag4,
   eq_bool_eql Tryz.underlying4,
   eq_bool_neq Tryz.underlying4,
   ld_one ag5,
   ld_one ag9,
   ld_one ag24,
   bsP0 Tryz.underlying24 cs115 ze115 ⟨by kernel_rfl,by kernel_rfl⟩,
   bsP1 Tryz.underlying24 cs115 ze115,
   ix_two Tryz.underlying24 cs115,
   eq_nil_eql Tryz.underlying24,
   eq_nil_neq Tryz.underlying24,
   lenS_sl (by decide),
   ln_sl Tryz.underlying24,
   fun p=>by kernel_rfl,
   fun p=>by kernel_rfl,
   ld_one ag27,
   ix_one Tryz.underlying27 cs3,
   bs0 Tryz.underlying27 cs3 ze3 ⟨by kernel_rfl,by kernel_rfl⟩,
   fun H _ _=>bs1 Tryz.underlying27 cs3 ze3 ⟨by kernel_rfl,by kernel_rfl⟩ H rfl,
   fun H _ _ _ _=>bs2 Tryz.underlying27 cs3 ze3 ⟨by kernel_rfl,by kernel_rfl⟩ H rfl rfl,
   fun H _ _ _ _ _ _=>bs3 Tryz.underlying27 cs3 ze3 ⟨by kernel_rfl,by kernel_rfl⟩ H rfl rfl rfl,
   eq_nil_eql Tryz.underlying27,
   eq_nil_neq Tryz.underlying27,
   lenS_sl (by decide),
   ln_sl Tryz.underlying27,
   ld_one ag32,
   ix_one Tryz.underlying32 cs27,
   bs0 Tryz.underlying32 cs27 ze27 ⟨by kernel_rfl,by kernel_rfl⟩,
   fun H _ _ _=>bs1 Tryz.underlying32 cs27 ze27 ⟨by kernel_rfl,by kernel_rfl⟩ H rfl,
   fun H _ _ _ _ _ _=>bs2 Tryz.underlying32 cs27 ze27 ⟨by kernel_rfl,by kernel_rfl⟩ H rfl rfl,
   fun H _ _ _ _ _ _ _ _ _=>bs3 Tryz.underlying32 cs27 ze27 ⟨by kernel_rfl,by kernel_rfl⟩ H rfl rfl rfl,
   eq_nil_eql Tryz.underlying32,
   eq_nil_neq Tryz.underlying32,
   lenS_sl (by decide),
   ln_sl Tryz.underlying32,
   fun p=>by kernel_rfl,
   fun p=>by kernel_rfl,
   ld_one ag65,
   ld_one ag68,
   ld_one ag76,
   ld_one ag80,
   ld_one ag91,
   ld_one ag94,
   ld_one ag95,
   ld_one ag97,
   ld_one ag106,
   ld_one ag110,
   ix_one Tryz.underlying110 cs95,
   bs0 Tryz.underlying110 cs95 ze95 ⟨by kernel_rfl,by kernel_rfl⟩,
   fun H _ _=>bs1 Tryz.underlying110 cs95 ze95 ⟨by kernel_rfl,by kernel_rfl⟩ H rfl,
   fun H _ _ _ _=>bs2 Tryz.underlying110 cs95 ze95 ⟨by kernel_rfl,by kernel_rfl⟩ H rfl rfl,
   fun H _ _ _ _ _ _=>bs3 Tryz.underlying110 cs95 ze95 ⟨by kernel_rfl,by kernel_rfl⟩ H rfl rfl rfl,
   eq_nil_eql Tryz.underlying110,
   eq_nil_neq Tryz.underlying110,
   lenS_sl (by decide),
   ln_sl Tryz.underlying110,
   fun p k=>ix_arr Tryz.underlying115 cs3 p k (by decide) (by decide),
   fun p k=>ix_arr Tryz.underlying115 cs3 p k (by decide) (by decide),
   ld_one ag117,
   ix_one Tryz.underlying117 cs3,
   bs0 Tryz.underlying117 cs3 ze3 ⟨by kernel_rfl,by kernel_rfl⟩,
   fun H _ _=>bs1 Tryz.underlying117 cs3 ze3 ⟨by kernel_rfl,by kernel_rfl⟩ H rfl,
   fun H _ _ _ _=>bs2 Tryz.underlying117 cs3 ze3 ⟨by kernel_rfl,by kernel_rfl⟩ H rfl rfl,
   fun H _ _ _ _ _ _=>bs3 Tryz.underlying117 cs3 ze3 ⟨by kernel_rfl,by kernel_rfl⟩ H rfl rfl rfl,
   eq_nil_eql Tryz.underlying117,
   eq_nil_neq Tryz.underlying117,
   lenS_sl (by decide),
   ln_sl Tryz.underlying117,
   ld_one ag118,
   ld_one ag123,
   ld_one ag126,
   ld_one ag134,
   ld_one ag169,
   ld_one ag180,
   fun _ _=>by simp only [convA,Tryz.underlying3,Tryz.underlying5],
   fun _ _=>by simp only [convA,Tryz.underlying3,Tryz.underlying65],
   fun _ _=>by simp only [convA,Tryz.underlying3,Tryz.underlying94],
   fun _ _=>by simp only [convA,Tryz.underlying3,Tryz.underlying95],
   fun _ _=>by simp only [convA,Tryz.underlying3,Tryz.underlying169],
   fun _ _=>by simp only [convA,Tryz.underlying5,Tryz.underlying3],
   fun _ _=>by simp only [convA,Tryz.underlying5,Tryz.underlying65],
   fun _ _=>by simp only [convA,Tryz.underlying5,Tryz.underlying94],
   fun _ _=>by simp only [convA,Tryz.underlying5,Tryz.underlying95],
   fun _ _=>by simp only [convA,Tryz.underlying5,Tryz.underlying169],
   fun _ _=>by simp only [convA,Tryz.underlying65,Tryz.underlying3],
   fun _ _=>by simp only [convA,Tryz.underlying65,Tryz.underlying5],
   fun _ _=>by simp only [convA,Tryz.underlying65,Tryz.underlying94],
   fun _ _=>by simp only [convA,Tryz.underlying65,Tryz.underlying95],
   fun _ _=>by simp only [convA,Tryz.underlying65,Tryz.underlying169],
   fun _ _=>by simp only [convA,Tryz.underlying94,Tryz.underlying3],
   fun _ _=>by simp only [convA,Tryz.underlying94,Tryz.underlying5],
   fun _ _=>by simp only [convA,Tryz.underlying94,Tryz.underlying65],
   fun _ _=>by simp only [convA,Tryz.underlying94,Tryz.underlying95],
   fun _ _=>by simp only [convA,Tryz.underlying94,Tryz.underlying169],
   fun _ _=>by simp only [convA,Tryz.underlying95,Tryz.underlying3],
   fun _ _=>by simp only [convA,Tryz.underlying95,Tryz.underlying5],
   fun _ _=>by simp only [convA,Tryz.underlying95,Tryz.underlying65],
   fun _ _=>by simp only [convA,Tryz.underlying95,Tryz.underlying94],
   fun _ _=>by simp only [convA,Tryz.underlying95,Tryz.underlying169],
   fun _ _=>by simp only [convA,Tryz.underlying169,Tryz.underlying3],
   fun _ _=>by simp only [convA,Tryz.underlying169,Tryz.underlying5],
   fun _ _=>by simp only [convA,Tryz.underlying169,Tryz.underlying65],
   fun _ _=>by simp only [convA,Tryz.underlying169,Tryz.underlying94],
   fun _ _=>by simp only [convA,Tryz.underlying169,Tryz.underlying95]⟩
theorem SS : type_of% S ∧ type_of% S1 ∧ type_of% S2 ∧ type_of% S3 ∧ type_of% S4 ∧ type_of% S5 ∧ type_of% ST := ⟨S,S1,S2,S3,S4,S5,ST⟩
theorem alloc_a2 (H:AH):allocA Tryz.prog 115 H=some (.pointer (some ⟨H.length,0,none⟩),H ++ [.cells [.int .i64 0,.int .i64 0] 115 false]):=by kernel_rfl
theorem build_a2 (a b:Int):buildA Tryz.prog 115 [(0,.int .i64 a),(1,.int .i64 b)]=some (.agg (List.toArray [.int .i64 a,.int .i64 b])):=by kernel_rfl
theorem store_a2 (H:AH)(vs:List Value)(hv:vs.length=2)(a b:Value):storeA Tryz.prog 115 (.pointer (some ⟨H.length,0,none⟩)) (.agg (List.toArray [a,b])) (H ++ [.cells vs 115 false])=some (H ++ [.cells [a,b] 115 false]) :=
 st_new rfl (by rw [cs115];rfl) (by rw [cs115];decide) (by rw [cs115];exact hv)
theorem load_a2 (H:AH)(a b:Value):loadA Tryz.prog 115 (.pointer (some ⟨H.length,0,none⟩)) (H ++ [.cells [a,b] 115 false])=some (.agg (List.toArray [a,b])):=by
 simp only [loadA,at_new,ag115,cs115]
 rfl
theorem end_cell (P:Program)(a:Nat)(t:TypeId)(R:Value->AH->Prop)(s:Sl)(H:AH)(v:Value)(h:loadA P t (s a) H=some v)(ht:isTup v=false)(hr:R v H):endA P [.cell a t] R .ret s H:=by
 simp only [endA,resA,h,ht]
 simp [outA]
 exact hr
theorem box_a2 (H:AH)(x y:Value):boxA Tryz.prog 115 (.agg (List.toArray [x,y])) H=some (.pointer (some ⟨H.length,0,none⟩),H ++ [.cells [x,y] 115 false]):=by kernel_rfl
theorem st_a2 {H:AH}{o:Nat}{vs:List Value}{e:TypeId}(ho:H[o]?=some (.cells vs e false))(hv:vs.length=2)(a b:Value):storeA Tryz.prog 115 (.pointer (some ⟨o,0,none⟩)) (.agg (List.toArray [a,b])) H=some (H.set o (.cells [a,b] e false)):=by
 simp only [storeA,ho,cs115]
 have hcl:(Value.agg (List.toArray [a,b])).cells.toList=[a,b]:=rfl
 rw [hcl,if_pos ⟨rfl,rfl,by decide,by rw [hv];exact Nat.le_refl 2⟩]
 have:putAt vs 0 [a,b]=[a,b]:=by
  unfold putAt
  rw [List.take_zero,List.nil_append,List.drop_of_length_le (by simp;omega),List.append_nil]
 rw [this]
theorem ld_a2 {H:AH}{o:Nat}{a b:Value}{e:TypeId}{ro:Bool}(ho:H[o]?=some (.cells [a,b] e ro)):loadA Tryz.prog 115 (.pointer (some ⟨o,0,none⟩)) H=some (.agg (List.toArray [a,b])) :=
 ld_two ag115 cs115 (by rw [cell_of ho];rfl) (by rw [cell_of ho];rfl)
theorem st_at {P:Program}{t e:TypeId}(hc:P.cellsOf t=1){H:AH}{o i:Nat}{vs:List Value}{y:Value}(ho:H[o]?=some (.cells vs e false))(hi:i<vs.length)(h1:isTup y=false)(h2:y.cells.toList=[y]) :
  storeA P t (.pointer (some ⟨o,i,none⟩)) y H=some (H.set o (.cells (vs.set i y) e false)):=by
 simp only [storeA,ho]
 rw [h2,if_pos ⟨h1,by rw [hc];rfl,by omega,by simp;omega⟩]
 have:putAt vs i [y]=vs.set i y:=by
  unfold putAt
  rw [List.set_eq_take_append_cons_drop,if_pos hi]
  simp
 rw [this]
theorem ld_agg {P:Program}{t e:TypeId}(h:isAggA P t=some true)(hc:P.cellsOf t=2){H:AH}{o:Nat}{a b:Value}{ro:Bool}(ho:H[o]?=some (.cells [a,b] e ro)):loadA P t (.pointer (some ⟨o,0,none⟩)) H=some (.agg (List.toArray [a,b])) :=
 ld_two h hc (by rw [cell_of ho];rfl) (by rw [cell_of ho];rfl)
section
variable {e:TypeId} {G H:AH} {v:Value} {ps:List (Int × Int)}
theorem RowP.boxG (h:RowP e G v ps)(n:Int):boxA Tryz.prog 26 (.agg (List.toArray [.int .i64 n,v])) H=some (.pointer (some ⟨H.length,0,none⟩),H ++ [.cells [.int .i64 n,v] 26 false]):=by
 obtain ⟨q,rfl⟩:=h.shape;kernel_rfl
end
theorem alloc_G (H:AH):allocA Tryz.prog 26 H=some (.pointer (some ⟨H.length,0,none⟩),H ++ [.cells [.int .i64 0,.slice none 0 0] 26 false]):=by kernel_rfl
theorem st_G {e e2:TypeId}{G H:AH}{v:Value}{ps:List (Int × Int)}(h:RowP e2 G v ps){o:Nat}{vs:List Value}(ho:H[o]?=some (.cells vs e false))(hv:vs.length=2)(n:Int) :
  storeA Tryz.prog 26 (.pointer (some ⟨o,0,none⟩)) (.agg (List.toArray [.int .i64 n,v])) H=some (H.set o (.cells [.int .i64 n,v] e false)):=by
 obtain ⟨q,rfl⟩:=h.shape
 simp only [storeA,ho,cs26]
 have hcl:(Value.agg (List.toArray [.int .i64 n,.slice q ps.length ps.length])).cells.toList=[.int .i64 n,.slice q ps.length ps.length]:=rfl
 rw [hcl,if_pos ⟨rfl,rfl,by decide,by rw [hv];exact Nat.le_refl 2⟩]
 have:putAt vs 0 [.int .i64 n,.slice q ps.length ps.length]=[.int .i64 n,.slice q ps.length ps.length]:=by
  unfold putAt
  rw [List.take_zero,List.nil_append,List.drop_of_length_le (by simp;omega),List.append_nil]
 rw [this]
theorem MineP.keepL {e:TypeId}{H0 H H':AH}{v:Value}{ps:List (Int × Int)}(h:MineP e H0 H v ps)(hh:H0.length<=rowO v->∀ y,H[rowO v]?=some y->H'[rowO v]?=some y):MineP e H0 H' v ps:=by
 rcases h with h | ⟨o,zs,h1,h2,h3,h4⟩
 ·exact .inl h
 ·subst h1;exact .inr ⟨o,zs,rfl,h2,hh h2 _ h3,h4⟩
theorem cell_new (H:AH)(vs:List Value)(e:TypeId)(ro:Bool)(i:Nat):cellA (H ++ [.cells vs e ro]) H.length i=vs[i]?:=cell_of (at_new ..) i
end Go.Proofs.YtlcipphiflcaiaaGreat.Ai
namespace Go.Proofs.YtlcipphiflcaiaaGreat.Ai
open Go Go.RowKit
theorem ofInt_nat (n:Nat)(h:n<2 ^ 64):(BitVec.ofInt 64 (n:Int)).toNat=n:=by
 rw [BitVec.ofInt_natCast,BitVec.toNat_ofNat,Nat.mod_eq_of_lt h]
theorem and_nat (a b:Nat)(ha:a<2 ^ 64)(hb:b<2 ^ 64):bitsA .and .u64 (a:Int) (b:Int)=((a &&& b:Nat):Int):=by
 have h:a &&& b<2 ^ 64:=Nat.lt_of_le_of_lt Nat.and_le_left ha
 have e:(BitVec.ofInt 64 (a:Int) &&& BitVec.ofInt 64 (b:Int)).toNat=a &&& b:=by rw [BitVec.toNat_and,ofInt_nat a ha,ofInt_nat b hb]
 show IntKind.u64.wrap (((BitVec.ofInt 64 (a:Int) &&& BitVec.ofInt 64 (b:Int)).toNat:Nat):Int)=_
 rw [e,IntKind.wrap_u64];omega
theorem or_nat (a b:Nat)(ha:a<2 ^ 64)(hb:b<2 ^ 64):bitsA .or .u64 (a:Int) (b:Int)=((a ||| b:Nat):Int):=by
 have h:a ||| b<2 ^ 64:=Nat.or_lt_two_pow ha hb
 have e:(BitVec.ofInt 64 (a:Int) ||| BitVec.ofInt 64 (b:Int)).toNat=a ||| b:=by rw [BitVec.toNat_or,ofInt_nat a ha,ofInt_nat b hb]
 show IntKind.u64.wrap (((BitVec.ofInt 64 (a:Int) ||| BitVec.ofInt 64 (b:Int)).toNat:Nat):Int)=_
 rw [e,IntKind.wrap_u64];omega
theorem shr_nat (a y:Nat)(hy:y<=64):(a:Int).fdiv (2 ^ (min (y:Int).toNat 64))=((a / 2 ^ y:Nat):Int):=by
 rw [Int.toNat_natCast,Nat.min_eq_left hy]
 rw [Int.fdiv_eq_ediv_of_nonneg _ (Int.le_of_lt (Int.pow_pos (by decide)))]
 norm_cast
theorem bit_and (b y:Nat):((b / 2 ^ y) &&& 1=1)↔b.testBit y=true:=by
 rw [Nat.testBit_eq_decide_div_mod_eq,Nat.and_one_is_mod]
 simp
theorem bin_shr (P:Program)(t:TypeId)(b y:Nat)(hy:y<64):binA P .shr t (.int .u64 (b:Int)) (.int .i64 (y:Int))=some (.int .u64 ((b / 2 ^ y:Nat):Int)):=by
 have:¬ ((y:Int)<0):=by omega
 simp only [binA,shiftA,this,if_false,IntKind.bits]
 rw [if_pos (.inr trivial)]
 have:=shr_nat b y (by omega)
 simp only [this]
theorem bin_and (P:Program)(t:TypeId)(a b:Nat)(ha:a<2 ^ 64)(hb:b<2 ^ 64):binA P .and t (.int .u64 (a:Int)) (.int .u64 (b:Int))=some (.int .u64 ((a &&& b:Nat):Int)):=by
 simp only [binA,intA,and_nat a b ha hb]
 simp
theorem bin_or (P:Program)(t:TypeId)(a b:Nat)(ha:a<2 ^ 64)(hb:b<2 ^ 64):binA P .or t (.int .u64 (a:Int)) (.int .u64 (b:Int))=some (.int .u64 ((a ||| b:Nat):Int)):=by
 simp only [binA,intA,or_nat a b ha hb]
 simp
theorem bin_shl (P:Program)(t:TypeId)(y:Nat)(hy:y<64):binA P .shl t (.int .u64 1) (.int .i64 (y:Int))=some (.int .u64 ((2 ^ y:Nat):Int)):=by
 have h0:¬ ((y:Int)<0):=by omega
 have h1:2 ^ y<2 ^ 64:=Nat.pow_lt_pow_right (by decide) hy
 have h2:(1:Int) * 2 ^ (min (y:Int).toNat 64)=((2 ^ y:Nat):Int):=by
  rw [Int.toNat_natCast,Nat.min_eq_left (by omega),Int.one_mul];norm_cast
 have h3:binA P .shl t (.int .u64 1) (.int .i64 (y:Int))=some (.int .u64 (IntKind.u64.wrap ((1:Int) * 2 ^ (min (y:Int).toNat 64)))):=by
  simp only [binA,shiftA]
  rw [if_pos (.inl trivial),if_neg h0];rfl
 have h4:((2 ^ y:Nat):Int) % 18446744073709551616=((2 ^ y:Nat):Int):=by
  generalize 2 ^ y=z at h1
  omega
 rw [h3,h2,IntKind.wrap_u64,h4]
theorem div_lt (b y:Nat)(hb:b<2 ^ 64):b / 2 ^ y<2 ^ 64:=Nat.lt_of_le_of_lt (Nat.div_le_self _ _) hb
def Bits (b:Nat)(L:Nat)(s:List Int):Prop:=b<256/\∀ z,z<L->b.testBit z=decide ((z:Int) ∈ s)
theorem Bits.or {b L y:Nat}{s:List Int}(h:Bits b L s)(hy:y<8):Bits (b ||| 2 ^ y) L (s ++ [(y:Int)]):=by
 refine ⟨?_,fun z hz=>?_⟩
 ·have h1:2 ^ y<2 ^ 8:=Nat.pow_lt_pow_right (by decide) hy
  exact Nat.or_lt_two_pow (n:=8) h.1 h1
 ·rw [Nat.testBit_or,h.2 z hz,Nat.testBit_two_pow]
  have e:(y=z)↔((z:Int)=y):=by omega
  by_cases hm:(z:Int) ∈ s <;> by_cases hz2:y=z <;> simp [hm,hz2,e]
  ·intro hh;exact hz2 (by omega)
theorem Bits.no {b L x y:Nat}{s:List Int}(h:Bits b L s)(hx:x<L)(hy:y<L):(b &&& (2 ^ x ||| 2 ^ y) ≠ 0)↔((x:Int) ∈ s∨(y:Int) ∈ s):=by
 have hbx:=h.2 x hx
 have hby:=h.2 y hy
 constructor
 ·intro hne
  apply Decidable.byContradiction
  intro hno
  rw [not_or] at hno
  rw [decide_eq_false hno.1] at hbx
  rw [decide_eq_false hno.2] at hby
  apply hne
  apply Nat.eq_of_testBit_eq
  intro z
  rw [Nat.testBit_and,Nat.testBit_or,Nat.testBit_two_pow,Nat.testBit_two_pow,Nat.zero_testBit]
  by_cases e1:x=z
  ·subst e1;rw [hbx];rfl
  ·by_cases e2:y=z
   ·subst e2;rw [hby];rfl
   ·simp [e1,e2]
 ·rintro h' h0
  rcases h' with g | g
  ·rw [decide_eq_true g] at hbx
   have:=congrArg (fun n=>Nat.testBit n x) h0
   simp only [Nat.testBit_and,Nat.testBit_or,Nat.testBit_two_pow,Nat.zero_testBit,hbx] at this
   simp at this
  ·rw [decide_eq_true g] at hby
   have:=congrArg (fun n=>Nat.testBit n y) h0
   simp only [Nat.testBit_and,Nat.testBit_or,Nat.testBit_two_pow,Nat.zero_testBit,hby] at this
   simp at this
end Go.Proofs.YtlcipphiflcaiaaGreat.Ai
namespace Go.Proofs.YtlcipphiflcaiaaGreat.Ai
open Go Go.RowKit
theorem bin_shrU (P:Program)(t:TypeId)(b y:Nat)(hy:y<64):binA P .shr t (.int .u64 (b:Int)) (.int .u64 (y:Int))=some (.int .u64 ((b / 2 ^ y:Nat):Int)):=by
 have:¬ ((y:Int)<0):=by omega
 simp only [binA,shiftA,this,if_false,IntKind.bits]
 rw [if_pos (.inr trivial)]
 have:=shr_nat b y (by omega)
 simp only [this]
def cd159:Cd:=(.seq (.reg [⟨⟨some 2,.assign (.const (.int .i64 0)),none⟩,[]⟩]) (.seq (.reg [⟨⟨some 3,.assign (.const (.int .i64 0)),none⟩,[]⟩]) (.seq (.seq (.reg [⟨⟨some 4,.move (.tmp 0),none⟩,[]⟩,⟨⟨some 5,.nilCheck (.tmp 4),none⟩,[]⟩,⟨⟨some 6,.fieldAddr 67 (.tmp 5) 1,none⟩,[]⟩,⟨⟨some 7,.load 3 (.tmp 6),none⟩,[]⟩,⟨⟨some 8,.move (.tmp 0),none⟩,[]⟩,⟨⟨some 9,.nilCheck (.tmp 8),none⟩,[]⟩,⟨⟨some 10,.fieldAddr 67 (.tmp 9) 0,none⟩,[]⟩,⟨⟨some 11,.load 22 (.tmp 10),none⟩,[]⟩,⟨⟨some 12,.call ⟨(.builtin .len),#[.tmp 11],#[22]⟩,none⟩,[]⟩,⟨⟨some 13,.binOp .lss 3 (.tmp 7) (.tmp 12) 3,none⟩,[]⟩]) (.cond (.tmp 13) (.reg [⟨⟨some 14,.move (.tmp 0),none⟩,[]⟩,⟨⟨some 15,.nilCheck (.tmp 14),none⟩,[]⟩,⟨⟨some 16,.fieldAddr 67 (.tmp 15) 0,none⟩,[]⟩,
 ⟨⟨some 17,.load 22 (.tmp 16),none⟩,[]⟩,⟨⟨some 18,.move (.tmp 0),none⟩,[]⟩,⟨⟨some 19,.nilCheck (.tmp 18),none⟩,[]⟩,⟨⟨some 20,.fieldAddr 67 (.tmp 19) 1,none⟩,[]⟩,⟨⟨some 21,.load 3 (.tmp 20),none⟩,[]⟩,⟨⟨some 22,.indexAddr 22 (.tmp 17) (.tmp 21),none⟩,[]⟩,⟨⟨some 23,.load 5 (.tmp 22),none⟩,[]⟩,⟨⟨some 24,.convert 5 3 (.tmp 23),none⟩,[]⟩,⟨⟨some 3,.assign (.tmp 24),none⟩,[]⟩]) .skip)) (.seq (.reg [⟨⟨some 25,.move (.tmp 0),none⟩,[]⟩,⟨⟨some 26,.nilCheck (.tmp 25),none⟩,[]⟩,⟨⟨some 27,.fieldAddr 67 (.tmp 26) 1,none⟩,[]⟩,⟨⟨some 28,.load 3 (.tmp 27),none⟩,[]⟩,
 ⟨⟨some 29,.binOp .add 3 (.tmp 28) (.const (.int .i64 1)) 3,none⟩,[]⟩,⟨⟨some 30,.nilCheck (.tmp 25),none⟩,[]⟩,⟨⟨some 31,.fieldAddr 67 (.tmp 30) 1,none⟩,[]⟩,⟨⟨none,.store 3 (.tmp 31) (.tmp 29),none⟩,[]⟩]) (.seq (.reg [⟨⟨some 32,.move (.tmp 0),none⟩,[]⟩,⟨⟨some 33,.move (.tmp 0),none⟩,[]⟩,⟨⟨some 34,.nilCheck (.tmp 33),none⟩,[]⟩,⟨⟨some 35,.fieldAddr 67 (.tmp 34) 2,none⟩,[]⟩,⟨⟨some 36,.load 65 (.tmp 35),none⟩,[]⟩,⟨⟨some 37,.binOp .mul 65 (.tmp 36) (.const (.int .u64 6364136223846793005)) 65,none⟩,[]⟩,⟨⟨some 38,.move (.tmp 3),none⟩,[]⟩,⟨⟨some 39,.convert 3 65 (.tmp 38),none⟩,[]⟩,⟨⟨some 40,.binOp .add 65 (.tmp 37) (.tmp 39) 65,none⟩,[]⟩,
 ⟨⟨some 41,.binOp .add 65 (.tmp 40) (.const (.int .u64 462197)) 65,none⟩,[]⟩,⟨⟨some 42,.nilCheck (.tmp 32),none⟩,[]⟩,⟨⟨some 43,.fieldAddr 67 (.tmp 42) 2,none⟩,[]⟩,⟨⟨none,.store 65 (.tmp 43) (.tmp 41),none⟩,[]⟩]) (.seq (.seq (.reg [⟨⟨some 44,.move (.tmp 0),none⟩,[]⟩,⟨⟨some 45,.nilCheck (.tmp 44),none⟩,[]⟩,⟨⟨some 46,.fieldAddr 67 (.tmp 45) 1,none⟩,[]⟩,⟨⟨some 47,.load 3 (.tmp 46),none⟩,[]⟩,⟨⟨some 48,.move (.tmp 0),none⟩,[]⟩,⟨⟨some 49,.nilCheck (.tmp 48),none⟩,[]⟩,⟨⟨some 50,.fieldAddr 67 (.tmp 49) 0,none⟩,[]⟩,⟨⟨some 51,.load 22 (.tmp 50),none⟩,[]⟩,⟨⟨some 52,.call ⟨(.builtin .len),#[.tmp 51],#[22]⟩,none⟩,[]⟩,
 ⟨⟨some 53,.binOp .leq 3 (.tmp 47) (.tmp 52) 3,none⟩,[]⟩]) (.cond (.tmp 53) (.seq (.reg [⟨⟨some 54,.move (.tmp 3),none⟩,[]⟩,
  ⟨⟨some 2,.assign (.tmp 54),none⟩,[]⟩]) .ret) .skip)) (.seq (.reg [⟨⟨some 55,.move (.tmp 0),none⟩,[]⟩,
  ⟨⟨some 56,.nilCheck (.tmp 55),none⟩,[]⟩,
  ⟨⟨some 57,.fieldAddr 67 (.tmp 56) 2,none⟩,[]⟩,
  ⟨⟨some 58,.load 65 (.tmp 57),none⟩,[]⟩,
  ⟨⟨some 59,.binOp .shr 65 (.tmp 58) (.const (.int .u64 40)) 94,none⟩,[]⟩,
  ⟨⟨some 60,.binOp .and 65 (.tmp 59) (.const (.int .u64 255)) 65,none⟩,[]⟩,
  ⟨⟨some 61,.convert 65 3 (.tmp 60),none⟩,[]⟩,
  ⟨⟨some 2,.assign (.tmp 61),none⟩,[]⟩]) .ret)))))))
theorem in159:InT Tryz.prog 159 1 [.tmp 2] cd159:=InT.mk (by kernel_rfl) [(2,[(0,false),(1,false),(2,false),(3,false),(4,false),(5,false),(6,false),(7,false),(8,false),(9,false)]),(3,[(0,false),(1,false),(2,false),(3,false),(4,false),(5,false),(6,false),(7,false),(8,false),(9,false),(10,false),(11,false)]),(6,[(0,false),(1,false),(2,false),(3,false),(4,false),(5,false),(6,false),(7,false),(8,false),(9,false)])] Tryz.func159 rfl (by kernel_rfl) (by kernel_rfl) (of_decide_eq_true (by kernel_rfl)) (by kernel_rfl)
def cd107:Cd:=(.seq (.reg [⟨⟨some 4,.assign (.const (.int .i64 0)),none⟩,[]⟩]) (.seq (.seq (.reg [⟨⟨some 6,.move (.tmp 1),none⟩,[]⟩,⟨⟨some 7,.binOp .leq 3 (.tmp 6) (.const (.int .i64 1)) 3,none⟩,[]⟩]) (.cond (.tmp 7) (.seq (.reg [⟨⟨some 4,.assign (.const (.int .i64 0)),none⟩,[]⟩]) .ret) .skip)) (.seq (.reg [⟨⟨some 8,.move (.tmp 0),none⟩,[]⟩,⟨⟨some 9,.call ⟨(.value (.func 159)),#[.tmp 8],#[64]⟩,none⟩,[]⟩,⟨⟨some 5,.assign (.tmp 9),none⟩,[]⟩]) (.seq (.seq (.reg [⟨⟨some 10,.move (.tmp 1),none⟩,[]⟩,⟨⟨some 11,.binOp .gtr 3 (.tmp 10) (.const (.int .i64 200)) 3,none⟩,[]⟩]) (.cond (.tmp 11) (.reg [⟨⟨some 12,.move (.tmp 5),none⟩,[]⟩,⟨⟨some 13,.binOp .mul 3 (.tmp 12) (.const (.int .i64 256)) 3,none⟩,[]⟩,⟨⟨some 14,.move (.tmp 0),none⟩,[]⟩,⟨⟨some 15,.call ⟨(.value (.func 159)),#[.tmp 14],#[64]⟩,none⟩,[]⟩,⟨⟨some 16,.binOp .add 3 (.tmp 13) (.tmp 15) 3,none⟩,[]⟩,⟨⟨some 5,.assign (.tmp 16),none⟩,[]⟩]) .skip)) (.seq (.reg [⟨⟨some 17,.move (.tmp 5),none⟩,[]⟩,⟨⟨some 18,.move (.tmp 1),none⟩,[]⟩,⟨⟨some 19,.binOp .rem 3 (.tmp 17) (.tmp 18) 3,none⟩,[]⟩,
 ⟨⟨some 4,.assign (.tmp 19),none⟩,[]⟩]) .ret)))))
theorem in107:InT Tryz.prog 107 2 [.tmp 4] cd107:=InT.mk (by kernel_rfl) [] Tryz.func107 rfl (by kernel_rfl) (by kernel_rfl) (of_decide_eq_true (by kernel_rfl)) (by kernel_rfl)
def cd86:Cd:=(.seq (.reg [⟨⟨some 4,.assign (.const (.bool false)),none⟩,[]⟩]) (.seq (.reg [⟨⟨some 5,.move (.tmp 0),none⟩,[]⟩,
 ⟨⟨some 6,.move (.tmp 1),none⟩,[]⟩,
 ⟨⟨some 7,.call ⟨(.value (.func 107)),#[.tmp 5,.tmp 6],#[64,3]⟩,none⟩,[]⟩,
 ⟨⟨some 8,.binOp .eql 3 (.tmp 7) (.const (.int .i64 0)) 3,none⟩,[]⟩,
 ⟨⟨some 4,.assign (.tmp 8),none⟩,[]⟩]) .ret))
theorem in86:InT Tryz.prog 86 2 [.tmp 4] cd86:=InT.mk (by kernel_rfl) [] Tryz.func86 rfl (by kernel_rfl) (by kernel_rfl) (of_decide_eq_true (by kernel_rfl)) (by kernel_rfl)
def cd108:Cd:=(.seq (.reg [⟨⟨some 4,.assign (.const (.int .i64 0)),none⟩,[]⟩]) (.seq (.reg [⟨⟨some 5,.move (.tmp 1),none⟩,[]⟩,
 ⟨⟨some 6,.move (.tmp 0),none⟩,[]⟩,
 ⟨⟨some 7,.move (.tmp 1),none⟩,[]⟩,
 ⟨⟨some 8,.call ⟨(.builtin .len),#[.tmp 7],#[27]⟩,none⟩,[]⟩,
 ⟨⟨some 9,.call ⟨(.value (.func 107)),#[.tmp 6,.tmp 8],#[64,3]⟩,none⟩,[]⟩,
 ⟨⟨some 10,.indexAddr 27 (.tmp 5) (.tmp 9),none⟩,[]⟩,
 ⟨⟨some 11,.load 3 (.tmp 10),none⟩,[]⟩,
 ⟨⟨some 4,.assign (.tmp 11),none⟩,[]⟩]) .ret))
theorem in108:InT Tryz.prog 108 2 [.tmp 4] cd108:=InT.mk (by kernel_rfl) [] Tryz.func108 rfl (by kernel_rfl) (by kernel_rfl) (of_decide_eq_true (by kernel_rfl)) (by kernel_rfl)
end Go.Proofs.YtlcipphiflcaiaaGreat.Ai
namespace Go.Proofs.YtlcipphiflcaiaaGreat.Ai
open Go Go.RowKit
theorem fa_cur (p:Addr):fieldAddrA Tryz.prog 67 (.pointer (some p)) 0=some (.pointer (some ⟨p.block,p.off,none⟩))/\fieldAddrA Tryz.prog 67 (.pointer (some p)) 1=some (.pointer (some ⟨p.block,p.off+1,none⟩))/\fieldAddrA Tryz.prog 67 (.pointer (some p)) 2=some (.pointer (some ⟨p.block,p.off+2,none⟩)):=⟨by kernel_rfl,by kernel_rfl,by kernel_rfl⟩
theorem cs_u8:Tryz.prog.cellsOf 5=1:=by kernel_rfl
theorem cs_u64:Tryz.prog.cellsOf 65=1:=by kernel_rfl
theorem ag_u8:isAggA Tryz.prog 5=some false:=by kernel_rfl
theorem ag_u64:isAggA Tryz.prog 65=some false:=by kernel_rfl
theorem ag_by:isAggA Tryz.prog 22=some false:=by kernel_rfl
theorem len_by:∀ x H,lenS Tryz.prog 22 x H=lenA Tryz.prog 22 x:=lenS_sl (by decide)
theorem nilP (p:Addr):nilA (.pointer (some p))=some (.pointer (some p)):=rfl
structure Cur (H:AH) (o:Nat) (v:Value) (us:List Value) (N:Nat):Prop where
 cur:∃ at_ seed:Nat,H[o]?=some (.cells [v,.int .i64 (at_:Int),.int .u64 (seed:Int)] 67 false)/\at_<=N/\seed<2 ^ 64
 row:RowV 5 H v us
 byt:∀ i,i<us.length->∃ b:Nat,us.getD i undef=.int .u8 (b:Int)/\b<256
 ap:v=.slice none 0 0∨rowO v ≠ o
 le:us.length<=1048576
def OnlyO (o:Nat)(H H':AH):Prop:=H'.length=H.length/\∀ (j:Nat) (y:AObj),j ≠ o->H[j]?=some y->H'[j]?=some y
theorem OnlyO.trans {o:Nat}{H H' H'':AH}(h:OnlyO o H H')(k:OnlyO o H' H''):OnlyO o H H'':=⟨k.1.trans h.1,fun j y hj hy=>k.2 j y hj (h.2 j y hj hy)⟩
theorem OnlyO.refl (o:Nat)(H:AH):OnlyO o H H:=⟨rfl,fun _ _ _ h=>h⟩
theorem Cur.more {H:AH}{o:Nat}{v:Value}{us:List Value}{N M:Nat}(h:Cur H o v us N)(hm:N<=M):Cur H o v us M:=by
 obtain ⟨a,s,h1,h2,h3⟩:=h.cur
 exact ⟨⟨a,s,h1,by omega,h3⟩,h.row,h.byt,h.ap,h.le⟩
theorem Cur.pre {H H':AH}{o:Nat}{v:Value}{us:List Value}{N:Nat}(h:Cur H o v us N)(hp:H<+:H'):Cur H' o v us N:=by
 obtain ⟨a,s,h1,h2,h3⟩:=h.cur
 exact ⟨⟨a,s,pre_at hp h1,h2,h3⟩,h.row.pre hp,h.byt,h.ap,h.le⟩
theorem next_c {H:AH}{o:Nat}{v:Value}{us:List Value}{N:Nat}(h:Cur H o v us N)(hN:N<=1000000000) :
  ACalls Tryz.prog 159 [.pointer (some ⟨o,0,none⟩)] H fun r H'=>(∃ x:Nat,r=.int .i64 (x:Int)/\x<256)/\Cur H' o v us (N+1)/\OnlyO o H H':=by
 obtain ⟨at_,seed,ho,hat,hs⟩:=h.cur
 have hle:=h.le
 have hol:=at_lt ho
 refine in159 rfl ?_
 intro Q hQ
 have fin:∀ (b:Nat),b<256->∀ z:Int,0<=z->z<18446744073709551616->∀ H2:AH,H2=(H.set o (.cells [v,.int .i64 ((at_+1:Nat):Int),.int .u64 (seed:Int)] 67 false)).set o (.cells [v,.int .i64 ((at_+1:Nat):Int),.int .u64 z] 67 false)->Cur H2 o v us (N+1)/\OnlyO o H H2:=by
  intro b hb z z0 z1 H2 e
  have only:OnlyO o H H2:=by
   subst e
   refine ⟨by simp,fun j y hj hy=>?_⟩
   rw [List.getElem?_set_ne (fun e=>hj e.symm),List.getElem?_set_ne (fun e=>hj e.symm)]
   exact hy
  refine ⟨⟨⟨at_+1,z.toNat,?_,by omega,by omega⟩,?_,h.byt,h.ap,hle⟩,only⟩
  ·subst e
   rw [List.getElem?_set_self (by simpa using hol),Int.toNat_of_nonneg z0]
  ·rcases h.row with q | q
   ·exact .inl q
   ·refine RowV.mono (.inr q) fun y hy=>?_
    rcases h.ap with g | g
    ·obtain ⟨o',k',_,_,g1,_⟩:=q
     rw [g] at g1;cases g1
    ·exact only.2 _ _ g hy
 have s1:=st_at (P:=Tryz.prog) (t:=3) (i:=1) (y:=.int .i64 ((at_+1:Nat):Int)) cs3 ho (by show 1<3;decide) rfl rfl
 have hw1:IntKind.i64.wrap ((at_:Int)+1)=((at_+1:Nat):Int):=by rw [wrap64 (by omega) (by omega)];omega
 have c1:(H.set o (.cells ([v,.int .i64 (at_:Int),.int .u64 (seed:Int)].set 1 (.int .i64 ((at_+1:Nat):Int))) 67 false))[o]?=some (.cells [v,.int .i64 ((at_+1:Nat):Int),.int .u64 (seed:Int)] 67 false):=by
  rw [List.getElem?_set_self hol];rfl
 have fa:=fun p=>fa_cur p
 generalize hK:H.set o (.cells ([v,.int .i64 (at_:Int),.int .u64 (seed:Int)].set 1 (.int .i64 ((at_+1:Nat):Int))) 67 false)=K at s1 c1
 have hK2:K=H.set o (.cells [v,.int .i64 ((at_+1:Nat):Int),.int .u64 (seed:Int)] 67 false):=by rw [<- hK];rfl
 rw [<- hK2] at fin
 have s2:∀ z:Int,storeA Tryz.prog 65 (.pointer (some ⟨o,2,none⟩)) (.int .u64 z) K=some (K.set o (.cells [v,.int .i64 ((at_+1:Nat):Int),.int .u64 z] 67 false)):=fun z =>
  st_at (P:=Tryz.prog) (t:=65) (i:=2) (y:=.int .u64 z) cs_u64 c1 (by show 2<3;decide) rfl rfl
 have hKl:o<K.length:=at_lt c1
 have c2:∀ z:Int,(K.set o (.cells [v,.int .i64 ((at_+1:Nat):Int),.int .u64 z] 67 false))[o]?=some (.cells [v,.int .i64 ((at_+1:Nat):Int),.int .u64 z] 67 false):=fun z=>List.getElem?_set_self hKl
 have wz:∀ y:Int,0<=IntKind.u64.wrap y/\IntKind.u64.wrap y<18446744073709551616:=fun y=>by rw [IntKind.wrap_u64];omega
 simp (maxSteps:=1000000) (disch:=omega) only [cd159,nilP,(fa_cur _).1,(fa_cur _).2.1,(fa_cur _).2.2,ld_one ag_by,ld_one ag_u8,ld_one ag_u64,cell_of ho,len_by,h.row.len Tryz.underlying22,SS,eq_self,reduceIte,reduceCtorEq,Nat.reduceEqDiff,Nat.reduceAdd]
 refine brD.intro (fun g=>?_) (fun g=>?_)
 ·have hi:at_<us.length:=by omega
  obtain ⟨b,hb1,hb2⟩:=h.byt at_ hi
  have hc:=h.row.cell hi
  rw [hb1] at hc
  simp (maxSteps:=1000000) (disch:=omega) only [nilP,(fa_cur _).1,(fa_cur _).2.1,(fa_cur _).2.2,ld_one ag_by,ld_one ag_u8,ld_one ag_u64,cell_of ho,h.row.ix Tryz.underlying22 cs_u8,Int.toNat_natCast,hc,hw1,s1,cell_of c1,s2,SS,eq_self,reduceIte,reduceCtorEq,Nat.reduceEqDiff,Nat.reduceAdd]
  generalize hzz:IntKind.u64.wrap (IntKind.u64.wrap (IntKind.u64.wrap ((seed:Int) * 6364136223846793005)+IntKind.u64.wrap (IntKind.i64.wrap (b:Int)))+462197)=z
  have hz:0<=z/\z<18446744073709551616:=by rw [<- hzz];exact wz _
  obtain ⟨q1,q2⟩:=fin b hb2 z hz.1 hz.2 _ rfl
  have hw2:IntKind.i64.wrap (b:Int)=(b:Int):=wrap64 (by omega) (by omega)
  simp (maxSteps:=1000000) (disch:=omega) only [nilP,(fa_cur _).1,(fa_cur _).2.1,(fa_cur _).2.2,ld_one ag_by,ld_one ag_u64,cell_of (c2 z),len_by,h.row.len Tryz.underlying22,SS,eq_self,reduceIte,reduceCtorEq,Nat.reduceEqDiff,Nat.reduceAdd]
  refine brD.intro (fun g2=>?_) (fun g2=>absurd (show ((at_+1:Nat):Int)<=(us.length:Int) by omega) g2)
  simp (maxSteps:=1000000) (disch:=omega) only [hw2,SS,eq_self,reduceIte,reduceCtorEq,Nat.reduceEqDiff,Nat.reduceAdd]
  refine hQ _ _ _ ?_
  simp (maxSteps:=1000000) (disch:=omega) only [SS,eq_self,reduceIte,reduceCtorEq,Nat.reduceEqDiff,Nat.reduceAdd]
  exact ⟨⟨b,rfl,hb2⟩,q1,q2⟩
 ·simp (maxSteps:=1000000) (disch:=omega) only [nilP,(fa_cur _).1,(fa_cur _).2.1,(fa_cur _).2.2,ld_one ag_by,ld_one ag_u8,ld_one ag_u64,cell_of ho,hw1,s1,cell_of c1,s2,SS,eq_self,reduceIte,reduceCtorEq,Nat.reduceEqDiff,Nat.reduceAdd]
  generalize hzz:IntKind.u64.wrap (IntKind.u64.wrap (IntKind.u64.wrap ((seed:Int) * 6364136223846793005)+IntKind.u64.wrap 0)+462197)=z
  have hz:0<=z/\z<18446744073709551616:=by rw [<- hzz];exact wz _
  obtain ⟨q1,q2⟩:=fin 0 (by omega) z hz.1 hz.2 _ rfl
  obtain ⟨zn,rfl⟩:∃ k:Nat,z=k:=⟨z.toNat,by omega⟩
  simp (maxSteps:=1000000) (disch:=omega) only [nilP,(fa_cur _).1,(fa_cur _).2.1,(fa_cur _).2.2,ld_one ag_by,ld_one ag_u64,cell_of (c2 _),len_by,h.row.len Tryz.underlying22,SS,eq_self,reduceIte,reduceCtorEq,Nat.reduceEqDiff,Nat.reduceAdd]
  refine brD.intro (fun g2=>absurd g2 (by omega)) (fun g2=>?_)
  have k1:binA Tryz.prog .shr 65 (.int .u64 (zn:Int)) (.int .u64 40)=some (.int .u64 ((zn / 2 ^ 40:Nat):Int)):=bin_shrU _ _ zn 40 (by decide)
  have hd:zn / 2 ^ 40<2 ^ 64:=Nat.lt_of_le_of_lt (Nat.div_le_self _ _) (by omega)
  have k2:binA Tryz.prog .and 65 (.int .u64 ((zn / 2 ^ 40:Nat):Int)) (.int .u64 255)=some (.int .u64 ((zn / 2 ^ 40 &&& 255:Nat):Int)):=bin_and _ _ _ 255 hd (by decide)
  have hle2:zn / 2 ^ 40 &&& 255<=255:=Nat.and_le_right
  generalize zn / 2 ^ 40 &&& 255=r at *
  have c3:convA Tryz.prog 65 3 (.int .u64 (r:Int))=some (.int .i64 (r:Int)):=by
   simp only [convA,Tryz.underlying65,Tryz.underlying3]
   rw [wrap64 (by omega) (by omega)]
  simp (maxSteps:=1000000) (disch:=omega) only [nilP,(fa_cur _).1,(fa_cur _).2.1,(fa_cur _).2.2,ld_one ag_u64,cell_of (c2 _),k1,k2,c3,SS,eq_self,reduceIte,reduceCtorEq,Nat.reduceEqDiff,Nat.reduceAdd]
  refine hQ _ _ _ ?_
  simp (maxSteps:=1000000) (disch:=omega) only [SS,eq_self,reduceIte,reduceCtorEq,Nat.reduceEqDiff,Nat.reduceAdd]
  exact ⟨⟨r,rfl,by omega⟩,q1,q2⟩
theorem pick_c {H:AH}{o:Nat}{v:Value}{us:List Value}{N:Nat}(h:Cur H o v us N)(hN:N<=1000000000)(n:Int)(hn:n<=200) :
  ACalls Tryz.prog 107 [.pointer (some ⟨o,0,none⟩),.int .i64 n] H fun r H'=>(∃ x:Nat,r=.int .i64 (x:Int)/\((x:Int)<n∨x=0))/\Cur H' o v us (N+1)/\OnlyO o H H':=by
 refine in107 rfl ?_
 intro Q hQ
 simp (disch:=omega) only [cd107,SS,eq_self,reduceIte,reduceCtorEq,Nat.reduceEqDiff,Nat.reduceAdd]
 refine brD.intro (fun g=>?_) (fun g=>?_)
 ·simp (disch:=omega) only [SS,eq_self,reduceIte,reduceCtorEq,Nat.reduceEqDiff,Nat.reduceAdd]
  refine hQ _ _ _ ?_
  simp (disch:=omega) only [SS,eq_self,reduceIte,reduceCtorEq,Nat.reduceEqDiff,Nat.reduceAdd]
  exact ⟨⟨0,rfl,.inr rfl⟩,h.more (by omega),OnlyO.refl o H⟩
 simp (disch:=omega) only [SS,eq_self,reduceIte,reduceCtorEq,Nat.reduceEqDiff,Nat.reduceAdd]
 refine CallH.by (next_c h hN) ?_
 rintro _ K ⟨⟨x,rfl,hx⟩,hK,oK⟩
 have hn0:n ≠ 0:=by omega
 have hmod:(x:Int).tmod n=((x % n.toNat:Nat):Int):=by
  rw [Int.tmod_eq_emod_of_nonneg (by omega)]
  have:n=(n.toNat:Int):=by omega
  conv=>lhs;rw [this]
  exact (Int.natCast_emod x n.toNat).symm
 simp (disch:=omega) only [SS,eq_self,reduceIte,reduceCtorEq,Nat.reduceEqDiff,Nat.reduceAdd]
 refine brD.intro (fun g2=>absurd g2 (by omega)) (fun g2=>?_)
 simp (disch:=omega) only [hn0,hmod,SS,eq_self,reduceIte,reduceCtorEq,Nat.reduceEqDiff,Nat.reduceAdd]
 refine hQ _ _ _ ?_
 simp (disch:=omega) only [SS,eq_self,reduceIte,reduceCtorEq,Nat.reduceEqDiff,Nat.reduceAdd]
 have:=Nat.mod_lt x (show 0<n.toNat by omega)
 exact ⟨⟨x % n.toNat,rfl,.inl (by omega)⟩,hK,oK⟩
theorem one_c {H:AH}{o:Nat}{v:Value}{us:List Value}{N:Nat}(h:Cur H o v us N)(hN:N<=1000000000)(n:Int)(hn:n<=200) :
  ACalls Tryz.prog 86 [.pointer (some ⟨o,0,none⟩),.int .i64 n] H fun r H'=>(∃ b:Bool,r=.bool b)/\Cur H' o v us (N+1)/\OnlyO o H H':=by
 refine in86 rfl ?_
 intro Q hQ
 simp (disch:=omega) only [cd86,SS,eq_self,reduceIte,reduceCtorEq,Nat.reduceEqDiff,Nat.reduceAdd]
 refine CallH.by (pick_c h hN n hn) ?_
 rintro _ K ⟨⟨x,rfl,_⟩,hK,oK⟩
 simp (disch:=omega) only [SS,eq_self,reduceIte,reduceCtorEq,Nat.reduceEqDiff,Nat.reduceAdd]
 refine hQ _ _ _ ?_
 simp (disch:=omega) only [SS,eq_self,reduceIte,reduceCtorEq,Nat.reduceEqDiff,Nat.reduceAdd]
 exact ⟨⟨_,rfl⟩,hK,oK⟩
theorem among_c {H:AH}{o:Nat}{v w:Value}{us:List Value}{xs:List Int}{N:Nat}(h:Cur H o v us N)(hN:N<=1000000000)(hw:Row 3 H w xs)(hwo:rowO w ≠ o)(hl:0<xs.length/\xs.length<=200) :
  ACalls Tryz.prog 108 [.pointer (some ⟨o,0,none⟩),w] H fun r H'=>(∃ x:Int,r=.int .i64 x/\x ∈ xs)/\Cur H' o v us (N+1)/\OnlyO o H H':=by
 refine in108 rfl ?_
 intro Q hQ
 simp (disch:=omega) only [cd108,hw.len Tryz.underlying27,SS,eq_self,reduceIte,reduceCtorEq,Nat.reduceEqDiff,Nat.reduceAdd]
 refine CallH.by (pick_c h hN (xs.length:Int) (by omega)) ?_
 rintro _ K ⟨⟨x,rfl,hx⟩,hK,oK⟩
 have hxl:x<xs.length:=by omega
 have hwK:Row 3 K w xs:=hw.mono fun y hy=>oK.2 _ _ hwo hy
 have hc:=hwK.cell hxl
 simp (disch:=omega) only [hw.ix Tryz.underlying27 cs3,Int.toNat_natCast,hc,SS,eq_self,reduceIte,reduceCtorEq,Nat.reduceEqDiff,Nat.reduceAdd]
 refine hQ _ _ _ ?_
 simp (disch:=omega) only [SS,eq_self,reduceIte,reduceCtorEq,Nat.reduceEqDiff,Nat.reduceAdd]
 exact ⟨⟨xs.getD x 0,rfl,by simp [hxl]⟩,hK,oK⟩
def Keeps (o:Nat)(H H':AH):Prop:=H.length<=H'.length/\∀ (j:Nat) (y:AObj),j ≠ o->H[j]?=some y->H'[j]?=some y
theorem Keeps.trans {o:Nat}{H H' H'':AH}(h:Keeps o H H')(k:Keeps o H' H''):Keeps o H H'':=⟨Nat.le_trans h.1 k.1,fun j y hj hy=>k.2 j y hj (h.2 j y hj hy)⟩
theorem Keeps.of_pre {o:Nat}{H H':AH}(h:H<+:H'):Keeps o H H':=⟨h.length_le,fun j y _ hy=>pre_at h hy⟩
theorem Own.keeps {e:TypeId}{H0 H H':AH}{o:Nat}{v:Value}{xs:List Int}(h:Own e H0 H v xs)(hk:Keeps o H H')(ho:o<H0.length):Own e H0 H' v xs:=by
 rcases h with q | ⟨oo,q1,q2,q3⟩
 ·exact .inl q
 ·exact .inr ⟨oo,q1,q2,hk.2 _ _ (by omega) q3⟩
theorem cutC {P:Program}{a b:Cd}{Q:Exit->Sl->AH->Prop}{s:Sl}{H:AH}(R:Sl->AH->Prop)(h1:∀ c,(∀ s H,R s H->wpC P c Q s H)->wpC P a (thenA (wpC P c Q) Q) s H)(h2:∀ s H,R s H->wpC P b Q s H):wpC P (.seq a b) Q s H:=h1 b h2
def cd6:Cd:=(.seq (.reg [⟨⟨some 2,.assign (.const (.bool false)),none⟩,[]⟩]) (.seq (.reg [⟨⟨some 3,.move (.tmp 0),none⟩,[]⟩,
 ⟨⟨some 4,.call ⟨(.builtin .len),#[.tmp 3],#[22]⟩,none⟩,[]⟩,
 ⟨⟨some 5,.binOp .gtr 3 (.tmp 4) (.const (.int .i64 65536)) 3,none⟩,[]⟩,
 ⟨⟨some 2,.assign (.tmp 5),none⟩,[]⟩]) .ret))
theorem in6:InT Tryz.prog 6 1 [.tmp 2] cd6:=InT.mk (by kernel_rfl) [] Tryz.func6 rfl (by kernel_rfl) (by kernel_rfl) (of_decide_eq_true (by kernel_rfl)) (by kernel_rfl)
def cd26:Cd:=(.seq (.reg [⟨⟨some 4,.assign (.const (.slice none 0 0)),none⟩,[]⟩]) (.seq (.seq (.reg [⟨⟨some 5,.move (.tmp 1),none⟩,[]⟩,⟨⟨some 6,.move (.tmp 0),none⟩,[]⟩,⟨⟨some 7,.call ⟨(.builtin .len),#[.tmp 6],#[22]⟩,none⟩,[]⟩,⟨⟨some 8,.binOp .gtr 3 (.tmp 5) (.tmp 7) 3,none⟩,[]⟩]) (.cond (.tmp 8) (.reg [⟨⟨some 9,.move (.tmp 0),none⟩,[]⟩,⟨⟨some 10,.call ⟨(.builtin .len),#[.tmp 9],#[22]⟩,none⟩,[]⟩,⟨⟨some 1,.assign (.tmp 10),none⟩,[]⟩]) .skip)) (.seq (.reg [⟨⟨some 11,.buildSlice 22 0 #[],none⟩,[]⟩,⟨⟨some 12,.move (.tmp 0),none⟩,[]⟩,⟨⟨some 13,.move (.tmp 1),none⟩,[]⟩,⟨⟨some 14,.slice 22 (.tmp 12) (some (.tmp 13)) none none,none⟩,[]⟩,⟨⟨some 15,.call ⟨(.builtin .append),#[.tmp 11,.tmp 14],#[22,22]⟩,none⟩,[]⟩,⟨⟨some 16,.move (.tmp 1),none⟩,[]⟩,⟨⟨some 17,.convert 3 5 (.tmp 16),none⟩,[]⟩,
 ⟨⟨some 18,.buildSlice 22 1 #[(0,.tmp 17)],none⟩,[]⟩,
  ⟨⟨some 19,.call ⟨(.builtin .append),#[.tmp 15,.tmp 18],#[22,22]⟩,none⟩,[]⟩,
  ⟨⟨some 4,.assign (.tmp 19),none⟩,[]⟩]) .ret)))
theorem in26:InT Tryz.prog 26 2 [.tmp 4] cd26:=InT.mk (by kernel_rfl) [] Tryz.func26 rfl (by kernel_rfl) (by kernel_rfl) (of_decide_eq_true (by kernel_rfl)) (by kernel_rfl)
end Go.Proofs.YtlcipphiflcaiaaGreat.Ai
namespace Go.Proofs.YtlcipphiflcaiaaGreat.Ai
open Go Go.RowKit
theorem OnlyO.keeps {o:Nat}{H H':AH}(h:OnlyO o H H'):Keeps o H H':=⟨Nat.le_of_eq h.1.symm,h.2⟩
theorem Cur.keeps {H H':AH}{o:Nat}{v:Value}{us:List Value}{N:Nat}(h:Cur H o v us N)(hp:H<+:H'):Cur H' o v us N:=h.pre hp
theorem ownB {e:TypeId}{H0 H1 H:AH}{v:Value}{xs:List Int}(h:Own e H0 H v xs)(hl:H1.length<=H0.length):Own e H1 H v xs:=by
 rcases h with h | ⟨o,h1,h2,h3⟩
 ·exact .inl h
 ·exact .inr ⟨o,h1,by omega,h3⟩
theorem bld_cur (p:Option Addr)(n c:Nat):buildA Tryz.prog 67 [(0,.slice p n c)]=some (.agg (List.toArray [.slice p n c,.int .i64 0,.int .u64 0])):=by kernel_rfl
theorem box_cur (p:Option Addr)(n c:Nat)(H:AH):boxA Tryz.prog 67 (.agg (List.toArray [.slice p n c,.int .i64 0,.int .u64 0])) H=some (.pointer (some ⟨H.length,0,none⟩),H ++ [.cells [.slice p n c,.int .i64 0,.int .u64 0] 67 false]):=by kernel_rfl
structure Byt (H:AH) (v:Value) (us:List Value):Prop where
 row:RowV 5 H v us
 byt:∀ i,i<us.length->∃ b:Nat,us.getD i undef=.int .u8 (b:Int)/\b<256
 le:us.length<=1048576
theorem Byt.pre {H H':AH}{v:Value}{us:List Value}(h:Byt H v us)(hp:H<+:H'):Byt H' v us:=⟨h.row.pre hp,h.byt,h.le⟩
theorem Byt.cur {H:AH}{v:Value}{us:List Value}(h:Byt H v us):Cur (H ++ [.cells [v,.int .i64 0,.int .u64 0] 67 false]) H.length v us 0:=by
 refine ⟨⟨0,0,at_new ..,Nat.le_refl _,by decide⟩,h.row.pre (List.prefix_append _ _),h.byt,?_,h.le⟩
 rcases h.row with q | ⟨o',k',vs',ro',e1,g2',_⟩
 ·exact .inl q.1
 ·right
  rw [e1]
  have:=at_lt g2'
  show o' ≠ _
  omega
theorem MineP.keepsP {e:TypeId}{H0 H H':AH}{o:Nat}{v:Value}{ps:List (Int × Int)}(h:MineP e H0 H v ps)(hk:Keeps o H H')(ho:o<H0.length):MineP e H0 H' v ps:=by
 rcases h with q | ⟨oo,zs,q1,q2,q3,q4⟩
 ·exact .inl q
 ·exact .inr ⟨oo,zs,q1,q2,hk.2 _ _ (by omega) q3,q4⟩
theorem vBig_c {H:AH}{v:Value}{us:List Value}(h:RowV 5 H v us)(hl:(us.length:Int)<=9223372036854775807):ACalls Tryz.prog 6 [v] H fun r H'=>r=.bool (decide ((65536:Int)<(us.length:Int)))/\H=H':=by
 refine in6 rfl ?_
 intro Q hQ
 simp (disch:=omega) only [cd6,len_by,h.len Tryz.underlying22,SS,eq_self,reduceIte,reduceCtorEq,Nat.reduceEqDiff,Nat.reduceAdd]
 refine hQ _ _ _ ?_
 simp (disch:=omega) only [SS,eq_self,reduceIte,reduceCtorEq,Nat.reduceEqDiff,Nat.reduceAdd]
theorem appV {P:Program}{t e:TypeId}(hu:P.underlying t=some (.slice e))(hc:P.cellsOf e=1)(hby:P.bytesOf e<=64)(hz:zeroOk P e=true){H:AH}{o:Nat}{us ws:List Value}{w:Value}(ho:H[o]?=some (.cells us e false))(hw:RowV e H w ws)(hm:0<ws.length)(hb:us.length+ws.length<=1099511627776) :
  appendA P t t (.slice (some ⟨o,0,none⟩) us.length us.length) w H=some (.slice (some ⟨H.length,0,none⟩) (us.length+ws.length) (us.length+ws.length),H.set o .dead ++ [.cells (us ++ ws) e false]):=by
 have bb:∀ n:Nat,n<=1099511627776->n * P.bytesOf e<=140737488355328:=fun n hn=>by
  refine Nat.le_trans (Nat.mul_le_mul_left _ hby) ?_
  omega
 have hsc:=hw.cells (P:=P) hc
 simp only [appendA,hu,hc,hsc,hz,ho]
 rw [if_pos (by simp),if_neg (by omega),if_pos ⟨trivial,by omega,bb _ (by omega),by omega,trivial⟩]
 simp
theorem appV0 {P:Program}{t e:TypeId}(hu:P.underlying t=some (.slice e))(hc:P.cellsOf e=1){H:AH}{o n:Nat}{w:Value}(hw:RowV e H w []) :
  appendA P t t (.slice (some ⟨o,0,none⟩) n n) w H=some (.slice (some ⟨o,0,none⟩) n n,H):=by
 have hsc:=hw.cells (P:=P) hc
 simp only [List.length_nil] at hsc
 simp only [appendA,hu,hc,hsc,isSl]
 rw [if_pos (by simp),if_pos (by simp),if_pos trivial]
theorem vCut_c {H:AH}{v:Value}{us:List Value}(h:Byt H v us)(hle:us.length<=1000000):ACalls Tryz.prog 26 [v,.int .i64 1] H fun r H'=>∃ ws,Byt H' r ws/\H<+:H':=by
 refine in26 rfl ?_
 intro Q hQ
 have zu:zeroA Tryz.prog 5=some (.int .u8 0):=by kernel_rfl
 have bs_0:=fun K=>bs0 Tryz.underlying22 cs_u8 zu ⟨by kernel_rfl,by kernel_rfl⟩ K
 have bs_1:=fun K (x:Int)=>bs1 Tryz.underlying22 cs_u8 zu ⟨by kernel_rfl,by kernel_rfl⟩ K (a:=.int .u8 x) rfl
 have hbt:Tryz.prog.bytesOf 5<=64:=by
  have:Tryz.prog.bytesOf 5=1:=by kernel_rfl
  omega
 have zk8:zeroOk Tryz.prog 5=true:=by kernel_rfl
 generalize hB:H ++ [AObj.cells [] 5 false]=B
 have pB:H<+:B:=by rw [<- hB];exact List.prefix_append _ _
 have cB:B[H.length]?=some (.cells [] 5 false):=by rw [<- hB];exact at_new ..
 have hrB:=h.row.pre pB
 have one:∀ n:Nat,n<=us.length->sliceA Tryz.prog 22 v (some (.int .i64 (n:Int))) none none B=some (subV v n us.length)/\∃ (q:Nat) (L:AH),appendA Tryz.prog 22 22 (.slice (some ⟨H.length,0,none⟩) 0 0) (subV v n us.length) B=some (.slice (some ⟨q,0,none⟩) (us.drop n).length (us.drop n).length,L)/\L[q]?=some (.cells (us.drop n) 5 false)/\H<+:L/\H.length<=q:=by
  intro n hn
  obtain ⟨a1,a2,_⟩:=hrB.slice (P:=Tryz.prog) (t:=22) Tryz.underlying22 cs_u8 (bound_some (k:=.i64) (i:=(n:Int)) (by omega) 0) (hi_none us.length) (by rw [Int.toNat_natCast];exact hn) (Nat.le_refl _)
  rw [Int.toNat_natCast] at a1 a2
  rw [List.take_of_length_le (by simp)] at a2
  refine ⟨a1,?_⟩
  by_cases e:us.drop n=[]
  ·rw [e] at a2 ⊢
   exact ⟨H.length,B,appV0 Tryz.underlying22 cs_u8 a2,cB,pB,Nat.le_refl _⟩
  ·have hp:0<(us.drop n).length:=List.length_pos_iff.2 e
   have k:=appV (P:=Tryz.prog) (t:=22) Tryz.underlying22 cs_u8 hbt zk8 (us:=[]) cB a2 hp (by simp;omega)
   simp only [List.length_nil,Nat.zero_add,List.nil_append] at k
   have lB:B.length=H.length+1:=by rw [<- hB];simp
   refine ⟨B.length,_,k,?_,prefix_of fun j y hy=>at_old (pre_at pB hy) (by have:=at_lt hy;omega) _,by omega⟩
   rw [List.getElem?_append_right (by simp)];simp
 have two:∀ (n q:Nat) (zs:List Value) (L:AH),n<=1->zs.length<=us.length->(∀ i,i<zs.length->∃ b:Nat,zs.getD i undef=.int .u8 (b:Int)/\b<256)->L[q]?=some (.cells zs 5 false)->H<+:L->H.length<=q->∃ (r:Value) (M:AH),appendA Tryz.prog 22 22 (.slice (some ⟨q,0,none⟩) zs.length zs.length) (.slice (some ⟨L.length,0,none⟩) 1 1) (L ++ [AObj.cells [.int .u8 (n:Int)] 5 false])=some (r,M)/\isTup r=false/\Byt M r (zs ++ [.int .u8 (n:Int)])/\H<+:M:=by
  intro n q zs L hn hz hb hq hp hHq
  have hq2:=at_app hq [AObj.cells [.int .u8 (n:Int)] 5 false]
  have hw:=RowV.new 5 L [.int .u8 (n:Int)]
  have k:=appV (P:=Tryz.prog) (t:=22) Tryz.underlying22 cs_u8 hbt zk8 hq2 hw (by simp) (by simp;omega)
  have hql:=at_lt hq
  refine ⟨_,_,k,rfl,⟨?_,fun i hi=>?_,by simp;omega⟩,prefix_of fun j y hy=>at_old (at_app (pre_at hp hy) _) (by have:=at_lt hy;omega) _⟩
  ·refine .inr ⟨(L ++ [AObj.cells [.int .u8 (n:Int)] 5 false]).length,0,zs ++ [.int .u8 (n:Int)],false,by simp,?_,by simp,by rw [List.drop_zero];exact List.take_of_length_le (Nat.le_refl _)⟩
   rw [List.getElem?_append_right (by simp)];simp
  ·rw [List.getD_eq_getElem?_getD]
   by_cases e:i<zs.length
   ·rw [List.getElem?_append_left e,<- List.getD_eq_getElem?_getD];exact hb i e
   ·rw [List.length_append,List.length_cons,List.length_nil] at hi
    have:i=zs.length:=by omega
    subst this
    exact ⟨n,by simp,by omega⟩
 have conv:∀ n:Nat,n<=1->convA Tryz.prog 3 5 (.int .i64 (n:Int))=some (.int .u8 (n:Int)):=fun n hn=>by
  simp only [convA,Tryz.underlying5,Tryz.underlying3]
  rw [show IntKind.u8.wrap (n:Int)=(n:Int) by rw [IntKind.wrap_u8];omega]
 have bd:∀ n i:Nat,i<(us.drop n).length->∃ b:Nat,(us.drop n).getD i undef=.int .u8 (b:Int)/\b<256:=fun n i hi=>by
  rw [List.length_drop] at hi
  rw [List.getD_eq_getElem?_getD,List.getElem?_drop,<- List.getD_eq_getElem?_getD]
  exact h.byt (n+i) (by omega)
 simp (disch:=omega) only [cd26,len_by,h.row.len Tryz.underlying22,SS,eq_self,reduceIte,reduceCtorEq,Nat.reduceEqDiff,Nat.reduceAdd]
 refine brD.intro (fun g=>?_) (fun g=>?_)
 ·have h0:us.length=0:=by omega
  obtain ⟨a1,q,L,a2,a3,a4,a5⟩:=one us.length (Nat.le_refl _)
  obtain ⟨r,M,b1,b2,b3,b4⟩:=two us.length q _ L (by omega) (by rw [List.length_drop];omega) (bd us.length) a3 a4 a5
  have a5':True:=trivial
  simp (disch:=omega) only [len_by,h.row.len Tryz.underlying22,bs_0,hB,a1,a2,conv us.length (by omega),bs_1,b1,SS,eq_self,reduceIte,reduceCtorEq,Nat.reduceEqDiff,Nat.reduceAdd]
  refine hQ _ _ _ ?_
  simp (disch:=omega) only [b2,SS,eq_self,reduceIte,reduceCtorEq,Nat.reduceEqDiff,Nat.reduceAdd]
  exact ⟨_,b3,b4⟩
 ·obtain ⟨a1,q,L,a2,a3,a4,a5⟩:=one 1 (by omega)
  obtain ⟨r,M,b1,b2,b3,b4⟩:=two 1 q _ L (by omega) (by simp) (bd 1) a3 a4 a5
  have c1:convA Tryz.prog 3 5 (.int .i64 1)=some (.int .u8 1):=conv 1 (by omega)
  have a1':sliceA Tryz.prog 22 v (some (.int .i64 1)) none none B=some (subV v 1 us.length):=a1
  have b1':appendA Tryz.prog 22 22 (.slice (some ⟨q,0,none⟩) (us.drop 1).length (us.drop 1).length) (.slice (some ⟨L.length,0,none⟩) 1 1) (L ++ [AObj.cells [.int .u8 1] 5 false])=some (r,M):=b1
  simp (disch:=omega) only [bs_0,hB,a1',a2,c1,bs_1,b1',SS,eq_self,reduceIte,reduceCtorEq,Nat.reduceEqDiff,Nat.reduceAdd]
  refine hQ _ _ _ ?_
  simp (disch:=omega) only [b2,SS,eq_self,reduceIte,reduceCtorEq,Nat.reduceEqDiff,Nat.reduceAdd]
  exact ⟨_,b3,b4⟩
def cd114:Cd:=(.seq (.reg [⟨⟨some 6,.assign (.const (.bool false)),none⟩,[]⟩]) (.seq (.reg [⟨⟨some 7,.move (.tmp 0),none⟩,[]⟩,
 ⟨⟨some 8,.move (.tmp 1),none⟩,[]⟩,
 ⟨⟨some 9,.binOp .geq 3 (.tmp 7) (.tmp 8) 3,none⟩,[]⟩,
 ⟨⟨some 10,.move (.tmp 9),none⟩,[]⟩,
 ⟨⟨some 11,.move (.tmp 0),some (10,true)⟩,[]⟩,
 ⟨⟨some 12,.move (.tmp 2),some (10,true)⟩,[]⟩,
 ⟨⟨some 13,.binOp .leq 3 (.tmp 11) (.tmp 12) 3,some (10,true)⟩,[]⟩,
 ⟨⟨some 14,.pick (.tmp 10) (.tmp 13) (.const (.bool false)),none⟩,[]⟩,
 ⟨⟨some 6,.assign (.tmp 14),none⟩,[]⟩]) .ret))
theorem in114:InT Tryz.prog 114 3 [.tmp 6] cd114:=InT.mk (by kernel_rfl) [] Tryz.func114 rfl (by kernel_rfl) (by kernel_rfl) (of_decide_eq_true (by kernel_rfl)) (by kernel_rfl)
def cd102:Cd:=(.seq (.reg [⟨⟨some 6,.assign (.const (.bool false)),none⟩,[]⟩]) (.seq (.reg [⟨⟨some 7,.move (.tmp 0),none⟩,[]⟩,
 ⟨⟨some 8,.move (.tmp 1),none⟩,[]⟩,
 ⟨⟨some 9,.binOp .geq 3 (.tmp 7) (.tmp 8) 3,none⟩,[]⟩,
 ⟨⟨some 10,.move (.tmp 9),none⟩,[]⟩,
 ⟨⟨some 11,.move (.tmp 0),some (10,true)⟩,[]⟩,
 ⟨⟨some 12,.move (.tmp 2),some (10,true)⟩,[]⟩,
 ⟨⟨some 13,.binOp .leq 3 (.tmp 11) (.tmp 12) 3,some (10,true)⟩,[]⟩,
 ⟨⟨some 14,.pick (.tmp 10) (.tmp 13) (.const (.bool false)),none⟩,[]⟩,
 ⟨⟨some 6,.assign (.tmp 14),none⟩,[]⟩]) .ret))
theorem in102:InT Tryz.prog 102 3 [.tmp 6] cd102:=InT.mk (by kernel_rfl) [] Tryz.func102 rfl (by kernel_rfl) (by kernel_rfl) (of_decide_eq_true (by kernel_rfl)) (by kernel_rfl)
end Go.Proofs.YtlcipphiflcaiaaGreat.Ai
namespace Go.Proofs.YtlcipphiflcaiaaGreat.Ai
open Go Go.RowKit
theorem l1In_c (a b c:Int)(H:AH):ACalls Tryz.prog 114 [.int .i64 a,.int .i64 b,.int .i64 c] H fun r H'=>r=.bool (decide (b<=a/\a<=c))/\H=H':=by
 refine in114 rfl ?_
 intro Q hQ
 simp (disch:=omega) only [cd114,SS,eq_self,reduceIte,reduceCtorEq,Nat.reduceEqDiff,Nat.reduceAdd]
 refine brD.intro (fun h=>?_) (fun h=>?_) <;> simp (disch:=omega) only [h,SS,eq_self,reduceIte,reduceCtorEq,Nat.reduceEqDiff,Nat.reduceAdd] <;> refine hQ _ _ _ ?_ <;> simp (disch:=omega) only [h,SS,eq_self,reduceIte,reduceCtorEq,Nat.reduceEqDiff,Nat.reduceAdd] <;> simp [h]
theorem between_c (a b c:Int)(H:AH):ACalls Tryz.prog 102 [.int .i64 a,.int .i64 b,.int .i64 c] H fun r H'=>r=.bool (decide (b<=a/\a<=c))/\H=H':=by
 refine in102 rfl ?_
 intro Q hQ
 simp (disch:=omega) only [cd102,SS,eq_self,reduceIte,reduceCtorEq,Nat.reduceEqDiff,Nat.reduceAdd]
 refine brD.intro (fun h=>?_) (fun h=>?_) <;> simp (disch:=omega) only [h,SS,eq_self,reduceIte,reduceCtorEq,Nat.reduceEqDiff,Nat.reduceAdd] <;> refine hQ _ _ _ ?_ <;> simp (disch:=omega) only [h,SS,eq_self,reduceIte,reduceCtorEq,Nat.reduceEqDiff,Nat.reduceAdd] <;> simp [h]
def Asc (ys:List Int):Prop:=∀ i j,i<j->j<ys.length->ys.getD i 0<=ys.getD j 0
def Rsg (n:Int)(ys:List Int):Prop:=∀ i,i<ys.length->(0<=ys.getD i 0/\ys.getD i 0<=n - 1)/\(0<i->ys.getD (i - 1) 0<ys.getD i 0)
def Prm (p:List Int):Prop:=p.length<=8/\∀ x,x<p.length->(x:Int) ∈ p
instance (p:List Int):Decidable (Prm p):=inferInstanceAs (Decidable (_/\_))
theorem pos_ex {ys:List Int}{x:Int}(h:x ∈ ys):∃ i,i<ys.length/\ys.getD i 0=x:=by
 obtain ⟨i,hi,e⟩:=List.getElem_of_mem h
 exact ⟨i,hi,by simp [hi,e]⟩
theorem asc_at {ys:List Int}(ha:Asc ys)(h:∀ x,x<ys.length->(x:Int) ∈ ys):∀ i,i<ys.length->ys.getD i 0=i:=by
 have ex:∀ x,∃ i,x<ys.length->(i<ys.length/\ys.getD i 0=x):=by
  intro x
  by_cases hx:x<ys.length
  ·obtain ⟨i,hi⟩:=pos_ex (h x hx);exact ⟨i,fun _=>hi⟩
  ·exact ⟨0,fun e=>absurd e hx⟩
 let pos:Nat->Nat:=fun x=>Classical.choose (ex x)
 have hp:∀ x,x<ys.length->pos x<ys.length/\ys.getD (pos x) 0=x:=fun x hx=>Classical.choose_spec (ex x) hx
 have mono:∀ x,x+1<ys.length->pos x<pos (x+1):=by
  intro x hx
  have h1:=hp x (by omega)
  have h2:=hp (x+1) hx
  rcases Nat.lt_trichotomy (pos x) (pos (x+1)) with h3 | h3 | h3
  ·exact h3
  ·rw [h3] at h1;rw [h1.2] at h2;omega
  ·have:=ha _ _ h3 h1.1
   rw [h1.2,h2.2] at this;omega
 have lo:∀ x,x<ys.length->x<=pos x:=by
  intro x
  induction x with
  | zero=>intro _;omega
  | succ x ih =>
   intro hx
   have:=ih (by omega)
   have:=mono x hx
   omega
 have hi':∀ d x,x+d+1=ys.length->pos x<=x:=by
  intro d
  induction d with
  | zero=>intro x hx;have:=(hp x (by omega)).1;omega
  | succ d ih =>
   intro x hx
   have:=ih (x+1) (by omega)
   have:=mono x (by omega)
   omega
 intro i hi
 have h1:=lo i hi
 have h2:=hi' (ys.length - i - 1) i (by omega)
 have h3:=hp i hi
 have:pos i=i:=by omega
 rw [this] at h3
 exact h3.2
theorem prm_at {p:List Int}(h:Prm p){ys:List Int}(hp:ys.Perm p)(ha:Asc ys):∀ i,i<ys.length->ys.getD i 0=i :=
 asc_at ha (fun x hx=>hp.mem_iff.2 (h.2 x (by have:=hp.length_eq;omega)))
def put:List Int->Int->List Int
 | [],x=>[x]
 | y :: ys,x=>if y<x then y :: put ys x else if y=x then y :: ys else x :: y :: ys
theorem put_mem (l:List Int)(x y:Int):y ∈ put l x↔y=x∨y ∈ l:=by
 induction l with
 | nil=>simp [put]
 | cons z zs ih =>
  simp only [put]
  split
  ·simp only [List.mem_cons,ih]
   constructor
   ·rintro (h | h | h)
    ·exact .inr (.inl h)
    ·exact .inl h
    ·exact .inr (.inr h)
   ·rintro (h | h | h)
    ·exact .inr (.inl h)
    ·exact .inl h
    ·exact .inr (.inr h)
  ·split
   ·rename_i h1 h2
    subst h2
    simp
   ·simp
theorem put_sorted (l:List Int)(x:Int)(h:l.Pairwise (· < ·)):(put l x).Pairwise (· < ·):=by
 induction l with
 | nil=>simp [put]
 | cons y ys ih =>
  simp only [List.pairwise_cons] at h
  simp only [put]
  split
  ·rename_i h1
   rw [List.pairwise_cons]
   refine ⟨fun z hz=>?_,ih h.2⟩
   rcases (put_mem ys x z).1 hz with e | e
   ·rw [e];exact h1
   ·exact h.1 z e
  ·split
   ·rw [List.pairwise_cons];exact h
   ·rename_i h1 h2
    rw [List.pairwise_cons]
    refine ⟨fun z hz=>?_,by rw [List.pairwise_cons];exact h⟩
    rcases List.mem_cons.1 hz with e | e
    ·rw [e];omega
    ·have:=h.1 z e;omega
def cd197:Cd:=(.seq (.reg [⟨⟨some 2,.assign (.const (.bool false)),none⟩,[]⟩]) (.seq (.reg [⟨⟨some 3,.move (.tmp 0),none⟩,[]⟩,
 ⟨⟨some 4,.move (.tmp 0),none⟩,[]⟩,
 ⟨⟨some 5,.binOp .neq 3 (.tmp 3) (.tmp 4) 3,none⟩,[]⟩,
 ⟨⟨some 2,.assign (.tmp 5),none⟩,[]⟩]) .ret))
theorem in197:InT Tryz.prog 197 1 [.tmp 2] cd197:=InT.mk (by kernel_rfl) [] Tryz.func197 rfl (by kernel_rfl) (by kernel_rfl) (of_decide_eq_true (by kernel_rfl)) (by kernel_rfl)
def cd209:Cd:=(.seq (.reg [⟨⟨some 4,.assign (.const (.bool false)),none⟩,[]⟩]) (.seq (.reg [⟨⟨some 5,.move (.tmp 0),none⟩,[]⟩,⟨⟨some 6,.call ⟨(.value (.func 197)),#[.tmp 5],#[3]⟩,none⟩,[]⟩,⟨⟨some 7,.move (.tmp 6),none⟩,[]⟩,⟨⟨some 8,.move (.tmp 1),some (7,true)⟩,[]⟩,⟨⟨some 9,.call ⟨(.value (.func 197)),#[.tmp 8],#[3]⟩,some (7,true)⟩,[]⟩,⟨⟨some 10,.unOp .not 4 (.tmp 9),some (7,true)⟩,[]⟩,⟨⟨some 11,.pick (.tmp 7) (.tmp 10) (.const (.bool false)),none⟩,[]⟩,⟨⟨some 12,.move (.tmp 11),none⟩,[]⟩,⟨⟨some 13,.move (.tmp 0),some (12,false)⟩,[]⟩,⟨⟨some 14,.move (.tmp 1),some (12,false)⟩,[]⟩,⟨⟨some 15,.binOp .lss 3 (.tmp 13) (.tmp 14) 3,some (12,false)⟩,[]⟩,⟨⟨some 16,.pick (.tmp 12) (.const (.bool true)) (.tmp 15),none⟩,[]⟩,
 ⟨⟨some 4,.assign (.tmp 16),none⟩,[]⟩]) .ret))
theorem in209:InT Tryz.prog 209 2 [.tmp 4] cd209:=InT.mk (by kernel_rfl) [] Tryz.func209 rfl (by kernel_rfl) (by kernel_rfl) (of_decide_eq_true (by kernel_rfl)) (by kernel_rfl)
def cd203:Cd:=(.seq (.reg [⟨⟨some 8,.move (.tmp 1),none⟩,[]⟩,⟨⟨some 9,.binOp .add 3 (.tmp 8) (.const (.int .i64 1)) 3,none⟩,[]⟩,⟨⟨some 6,.assign (.tmp 9),none⟩,[]⟩]) (.block 0 (.loop (.seq (.seq (.reg [⟨⟨some 10,.move (.tmp 6),none⟩,[]⟩,⟨⟨some 11,.move (.tmp 2),none⟩,[]⟩,⟨⟨some 12,.binOp .lss 3 (.tmp 10) (.tmp 11) 3,none⟩,[]⟩]) (.cond (.tmp 12) .skip (.exit 0))) (.seq (.block 1 (.seq (.reg [⟨⟨some 15,.move (.tmp 6),none⟩,[]⟩,⟨⟨some 7,.assign (.tmp 15),none⟩,[]⟩]) (.block 2 (.loop (.seq (.seq (.reg [⟨⟨some 16,.move (.tmp 7),none⟩,[]⟩,⟨⟨some 17,.move (.tmp 1),none⟩,[]⟩,⟨⟨some 18,.binOp .gtr 3 (.tmp 16) (.tmp 17) 3,none⟩,[]⟩,⟨⟨some 19,.move (.tmp 18),none⟩,[]⟩,⟨⟨some 20,.move (.tmp 0),some (19,true)⟩,[]⟩,⟨⟨some 21,.move (.tmp 7),some (19,true)⟩,[]⟩,⟨⟨some 22,.indexAddr 27 (.tmp 20) (.tmp 21),some (19,true)⟩,[]⟩,
 ⟨⟨some 23,.load 3 (.tmp 22),some (19,true)⟩,[]⟩,⟨⟨some 24,.move (.tmp 0),some (19,true)⟩,[]⟩,⟨⟨some 25,.move (.tmp 7),some (19,true)⟩,[]⟩,⟨⟨some 26,.binOp .sub 3 (.tmp 25) (.const (.int .i64 1)) 3,some (19,true)⟩,[]⟩,⟨⟨some 27,.indexAddr 27 (.tmp 24) (.tmp 26),some (19,true)⟩,[]⟩,⟨⟨some 28,.load 3 (.tmp 27),some (19,true)⟩,[]⟩,⟨⟨some 29,.call ⟨(.value (.func 209)),#[.tmp 23,.tmp 28],#[3,3]⟩,some (19,true)⟩,[]⟩,⟨⟨some 30,.pick (.tmp 19) (.tmp 29) (.const (.bool false)),none⟩,[]⟩]) (.cond (.tmp 30) .skip (.exit 2))) (.seq (.block 3 (.reg [⟨⟨some 33,.move (.tmp 0),none⟩,[]⟩,⟨⟨some 34,.move (.tmp 7),none⟩,[]⟩,⟨⟨some 35,.move (.tmp 0),none⟩,[]⟩,⟨⟨some 36,.move (.tmp 7),none⟩,[]⟩,⟨⟨some 37,.binOp .sub 3 (.tmp 36) (.const (.int .i64 1)) 3,none⟩,[]⟩,
 ⟨⟨some 38,.move (.tmp 0),none⟩,[]⟩,⟨⟨some 39,.move (.tmp 7),none⟩,[]⟩,⟨⟨some 40,.binOp .sub 3 (.tmp 39) (.const (.int .i64 1)) 3,none⟩,[]⟩,⟨⟨some 41,.indexAddr 27 (.tmp 38) (.tmp 40),none⟩,[]⟩,⟨⟨some 42,.load 3 (.tmp 41),none⟩,[]⟩,⟨⟨some 43,.move (.tmp 0),none⟩,[]⟩,⟨⟨some 44,.move (.tmp 7),none⟩,[]⟩,⟨⟨some 45,.indexAddr 27 (.tmp 43) (.tmp 44),none⟩,[]⟩,⟨⟨some 46,.load 3 (.tmp 45),none⟩,[]⟩,⟨⟨some 47,.indexAddr 27 (.tmp 33) (.tmp 34),none⟩,[]⟩,⟨⟨none,.store 3 (.tmp 47) (.tmp 42),none⟩,[]⟩,⟨⟨some 48,.indexAddr 27 (.tmp 35) (.tmp 37),none⟩,[]⟩,
 ⟨⟨none,.store 3 (.tmp 48) (.tmp 46),none⟩,[]⟩])) (.reg [⟨⟨some 31,.move (.tmp 7),none⟩,[]⟩,
  ⟨⟨some 32,.binOp .sub 3 (.tmp 31) (.const (.int .i64 1)) 3,none⟩,[]⟩,
  ⟨⟨some 7,.assign (.tmp 32),none⟩,[]⟩]))))))) (.reg [⟨⟨some 13,.move (.tmp 6),none⟩,[]⟩,
  ⟨⟨some 14,.binOp .add 3 (.tmp 13) (.const (.int .i64 1)) 3,none⟩,[]⟩,
  ⟨⟨some 6,.assign (.tmp 14),none⟩,[]⟩]))))))
theorem in203:InT Tryz.prog 203 3 [] cd203:=InT.mk (by kernel_rfl) [(4,[(0,false),(1,false),(2,false),(3,false),(4,false),(5,false),(6,false),(7,false),(8,false),(9,false),(10,false),(11,false),(12,false),(13,true),(14,false)]),(6,[(0,false),(1,false),(2,false),(3,false),(4,false),(5,false),(6,false),(7,false),(8,false),(9,false),(10,false),(11,false),(12,false),(13,false),(14,false),(15,true),(16,false),(17,true)])] Tryz.func203 rfl (by kernel_rfl) (by kernel_rfl) (of_decide_eq_true (by kernel_rfl)) (by kernel_rfl)
def cd196:Cd:=(.seq (.reg [⟨⟨some 2,.assign (.const (.int .i64 0)),none⟩,[]⟩]) (.seq (.seq (.reg [⟨⟨some 3,.move (.tmp 0),none⟩,[]⟩,⟨⟨some 4,.binOp .geq 65 (.tmp 3) (.const (.int .u64 4294967296)) 65,none⟩,[]⟩]) (.cond (.tmp 4) (.seq (.reg [⟨⟨some 5,.move (.tmp 0),none⟩,[]⟩,⟨⟨some 6,.binOp .shr 65 (.tmp 5) (.const (.int .u64 32)) 94,none⟩,[]⟩,⟨⟨some 0,.assign (.tmp 6),none⟩,[]⟩]) (.reg [⟨⟨some 2,.assign (.const (.int .i64 32)),none⟩,[]⟩])) .skip)) (.seq (.seq (.reg [⟨⟨some 7,.move (.tmp 0),none⟩,[]⟩,⟨⟨some 8,.binOp .geq 65 (.tmp 7) (.const (.int .u64 65536)) 65,none⟩,[]⟩]) (.cond (.tmp 8) (.seq (.reg [⟨⟨some 9,.move (.tmp 0),none⟩,[]⟩,⟨⟨some 10,.binOp .shr 65 (.tmp 9) (.const (.int .u64 16)) 94,none⟩,[]⟩,⟨⟨some 0,.assign (.tmp 10),none⟩,[]⟩]) (.reg [⟨⟨some 11,.move (.tmp 2),none⟩,[]⟩,⟨⟨some 12,.binOp .add 3 (.tmp 11) (.const (.int .i64 16)) 3,none⟩,[]⟩,⟨⟨some 2,.assign (.tmp 12),none⟩,[]⟩])) .skip)) (.seq (.seq (.reg [⟨⟨some 13,.move (.tmp 0),none⟩,[]⟩,⟨⟨some 14,.binOp .geq 65 (.tmp 13) (.const (.int .u64 256)) 65,none⟩,[]⟩]) (.cond (.tmp 14) (.seq (.reg [⟨⟨some 15,.move (.tmp 0),none⟩,[]⟩,⟨⟨some 16,.binOp .shr 65 (.tmp 15) (.const (.int .u64 8)) 94,none⟩,[]⟩,⟨⟨some 0,.assign (.tmp 16),none⟩,[]⟩]) (.reg [⟨⟨some 17,.move (.tmp 2),none⟩,[]⟩,
 ⟨⟨some 18,.binOp .add 3 (.tmp 17) (.const (.int .i64 8)) 3,none⟩,[]⟩,
  ⟨⟨some 2,.assign (.tmp 18),none⟩,[]⟩])) .skip)) (.seq (.reg [⟨⟨some 19,.move (.tmp 2),none⟩,[]⟩,
  ⟨⟨some 20,.move (.tmp 0),none⟩,[]⟩,
  ⟨⟨some 21,.convert 65 5 (.tmp 20),none⟩,[]⟩,
  ⟨⟨some 22,.index 9 (.const (.string { data:=#[0,1,2,2,3,3,3,3,4,4,4,4,4,4,4,4,5,5,5,5,5,5,5,5,5,5,5,5,5,5,5,5,6,6,6,6,6,6,6,6,6,6,6,6,6,6,6,6,6,6,6,6,6,6,6,6,6,6,6,6,6,6,6,6,7,7,7,7,7,7,7,7,7,7,7,7,7,7,7,7,7,7,7,7,7,7,7,7,7,7,7,7,7,7,7,7,7,7,7,7,7,7,7,7,7,7,7,7,7,7,7,7,7,7,7,7,7,7,7,7,7,7,7,7,7,7,7,7,8,8,8,8,8,8,8,8,8,8,8,8,8,8,8,8,8,8,8,8,8,8,8,8,8,8,8,8,8,8,8,8,8,8,8,8,8,8,8,8,8,8,8,8,8,8,8,8,8,8,8,8,8,8,8,8,8,8,8,8,8,8,8,8,8,8,8,8,8,8,8,8,8,8,8,8,8,8,8,8,8,8,8,8,8,8,8,8,8,8,8,8,8,8,8,8,8,8,8,8,8,8,8,8,8,8,8,8,8,8,8,8,8,8,8,8,8,8,8,8,8,8,8,8,8,8,8,8] })) (.tmp 21),none⟩,[]⟩,
  ⟨⟨some 23,.convert 5 3 (.tmp 22),none⟩,[]⟩,
  ⟨⟨some 24,.binOp .add 3 (.tmp 19) (.tmp 23) 3,none⟩,[]⟩,
  ⟨⟨some 2,.assign (.tmp 24),none⟩,[]⟩]) .ret)))))
theorem in196:InT Tryz.prog 196 1 [.tmp 2] cd196:=InT.mk (by kernel_rfl) [] Tryz.func196 rfl (by kernel_rfl) (by kernel_rfl) (of_decide_eq_true (by kernel_rfl)) (by kernel_rfl)
def cd166:Cd:=(.seq (.reg [⟨⟨some 2,.assign (.const (.int .i64 0)),none⟩,[]⟩]) (.seq (.cond (.const (.bool false)) (.seq (.reg [⟨⟨some 3,.move (.tmp 0),none⟩,[]⟩,
 ⟨⟨some 4,.convert 94 169 (.tmp 3),none⟩,[]⟩,
 ⟨⟨some 5,.call ⟨(.value (.func 195)),#[.tmp 4],#[169]⟩,none⟩,[]⟩,
 ⟨⟨some 2,.assign (.tmp 5),none⟩,[]⟩]) .ret) .skip) (.seq (.reg [⟨⟨some 6,.move (.tmp 0),none⟩,[]⟩,
 ⟨⟨some 7,.call ⟨(.value (.func 196)),#[.tmp 6],#[65]⟩,none⟩,[]⟩,
 ⟨⟨some 2,.assign (.tmp 7),none⟩,[]⟩]) .ret)))
theorem in166:InT Tryz.prog 166 1 [.tmp 2] cd166:=InT.mk (by kernel_rfl) [] Tryz.func166 rfl (by kernel_rfl) (by kernel_rfl) (of_decide_eq_true (by kernel_rfl)) (by kernel_rfl)
def cd172:Cd:=(.seq (.reg [⟨⟨some 8,.assign (.const (.bool true)),none⟩,[]⟩]) (.seq (.reg [⟨⟨some 9,.assign (.const (.bool true)),none⟩,[]⟩]) (.block 0 (.loop (.block 1 (.seq (.reg [⟨⟨some 19,.move (.tmp 2),none⟩,[]⟩,⟨⟨some 20,.move (.tmp 1),none⟩,[]⟩,⟨⟨some 21,.binOp .sub 3 (.tmp 19) (.tmp 20) 3,none⟩,[]⟩,⟨⟨some 10,.assign (.tmp 21),none⟩,[]⟩]) (.seq (.seq (.reg [⟨⟨some 22,.move (.tmp 10),none⟩,[]⟩,⟨⟨some 23,.binOp .leq 3 (.tmp 22) (.const (.int .i64 12)) 3,none⟩,[]⟩]) (.cond (.tmp 23) (.seq (.reg [⟨⟨some 24,.move (.tmp 0),none⟩,[]⟩,⟨⟨some 25,.move (.tmp 1),none⟩,[]⟩,⟨⟨some 26,.move (.tmp 2),none⟩,[]⟩,⟨⟨some 27,.call ⟨(.value (.func 203)),#[.tmp 24,.tmp 25,.tmp 26],#[27,3,3]⟩,none⟩,[]⟩]) .ret) .skip)) (.seq (.seq (.reg [⟨⟨some 28,.move (.tmp 3),none⟩,[]⟩,⟨⟨some 29,.binOp .eql 3 (.tmp 28) (.const (.int .i64 0)) 3,none⟩,[]⟩]) (.cond (.tmp 29) (.seq (.reg [⟨⟨some 30,.move (.tmp 0),none⟩,[]⟩,⟨⟨some 31,.move (.tmp 1),none⟩,[]⟩,⟨⟨some 32,.move (.tmp 2),none⟩,[]⟩,⟨⟨some 33,.call ⟨(.value (.func 204)),#[.tmp 30,.tmp 31,.tmp 32],#[27,3,3]⟩,none⟩,[]⟩]) .ret) .skip)) (.seq (.seq (.reg [⟨⟨some 34,.move (.tmp 8),none⟩,[]⟩,
 ⟨⟨some 35,.unOp .not 4 (.tmp 34),none⟩,[]⟩]) (.cond (.tmp 35) (.seq (.reg [⟨⟨some 36,.move (.tmp 0),none⟩,[]⟩,⟨⟨some 37,.move (.tmp 1),none⟩,[]⟩,⟨⟨some 38,.move (.tmp 2),none⟩,[]⟩,⟨⟨some 39,.call ⟨(.value (.func 205)),#[.tmp 36,.tmp 37,.tmp 38],#[27,3,3]⟩,none⟩,[]⟩]) (.reg [⟨⟨some 40,.move (.tmp 3),none⟩,[]⟩,⟨⟨some 41,.binOp .sub 3 (.tmp 40) (.const (.int .i64 1)) 3,none⟩,[]⟩,⟨⟨some 3,.assign (.tmp 41),none⟩,[]⟩])) .skip)) (.seq (.reg [⟨⟨some 43,.move (.tmp 0),none⟩,[]⟩,⟨⟨some 44,.move (.tmp 1),none⟩,[]⟩,⟨⟨some 45,.move (.tmp 2),none⟩,[]⟩,⟨⟨some 46,.call ⟨(.value (.func 206)),#[.tmp 43,.tmp 44,.tmp 45],#[27,3,3]⟩,none⟩,[]⟩,⟨⟨some 42,.move (.tmp 46),none⟩,[]⟩,⟨⟨some 47,.extract (.tmp 42) 0,none⟩,[]⟩,⟨⟨some 48,.extract (.tmp 42) 1,none⟩,[]⟩,
 ⟨⟨some 11,.assign (.tmp 47),none⟩,[]⟩,⟨⟨some 12,.assign (.tmp 48),none⟩,[]⟩]) (.seq (.seq (.reg [⟨⟨some 49,.move (.tmp 12),none⟩,[]⟩,⟨⟨some 50,.binOp .eql 162 (.tmp 49) (.const (.int .i64 2)) 162,none⟩,[]⟩]) (.cond (.tmp 50) (.seq (.reg [⟨⟨some 51,.move (.tmp 0),none⟩,[]⟩,⟨⟨some 52,.move (.tmp 1),none⟩,[]⟩,⟨⟨some 53,.move (.tmp 2),none⟩,[]⟩,⟨⟨some 54,.call ⟨(.value (.func 207)),#[.tmp 51,.tmp 52,.tmp 53],#[27,3,3]⟩,none⟩,[]⟩]) (.seq (.reg [⟨⟨some 55,.move (.tmp 2),none⟩,[]⟩,⟨⟨some 56,.binOp .sub 3 (.tmp 55) (.const (.int .i64 1)) 3,none⟩,[]⟩,⟨⟨some 57,.move (.tmp 11),none⟩,[]⟩,⟨⟨some 58,.move (.tmp 1),none⟩,[]⟩,⟨⟨some 59,.binOp .sub 3 (.tmp 57) (.tmp 58) 3,none⟩,[]⟩,⟨⟨some 60,.binOp .sub 3 (.tmp 56) (.tmp 59) 3,none⟩,[]⟩,⟨⟨some 11,.assign (.tmp 60),none⟩,[]⟩]) (.reg [⟨⟨some 12,.assign (.const (.int .i64 1)),none⟩,[]⟩]))) .skip)) (.seq (.seq (.reg [⟨⟨some 61,.move (.tmp 8),none⟩,[]⟩,
 ⟨⟨some 62,.move (.tmp 61),none⟩,[]⟩,⟨⟨some 63,.move (.tmp 9),some (62,true)⟩,[]⟩,⟨⟨some 64,.pick (.tmp 62) (.tmp 63) (.const (.bool false)),none⟩,[]⟩,⟨⟨some 65,.move (.tmp 64),none⟩,[]⟩,⟨⟨some 66,.move (.tmp 12),some (65,true)⟩,[]⟩,⟨⟨some 67,.binOp .eql 162 (.tmp 66) (.const (.int .i64 1)) 162,some (65,true)⟩,[]⟩,⟨⟨some 68,.pick (.tmp 65) (.tmp 67) (.const (.bool false)),none⟩,[]⟩]) (.cond (.tmp 68) (.seq (.reg [⟨⟨some 69,.move (.tmp 0),none⟩,[]⟩,⟨⟨some 70,.move (.tmp 1),none⟩,[]⟩,⟨⟨some 71,.move (.tmp 2),none⟩,[]⟩,⟨⟨some 72,.call ⟨(.value (.func 208)),#[.tmp 69,.tmp 70,.tmp 71],#[27,3,3]⟩,none⟩,[]⟩]) (.cond (.tmp 72) .ret .skip)) .skip)) (.seq (.seq (.reg [⟨⟨some 73,.move (.tmp 1),none⟩,[]⟩,⟨⟨some 74,.binOp .gtr 3 (.tmp 73) (.const (.int .i64 0)) 3,none⟩,[]⟩,⟨⟨some 75,.move (.tmp 74),none⟩,[]⟩,
 ⟨⟨some 76,.move (.tmp 0),some (75,true)⟩,[]⟩,⟨⟨some 77,.move (.tmp 1),some (75,true)⟩,[]⟩,⟨⟨some 78,.binOp .sub 3 (.tmp 77) (.const (.int .i64 1)) 3,some (75,true)⟩,[]⟩,⟨⟨some 79,.indexAddr 27 (.tmp 76) (.tmp 78),some (75,true)⟩,[]⟩,⟨⟨some 80,.load 3 (.tmp 79),some (75,true)⟩,[]⟩,⟨⟨some 81,.move (.tmp 0),some (75,true)⟩,[]⟩,⟨⟨some 82,.move (.tmp 11),some (75,true)⟩,[]⟩,⟨⟨some 83,.indexAddr 27 (.tmp 81) (.tmp 82),some (75,true)⟩,[]⟩,⟨⟨some 84,.load 3 (.tmp 83),some (75,true)⟩,[]⟩,⟨⟨some 85,.call ⟨(.value (.func 209)),#[.tmp 80,.tmp 84],#[3,3]⟩,some (75,true)⟩,[]⟩,⟨⟨some 86,.unOp .not 4 (.tmp 85),some (75,true)⟩,[]⟩,⟨⟨some 87,.pick (.tmp 75) (.tmp 86) (.const (.bool false)),none⟩,[]⟩]) (.cond (.tmp 87) (.seq (.reg [⟨⟨some 88,.move (.tmp 0),none⟩,[]⟩,
 ⟨⟨some 89,.move (.tmp 1),none⟩,[]⟩,⟨⟨some 90,.move (.tmp 2),none⟩,[]⟩,⟨⟨some 91,.move (.tmp 11),none⟩,[]⟩,⟨⟨some 92,.call ⟨(.value (.func 210)),#[.tmp 88,.tmp 89,.tmp 90,.tmp 91],#[27,3,3,3]⟩,none⟩,[]⟩,⟨⟨some 13,.assign (.tmp 92),none⟩,[]⟩]) (.seq (.reg [⟨⟨some 93,.move (.tmp 13),none⟩,[]⟩,⟨⟨some 1,.assign (.tmp 93),none⟩,[]⟩]) (.exit 1))) .skip)) (.seq (.reg [⟨⟨some 95,.move (.tmp 0),none⟩,[]⟩,⟨⟨some 96,.move (.tmp 1),none⟩,[]⟩,⟨⟨some 97,.move (.tmp 2),none⟩,[]⟩,⟨⟨some 98,.move (.tmp 11),none⟩,[]⟩,⟨⟨some 99,.call ⟨(.value (.func 211)),#[.tmp 95,.tmp 96,.tmp 97,.tmp 98],#[27,3,3,3]⟩,none⟩,[]⟩,⟨⟨some 94,.move (.tmp 99),none⟩,[]⟩,⟨⟨some 100,.extract (.tmp 94) 0,none⟩,[]⟩,
 ⟨⟨some 101,.extract (.tmp 94) 1,none⟩,[]⟩,⟨⟨some 14,.assign (.tmp 100),none⟩,[]⟩,⟨⟨some 15,.assign (.tmp 101),none⟩,[]⟩]) (.seq (.reg [⟨⟨some 102,.move (.tmp 15),none⟩,[]⟩,⟨⟨some 9,.assign (.tmp 102),none⟩,[]⟩]) (.seq (.reg [⟨⟨some 103,.move (.tmp 14),none⟩,[]⟩,⟨⟨some 104,.move (.tmp 1),none⟩,[]⟩,⟨⟨some 105,.binOp .sub 3 (.tmp 103) (.tmp 104) 3,none⟩,[]⟩,⟨⟨some 106,.move (.tmp 2),none⟩,[]⟩,⟨⟨some 107,.move (.tmp 14),none⟩,[]⟩,⟨⟨some 108,.binOp .sub 3 (.tmp 106) (.tmp 107) 3,none⟩,[]⟩,⟨⟨some 16,.assign (.tmp 105),none⟩,[]⟩,⟨⟨some 17,.assign (.tmp 108),none⟩,[]⟩]) (.seq (.reg [⟨⟨some 109,.move (.tmp 10),none⟩,[]⟩,⟨⟨some 110,.binOp .quo 3 (.tmp 109) (.const (.int .i64 8)) 3,none⟩,[]⟩,
 ⟨⟨some 18,.assign (.tmp 110),none⟩,[]⟩]) (.seq (.reg [⟨⟨some 111,.move (.tmp 16),none⟩,[]⟩,⟨⟨some 112,.move (.tmp 17),none⟩,[]⟩,⟨⟨some 113,.binOp .lss 3 (.tmp 111) (.tmp 112) 3,none⟩,[]⟩]) (.cond (.tmp 113) (.seq (.reg [⟨⟨some 114,.move (.tmp 16),none⟩,[]⟩,⟨⟨some 115,.move (.tmp 18),none⟩,[]⟩,⟨⟨some 116,.binOp .geq 3 (.tmp 114) (.tmp 115) 3,none⟩,[]⟩,⟨⟨some 8,.assign (.tmp 116),none⟩,[]⟩]) (.seq (.reg [⟨⟨some 117,.move (.tmp 0),none⟩,[]⟩,⟨⟨some 118,.move (.tmp 1),none⟩,[]⟩,⟨⟨some 119,.move (.tmp 14),none⟩,[]⟩,⟨⟨some 120,.move (.tmp 3),none⟩,[]⟩,⟨⟨some 121,.call ⟨(.value (.func 172)),#[.tmp 117,.tmp 118,.tmp 119,.tmp 120],#[27,3,3,3]⟩,none⟩,[]⟩]) (.reg [⟨⟨some 122,.move (.tmp 14),none⟩,[]⟩,⟨⟨some 123,.binOp .add 3 (.tmp 122) (.const (.int .i64 1)) 3,none⟩,[]⟩,⟨⟨some 1,.assign (.tmp 123),none⟩,[]⟩]))) (.seq (.reg [⟨⟨some 124,.move (.tmp 17),none⟩,[]⟩,
 ⟨⟨some 125,.move (.tmp 18),none⟩,[]⟩,
  ⟨⟨some 126,.binOp .geq 3 (.tmp 124) (.tmp 125) 3,none⟩,[]⟩,
  ⟨⟨some 8,.assign (.tmp 126),none⟩,[]⟩]) (.seq (.reg [⟨⟨some 127,.move (.tmp 0),none⟩,[]⟩,
  ⟨⟨some 128,.move (.tmp 14),none⟩,[]⟩,
  ⟨⟨some 129,.binOp .add 3 (.tmp 128) (.const (.int .i64 1)) 3,none⟩,[]⟩,
  ⟨⟨some 130,.move (.tmp 2),none⟩,[]⟩,
  ⟨⟨some 131,.move (.tmp 3),none⟩,[]⟩,
  ⟨⟨some 132,.call ⟨(.value (.func 172)),#[.tmp 127,.tmp 129,.tmp 130,.tmp 131],#[27,3,3,3]⟩,none⟩,[]⟩]) (.reg [⟨⟨some 133,.move (.tmp 14),none⟩,[]⟩,
  ⟨⟨some 2,.assign (.tmp 133),none⟩,[]⟩]))))))))))))))))))))))
theorem in172:InT Tryz.prog 172 4 [] cd172:=InT.mk (by kernel_rfl) [(17,[(0,false),(1,false),(2,false),(3,false),(4,false),(5,false),(6,false),(7,false),(8,false),(9,false),(10,false),(11,false),(12,true),(13,false),(14,false)])] Tryz.func172 rfl (by kernel_rfl) (by kernel_rfl) (of_decide_eq_true (by kernel_rfl)) (by kernel_rfl)
def cd134:Cd:=(.seq (.reg [⟨⟨some 3,.move (.tmp 0),none⟩,[]⟩,
 ⟨⟨some 4,.call ⟨(.builtin .len),#[.tmp 3],#[27]⟩,none⟩,[]⟩,
 ⟨⟨some 2,.assign (.tmp 4),none⟩,[]⟩]) (.reg [⟨⟨some 5,.move (.tmp 0),none⟩,[]⟩,
 ⟨⟨some 6,.move (.tmp 2),none⟩,[]⟩,
 ⟨⟨some 7,.move (.tmp 2),none⟩,[]⟩,
 ⟨⟨some 8,.convert 3 94 (.tmp 7),none⟩,[]⟩,
 ⟨⟨some 9,.call ⟨(.value (.func 166)),#[.tmp 8],#[94]⟩,none⟩,[]⟩,
 ⟨⟨some 10,.call ⟨(.value (.func 172)),#[.tmp 5,(.const (.int .i64 0)),.tmp 6,.tmp 9],#[27,3,3,3]⟩,none⟩,[]⟩]))
theorem in134:InT Tryz.prog 134 1 [] cd134:=InT.mk (by kernel_rfl) [] Tryz.func134 rfl (by kernel_rfl) (by kernel_rfl) (of_decide_eq_true (by kernel_rfl)) (by kernel_rfl)
end Go.Proofs.YtlcipphiflcaiaaGreat.Ai
namespace Go.Proofs.YtlcipphiflcaiaaGreat.Ai
open Go Go.RowKit
theorem isNaN_c (x:Int)(H:AH):ACalls Tryz.prog 197 [.int .i64 x] H fun r H'=>r=.bool false/\H=H':=by
 refine in197 rfl ?_
 intro Q hQ
 simp (disch:=omega) only [cd197,SS,eq_self,reduceIte,reduceCtorEq,Nat.reduceEqDiff,Nat.reduceAdd]
 refine hQ _ _ _ ?_
 simp (disch:=omega) only [SS,eq_self,reduceIte,reduceCtorEq,Nat.reduceEqDiff,Nat.reduceAdd]
theorem Less_c (x y:Int)(H:AH):ACalls Tryz.prog 209 [.int .i64 x,.int .i64 y] H fun r H'=>r=.bool (decide (x<y))/\H=H':=by
 refine in209 rfl ?_
 intro Q hQ
 simp (disch:=omega) only [cd209,SS,eq_self,reduceIte,reduceCtorEq,Nat.reduceEqDiff,Nat.reduceAdd]
 refine CallH.by (isNaN_c ..) ?_
 rintro _ _ ⟨rfl,rfl⟩
 simp (disch:=omega) only [SS,eq_self,reduceIte,reduceCtorEq,Nat.reduceEqDiff,Nat.reduceAdd]
 refine hQ _ _ _ ?_
 simp (disch:=omega) only [SS,eq_self,reduceIte,reduceCtorEq,Nat.reduceEqDiff,Nat.reduceAdd]
theorem wrapU8 {n:Int}(h1:0<=n)(h2:n<256):IntKind.u8.wrap n=n:=by rw [IntKind.wrap_u8];omega
def cd160:Cd:=(.seq (.reg [⟨⟨some 2,.box 115 (.tmp 0),none⟩,[]⟩,⟨⟨some 3,.box 115 (.tmp 1),none⟩,[]⟩,⟨⟨some 4,.assign (.const (.bool false)),none⟩,[]⟩]) (.seq (.reg [⟨⟨some 5,.indexAddr 115 (.tmp 2) (.const (.int .i64 0)),none⟩,[]⟩,⟨⟨some 6,.load 3 (.tmp 5),none⟩,[]⟩,⟨⟨some 7,.indexAddr 115 (.tmp 3) (.const (.int .i64 0)),none⟩,[]⟩,⟨⟨some 8,.load 3 (.tmp 7),none⟩,[]⟩,⟨⟨some 9,.binOp .lss 3 (.tmp 6) (.tmp 8) 3,none⟩,[]⟩,⟨⟨some 10,.move (.tmp 9),none⟩,[]⟩,⟨⟨some 11,.indexAddr 115 (.tmp 2) (.const (.int .i64 0)),some (10,false)⟩,[]⟩,⟨⟨some 12,.load 3 (.tmp 11),some (10,false)⟩,[]⟩,⟨⟨some 13,.indexAddr 115 (.tmp 3) (.const (.int .i64 0)),some (10,false)⟩,[]⟩,⟨⟨some 14,.load 3 (.tmp 13),some (10,false)⟩,[]⟩,
 ⟨⟨some 15,.binOp .eql 3 (.tmp 12) (.tmp 14) 3,some (10,false)⟩,[]⟩,
  ⟨⟨some 16,.move (.tmp 15),some (10,false)⟩,[]⟩,
  ⟨⟨some 17,.indexAddr 115 (.tmp 2) (.const (.int .i64 1)),some (16,true)⟩,[]⟩,
  ⟨⟨some 18,.load 3 (.tmp 17),some (16,true)⟩,[]⟩,
  ⟨⟨some 19,.indexAddr 115 (.tmp 3) (.const (.int .i64 1)),some (16,true)⟩,[]⟩,
  ⟨⟨some 20,.load 3 (.tmp 19),some (16,true)⟩,[]⟩,
  ⟨⟨some 21,.binOp .lss 3 (.tmp 18) (.tmp 20) 3,some (16,true)⟩,[]⟩,
  ⟨⟨some 22,.pick (.tmp 16) (.tmp 21) (.const (.bool false)),some (10,false)⟩,[]⟩,
  ⟨⟨some 23,.pick (.tmp 10) (.const (.bool true)) (.tmp 22),none⟩,[]⟩,
  ⟨⟨some 4,.assign (.tmp 23),none⟩,[]⟩]) .ret))
theorem in160:InT Tryz.prog 160 2 [.tmp 4] cd160:=InT.mk (by kernel_rfl) [] Tryz.func160 rfl (by kernel_rfl) (by kernel_rfl) (of_decide_eq_true (by kernel_rfl)) (by kernel_rfl)
def cd167:Cd:=(.seq (.reg [⟨⟨some 4,.assign (.const (.int .i64 0)),none⟩,[]⟩]) (.seq (.reg [⟨⟨some 7,.move (.tmp 0),none⟩,[]⟩,
 ⟨⟨some 8,.call ⟨(.value (.func 197)),#[.tmp 7],#[3]⟩,none⟩,[]⟩,
 ⟨⟨some 5,.assign (.tmp 8),none⟩,[]⟩]) (.seq (.reg [⟨⟨some 9,.move (.tmp 1),none⟩,[]⟩,
 ⟨⟨some 10,.call ⟨(.value (.func 197)),#[.tmp 9],#[3]⟩,none⟩,[]⟩,
 ⟨⟨some 6,.assign (.tmp 10),none⟩,[]⟩]) (.seq (.seq (.reg [⟨⟨some 11,.move (.tmp 5),none⟩,[]⟩]) (.cond (.tmp 11) (.seq (.seq (.reg [⟨⟨some 12,.move (.tmp 6),none⟩,[]⟩]) (.cond (.tmp 12) (.seq (.reg [⟨⟨some 4,.assign (.const (.int .i64 0)),none⟩,[]⟩]) .ret) .skip)) (.seq (.reg [⟨⟨some 4,.assign (.const (.int .i64 (-1))),none⟩,[]⟩]) .ret)) .skip)) (.seq (.seq (.reg [⟨⟨some 13,.move (.tmp 6),none⟩,[]⟩]) (.cond (.tmp 13) (.seq (.reg [⟨⟨some 4,.assign (.const (.int .i64 1)),none⟩,[]⟩]) .ret) .skip)) (.seq (.seq (.reg [⟨⟨some 14,.move (.tmp 0),none⟩,[]⟩,
 ⟨⟨some 15,.move (.tmp 1),none⟩,[]⟩,
 ⟨⟨some 16,.binOp .lss 3 (.tmp 14) (.tmp 15) 3,none⟩,[]⟩]) (.cond (.tmp 16) (.seq (.reg [⟨⟨some 4,.assign (.const (.int .i64 (-1))),none⟩,[]⟩]) .ret) .skip)) (.seq (.seq (.reg [⟨⟨some 17,.move (.tmp 0),none⟩,[]⟩,
 ⟨⟨some 18,.move (.tmp 1),none⟩,[]⟩,
 ⟨⟨some 19,.binOp .gtr 3 (.tmp 17) (.tmp 18) 3,none⟩,[]⟩]) (.cond (.tmp 19) (.seq (.reg [⟨⟨some 4,.assign (.const (.int .i64 1)),none⟩,[]⟩]) .ret) .skip)) (.seq (.reg [⟨⟨some 4,.assign (.const (.int .i64 0)),none⟩,[]⟩]) .ret))))))))
theorem in167:InT Tryz.prog 167 2 [.tmp 4] cd167:=InT.mk (by kernel_rfl) [] Tryz.func167 rfl (by kernel_rfl) (by kernel_rfl) (of_decide_eq_true (by kernel_rfl)) (by kernel_rfl)
def cd200:Cd:=(.seq (.reg [⟨⟨some 2,.assign (.const (.int .i64 0)),none⟩,[]⟩]) (.seq (.reg [⟨⟨some 3,.assign (.const (.int .i64 0)),none⟩,[]⟩]) (.seq (.seq (.reg [⟨⟨some 6,.move (.tmp 0),none⟩,[]⟩,
 ⟨⟨some 7,.call ⟨(.builtin .len),#[.tmp 6],#[27]⟩,none⟩,[]⟩,
 ⟨⟨some 8,.move (.const (.int .i64 0)),none⟩,[]⟩]) (.block 0 (.loop (.seq (.reg [⟨⟨some 9,.binOp .lss 3 (.tmp 8) (.tmp 7) 3,none⟩,[]⟩]) (.seq (.cond (.tmp 9) .skip (.exit 0)) (.seq (.block 1 (.seq (.reg [⟨⟨some 10,.indexAddr 27 (.tmp 6) (.tmp 8),none⟩,[]⟩,
 ⟨⟨some 11,.load 3 (.tmp 10),none⟩,[]⟩,
 ⟨⟨some 5,.assign (.tmp 11),none⟩,[]⟩]) (.seq (.reg [⟨⟨some 12,.move (.tmp 5),none⟩,[]⟩,
 ⟨⟨some 13,.move (.tmp 3),none⟩,[]⟩,
 ⟨⟨some 14,.binOp .neq 3 (.tmp 12) (.tmp 13) 3,none⟩,[]⟩]) (.cond (.tmp 14) (.seq (.reg [⟨⟨some 15,.move (.tmp 5),none⟩,[]⟩,
 ⟨⟨some 2,.assign (.tmp 15),none⟩,[]⟩]) .ret) .skip)))) (.reg [⟨⟨some 16,.binOp .add 3 (.tmp 8) (.const (.int .i64 1)) 3,none⟩,[]⟩,
 ⟨⟨some 8,.move (.tmp 16),none⟩,[]⟩]))))))) (.seq (.reg [⟨⟨some 17,.move (.tmp 3),none⟩,[]⟩,
 ⟨⟨some 2,.assign (.tmp 17),none⟩,[]⟩]) .ret))))
theorem in200:InT Tryz.prog 200 1 [.tmp 2] cd200:=InT.mk (by kernel_rfl) [] Tryz.func200 rfl (by kernel_rfl) (by kernel_rfl) (of_decide_eq_true (by kernel_rfl)) (by kernel_rfl)
def cd169:Cd:=(.seq (.reg [⟨⟨some 2,.box 115 (.tmp 0),none⟩,[]⟩,⟨⟨some 3,.box 115 (.tmp 1),none⟩,[]⟩,⟨⟨some 4,.assign (.const (.int .i64 0)),none⟩,[]⟩]) (.seq (.reg [⟨⟨some 5,.indexAddr 115 (.tmp 2) (.const (.int .i64 0)),none⟩,[]⟩,⟨⟨some 6,.load 3 (.tmp 5),none⟩,[]⟩,⟨⟨some 7,.indexAddr 115 (.tmp 3) (.const (.int .i64 0)),none⟩,[]⟩,⟨⟨some 8,.load 3 (.tmp 7),none⟩,[]⟩,⟨⟨some 10,.indexAddr 115 (.tmp 2) (.const (.int .i64 1)),none⟩,[]⟩,⟨⟨some 11,.load 3 (.tmp 10),none⟩,[]⟩,⟨⟨some 12,.indexAddr 115 (.tmp 3) (.const (.int .i64 1)),none⟩,[]⟩,⟨⟨some 13,.load 3 (.tmp 12),none⟩,[]⟩,⟨⟨some 9,.call ⟨(.value (.func 167)),#[.tmp 6,.tmp 8],#[3,3]⟩,none⟩,[⟨some 13,.load 3 (.tmp 12),none⟩,⟨some 11,.load 3 (.tmp 10),none⟩]⟩,⟨⟨some 14,.call ⟨(.value (.func 167)),#[.tmp 11,.tmp 13],#[3,3]⟩,none⟩,[]⟩,
 ⟨⟨some 15,.buildSlice 27 2 #[(0,.tmp 9),(1,.tmp 14)],none⟩,[]⟩,
  ⟨⟨some 16,.call ⟨(.value (.func 200)),#[.tmp 15],#[27]⟩,none⟩,[]⟩,
  ⟨⟨some 4,.assign (.tmp 16),none⟩,[]⟩]) .ret))
theorem in169:InT Tryz.prog 169 2 [.tmp 4] cd169:=InT.mk (by kernel_rfl) [(1,[(0,false),(1,false),(2,false),(3,false),(5,false),(6,false),(7,false),(8,false),(4,true),(9,true),(10,false),(11,true),(12,false)])] Tryz.func169 rfl (by kernel_rfl) (by kernel_rfl) (of_decide_eq_true (by kernel_rfl)) (by kernel_rfl)
def cd173:Cd:=(.seq (.reg [⟨⟨some 4,.assign (.const (.bool false)),none⟩,[]⟩]) (.seq (.seq (.reg [⟨⟨some 5,.assign (.const (.int .i64 0)),none⟩,[]⟩]) (.block 0 (.loop (.seq (.seq (.reg [⟨⟨some 7,.move (.tmp 5),none⟩,[]⟩,⟨⟨some 8,.move (.tmp 0),none⟩,[]⟩,⟨⟨some 9,.call ⟨(.builtin .len),#[.tmp 8],#[24]⟩,none⟩,[]⟩,⟨⟨some 10,.binOp .lss 3 (.tmp 7) (.tmp 9) 3,none⟩,[]⟩]) (.cond (.tmp 10) .skip (.exit 0))) (.seq (.block 1 (.seq (.reg [⟨⟨some 13,.move (.tmp 0),none⟩,[]⟩,⟨⟨some 14,.move (.tmp 5),none⟩,[]⟩,⟨⟨some 15,.indexAddr 24 (.tmp 13) (.tmp 14),none⟩,[]⟩,⟨⟨some 16,.load 115 (.tmp 15),none⟩,[]⟩,⟨⟨some 6,.alloc 115,none⟩,[]⟩,⟨⟨none,.store 115 (.tmp 6) (.tmp 16),none⟩,[]⟩]) (.seq (.reg [⟨⟨some 17,.indexAddr 115 (.tmp 6) (.const (.int .i64 0)),none⟩,[]⟩,⟨⟨some 18,.load 3 (.tmp 17),none⟩,[]⟩,⟨⟨some 19,.move (.tmp 1),none⟩,[]⟩,⟨⟨some 20,.binOp .sub 3 (.tmp 19) (.const (.int .i64 1)) 3,none⟩,[]⟩,
 ⟨⟨some 21,.call ⟨(.value (.func 114)),#[.tmp 18,(.const (.int .i64 0)),.tmp 20],#[3,3,3]⟩,none⟩,[]⟩,⟨⟨some 22,.unOp .not 4 (.tmp 21),none⟩,[]⟩,⟨⟨some 23,.move (.tmp 22),none⟩,[]⟩,⟨⟨some 24,.indexAddr 115 (.tmp 6) (.const (.int .i64 1)),some (23,false)⟩,[]⟩,⟨⟨some 25,.load 3 (.tmp 24),some (23,false)⟩,[]⟩,⟨⟨some 26,.move (.tmp 1),some (23,false)⟩,[]⟩,⟨⟨some 27,.binOp .sub 3 (.tmp 26) (.const (.int .i64 1)) 3,some (23,false)⟩,[]⟩,⟨⟨some 28,.call ⟨(.value (.func 114)),#[.tmp 25,(.const (.int .i64 0)),.tmp 27],#[3,3,3]⟩,some (23,false)⟩,[]⟩,⟨⟨some 29,.unOp .not 4 (.tmp 28),some (23,false)⟩,[]⟩,⟨⟨some 30,.pick (.tmp 23) (.const (.bool true)) (.tmp 29),none⟩,[]⟩,⟨⟨some 31,.move (.tmp 30),none⟩,[]⟩,⟨⟨some 32,.indexAddr 115 (.tmp 6) (.const (.int .i64 0)),some (31,false)⟩,[]⟩,
 ⟨⟨some 33,.load 3 (.tmp 32),some (31,false)⟩,[]⟩,⟨⟨some 34,.indexAddr 115 (.tmp 6) (.const (.int .i64 1)),some (31,false)⟩,[]⟩,⟨⟨some 35,.load 3 (.tmp 34),some (31,false)⟩,[]⟩,⟨⟨some 36,.binOp .geq 3 (.tmp 33) (.tmp 35) 3,some (31,false)⟩,[]⟩,⟨⟨some 37,.pick (.tmp 31) (.const (.bool true)) (.tmp 36),none⟩,[]⟩,⟨⟨some 38,.move (.tmp 37),none⟩,[]⟩,⟨⟨some 39,.move (.tmp 5),some (38,false)⟩,[]⟩,⟨⟨some 40,.binOp .gtr 3 (.tmp 39) (.const (.int .i64 0)) 3,some (38,false)⟩,[]⟩,⟨⟨some 41,.move (.tmp 40),some (38,false)⟩,[]⟩,⟨⟨some 42,.move (.tmp 0),some (41,true)⟩,[]⟩,⟨⟨some 43,.move (.tmp 5),some (41,true)⟩,[]⟩,⟨⟨some 44,.binOp .sub 3 (.tmp 43) (.const (.int .i64 1)) 3,some (41,true)⟩,[]⟩,
 ⟨⟨some 45,.indexAddr 24 (.tmp 42) (.tmp 44),some (41,true)⟩,[]⟩,
  ⟨⟨some 46,.load 115 (.tmp 45),some (41,true)⟩,[]⟩,
  ⟨⟨some 47,.load 115 (.tmp 6),some (41,true)⟩,[]⟩,
  ⟨⟨some 48,.call ⟨(.value (.func 160)),#[.tmp 46,.tmp 47],#[115,115]⟩,some (41,true)⟩,[]⟩,
  ⟨⟨some 49,.unOp .not 4 (.tmp 48),some (41,true)⟩,[]⟩,
  ⟨⟨some 50,.pick (.tmp 41) (.tmp 49) (.const (.bool false)),some (38,false)⟩,[]⟩,
  ⟨⟨some 51,.pick (.tmp 38) (.const (.bool true)) (.tmp 50),none⟩,[]⟩]) (.cond (.tmp 51) (.seq (.reg [⟨⟨some 4,.assign (.const (.bool false)),none⟩,[]⟩]) .ret) .skip)))) (.reg [⟨⟨some 11,.move (.tmp 5),none⟩,[]⟩,
  ⟨⟨some 12,.binOp .add 3 (.tmp 11) (.const (.int .i64 1)) 3,none⟩,[]⟩,
  ⟨⟨some 5,.assign (.tmp 12),none⟩,[]⟩])))))) (.seq (.reg [⟨⟨some 4,.assign (.const (.bool true)),none⟩,[]⟩]) .ret)))
theorem in173:InT Tryz.prog 173 2 [.tmp 4] cd173:=InT.mk (by kernel_rfl) [(5,[(0,false),(1,false),(2,false),(3,false),(4,true),(5,false),(6,false),(7,false),(8,false),(9,false),(10,false),(11,true),(12,false),(13,false),(14,false),(15,false),(16,false),(17,false),(18,false),(19,false),(20,false),(21,false),(22,false),(23,false),(24,false),(25,false),(26,false),(27,false),(28,false),(29,false),(30,false),(31,true),(32,false),(33,false),(34,false)])] Tryz.func173 rfl (by kernel_rfl) (by kernel_rfl) (of_decide_eq_true (by kernel_rfl)) (by kernel_rfl)
def cd131:Cd:=(.seq (.reg [⟨⟨some 4,.assign (.const (.bool false)),none⟩,[]⟩]) (.seq (.seq (.reg [⟨⟨some 7,.move (.tmp 0),none⟩,[]⟩,⟨⟨some 8,.call ⟨(.builtin .len),#[.tmp 7],#[24]⟩,none⟩,[]⟩,⟨⟨some 9,.move (.const (.int .i64 0)),none⟩,[]⟩]) (.block 0 (.loop (.seq (.reg [⟨⟨some 10,.binOp .lss 3 (.tmp 9) (.tmp 8) 3,none⟩,[]⟩]) (.seq (.cond (.tmp 10) .skip (.exit 0)) (.seq (.block 1 (.seq (.reg [⟨⟨some 11,.move (.tmp 9),none⟩,[]⟩,⟨⟨some 12,.indexAddr 24 (.tmp 7) (.tmp 9),none⟩,[]⟩,⟨⟨some 13,.load 115 (.tmp 12),none⟩,[]⟩,⟨⟨some 6,.alloc 115,none⟩,[]⟩,⟨⟨some 5,.assign (.tmp 11),none⟩,[]⟩,⟨⟨none,.store 115 (.tmp 6) (.tmp 13),none⟩,[]⟩]) (.seq (.reg [⟨⟨some 14,.indexAddr 115 (.tmp 6) (.const (.int .i64 0)),none⟩,[]⟩,⟨⟨some 15,.load 3 (.tmp 14),none⟩,[]⟩,⟨⟨some 16,.binOp .lss 3 (.tmp 15) (.const (.int .i64 0)) 3,none⟩,[]⟩,⟨⟨some 17,.move (.tmp 16),none⟩,[]⟩,⟨⟨some 18,.indexAddr 115 (.tmp 6) (.const (.int .i64 0)),some (17,false)⟩,[]⟩,
 ⟨⟨some 19,.load 3 (.tmp 18),some (17,false)⟩,[]⟩,⟨⟨some 20,.indexAddr 115 (.tmp 6) (.const (.int .i64 1)),some (17,false)⟩,[]⟩,⟨⟨some 21,.load 3 (.tmp 20),some (17,false)⟩,[]⟩,⟨⟨some 22,.binOp .geq 3 (.tmp 19) (.tmp 21) 3,some (17,false)⟩,[]⟩,⟨⟨some 23,.pick (.tmp 17) (.const (.bool true)) (.tmp 22),none⟩,[]⟩,⟨⟨some 24,.move (.tmp 23),none⟩,[]⟩,⟨⟨some 25,.indexAddr 115 (.tmp 6) (.const (.int .i64 1)),some (24,false)⟩,[]⟩,⟨⟨some 26,.load 3 (.tmp 25),some (24,false)⟩,[]⟩,⟨⟨some 27,.move (.tmp 1),some (24,false)⟩,[]⟩,⟨⟨some 28,.binOp .geq 3 (.tmp 26) (.tmp 27) 3,some (24,false)⟩,[]⟩,⟨⟨some 29,.pick (.tmp 24) (.const (.bool true)) (.tmp 28),none⟩,[]⟩,⟨⟨some 30,.move (.tmp 29),none⟩,[]⟩,
 ⟨⟨some 31,.move (.tmp 5),some (30,false)⟩,[]⟩,⟨⟨some 32,.binOp .gtr 3 (.tmp 31) (.const (.int .i64 0)) 3,some (30,false)⟩,[]⟩,⟨⟨some 33,.move (.tmp 32),some (30,false)⟩,[]⟩,⟨⟨some 34,.move (.tmp 0),some (33,true)⟩,[]⟩,⟨⟨some 35,.move (.tmp 5),some (33,true)⟩,[]⟩,⟨⟨some 36,.binOp .sub 3 (.tmp 35) (.const (.int .i64 1)) 3,some (33,true)⟩,[]⟩,⟨⟨some 37,.indexAddr 24 (.tmp 34) (.tmp 36),some (33,true)⟩,[]⟩,⟨⟨some 38,.load 115 (.tmp 37),some (33,true)⟩,[]⟩,⟨⟨some 39,.load 115 (.tmp 6),some (33,true)⟩,[]⟩,⟨⟨some 40,.call ⟨(.value (.func 169)),#[.tmp 38,.tmp 39],#[115,115]⟩,some (33,true)⟩,[]⟩,⟨⟨some 41,.binOp .geq 3 (.tmp 40) (.const (.int .i64 0)) 3,some (33,true)⟩,[]⟩,⟨⟨some 42,.pick (.tmp 33) (.tmp 41) (.const (.bool false)),some (30,false)⟩,[]⟩,
 ⟨⟨some 43,.pick (.tmp 30) (.const (.bool true)) (.tmp 42),none⟩,[]⟩]) (.cond (.tmp 43) (.seq (.reg [⟨⟨some 4,.assign (.const (.bool false)),none⟩,[]⟩]) .ret) .skip)))) (.reg [⟨⟨some 44,.binOp .add 3 (.tmp 9) (.const (.int .i64 1)) 3,none⟩,[]⟩,
  ⟨⟨some 9,.move (.tmp 44),none⟩,[]⟩]))))))) (.seq (.reg [⟨⟨some 4,.assign (.const (.bool true)),none⟩,[]⟩]) .ret)))
theorem in131:InT Tryz.prog 131 2 [.tmp 4] cd131:=InT.mk (by kernel_rfl) [(4,[(0,false),(1,false),(2,false),(3,false),(4,false),(5,false),(6,false),(7,false),(8,false),(9,false),(10,false),(11,false),(12,false),(13,false),(14,false),(15,false),(16,false),(17,false),(18,false),(19,false),(20,false),(21,false),(22,false),(23,false),(24,false),(25,false),(26,true),(27,false),(28,false),(29,false)])] Tryz.func131 rfl (by kernel_rfl) (by kernel_rfl) (of_decide_eq_true (by kernel_rfl)) (by kernel_rfl)
def cd136:Cd:=(.seq (.reg [⟨⟨some 1,.box 26 (.tmp 0),none⟩,[]⟩,
 ⟨⟨some 2,.assign (.const (.bool false)),none⟩,[]⟩]) (.seq (.reg [⟨⟨some 3,.fieldAddr 26 (.tmp 1) 0,none⟩,[]⟩,
 ⟨⟨some 4,.load 3 (.tmp 3),none⟩,[]⟩,
 ⟨⟨some 5,.call ⟨(.value (.func 114)),#[.tmp 4,(.const (.int .i64 0)),(.const (.int .i64 8))],#[3,3,3]⟩,none⟩,[]⟩,
 ⟨⟨some 6,.move (.tmp 5),none⟩,[]⟩,
 ⟨⟨some 7,.fieldAddr 26 (.tmp 1) 1,some (6,true)⟩,[]⟩,
 ⟨⟨some 8,.load 24 (.tmp 7),some (6,true)⟩,[]⟩,
 ⟨⟨some 9,.fieldAddr 26 (.tmp 1) 0,some (6,true)⟩,[]⟩,
 ⟨⟨some 10,.load 3 (.tmp 9),some (6,true)⟩,[]⟩,
 ⟨⟨some 11,.call ⟨(.value (.func 173)),#[.tmp 8,.tmp 10],#[24,3]⟩,some (6,true)⟩,[]⟩,
 ⟨⟨some 12,.pick (.tmp 6) (.tmp 11) (.const (.bool false)),none⟩,[]⟩,
 ⟨⟨some 2,.assign (.tmp 12),none⟩,[]⟩]) .ret))
theorem in136:InT Tryz.prog 136 1 [.tmp 2] cd136:=InT.mk (by kernel_rfl) [] Tryz.func136 rfl (by kernel_rfl) (by kernel_rfl) (of_decide_eq_true (by kernel_rfl)) (by kernel_rfl)
def cd64:Cd:=(.seq (.reg [⟨⟨some 1,.box 26 (.tmp 0),none⟩,[]⟩,
 ⟨⟨some 2,.assign (.const (.bool false)),none⟩,[]⟩]) (.seq (.reg [⟨⟨some 3,.fieldAddr 26 (.tmp 1) 0,none⟩,[]⟩,
 ⟨⟨some 4,.load 3 (.tmp 3),none⟩,[]⟩,
 ⟨⟨some 5,.call ⟨(.value (.func 102)),#[.tmp 4,(.const (.int .i64 0)),(.const (.int .i64 8))],#[3,3,3]⟩,none⟩,[]⟩,
 ⟨⟨some 6,.move (.tmp 5),none⟩,[]⟩,
 ⟨⟨some 7,.fieldAddr 26 (.tmp 1) 1,some (6,true)⟩,[]⟩,
 ⟨⟨some 8,.load 24 (.tmp 7),some (6,true)⟩,[]⟩,
 ⟨⟨some 9,.fieldAddr 26 (.tmp 1) 0,some (6,true)⟩,[]⟩,
 ⟨⟨some 10,.load 3 (.tmp 9),some (6,true)⟩,[]⟩,
 ⟨⟨some 11,.call ⟨(.value (.func 131)),#[.tmp 8,.tmp 10],#[24,3]⟩,some (6,true)⟩,[]⟩,
 ⟨⟨some 12,.pick (.tmp 6) (.tmp 11) (.const (.bool false)),none⟩,[]⟩,
 ⟨⟨some 2,.assign (.tmp 12),none⟩,[]⟩]) .ret))
theorem in64:InT Tryz.prog 64 1 [.tmp 2] cd64:=InT.mk (by kernel_rfl) [] Tryz.func64 rfl (by kernel_rfl) (by kernel_rfl) (of_decide_eq_true (by kernel_rfl)) (by kernel_rfl)
end Go.Proofs.YtlcipphiflcaiaaGreat.Ai
namespace Go.Proofs.YtlcipphiflcaiaaGreat.Ai
open Go Go.RowKit
def pairLt (p q:Int × Int):Prop:=p.1<q.1∨p.1=q.1/\p.2<q.2
instance (p q:Int × Int):Decidable (pairLt p q):=by unfold pairLt;infer_instance
def prOk (n:Int)(ps:List (Int × Int))(i:Nat):Prop :=
 0<=(ps.getD i (0,0)).1/\(ps.getD i (0,0)).1<(ps.getD i (0,0)).2/\(ps.getD i (0,0)).2<n/\(0<i->pairLt (ps.getD (i - 1) (0,0)) (ps.getD i (0,0)))
instance (n:Int) (ps:List (Int × Int)) (i:Nat):Decidable (prOk n ps i):=by unfold prOk;infer_instance
def PrU (n:Int)(ps:List (Int × Int))(k:Nat):Prop:=∀ i,i<k->prOk n ps i
instance (n:Int) (ps:List (Int × Int)) (k:Nat):Decidable (PrU n ps k):=by unfold PrU;infer_instance
def Grd (n:Int)(ps:List (Int × Int)):Prop:=(0<=n/\n<=8)/\PrU n ps ps.length
instance (n:Int) (ps:List (Int × Int)):Decidable (Grd n ps):=by unfold Grd;infer_instance
theorem PrU.zero (n:Int)(ps:List (Int × Int)):PrU n ps 0:=fun i h=>absurd h (Nat.not_lt_zero i)
theorem PrU.succ {n:Int}{ps:List (Int × Int)}{k:Nat}(h:PrU n ps k)(h2:prOk n ps k):PrU n ps (k+1):=by
 intro i hi
 rcases Nat.lt_succ_iff_lt_or_eq.1 hi with g | g
 ·exact h i g
 ·rw [g];exact h2
theorem PrU.no {n:Int}{ps:List (Int × Int)}{k i:Nat}(hi:i<k)(h:¬ prOk n ps i):¬ PrU n ps k:=fun g=>h (g i hi)
theorem l2Edge_c (p q:Int × Int)(H:AH):ACalls Tryz.prog 160 [.agg (List.toArray [.int .i64 p.1,.int .i64 p.2]),.agg (List.toArray [.int .i64 q.1,.int .i64 q.2])] H fun r H'=>r=.bool (decide (pairLt p q))/\H<+:H':=by
 refine in160 rfl ?_
 intro Q hQ
 simp (disch:=omega) only [cd160,box_a2,SS,eq_self,reduceIte,reduceCtorEq,Nat.reduceEqDiff,Nat.reduceAdd]
 generalize hA:H ++ [AObj.cells [.int .i64 p.1,.int .i64 p.2] 115 false]=A
 have pA:H<+:A:=by rw [<- hA];exact List.prefix_append _ _
 have a0:A[H.length]?=some (.cells [.int .i64 p.1,.int .i64 p.2] 115 false):=by rw [<- hA];exact at_new ..
 generalize hB:A ++ [AObj.cells [.int .i64 q.1,.int .i64 q.2] 115 false]=B
 have pB:A<+:B:=by rw [<- hB];exact List.prefix_append _ _
 have b0:=pre_at pB a0
 have b1:B[A.length]?=some (.cells [.int .i64 q.1,.int .i64 q.2] 115 false):=by rw [<- hB];exact at_new ..
 have pHB:=pA.trans pB
 simp (disch:=omega) only [cell_of b0,cell_of b1,SS,eq_self,reduceIte,reduceCtorEq,Nat.reduceEqDiff,Nat.reduceAdd]
 refine brD.intro (fun e1=>?_) (fun e1=>?_) <;> simp (disch:=omega) only [e1,cell_of b0,cell_of b1,SS,eq_self,reduceIte,reduceCtorEq,Nat.reduceEqDiff,Nat.reduceAdd]
 ·refine hQ _ _ _ ?_
  simp (disch:=omega) only [e1,SS,eq_self,reduceIte,reduceCtorEq,Nat.reduceEqDiff,Nat.reduceAdd]
  exact ⟨by rw [decide_eq_true (show pairLt p q from .inl e1)],pHB⟩
 ·refine brD.intro (fun e2=>?_) (fun e2=>?_) <;> simp (disch:=omega) only [e1,e2,cell_of b0,cell_of b1,SS,eq_self,reduceIte,reduceCtorEq,Nat.reduceEqDiff,Nat.reduceAdd]
  ·refine hQ _ _ _ ?_
   simp (disch:=omega) only [e1,e2,SS,eq_self,reduceIte,reduceCtorEq,Nat.reduceEqDiff,Nat.reduceAdd]
   have:pairLt p q↔p.2<q.2:=by unfold pairLt;omega
   exact ⟨by simp [this],pHB⟩
  ·refine hQ _ _ _ ?_
   simp (disch:=omega) only [e1,e2,SS,eq_self,reduceIte,reduceCtorEq,Nat.reduceEqDiff,Nat.reduceAdd]
   have:¬ pairLt p q:=by unfold pairLt;omega
   exact ⟨by simp [this],pHB⟩
def cmpI (a b:Int):Int:=if a<b then -1 else if b<a then 1 else 0
def cmpP (p q:Int × Int):Int:=if cmpI p.1 q.1 ≠ 0 then cmpI p.1 q.1 else cmpI p.2 q.2
theorem cmpP_ge (p q:Int × Int):(0<=cmpP p q)↔¬ pairLt p q:=by
 unfold cmpP cmpI pairLt
 repeat' split
 all_goals omega
theorem Compare_c (a b:Int)(H:AH):ACalls Tryz.prog 167 [.int .i64 a,.int .i64 b] H fun r H'=>r=.int .i64 (cmpI a b)/\H=H':=by
 refine in167 rfl ?_
 intro Q hQ
 simp (disch:=omega) only [cd167,SS,eq_self,reduceIte,reduceCtorEq,Nat.reduceEqDiff,Nat.reduceAdd]
 refine CallH.by (isNaN_c a H) ?_
 rintro _ _ ⟨rfl,rfl⟩
 simp (disch:=omega) only [SS,eq_self,reduceIte,reduceCtorEq,Nat.reduceEqDiff,Nat.reduceAdd]
 refine CallH.by (isNaN_c b H) ?_
 rintro _ _ ⟨rfl,rfl⟩
 simp (disch:=omega) only [SS,eq_self,reduceIte,reduceCtorEq,Nat.reduceEqDiff,Nat.reduceAdd]
 refine brD.intro (fun e=>?_) (fun e=>?_) <;> simp (disch:=omega) only [e,SS,eq_self,reduceIte,reduceCtorEq,Nat.reduceEqDiff,Nat.reduceAdd]
 ·refine hQ _ _ _ ?_
  simp (disch:=omega) only [cmpI,e,SS,eq_self,reduceIte,reduceCtorEq,Nat.reduceEqDiff,Nat.reduceAdd]
 ·refine brD.intro (fun e2=>?_) (fun e2=>?_) <;> simp (disch:=omega) only [e,e2,SS,eq_self,reduceIte,reduceCtorEq,Nat.reduceEqDiff,Nat.reduceAdd]
  ·refine hQ _ _ _ ?_
   simp (disch:=omega) only [cmpI,e,e2,SS,eq_self,reduceIte,reduceCtorEq,Nat.reduceEqDiff,Nat.reduceAdd]
  ·refine hQ _ _ _ ?_
   simp (disch:=omega) only [cmpI,e,e2,SS,eq_self,reduceIte,reduceCtorEq,Nat.reduceEqDiff,Nat.reduceAdd]
theorem Or_c (a b:Int)(o:Nat)(H:AH)(ho:H[o]?=some (.cells (ints [a,b]) 3 false)):ACalls Tryz.prog 200 [.slice (some ⟨o,0,none⟩) 2 2] H fun r H'=>r=.int .i64 (if a ≠ 0 then a else b)/\H=H':=by
 refine in200 rfl ?_
 intro Q hQ
 simp (disch:=omega) only [cd200,SS,eq_self,reduceIte,reduceCtorEq,Nat.reduceEqDiff,Nat.reduceAdd]
 refine LoopH.by (fun m s H'=>∃ i,m+i=2/\s 0=.slice (some ⟨o,0,none⟩) 2 2/\s 3=.int .i64 0/\s 6=.slice (some ⟨o,0,none⟩) 2 2/\s 7=.int .i64 2/\s 8=.int .i64 ((i:Nat):Int)/\H=H'/\∀ j,j<i->[a,b].getD j 0=0) 2 ?_ ?_
 ·exact ⟨0,rfl,rfl,rfl,rfl,rfl,rfl,rfl,fun j hj=>absurd hj (Nat.not_lt_zero j)⟩
 ·rintro m s H' ⟨i,hm,h0,h3,h6,h7,h8,rfl,hz⟩
  simp (disch:=omega) only [h0,h3,h6,h7,h8,SS,eq_self,reduceIte,reduceCtorEq,Nat.reduceEqDiff,Nat.reduceAdd]
  refine brD.intro (fun g=>?_) (fun g=>?_)
  ·have hi:i < [a,b].length:=by show i<2;omega
   simp (disch:=omega) only [h0,h3,h6,h7,h8,Int.toNat_natCast,Nat.zero_add,cell_ints ho hi,SS,eq_self,reduceIte,reduceCtorEq,Nat.reduceEqDiff,Nat.reduceAdd]
   refine brD.intro (fun e=>?_) (fun e=>?_) <;> simp (disch:=omega) only [h0,h3,h6,h7,h8,e,wrap64,SS,eq_self,reduceIte,reduceCtorEq,Nat.reduceEqDiff,Nat.reduceAdd]
   ·refine hQ _ _ _ ?_
    simp (disch:=omega) only [SS,eq_self,reduceIte,reduceCtorEq,Nat.reduceEqDiff,Nat.reduceAdd]
    have:i=0∨i=1:=by omega
    rcases this with rfl | rfl
    ·have e':a ≠ 0:=e
     simp [e']
    ·have e1:a=0:=hz 0 (by omega)
     simp [e1]
   ·have f1:∀ j,j<i+1->[a,b].getD j 0=0:=by
     intro j hj
     rcases Nat.lt_succ_iff_lt_or_eq.1 hj with h | h
     ·exact hz j h
     ·rw [h];exact Decidable.not_not.1 e
    refine ⟨m - 1,by omega,i+1,?_⟩
    (repeat' apply And.intro) <;> first | exact f1 | (simp only [Value.int.injEq,true_and];omega) | omega | rfl | assumption | (simp;done) | (simp;omega)
  ·simp (disch:=omega) only [h3,SS,eq_self,reduceIte,reduceCtorEq,Nat.reduceEqDiff,Nat.reduceAdd]
   refine hQ _ _ _ ?_
   simp (disch:=omega) only [h3,SS,eq_self,reduceIte,reduceCtorEq,Nat.reduceEqDiff,Nat.reduceAdd]
   have e1:a=0:=hz 0 (by omega)
   have e2:b=0:=hz 1 (by omega)
   simp [e1,e2]
theorem comparePairs_c (p q:Int × Int)(H:AH):ACalls Tryz.prog 169 [.agg (List.toArray [.int .i64 p.1,.int .i64 p.2]),.agg (List.toArray [.int .i64 q.1,.int .i64 q.2])] H fun r H'=>r=.int .i64 (cmpP p q)/\H<+:H':=by
 refine in169 rfl ?_
 intro Q hQ
 simp (disch:=omega) only [cd169,box_a2,SS,eq_self,reduceIte,reduceCtorEq,Nat.reduceEqDiff,Nat.reduceAdd]
 generalize hA:H ++ [AObj.cells [.int .i64 p.1,.int .i64 p.2] 115 false]=A
 have pA:H<+:A:=by rw [<- hA];exact List.prefix_append _ _
 have a0:A[H.length]?=some (.cells [.int .i64 p.1,.int .i64 p.2] 115 false):=by rw [<- hA];exact at_new ..
 generalize hB:A ++ [AObj.cells [.int .i64 q.1,.int .i64 q.2] 115 false]=B
 have pB:A<+:B:=by rw [<- hB];exact List.prefix_append _ _
 have b0:=pre_at pB a0
 have b1:B[A.length]?=some (.cells [.int .i64 q.1,.int .i64 q.2] 115 false):=by rw [<- hB];exact at_new ..
 have pHB:=pA.trans pB
 simp (disch:=omega) only [cell_of b0,cell_of b1,SS,eq_self,reduceIte,reduceCtorEq,Nat.reduceEqDiff,Nat.reduceAdd]
 refine CallH.by (Compare_c p.1 q.1 B) ?_
 rintro _ _ ⟨rfl,rfl⟩
 simp (disch:=omega) only [cell_of b0,cell_of b1,SS,eq_self,reduceIte,reduceCtorEq,Nat.reduceEqDiff,Nat.reduceAdd]
 refine CallH.by (Compare_c p.2 q.2 B) ?_
 rintro _ _ ⟨rfl,rfl⟩
 simp (disch:=omega) only [SS,eq_self,reduceIte,reduceCtorEq,Nat.reduceEqDiff,Nat.reduceAdd]
 refine CallH.by (Or_c (cmpI p.1 q.1) (cmpI p.2 q.2) B.length _ (at_new ..)) ?_
 rintro _ _ ⟨rfl,rfl⟩
 simp (disch:=omega) only [SS,eq_self,reduceIte,reduceCtorEq,Nat.reduceEqDiff,Nat.reduceAdd]
 refine hQ _ _ _ ?_
 simp (disch:=omega) only [cmpP,SS,eq_self,reduceIte,reduceCtorEq,Nat.reduceEqDiff,Nat.reduceAdd]
 exact pre_app pHB _
theorem l2Pairs_c (v:Value)(n:Int)(ps:List (Int × Int))(H:AH)(hr:RowP 115 H v ps)(hlen:ps.length<=1099511627776)(hn:0<=n/\n<=8) :
  ACalls Tryz.prog 173 [v,.int .i64 n] H fun r H'=>r=.bool (decide (PrU n ps ps.length))/\H<+:H':=by
 refine in173 rfl ?_
 intro Q hQ
 simp (maxSteps:=1000000) (disch:=omega) only [cd173,SS,eq_self,reduceIte,reduceCtorEq,Nat.reduceEqDiff,Nat.reduceAdd]
 refine LoopH.by (fun m s H'=>∃ i,m+i=ps.length/\s 0=v/\s 1=.int .i64 n/\s 5=.int .i64 ((i:Nat):Int)/\H<+:H'/\PrU n ps i) ps.length ?_ ?_
 ·exact ⟨0,by simp,rfl,rfl,rfl,List.prefix_refl _,PrU.zero _ _⟩
 ·rintro m s H' ⟨i,hm,h0,h1,h5,hp,hu⟩
  have hr':=hr.pre hp
  simp (maxSteps:=1000000) (disch:=omega) only [h0,h1,h5,hr'.len Tryz.underlying24,SS,eq_self,reduceIte,reduceCtorEq,Nat.reduceEqDiff,Nat.reduceAdd]
  refine brD.intro (fun g=>?_) (fun g=>?_)
  ·have hi:i<ps.length:=by omega
   have hst0:=store_a2 H' [.int .i64 0,.int .i64 0] rfl
   simp (maxSteps:=1000000) (disch:=omega) only [h0,h1,h5,hr'.ix Tryz.underlying24 cs115,Int.toNat_natCast,hr'.ld ag115 cs115 hi,alloc_a2,hst0,cell_new,wrap64,SS,eq_self,reduceIte,reduceCtorEq,Nat.reduceEqDiff,Nat.reduceAdd]
   generalize hB:H' ++ [AObj.cells [.int .i64 (ps.getD i (0,0)).1,.int .i64 (ps.getD i (0,0)).2] 115 false]=B
   have pB:H'<+:B:=by rw [<- hB];exact List.prefix_append _ _
   have b0:B[H'.length]?=some (.cells [.int .i64 (ps.getD i (0,0)).1,.int .i64 (ps.getD i (0,0)).2] 115 false):=by rw [<- hB];exact at_new ..
   have hrB:=hr'.pre pB
   refine CallH.by (l1In_c _ _ _ B) ?_
   rintro _ _ ⟨rfl,rfl⟩
   simp (maxSteps:=1000000) (disch:=omega) only [cell_of b0,wrap64,SS,eq_self,reduceIte,reduceCtorEq,Nat.reduceEqDiff,Nat.reduceAdd]
   have hBp:=hp.trans pB
   have e0:((i:Int) - 1).toNat=i - 1:=by omega
   have ok2:prOk n ps i->PrU n ps (i+1):=fun h=>hu.succ h
   have bad:¬ prOk n ps i->∀ G,H<+:G->decide (PrU n ps ps.length)=false/\H<+:G:=fun h G hG=>⟨decide_eq_false (PrU.no hi h),hG⟩
   have hld1:0<i->loadA Tryz.prog 115 (.pointer (some ⟨rowO v,rowK v+2 * (i - 1),none⟩)) B=some (.agg (List.toArray [.int .i64 (ps.getD (i - 1) (0,0)).1,.int .i64 (ps.getD (i - 1) (0,0)).2])):=fun h=>hrB.ld ag115 cs115 (by omega)
   unfold prOk at ok2 bad
   generalize hx:ps.getD i (0,0)=x at *
   generalize hy:ps.getD (i - 1) (0,0)=y at *
   refine brD.intro (fun e1=>?_) (fun e1=>?_)
   ·simp (maxSteps:=1000000) (disch:=omega) only [e1,cell_of b0,h0,h1,h5,wrap64,SS,eq_self,reduceIte,reduceCtorEq,Nat.reduceEqDiff,Nat.reduceAdd]
    refine CallH.by (l1In_c _ _ _ B) ?_
    rintro _ _ ⟨rfl,rfl⟩
    simp (maxSteps:=1000000) (disch:=omega) only [e1,cell_of b0,h0,h1,h5,wrap64,SS,eq_self,reduceIte,reduceCtorEq,Nat.reduceEqDiff,Nat.reduceAdd]
    refine brD.intro (fun e2=>?_) (fun e2=>?_)
    ·simp (maxSteps:=1000000) (disch:=omega) only [e1,e2,cell_of b0,h0,h1,h5,wrap64,SS,eq_self,reduceIte,reduceCtorEq,Nat.reduceEqDiff,Nat.reduceAdd]
     refine brD.intro (fun e3=>?_) (fun e3=>?_) <;> simp (maxSteps:=1000000) (disch:=omega) only [e1,e2,e3,cell_of b0,h0,h1,h5,wrap64,SS,eq_self,reduceIte,reduceCtorEq,Nat.reduceEqDiff,Nat.reduceAdd]
     ·refine hQ _ _ _ ?_
      simp (maxSteps:=1000000) (disch:=omega) only [SS,eq_self,reduceIte,reduceCtorEq,Nat.reduceEqDiff,Nat.reduceAdd]
      obtain ⟨q1,q2⟩:=bad (by omega) _ hBp
      rw [q1]
      exact ⟨rfl,q2⟩
     ·refine brD.intro (fun e4=>?_) (fun e4=>?_) <;> simp (maxSteps:=1000000) (disch:=omega) only [e1,e2,e3,e4,h0,h1,h5,wrap64,SS,eq_self,reduceIte,reduceCtorEq,Nat.reduceEqDiff,Nat.reduceAdd]
      ·have hi1:0<i:=by omega
       simp (maxSteps:=1000000) (disch:=omega) only [e1,e2,e3,e4,e0,h0,h1,h5,hrB.ix Tryz.underlying24 cs115,hld1 hi1,ld_a2 b0,wrap64,SS,eq_self,reduceIte,reduceCtorEq,Nat.reduceEqDiff,Nat.reduceAdd]
       refine CallH.by (l2Edge_c y x B) ?_
       rintro _ C ⟨rfl,pC⟩
       have hCp:=hBp.trans pC
       simp (maxSteps:=1000000) (disch:=omega) only [e1,e2,e3,e4,SS,eq_self,reduceIte,reduceCtorEq,Nat.reduceEqDiff,Nat.reduceAdd]
       refine brD.intro (fun e5=>?_) (fun e5=>?_) <;> simp (maxSteps:=1000000) (disch:=omega) only [e1,e2,e3,e4,e5,h0,h1,h5,wrap64,SS,eq_self,reduceIte,reduceCtorEq,Nat.reduceEqDiff,Nat.reduceAdd]
       ·have f1:=ok2 ⟨e1.1,by omega,by omega,fun _=>e5⟩
        refine ⟨m - 1,by omega,i+1,?_⟩
        (repeat' first | exact f1 | exact hCp | apply And.intro) <;> first | (simp only [Value.int.injEq,true_and];omega) | omega | rfl | assumption | (simp;done) | (simp;omega)
       ·refine hQ _ _ _ ?_
        simp (maxSteps:=1000000) (disch:=omega) only [SS,eq_self,reduceIte,reduceCtorEq,Nat.reduceEqDiff,Nat.reduceAdd]
        obtain ⟨q1,q2⟩:=bad (fun h=>e5 (h.2.2.2 hi1)) _ hCp
        rw [q1]
        exact ⟨rfl,q2⟩
      ·have f1:=ok2 ⟨e1.1,by omega,by omega,fun h=>absurd h (by omega)⟩
       refine ⟨m - 1,by omega,i+1,?_⟩
       (repeat' first | exact f1 | exact hBp | apply And.intro) <;> first | (simp only [Value.int.injEq,true_and];omega) | omega | rfl | assumption | (simp;done) | (simp;omega)
    ·simp (maxSteps:=1000000) (disch:=omega) only [e1,e2,SS,eq_self,reduceIte,reduceCtorEq,Nat.reduceEqDiff,Nat.reduceAdd]
     refine hQ _ _ _ ?_
     simp (maxSteps:=1000000) (disch:=omega) only [SS,eq_self,reduceIte,reduceCtorEq,Nat.reduceEqDiff,Nat.reduceAdd]
     obtain ⟨q1,q2⟩:=bad (by omega) _ hBp
     rw [q1]
     exact ⟨rfl,q2⟩
   ·simp (maxSteps:=1000000) (disch:=omega) only [e1,SS,eq_self,reduceIte,reduceCtorEq,Nat.reduceEqDiff,Nat.reduceAdd]
    refine hQ _ _ _ ?_
    simp (maxSteps:=1000000) (disch:=omega) only [SS,eq_self,reduceIte,reduceCtorEq,Nat.reduceEqDiff,Nat.reduceAdd]
    obtain ⟨q1,q2⟩:=bad (by omega) _ hBp
    rw [q1]
    exact ⟨rfl,q2⟩
  ·simp (maxSteps:=1000000) (disch:=omega) only [h0,h1,h5,SS,eq_self,reduceIte,reduceCtorEq,Nat.reduceEqDiff,Nat.reduceAdd]
   refine hQ _ _ _ ?_
   simp (maxSteps:=1000000) (disch:=omega) only [SS,eq_self,reduceIte,reduceCtorEq,Nat.reduceEqDiff,Nat.reduceAdd]
   have:i=ps.length:=by omega
   subst this
   simp [hu,hp]
theorem isPairsN_c (v:Value)(n:Int)(ps:List (Int × Int))(H:AH)(hr:RowP 115 H v ps)(hlen:ps.length<=1099511627776) :
  ACalls Tryz.prog 131 [v,.int .i64 n] H fun r H'=>r=.bool (decide (PrU n ps ps.length))/\H<+:H':=by
 refine in131 rfl ?_
 intro Q hQ
 simp (disch:=omega) only [cd131,hr.len Tryz.underlying24,SS,eq_self,reduceIte,reduceCtorEq,Nat.reduceEqDiff,Nat.reduceAdd]
 refine LoopH.by (fun m s H'=>∃ i,m+i=ps.length/\s 0=v/\s 1=.int .i64 n/\s 7=v/\s 8=.int .i64 (ps.length:Int)/\s 9=.int .i64 ((i:Nat):Int)/\H<+:H'/\PrU n ps i) ps.length ?_ ?_
 ·exact ⟨0,by simp,rfl,rfl,rfl,rfl,rfl,List.prefix_refl _,PrU.zero _ _⟩
 ·rintro m s H' ⟨i,hm,h0,h1,h7,h8,h9,hp,hu⟩
  have hr':=hr.pre hp
  simp (disch:=omega) only [h0,h1,h7,h8,h9,SS,eq_self,reduceIte,reduceCtorEq,Nat.reduceEqDiff,Nat.reduceAdd]
  refine brD.intro (fun g=>?_) (fun g=>?_)
  ·have hi:i<ps.length:=by omega
   have hst0:=store_a2 H' [.int .i64 0,.int .i64 0] rfl
   simp (disch:=omega) only [h0,h1,h7,h8,h9,hr'.ix Tryz.underlying24 cs115,Int.toNat_natCast,hr'.ld ag115 cs115 hi,alloc_a2,hst0,cell_new,wrap64,SS,eq_self,reduceIte,reduceCtorEq,Nat.reduceEqDiff,Nat.reduceAdd]
   generalize hB:H' ++ [AObj.cells [.int .i64 (ps.getD i (0,0)).1,.int .i64 (ps.getD i (0,0)).2] 115 false]=B
   have pB:H'<+:B:=by rw [<- hB];exact List.prefix_append _ _
   have b0:B[H'.length]?=some (.cells [.int .i64 (ps.getD i (0,0)).1,.int .i64 (ps.getD i (0,0)).2] 115 false):=by rw [<- hB];exact at_new ..
   have hrB:=hr'.pre pB
   have hBp:=hp.trans pB
   have e0:((i:Int) - 1).toNat=i - 1:=by omega
   have ok2:prOk n ps i->PrU n ps (i+1):=fun h=>hu.succ h
   have bad:¬ prOk n ps i->∀ G,H<+:G->decide (PrU n ps ps.length)=false/\H<+:G:=fun h G hG=>⟨decide_eq_false (PrU.no hi h),hG⟩
   have hld1:0<i->loadA Tryz.prog 115 (.pointer (some ⟨rowO v,rowK v+2 * (i - 1),none⟩)) B=some (.agg (List.toArray [.int .i64 (ps.getD (i - 1) (0,0)).1,.int .i64 (ps.getD (i - 1) (0,0)).2])):=fun h=>hrB.ld ag115 cs115 (by omega)
   unfold prOk at ok2 bad
   generalize hx:ps.getD i (0,0)=x at *
   generalize hy:ps.getD (i - 1) (0,0)=y at *
   refine brD.intro (fun e1=>?_) (fun e1=>?_) <;> simp (disch:=omega) only [e1,cell_of b0,h0,h1,h7,h8,h9,wrap64,SS,eq_self,reduceIte,reduceCtorEq,Nat.reduceEqDiff,Nat.reduceAdd]
   ·refine hQ _ _ _ ?_
    simp (disch:=omega) only [SS,eq_self,reduceIte,reduceCtorEq,Nat.reduceEqDiff,Nat.reduceAdd]
    obtain ⟨q1,q2⟩:=bad (by omega) _ hBp
    rw [q1]
    exact ⟨rfl,q2⟩
   ·refine brD.intro (fun e2=>?_) (fun e2=>?_) <;> simp (disch:=omega) only [e1,e2,cell_of b0,h0,h1,h7,h8,h9,wrap64,SS,eq_self,reduceIte,reduceCtorEq,Nat.reduceEqDiff,Nat.reduceAdd]
    ·refine hQ _ _ _ ?_
     simp (disch:=omega) only [SS,eq_self,reduceIte,reduceCtorEq,Nat.reduceEqDiff,Nat.reduceAdd]
     obtain ⟨q1,q2⟩:=bad (by omega) _ hBp
     rw [q1]
     exact ⟨rfl,q2⟩
    ·refine brD.intro (fun e3=>?_) (fun e3=>?_) <;> simp (disch:=omega) only [e1,e2,e3,cell_of b0,h0,h1,h7,h8,h9,wrap64,SS,eq_self,reduceIte,reduceCtorEq,Nat.reduceEqDiff,Nat.reduceAdd]
     ·refine hQ _ _ _ ?_
      simp (disch:=omega) only [SS,eq_self,reduceIte,reduceCtorEq,Nat.reduceEqDiff,Nat.reduceAdd]
      obtain ⟨q1,q2⟩:=bad (by omega) _ hBp
      rw [q1]
      exact ⟨rfl,q2⟩
     ·refine brD.intro (fun e4=>?_) (fun e4=>?_) <;> simp (disch:=omega) only [e1,e2,e3,e4,h0,h1,h7,h8,h9,wrap64,SS,eq_self,reduceIte,reduceCtorEq,Nat.reduceEqDiff,Nat.reduceAdd]
      ·have hi1:0<i:=by omega
       simp (disch:=omega) only [e1,e2,e3,e4,e0,h0,h1,h7,h8,h9,hrB.ix Tryz.underlying24 cs115,hld1 hi1,ld_a2 b0,wrap64,SS,eq_self,reduceIte,reduceCtorEq,Nat.reduceEqDiff,Nat.reduceAdd]
       refine CallH.by (comparePairs_c y x B) ?_
       rintro _ C ⟨rfl,pC⟩
       have hCp:=hBp.trans pC
       simp (disch:=omega) only [e1,e2,e3,e4,SS,eq_self,reduceIte,reduceCtorEq,Nat.reduceEqDiff,Nat.reduceAdd]
       refine brD.intro (fun e5=>?_) (fun e5=>?_) <;> simp (disch:=omega) only [e1,e2,e3,e4,e5,h0,h1,h7,h8,h9,wrap64,SS,eq_self,reduceIte,reduceCtorEq,Nat.reduceEqDiff,Nat.reduceAdd]
       ·refine hQ _ _ _ ?_
        simp (disch:=omega) only [SS,eq_self,reduceIte,reduceCtorEq,Nat.reduceEqDiff,Nat.reduceAdd]
        obtain ⟨q1,q2⟩:=bad (fun h=>(cmpP_ge y x).1 e5 (h.2.2.2 hi1)) _ hCp
        rw [q1]
        exact ⟨rfl,q2⟩
       ·have f1:=ok2 ⟨by omega,by omega,by omega,fun _=>Decidable.not_not.1 fun h=>e5 ((cmpP_ge y x).2 h)⟩
        refine ⟨m - 1,by omega,i+1,?_⟩
        (repeat' first | exact f1 | exact hCp | apply And.intro) <;> first | (simp only [Value.int.injEq,true_and];omega) | omega | rfl | assumption | (simp;done) | (simp;omega)
      ·have f1:=ok2 ⟨by omega,by omega,by omega,fun h=>absurd h (by omega)⟩
       refine ⟨m - 1,by omega,i+1,?_⟩
       (repeat' first | exact f1 | exact hBp | apply And.intro) <;> first | (simp only [Value.int.injEq,true_and];omega) | omega | rfl | assumption | (simp;done) | (simp;omega)
  ·simp (disch:=omega) only [h0,h1,h7,h8,h9,SS,eq_self,reduceIte,reduceCtorEq,Nat.reduceEqDiff,Nat.reduceAdd]
   refine hQ _ _ _ ?_
   simp (disch:=omega) only [SS,eq_self,reduceIte,reduceCtorEq,Nat.reduceEqDiff,Nat.reduceAdd]
   have:i=ps.length:=by omega
   subst this
   simp [hu,hp]
theorem isPairs_c (v:Value)(n:Int)(ps:List (Int × Int))(H:AH)(hr:RowP 115 H v ps)(hlen:ps.length<=1099511627776)(hn:0<=n/\n<=8) :
  ACalls Tryz.prog 131 [v,.int .i64 n] H fun r H'=>r=.bool (decide (PrU n ps ps.length))/\H<+:H':=isPairsN_c v n ps H hr hlen
theorem l2Good_c (n:Int)(v:Value)(ps:List (Int × Int))(H:AH)(hr:RowP 115 H v ps)(hlen:ps.length<=1099511627776) :
  ACalls Tryz.prog 136 [.agg (List.toArray [.int .i64 n,v])] H fun r H'=>r=.bool (decide (Grd n ps))/\H<+:H':=by
 refine in136 rfl ?_
 intro Q hQ
 simp (disch:=omega) only [cd136,hr.boxG,SS,eq_self,reduceIte,reduceCtorEq,Nat.reduceEqDiff,Nat.reduceAdd]
 generalize hA:H ++ [AObj.cells [.int .i64 n,v] 26 false]=A
 have pA:H<+:A:=by rw [<- hA];exact List.prefix_append _ _
 have cA:A[H.length]?=some (.cells [.int .i64 n,v] 26 false):=by rw [<- hA];exact at_new ..
 have rA:=hr.pre pA
 simp (disch:=omega) only [cell_of cA,SS,eq_self,reduceIte,reduceCtorEq,Nat.reduceEqDiff,Nat.reduceAdd]
 refine CallH.by (l1In_c _ _ _ A) ?_
 rintro _ _ ⟨rfl,rfl⟩
 simp (disch:=omega) only [cell_of cA,SS,eq_self,reduceIte,reduceCtorEq,Nat.reduceEqDiff,Nat.reduceAdd]
 refine brD.intro (fun e=>?_) (fun e=>?_) <;> simp (disch:=omega) only [e,cell_of cA,SS,eq_self,reduceIte,reduceCtorEq,Nat.reduceEqDiff,Nat.reduceAdd]
 ·refine CallH.by (l2Pairs_c v n ps A rA hlen e) ?_
  rintro _ B ⟨rfl,pB⟩
  simp (disch:=omega) only [e,SS,eq_self,reduceIte,reduceCtorEq,Nat.reduceEqDiff,Nat.reduceAdd]
  refine hQ _ _ _ ?_
  simp (disch:=omega) only [e,SS,eq_self,reduceIte,reduceCtorEq,Nat.reduceEqDiff,Nat.reduceAdd]
  exact ⟨by simp [Grd,e],pA.trans pB⟩
 ·refine hQ _ _ _ ?_
  simp (disch:=omega) only [e,SS,eq_self,reduceIte,reduceCtorEq,Nat.reduceEqDiff,Nat.reduceAdd]
  exact ⟨by simp [Grd,e],pA⟩
theorem IsGraph_c (n:Int)(v:Value)(ps:List (Int × Int))(H:AH)(hr:RowP 115 H v ps)(hlen:ps.length<=1099511627776) :
  ACalls Tryz.prog 64 [.agg (List.toArray [.int .i64 n,v])] H fun r H'=>r=.bool (decide (Grd n ps))/\H<+:H':=by
 refine in64 rfl ?_
 intro Q hQ
 simp (disch:=omega) only [cd64,hr.boxG,SS,eq_self,reduceIte,reduceCtorEq,Nat.reduceEqDiff,Nat.reduceAdd]
 generalize hA:H ++ [AObj.cells [.int .i64 n,v] 26 false]=A
 have pA:H<+:A:=by rw [<- hA];exact List.prefix_append _ _
 have cA:A[H.length]?=some (.cells [.int .i64 n,v] 26 false):=by rw [<- hA];exact at_new ..
 have rA:=hr.pre pA
 simp (disch:=omega) only [cell_of cA,SS,eq_self,reduceIte,reduceCtorEq,Nat.reduceEqDiff,Nat.reduceAdd]
 refine CallH.by (between_c _ _ _ A) ?_
 rintro _ _ ⟨rfl,rfl⟩
 simp (disch:=omega) only [cell_of cA,SS,eq_self,reduceIte,reduceCtorEq,Nat.reduceEqDiff,Nat.reduceAdd]
 refine brD.intro (fun e=>?_) (fun e=>?_) <;> simp (disch:=omega) only [e,cell_of cA,SS,eq_self,reduceIte,reduceCtorEq,Nat.reduceEqDiff,Nat.reduceAdd]
 ·refine CallH.by (isPairs_c v n ps A rA hlen e) ?_
  rintro _ B ⟨rfl,pB⟩
  simp (disch:=omega) only [e,SS,eq_self,reduceIte,reduceCtorEq,Nat.reduceEqDiff,Nat.reduceAdd]
  refine hQ _ _ _ ?_
  simp (disch:=omega) only [e,SS,eq_self,reduceIte,reduceCtorEq,Nat.reduceEqDiff,Nat.reduceAdd]
  exact ⟨by simp [Grd,e],pA.trans pB⟩
 ·refine hQ _ _ _ ?_
  simp (disch:=omega) only [e,SS,eq_self,reduceIte,reduceCtorEq,Nat.reduceEqDiff,Nat.reduceAdd]
  exact ⟨by simp [Grd,e],pA⟩
theorem RowP.cells {P:Program}{e:TypeId}(hc:P.cellsOf e=2){H:AH}{v:Value}{ps:List (Int × Int)}(h:RowP e H v ps):sliceCells P e v H=some (ps.length,ints (flat ps)):=by
 rcases h with ⟨h1,h2⟩ | ⟨o,k,vs,ro,e1,h2,h3,h4⟩
 ·subst h1;subst h2;rfl
 ·subst e1
  simp only [sliceCells,h2,hc]
  rw [Nat.mul_comm ps.length 2,if_pos ⟨h3,trivial⟩,h4]
theorem MineP.app {P:Program}{t e:TypeId}(hu:P.underlying t=some (.slice e))(hc:P.cellsOf e=2)(hby:P.bytesOf e<=64)(hz:zeroOk P e=true){H0 H:AH}{v x:Value}{ps qs:List (Int × Int)}(h:MineP e H0 H v ps)(hx:RowP e H x qs)(hp:H0<+:H)(hb:ps.length+qs.length<=1099511627776) :
  ∃ v' H',appendA P t t v x H=some (v',H')/\MineP e H0 H' v' (ps ++ qs)/\H0<+:H'/\Kept v H H'/\(H.length<=rowO v'∨(v'=v/\H'=H))/\H.length<=H'.length:=by
 have hcells:=hx.cells (P:=P) hc
 have hb2:(ps.length+qs.length) * P.bytesOf e<=140737488355328:=by
  refine Nat.le_trans (Nat.mul_le_mul_left _ hby) ?_
  omega
 by_cases hm:qs.length=0
 ·have hx0:qs=[]:=List.eq_nil_of_length_eq_zero hm
  subst hx0
  refine ⟨v,H,?_,by simpa using h,hp,fun o y _ hy=>hy,.inr ⟨rfl,rfl⟩,Nat.le_refl _⟩
  have hsl:isSl v=true:=by rcases h with ⟨h1,_⟩ | ⟨o,zs,h1,_⟩ <;> subst h1 <;> rfl
  simp only [appendA,hu,hc,hcells,hsl]
  simp
 ·rcases h with ⟨h1,h2⟩ | ⟨o,zs,h1,h2,h3,h4⟩
  ·subst h1;subst h2
   refine ⟨.slice (some ⟨H.length,0,none⟩) qs.length qs.length,H ++ [.cells (ints (flat qs)) e false],?_,.inr ⟨H.length,flat qs,rfl,hp.length_le,at_new ..,?_⟩,pre_app hp _,fun o y _ hy=>at_app hy _,.inl (Nat.le_refl _),by simp⟩
   ·simp only [appendA,hu,hc,hcells,hz]
    simp only [List.length_nil,Nat.zero_add] at hb hb2
    simp [hm,hb2];omega
   ·show (flat qs).take (2 * qs.length)=flat qs
    rw [List.take_of_length_le (by rw [flat_len];omega)]
  ·subst h1
   have hl:=take_flat_len h4
   have lo:=hp.length_le
   refine ⟨.slice (some ⟨H.length,0,none⟩) (ps.length+qs.length) (ps.length+qs.length),H.set o .dead ++ [.cells (ints (flat (ps ++ qs))) e false],?_,.inr ⟨H.length,flat (ps ++ qs),by simp,by omega,?_,?_⟩,pre_app (pre_set hp h2 _) _,?_,.inl (Nat.le_refl _),by simp⟩
   ·simp only [appendA,hu,hc,hcells,hz,h3]
    rw [if_pos (by simp),if_neg hm,if_pos ⟨trivial,by rw [ints_len];omega,hb2,by omega,trivial⟩]
    have:((ints zs).drop 0).take (ps.length * 2) ++ ints (flat qs)=ints (flat (ps ++ qs)):=by
     rw [flat_app,ints_app,<- h4,List.drop_zero,Nat.mul_comm]
     simp [ints,List.map_take]
    rw [this]
   ·rw [List.getElem?_append_right (by simp)];simp
   ·rw [List.take_of_length_le (by rw [flat_len];omega)]
   ·intro o' y hne hy
    refine at_old hy ?_ _
    rcases hne with hne | hne
    ·cases hne
    ·exact fun e=>hne e.symm
def subP (v:Value)(l h:Nat):Value :=
 match v with
 | .slice (some p) _ _=>.slice (some ⟨p.block,p.off+2 * l,none⟩) (h - l) (h - l)
 | _=>.slice none 0 0
theorem RowP.slice {P:Program}{t e:TypeId}(hu:P.underlying t=some (.slice e))(hc:P.cellsOf e=2){H:AH}{v:Value}{ps:List (Int × Int)}(h:RowP e H v ps){lo hi:Option Value}{l r:Nat}(h1:boundA lo 0=some l)(h2:boundA hi ps.length=some r)(hl:l<=r)(hr:r<=ps.length) :
  sliceA P t v lo hi none H=some (subP v l r)/\RowP e H (subP v l r) ((ps.drop l).take (r - l))/\rowO (subP v l r)=rowO v:=by
 rcases h with ⟨e1,e2⟩ | ⟨o,k,vs,ro,e1,g2,g3,g4⟩
 ·subst e1;subst e2
  have hr0:r=0:=by simpa using hr
  have hl0:l=0:=by omega
  subst hr0;subst hl0
  refine ⟨?_,.inl ⟨rfl,by simp⟩,rfl⟩
  simp only [List.length_nil] at h2
  simp only [sliceA,hu,h1,h2,hc,subP];rfl
 ·subst e1
  have hlen:((ps.drop l).take (r - l)).length=r - l:=by simp;omega
  refine ⟨?_,.inr ⟨o,k+2 * l,vs,ro,?_,g2,?_,?_⟩,rfl⟩
  ·simp only [sliceA,hu,h1,h2,g2,hc,subP]
   rw [if_pos ⟨hl,hr,trivial,by decide⟩,Nat.mul_comm l 2]
  ·simp only [subP,hlen]
  ·rw [hlen];omega
  ·rw [hlen,<- List.drop_drop]
   have e4:ints (flat ((ps.drop l).take (r - l)))=((ints (flat ps)).drop (2 * l)).take (2 * (r - l)):=by
    rw [<- flat_take,<- flat_drop];simp [ints,List.map_drop,List.map_take]
   rw [e4,<- g4,List.drop_take,List.take_take,Nat.min_eq_left (by omega)]
def cd109:Cd:=(.seq (.reg [⟨⟨some 3,.box 115 (.tmp 1),none⟩,[]⟩,⟨⟨some 4,.assign (.const (.slice none 0 0)),none⟩,[]⟩]) (.seq (.reg [⟨⟨some 6,.move (.tmp 0),none⟩,[]⟩,⟨⟨some 7,.call ⟨(.builtin .len),#[.tmp 6],#[24]⟩,none⟩,[]⟩,⟨⟨some 5,.assign (.tmp 7),none⟩,[]⟩]) (.seq (.block 0 (.loop (.seq (.seq (.reg [⟨⟨some 8,.move (.tmp 5),none⟩,[]⟩,⟨⟨some 9,.binOp .gtr 3 (.tmp 8) (.const (.int .i64 0)) 3,none⟩,[]⟩,⟨⟨some 10,.move (.tmp 9),none⟩,[]⟩,⟨⟨some 11,.load 115 (.tmp 3),some (10,true)⟩,[]⟩,⟨⟨some 12,.move (.tmp 0),some (10,true)⟩,[]⟩,⟨⟨some 13,.move (.tmp 5),some (10,true)⟩,[]⟩,⟨⟨some 14,.binOp .sub 3 (.tmp 13) (.const (.int .i64 1)) 3,some (10,true)⟩,[]⟩,⟨⟨some 15,.indexAddr 24 (.tmp 12) (.tmp 14),some (10,true)⟩,[]⟩,⟨⟨some 16,.load 115 (.tmp 15),some (10,true)⟩,[]⟩,
 ⟨⟨some 17,.call ⟨(.value (.func 160)),#[.tmp 11,.tmp 16],#[115,115]⟩,some (10,true)⟩,[]⟩,⟨⟨some 18,.pick (.tmp 10) (.tmp 17) (.const (.bool false)),none⟩,[]⟩]) (.cond (.tmp 18) .skip (.exit 0))) (.block 1 (.reg [⟨⟨some 19,.move (.tmp 5),none⟩,[]⟩,⟨⟨some 20,.binOp .sub 3 (.tmp 19) (.const (.int .i64 1)) 3,none⟩,[]⟩,⟨⟨some 5,.assign (.tmp 20),none⟩,[]⟩]))))) (.seq (.seq (.reg [⟨⟨some 21,.move (.tmp 5),none⟩,[]⟩,⟨⟨some 22,.binOp .gtr 3 (.tmp 21) (.const (.int .i64 0)) 3,none⟩,[]⟩,⟨⟨some 23,.move (.tmp 22),none⟩,[]⟩,⟨⟨some 24,.move (.tmp 0),some (23,true)⟩,[]⟩,⟨⟨some 25,.move (.tmp 5),some (23,true)⟩,[]⟩,⟨⟨some 26,.binOp .sub 3 (.tmp 25) (.const (.int .i64 1)) 3,some (23,true)⟩,[]⟩,⟨⟨some 27,.indexAddr 24 (.tmp 24) (.tmp 26),some (23,true)⟩,[]⟩,⟨⟨some 28,.load 115 (.tmp 27),some (23,true)⟩,[]⟩,⟨⟨some 29,.load 115 (.tmp 3),some (23,true)⟩,[]⟩,
 ⟨⟨some 30,.binOp .eql 115 (.tmp 28) (.tmp 29) 115,some (23,true)⟩,[]⟩,⟨⟨some 31,.pick (.tmp 23) (.tmp 30) (.const (.bool false)),none⟩,[]⟩]) (.cond (.tmp 31) (.seq (.reg [⟨⟨some 32,.move (.tmp 0),none⟩,[]⟩,⟨⟨some 4,.assign (.tmp 32),none⟩,[]⟩]) .ret) .skip)) (.seq (.reg [⟨⟨some 33,.buildSlice 24 0 #[],none⟩,[]⟩,⟨⟨some 34,.move (.tmp 0),none⟩,[]⟩,⟨⟨some 35,.move (.tmp 5),none⟩,[]⟩,⟨⟨some 36,.slice 24 (.tmp 34) none (some (.tmp 35)) none,none⟩,[]⟩,⟨⟨some 38,.load 115 (.tmp 3),none⟩,[]⟩,⟨⟨some 39,.buildSlice 24 1 #[(0,.tmp 38)],none⟩,[]⟩,⟨⟨some 41,.move (.tmp 0),none⟩,[]⟩,⟨⟨some 42,.move (.tmp 5),none⟩,[]⟩,⟨⟨some 43,.slice 24 (.tmp 41) (some (.tmp 42)) none none,none⟩,[]⟩,⟨⟨some 37,.call ⟨(.builtin .append),#[.tmp 33,.tmp 36],#[24,24]⟩,none⟩,[⟨some 43,.slice 24 (.tmp 41) (some (.tmp 42)) none none,none⟩,⟨some 39,.buildSlice 24 1 #[(0,.tmp 38)],none⟩,⟨some 38,.load 115 (.tmp 3),none⟩]⟩,
 ⟨⟨some 40,.call ⟨(.builtin .append),#[.tmp 37,.tmp 39],#[24,24]⟩,none⟩,[⟨some 43,.slice 24 (.tmp 41) (some (.tmp 42)) none none,none⟩]⟩,
  ⟨⟨some 44,.call ⟨(.builtin .append),#[.tmp 40,.tmp 43],#[24,24]⟩,none⟩,[]⟩,
  ⟨⟨some 4,.assign (.tmp 44),none⟩,[]⟩]) .ret)))))
theorem in109:InT Tryz.prog 109 2 [.tmp 4] cd109:=InT.mk (by kernel_rfl) [(2,[(0,false),(1,false),(2,false),(3,false),(4,false),(5,false),(6,false),(7,false),(8,false),(9,true),(10,false)]),(4,[(0,false),(1,false),(2,false),(3,false),(4,false),(5,false),(6,false),(7,false),(8,false),(9,false),(10,false)]),(6,[(0,false),(1,false),(2,false),(3,false),(5,false),(6,false),(8,false),(9,false),(10,false),(4,true),(7,true),(11,true),(12,false)])] Tryz.func109 rfl (by kernel_rfl) (by kernel_rfl) (of_decide_eq_true (by kernel_rfl)) (by kernel_rfl)
end Go.Proofs.YtlcipphiflcaiaaGreat.Ai
namespace Go.Proofs.YtlcipphiflcaiaaGreat.Ai
open Go Go.RowKit
theorem pick2_c {H:AH}{o:Nat}{v:Value}{us:List Value}{N:Nat}(h:Cur H o v us N)(hN:N<=900000000)(n:Int)(hn:n<=60000) :
  ACalls Tryz.prog 107 [.pointer (some ⟨o,0,none⟩),.int .i64 n] H fun r H'=>(∃ x:Nat,r=.int .i64 (x:Int)/\((x:Int)<n∨x=0))/\Cur H' o v us (N+2)/\OnlyO o H H':=by
 refine in107 rfl ?_
 intro Q hQ
 simp (disch:=omega) only [cd107,SS,eq_self,reduceIte,reduceCtorEq,Nat.reduceEqDiff,Nat.reduceAdd]
 refine brD.intro (fun g=>?_) (fun g=>?_)
 ·simp (disch:=omega) only [SS,eq_self,reduceIte,reduceCtorEq,Nat.reduceEqDiff,Nat.reduceAdd]
  refine hQ _ _ _ ?_
  simp (disch:=omega) only [SS,eq_self,reduceIte,reduceCtorEq,Nat.reduceEqDiff,Nat.reduceAdd]
  exact ⟨⟨0,rfl,.inr rfl⟩,h.more (by omega),OnlyO.refl o H⟩
 simp (disch:=omega) only [SS,eq_self,reduceIte,reduceCtorEq,Nat.reduceEqDiff,Nat.reduceAdd]
 refine CallH.by (next_c h (by omega)) ?_
 rintro _ K ⟨⟨x,rfl,hx⟩,hK,oK⟩
 have hn0:n ≠ 0:=by omega
 have hmod:∀ x:Nat,(x:Int).tmod n=((x % n.toNat:Nat):Int):=fun x=>by
  rw [Int.tmod_eq_emod_of_nonneg (by omega)]
  have:n=(n.toNat:Int):=by omega
  conv=>lhs;rw [this]
  exact (Int.natCast_emod x n.toNat).symm
 have hlt:∀ x:Nat,x % n.toNat<n.toNat:=fun x=>Nat.mod_lt x (by omega)
 simp (disch:=omega) only [SS,eq_self,reduceIte,reduceCtorEq,Nat.reduceEqDiff,Nat.reduceAdd]
 refine brD.intro (fun g2=>?_) (fun g2=>?_)
 ·simp (disch:=omega) only [SS,eq_self,reduceIte,reduceCtorEq,Nat.reduceEqDiff,Nat.reduceAdd]
  refine CallH.by (next_c hK (by omega)) ?_
  rintro _ L ⟨⟨y,rfl,hy⟩,hL,oL⟩
  have hw:IntKind.i64.wrap (IntKind.i64.wrap ((x:Int) * 256)+(y:Int))=((x * 256+y:Nat):Int):=by
   rw [wrap64 (n:=(x:Int) * 256) (by omega) (by omega),wrap64 (by omega) (by omega)];omega
  simp (disch:=omega) only [hn0,hw,hmod,SS,eq_self,reduceIte,reduceCtorEq,Nat.reduceEqDiff,Nat.reduceAdd]
  refine hQ _ _ _ ?_
  simp (disch:=omega) only [SS,eq_self,reduceIte,reduceCtorEq,Nat.reduceEqDiff,Nat.reduceAdd]
  have:=hlt (x * 256+y)
  exact ⟨⟨_,rfl,.inl (by omega)⟩,hL,oK.trans oL⟩
 ·simp (disch:=omega) only [hn0,hmod,SS,eq_self,reduceIte,reduceCtorEq,Nat.reduceEqDiff,Nat.reduceAdd]
  refine hQ _ _ _ ?_
  simp (disch:=omega) only [SS,eq_self,reduceIte,reduceCtorEq,Nat.reduceEqDiff,Nat.reduceAdd]
  have:=hlt x
  exact ⟨⟨_,rfl,.inl (by omega)⟩,hK.more (by omega),oK⟩
theorem MineP.rebase {e:TypeId}{H0 H1 H:AH}{v:Value}{ps:List (Int × Int)}(h:MineP e H0 H v ps)(hl:H1.length=H0.length):MineP e H1 H v ps:=by
 rcases h with h | ⟨o,zs,h1,h2,h3,h4⟩
 ·exact .inl h
 ·exact .inr ⟨o,zs,h1,by omega,h3,h4⟩
theorem eq_pr (a b c d:Int):binA Tryz.prog .eql 115 (.agg (List.toArray [.int .i64 a,.int .i64 b])) (.agg (List.toArray [.int .i64 c,.int .i64 d]))=some (.bool (decide ((a,b)=(c,d)))):=by
 have h:binA Tryz.prog .eql 115 (.agg (List.toArray [.int .i64 a,.int .i64 b])) (.agg (List.toArray [.int .i64 c,.int .i64 d]))=some (.bool (a == c && b == d)):=by kernel_rfl
 have e:(a == c && b == d)=decide ((a,b)=(c,d)):=by
  rw [Bool.eq_iff_iff,decide_eq_true_eq,Prod.mk.injEq,Bool.and_eq_true,beq_iff_eq,beq_iff_eq]
 rw [h,e]
theorem l2PutPair_c {Hb H:AH}(v:Value)(ps:List (Int × Int))(a b:Int)(hm:MineP 115 Hb H v ps)(hbl:Hb.length<=H.length)(hl:ps.length<=1000) :
  ACalls Tryz.prog 109 [v,.agg (List.toArray [.int .i64 a,.int .i64 b])] H fun r H'=>∃ qs,MineP 115 Hb H' r qs/\qs.length<=ps.length+1/\(∀ y ∈ qs,y ∈ ps∨y=(a,b))/\(r=v∨H.length<=rowO r)/\H<+:H':=by
 obtain ⟨H0,hp0,hb0⟩:∃ H0:AH,H0<+:H/\H0.length=Hb.length:=⟨H.take Hb.length,List.take_prefix _ _,by simp;omega⟩
 have hm:=hm.rebase hb0
 refine in109 rfl ?_
 intro Q hQ
 have bx:∀ H:AH,boxA Tryz.prog 115 (.agg (List.toArray [.int .i64 a,.int .i64 b])) H=some (.pointer (some ⟨H.length,0,none⟩),H ++ [.cells [.int .i64 a,.int .i64 b] 115 false]):=fun H=>by kernel_rfl
 have hr:=hm.row
 rw [cd109]
 generalize hA:H ++ [AObj.cells [.int .i64 a,.int .i64 b] 115 false]=A
 have pA:H<+:A:=by rw [<- hA];exact List.prefix_append _ _
 have cA:A[H.length]?=some (.cells [.int .i64 a,.int .i64 b] 115 false):=by rw [<- hA];exact at_new ..
 have bxA:=bx H
 rw [hA] at bxA
 have ldb:∀ {K:AH},K[H.length]?=some (.cells [.int .i64 a,.int .i64 b] 115 false)->loadA Tryz.prog 115 (.pointer (some ⟨H.length,0,none⟩)) K=some (.agg (List.toArray [.int .i64 a,.int .i64 b])):=fun h=>ld_agg ag115 cs115 h
 refine cutC (fun s K=>s 0=v/\s 3=.pointer (some ⟨H.length,0,none⟩)/\A<+:K) (fun c hc=>?_) ?_
 ·simp (disch:=omega) only [bxA,SS,eq_self,reduceIte,reduceCtorEq,Nat.reduceEqDiff,Nat.reduceAdd]
  exact hc _ _ ⟨rfl,rfl,List.prefix_refl _⟩
 rintro s K ⟨s0,s3,pK⟩
 refine cutC (fun s K=>s 0=v/\s 3=.pointer (some ⟨H.length,0,none⟩)/\s 5=.int .i64 (ps.length:Int)/\A<+:K) (fun c hc=>?_) ?_
 ·simp (disch:=omega) only [s0,s3,hr.len Tryz.underlying24,SS,eq_self,reduceIte,reduceCtorEq,Nat.reduceEqDiff,Nat.reduceAdd]
  exact hc _ _ ⟨s0,s3,rfl,pK⟩
 clear s0 s3 pK s K
 rintro s K ⟨s0,s3,s5,pK⟩
 refine cutC (fun s K=>∃ k:Nat,k<=ps.length/\s 0=v/\s 3=.pointer (some ⟨H.length,0,none⟩)/\s 5=.int .i64 (k:Int)/\A<+:K) (fun c hc=>?_) ?_
 ·simp (disch:=omega) only [s0,s3,s5,SS,eq_self,reduceIte,reduceCtorEq,Nat.reduceEqDiff,Nat.reduceAdd]
  refine LoopH.by (fun m s H'=>∃ k:Nat,m=k/\k<=ps.length/\s 0=v/\s 3=.pointer (some ⟨H.length,0,none⟩)/\s 5=.int .i64 ((k:Nat):Int)/\A<+:H') ps.length ?_ ?_
  ·exact ⟨ps.length,rfl,Nat.le_refl _,s0,s3,s5,pK⟩
  rintro m s B ⟨k,rfl,hk,s0,s3,s5,pB⟩
  have rB:=hr.pre (pA.trans pB)
  have cB:=pre_at pB cA
  simp (disch:=omega) only [s0,s3,s5,SS,eq_self,reduceIte,reduceCtorEq,Nat.reduceEqDiff,Nat.reduceAdd]
  by_cases g:(0:Int)<(m:Int)
  rotate_left
  ·simp (disch:=omega) only [decide_eq_false g,SS,eq_self,reduceIte,reduceCtorEq,Nat.reduceEqDiff,Nat.reduceAdd]
   exact hc _ _ ⟨m,hk,s0,s3,s5,pB⟩
  have hm1:m - 1<ps.length:=by omega
  have hw1:IntKind.i64.wrap ((m:Int) - 1)=((m - 1:Nat):Int):=by rw [wrap64 (by omega) (by omega)];omega
  simp (disch:=omega) only [decide_eq_true g,s0,s3,s5,ldb cB,hw1,rB.ix Tryz.underlying24 cs115,Int.toNat_natCast,rB.ld ag115 cs115 hm1,SS,eq_self,reduceIte,reduceCtorEq,Nat.reduceEqDiff,Nat.reduceAdd]
  refine CallH.by (l2Edge_c (a,b) (ps.getD (m - 1) (0,0)) B) ?_
  rintro _ C ⟨rfl,pC⟩
  simp (disch:=omega) only [SS,eq_self,reduceIte,reduceCtorEq,Nat.reduceEqDiff,Nat.reduceAdd]
  by_cases z:pairLt (a,b) (ps.getD (m - 1) (0,0))
  ·simp (disch:=omega) only [decide_eq_true z,s0,s3,s5,hw1,SS,eq_self,reduceIte,reduceCtorEq,Nat.reduceEqDiff,Nat.reduceAdd]
   have f1:=pB.trans pC
   refine ⟨m - 1,by omega,m - 1,?_⟩
   (repeat' first | exact f1 | exact s0 | exact s3 | apply And.intro) <;> first | (simp only [Value.int.injEq,true_and];omega) | omega | rfl | assumption | (simp;done) | (simp;omega)
  ·simp (disch:=omega) only [decide_eq_false z,SS,eq_self,reduceIte,reduceCtorEq,Nat.reduceEqDiff,Nat.reduceAdd]
   exact hc _ _ ⟨m,hk,s0,s3,s5,pB.trans pC⟩
 clear s0 s3 s5 pK s K
 rintro s K ⟨k,hk,s0,s3,s5,pK⟩
 have rK:=hr.pre (pA.trans pK)
 have cK:=pre_at pK cA
 refine cutC (fun s K'=>K=K'/\s 0=v/\s 3=.pointer (some ⟨H.length,0,none⟩)/\s 5=.int .i64 (k:Int)) (fun c hc=>?_) ?_
 ·simp (disch:=omega) only [s0,s3,s5,SS,eq_self,reduceIte,reduceCtorEq,Nat.reduceEqDiff,Nat.reduceAdd]
  by_cases g:(0:Int)<(k:Int)
  rotate_left
  ·simp (disch:=omega) only [decide_eq_false g,SS,eq_self,reduceIte,reduceCtorEq,Nat.reduceEqDiff,Nat.reduceAdd]
   exact hc _ _ ⟨rfl,s0,s3,s5⟩
  have hm1:k - 1<ps.length:=by omega
  have hw1:IntKind.i64.wrap ((k:Int) - 1)=((k - 1:Nat):Int):=by rw [wrap64 (by omega) (by omega)];omega
  simp (disch:=omega) only [decide_eq_true g,s0,s3,s5,ldb cK,hw1,rK.ix Tryz.underlying24 cs115,Int.toNat_natCast,rK.ld ag115 cs115 hm1,eq_pr,SS,eq_self,reduceIte,reduceCtorEq,Nat.reduceEqDiff,Nat.reduceAdd]
  refine brD.intro (fun z=>?_) (fun z=>?_)
  ·simp (disch:=omega) only [s0,SS,eq_self,reduceIte,reduceCtorEq,Nat.reduceEqDiff,Nat.reduceAdd]
   refine hQ _ _ _ ?_
   simp (disch:=omega) only [s0,hr.tup,SS,eq_self,reduceIte,reduceCtorEq,Nat.reduceEqDiff,Nat.reduceAdd]
   exact ⟨ps,(hm.pre (pA.trans pK)).rebase hb0.symm,by omega,fun y hy=>.inl hy,.inl trivial,pA.trans pK⟩
  ·simp (disch:=omega) only [SS,eq_self,reduceIte,reduceCtorEq,Nat.reduceEqDiff,Nat.reduceAdd]
   exact hc _ _ ⟨rfl,s0,s3,s5⟩
 clear s0 s3 s5 s
 rintro s _ ⟨rfl,s0,s3,s5⟩
 have lK:=(hp0.trans (pA.trans pK)).length_le
 generalize hC:K ++ [AObj.cells [] 115 false]=C
 have pC:K<+:C:=by rw [<- hC];exact List.prefix_append _ _
 have lC:C.length=K.length+1:=by rw [<- hC];simp
 have m0:MineP 115 H0 C (.slice (some ⟨K.length,0,none⟩) 0 0) []:=by rw [<- hC];exact MineP.nil0 (P:=Tryz.prog) H0 K lK
 generalize hD:C ++ [AObj.cells [.int .i64 a,.int .i64 b] 115 false]=D
 have pD:C<+:D:=by rw [<- hD];exact List.prefix_append _ _
 have lD:D.length=C.length+1:=by rw [<- hD];simp
 have at1:D[C.length]?=some (.cells [.int .i64 a,.int .i64 b] 115 false):=by rw [<- hD];exact at_new ..
 have pKD:=pC.trans pD
 have ks:=bound_some (k:=.i64) (i:=(k:Int)) (by omega)
 have sl1:∀ {G:AH},RowP 115 G v ps->sliceA Tryz.prog 24 v none (some (.int .i64 (k:Int))) none G=some (subP v 0 k)/\RowP 115 G (subP v 0 k) (ps.take k)/\rowO (subP v 0 k)=rowO v:=fun {G} h=>by
  have:=h.slice (P:=Tryz.prog) (t:=24) Tryz.underlying24 cs115 lo_none (ks ps.length) (Nat.zero_le _) (by rw [Int.toNat_natCast];exact hk)
  rw [Int.toNat_natCast,List.drop_zero,Nat.sub_zero] at this
  exact this
 have sl2:∀ {G:AH},RowP 115 G v ps->sliceA Tryz.prog 24 v (some (.int .i64 (k:Int))) none none G=some (subP v k ps.length)/\RowP 115 G (subP v k ps.length) (ps.drop k)/\rowO (subP v k ps.length)=rowO v:=fun {G} h=>by
  have:=h.slice (P:=Tryz.prog) (t:=24) Tryz.underlying24 cs115 (ks 0) (hi_none ps.length) (by rw [Int.toNat_natCast];exact hk) (Nat.le_refl _)
  rw [Int.toNat_natCast,List.take_of_length_le (by simp)] at this
  exact this
 have rD:=rK.pre pKD
 have hby:Tryz.prog.bytesOf 115<=64:=by rw [by115];decide
 obtain ⟨v1,E,a1,a2,a3,a4,a5,a6⟩:=(m0.pre pD).app (P:=Tryz.prog) (t:=24) Tryz.underlying24 cs115 hby zk115 (sl1 rD).2.1 (hp0.trans (pA.trans (pK.trans pKD))) (by simp;omega)
 rw [List.nil_append] at a2
 have kE:∀ {j:Nat} {y:AObj},j ≠ K.length->D[j]?=some y->E[j]?=some y:=fun hj hy=>a4 _ _ (.inr hj) hy
 have pKE:K<+:E:=prefix_of fun j y hy=>kE (by have:=at_lt hy;omega) (pre_at pKD hy)
 have rE:=rK.pre pKE
 have at2:=kE (by omega) at1
 have rx:RowP 115 E (.slice (some ⟨C.length,0,none⟩) 1 1) [(a,b)]:=.inr ⟨C.length,0,_,false,rfl,at2,by simp,rfl⟩
 have v1o:v1=.slice (some ⟨K.length,0,none⟩) 0 0∨D.length<=rowO v1:=by
  rcases a5 with q | q
  ·exact .inr q
  ·exact .inl q.1
 obtain ⟨v2,F,b1,b2,b3,b4,b5,b6⟩:=a2.app (P:=Tryz.prog) (t:=24) Tryz.underlying24 cs115 hby zk115 rx a3 (by simp;omega)
 have kF:∀ {j:Nat} {y:AObj},j<K.length->E[j]?=some y->F[j]?=some y:=fun {j y} hj hy=>b4 _ _ (.inr (by
  rcases v1o with q | q
  ·rw [q];show j ≠ K.length;omega
  ·omega)) hy
 have pKF:K<+:F:=prefix_of fun j y hy=>kF (at_lt hy) (pre_at pKE hy)
 have rF:=rK.pre pKF
 have cE:E[C.length]?=D[C.length]?:=by rw [at2,at1]
 obtain ⟨v3,G,c1,c2,c3,c4,c5,c6⟩:=b2.app (P:=Tryz.prog) (t:=24) Tryz.underlying24 cs115 hby zk115 (sl2 rF).2.1 b3 (by simp;omega)
 have v2o:K.length<=rowO v2:=by
  rcases b5 with q | q
  ·omega
  ·rw [q.1]
   rcases v1o with z | z
   ·rw [z];exact Nat.le_refl _
   ·omega
 have pKG:K<+:G:=prefix_of fun j y hy=>c4 _ _ (.inr (by have:=at_lt hy;omega)) (pre_at pKF hy)
 simp (disch:=omega) only [s0,s3,s5,hC,(sl1 (rK.pre pC)).1,ldb (pre_at pC cK),hD,(sl2 rD).1,a1,(sl2 rE).1,cE,ldb (pre_at pKE cK),b1,(sl2 rF).1,c1,SS,eq_self,reduceIte,reduceCtorEq,Nat.reduceEqDiff,Nat.reduceAdd]
 refine hQ _ _ _ ?_
 simp (disch:=omega) only [c2.row.tup,SS,eq_self,reduceIte,reduceCtorEq,Nat.reduceEqDiff,Nat.reduceAdd]
 have v3o:H.length<=rowO v3:=by
  have l1:=(pA.trans pK).length_le
  have l2:=pKF.length_le
  rcases c5 with q | q
  ·omega
  ·rw [q.1];omega
 refine ⟨_,c2.rebase hb0.symm,by simp;omega,fun y hy=>?_,.inr v3o,pA.trans (pK.trans pKG)⟩
 rcases List.mem_append.1 hy with hy | hy
 ·rcases List.mem_append.1 hy with hy | hy
  ·exact .inl (List.mem_of_mem_take hy)
  ·exact .inr (by simpa using hy)
 ·exact .inl (List.mem_of_mem_drop hy)
def idxP (p:Int->Bool):List Int->Nat->Int
 | [],_ => -1
 | x :: xs,k=>if p x=true then (k:Int) else idxP p xs (k+1)
end Go.Proofs.YtlcipphiflcaiaaGreat.Ai
namespace Go.Proofs.YtlcipphiflcaiaaGreat.Ai
open Go Go.RowKit
theorem I64.tdiv {x:Int}(h:I64 x):IntKind.i64.wrap (x.tdiv 10)=x.tdiv 10:=by
 obtain ⟨h1,h2⟩:=h
 have hle:(x.tdiv 10).natAbs<=x.natAbs:=by rw [Int.natAbs_tdiv];exact Nat.div_le_self _ _
 by_cases h0:0<=x
 ·have:=Int.tdiv_nonneg h0 (by decide:(0:Int)<=10)
  exact wrap64 (by omega) (by omega)
 ·rw [IntKind.wrap_i64]
  have:(x.tdiv 10).natAbs<=922337203685477580:=by
   rw [Int.natAbs_tdiv]
   show x.natAbs / 10<=_
   omega
  omega
def Crs (x y:Int):Prop:=x.tdiv 10<y.tdiv 10/\y.tdiv 10<x.tmod 10/\x.tmod 10<y.tmod 10∨y.tdiv 10<x.tdiv 10/\x.tdiv 10<y.tmod 10/\y.tmod 10<x.tmod 10
instance (x y:Int):Decidable (Crs x y):=inferInstanceAs (Decidable (_∨_))
def Diag (n d:Int):Prop:=0<=d/\d.tmod 10<n/\1<d.tmod 10 - d.tdiv 10/\¬ (d.tdiv 10=0/\d.tmod 10=n - 1)
instance (n d:Int):Decidable (Diag n d):=inferInstanceAs (Decidable (_/\_))
theorem alloc_int (H:AH):allocA Tryz.prog 3 H=some (.pointer (some ⟨H.length,0,none⟩),H ++ [.cells [.int .i64 0] 3 false]):=by kernel_rfl
def dgRow (n a:Int):Nat->List Int
 | 0=>[]
 | k+1=>dgRow n a k ++ (if 0<a∨a+2+(k:Int)<n - 1 then [10 * a+(a+2+(k:Int))] else [])
def dgs (n:Int):Nat->List Int
 | 0=>[]
 | a+1=>dgs n a ++ dgRow n a (n - a - 2).toNat
def triOkS (n:Int)(xs:List Int)(i:Nat):Bool:=decide (xs.getD i 0 ∈ dgs n n.toNat) && (decide (i=0) || decide (xs.getD (i - 1) 0<xs.getD i 0)) && !(xs.take i).any fun y=>decide (Crs y (xs.getD i 0))
def triS (n:Int)(xs:List Int):Bool:=(List.range xs.length).all (triOkS n xs) && decide ((xs.length:Int)=n - 3)
def At (d c:Int):Prop:=d.tdiv 10=c∨d.tmod 10=c
instance (d c:Int):Decidable (At d c):=inferInstanceAs (Decidable (_∨_))
def Tri1 (n:Int)(xs:List Int):Prop:=(3<=n/\n<=8)/\triS n xs=true
instance (n:Int) (xs:List Int):Decidable (Tri1 n xs):=inferInstanceAs (Decidable (_/\_))
def Tri2 (n:Int)(xs ys:List Int):Prop:=(3<=n/\n<=8)/\triS n xs=true/\triS n ys=true
instance (n:Int) (xs ys:List Int):Decidable (Tri2 n xs ys):=inferInstanceAs (Decidable (_/\_))
theorem Tri1.len {n:Int}{xs:List Int}(h:Tri1 n xs):(xs.length:Int)=n - 3:=by
 have h:=h.2
 unfold triS at h
 simp only [Bool.and_eq_true,decide_eq_true_eq] at h
 exact h.2
theorem Tri2.a {n:Int}{xs ys:List Int}(h:Tri2 n xs ys):Tri1 n xs:=⟨h.1,h.2.1⟩
theorem Tri2.b {n:Int}{xs ys:List Int}(h:Tri2 n xs ys):Tri1 n ys:=⟨h.1,h.2.2⟩
theorem Tri1.mem {n:Int}{xs:List Int}(h:Tri1 n xs){d:Int}(hd:d ∈ xs):d ∈ dgs n n.toNat:=by
 have h:=h.2
 unfold triS triOkS at h
 simp only [Bool.and_eq_true,List.all_eq_true,decide_eq_true_eq] at h
 obtain ⟨i,hi,e⟩:=List.getElem_of_mem hd
 have:=(h.1 i (List.mem_range.2 hi)).1.1
 rw [List.getD_eq_getElem?_getD,List.getElem?_eq_getElem hi,Option.getD_some,e] at this
 exact this
def cd158:Cd:=(.seq (.reg [⟨⟨some 4,.assign (.const (.int .i64 0)),none⟩,[]⟩]) (.seq (.seq (.reg [⟨⟨some 5,.move (.tmp 0),none⟩,[]⟩,
 ⟨⟨some 6,.move (.tmp 1),none⟩,[]⟩,
 ⟨⟨some 7,.binOp .lss 3 (.tmp 5) (.tmp 6) 3,none⟩,[]⟩]) (.cond (.tmp 7) (.seq (.reg [⟨⟨some 8,.move (.tmp 0),none⟩,[]⟩,
 ⟨⟨some 4,.assign (.tmp 8),none⟩,[]⟩]) .ret) .skip)) (.seq (.reg [⟨⟨some 9,.move (.tmp 1),none⟩,[]⟩,
 ⟨⟨some 4,.assign (.tmp 9),none⟩,[]⟩]) .ret)))
theorem in158:InT Tryz.prog 158 2 [.tmp 4] cd158:=InT.mk (by kernel_rfl) [] Tryz.func158 rfl (by kernel_rfl) (by kernel_rfl) (of_decide_eq_true (by kernel_rfl)) (by kernel_rfl)
end Go.Proofs.YtlcipphiflcaiaaGreat.Ai
namespace Go.Proofs.YtlcipphiflcaiaaGreat.Ai
open Go Go.RowKit
theorem l1Least_c (a b:Int)(H:AH):ACalls Tryz.prog 158 [.int .i64 a,.int .i64 b] H fun r H'=>r=.int .i64 (if a<b then a else b)/\H=H':=by
 refine in158 rfl ?_
 intro Q hQ
 simp (disch:=omega) only [cd158,SS,eq_self,reduceIte,reduceCtorEq,Nat.reduceEqDiff,Nat.reduceAdd]
 refine brD.intro (fun h=>?_) (fun h=>?_) <;> simp (disch:=omega) only [h,SS,eq_self,reduceIte,reduceCtorEq,Nat.reduceEqDiff,Nat.reduceAdd] <;> refine hQ _ _ _ ?_ <;> simp (disch:=omega) only [h,SS,eq_self,reduceIte,reduceCtorEq,Nat.reduceEqDiff,Nat.reduceAdd]
theorem prm_range {p:List Int}(h:Prm p):(∀ i,i<p.length->0<=p.getD i 0/\p.getD i 0<p.length)/\∀ i j,i<p.length->j<p.length->p.getD i 0=p.getD j 0->i=j:=by
 have hm:=List.mergeSort_perm p (fun x y=>decide (x<=y))
 have hs:(p.mergeSort (fun x y=>decide (x<=y))).Pairwise (fun x y=>decide (x<=y)=true):=List.pairwise_mergeSort (fun a b c h1 h2=>by simp at *;omega) (fun a b=>by simp;omega) p
 have ha:Asc (p.mergeSort (fun x y=>decide (x<=y))):=by
  intro i j hij hj
  rw [List.pairwise_iff_getElem] at hs
  have:=hs i j (by omega) hj hij
  simp only [decide_eq_true_eq] at this
  rw [List.getD_eq_getElem?_getD,List.getD_eq_getElem?_getD,List.getElem?_eq_getElem hj,List.getElem?_eq_getElem (show i<(p.mergeSort (fun x y=>decide (x<=y))).length by omega)]
  exact this
 have hat:=prm_at h hm ha
 have hl:=hm.length_eq
 generalize p.mergeSort (fun x y=>decide (x<=y))=ys at *
 have mem:∀ y ∈ p,0<=y/\y<p.length:=by
  intro y hy
  obtain ⟨i,hi,e⟩:=pos_ex (hm.mem_iff.2 hy)
  rw [hat i hi] at e
  omega
 have nd:ys.Nodup:=by
  rw [List.Nodup,List.pairwise_iff_getElem]
  intro i j hi hj hij e
  have h1:=hat i hi
  have h2:=hat j hj
  simp only [List.getD_eq_getElem?_getD,List.getElem?_eq_getElem hi,List.getElem?_eq_getElem hj,Option.getD_some] at h1 h2
  omega
 have pd:p.Nodup:=hm.nodup_iff.1 nd
 refine ⟨fun i hi=>mem _ (by simp [hi]),fun i j hi hj e=>?_⟩
 rw [List.Nodup,List.pairwise_iff_getElem] at pd
 simp only [List.getD_eq_getElem?_getD,List.getElem?_eq_getElem hi,List.getElem?_eq_getElem hj,Option.getD_some] at e
 rcases Nat.lt_trichotomy i j with g | g | g
 ·exact absurd e (pd i j hi hj g)
 ·exact g
 ·exact absurd e.symm (pd j i hj hi g)
def orb (p:List Int)(x y:Int):Nat->List Int
 | 0=>[]
 | n+1=>if y=x then [] else y :: orb p x (p.getD y.toNat 0) n
def cycC (p:List Int)(x:Int):List Int:=x :: orb p x (p.getD x.toNat 0) p.length
theorem orb_self (p:List Int)(x:Int)(n:Nat):orb p x x n=[]:=by cases n <;> simp [orb]
structure Way (p:List Int) (x:Int) (c:List Int) (y:Int):Prop where
 rng:∀ z ∈ c,0<=z/\z<p.length
 nd:c.Nodup
 ne:c ≠ []
 head:c.getD 0 0=x
 step:∀ i,i+1<c.length->c.getD (i+1) 0=p.getD (c.getD i 0).toNat 0
 last:y=p.getD (c.getD (c.length - 1) 0).toNat 0
 tail:cycC p x=c ++ orb p x y (p.length+1 - c.length)
theorem nodup_len (n:Nat):∀ (c:List Int),c.Nodup->(∀ z ∈ c,0<=z/\z<(n:Int))->c.length<=n:=by
 induction n with
 | zero =>
  intro c _ h
  cases c with
  | nil=>simp
  | cons z c=>have:=h z (by simp);omega
 | succ n ih =>
  intro c hn h
  have hn':=hn.erase (n:Int)
  have hl:c.length<=(c.erase (n:Int)).length+1:=by
   rw [List.length_erase];split <;> omega
  have:=ih (c.erase (n:Int)) hn' (fun z hz=>by
   have h1:=h z (List.mem_of_mem_erase hz)
   have h2:z ≠ n:=fun e=>by
    subst e
    exact (hn.not_mem_erase) hz
   omega)
  omega
theorem Way.len {p:List Int}{x y:Int}{c:List Int}(h:Way p x c y):1<=c.length/\c.length<=p.length:=by
 refine ⟨?_,nodup_len _ c h.nd h.rng⟩
 have:=h.ne
 cases c with
 | nil=>exact absurd rfl this
 | cons _ _=>simp
theorem getD_mem {c:List Int}{i:Nat}(h:i<c.length):c.getD i 0 ∈ c:=by simp [h]
theorem Way.yrng {p:List Int}{x y:Int}{c:List Int}(hp:Prm p)(h:Way p x c y):0<=y/\y<p.length:=by
 have hl:=h.len
 have:=h.rng _ (getD_mem (show c.length - 1<c.length by omega))
 rw [h.last]
 exact (prm_range hp).1 _ (by omega)
theorem Way.back {p:List Int}{x y:Int}{c:List Int}(hp:Prm p)(h:Way p x c y)(hy:y ∈ c):y=x:=by
 have hl:=h.len
 obtain ⟨i,hi,e⟩:=pos_ex hy
 by_cases h0:i=0
 ·subst h0;rw [<- e,h.head]
 ·have h1:=h.step (i - 1) (by omega)
  rw [show i - 1+1=i from by omega,e,h.last] at h1
  have r1:=h.rng _ (getD_mem (show c.length - 1<c.length by omega))
  have r2:=h.rng _ (getD_mem (show i - 1<c.length by omega))
  have:=(prm_range hp).2 _ _ (by omega) (by omega) h1
  have e2:c.getD (c.length - 1) 0=c.getD (i - 1) 0:=by omega
  have nd:=h.nd
  rw [List.Nodup,List.pairwise_iff_getElem] at nd
  simp only [List.getD_eq_getElem?_getD,List.getElem?_eq_getElem (show c.length - 1<c.length by omega),List.getElem?_eq_getElem (show i - 1<c.length by omega),Option.getD_some] at e2
  exact absurd e2.symm (nd (i - 1) (c.length - 1) (by omega) (by omega) (by omega))
set_option linter.unusedVariables false in
theorem Way.first {p:List Int}(hp:Prm p){x:Nat}(hx:x<p.length):Way p (x:Int) [(x:Int)] (p.getD x 0) :=
 ⟨fun z hz=>by simp at hz;omega,by simp,by simp,rfl,fun i hi=>by simp at hi,by simp,by simp [cycC]⟩
set_option linter.unusedVariables false in
theorem Way.next {p:List Int}{x y:Int}{c:List Int}(hp:Prm p)(h:Way p x c y)(hy:y ≠ x):Way p x (c ++ [y]) (p.getD y.toNat 0):=by
 have hl:=h.len
 have hyr:=h.yrng hp
 have hni:y ∉ c:=fun hm=>hy (h.back hp hm)
 have hnd:(c ++ [y]).Nodup:=List.nodup_append.2 ⟨h.nd,by simp,fun a ha b hb e=>by simp at hb;subst hb;exact hni (e ▸ ha)⟩
 have hlen:=nodup_len p.length (c ++ [y]) hnd (fun z hz=>by
  rcases List.mem_append.1 hz with g | g
  ·exact h.rng z g
  ·simp at g;rw [g];exact hyr)
 simp only [List.length_append,List.length_cons,List.length_nil] at hlen
 have at1:∀ i,i<c.length->(c ++ [y]).getD i 0=c.getD i 0:=fun i hi=>by
  rw [List.getD_eq_getElem?_getD,List.getD_eq_getElem?_getD,List.getElem?_append_left hi]
 have at2:(c ++ [y]).getD c.length 0=y:=by
  rw [List.getD_eq_getElem?_getD,List.getElem?_append_right (Nat.le_refl _)];simp
 refine ⟨fun z hz=>?_,hnd,by simp,by rw [at1 0 (by omega)];exact h.head,fun i hi=>?_,?_,?_⟩
 ·rcases List.mem_append.1 hz with g | g
  ·exact h.rng z g
  ·simp at g;rw [g];exact hyr
 ·simp only [List.length_append,List.length_cons,List.length_nil] at hi
  by_cases c1:i+1<c.length
  ·rw [at1 _ c1,at1 _ (by omega)];exact h.step i c1
  ·have:i=c.length - 1:=by omega
   subst this
   rw [show c.length - 1+1=c.length from by omega,at2,at1 _ (by omega)]
   exact h.last
 ·simp only [List.length_append,List.length_cons,List.length_nil,Nat.add_sub_cancel]
  rw [at2]
 ·have:=h.tail
  obtain ⟨n,hn⟩:∃ n,p.length+1 - c.length=n+1:=⟨p.length - c.length,by omega⟩
  rw [hn] at this
  simp only [orb,if_neg hy] at this
  rw [this]
  simp only [List.length_append,List.length_cons,List.length_nil,List.append_assoc,List.cons_append,List.nil_append]
  rw [show p.length+1 - (c.length+(0+1))=n from by omega]
theorem Way.done {p:List Int}{x:Int}{c:List Int}(h:Way p x c x):c=cycC p x:=by
 rw [h.tail,orb_self,List.append_nil]
def Shut (p s:List Int):Prop:=(∀ z ∈ s,0<=z/\z<p.length)/\∀ z:Nat,z<p.length->p.getD z 0 ∈ s->(z:Int) ∈ s
theorem Way.out {p s:List Int}{x y:Int}{c:List Int}(h:Way p x c y)(hs:Shut p s)(hd:∀ z ∈ c,z ∉ s):y ∉ s:=by
 have hl:=h.len
 have hm:=getD_mem (show c.length - 1<c.length by omega)
 have r:=h.rng _ hm
 intro hy
 rw [h.last] at hy
 have:=hs.2 (c.getD (c.length - 1) 0).toNat (by omega) hy
 rw [show (((c.getD (c.length - 1) 0).toNat:Nat):Int)=c.getD (c.length - 1) 0 from by omega] at this
 exact hd _ hm this
theorem Way.shut {p s:List Int}{x:Int}{c:List Int}(hp:Prm p)(h:Way p x c x)(hs:Shut p s):Shut p (s ++ c):=by
 have hl:=h.len
 refine ⟨fun z hz=>(List.mem_append.1 hz).elim (hs.1 z) (h.rng z),fun z hz hm=>?_⟩
 rw [List.mem_append] at hm ⊢
 rcases hm with g | g
 ·exact .inl (hs.2 z hz g)
 ·right
  obtain ⟨i,hi,e⟩:=pos_ex g
  by_cases h0:i=0
  ·subst h0
   rw [h.head] at e
   have r:=h.rng _ (getD_mem (show c.length - 1<c.length by omega))
   have:=(prm_range hp).2 z (c.getD (c.length - 1) 0).toNat hz (by omega) (by rw [<- e];exact h.last)
   have e2:(z:Int)=c.getD (c.length - 1) 0:=by omega
   rw [e2];exact getD_mem (by omega)
  ·have h1:=h.step (i - 1) (by omega)
   rw [show i - 1+1=i from by omega,e] at h1
   have r:=h.rng _ (getD_mem (show i - 1<c.length by omega))
   have:=(prm_range hp).2 z (c.getD (i - 1) 0).toNat hz (by omega) h1
   have e2:(z:Int)=c.getD (i - 1) 0:=by omega
   rw [e2];exact getD_mem (by omega)
def ax (q:List Int)(x:Int):Int:=idxP (fun y=>decide (x=y)) q 0
theorem idxP_at (p:Int->Bool):∀ (xs:List Int) (k:Nat),xs.any p=true->∃ i:Nat,i<xs.length/\idxP p xs k=((k+i:Nat):Int)/\p (xs.getD i 0)=true
 | [],k,h=>by simp at h
 | x :: xs,k,h=>by
  by_cases hx:p x=true
  ·exact ⟨0,by simp,by simp [idxP,hx],by simpa using hx⟩
  ·have:xs.any p=true:=by simpa [hx] using h
   obtain ⟨i,h1,h2,h3⟩:=idxP_at p xs (k+1) this
   refine ⟨i+1,by simpa using h1,?_,by simpa using h3⟩
   rw [idxP,if_neg hx,h2]
   congr 1;omega
theorem ax_at {q:List Int}{x:Int}(h:x ∈ q):∃ i:Nat,i<q.length/\ax q x=(i:Int)/\q.getD i 0=x:=by
 obtain ⟨i,h1,h2,h3⟩:=idxP_at (fun y=>decide (x=y)) q 0 (by simpa using h)
 refine ⟨i,h1,by rw [ax,h2];congr 1;omega,?_⟩
 have:=of_decide_eq_true h3
 exact this.symm
def swp (p:List Int)(a b:Nat):List Int:=(p.set a (p.getD b 0)).set b (p.getD a 0)
theorem swp_len (p:List Int)(a b:Nat):(swp p a b).length=p.length:=by simp [swp]
theorem swp_at (p:List Int)(a b k:Nat)(ha:a<p.length)(hb:b<p.length)(hk:k<p.length):(swp p a b).getD k 0=if k=b then p.getD a 0 else if k=a then p.getD b 0 else p.getD k 0:=by
 unfold swp
 rw [List.getD_eq_getElem?_getD,List.getElem?_set]
 by_cases h1:b=k
 ·subst h1
  rw [if_pos rfl,if_pos (by simpa using hb),if_pos rfl];rfl
 ·rw [if_neg h1,if_neg (fun e=>h1 e.symm),List.getElem?_set]
  by_cases h2:a=k
  ·subst h2
   rw [if_pos rfl,if_pos ha,if_pos rfl];rfl
  ·rw [if_neg h2,if_neg (fun e=>h2 e.symm),<- List.getD_eq_getElem?_getD]
theorem mem_getD {q:List Int}{k:Nat}(h:k<q.length):q.getD k 0 ∈ q:=by simp [h]
theorem swp_prm {p:List Int}(h:Prm p){a b:Nat}(ha:a<p.length)(hb:b<p.length):Prm (swp p a b):=by
 refine ⟨by rw [swp_len];exact h.1,fun x hx=>?_⟩
 rw [swp_len] at hx
 obtain ⟨i,hi,e⟩:=pos_ex (h.2 x hx)
 have mk:∀ k,k<p.length->(swp p a b).getD k 0=x->(x:Int) ∈ swp p a b:=fun k hk e=>by
  rw [<- e];exact mem_getD (by rw [swp_len];exact hk)
 by_cases h1:i=a
 ·subst h1;exact mk b hb (by rw [swp_at p _ b b ha hb hb,if_pos rfl];exact e)
 ·by_cases h2:i=b
  ·subst h2
   by_cases h3:a=i
   ·exact absurd h3.symm h1
   ·exact mk a ha (by rw [swp_at p a _ a ha hb ha,if_neg h3,if_pos rfl];exact e)
  ·exact mk i hi (by rw [swp_at p a b i ha hb hi,if_neg h2,if_neg h1];exact e)
structure SrtOk (p:List Int) (x:Nat) (o:List (Int × Int)) (q:List Int):Prop where
 prm:Prm q
 len:q.length=p.length
 fix:∀ y,y<x->q.getD y 0=y
 few:o.length<=x
theorem SrtOk.place {p:List Int}{x:Nat}{o:List (Int × Int)}{q:List Int}(h:SrtOk p x o q)(hx:x<p.length):∃ i:Nat,x<=i/\i<p.length/\ax q x=(i:Int)/\q.getD i 0=x/\(q.getD x 0=x↔i=x):=by
 obtain ⟨i,h1,h2,h3⟩:=ax_at (h.prm.2 x (by rw [h.len];exact hx))
 have hl:=h.len
 refine ⟨i,?_,by omega,h2,h3,fun e=>?_,fun e=>by rw [<- e];rw [h3];rw [e]⟩
 ·by_cases hlt:i<x
  ·have:=h.fix i hlt
   omega
  ·omega
 ·exact (prm_range h.prm).2 i x h1 (by omega) (by rw [h3,e])
theorem SrtOk.next {p:List Int}{x i:Nat}{o:List (Int × Int)}{q:List Int}(h:SrtOk p x o q)(hx:x<p.length)(h1:x<=i)(h2:i<p.length)(h3:q.getD i 0=x)(hne:i ≠ x):SrtOk p (x+1) (o ++ [((x:Int),(i:Int))]) (swp q x i):=by
 have hl:=h.len
 refine ⟨swp_prm h.prm (by omega) (by omega),by rw [swp_len];exact hl,fun y hy=>?_,by have:=h.few;simp;omega⟩
 rw [swp_at q x i y (by omega) (by omega) (by omega),if_neg (by omega)]
 by_cases hc:y=x
 ·rw [if_pos hc,h3,hc]
 ·rw [if_neg hc];exact h.fix y (by omega)
def swOk (n:Nat)(s:Int × Int):Prop:=0<=s.1/\s.1<s.2/\s.2<n
instance (n:Nat) (s:Int × Int):Decidable (swOk n s):=inferInstanceAs (Decidable (_/\_))
def plcOk (p:List Int)(ss:List (Int × Int)):Prop:=Prm p/\∀ s ∈ ss,swOk p.length s
instance (p:List Int) (ss:List (Int × Int)):Decidable (plcOk p ss):=inferInstanceAs (Decidable (_/\_))
def cd50:Cd:=(.seq (.reg [⟨⟨some 2,.assign (.const (.slice none 0 0)),none⟩,[]⟩]) (.seq (.seq (.reg [⟨⟨some 3,.move (.tmp 0),none⟩,[]⟩,
 ⟨⟨some 4,.binOp .eql 27 (.tmp 3) (.const (.slice none 0 0)) 27,none⟩,[]⟩]) (.cond (.tmp 4) (.seq (.reg [⟨⟨some 2,.assign (.const (.slice none 0 0)),none⟩,[]⟩]) .ret) .skip)) (.seq (.reg [⟨⟨some 5,.buildSlice 27 0 #[],none⟩,[]⟩,
 ⟨⟨some 6,.move (.tmp 0),none⟩,[]⟩,
 ⟨⟨some 7,.call ⟨(.builtin .append),#[.tmp 5,.tmp 6],#[27,27]⟩,none⟩,[]⟩,
 ⟨⟨some 2,.assign (.tmp 7),none⟩,[]⟩]) .ret)))
theorem in50:InT Tryz.prog 50 1 [.tmp 2] cd50:=InT.mk (by kernel_rfl) [] Tryz.func50 rfl (by kernel_rfl) (by kernel_rfl) (of_decide_eq_true (by kernel_rfl)) (by kernel_rfl)
end Go.Proofs.YtlcipphiflcaiaaGreat.Ai
namespace Go.Proofs.YtlcipphiflcaiaaGreat.Ai
open Go Go.RowKit
theorem Clone_c (v:Value)(xs:List Int)(H:AH)(hr:Row 3 H v xs)(hlen:xs.length<=1099511627776):ACalls Tryz.prog 50 [v] H fun r H'=>Own 3 H H' r xs/\H<+:H':=by
 refine in50 rfl ?_
 intro Q hQ
 obtain ⟨p,e⟩:=hr.shape
 subst e
 simp (disch:=omega) only [cd50,SS,eq_self,reduceIte,reduceCtorEq,Nat.reduceEqDiff,Nat.reduceAdd]
 refine brH.intro (fun g=>?_) (fun g=>?_) <;> simp (disch:=omega) only [SS,eq_self,reduceIte,reduceCtorEq,Nat.reduceEqDiff,Nat.reduceAdd]
 ·refine hQ _ _ _ ?_
  simp (disch:=omega) only [SS,eq_self,reduceIte,reduceCtorEq,Nat.reduceEqDiff,Nat.reduceAdd]
  have:xs=[]:=by
   rcases hr with h | ⟨o,k,vs,ro,h1,_⟩
   ·exact h.2
   ·cases p with
    | none=>cases h1
    | some p=>cases g
  exact ⟨.inl ⟨rfl,this⟩,List.prefix_refl _⟩
 ·have hp:=List.prefix_append H [AObj.cells [] 3 false]
  have ho:Own 3 H (H ++ [AObj.cells [] 3 false]) (.slice (some ⟨H.length,0,none⟩) 0 0) []:=.inr ⟨H.length,rfl,Nat.le_refl _,at_new ..⟩
  obtain ⟨v',H2,k1,k2,k3,_⟩:=ho.app (P:=Tryz.prog) (t:=27) Tryz.underlying27 cs3 (by rw [by3];decide) zk3 (hr.pre hp) hp (by simp;omega)
  simp (disch:=omega) only [k1,SS,eq_self,reduceIte,reduceCtorEq,Nat.reduceEqDiff,Nat.reduceAdd]
  refine hQ _ _ _ ?_
  simp (disch:=omega) only [k2.row.tup,SS,eq_self,reduceIte,reduceCtorEq,Nat.reduceEqDiff,Nat.reduceAdd]
  exact ⟨k2,k3⟩
def cd117:Cd:=(.seq (.reg [⟨⟨some 2,.assign (.const (.slice none 0 0)),none⟩,[]⟩]) (.seq (.reg [⟨⟨some 3,.buildSlice 27 0 #[],none⟩,[]⟩,
 ⟨⟨some 4,.move (.tmp 0),none⟩,[]⟩,
 ⟨⟨some 5,.call ⟨(.builtin .append),#[.tmp 3,.tmp 4],#[27,27]⟩,none⟩,[]⟩,
 ⟨⟨some 2,.assign (.tmp 5),none⟩,[]⟩]) .ret))
theorem in117:InT Tryz.prog 117 1 [.tmp 2] cd117:=InT.mk (by kernel_rfl) [] Tryz.func117 rfl (by kernel_rfl) (by kernel_rfl) (of_decide_eq_true (by kernel_rfl)) (by kernel_rfl)
end Go.Proofs.YtlcipphiflcaiaaGreat.Ai
namespace Go.Proofs.YtlcipphiflcaiaaGreat.Ai
open Go Go.RowKit
theorem l1Own_c (v:Value)(xs:List Int)(H:AH)(hr:Row 3 H v xs)(hlen:xs.length<=1099511627776):ACalls Tryz.prog 117 [v] H fun r H'=>Own 3 H H' r xs/\H<+:H':=by
 refine in117 rfl ?_
 intro Q hQ
 simp (disch:=omega) only [cd117,SS,eq_self,reduceIte,reduceCtorEq,Nat.reduceEqDiff,Nat.reduceAdd]
 have hp:=List.prefix_append H [AObj.cells [] 3 false]
 have ho:Own 3 H (H ++ [AObj.cells [] 3 false]) (.slice (some ⟨H.length,0,none⟩) 0 0) []:=.inr ⟨H.length,rfl,Nat.le_refl _,at_new ..⟩
 obtain ⟨v',H2,k1,k2,k3,_⟩:=ho.app (P:=Tryz.prog) (t:=27) Tryz.underlying27 cs3 (by rw [by3];decide) zk3 (hr.pre hp) hp (by simp;omega)
 simp (disch:=omega) only [k1,SS,eq_self,reduceIte,reduceCtorEq,Nat.reduceEqDiff,Nat.reduceAdd]
 refine hQ _ _ _ ?_
 simp (disch:=omega) only [k2.row.tup,SS,eq_self,reduceIte,reduceCtorEq,Nat.reduceEqDiff,Nat.reduceAdd]
 exact ⟨k2,k3⟩
def cd135:Cd:=(.seq (.reg [⟨⟨some 4,.alloc 26,none⟩,[]⟩]) (.seq (.reg [⟨⟨some 11,.move (.tmp 0),none⟩,[]⟩,⟨⟨some 12,.buildSlice 27 7 #[(0,(.const (.int .i64 4))),(1,(.const (.int .i64 5))),(2,(.const (.int .i64 3))),(3,(.const (.int .i64 6))),(4,(.const (.int .i64 2))),(5,(.const (.int .i64 1))),(6,(.const (.int .i64 0)))],none⟩,[]⟩,⟨⟨some 13,.call ⟨(.value (.func 108)),#[.tmp 11,.tmp 12],#[64,27]⟩,none⟩,[]⟩,⟨⟨some 5,.assign (.tmp 13),none⟩,[]⟩]) (.seq (.seq (.reg [⟨⟨some 14,.move (.tmp 1),none⟩,[]⟩,⟨⟨some 15,.binOp .gtr 3 (.tmp 14) (.const (.int .i64 6)) 3,none⟩,[]⟩,⟨⟨some 16,.move (.tmp 15),none⟩,[]⟩,⟨⟨some 17,.move (.tmp 0),some (16,true)⟩,[]⟩,⟨⟨some 18,.call ⟨(.value (.func 86)),#[.tmp 17,(.const (.int .i64 4))],#[64,3]⟩,some (16,true)⟩,[]⟩,⟨⟨some 19,.pick (.tmp 16) (.tmp 18) (.const (.bool false)),none⟩,[]⟩]) (.cond (.tmp 19) (.reg [⟨⟨some 20,.move (.tmp 0),none⟩,[]⟩,⟨⟨some 21,.call ⟨(.value (.func 107)),#[.tmp 20,(.const (.int .i64 2))],#[64,3]⟩,none⟩,[]⟩,⟨⟨some 22,.binOp .add 3 (.const (.int .i64 7)) (.tmp 21) 3,none⟩,[]⟩,⟨⟨some 5,.assign (.tmp 22),none⟩,[]⟩]) .skip)) (.seq (.reg [⟨⟨some 23,.move (.tmp 5),none⟩,[]⟩,
 ⟨⟨some 24,.move (.tmp 1),none⟩,[]⟩,⟨⟨some 25,.call ⟨(.value (.func 158)),#[.tmp 23,.tmp 24],#[3,3]⟩,none⟩,[]⟩,⟨⟨some 5,.assign (.tmp 25),none⟩,[]⟩]) (.seq (.reg [⟨⟨some 26,.move (.tmp 5),none⟩,[]⟩,⟨⟨some 27,.buildSlice 24 0 #[],none⟩,[]⟩,⟨⟨some 28,.build 26 #[(0,.tmp 26),(1,.tmp 27)],none⟩,[]⟩,⟨⟨some 29,.move (.tmp 0),none⟩,[]⟩,⟨⟨some 30,.buildSlice 27 4 #[(0,(.const (.int .i64 1))),(1,(.const (.int .i64 3))),(2,(.const (.int .i64 4))),(3,(.const (.int .i64 6)))],none⟩,[]⟩,⟨⟨some 31,.call ⟨(.value (.func 108)),#[.tmp 29,.tmp 30],#[64,27]⟩,none⟩,[]⟩,⟨⟨some 32,.move (.tmp 0),none⟩,[]⟩,⟨⟨some 33,.call ⟨(.value (.func 86)),#[.tmp 32,(.const (.int .i64 5))],#[64,3]⟩,none⟩,[]⟩,⟨⟨some 6,.alloc 26,none⟩,[]⟩,⟨⟨none,.store 26 (.tmp 6) (.tmp 28),none⟩,[]⟩,
 ⟨⟨some 7,.assign (.tmp 31),none⟩,[]⟩,⟨⟨some 8,.assign (.tmp 33),none⟩,[]⟩]) (.seq (.seq (.reg [⟨⟨some 9,.assign (.const (.int .i64 0)),none⟩,[]⟩]) (.block 0 (.loop (.seq (.seq (.reg [⟨⟨some 34,.move (.tmp 9),none⟩,[]⟩,⟨⟨some 35,.move (.tmp 5),none⟩,[]⟩,⟨⟨some 36,.binOp .lss 3 (.tmp 34) (.tmp 35) 3,none⟩,[]⟩]) (.cond (.tmp 36) .skip (.exit 0))) (.seq (.block 1 (.seq (.seq (.reg [⟨⟨some 39,.move (.tmp 9),none⟩,[]⟩,⟨⟨some 40,.binOp .add 3 (.tmp 39) (.const (.int .i64 1)) 3,none⟩,[]⟩,⟨⟨some 10,.assign (.tmp 40),none⟩,[]⟩]) (.block 2 (.loop (.seq (.seq (.reg [⟨⟨some 41,.move (.tmp 10),none⟩,[]⟩,⟨⟨some 42,.move (.tmp 5),none⟩,[]⟩,⟨⟨some 43,.binOp .lss 3 (.tmp 41) (.tmp 42) 3,none⟩,[]⟩]) (.cond (.tmp 43) .skip (.exit 2))) (.seq (.block 3 (.seq (.reg [⟨⟨some 46,.move (.tmp 0),none⟩,[]⟩,⟨⟨some 47,.move (.tmp 7),none⟩,[]⟩,⟨⟨some 48,.call ⟨(.value (.func 107)),#[.tmp 46,.tmp 47],#[64,3]⟩,none⟩,[]⟩,⟨⟨some 49,.binOp .eql 3 (.tmp 48) (.const (.int .i64 0)) 3,none⟩,[]⟩]) (.cond (.tmp 49) (.reg [⟨⟨some 50,.fieldAddr 26 (.tmp 6) 1,none⟩,[]⟩,⟨⟨some 51,.load 24 (.tmp 50),none⟩,[]⟩,
 ⟨⟨some 52,.move (.tmp 9),none⟩,[]⟩,⟨⟨some 53,.move (.tmp 10),none⟩,[]⟩,⟨⟨some 54,.build 115 #[(0,.tmp 52),(1,.tmp 53)],none⟩,[]⟩,⟨⟨some 55,.call ⟨(.value (.func 109)),#[.tmp 51,.tmp 54],#[24,115]⟩,none⟩,[]⟩,⟨⟨some 56,.fieldAddr 26 (.tmp 6) 1,none⟩,[]⟩,⟨⟨none,.store 24 (.tmp 56) (.tmp 55),none⟩,[]⟩]) .skip))) (.reg [⟨⟨some 44,.move (.tmp 10),none⟩,[]⟩,⟨⟨some 45,.binOp .add 3 (.tmp 44) (.const (.int .i64 1)) 3,none⟩,[]⟩,⟨⟨some 10,.assign (.tmp 45),none⟩,[]⟩])))))) (.seq (.reg [⟨⟨some 57,.move (.tmp 9),none⟩,[]⟩,⟨⟨some 58,.binOp .gtr 3 (.tmp 57) (.const (.int .i64 0)) 3,none⟩,[]⟩,⟨⟨some 59,.move (.tmp 58),none⟩,[]⟩,⟨⟨some 60,.move (.tmp 8),some (59,true)⟩,[]⟩,⟨⟨some 61,.unOp .not 4 (.tmp 60),some (59,true)⟩,[]⟩,
 ⟨⟨some 62,.pick (.tmp 59) (.tmp 61) (.const (.bool false)),none⟩,[]⟩]) (.cond (.tmp 62) (.reg [⟨⟨some 63,.fieldAddr 26 (.tmp 6) 1,none⟩,[]⟩,⟨⟨some 64,.load 24 (.tmp 63),none⟩,[]⟩,⟨⟨some 65,.move (.tmp 0),none⟩,[]⟩,⟨⟨some 66,.move (.tmp 9),none⟩,[]⟩,⟨⟨some 68,.move (.tmp 9),none⟩,[]⟩,⟨⟨some 67,.call ⟨(.value (.func 107)),#[.tmp 65,.tmp 66],#[64,3]⟩,none⟩,[⟨some 64,.load 24 (.tmp 63),none⟩]⟩,⟨⟨some 69,.build 115 #[(0,.tmp 67),(1,.tmp 68)],none⟩,[]⟩,⟨⟨some 70,.call ⟨(.value (.func 109)),#[.tmp 64,.tmp 69],#[24,115]⟩,none⟩,[]⟩,⟨⟨some 71,.fieldAddr 26 (.tmp 6) 1,none⟩,[]⟩,⟨⟨none,.store 24 (.tmp 71) (.tmp 70),none⟩,[]⟩]) .skip)))) (.reg [⟨⟨some 37,.move (.tmp 9),none⟩,[]⟩,⟨⟨some 38,.binOp .add 3 (.tmp 37) (.const (.int .i64 1)) 3,none⟩,[]⟩,⟨⟨some 9,.assign (.tmp 38),none⟩,[]⟩])))))) (.seq (.seq (.reg [⟨⟨some 72,.move (.tmp 0),none⟩,[]⟩,
 ⟨⟨some 73,.call ⟨(.value (.func 107)),#[.tmp 72,(.const (.int .i64 50))],#[64,3]⟩,none⟩,[]⟩]) (.block 4 (.seq (.reg [⟨⟨some 75,.binOp .eql 3 (.tmp 73) (.const (.int .i64 0)) 3,none⟩,[]⟩,⟨⟨some 74,.assign (.tmp 75),none⟩,[]⟩]) (.cond (.tmp 74) (.reg [⟨⟨some 76,.move (.tmp 0),none⟩,[]⟩,⟨⟨some 77,.buildSlice 27 5 #[(0,(.const (.int .i64 (-1)))),(1,(.const (.int .i64 8))),(2,(.const (.int .i64 9))),(3,(.const (.int .i64 0))),(4,(.const (.int .i64 4611686018427387904)))],none⟩,[]⟩,⟨⟨some 78,.call ⟨(.value (.func 108)),#[.tmp 76,.tmp 77],#[64,27]⟩,none⟩,[]⟩,⟨⟨some 79,.fieldAddr 26 (.tmp 6) 0,none⟩,[]⟩,⟨⟨none,.store 3 (.tmp 79) (.tmp 78),none⟩,[]⟩]) (.seq (.reg [⟨⟨some 81,.binOp .eql 3 (.tmp 73) (.const (.int .i64 1)) 3,none⟩,[]⟩,⟨⟨some 80,.assign (.tmp 81),none⟩,[]⟩]) (.cond (.tmp 80) (.reg [⟨⟨some 82,.fieldAddr 26 (.tmp 6) 1,none⟩,[]⟩,⟨⟨some 83,.load 24 (.tmp 82),none⟩,[]⟩,⟨⟨some 84,.move (.tmp 0),none⟩,[]⟩,⟨⟨some 86,.move (.tmp 0),none⟩,[]⟩,⟨⟨some 85,.call ⟨(.value (.func 107)),#[.tmp 84,(.const (.int .i64 4))],#[64,3]⟩,none⟩,[⟨some 83,.load 24 (.tmp 82),none⟩]⟩,⟨⟨some 87,.call ⟨(.value (.func 107)),#[.tmp 86,(.const (.int .i64 9))],#[64,3]⟩,none⟩,[⟨some 83,.load 24 (.tmp 82),none⟩]⟩,
 ⟨⟨some 88,.binOp .sub 3 (.tmp 87) (.const (.int .i64 1)) 3,none⟩,[]⟩,⟨⟨some 89,.build 115 #[(0,.tmp 85),(1,.tmp 88)],none⟩,[]⟩,⟨⟨some 90,.buildSlice 24 1 #[(0,.tmp 89)],none⟩,[]⟩,⟨⟨some 91,.call ⟨(.builtin .append),#[.tmp 83,.tmp 90],#[24,24]⟩,none⟩,[]⟩,⟨⟨some 92,.fieldAddr 26 (.tmp 6) 1,none⟩,[]⟩,⟨⟨none,.store 24 (.tmp 92) (.tmp 91),none⟩,[]⟩]) (.seq (.reg [⟨⟨some 94,.binOp .eql 3 (.tmp 73) (.const (.int .i64 2)) 3,none⟩,[]⟩,⟨⟨some 93,.assign (.tmp 94),none⟩,[]⟩]) (.cond (.tmp 93) (.seq (.reg [⟨⟨some 95,.fieldAddr 26 (.tmp 6) 1,none⟩,[]⟩,⟨⟨some 96,.load 24 (.tmp 95),none⟩,[]⟩,⟨⟨some 97,.call ⟨(.builtin .len),#[.tmp 96],#[24]⟩,none⟩,[]⟩,⟨⟨some 98,.binOp .gtr 3 (.tmp 97) (.const (.int .i64 0)) 3,none⟩,[]⟩]) (.cond (.tmp 98) (.reg [⟨⟨some 99,.fieldAddr 26 (.tmp 6) 1,none⟩,[]⟩,⟨⟨some 100,.load 24 (.tmp 99),none⟩,[]⟩,⟨⟨some 101,.fieldAddr 26 (.tmp 6) 1,none⟩,[]⟩,
 ⟨⟨some 102,.load 24 (.tmp 101),none⟩,[]⟩,⟨⟨some 103,.move (.tmp 0),none⟩,[]⟩,⟨⟨some 104,.fieldAddr 26 (.tmp 6) 1,none⟩,[]⟩,⟨⟨some 105,.load 24 (.tmp 104),none⟩,[]⟩,⟨⟨some 106,.call ⟨(.builtin .len),#[.tmp 105],#[24]⟩,none⟩,[]⟩,⟨⟨some 107,.call ⟨(.value (.func 107)),#[.tmp 103,.tmp 106],#[64,3]⟩,none⟩,[⟨some 102,.load 24 (.tmp 101),none⟩,⟨some 100,.load 24 (.tmp 99),none⟩]⟩,⟨⟨some 108,.indexAddr 24 (.tmp 102) (.tmp 107),none⟩,[]⟩,⟨⟨some 109,.load 115 (.tmp 108),none⟩,[]⟩,⟨⟨some 110,.buildSlice 24 1 #[(0,.tmp 109)],none⟩,[]⟩,⟨⟨some 111,.call ⟨(.builtin .append),#[.tmp 100,.tmp 110],#[24,24]⟩,none⟩,[]⟩,⟨⟨some 112,.fieldAddr 26 (.tmp 6) 1,none⟩,[]⟩,⟨⟨none,.store 24 (.tmp 112) (.tmp 111),none⟩,[]⟩]) .skip)) .skip)))))))) (.seq (.reg [⟨⟨some 113,.load 26 (.tmp 6),none⟩,[]⟩,
 ⟨⟨none,.store 26 (.tmp 4) (.tmp 113),none⟩,[]⟩]) .ret))))))))
theorem in135:InT Tryz.prog 135 2 [.cell 4 26] cd135:=InT.mk (by kernel_rfl) [(15,[(0,false),(1,false),(2,false),(3,false),(5,false),(4,true),(6,false),(7,true),(8,false),(9,true)]),(20,[(0,false),(1,false),(2,false),(4,false),(3,true),(5,true),(6,false),(7,false),(8,false),(9,true),(10,false),(11,true)]),(23,[(0,false),(1,false),(2,false),(3,false),(4,false),(5,false),(6,false),(7,false),(8,true),(9,false),(10,false),(11,false),(12,true),(13,false),(14,true)])] Tryz.func135 rfl (by kernel_rfl) (by kernel_rfl) (of_decide_eq_true (by kernel_rfl)) (by kernel_rfl)
end Go.Proofs.YtlcipphiflcaiaaGreat.Ai
namespace Go.Proofs.YtlcipphiflcaiaaGreat.Ai
open Go Go.RowKit
def Sml (ps:List (Int × Int)):Prop:=∀ y ∈ ps,(-1<=y.1/\y.1<=9) /\ -1<=y.2/\y.2<=9
def GSt (H:AH)(o gp:Nat)(v:Value)(us:List Value)(N L:Nat)(H':AH):Prop :=
 ∃ (n:Int) (w:Value) (ps:List (Int × Int)),H'[H.length]?=some (.cells [.int .i64 0,.slice none 0 0] 26 false)/\H'[gp]?=some (.cells [.int .i64 n,w] 26 false)/\MineP 115 H H' w ps/\rowO w ≠ gp/\(rowO w ≠ H.length∨w=.slice none 0 0)/\I64 n/\ps.length<=L/\Sml ps/\Cur H' o v us N/\Keeps o H H'
theorem MineP.onlyP {e:TypeId}{H0 H H':AH}{o:Nat}{v:Value}{ps:List (Int × Int)}(h:MineP e H0 H v ps)(hk:OnlyO o H H')(ho:o<H0.length):MineP e H0 H' v ps:=h.keepsP hk.keeps ho
theorem GSt.cur {H:AH}{o gp:Nat}{v:Value}{us:List Value}{N M L:Nat}{H' K:AH}(h:GSt H o gp v us N L H')(ho:o<H.length)(hg:o ≠ gp)(hk:OnlyO o H' K)(hc:Cur K o v us M):GSt H o gp v us M L K:=by
 obtain ⟨n,w,ps,h1,h2,h3,h4,h5,h6,h7,h8,h9,h10⟩:=h
 exact ⟨n,w,ps,hk.2 _ _ (by omega) h1,hk.2 _ _ (fun e=>hg e.symm) h2,h3.onlyP hk ho,h4,h5,h6,h7,h8,hc,h10.trans hk.keeps⟩
theorem GSt.pre {H:AH}{o gp:Nat}{v:Value}{us:List Value}{N L:Nat}{H' K:AH}(h:GSt H o gp v us N L H')(hp:H'<+:K):GSt H o gp v us N L K:=by
 obtain ⟨n,w,ps,h1,h2,h3,h4,h5,h6,h7,h8,h9,h10⟩:=h
 exact ⟨n,w,ps,pre_at hp h1,pre_at hp h2,h3.pre hp,h4,h5,h6,h7,h8,h9.pre hp,h10.trans (.of_pre hp)⟩
theorem GSt.more {H:AH}{o gp:Nat}{v:Value}{us:List Value}{N L N' L':Nat}{H':AH}(h:GSt H o gp v us N L H')(hN:N<=N')(hL:L<=L'):GSt H o gp v us N' L' H':=by
 obtain ⟨n,w,ps,h1,h2,h3,h4,h5,h6,h7,h8,h9,h10⟩:=h
 exact ⟨n,w,ps,h1,h2,h3,h4,h5,h6,by omega,h8,h9.more hN,h10⟩
theorem MineP.low {e:TypeId}{H0 H:AH}{v:Value}{ps:List (Int × Int)}(h:MineP e H0 H v ps):v=.slice none 0 0∨H0.length<=rowO v:=by
 rcases h with h | ⟨o,zs,h1,h2,_⟩
 ·exact .inl h.1
 ·exact .inr (by rw [h1];exact h2)
theorem GSt.put {H:AH}{o gp:Nat}{v:Value}{us:List Value}{N M:Nat}{H' K:AH}{n z:Int}{w w2:Value}{ps qs:List (Int × Int)}{N0:Nat}(hv:Cur H o v us N0)(ho:o<H.length)(hg:H.length<gp)
  (h1:H'[H.length]?=some (.cells [.int .i64 0,.slice none 0 0] 26 false))(h2:H'[gp]?=some (.cells [.int .i64 n,w] 26 false))(h3:MineP 115 H H' w ps)(h3g:rowO w ≠ gp)(h3r:rowO w ≠ H.length∨w=.slice none 0 0)(hk:Kept w H' K)(hl:H'.length<=K.length)
  (h4:MineP 115 H K w2 qs)(h5:rowO w2 ≠ gp)(h5b:rowO w2 ≠ H.length∨w2=.slice none 0 0)(h6:I64 z)(h7:qs.length<=M)(h8:Sml qs)(h9:Cur H' o v us N)(h10:Keeps o H H') :
  GSt H o gp v us N M (K.set gp (.cells [.int .i64 z,w2] 26 false)):=by
 have low:=h3.low
 have hk':∀ {j:Nat} {y:AObj},(w=.slice none 0 0∨j ≠ rowO w)->H'[j]?=some y->K[j]?=some y:=fun hj hy=>hk _ _ hj hy
 have kg:=hk' (j:=gp) (.inr fun e=>h3g e.symm) h2
 have hgl:=at_lt kg
 have at_:∀ {j:Nat} {y:AObj},j ≠ gp->K[j]?=some y->(K.set gp (.cells [.int .i64 z,w2] 26 false))[j]?=some y:=fun hj hy=>by rw [List.getElem?_set_ne (fun e=>hj e.symm)];exact hy
 have old:∀ {j:Nat} {y:AObj},j<H.length->H'[j]?=some y->(K.set gp (.cells [.int .i64 z,w2] 26 false))[j]?=some y:=fun {j y} hj hy=>at_ (by omega) (hk' (by
  rcases low with e | e
  ·exact .inl e
  ·exact .inr (by omega)) hy)
 obtain ⟨a,sd,c1,c2,c3⟩:=h9.cur
 refine ⟨z,w2,qs,at_ (by omega) (hk' (by
  rcases h3r with e | e
  ·exact .inr fun q=>e q.symm
  ·exact .inl e) h1),List.getElem?_set_self hgl,h4.keep fun y hy=>at_ h5 hy,h5,h5b,h6,h7,h8,⟨⟨a,sd,old ho c1,c2,c3⟩,h9.row.mono fun y hy=>old ?_ hy,h9.byt,h9.ap,h9.le⟩,⟨by have:=h10.1;simp;omega,fun j y hj hy=>old (at_lt hy) (h10.2 j y hj hy)⟩⟩
 rcases hv.row with q | ⟨o',k',vs',ro',e1,g2,_⟩
 ·rw [q.1]
  show (0:Nat)<H.length
  omega
 ·rw [e1]
  exact at_lt g2
theorem someGraph_c {H:AH}{o:Nat}{v:Value}{us:List Value}{N:Nat}(h:Cur H o v us N)(hN:N<=100000000)(most:Int)(hmost:0<=most/\most<=8) :
  ACalls Tryz.prog 135 [.pointer (some ⟨o,0,none⟩),.int .i64 most] H fun r H'=>∃ (n:Int) (w:Value) (ps:List (Int × Int)),r=.agg (List.toArray [.int .i64 n,w])/\MineP 115 H H' w ps/\I64 n/\ps.length<=200/\Sml ps/\Cur H' o v us (N+1000)/\Keeps o H H':=by
 have ho:o<H.length:=by
  obtain ⟨_,_,g,_⟩:=h.cur
  exact at_lt g
 refine in135 rfl ?_
 intro Q hQ
 rw [cd135]
 generalize hA:H ++ [AObj.cells [.int .i64 0,.slice none 0 0] 26 false]=A
 have pA:H<+:A:=by rw [<- hA];exact List.prefix_append _ _
 have cA:A[H.length]?=some (.cells [.int .i64 0,.slice none 0 0] 26 false):=by rw [<- hA];exact at_new ..
 have lA:A.length=H.length+1:=by rw [<- hA];simp
 have al:=alloc_G H
 rw [hA] at al
 refine cutC (fun s K=>A=K/\s 0=.pointer (some ⟨o,0,none⟩)/\s 1=.int .i64 most/\s 4=.pointer (some ⟨H.length,0,none⟩)) (fun c hc=>?_) ?_
 ·simp (disch:=omega) only [al,SS,eq_self,reduceIte,reduceCtorEq,Nat.reduceEqDiff,Nat.reduceAdd]
  exact hc _ _ ⟨rfl,rfl,rfl,rfl⟩
 rintro s _ ⟨rfl,s0,s1,s4⟩
 have hCA:=h.pre pA
 have blK1:∀ H0:AH,buildSliceA Tryz.prog 27 7 [(0,.int .i64 4),(1,.int .i64 5),(2,.int .i64 3),(3,.int .i64 6),(4,.int .i64 2),(5,.int .i64 1),(6,.int .i64 0)] H0=some (.slice (some ⟨H0.length,0,none⟩) 7 7,H0 ++ [.cells [.int .i64 4,.int .i64 5,.int .i64 3,.int .i64 6,.int .i64 2,.int .i64 1,.int .i64 0] 3 false]):=fun H0=>by kernel_rfl
 refine cutC (fun s K=>s 0=.pointer (some ⟨o,0,none⟩)/\s 1=.int .i64 most/\s 4=.pointer (some ⟨H.length,0,none⟩)/\(∃ n:Int,s 5=.int .i64 n/\0<=n/\n<=8)/\Cur K o v us (N+1)/\Keeps o A K) (fun c hc=>?_) ?_
 ·simp (disch:=omega) only [s0,s1,s4,blK1,SS,eq_self,reduceIte,reduceCtorEq,Nat.reduceEqDiff,Nat.reduceAdd]
  generalize hK1:A ++ [AObj.cells [.int .i64 4,.int .i64 5,.int .i64 3,.int .i64 6,.int .i64 2,.int .i64 1,.int .i64 0] 3 false]=K1
  have pK1:A<+:K1:=by rw [<- hK1];exact List.prefix_append _ _
  have aK1:K1[A.length]?=some (.cells [.int .i64 4,.int .i64 5,.int .i64 3,.int .i64 6,.int .i64 2,.int .i64 1,.int .i64 0] 3 false):=by rw [<- hK1];exact at_new ..
  have wK1:Row 3 K1 (.slice (some ⟨A.length,0,none⟩) 7 7) [4,5,3,6,2,1,0]:=.inr ⟨A.length,0,_,false,rfl,aK1,by simp,rfl⟩
  refine CallH.by (among_c (hCA.pre pK1) (by omega) wK1 (by show A.length ≠ o;omega) (by simp)) ?_
  rintro _ L ⟨⟨x,rfl,hx⟩,hCL,oL⟩
  simp (disch:=omega) only [s0,s1,s4,SS,eq_self,reduceIte,reduceCtorEq,Nat.reduceEqDiff,Nat.reduceAdd]
  exact hc _ _ ⟨s0,s1,s4,⟨x,rfl,by simp at hx;omega⟩,hCL,(Keeps.of_pre pK1).trans oL.keeps⟩
 clear s0 s1 s4 hCA s
 rintro s B ⟨s0,s1,s4,⟨n0,s5,hn0⟩,hCB,kB⟩
 refine cutC (fun s K=>s 0=.pointer (some ⟨o,0,none⟩)/\s 1=.int .i64 most/\s 4=.pointer (some ⟨H.length,0,none⟩)/\(∃ n:Int,s 5=.int .i64 n/\0<=n/\n<=8)/\Cur K o v us (N+3)/\Keeps o A K) (fun c hc=>?_) ?_
 ·simp (disch:=omega) only [s0,s1,s4,s5,SS,eq_self,reduceIte,reduceCtorEq,Nat.reduceEqDiff,Nat.reduceAdd]
  by_cases g:(6:Int)<most
  ·simp (disch:=omega) only [decide_eq_true g,s0,SS,eq_self,reduceIte,reduceCtorEq,Nat.reduceEqDiff,Nat.reduceAdd]
   refine CallH.by (one_c hCB (by omega) 4 (by omega)) ?_
   rintro _ K ⟨⟨b,rfl⟩,hCK,oK⟩
   simp (disch:=omega) only [SS,eq_self,reduceIte,reduceCtorEq,Nat.reduceEqDiff,Nat.reduceAdd]
   cases b with
   | true =>
    refine brH.intro (fun _=>?_) (fun q=>by cases q)
    simp (disch:=omega) only [s0,SS,eq_self,reduceIte,reduceCtorEq,Nat.reduceEqDiff,Nat.reduceAdd]
    refine CallH.by (pick_c hCK (by omega) 2 (by omega)) ?_
    rintro _ L ⟨⟨k,rfl,hk⟩,hCL,oL⟩
    simp (disch:=omega) only [wrap64,SS,eq_self,reduceIte,reduceCtorEq,Nat.reduceEqDiff,Nat.reduceAdd]
    exact hc _ _ ⟨s0,s1,s4,⟨7+(k:Int),rfl,by omega⟩,hCL,kB.trans (oK.keeps.trans oL.keeps)⟩
   | false =>
    refine brH.intro (fun q=>by cases q) (fun _=>?_)
    simp (disch:=omega) only [SS,eq_self,reduceIte,reduceCtorEq,Nat.reduceEqDiff,Nat.reduceAdd]
    exact hc _ _ ⟨s0,s1,s4,⟨n0,s5,hn0⟩,hCK.more (by omega),kB.trans oK.keeps⟩
  ·simp (disch:=omega) only [decide_eq_false g,SS,eq_self,reduceIte,reduceCtorEq,Nat.reduceEqDiff,Nat.reduceAdd]
   exact hc _ _ ⟨s0,s1,s4,⟨n0,s5,hn0⟩,hCB.more (by omega),kB⟩
 clear s0 s1 s4 s5 hCB kB s B hn0 n0
 rintro s B ⟨s0,s1,s4,⟨n0,s5,hn0⟩,hCB,kB⟩
 refine cutC (fun s K=>B=K/\s 0=.pointer (some ⟨o,0,none⟩)/\s 4=.pointer (some ⟨H.length,0,none⟩)/\(∃ n:Nat,s 5=.int .i64 (n:Int)/\n<=8)) (fun c hc=>?_) ?_
 ·simp (disch:=omega) only [s0,s1,s4,s5,SS,eq_self,reduceIte,reduceCtorEq,Nat.reduceEqDiff,Nat.reduceAdd]
  refine CallH.by (l1Least_c n0 most B) ?_
  rintro _ _ ⟨rfl,rfl⟩
  obtain ⟨m,hm,hm8⟩:∃ m:Nat,(if n0<most then n0 else most)=(m:Int)/\m<=8:=by
   split
   ·exact ⟨n0.toNat,by omega,by omega⟩
   ·exact ⟨most.toNat,by omega,by omega⟩
  rw [hm]
  simp (disch:=omega) only [s0,s4,SS,eq_self,reduceIte,reduceCtorEq,Nat.reduceEqDiff,Nat.reduceAdd]
  exact hc _ _ ⟨rfl,s0,s4,m,rfl,hm8⟩
 clear s0 s1 s4 s5 hn0 n0 s
 rintro s _ ⟨rfl,s0,s4,⟨n,s5,hn⟩⟩
 have hAB:=kB.1
 have cB:=kB.2 _ _ (by omega) cA
 have kHB:Keeps o H B:=(Keeps.of_pre pA).trans kB
 have blK2:∀ H0:AH,buildSliceA Tryz.prog 27 4 [(0,.int .i64 1),(1,.int .i64 3),(2,.int .i64 4),(3,.int .i64 6)] H0=some (.slice (some ⟨H0.length,0,none⟩) 4 4,H0 ++ [.cells [.int .i64 1,.int .i64 3,.int .i64 4,.int .i64 6] 3 false]):=fun H0=>by kernel_rfl
 have blG:∀ (n:Int) (p:Option Addr) (k c:Nat),buildA Tryz.prog 26 [(0,.int .i64 n),(1,.slice p k c)]=some (.agg (List.toArray [.int .i64 n,.slice p k c])):=fun _ _ _ _=>by kernel_rfl
 refine cutC (fun s K=>s 0=.pointer (some ⟨o,0,none⟩)/\s 4=.pointer (some ⟨H.length,0,none⟩)/\s 5=.int .i64 (n:Int)/\(∃ gp:Nat,s 6=.pointer (some ⟨gp,0,none⟩)/\H.length<gp/\GSt H o gp v us (N+5) 0 K)/\(∃ d:Int,s 7=.int .i64 d/\1<=d/\d<=6)/\∃ b:Bool,s 8=.bool b) (fun c hc=>?_) ?_
 ·generalize hC:B ++ [AObj.cells [] 115 false]=C
  have pC:B<+:C:=by rw [<- hC];exact List.prefix_append _ _
  have lC:C.length=B.length+1:=by rw [<- hC];simp
  have m0:MineP 115 H C (.slice (some ⟨B.length,0,none⟩) 0 0) []:=by rw [<- hC];exact MineP.nil0 (P:=Tryz.prog) H B (by omega)
  generalize hD:C ++ [AObj.cells [.int .i64 1,.int .i64 3,.int .i64 4,.int .i64 6] 3 false]=D
  have pD:C<+:D:=by rw [<- hD];exact List.prefix_append _ _
  have aD:D[C.length]?=some (.cells [.int .i64 1,.int .i64 3,.int .i64 4,.int .i64 6] 3 false):=by rw [<- hD];exact at_new ..
  have wD:Row 3 D (.slice (some ⟨C.length,0,none⟩) 4 4) [1,3,4,6]:=.inr ⟨C.length,0,_,false,rfl,aD,by simp,rfl⟩
  simp (disch:=omega) only [s0,s4,s5,hC,blG,blK2,hD,SS,eq_self,reduceIte,reduceCtorEq,Nat.reduceEqDiff,Nat.reduceAdd]
  refine CallH.by (among_c (hCB.pre (pC.trans pD)) (by omega) wD (by show C.length ≠ o;omega) (by simp)) ?_
  rintro _ E ⟨⟨d,rfl,hd⟩,hCE,oE⟩
  simp (disch:=omega) only [s0,s4,s5,SS,eq_self,reduceIte,reduceCtorEq,Nat.reduceEqDiff,Nat.reduceAdd]
  refine CallH.by (one_c hCE (by omega) 5 (by omega)) ?_
  rintro _ F ⟨⟨b,rfl⟩,hCF,oF⟩
  have kBF:Keeps o B F:=(Keeps.of_pre (pC.trans pD)).trans (oE.keeps.trans oF.keeps)
  have mF:MineP 115 H F (.slice (some ⟨B.length,0,none⟩) 0 0) []:=((m0.pre pD).onlyP oE ho).onlyP oF ho
  have st1:=st_G mF.row (at_new F (.cells [.int .i64 0,.slice none 0 0] 26 false)) rfl (n:Int)
  rw [set_new] at st1
  simp (disch:=omega) only [s0,s4,s5,alloc_G,st1,SS,eq_self,reduceIte,reduceCtorEq,Nat.reduceEqDiff,Nat.reduceAdd]
  have pG:F<+:F ++ [AObj.cells [.int .i64 (n:Int),.slice (some ⟨B.length,0,none⟩) 0 0] 26 false]:=List.prefix_append _ _
  have lF:=kBF.1
  have lD:D.length=C.length+1:=by rw [<- hD];simp
  have lEF:F.length=D.length:=by rw [oF.1,oE.1]
  refine hc _ _ ⟨s0,s4,s5,⟨F.length,rfl,by omega,n,.slice (some ⟨B.length,0,none⟩) 0 0,[],?_,at_new ..,mF.pre pG,?_,.inl ?_,⟨by omega,by omega⟩,Nat.le_refl _,fun y hy=>by simp at hy,(hCF.more (by omega)).pre pG,kHB.trans (kBF.trans (.of_pre pG))⟩,⟨d,rfl,by simp at hd;omega⟩,b,rfl⟩
  ·exact pre_at pG (kBF.2 _ _ (by omega) cB)
  ·show B.length ≠ F.length;omega
  ·show B.length ≠ H.length;omega
 clear s0 s4 s5 cB kHB hAB hCB kB s
 rintro s K ⟨s0,s4,s5,⟨gp,s6,hgp,hG⟩,⟨d,s7,hd⟩,lb,s8⟩
 clear B
 have put:∀ {N1 L1:Nat} {K1:AH} (a b:Int),GSt H o gp v us N1 L1 K1->L1<=500->((-1<=a/\a<=9) /\ -1<=b/\b<=9)->∃ n' w',cellA K1 gp 1=some w'/\K1[gp]?=some (.cells [.int .i64 n',w'] 26 false)/\ACalls Tryz.prog 109 [w',.agg (List.toArray [.int .i64 a,.int .i64 b])] K1 fun r K2=>∃ K3,storeA Tryz.prog 24 (.pointer (some ⟨gp,1,none⟩)) r K2=some K3/\isTup r=false/\GSt H o gp v us N1 (L1+1) K3:=by
  rintro N1 L1 K1 a b ⟨n',w',ps,q1,q2,q3,q4,q5,q6,q7,q8,q9,q10⟩ hL hab
  refine ⟨n',w',cell_of q2 1,q2,(l2PutPair_c w' ps a b q3 (by have:=q10.1;omega) (by omega)).mono fun r K2 hr=>?_⟩
  obtain ⟨qs,r1,r2,r3,r4,r5⟩:=hr
  have lgp:=at_lt q2
  have r6:rowO r ≠ gp:=by
   rcases r4 with e | e
   ·rw [e];exact q4
   ·omega
  have r7:rowO r ≠ H.length∨r=.slice none 0 0:=by
   rcases r4 with e | e
   ·rw [e];exact q5
   ·exact .inl (by omega)
  obtain ⟨q,hq⟩:=r1.row.shape
  have t2:r.cells.toList=[r]:=by rw [hq];rfl
  have hst:=st_at (P:=Tryz.prog) (t:=24) (i:=1) (y:=r) cs24 (pre_at r5 q2) (by show 1<2;decide) r1.row.tup t2
  exact ⟨_,hst,r1.row.tup,GSt.put h ho hgp q1 q2 q3 q4 q5 (fun j y _ hy=>pre_at r5 hy) r5.length_le r1 r6 r7 q6 (by omega:qs.length<=L1+1) (fun y hy=>by
   rcases r3 y hy with e | e
   ·exact q8 y e
   ·rw [e];exact hab) q9 q10⟩
 refine cutC (fun s K=>s 0=.pointer (some ⟨o,0,none⟩)/\s 4=.pointer (some ⟨H.length,0,none⟩)/\s 6=.pointer (some ⟨gp,0,none⟩)/\GSt H o gp v us (N+200) 100 K) (fun c hc=>?_) ?_
 ·simp (disch:=omega) only [s0,s4,s5,s6,s7,s8,SS,eq_self,reduceIte,reduceCtorEq,Nat.reduceEqDiff,Nat.reduceAdd]
  refine LoopH.by (fun m s K=>∃ x:Nat,m+x=n/\s 0=.pointer (some ⟨o,0,none⟩)/\s 4=.pointer (some ⟨H.length,0,none⟩)/\s 5=.int .i64 (n:Int)/\s 6=.pointer (some ⟨gp,0,none⟩)/\s 7=.int .i64 d/\s 8=.bool lb/\s 9=.int .i64 (x:Int)/\GSt H o gp v us (N+5+x * 10) (x * 10) K) n ?_ ?_
  ·refine ⟨0,by omega,?_⟩
   simp (disch:=omega) only [s0,s4,s5,s6,s7,s8,SS,eq_self,reduceIte,reduceCtorEq,Nat.reduceEqDiff,Nat.reduceAdd]
   have f1:=hG.more (show N+5<=N+5+0 * 10 by omega) (show 0<=0 * 10 by omega)
   (repeat' first | exact f1 | apply And.intro) <;> first | (simp only [Value.int.injEq,true_and];omega) | omega | rfl | assumption | (simp;done) | (simp;omega)
  clear s0 s4 s5 s6 s7 s8 hG s K
  rintro m s K ⟨x,hm,s0,s4,s5,s6,s7,s8,s9,hG⟩
  simp (disch:=omega) only [s0,s4,s5,s6,s7,s8,s9,SS,eq_self,reduceIte,reduceCtorEq,Nat.reduceEqDiff,Nat.reduceAdd]
  refine brD.intro (fun g=>?_) (fun g=>?_)
  rotate_left
  ·simp (disch:=omega) only [s0,s4,s6,SS,eq_self,reduceIte,reduceCtorEq,Nat.reduceEqDiff,Nat.reduceAdd]
   exact hc _ _ ⟨s0,s4,s6,hG.more (by omega) (by omega)⟩
  have hx:x<n:=by omega
  simp (disch:=omega) only [s0,s4,s5,s6,s7,s8,s9,wrap64,SS,eq_self,reduceIte,reduceCtorEq,Nat.reduceEqDiff,Nat.reduceAdd]
  refine LoopH.by (fun m' s K=>∃ j:Nat,m'+j=n - (x+1)/\s 0=.pointer (some ⟨o,0,none⟩)/\s 4=.pointer (some ⟨H.length,0,none⟩)/\s 5=.int .i64 (n:Int)/\s 6=.pointer (some ⟨gp,0,none⟩)/\s 7=.int .i64 d/\s 8=.bool lb/\s 9=.int .i64 (x:Int)/\s 10=.int .i64 ((x+1+j:Nat):Int)/\GSt H o gp v us (N+5+x * 10+j) (x * 10+j) K) (n - (x+1)) ?_ ?_
  ·refine ⟨0,by omega,?_⟩
   simp (disch:=omega) only [s0,s4,s5,s6,s7,s8,s9,SS,eq_self,reduceIte,reduceCtorEq,Nat.reduceEqDiff,Nat.reduceAdd]
   (repeat' first | exact hG | apply And.intro) <;> first | (simp only [Value.int.injEq,true_and];omega) | omega | rfl | assumption | (simp;done) | (simp;omega)
  clear s0 s4 s5 s6 s7 s8 s9 hG s K
  rintro m' s K ⟨j,hm',s0,s4,s5,s6,s7,s8,s9,s10,hG⟩
  simp (disch:=omega) only [s0,s4,s5,s6,s7,s8,s9,s10,SS,eq_self,reduceIte,reduceCtorEq,Nat.reduceEqDiff,Nat.reduceAdd]
  refine brD.intro (fun g2=>?_) (fun g2=>?_)
  ·have hC:∃ a,Cur K o v us a/\a=N+5+x * 10+j:=by
    obtain ⟨_,_,_,_,_,_,_,_,_,_,_,q,_⟩:=hG
    exact ⟨_,q,rfl⟩
   obtain ⟨_,hC,rfl⟩:=hC
   simp (disch:=omega) only [s0,s7,SS,eq_self,reduceIte,reduceCtorEq,Nat.reduceEqDiff,Nat.reduceAdd]
   refine CallH.by (pick_c hC (by omega) d (by omega)) ?_
   rintro _ L ⟨⟨k,rfl,_⟩,hCL,oL⟩
   have hGL:=hG.cur ho (by omega) oL hCL
   simp (disch:=omega) only [SS,eq_self,reduceIte,reduceCtorEq,Nat.reduceEqDiff,Nat.reduceAdd]
   refine brD.intro (fun z=>?_) (fun z=>?_)
   ·obtain ⟨n',w',c1,c2,hput⟩:=put (x:Int) ((x+1+j:Nat):Int) hGL (by omega) (by omega)
    simp (disch:=omega) only [s6,c1,s9,s10,build_a2,SS,eq_self,reduceIte,reduceCtorEq,Nat.reduceEqDiff,Nat.reduceAdd]
    refine CallH.by hput ?_
    rintro r K2 ⟨K3,e2,e1,e3⟩
    simp (disch:=omega) only [s6,e2,s0,s4,s5,s7,s8,s9,s10,wrap64,SS,eq_self,reduceIte,reduceCtorEq,Nat.reduceEqDiff,Nat.reduceAdd]
    have f1:=e3.more (show N+5+x * 10+j+1<=N+5+x * 10+(j+1) by omega) (show x * 10+j+1<=x * 10+(j+1) by omega)
    refine ⟨m' - 1,by omega,j+1,?_⟩
    (repeat' first | exact f1 | apply And.intro) <;> first | (simp only [Value.int.injEq,true_and];omega) | omega | rfl | assumption | (simp;done) | (simp;omega)
   ·simp (disch:=omega) only [s6,s0,s4,s5,s7,s8,s9,s10,wrap64,SS,eq_self,reduceIte,reduceCtorEq,Nat.reduceEqDiff,Nat.reduceAdd]
    have f1:=hGL.more (show N+5+x * 10+j+1<=N+5+x * 10+(j+1) by omega) (show x * 10+j<=x * 10+(j+1) by omega)
    refine ⟨m' - 1,by omega,j+1,?_⟩
    (repeat' first | exact f1 | apply And.intro) <;> first | (simp only [Value.int.injEq,true_and];omega) | omega | rfl | assumption | (simp;done) | (simp;omega)
  have hjn:j<=8:=by omega
  have next:∀ {K3:AH},GSt H o gp v us (N+5+x * 10+9) (x * 10+9) K3->GSt H o gp v us (N+5+(x+1) * 10) ((x+1) * 10) K3:=fun q=>q.more (by omega) (by omega)
  have hG9:=hG.more (show N+5+x * 10+j<=N+5+x * 10+8 by omega) (show x * 10+j<=x * 10+8 by omega)
  simp (disch:=omega) only [s0,s4,s5,s6,s7,s8,s9,SS,eq_self,reduceIte,reduceCtorEq,Nat.reduceEqDiff,Nat.reduceAdd]
  by_cases z:(0:Int)<(x:Int)
  ·cases lb with
   | false =>
    have hC:∃ a,Cur K o v us a/\a=N+5+x * 10+8:=by
     obtain ⟨_,_,_,_,_,_,_,_,_,_,_,q,_⟩:=hG9
     exact ⟨_,q,rfl⟩
    obtain ⟨_,hC,rfl⟩:=hC
    have hG9':=hG9
    obtain ⟨n0,w0,_,g1,g2,_⟩:=hG9'
    have g3:=cell_of g2 1
    simp (disch:=omega) only [decide_eq_true z,s8,s0,s6,s9,g3,SS,eq_self,reduceIte,reduceCtorEq,Nat.reduceEqDiff,Nat.reduceAdd]
    refine CallH.by (pick_c hC (by omega) (x:Int) (by omega)) ?_
    rintro _ L ⟨⟨k,rfl,hk⟩,hCL,oL⟩
    have hGL:=hG9.cur ho (by omega) oL hCL
    obtain ⟨n',w',c1,c2,hput⟩:=put (k:Int) (x:Int) hGL (by omega) (by omega)
    have e0:w0=w':=by
     have:=(oL.2 gp _ (by omega) g2).symm.trans c2
     simp only [Option.some.injEq,AObj.cells.injEq,List.cons.injEq] at this
     exact this.1.2.1
    subst e0
    simp (disch:=omega) only [s6,s9,c1,build_a2,SS,eq_self,reduceIte,reduceCtorEq,Nat.reduceEqDiff,Nat.reduceAdd]
    refine CallH.by hput ?_
    rintro r K2 ⟨K3,e2,e1,e3⟩
    simp (disch:=omega) only [s6,e2,s0,s4,s5,s7,s8,s9,wrap64,SS,eq_self,reduceIte,reduceCtorEq,Nat.reduceEqDiff,Nat.reduceAdd]
    have f1:=next (e3.more (by omega) (by omega))
    refine ⟨m - 1,by omega,x+1,?_⟩
    (repeat' first | exact f1 | apply And.intro) <;> first | (simp only [Value.int.injEq,true_and];omega) | omega | rfl | assumption | (simp;done) | (simp;omega)
   | true =>
    simp (disch:=omega) only [decide_eq_true z,s0,s4,s5,s6,s7,s8,s9,wrap64,SS,eq_self,reduceIte,reduceCtorEq,Nat.reduceEqDiff,Nat.reduceAdd]
    have f1:=next (hG9.more (by omega) (by omega))
    refine ⟨m - 1,by omega,x+1,?_⟩
    (repeat' first | exact f1 | apply And.intro) <;> first | (simp only [Value.int.injEq,true_and];omega) | omega | rfl | assumption | (simp;done) | (simp;omega)
  ·simp (disch:=omega) only [decide_eq_false z,s0,s4,s5,s6,s7,s8,s9,wrap64,SS,eq_self,reduceIte,reduceCtorEq,Nat.reduceEqDiff,Nat.reduceAdd]
   have f1:=next (hG9.more (by omega) (by omega))
   refine ⟨m - 1,by omega,x+1,?_⟩
   (repeat' first | exact f1 | apply And.intro) <;> first | (simp only [Value.int.injEq,true_and];omega) | omega | rfl | assumption | (simp;done) | (simp;omega)
 clear s0 s4 s5 s6 s7 s8 hG s K put
 rintro s K ⟨s0,s4,s6,hG⟩
 refine cutC (fun s K=>s 4=.pointer (some ⟨H.length,0,none⟩)/\s 6=.pointer (some ⟨gp,0,none⟩)/\GSt H o gp v us (N+250) 150 K) (fun c hc=>?_) ?_
 ·have hG':=hG
  obtain ⟨n1,w,ps,q1,q2,q3,q4,q5,q6,q7,q8,q9,q10⟩:=hG'
  simp (disch:=omega) only [s0,SS,eq_self,reduceIte,reduceCtorEq,Nat.reduceEqDiff,Nat.reduceAdd]
  refine CallH.by (pick_c q9 (by omega) 50 (by omega)) ?_
  rintro _ L ⟨⟨k,rfl,_⟩,hCL,oL⟩
  have hGL:=hG.cur ho (by omega) oL hCL
  clear hG q1 q2 q3 q4 q5 q6 q7 q8 q9 q10 w ps n1
  have hGL':=hGL
  obtain ⟨n1,w,ps,q1,q2,q3,q4,q5,q6,q7,q8,q9,q10⟩:=hGL'
  have lgp:=at_lt q2
  have lHL:=q10.1
  simp (disch:=omega) only [s0,s4,s6,SS,eq_self,reduceIte,reduceCtorEq,Nat.reduceEqDiff,Nat.reduceAdd]
  by_cases z0:(k:Int)=0
  ·simp (disch:=omega) only [decide_eq_true z0,s0,s4,s6,SS,eq_self,reduceIte,reduceCtorEq,Nat.reduceEqDiff,Nat.reduceAdd]
   have blK3:∀ H0:AH,buildSliceA Tryz.prog 27 5 [(0,.int .i64 (-1)),(1,.int .i64 8),(2,.int .i64 9),(3,.int .i64 0),(4,.int .i64 4611686018427387904)] H0=some (.slice (some ⟨H0.length,0,none⟩) 5 5,H0 ++ [.cells [.int .i64 (-1),.int .i64 8,.int .i64 9,.int .i64 0,.int .i64 4611686018427387904] 3 false]):=fun H0=>by kernel_rfl
   simp (disch:=omega) only [blK3,SS,eq_self,reduceIte,reduceCtorEq,Nat.reduceEqDiff,Nat.reduceAdd]
   generalize hK1:L ++ [AObj.cells [.int .i64 (-1),.int .i64 8,.int .i64 9,.int .i64 0,.int .i64 4611686018427387904] 3 false]=K1
   have pK1:L<+:K1:=by rw [<- hK1];exact List.prefix_append _ _
   have aK1:K1[L.length]?=some (.cells [.int .i64 (-1),.int .i64 8,.int .i64 9,.int .i64 0,.int .i64 4611686018427387904] 3 false):=by rw [<- hK1];exact at_new ..
   have wK1:Row 3 K1 (.slice (some ⟨L.length,0,none⟩) 5 5) [-1,8,9,0,4611686018427387904]:=.inr ⟨L.length,0,_,false,rfl,aK1,by simp,rfl⟩
   refine CallH.by (among_c (q9.pre pK1) (by omega) wK1 (by show L.length ≠ o;omega) (by simp)) ?_
   rintro _ M ⟨⟨y,rfl,hy⟩,hCM,oM⟩
   have hGM:=(hGL.pre pK1).cur ho (by omega) oM hCM
   obtain ⟨n2,w2,ps2,t1,t2,t3,t4,t5,t6,t7,t8,t9,t10⟩:=hGM
   have hst:=st_at (P:=Tryz.prog) (t:=3) (i:=0) (y:=.int .i64 y) cs3 t2 (by show 0<2;decide) rfl rfl
   have hy64:I64 y:=by simp at hy;exact ⟨by omega,by omega⟩
   simp (disch:=omega) only [s6,hst,SS,eq_self,reduceIte,reduceCtorEq,Nat.reduceEqDiff,Nat.reduceAdd]
   exact hc _ _ ⟨s4,s6,(GSt.put h ho hgp t1 t2 t3 t4 t5 (fun j y _ hy=>hy) (Nat.le_refl _) t3 t4 t5 hy64 t7 t8 t9 t10).more (by omega) (by omega)⟩
  by_cases z1:(k:Int)=1
  ·have hz0:¬ (k:Int)=0:=z0
   simp (disch:=omega) only [decide_eq_false hz0,decide_eq_true z1,s0,s4,s6,cell_of q2,SS,eq_self,reduceIte,reduceCtorEq,Nat.reduceEqDiff,Nat.reduceAdd]
   refine CallH.by (pick_c q9 (by omega) 4 (by omega)) ?_
   rintro _ M ⟨⟨a,rfl,ha⟩,hCM,oM⟩
   have c2:=oM.2 gp _ (by omega) q2
   simp (disch:=omega) only [s0,s6,cell_of c2,SS,eq_self,reduceIte,reduceCtorEq,Nat.reduceEqDiff,Nat.reduceAdd]
   refine CallH.by (pick_c hCM (by omega) 9 (by omega)) ?_
   rintro _ P ⟨⟨b,rfl,hb⟩,hCP,oP⟩
   have hGP:=(hGL.cur ho (by omega) oM hCM).cur ho (by omega) oP hCP
   obtain ⟨n2,w2,ps2,t1,t2,t3,t4,t5,t6,t7,t8,t9,t10⟩:=hGP
   have e0:w=w2:=by
    have:=(oP.2 gp _ (by omega) c2).symm.trans t2
    simp only [Option.some.injEq,AObj.cells.injEq,List.cons.injEq] at this
    exact this.1.2.1
   subst e0
   obtain ⟨H0,hp0,hb0⟩:∃ H0:AH,H0<+:P/\H0.length=H.length:=⟨P.take H.length,List.take_prefix _ _,by have:=t10.1;simp;omega⟩
   have hw1:IntKind.i64.wrap ((b:Int) - 1)=(b:Int) - 1:=wrap64 (by omega) (by omega)
   obtain ⟨w3,K3,k1,k2,k3,k4,k5,k6⟩:=own1_24 (t3.rebase hb0) hp0 (by omega) (a:Int) ((b:Int) - 1)
   obtain ⟨q,hq⟩:=k2.row.shape
   have tt:w3.cells.toList=[w3]:=by rw [hq];rfl
   have lP:=at_lt t2
   have kg:=k4 gp _ (.inr fun e=>t4 e.symm) t2
   have hst:=st_at (P:=Tryz.prog) (t:=24) (i:=1) (y:=w3) cs24 kg (by show 1<2;decide) k6 tt
   simp (disch:=omega) only [s6,cell_of t2,hw1,build_a2,k1,hst,SS,eq_self,reduceIte,reduceCtorEq,Nat.reduceEqDiff,Nat.reduceAdd]
   have l3:P.length<=K3.length:=by
    obtain ⟨o3,z3,e1,e2,e3,_⟩:∃ o3 zs,w3=.slice (some ⟨o3,0,none⟩) (ps2 ++ [((a:Int),(b:Int) - 1)]).length (ps2 ++ [((a:Int),(b:Int) - 1)]).length/\H0.length<=o3/\K3[o3]?=some (.cells (ints zs) 115 false)/\True:=by
     rcases k2 with ⟨_,e⟩ | ⟨o3,zs,e1,e2,e3,_⟩
     ·simp at e
     ·exact ⟨o3,zs,e1,e2,e3,trivial⟩
    have:=at_lt e3
    rw [e1] at k5
    have k5':P.length<=o3:=k5
    omega
   exact hc _ _ ⟨s4,s6,(GSt.put (M:=200 - 50) h ho hgp t1 t2 t3 t4 t5 k4 l3 (k2.rebase hb0.symm) (by omega) (.inl (by omega)) t6 (by simp;omega) (fun y hy=>by
    rcases List.mem_append.1 hy with e | e
    ·exact t8 y e
    ·rw [List.mem_singleton] at e;rw [e];simp only;omega) t9 t10).more (by omega) (by omega)⟩
  by_cases z2:(k:Int)=2
  ·have hz0:¬ (k:Int)=0:=z0
   have hz1:¬ (k:Int)=1:=z1
   simp (disch:=omega) only [decide_eq_false hz0,decide_eq_false hz1,decide_eq_true z2,s0,s4,s6,cell_of q2,q3.row.len Tryz.underlying24,SS,eq_self,reduceIte,reduceCtorEq,Nat.reduceEqDiff,Nat.reduceAdd]
   by_cases z3:(0:Int)<(ps.length:Int)
   rotate_left
   ·simp (disch:=omega) only [decide_eq_false z3,SS,eq_self,reduceIte,reduceCtorEq,Nat.reduceEqDiff,Nat.reduceAdd]
    exact hc _ _ ⟨s4,s6,hGL.more (by omega) (by omega)⟩
   simp (disch:=omega) only [decide_eq_true z3,s0,s4,s6,cell_of q2,q3.row.len Tryz.underlying24,SS,eq_self,reduceIte,reduceCtorEq,Nat.reduceEqDiff,Nat.reduceAdd]
   refine CallH.by (pick_c q9 (by omega) (ps.length:Int) (by omega)) ?_
   rintro _ P ⟨⟨a,rfl,ha⟩,hCP,oP⟩
   have hal:a<ps.length:=by omega
   have t2:=oP.2 gp _ (by omega) q2
   have t3:=q3.onlyP oP ho
   have t1:=oP.2 H.length _ (by omega) q1
   have t10:=q10.trans oP.keeps
   obtain ⟨H0,hp0,hb0⟩:∃ H0:AH,H0<+:P/\H0.length=H.length:=⟨P.take H.length,List.take_prefix _ _,by have:=t10.1;simp;omega⟩
   have hm:=q8 (ps.getD a (0,0)) (by simp [hal])
   obtain ⟨w3,K3,k1,k2,k3,k4,k5,k6⟩:=own1_24 (t3.rebase hb0) hp0 (by omega) (ps.getD a (0,0)).1 (ps.getD a (0,0)).2
   obtain ⟨q,hq⟩:=k2.row.shape
   have tt:w3.cells.toList=[w3]:=by rw [hq];rfl
   have lP:=at_lt t2
   have kg:=k4 gp _ (.inr fun e=>q4 e.symm) t2
   have hst:=st_at (P:=Tryz.prog) (t:=24) (i:=1) (y:=w3) cs24 kg (by show 1<2;decide) k6 tt
   simp (disch:=omega) only [s6,cell_of t2,t3.row.ix Tryz.underlying24 cs115,Int.toNat_natCast,t3.row.ld ag115 cs115 hal,k1,hst,SS,eq_self,reduceIte,reduceCtorEq,Nat.reduceEqDiff,Nat.reduceAdd]
   have l3:P.length<=K3.length:=by
    obtain ⟨o3,z3,e1,e2,e3,_⟩:∃ o3 zs,w3=.slice (some ⟨o3,0,none⟩) (ps ++ [((ps.getD a (0,0)).1,(ps.getD a (0,0)).2)]).length (ps ++ [((ps.getD a (0,0)).1,(ps.getD a (0,0)).2)]).length/\H0.length<=o3/\K3[o3]?=some (.cells (ints zs) 115 false)/\True:=by
     rcases k2 with ⟨_,e⟩ | ⟨o3,zs,e1,e2,e3,_⟩
     ·simp at e
     ·exact ⟨o3,zs,e1,e2,e3,trivial⟩
    have:=at_lt e3
    rw [e1] at k5
    have k5':P.length<=o3:=k5
    omega
   exact hc _ _ ⟨s4,s6,(GSt.put (M:=200 - 50) h ho hgp t1 t2 t3 q4 q5 k4 l3 (k2.rebase hb0.symm) (by omega) (.inl (by omega)) q6 (by simp;omega) (fun y hy=>by
    rcases List.mem_append.1 hy with e | e
    ·exact q8 y e
    ·rw [List.mem_singleton] at e;rw [e];exact hm) hCP t10).more (by omega) (by omega)⟩
  ·have hz0:¬ (k:Int)=0:=z0
   have hz1:¬ (k:Int)=1:=z1
   have hz2:¬ (k:Int)=2:=z2
   simp (disch:=omega) only [decide_eq_false hz0,decide_eq_false hz1,decide_eq_false hz2,s0,s4,s6,SS,eq_self,reduceIte,reduceCtorEq,Nat.reduceEqDiff,Nat.reduceAdd]
   exact hc _ _ ⟨s4,s6,hGL.more (by omega) (by omega)⟩
 clear s0 s4 s6 hG s K
 rintro s K ⟨s4,s6,n1,w,ps,q1,q2,q3,q4,q5,q6,q7,q8,q9,q10⟩
 have hst:=st_G q3.row q1 rfl n1
 simp (disch:=omega) only [s4,s6,ld_agg ag26 cs26 q2,hst,SS,eq_self,reduceIte,reduceCtorEq,Nat.reduceEqDiff,Nat.reduceAdd]
 have d4:=at_set (d:=.cells [.int .i64 n1,w] 26 false) q1
 have at_:∀ {j:Nat} {y:AObj},j ≠ H.length->K[j]?=some y->(K.set H.length (.cells [.int .i64 n1,w] 26 false))[j]?=some y:=fun hj hy=>by rw [List.getElem?_set_ne (fun e=>hj e.symm)];exact hy
 obtain ⟨a,sd,c1,c2,c3⟩:=q9.cur
 refine hQ _ _ _ (end_cell _ _ _ _ _ _ (.agg (List.toArray [.int .i64 n1,w])) ?_ rfl ⟨n1,w,ps,rfl,?_,q6,by omega,q8,⟨⟨a,sd,at_ (by omega) c1,by omega,c3⟩,q9.row.mono fun y hy=>at_ ?_ hy,q9.byt,q9.ap,q9.le⟩,⟨by have:=q10.1;simp;omega,fun j y hj hy=>at_ (by have:=at_lt hy;omega) (q10.2 j y hj hy)⟩⟩)
 ·simp (disch:=omega) only [s4,ld_agg ag26 cs26 d4,SS,eq_self,reduceIte,reduceCtorEq,Nat.reduceEqDiff,Nat.reduceAdd]
 ·rcases q5 with e | e
  ·exact q3.keep fun y hy=>at_ e hy
  ·rcases q3 with z | ⟨_,_,z,_⟩
   ·exact .inl z
   ·rw [z] at e;cases e
 ·rcases h.row with q | ⟨o',k',vs',ro',e1,g2,_⟩
  ·rw [q.1]
   show (0:Nat) ≠ H.length
   omega
  ·rw [e1]
   have:=at_lt g2
   show o' ≠ H.length
   omega
def cd122:Cd:=(.seq (.reg [⟨⟨some 4,.assign (.const (.slice none 0 0)),none⟩,[]⟩]) (.seq (.reg [⟨⟨some 7,.buildSlice 27 0 #[],none⟩,[]⟩,⟨⟨some 5,.assign (.tmp 7),none⟩,[]⟩]) (.seq (.seq (.reg [⟨⟨some 6,.assign (.const (.int .i64 0)),none⟩,[]⟩]) (.block 0 (.loop (.seq (.seq (.reg [⟨⟨some 8,.move (.tmp 6),none⟩,[]⟩,⟨⟨some 9,.move (.tmp 0),none⟩,[]⟩,⟨⟨some 10,.binOp .lss 3 (.tmp 8) (.tmp 9) 3,none⟩,[]⟩]) (.cond (.tmp 10) .skip (.exit 0))) (.seq (.block 1 (.seq (.reg [⟨⟨some 13,.move (.tmp 1),none⟩,[]⟩,⟨⟨some 14,.move (.tmp 6),none⟩,[]⟩,⟨⟨some 15,.binOp .shr 3 (.tmp 13) (.tmp 14) 3,none⟩,[]⟩,⟨⟨some 16,.binOp .and 3 (.tmp 15) (.const (.int .i64 1)) 3,none⟩,[]⟩,⟨⟨some 17,.binOp .eql 3 (.tmp 16) (.const (.int .i64 1)) 3,none⟩,[]⟩]) (.cond (.tmp 17) (.reg [⟨⟨some 18,.move (.tmp 5),none⟩,[]⟩,⟨⟨some 19,.move (.tmp 6),none⟩,[]⟩,⟨⟨some 20,.buildSlice 27 1 #[(0,.tmp 19)],none⟩,[]⟩,⟨⟨some 21,.call ⟨(.builtin .append),#[.tmp 18,.tmp 20],#[27,27]⟩,none⟩,[]⟩,⟨⟨some 5,.assign (.tmp 21),none⟩,[]⟩]) .skip))) (.reg [⟨⟨some 11,.move (.tmp 6),none⟩,[]⟩,
 ⟨⟨some 12,.binOp .add 3 (.tmp 11) (.const (.int .i64 1)) 3,none⟩,[]⟩,
  ⟨⟨some 6,.assign (.tmp 12),none⟩,[]⟩])))))) (.seq (.reg [⟨⟨some 22,.move (.tmp 5),none⟩,[]⟩,
  ⟨⟨some 4,.assign (.tmp 22),none⟩,[]⟩]) .ret))))
theorem in122:InT Tryz.prog 122 2 [.tmp 4] cd122:=InT.mk (by kernel_rfl) [] Tryz.func122 rfl (by kernel_rfl) (by kernel_rfl) (of_decide_eq_true (by kernel_rfl)) (by kernel_rfl)
end Go.Proofs.YtlcipphiflcaiaaGreat.Ai
namespace Go.Proofs.YtlcipphiflcaiaaGreat.Ai
open Go Go.RowKit
def alls (n:Nat):List Int:=(List.range n).map fun z:Nat=>(z:Int)
theorem alls_len (n:Nat):(alls n).length=n:=by simp [alls]
theorem alls_mem (n:Nat)(z:Int):z ∈ alls n↔0<=z/\z<n:=by
 unfold alls
 rw [List.mem_map]
 constructor
 ·rintro ⟨a,ha,rfl⟩
  have:=List.mem_range.1 ha
  omega
 ·rintro ⟨h1,h2⟩
  exact ⟨z.toNat,List.mem_range.2 (by omega),by omega⟩
theorem alls_succ (n:Nat):alls (n+1)=alls n ++ [(n:Int)]:=by
 unfold alls;rw [List.range_succ,List.map_append];rfl
theorem bin_shrI (P:Program)(t:TypeId)(b y:Nat)(hy:y<64):binA P .shr t (.int .i64 (b:Int)) (.int .i64 (y:Int))=some (.int .i64 ((b / 2 ^ y:Nat):Int)):=by
 have:¬ ((y:Int)<0):=by omega
 simp only [binA,shiftA,this,if_false,IntKind.bits]
 rw [if_pos (.inr trivial)]
 have:=shr_nat b y (by omega)
 simp only [this]
theorem bin_and1 (P:Program)(t:TypeId)(a:Nat)(ha:a<2 ^ 63):binA P .and t (.int .i64 (a:Int)) (.int .i64 1)=some (.int .i64 ((a % 2:Nat):Int)):=by
 have e:bitsA .and .i64 (a:Int) 1=((a % 2:Nat):Int):=by
  have e:(BitVec.ofInt 64 (a:Int) &&& BitVec.ofInt 64 ((1:Nat):Int)).toNat=a % 2:=by rw [BitVec.toNat_and,ofInt_nat a (by omega),ofInt_nat 1 (by decide),Nat.and_one_is_mod]
  show IntKind.i64.wrap (((BitVec.ofInt 64 (a:Int) &&& BitVec.ofInt 64 ((1:Nat):Int)).toNat:Nat):Int)=_
  rw [e,wrap64 (by omega) (by omega)]
 simp only [binA,intA,e]
 simp
def bitsL (n c:Nat):List Int:=(alls n).filter fun x=>decide (c / 2 ^ x.toNat % 2=1)
theorem bitsL_succ (n c:Nat):bitsL (n+1) c=bitsL n c ++ if c / 2 ^ n % 2=1 then [(n:Int)] else []:=by
 unfold bitsL
 rw [alls_succ,List.filter_append]
 congr 1
 rw [List.filter_cons,List.filter_nil,Int.toNat_natCast]
 by_cases h:c / 2 ^ n % 2=1
 ·rw [if_pos (decide_eq_true h),if_pos h]
 ·rw [if_neg (by rw [decide_eq_false h];decide),if_neg h]
theorem bitsL_len (n c:Nat):(bitsL n c).length<=n:=by
 have:=List.length_filter_le (fun x:Int=>decide (c / 2 ^ x.toNat % 2=1)) (alls n)
 rw [alls_len] at this
 exact this
theorem bitsL_mem {n c:Nat}{x:Int}(h:x ∈ bitsL n c):0<=x/\x<n:=(alls_mem _ _).1 (List.mem_filter.1 h).1
theorem l2BitsA_c (n:Int)(c:Nat)(H:AH)(hn:n<=60)(hc:c<2 ^ 62) :
  ACalls Tryz.prog 122 [.int .i64 n,.int .i64 (c:Int)] H fun r H'=>Own 3 H H' r (bitsL n.toNat c)/\H<+:H':=by
 refine in122 rfl ?_
 intro Q hQ
 simp (disch:=omega) only [cd122,SS,eq_self,reduceIte,reduceCtorEq,Nat.reduceEqDiff,Nat.reduceAdd]
 refine LoopH.by (fun m s H'=>∃ i,m+i=n.toNat/\s 0=.int .i64 n/\s 1=.int .i64 (c:Int)/\s 6=.int .i64 ((i:Nat):Int)/\Own 3 H H' (s 5) (bitsL i c)/\H<+:H') n.toNat ?_ ?_
 ·exact ⟨0,by simp,rfl,rfl,rfl,.inr ⟨H.length,rfl,Nat.le_refl _,at_new ..⟩,List.prefix_append _ _⟩
 ·rintro m s H' ⟨i,hm,h0,h1,h6,ho,hp⟩
  have hl:=bitsL_len i c
  generalize hw:s 5=w at *
  simp (disch:=omega) only [h0,h1,h6,hw,SS,eq_self,reduceIte,reduceCtorEq,Nat.reduceEqDiff,Nat.reduceAdd]
  refine brD.intro (fun g=>?_) (fun g=>?_)
  ·have hi:i<n.toNat:=by omega
   have z1:=bin_shrI Tryz.prog 3 c i (by omega)
   have hd:c / 2 ^ i<2 ^ 63:=Nat.lt_of_le_of_lt (Nat.div_le_self _ _) (by omega)
   have z2:=bin_and1 Tryz.prog 3 (c / 2 ^ i) hd
   have hs:=bitsL_succ i c
   simp (disch:=omega) only [h0,h1,h6,hw,z1,z2,SS,eq_self,reduceIte,reduceCtorEq,Nat.reduceEqDiff,Nat.reduceAdd]
   refine brD.intro (fun q=>?_) (fun q=>?_)
   ·rw [if_pos (by omega)] at hs
    obtain ⟨w',H2,k1,k2,k3,k4,k5,k6⟩:=own1_27 ho hp (by omega) (i:Int)
    simp (disch:=omega) only [h0,h1,h6,hw,k1,wrap64,SS,eq_self,reduceIte,reduceCtorEq,Nat.reduceEqDiff,Nat.reduceAdd]
    rw [<- hs] at k2
    refine ⟨m - 1,by omega,i+1,?_⟩
    (repeat' first | exact k2 | exact k3 | apply And.intro) <;> first | (simp only [Value.int.injEq,true_and];omega) | omega | rfl | assumption | (simp;done) | (simp;omega)
   ·rw [if_neg (by omega),List.append_nil] at hs
    rw [<- hs] at ho
    simp (disch:=omega) only [h0,h1,h6,hw,wrap64,SS,eq_self,reduceIte,reduceCtorEq,Nat.reduceEqDiff,Nat.reduceAdd]
    refine ⟨m - 1,by omega,i+1,?_⟩
    (repeat' first | exact ho | exact hp | apply And.intro) <;> first | (simp only [Value.int.injEq,true_and];omega) | omega | rfl | assumption | (simp;done) | (simp;omega)
  ·simp (disch:=omega) only [hw,SS,eq_self,reduceIte,reduceCtorEq,Nat.reduceEqDiff,Nat.reduceAdd]
   refine hQ _ _ _ ?_
   simp (disch:=omega) only [hw,ho.row.tup,SS,eq_self,reduceIte,reduceCtorEq,Nat.reduceEqDiff,Nat.reduceAdd]
   have:i=n.toNat:=by omega
   subst this
   exact ⟨ho,hp⟩
def pmT (rec:List Int->List (List Int))(b:List Int):Nat->Nat->List (List Int)
 | 0,_=>[]
 | d+1,c=>(if (c:Int) ∈ b then [] else rec (b ++ [(c:Int)])) ++ pmT rec b d (c+1)
def pmG (n:Nat):Nat->List Int->List (List Int)
 | 0=>fun b=>[b]
 | f+1=>fun b=>pmT (pmG n f) b n 0
def pms (n:Nat):List (List Int):=pmG n n []
theorem pmT_mem {rec:List Int->List (List Int)}{b q:List Int}{x:Nat}(hx:(x:Int) ∉ b)(hq:q ∈ rec (b ++ [(x:Int)])):∀ d c,c<=x->x<c+d->q ∈ pmT rec b d c
 | 0,c,h1,h2=>by omega
 | d+1,c,h1,h2=>by
  simp only [pmT,List.mem_append]
  by_cases e:c=x
  ·subst e;left;rw [if_neg hx];exact hq
  ·right;exact pmT_mem hx hq d (c+1) (by omega) (by omega)
theorem pmG_mem (n:Nat):∀ (r b:List Int),(∀ x ∈ r,0<=x/\x<n)->(b ++ r).Nodup->b ++ r ∈ pmG n r.length b
 | [],b,_,_=>by simp [pmG]
 | x :: r,b,hr,hn=>by
  have hx:=hr x (by simp)
  obtain ⟨k,rfl⟩:∃ k:Nat,x=k:=⟨x.toNat,by omega⟩
  have hp:=List.pairwise_append.1 hn
  have hxb:(k:Int) ∉ b:=fun h=>hp.2.2 _ h _ (by simp) rfl
  have e:b ++ (k:Int) :: r=(b ++ [(k:Int)]) ++ r:=by simp
  rw [e] at hn ⊢
  show _ ∈ pmT (pmG n r.length) b n 0
  exact pmT_mem hxb (pmG_mem n r (b ++ [(k:Int)]) (fun y hy=>hr y (by simp [hy])) hn) n 0 (by omega) (by omega)
theorem allIn_le:∀ (m:Nat) (l:List Int),(∀ z:Nat,z<m->(z:Int) ∈ l)->m<=l.length
 | 0,_,_=>Nat.zero_le _
 | m+1,l,h=>by
  have hm:=h m (by omega)
  have:=allIn_le m (l.erase (m:Int)) (fun z hz=>(List.mem_erase_of_ne (by omega)).2 (h z (by omega)))
  rw [List.length_erase_of_mem hm] at this
  have:0<l.length:=List.length_pos_of_mem hm
  omega
theorem erase_all {p:List Int}{m:Nat}(h:∀ z:Nat,z<m->(z:Int) ∈ p)(hl:p.length=m){j:Nat}(hj:j<p.length)(hd:∀ z:Nat,z<m->(z:Int)=p[j]->(z:Int) ∈ p.take j ++ p.drop (j+1)):False:=by
 have:=allIn_le m (p.take j ++ p.drop (j+1)) (fun z hz=>by
  have hm:=h z hz
  by_cases e:(z:Int)=p[j]
  ·exact hd z hz e
  ·have e2:p=p.take j ++ p[j] :: p.drop (j+1):=by rw [List.getElem_cons_drop];exact (List.take_append_drop j p).symm
   rw [e2] at hm
   simp only [List.mem_append,List.mem_cons] at hm ⊢
   rcases hm with hm | hm | hm
   ·exact .inl hm
   ·exact absurd hm e
   ·exact .inr hm)
 simp only [List.length_append,List.length_take,List.length_drop] at this
 omega
theorem prm_nodup {p:List Int}(h:Prm p):p.Nodup:=by
 rw [List.Nodup,List.pairwise_iff_getElem]
 intro i j hi hj hij e
 refine erase_all h.2 rfl hj (fun z hz ez=>?_)
 rw [ez,<- e]
 refine List.mem_append.2 (.inl ?_)
 have:(p.take j)[i]'(by simp;omega)=p[i]:=by simp
 rw [<- this];exact List.getElem_mem _
theorem prm_rng {p:List Int}(h:Prm p):∀ x ∈ p,0<=x/\x<p.length:=by
 intro x hx
 apply Decidable.byContradiction
 intro hn
 obtain ⟨j,hj,e⟩:=List.getElem_of_mem hx
 refine erase_all h.2 rfl hj (fun z hz ez=>?_)
 rw [e] at ez
 exact absurd ⟨by omega,by omega⟩ hn
theorem pms_mem {p:List Int}(h:Prm p):p ∈ pms p.length:=pmG_mem p.length p [] (prm_rng h) (by simpa using prm_nodup h)
def cdF:Int->List Int->Int
 | c,[]=>c
 | c,x :: r=>cdF (c * ((r.length:Int)+1)+((r.countP fun y=>decide (y<x):Nat):Int)) r
def cod (p:List Int):Int:=cdF 0 p
def mny:Nat->Nat
 | 0=>1
 | n+1=>mny n * (n+1)
def codOk (n:Nat):Bool:=decide ((pms n).map cod=(List.range (mny n)).map fun z:Nat=>(z:Int))
theorem cod0:codOk 0=true:=by decide +kernel
theorem cod1:codOk 1=true:=by decide +kernel
theorem cod2:codOk 2=true:=by decide +kernel
theorem cod3:codOk 3=true:=by decide +kernel
theorem cod4:codOk 4=true:=by decide +kernel
theorem cod5:codOk 5=true:=by decide +kernel
theorem cod6:codOk 6=true:=by decide +kernel
theorem cod_all {n:Nat}(hn:n<=6):(pms n).map cod=(List.range (mny n)).map fun z:Nat=>(z:Int):=by
 have h:codOk n=true:=by
  have:n=0∨n=1∨n=2∨n=3∨n=4∨n=5∨n=6:=by omega
  rcases this with rfl | rfl | rfl | rfl | rfl | rfl | rfl
  ·exact cod0
  ·exact cod1
  ·exact cod2
  ·exact cod3
  ·exact cod4
  ·exact cod5
  ·exact cod6
 exact of_decide_eq_true h
theorem inj_nd {α β:Type}{L:List α}{f:α->β}(h:(L.map f).Nodup){a b:α}(ha:a ∈ L)(hb:b ∈ L)(e:f a=f b):a=b:=by
 obtain ⟨i,hi,ei⟩:=List.getElem_of_mem ha
 obtain ⟨j,hj,ej⟩:=List.getElem_of_mem hb
 rw [List.Nodup,List.pairwise_iff_getElem] at h
 rcases Nat.lt_trichotomy i j with hij | hij | hij
 ·have:=h i j (by simpa using hi) (by simpa using hj) hij
  simp only [List.getElem_map,ei,ej] at this
  exact absurd e this
 ·subst hij;rw [<- ei,<- ej]
 ·have:=h j i (by simpa using hj) (by simpa using hi) hij
  simp only [List.getElem_map,ei,ej] at this
  exact absurd e.symm this
theorem range_nd (m:Nat):((List.range m).map fun z:Nat=>(z:Int)).Nodup:=by
 rw [List.Nodup,List.pairwise_map]
 exact List.nodup_range.imp fun h e=>h (by omega)
theorem cod_rng {p:List Int}(h:Prm p)(hl:p.length<=6):0<=cod p/\cod p<mny p.length:=by
 have hm:cod p ∈ (pms p.length).map cod:=List.mem_map.2 ⟨p,pms_mem h,rfl⟩
 rw [cod_all hl,List.mem_map] at hm
 obtain ⟨z,hz,e⟩:=hm
 have:=List.mem_range.1 hz
 omega
theorem cod_inj {p q:List Int}(hp:Prm p)(hq:Prm q)(hl:p.length<=6)(e:p.length=q.length)(hc:cod p=cod q):p=q:=by
 refine inj_nd (L:=pms p.length) (f:=cod) ?_ (pms_mem hp) (by rw [e];exact pms_mem hq) hc
 rw [cod_all hl];exact range_nd _
def bdIn (d:Int):List (List Int)->List (List Int × Int)->List (List Int × Int)
 | [],st=>st
 | b :: r,st=>bdIn d r (if b ∈ st.map (·.1) then st else st ++ [(b,d)])
def Bd (n:Nat)(p:List Int):Prop:=Prm p/\p.length=n
structure BdI (n:Nat) (nx:List Int->List (List Int)) (p:List Int) (st:List (List Int × Int)) (k:Nat):Prop where
 ok:∀ e ∈ st,Bd n e.1
 nd:(st.map (·.1)).Nodup
 rng:∀ e ∈ st,0<=e.2/\e.2<st.length
 src:∀ e ∈ st,e=(p,0)∨∃ u ∈ st,e.1 ∈ nx u.1/\e.2=u.2+1
 cl:∀ j,j<k->∀ b ∈ nx (st.getD j ([],0)).1,b ∈ st.map (·.1)
 le:k<=st.length
 start:st.getD 0 ([],0)=(p,0)/\0<st.length
theorem nodupI_le:∀ (n:Nat) (l:List Int),l.Nodup->(∀ x ∈ l,0<=x/\x<n)->l.length<=n
 | 0,l,_,h=>by
  cases l with
  | nil=>simp
  | cons a l=>have:=h a (by simp);omega
 | n+1,l,hn,h=>by
  have:=nodupI_le n (l.erase (n:Int)) (hn.erase _) (fun x hx=>by
   have h1:=h x (List.mem_of_mem_erase hx)
   have h2:x ≠ n:=fun e=>by subst e;exact (hn.not_mem_erase) hx
   omega)
  have h3:l.length<=(l.erase (n:Int)).length+1:=by rw [List.length_erase];split <;> omega
  omega
theorem BdI.len_le {n:Nat}(hn:n<=6){nx:List Int->List (List Int)}{p:List Int}{st:List (List Int × Int)}{k:Nat}(h:BdI n nx p st k):st.length<=mny n:=by
 have:=nodupI_le (mny n) ((st.map (·.1)).map cod) (by
  rw [List.Nodup,List.pairwise_map]
  refine List.Pairwise.imp_of_mem ?_ h.nd
  intro a b ha hb hab e
  obtain ⟨u,hu,rfl⟩:=List.mem_map.1 ha
  obtain ⟨v,hv,rfl⟩:=List.mem_map.1 hb
  have h1:=h.ok u hu
  have h2:=h.ok v hv
  exact hab (cod_inj h1.1 h2.1 (by rw [h1.2];exact hn) (by rw [h1.2,h2.2]) e)) (fun x hx=>by
  obtain ⟨a,ha,rfl⟩:=List.mem_map.1 hx
  obtain ⟨u,hu,rfl⟩:=List.mem_map.1 ha
  have h1:=h.ok u hu
  have:=cod_rng h1.1 (by rw [h1.2];exact hn)
  rw [h1.2] at this;exact this)
 simpa using this
theorem bdIn_pre (d:Int):∀ (l:List (List Int)) (st:List (List Int × Int)),st<+:bdIn d l st
 | [],st=>List.prefix_refl _
 | b :: r,st=>by
  simp only [bdIn]
  split
  ·exact bdIn_pre d r st
  ·exact (List.prefix_append _ _).trans (bdIn_pre d r _)
theorem bdIn_mem (d:Int):∀ (l:List (List Int)) (st:List (List Int × Int)) (e:List Int × Int),e ∈ bdIn d l st->e ∈ st∨(e.2=d/\e.1 ∈ l)
 | [],st,e,h=>.inl h
 | b :: r,st,e,h=>by
  simp only [bdIn] at h
  rcases bdIn_mem d r _ e h with h1 | ⟨h1,h2⟩
  ·split at h1
   ·exact .inl h1
   ·rcases List.mem_append.1 h1 with h1 | h1
    ·exact .inl h1
    ·simp only [List.mem_cons,List.not_mem_nil,or_false] at h1
     subst h1;exact .inr ⟨rfl,by simp⟩
  ·exact .inr ⟨h1,by simp [h2]⟩
theorem bdIn_get (d:Int):∀ (l:List (List Int)) (st:List (List Int × Int)),∀ b ∈ l,b ∈ (bdIn d l st).map (·.1)
 | [],st,b,h=>by simp at h
 | c :: r,st,b,h=>by
  simp only [bdIn]
  rcases List.mem_cons.1 h with rfl | h
  ·obtain ⟨t,ht⟩:=bdIn_pre d r (if b ∈ st.map (·.1) then st else st ++ [(b,d)])
   rw [<- ht,List.map_append]
   refine List.mem_append.2 (.inl ?_)
   split
   ·assumption
   ·simp
  ·exact bdIn_get d r _ b h
theorem bdIn_nd (d:Int):∀ (l:List (List Int)) (st:List (List Int × Int)),(st.map (·.1)).Nodup->((bdIn d l st).map (·.1)).Nodup
 | [],st,h=>h
 | b :: r,st,h=>by
  simp only [bdIn]
  refine bdIn_nd d r _ ?_
  split
  ·exact h
  ·rename_i hb
   rw [List.map_append,List.Nodup,List.pairwise_append]
   refine ⟨h,by simp,fun x hx y hy e=>?_⟩
   simp only [List.map_cons,List.map_nil,List.mem_cons,List.not_mem_nil,or_false] at hy
   subst hy;subst e;exact hb hx
theorem BdI.step {n:Nat}{nx:List Int->List (List Int)}(hnx:∀ b,Bd n b->∀ c ∈ nx b,Bd n c){p:List Int}{st:List (List Int × Int)}{k:Nat}(h:BdI n nx p st k)(hk:k<st.length) :
  BdI n nx p (bdIn ((st.getD k ([],0)).2+1) (nx (st.getD k ([],0)).1) st) (k+1):=by
 have hm:st.getD k ([],0) ∈ st:=by simp [hk]
 generalize hu:st.getD k ([],0)=u at *
 have hpre:=bdIn_pre (u.2+1) (nx u.1) st
 have hle:=hpre.length_le
 have keep:∀ j,j<st.length->(bdIn (u.2+1) (nx u.1) st).getD j ([],0)=st.getD j ([],0):=by
  intro j hj
  obtain ⟨t,ht⟩:=hpre
  rw [<- ht,List.getD_eq_getElem?_getD,List.getElem?_append_left hj,<- List.getD_eq_getElem?_getD]
 have hku:=h.rng u hm
 have hgrow:∀ e ∈ bdIn (u.2+1) (nx u.1) st,e ∉ st->st.length<(bdIn (u.2+1) (nx u.1) st).length:=by
  intro e he hn
  obtain ⟨t,ht⟩:=hpre
  rw [<- ht] at he ⊢
  rcases List.mem_append.1 he with h1 | h1
  ·exact absurd h1 hn
  ·rw [List.length_append]
   have:=List.length_pos_of_mem h1
   omega
 refine ⟨?_,bdIn_nd _ _ _ h.nd,?_,?_,?_,by omega,?_⟩
 ·intro e he
  rcases bdIn_mem _ _ _ e he with h1 | ⟨_,h2⟩
  ·exact h.ok e h1
  ·exact hnx u.1 (h.ok u hm) _ h2
 ·intro e he
  by_cases h1:e ∈ st
  ·have:=h.rng e h1;omega
  ·have:=hgrow e he h1
   rcases bdIn_mem _ _ _ e he with h3 | ⟨h3,_⟩
   ·exact absurd h3 h1
   ·omega
 ·intro e he
  rcases bdIn_mem _ _ _ e he with h1 | ⟨h1,h2⟩
  ·rcases h.src e h1 with h3 | ⟨v,h3,h4⟩
   ·exact .inl h3
   ·exact .inr ⟨v,hpre.subset h3,h4⟩
  ·exact .inr ⟨u,hpre.subset hm,h2,h1⟩
 ·intro j hj b hb
  rw [keep j (by omega)] at hb
  by_cases e:j=k
  ·subst e;rw [hu] at hb
   exact bdIn_get _ _ _ b hb
  ·have:=h.cl j (by omega) b hb
   obtain ⟨e,h1,h2⟩:=List.mem_map.1 this
   exact List.mem_map.2 ⟨e,hpre.subset h1,h2⟩
 ·exact ⟨by rw [keep 0 h.start.2];exact h.start.1,by have:=h.start.2;omega⟩
theorem BdI.zero {n:Nat}{nx:List Int->List (List Int)}{p:List Int}(hp:Bd n p):BdI n nx p [(p,0)] 0:=by
 refine ⟨fun e he=>?_,by simp,fun e he=>?_,fun e he=>.inl (by simpa using he),fun j hj=>absurd hj (Nat.not_lt_zero j),Nat.zero_le _,⟨rfl,by simp⟩⟩
 ·simp only [List.mem_cons,List.not_mem_nil,or_false] at he
  subst he;exact hp
 ·simp only [List.mem_cons,List.not_mem_nil,or_false] at he
  subst he;simp
def cd183:Cd:=(.seq (.reg [⟨⟨some 4,.alloc 115,none⟩,[]⟩]) (.seq (.reg [⟨⟨some 5,.move (.tmp 0),none⟩,[]⟩,
 ⟨⟨some 6,.move (.tmp 1),none⟩,[]⟩,
 ⟨⟨some 7,.call ⟨(.builtin .min),#[.tmp 5,.tmp 6],#[3,3]⟩,none⟩,[]⟩,
 ⟨⟨some 8,.move (.tmp 0),none⟩,[]⟩,
 ⟨⟨some 9,.move (.tmp 1),none⟩,[]⟩,
 ⟨⟨some 10,.call ⟨(.builtin .max),#[.tmp 8,.tmp 9],#[3,3]⟩,none⟩,[]⟩,
 ⟨⟨some 11,.build 115 #[(0,.tmp 7),(1,.tmp 10)],none⟩,[]⟩,
 ⟨⟨none,.store 115 (.tmp 4) (.tmp 11),none⟩,[]⟩]) .ret))
theorem in183:InT Tryz.prog 183 2 [.cell 4 115] cd183:=InT.mk (by kernel_rfl) [] Tryz.func183 rfl (by kernel_rfl) (by kernel_rfl) (of_decide_eq_true (by kernel_rfl)) (by kernel_rfl)
end Go.Proofs.YtlcipphiflcaiaaGreat.Ai
namespace Go.Proofs.YtlcipphiflcaiaaGreat.Ai
open Go Go.RowKit
theorem pair_c (a b:Int)(H:AH):ACalls Tryz.prog 183 [.int .i64 a,.int .i64 b] H fun r H'=>r=.agg (List.toArray [.int .i64 (minI a b),.int .i64 (maxI a b)])/\H<+:H':=by
 refine in183 rfl ?_
 intro Q hQ
 have st:=store_a2 H [.int .i64 0,.int .i64 0] rfl
 simp (disch:=omega) only [cd183,alloc_a2,build_a2,st,SS,eq_self,reduceIte,reduceCtorEq,Nat.reduceEqDiff,Nat.reduceAdd]
 refine hQ _ _ _ (end_cell _ _ _ _ _ _ (.agg (List.toArray [.int .i64 (minI a b),.int .i64 (maxI a b)])) ?_ rfl ⟨rfl,List.prefix_append _ _⟩)
 simp only [SS,eq_self,reduceIte,reduceCtorEq,Nat.reduceEqDiff,Nat.reduceAdd]
 exact load_a2 ..
end Go.Proofs.YtlcipphiflcaiaaGreat.Ai
