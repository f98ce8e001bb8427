/- Texts of this claim, joined: Ty, Arr, Mark, Grf, Bag, Ones, Drw, Kps, Drb, Base, PermP, PutP, Sort, Good, PrA, Has, Put, Corn, IdxP, Tri, Tri2, Tri3, TriP, Dgs. -/
import Derived.Test.YtjnefjchconebaaGreatProg
import Derived.KernelRfl
import Derived.Laws.Bits64
import Derived.Laws.BitsLemmas
import Derived.Test.YtjnefjchconebaaGreatMgLawFdw2
set_option linter.unusedVariables false
set_option linter.unusedSimpArgs false
set_option maxHeartbeats 8000000
set_option maxRecDepth 20000
namespace Go.Proofs.YtjnefjchconebaaGreat.Ai
open Go Go.RowKit
theorem cs3:Tryz.prog.cellsOf 3=1:=by kernel_rfl
theorem by3:Tryz.prog.bytesOf 3=8:=by kernel_rfl
theorem ag3:isAggA Tryz.prog 3=some false:=by kernel_rfl
theorem ze3:zeroA Tryz.prog 3=some (.int .i64 0):=by kernel_rfl
theorem zk3:zeroOk Tryz.prog 3=true:=by kernel_rfl
theorem ag4:isAggA Tryz.prog 4=some false:=by kernel_rfl
theorem ag5:isAggA Tryz.prog 5=some false:=by kernel_rfl
theorem ag9:isAggA Tryz.prog 9=some false:=by kernel_rfl
theorem cs24:Tryz.prog.cellsOf 24=1:=by kernel_rfl
theorem ag24:isAggA Tryz.prog 24=some false:=by kernel_rfl
theorem cs27:Tryz.prog.cellsOf 27=1:=by kernel_rfl
theorem by27:Tryz.prog.bytesOf 27=24:=by kernel_rfl
theorem ag27:isAggA Tryz.prog 27=some false:=by kernel_rfl
theorem ze27:zeroA Tryz.prog 27=some (.slice none 0 0):=by kernel_rfl
theorem zk27:zeroOk Tryz.prog 27=true:=by kernel_rfl
theorem ag34:isAggA Tryz.prog 34=some false:=by kernel_rfl
theorem cs36:Tryz.prog.cellsOf 36=1:=by kernel_rfl
theorem ag36:isAggA Tryz.prog 36=some false:=by kernel_rfl
theorem cs38:Tryz.prog.cellsOf 38=2:=by kernel_rfl
theorem ag38:isAggA Tryz.prog 38=some true:=by kernel_rfl
theorem cs47:Tryz.prog.cellsOf 47=2:=by kernel_rfl
theorem by47:Tryz.prog.bytesOf 47=16:=by kernel_rfl
theorem ag47:isAggA Tryz.prog 47=some true:=by kernel_rfl
theorem ze47:zeroA Tryz.prog 47=some (.agg #[(.int .i64 0),(.int .i64 0)]):=by kernel_rfl
theorem zk47:zeroOk Tryz.prog 47=true:=by kernel_rfl
theorem ag73:isAggA Tryz.prog 73=some false:=by kernel_rfl
theorem ag87:isAggA Tryz.prog 87=some false:=by kernel_rfl
theorem ag90:isAggA Tryz.prog 90=some false:=by kernel_rfl
theorem ag92:isAggA Tryz.prog 92=some false:=by kernel_rfl
theorem ag105:isAggA Tryz.prog 105=some false:=by kernel_rfl
theorem ag117:isAggA Tryz.prog 117=some false:=by kernel_rfl
theorem ag121:isAggA Tryz.prog 121=some false:=by kernel_rfl
theorem ag122:isAggA Tryz.prog 122=some false:=by kernel_rfl
theorem cs123:Tryz.prog.cellsOf 123=1:=by kernel_rfl
theorem ag123:isAggA Tryz.prog 123=some false:=by kernel_rfl
theorem ze123:zeroA Tryz.prog 123=some (.int .u64 0):=by kernel_rfl
theorem ag149:isAggA Tryz.prog 149=some false:=by kernel_rfl
theorem ag172:isAggA Tryz.prog 172=some false:=by kernel_rfl
theorem own1_24 {H0 H:AH}{v:Value}{ps:List (Int × Int)}(h:MineP 47 H0 H v ps)(hp:H0<+:H)(hb:ps.length<=1099511627775)(a b:Int):∃ v' H',appendA Tryz.prog 24 24 v (.slice (some ⟨H.length,0,none⟩) 1 1) (H ++ [.cells [.int .i64 a,.int .i64 b] 47 false])=some (v',H')/\MineP 47 H0 H' v' (ps ++ [(a,b)])/\H0<+:H'/\Kept v H H'/\H.length<=rowO v'/\isTup v'=false:=MineP.app1 Tryz.underlying24 cs47 (by rw [by47];decide) zk47 h hp hb a b
theorem app27 {H:AH}{o:Nat}{vs:List Value}{v:Value}{n c:Nat}(ho:H[o]?=some (.cells vs 3 false))(hn:vs.length=n)(hb:n<=1099511627776):appendA Tryz.prog 27 27 (.slice (some ⟨o,0,none⟩) n c) (.slice (some ⟨H.length,0,none⟩) 1 1) (H ++ [.cells [v] 3 false])=some (.slice (some ⟨H.length+1,0,none⟩) (n+1) (n+1),H.set o .dead ++ [.cells [v] 3 false,.cells (vs ++ [v]) 3 false]):=app_one Tryz.underlying27 cs3 (by rw [by3];decide) zk3 ho hn hb
theorem mks27 {n:Int}(h0:0<=n)(h1:n<=1099511627776)(H:AH):makeSliceA Tryz.prog 27 (.int .i64 n) (.int .i64 n) H=some (.slice (some ⟨H.length,0,none⟩) n.toNat n.toNat,H ++ [.cells (ints (List.replicate n.toNat 0)) 3 false]):=mk_ints Tryz.underlying27 cs3 (by rw [by3];decide) ze3 h0 h1 H
theorem own1_27 {H0 H:AH}{v:Value}{ys:List Int}(h:Own 3 H0 H v ys)(hp:H0<+:H)(hb:ys.length<=1099511627775)(x:Int):∃ v' H',appendA Tryz.prog 27 27 v (.slice (some ⟨H.length,0,none⟩) 1 1) (H ++ [.cells [.int .i64 x] 3 false])=some (v',H')/\Own 3 H0 H' v' (ys ++ [x])/\H0<+:H'/\Kept v H H'/\H.length<=rowO v'/\isTup v'=false:=Own.app1 Tryz.underlying27 cs3 (by rw [by3];decide) zk3 h hp hb x
theorem appi27 {H:AH}{o:Nat}{xs:List Int}{x:Int}{n c:Nat}(ho:H[o]?=some (.cells (ints xs) 3 false))(hn:xs.length=n)(hb:n<=1099511627776):appendA Tryz.prog 27 27 (.slice (some ⟨o,0,none⟩) n c) (.slice (some ⟨H.length,0,none⟩) 1 1) (H ++ [.cells [.int .i64 x] 3 false])=some (.slice (some ⟨H.length+1,0,none⟩) (n+1) (n+1),H.set o .dead ++ [.cells [.int .i64 x] 3 false,.cells (ints (xs ++ [x])) 3 false]):=by rw [ints_app];exact app27 ho (by rw [ints_len];exact hn) hb
theorem ST:(∀ p H,loadA Tryz.prog 3 (.pointer (some p)) H=cellA H p.block p.off) /\
    (∀ p H,loadA Tryz.prog 4 (.pointer (some p)) H=cellA H p.block p.off) /\
    (∀ a b,binA Tryz.prog .eql 4 (.bool a) (.bool b)=some (.bool (decide (a=b)))) /\
    (∀ a b,binA Tryz.prog .neq 4 (.bool a) (.bool b)=some (.bool (decide (a ≠ b)))) /\
    (∀ p H,loadA Tryz.prog 5 (.pointer (some p)) H=cellA H p.block p.off) /\
    (∀ p H,loadA Tryz.prog 9 (.pointer (some p)) H=cellA H p.block p.off) /\
    (∀ p H,loadA Tryz.prog 24 (.pointer (some p)) H=cellA H p.block p.off) /\
    (∀ H,buildSliceA Tryz.prog 24 0 [] H=some (.slice (some ⟨H.length,0,none⟩) 0 0,H ++ [.cells [] 47 false])) /\
    (∀ H a b,buildSliceA Tryz.prog 24 1 [(0,.agg (List.toArray [a,b]))] H=some (.slice (some ⟨H.length,0,none⟩) 1 1,H ++ [.cells [a,b] 47 false])) /\
    (∀ (p:Addr) (n c:Nat) (k:IntKind) {i:Int},0<=i->i<(n:Int)->indexAddrA Tryz.prog 24 (.slice (some p) n c) (.int k i)=some (.pointer (some ⟨p.block,p.off+2 * i.toNat,none⟩))) /\
    (∀ a n c m d,binA Tryz.prog .eql 24 (.slice a n c) (.slice none m d)=some (.bool (a.isNone))) /\
    (∀ a n c m d,binA Tryz.prog .neq 24 (.slice a n c) (.slice none m d)=some (.bool (!a.isNone))) /\
    (∀ x H,lenS Tryz.prog 24 x H=lenA Tryz.prog 24 x) /\
    (∀ p n c,lenA Tryz.prog 24 (.slice p n c)=some (.int .i64 n)) /\
    (∀ (p:Addr),fieldAddrA Tryz.prog 26 (.pointer (some p)) 0=some (.pointer (some ⟨p.block,p.off,none⟩))) /\
    (∀ (p:Addr),fieldAddrA Tryz.prog 26 (.pointer (some p)) 1=some (.pointer (some ⟨p.block,p.off+1,none⟩))) /\
    (∀ p H,loadA Tryz.prog 27 (.pointer (some p)) H=cellA H p.block p.off) /\
    (∀ (p:Addr) (n c:Nat) (k:IntKind) {i:Int},0<=i->i<(n:Int)->indexAddrA Tryz.prog 27 (.slice (some p) n c) (.int k i)=some (.pointer (some ⟨p.block,p.off+i.toNat,none⟩))) /\
    (∀ H,buildSliceA Tryz.prog 27 0 [] H=some (.slice (some ⟨H.length,0,none⟩) 0 0,H ++ [.cells [] 3 false])) /\
    (∀ H k0 x0,buildSliceA Tryz.prog 27 1 [(0,(.int k0 x0))] H=some (.slice (some ⟨H.length,0,none⟩) 1 1,H ++ [.cells [(.int k0 x0)] 3 false])) /\
    (∀ H k0 x0 k1 x1,buildSliceA Tryz.prog 27 2 [(0,(.int k0 x0)),(1,(.int k1 x1))] H=some (.slice (some ⟨H.length,0,none⟩) 2 2,H ++ [.cells [(.int k0 x0),(.int k1 x1)] 3 false])) /\
    (∀ H k0 x0 k1 x1 k2 x2,buildSliceA Tryz.prog 27 3 [(0,(.int k0 x0)),(1,(.int k1 x1)),(2,(.int k2 x2))] H=some (.slice (some ⟨H.length,0,none⟩) 3 3,H ++ [.cells [(.int k0 x0),(.int k1 x1),(.int k2 x2)] 3 false])) /\
    (∀ a n c m d,binA Tryz.prog .eql 27 (.slice a n c) (.slice none m d)=some (.bool (a.isNone))) /\
    (∀ a n c m d,binA Tryz.prog .neq 27 (.slice a n c) (.slice none m d)=some (.bool (!a.isNone))) /\
    (∀ x H,lenS Tryz.prog 27 x H=lenA Tryz.prog 27 x) /\
    (∀ p n c,lenA Tryz.prog 27 (.slice p n c)=some (.int .i64 n)) /\
    (∀ p H,loadA Tryz.prog 34 (.pointer (some p)) H=cellA H p.block p.off) /\
    (∀ p H,loadA Tryz.prog 36 (.pointer (some p)) H=cellA H p.block p.off) /\
    (∀ (p:Addr) (n c:Nat) (k:IntKind) {i:Int},0<=i->i<(n:Int)->indexAddrA Tryz.prog 36 (.slice (some p) n c) (.int k i)=some (.pointer (some ⟨p.block,p.off+i.toNat,none⟩))) /\
    (∀ H,buildSliceA Tryz.prog 36 0 [] H=some (.slice (some ⟨H.length,0,none⟩) 0 0,H ++ [.cells [] 27 false])) /\
    (∀ H p0 n0 c0,buildSliceA Tryz.prog 36 1 [(0,(.slice p0 n0 c0))] H=some (.slice (some ⟨H.length,0,none⟩) 1 1,H ++ [.cells [(.slice p0 n0 c0)] 27 false])) /\
    (∀ H p0 n0 c0 p1 n1 c1,buildSliceA Tryz.prog 36 2 [(0,(.slice p0 n0 c0)),(1,(.slice p1 n1 c1))] H=some (.slice (some ⟨H.length,0,none⟩) 2 2,H ++ [.cells [(.slice p0 n0 c0),(.slice p1 n1 c1)] 27 false])) /\
    (∀ H p0 n0 c0 p1 n1 c1 p2 n2 c2,buildSliceA Tryz.prog 36 3 [(0,(.slice p0 n0 c0)),(1,(.slice p1 n1 c1)),(2,(.slice p2 n2 c2))] H=some (.slice (some ⟨H.length,0,none⟩) 3 3,H ++ [.cells [(.slice p0 n0 c0),(.slice p1 n1 c1),(.slice p2 n2 c2)] 27 false])) /\
    (∀ a n c m d,binA Tryz.prog .eql 36 (.slice a n c) (.slice none m d)=some (.bool (a.isNone))) /\
    (∀ a n c m d,binA Tryz.prog .neq 36 (.slice a n c) (.slice none m d)=some (.bool (!a.isNone))) /\
    (∀ x H,lenS Tryz.prog 36 x H=lenA Tryz.prog 36 x) /\
    (∀ p n c,lenA Tryz.prog 36 (.slice p n c)=some (.int .i64 n)) /\
    (∀ (p:Addr),fieldAddrA Tryz.prog 38 (.pointer (some p)) 0=some (.pointer (some ⟨p.block,p.off,none⟩))) /\
    (∀ (p:Addr),fieldAddrA Tryz.prog 38 (.pointer (some p)) 1=some (.pointer (some ⟨p.block,p.off+1,none⟩))) /\
    (∀ (p:Addr) (k:IntKind),indexAddrA Tryz.prog 47 (.pointer (some p)) (.int k 0)=some (.pointer (some ⟨p.block,p.off,none⟩))) /\
    (∀ (p:Addr) (k:IntKind),indexAddrA Tryz.prog 47 (.pointer (some p)) (.int k 1)=some (.pointer (some ⟨p.block,p.off+1,none⟩))) /\
    (∀ p H,loadA Tryz.prog 73 (.pointer (some p)) H=cellA H p.block p.off) /\
    (∀ x H,lenS Tryz.prog 73 x H=lenMapA Tryz.prog 73 x H) /\
    (∀ p H,loadA Tryz.prog 87 (.pointer (some p)) H=cellA H p.block p.off) /\
    (∀ p H,loadA Tryz.prog 90 (.pointer (some p)) H=cellA H p.block p.off) /\
    (∀ p H,loadA Tryz.prog 92 (.pointer (some p)) H=cellA H p.block p.off) /\
    (∀ p H,loadA Tryz.prog 105 (.pointer (some p)) H=cellA H p.block p.off) /\
    (∀ p H,loadA Tryz.prog 117 (.pointer (some p)) H=cellA H p.block p.off) /\
    (∀ p H,loadA Tryz.prog 121 (.pointer (some p)) H=cellA H p.block p.off) /\
    (∀ (p:Addr) (n c:Nat) (k:IntKind) {i:Int},0<=i->i<(n:Int)->indexAddrA Tryz.prog 121 (.slice (some p) n c) (.int k i)=some (.pointer (some ⟨p.block,p.off+i.toNat,none⟩))) /\
    (∀ H,buildSliceA Tryz.prog 121 0 [] H=some (.slice (some ⟨H.length,0,none⟩) 0 0,H ++ [.cells [] 123 false])) /\
    (∀ H k0 x0,buildSliceA Tryz.prog 121 1 [(0,(.int k0 x0))] H=some (.slice (some ⟨H.length,0,none⟩) 1 1,H ++ [.cells [(.int k0 x0)] 123 false])) /\
    (∀ H k0 x0 k1 x1,buildSliceA Tryz.prog 121 2 [(0,(.int k0 x0)),(1,(.int k1 x1))] H=some (.slice (some ⟨H.length,0,none⟩) 2 2,H ++ [.cells [(.int k0 x0),(.int k1 x1)] 123 false])) /\
    (∀ H k0 x0 k1 x1 k2 x2,buildSliceA Tryz.prog 121 3 [(0,(.int k0 x0)),(1,(.int k1 x1)),(2,(.int k2 x2))] H=some (.slice (some ⟨H.length,0,none⟩) 3 3,H ++ [.cells [(.int k0 x0),(.int k1 x1),(.int k2 x2)] 123 false])) /\
    (∀ a n c m d,binA Tryz.prog .eql 121 (.slice a n c) (.slice none m d)=some (.bool (a.isNone))) /\
    (∀ a n c m d,binA Tryz.prog .neq 121 (.slice a n c) (.slice none m d)=some (.bool (!a.isNone))) /\
    (∀ x H,lenS Tryz.prog 121 x H=lenA Tryz.prog 121 x) /\
    (∀ p n c,lenA Tryz.prog 121 (.slice p n c)=some (.int .i64 n)) /\
    (∀ p H,loadA Tryz.prog 122 (.pointer (some p)) H=cellA H p.block p.off) /\
    (∀ p H,loadA Tryz.prog 123 (.pointer (some p)) H=cellA H p.block p.off) /\
    (∀ p H,loadA Tryz.prog 149 (.pointer (some p)) H=cellA H p.block p.off) /\
    (∀ p H,loadA Tryz.prog 172 (.pointer (some p)) H=cellA H p.block p.off) /\
    (∀ k n,convA Tryz.prog 3 5 (.int k n)=some (.int .u8 (IntKind.u8.wrap n))) /\
    (∀ k n,convA Tryz.prog 3 87 (.int k n)=some (.int .u64 (IntKind.u64.wrap n))) /\
    (∀ k n,convA Tryz.prog 3 122 (.int k n)=some (.int .u64 (IntKind.u64.wrap n))) /\
    (∀ k n,convA Tryz.prog 3 123 (.int k n)=some (.int .u64 (IntKind.u64.wrap n))) /\
    (∀ k n,convA Tryz.prog 3 172 (.int k n)=some (.int .u32 (IntKind.u32.wrap n))) /\
    (∀ k n,convA Tryz.prog 5 3 (.int k n)=some (.int .i64 (IntKind.i64.wrap n))) /\
    (∀ k n,convA Tryz.prog 5 87 (.int k n)=some (.int .u64 (IntKind.u64.wrap n))) /\
    (∀ k n,convA Tryz.prog 5 122 (.int k n)=some (.int .u64 (IntKind.u64.wrap n))) /\
    (∀ k n,convA Tryz.prog 5 123 (.int k n)=some (.int .u64 (IntKind.u64.wrap n))) /\
    (∀ k n,convA Tryz.prog 5 172 (.int k n)=some (.int .u32 (IntKind.u32.wrap n))) /\
    (∀ k n,convA Tryz.prog 87 3 (.int k n)=some (.int .i64 (IntKind.i64.wrap n))) /\
    (∀ k n,convA Tryz.prog 87 5 (.int k n)=some (.int .u8 (IntKind.u8.wrap n))) /\
    (∀ k n,convA Tryz.prog 87 122 (.int k n)=some (.int .u64 (IntKind.u64.wrap n))) /\
    (∀ k n,convA Tryz.prog 87 123 (.int k n)=some (.int .u64 (IntKind.u64.wrap n))) /\
    (∀ k n,convA Tryz.prog 87 172 (.int k n)=some (.int .u32 (IntKind.u32.wrap n))) /\
    (∀ k n,convA Tryz.prog 122 3 (.int k n)=some (.int .i64 (IntKind.i64.wrap n))) /\
    (∀ k n,convA Tryz.prog 122 5 (.int k n)=some (.int .u8 (IntKind.u8.wrap n))) /\
    (∀ k n,convA Tryz.prog 122 87 (.int k n)=some (.int .u64 (IntKind.u64.wrap n))) /\
    (∀ k n,convA Tryz.prog 122 123 (.int k n)=some (.int .u64 (IntKind.u64.wrap n))) /\
    (∀ k n,convA Tryz.prog 122 172 (.int k n)=some (.int .u32 (IntKind.u32.wrap n))) /\
    (∀ k n,convA Tryz.prog 123 3 (.int k n)=some (.int .i64 (IntKind.i64.wrap n))) /\
    (∀ k n,convA Tryz.prog 123 5 (.int k n)=some (.int .u8 (IntKind.u8.wrap n))) /\
    (∀ k n,convA Tryz.prog 123 87 (.int k n)=some (.int .u64 (IntKind.u64.wrap n))) /\
    (∀ k n,convA Tryz.prog 123 122 (.int k n)=some (.int .u64 (IntKind.u64.wrap n))) /\
    (∀ k n,convA Tryz.prog 123 172 (.int k n)=some (.int .u32 (IntKind.u32.wrap n))) /\
    (∀ k n,convA Tryz.prog 172 3 (.int k n)=some (.int .i64 (IntKind.i64.wrap n))) /\
    (∀ k n,convA Tryz.prog 172 5 (.int k n)=some (.int .u8 (IntKind.u8.wrap n))) /\
    (∀ k n,convA Tryz.prog 172 87 (.int k n)=some (.int .u64 (IntKind.u64.wrap n))) /\
    (∀ k n,convA Tryz.prog 172 122 (.int k n)=some (.int .u64 (IntKind.u64.wrap n))) /\
    (∀ k n,convA Tryz.prog 172 123 (.int k n)=some (.int .u64 (IntKind.u64.wrap n))) :=
  ⟨ld_one ag3,
   ld_one ag4,
   eq_bool_eql Tryz.underlying4,
   eq_bool_neq Tryz.underlying4,
   ld_one ag5,
   ld_one ag9,
   ld_one ag24,
   bsP0 Tryz.underlying24 cs47 ze47 ⟨by kernel_rfl,by kernel_rfl⟩,
   bsP1 Tryz.underlying24 cs47 ze47,
   ix_two Tryz.underlying24 cs47,
   eq_nil_eql Tryz.underlying24,
   eq_nil_neq Tryz.underlying24,
   lenS_sl (by decide),
   ln_sl Tryz.underlying24,
   fun p=>by kernel_rfl,
   fun p=>by kernel_rfl,
   ld_one ag27,
   ix_one Tryz.underlying27 cs3,
   bs0 Tryz.underlying27 cs3 ze3 ⟨by kernel_rfl,by kernel_rfl⟩,
   fun H _ _=>bs1 Tryz.underlying27 cs3 ze3 ⟨by kernel_rfl,by kernel_rfl⟩ H rfl,
   fun H _ _ _ _=>bs2 Tryz.underlying27 cs3 ze3 ⟨by kernel_rfl,by kernel_rfl⟩ H rfl rfl,
   fun H _ _ _ _ _ _=>bs3 Tryz.underlying27 cs3 ze3 ⟨by kernel_rfl,by kernel_rfl⟩ H rfl rfl rfl,
   eq_nil_eql Tryz.underlying27,
   eq_nil_neq Tryz.underlying27,
   lenS_sl (by decide),
   ln_sl Tryz.underlying27,
   ld_one ag34,
   ld_one ag36,
   ix_one Tryz.underlying36 cs27,
   bs0 Tryz.underlying36 cs27 ze27 ⟨by kernel_rfl,by kernel_rfl⟩,
   fun H _ _ _=>bs1 Tryz.underlying36 cs27 ze27 ⟨by kernel_rfl,by kernel_rfl⟩ H rfl,
   fun H _ _ _ _ _ _=>bs2 Tryz.underlying36 cs27 ze27 ⟨by kernel_rfl,by kernel_rfl⟩ H rfl rfl,
   fun H _ _ _ _ _ _ _ _ _=>bs3 Tryz.underlying36 cs27 ze27 ⟨by kernel_rfl,by kernel_rfl⟩ H rfl rfl rfl,
   eq_nil_eql Tryz.underlying36,
   eq_nil_neq Tryz.underlying36,
   lenS_sl (by decide),
   ln_sl Tryz.underlying36,
   fun p=>by kernel_rfl,
   fun p=>by kernel_rfl,
   fun p k=>ix_arr Tryz.underlying47 cs3 p k (by decide) (by decide),
   fun p k=>ix_arr Tryz.underlying47 cs3 p k (by decide) (by decide),
   ld_one ag73,
   lenS_map,
   ld_one ag87,
   ld_one ag90,
   ld_one ag92,
   ld_one ag105,
   ld_one ag117,
   ld_one ag121,
   ix_one Tryz.underlying121 cs123,
   bs0 Tryz.underlying121 cs123 ze123 ⟨by kernel_rfl,by kernel_rfl⟩,
   fun H _ _=>bs1 Tryz.underlying121 cs123 ze123 ⟨by kernel_rfl,by kernel_rfl⟩ H rfl,
   fun H _ _ _ _=>bs2 Tryz.underlying121 cs123 ze123 ⟨by kernel_rfl,by kernel_rfl⟩ H rfl rfl,
   fun H _ _ _ _ _ _=>bs3 Tryz.underlying121 cs123 ze123 ⟨by kernel_rfl,by kernel_rfl⟩ H rfl rfl rfl,
   eq_nil_eql Tryz.underlying121,
   eq_nil_neq Tryz.underlying121,
   lenS_sl (by decide),
   ln_sl Tryz.underlying121,
   ld_one ag122,
   ld_one ag123,
   ld_one ag149,
   ld_one ag172,
   fun _ _=>by simp only [convA,Tryz.underlying3,Tryz.underlying5],
   fun _ _=>by simp only [convA,Tryz.underlying3,Tryz.underlying87],
   fun _ _=>by simp only [convA,Tryz.underlying3,Tryz.underlying122],
   fun _ _=>by simp only [convA,Tryz.underlying3,Tryz.underlying123],
   fun _ _=>by simp only [convA,Tryz.underlying3,Tryz.underlying172],
   fun _ _=>by simp only [convA,Tryz.underlying5,Tryz.underlying3],
   fun _ _=>by simp only [convA,Tryz.underlying5,Tryz.underlying87],
   fun _ _=>by simp only [convA,Tryz.underlying5,Tryz.underlying122],
   fun _ _=>by simp only [convA,Tryz.underlying5,Tryz.underlying123],
   fun _ _=>by simp only [convA,Tryz.underlying5,Tryz.underlying172],
   fun _ _=>by simp only [convA,Tryz.underlying87,Tryz.underlying3],
   fun _ _=>by simp only [convA,Tryz.underlying87,Tryz.underlying5],
   fun _ _=>by simp only [convA,Tryz.underlying87,Tryz.underlying122],
   fun _ _=>by simp only [convA,Tryz.underlying87,Tryz.underlying123],
   fun _ _=>by simp only [convA,Tryz.underlying87,Tryz.underlying172],
   fun _ _=>by simp only [convA,Tryz.underlying122,Tryz.underlying3],
   fun _ _=>by simp only [convA,Tryz.underlying122,Tryz.underlying5],
   fun _ _=>by simp only [convA,Tryz.underlying122,Tryz.underlying87],
   fun _ _=>by simp only [convA,Tryz.underlying122,Tryz.underlying123],
   fun _ _=>by simp only [convA,Tryz.underlying122,Tryz.underlying172],
   fun _ _=>by simp only [convA,Tryz.underlying123,Tryz.underlying3],
   fun _ _=>by simp only [convA,Tryz.underlying123,Tryz.underlying5],
   fun _ _=>by simp only [convA,Tryz.underlying123,Tryz.underlying87],
   fun _ _=>by simp only [convA,Tryz.underlying123,Tryz.underlying122],
   fun _ _=>by simp only [convA,Tryz.underlying123,Tryz.underlying172],
   fun _ _=>by simp only [convA,Tryz.underlying172,Tryz.underlying3],
   fun _ _=>by simp only [convA,Tryz.underlying172,Tryz.underlying5],
   fun _ _=>by simp only [convA,Tryz.underlying172,Tryz.underlying87],
   fun _ _=>by simp only [convA,Tryz.underlying172,Tryz.underlying122],
   fun _ _=>by simp only [convA,Tryz.underlying172,Tryz.underlying123]⟩
theorem SS : type_of% S ∧ type_of% S1 ∧ type_of% S2 ∧ type_of% S3 ∧ type_of% S4 ∧ type_of% S5 ∧ type_of% ST := ⟨S,S1,S2,S3,S4,S5,ST⟩
theorem alloc_a2 (H:AH):allocA Tryz.prog 47 H=some (.pointer (some ⟨H.length,0,none⟩),H ++ [.cells [.int .i64 0,.int .i64 0] 47 false]):=by kernel_rfl
theorem build_a2 (a b:Int):buildA Tryz.prog 47 [(0,.int .i64 a),(1,.int .i64 b)]=some (.agg (List.toArray [.int .i64 a,.int .i64 b])):=by kernel_rfl
theorem store_a2 (H:AH)(vs:List Value)(hv:vs.length=2)(a b:Value):storeA Tryz.prog 47 (.pointer (some ⟨H.length,0,none⟩)) (.agg (List.toArray [a,b])) (H ++ [.cells vs 47 false])=some (H ++ [.cells [a,b] 47 false]) :=
  st_new rfl (by rw [cs47];rfl) (by rw [cs47];decide) (by rw [cs47];exact hv)
theorem load_a2 (H:AH)(a b:Value):loadA Tryz.prog 47 (.pointer (some ⟨H.length,0,none⟩)) (H ++ [.cells [a,b] 47 false])=some (.agg (List.toArray [a,b])):=by
  simp only [loadA,at_new,ag47,cs47]
  rfl
theorem end_cell (P:Program)(a:Nat)(t:TypeId)(R:Value->AH->Prop)(s:Sl)(H:AH)(v:Value)(h:loadA P t (s a) H=some v)(ht:isTup v=false)(hr:R v H):endA P [.cell a t] R .ret s H:=by
  simp only [endA,resA,h,ht]
  simp [outA]
  exact hr
theorem box_a2 (H:AH)(x y:Value):boxA Tryz.prog 47 (.agg (List.toArray [x,y])) H=some (.pointer (some ⟨H.length,0,none⟩),H ++ [.cells [x,y] 47 false]):=by kernel_rfl
theorem st_a2 {H:AH}{o:Nat}{vs:List Value}{e:TypeId}(ho:H[o]?=some (.cells vs e false))(hv:vs.length=2)(a b:Value):storeA Tryz.prog 47 (.pointer (some ⟨o,0,none⟩)) (.agg (List.toArray [a,b])) H=some (H.set o (.cells [a,b] e false)):=by
  simp only [storeA,ho,cs47]
  have hcl:(Value.agg (List.toArray [a,b])).cells.toList=[a,b]:=rfl
  rw [hcl,if_pos ⟨rfl,rfl,by decide,by rw [hv];exact Nat.le_refl 2⟩]
  have:putAt vs 0 [a,b]=[a,b]:=by
    unfold putAt
    rw [List.take_zero,List.nil_append,List.drop_of_length_le (by simp;omega),List.append_nil]
  rw [this]
theorem ld_a2 {H:AH}{o:Nat}{a b:Value}{e:TypeId}{ro:Bool}(ho:H[o]?=some (.cells [a,b] e ro)):loadA Tryz.prog 47 (.pointer (some ⟨o,0,none⟩)) H=some (.agg (List.toArray [a,b])) :=
  ld_two ag47 cs47 (by rw [cell_of ho];rfl) (by rw [cell_of ho];rfl)
theorem take_set_succ (zs:List Int)(i:Nat)(x:Int)(h:i<zs.length):(zs.set i x).take (i+1)=zs.take i ++ [x]:=by
  rw [List.take_add_one,List.getElem?_set_self h]
  congr 1
  apply List.ext_getElem?
  intro j
  rw [List.getElem?_take,List.getElem?_take]
  by_cases hj:j<i
  . rw [if_pos hj,if_pos hj,List.getElem?_set_ne (by omega)]
  . rw [if_neg hj,if_neg hj]
theorem st_at {P:Program}{t e:TypeId}(hc:P.cellsOf t=1){H:AH}{o i:Nat}{vs:List Value}{y:Value}(ho:H[o]?=some (.cells vs e false))(hi:i<vs.length)(h1:isTup y=false)(h2:y.cells.toList=[y]) :
    storeA P t (.pointer (some ⟨o,i,none⟩)) y H=some (H.set o (.cells (vs.set i y) e false)):=by
  simp only [storeA,ho]
  rw [h2,if_pos ⟨h1,by rw [hc];rfl,by omega,by simp;omega⟩]
  have:putAt vs i [y]=vs.set i y:=by
    unfold putAt
    rw [List.set_eq_take_append_cons_drop,if_pos hi]
    simp
  rw [this]
theorem ld_agg {P:Program}{t e:TypeId}(h:isAggA P t=some true)(hc:P.cellsOf t=2){H:AH}{o:Nat}{a b:Value}{ro:Bool}(ho:H[o]?=some (.cells [a,b] e ro)):loadA P t (.pointer (some ⟨o,0,none⟩)) H=some (.agg (List.toArray [a,b])) :=
  ld_two h hc (by rw [cell_of ho];rfl) (by rw [cell_of ho];rfl)
section
variable {e:TypeId} {G H:AH} {v:Value} {ps:List (Int × Int)}
end
theorem MineP.keepL {e:TypeId}{H0 H H':AH}{v:Value}{ps:List (Int × Int)}(h:MineP e H0 H v ps)(hh:H0.length<=rowO v->∀ y,H[rowO v]?=some y->H'[rowO v]?=some y):MineP e H0 H' v ps:=by
  rcases h with h | ⟨o,zs,h1,h2,h3,h4⟩
  . exact .inl h
  . subst h1;exact .inr ⟨o,zs,rfl,h2,hh h2 _ h3,h4⟩
theorem cell_new (H:AH)(vs:List Value)(e:TypeId)(ro:Bool)(i:Nat):cellA (H ++ [.cells vs e ro]) H.length i=vs[i]?:=cell_of (at_new ..) i
end Go.Proofs.YtjnefjchconebaaGreat.Ai
namespace Go.Proofs.YtjnefjchconebaaGreat.Ai
open Go Go.RowKit
theorem ofInt_nat (n:Nat)(h:n<2 ^ 64):(BitVec.ofInt 64 (n:Int)).toNat=n:=by
  rw [BitVec.ofInt_natCast,BitVec.toNat_ofNat,Nat.mod_eq_of_lt h]
theorem and_nat (a b:Nat)(ha:a<2 ^ 64)(hb:b<2 ^ 64):bitsA .and .u64 (a:Int) (b:Int)=((a &&& b:Nat):Int):=by
  have h:a &&& b<2 ^ 64:=Nat.lt_of_le_of_lt Nat.and_le_left ha
  have e:(BitVec.ofInt 64 (a:Int) &&& BitVec.ofInt 64 (b:Int)).toNat=a &&& b:=by rw [BitVec.toNat_and,ofInt_nat a ha,ofInt_nat b hb]
  show IntKind.u64.wrap (((BitVec.ofInt 64 (a:Int) &&& BitVec.ofInt 64 (b:Int)).toNat:Nat):Int)=_
  rw [e,IntKind.wrap_u64];omega
theorem shr_nat (a y:Nat)(hy:y<=64):(a:Int).fdiv (2 ^ (min (y:Int).toNat 64))=((a / 2 ^ y:Nat):Int):=by
  rw [Int.toNat_natCast,Nat.min_eq_left hy]
  rw [Int.fdiv_eq_ediv_of_nonneg _ (Int.le_of_lt (Int.pow_pos (by decide)))]
  norm_cast
theorem bin_and (P:Program)(t:TypeId)(a b:Nat)(ha:a<2 ^ 64)(hb:b<2 ^ 64):binA P .and t (.int .u64 (a:Int)) (.int .u64 (b:Int))=some (.int .u64 ((a &&& b:Nat):Int)):=by
  simp only [binA,intA,and_nat a b ha hb]
  simp
def Bits (b:Nat)(L:Nat)(s:List Int):Prop:=b<256/\∀ z,z<L->b.testBit z=decide ((z:Int) ∈ s)
theorem Bits.or {b L y:Nat}{s:List Int}(h:Bits b L s)(hy:y<8):Bits (b ||| 2 ^ y) L (s ++ [(y:Int)]):=by
  refine ⟨?_,fun z hz=>?_⟩
  . have h1:2 ^ y<2 ^ 8:=Nat.pow_lt_pow_right (by decide) hy
    exact Nat.or_lt_two_pow (n:=8) h.1 h1
  . rw [Nat.testBit_or,h.2 z hz,Nat.testBit_two_pow]
    have e:(y=z)↔((z:Int)=y):=by omega
    by_cases hm:(z:Int) ∈ s <;> by_cases hz2:y=z <;> simp [hm,hz2,e]
    . intro hh;exact hz2 (by omega)
theorem Bits.no {b L x y:Nat}{s:List Int}(h:Bits b L s)(hx:x<L)(hy:y<L):(b &&& (2 ^ x ||| 2 ^ y) ≠ 0)↔((x:Int) ∈ s∨(y:Int) ∈ s):=by
  have hbx:=h.2 x hx
  have hby:=h.2 y hy
  constructor
  . intro hne
    apply Decidable.byContradiction
    intro hno
    rw [not_or] at hno
    rw [decide_eq_false hno.1] at hbx
    rw [decide_eq_false hno.2] at hby
    apply hne
    apply Nat.eq_of_testBit_eq
    intro z
    rw [Nat.testBit_and,Nat.testBit_or,Nat.testBit_two_pow,Nat.testBit_two_pow,Nat.zero_testBit]
    by_cases e1:x=z
    . subst e1;rw [hbx];rfl
    . by_cases e2:y=z
      . subst e2;rw [hby];rfl
      . simp [e1,e2]
  . rintro h' h0
    rcases h' with g | g
    . rw [decide_eq_true g] at hbx
      have:=congrArg (fun n=>Nat.testBit n x) h0
      simp only [Nat.testBit_and,Nat.testBit_or,Nat.testBit_two_pow,Nat.zero_testBit,hbx] at this
      simp at this
    . rw [decide_eq_true g] at hby
      have:=congrArg (fun n=>Nat.testBit n y) h0
      simp only [Nat.testBit_and,Nat.testBit_or,Nat.testBit_two_pow,Nat.zero_testBit,hby] at this
      simp at this
theorem bin_shrU (P:Program)(t:TypeId)(b y:Nat)(hy:y<64):binA P .shr t (.int .u64 (b:Int)) (.int .u64 (y:Int))=some (.int .u64 ((b / 2 ^ y:Nat):Int)):=by
  have:¬ ((y:Int)<0):=by omega
  simp only [binA,shiftA,this,if_false,IntKind.bits]
  rw [if_pos (.inr trivial)]
  have:=shr_nat b y (by omega)
  simp only [this]
def cd184:Cd:=(.seq (.reg [⟨⟨some 2,.assign (.const (.int .i64 0)),none⟩,[]⟩]) (.seq (.reg [⟨⟨some 3,.assign (.const (.int .i64 0)),none⟩,[]⟩]) (.seq (.seq (.reg [⟨⟨some 4,.move (.tmp 0),none⟩,[]⟩,⟨⟨some 5,.nilCheck (.tmp 4),none⟩,[]⟩,⟨⟨some 6,.fieldAddr 89 (.tmp 5) 1,none⟩,[]⟩,⟨⟨some 7,.load 3 (.tmp 6),none⟩,[]⟩,⟨⟨some 8,.move (.tmp 0),none⟩,[]⟩,⟨⟨some 9,.nilCheck (.tmp 8),none⟩,[]⟩,⟨⟨some 10,.fieldAddr 89 (.tmp 9) 0,none⟩,[]⟩,⟨⟨some 11,.load 22 (.tmp 10),none⟩,[]⟩,⟨⟨some 12,.call ⟨(.builtin .len),#[.tmp 11],#[22]⟩,none⟩,[]⟩,⟨⟨some 13,.binOp .lss 3 (.tmp 7) (.tmp 12) 3,none⟩,[]⟩]) (.cond (.tmp 13) (.reg [⟨⟨some 14,.move (.tmp 0),none⟩,[]⟩,⟨⟨some 15,.nilCheck (.tmp 14),none⟩,[]⟩,⟨⟨some 16,.fieldAddr 89 (.tmp 15) 0,none⟩,[]⟩,
 ⟨⟨some 17,.load 22 (.tmp 16),none⟩,[]⟩,⟨⟨some 18,.move (.tmp 0),none⟩,[]⟩,⟨⟨some 19,.nilCheck (.tmp 18),none⟩,[]⟩,⟨⟨some 20,.fieldAddr 89 (.tmp 19) 1,none⟩,[]⟩,⟨⟨some 21,.load 3 (.tmp 20),none⟩,[]⟩,⟨⟨some 22,.indexAddr 22 (.tmp 17) (.tmp 21),none⟩,[]⟩,⟨⟨some 23,.load 5 (.tmp 22),none⟩,[]⟩,⟨⟨some 24,.convert 5 3 (.tmp 23),none⟩,[]⟩,⟨⟨some 3,.assign (.tmp 24),none⟩,[]⟩]) .skip)) (.seq (.reg [⟨⟨some 25,.move (.tmp 0),none⟩,[]⟩,⟨⟨some 26,.nilCheck (.tmp 25),none⟩,[]⟩,⟨⟨some 27,.fieldAddr 89 (.tmp 26) 1,none⟩,[]⟩,⟨⟨some 28,.load 3 (.tmp 27),none⟩,[]⟩,
 ⟨⟨some 29,.binOp .add 3 (.tmp 28) (.const (.int .i64 1)) 3,none⟩,[]⟩,⟨⟨some 30,.nilCheck (.tmp 25),none⟩,[]⟩,⟨⟨some 31,.fieldAddr 89 (.tmp 30) 1,none⟩,[]⟩,⟨⟨none,.store 3 (.tmp 31) (.tmp 29),none⟩,[]⟩]) (.seq (.reg [⟨⟨some 32,.move (.tmp 0),none⟩,[]⟩,⟨⟨some 33,.move (.tmp 0),none⟩,[]⟩,⟨⟨some 34,.nilCheck (.tmp 33),none⟩,[]⟩,⟨⟨some 35,.fieldAddr 89 (.tmp 34) 2,none⟩,[]⟩,⟨⟨some 36,.load 87 (.tmp 35),none⟩,[]⟩,⟨⟨some 37,.binOp .mul 87 (.tmp 36) (.const (.int .u64 6364136223846793005)) 87,none⟩,[]⟩,⟨⟨some 38,.move (.tmp 3),none⟩,[]⟩,⟨⟨some 39,.convert 3 87 (.tmp 38),none⟩,[]⟩,⟨⟨some 40,.binOp .add 87 (.tmp 37) (.tmp 39) 87,none⟩,[]⟩,
 ⟨⟨some 41,.binOp .add 87 (.tmp 40) (.const (.int .u64 462197)) 87,none⟩,[]⟩,⟨⟨some 42,.nilCheck (.tmp 32),none⟩,[]⟩,⟨⟨some 43,.fieldAddr 89 (.tmp 42) 2,none⟩,[]⟩,⟨⟨none,.store 87 (.tmp 43) (.tmp 41),none⟩,[]⟩]) (.seq (.seq (.reg [⟨⟨some 44,.move (.tmp 0),none⟩,[]⟩,⟨⟨some 45,.nilCheck (.tmp 44),none⟩,[]⟩,⟨⟨some 46,.fieldAddr 89 (.tmp 45) 1,none⟩,[]⟩,⟨⟨some 47,.load 3 (.tmp 46),none⟩,[]⟩,⟨⟨some 48,.move (.tmp 0),none⟩,[]⟩,⟨⟨some 49,.nilCheck (.tmp 48),none⟩,[]⟩,⟨⟨some 50,.fieldAddr 89 (.tmp 49) 0,none⟩,[]⟩,⟨⟨some 51,.load 22 (.tmp 50),none⟩,[]⟩,⟨⟨some 52,.call ⟨(.builtin .len),#[.tmp 51],#[22]⟩,none⟩,[]⟩,
 ⟨⟨some 53,.binOp .leq 3 (.tmp 47) (.tmp 52) 3,none⟩,[]⟩]) (.cond (.tmp 53) (.seq (.reg [⟨⟨some 54,.move (.tmp 3),none⟩,[]⟩,
  ⟨⟨some 2,.assign (.tmp 54),none⟩,[]⟩]) .ret) .skip)) (.seq (.reg [⟨⟨some 55,.move (.tmp 0),none⟩,[]⟩,
  ⟨⟨some 56,.nilCheck (.tmp 55),none⟩,[]⟩,
  ⟨⟨some 57,.fieldAddr 89 (.tmp 56) 2,none⟩,[]⟩,
  ⟨⟨some 58,.load 87 (.tmp 57),none⟩,[]⟩,
  ⟨⟨some 59,.binOp .shr 87 (.tmp 58) (.const (.int .u64 40)) 122,none⟩,[]⟩,
  ⟨⟨some 60,.binOp .and 87 (.tmp 59) (.const (.int .u64 255)) 87,none⟩,[]⟩,
  ⟨⟨some 61,.convert 87 3 (.tmp 60),none⟩,[]⟩,
  ⟨⟨some 2,.assign (.tmp 61),none⟩,[]⟩]) .ret)))))))
theorem in184:InT Tryz.prog 184 1 [.tmp 2] cd184:=InT.mk (by kernel_rfl) [(2,[(0,false),(1,false),(2,false),(3,false),(4,false),(5,false),(6,false),(7,false),(8,false),(9,false)]),(3,[(0,false),(1,false),(2,false),(3,false),(4,false),(5,false),(6,false),(7,false),(8,false),(9,false),(10,false),(11,false)]),(6,[(0,false),(1,false),(2,false),(3,false),(4,false),(5,false),(6,false),(7,false),(8,false),(9,false)])] Tryz.func184 rfl (by kernel_rfl) (by kernel_rfl) (of_decide_eq_true (by kernel_rfl)) (by kernel_rfl)
def cd111:Cd:=(.seq (.reg [⟨⟨some 4,.assign (.const (.int .i64 0)),none⟩,[]⟩]) (.seq (.seq (.reg [⟨⟨some 6,.move (.tmp 1),none⟩,[]⟩,⟨⟨some 7,.binOp .leq 3 (.tmp 6) (.const (.int .i64 1)) 3,none⟩,[]⟩]) (.cond (.tmp 7) (.seq (.reg [⟨⟨some 4,.assign (.const (.int .i64 0)),none⟩,[]⟩]) .ret) .skip)) (.seq (.reg [⟨⟨some 8,.move (.tmp 0),none⟩,[]⟩,⟨⟨some 9,.call ⟨(.value (.func 184)),#[.tmp 8],#[86]⟩,none⟩,[]⟩,⟨⟨some 5,.assign (.tmp 9),none⟩,[]⟩]) (.seq (.seq (.reg [⟨⟨some 10,.move (.tmp 1),none⟩,[]⟩,⟨⟨some 11,.binOp .gtr 3 (.tmp 10) (.const (.int .i64 200)) 3,none⟩,[]⟩]) (.cond (.tmp 11) (.reg [⟨⟨some 12,.move (.tmp 5),none⟩,[]⟩,⟨⟨some 13,.binOp .mul 3 (.tmp 12) (.const (.int .i64 256)) 3,none⟩,[]⟩,⟨⟨some 14,.move (.tmp 0),none⟩,[]⟩,⟨⟨some 15,.call ⟨(.value (.func 184)),#[.tmp 14],#[86]⟩,none⟩,[]⟩,⟨⟨some 16,.binOp .add 3 (.tmp 13) (.tmp 15) 3,none⟩,[]⟩,⟨⟨some 5,.assign (.tmp 16),none⟩,[]⟩]) .skip)) (.seq (.reg [⟨⟨some 17,.move (.tmp 5),none⟩,[]⟩,⟨⟨some 18,.move (.tmp 1),none⟩,[]⟩,⟨⟨some 19,.binOp .rem 3 (.tmp 17) (.tmp 18) 3,none⟩,[]⟩,
 ⟨⟨some 4,.assign (.tmp 19),none⟩,[]⟩]) .ret)))))
theorem in111:InT Tryz.prog 111 2 [.tmp 4] cd111:=InT.mk (by kernel_rfl) [] Tryz.func111 rfl (by kernel_rfl) (by kernel_rfl) (of_decide_eq_true (by kernel_rfl)) (by kernel_rfl)
def cd144:Cd:=(.seq (.reg [⟨⟨some 4,.assign (.const (.bool false)),none⟩,[]⟩]) (.seq (.reg [⟨⟨some 5,.move (.tmp 0),none⟩,[]⟩,
  ⟨⟨some 6,.move (.tmp 1),none⟩,[]⟩,
  ⟨⟨some 7,.call ⟨(.value (.func 111)),#[.tmp 5,.tmp 6],#[86,3]⟩,none⟩,[]⟩,
  ⟨⟨some 8,.binOp .eql 3 (.tmp 7) (.const (.int .i64 0)) 3,none⟩,[]⟩,
  ⟨⟨some 4,.assign (.tmp 8),none⟩,[]⟩]) .ret))
theorem in144:InT Tryz.prog 144 2 [.tmp 4] cd144:=InT.mk (by kernel_rfl) [] Tryz.func144 rfl (by kernel_rfl) (by kernel_rfl) (of_decide_eq_true (by kernel_rfl)) (by kernel_rfl)
def cd162:Cd:=(.seq (.reg [⟨⟨some 4,.assign (.const (.int .i64 0)),none⟩,[]⟩]) (.seq (.reg [⟨⟨some 5,.move (.tmp 1),none⟩,[]⟩,
  ⟨⟨some 6,.move (.tmp 0),none⟩,[]⟩,
  ⟨⟨some 7,.move (.tmp 1),none⟩,[]⟩,
  ⟨⟨some 8,.call ⟨(.builtin .len),#[.tmp 7],#[27]⟩,none⟩,[]⟩,
  ⟨⟨some 9,.call ⟨(.value (.func 111)),#[.tmp 6,.tmp 8],#[86,3]⟩,none⟩,[]⟩,
  ⟨⟨some 10,.indexAddr 27 (.tmp 5) (.tmp 9),none⟩,[]⟩,
  ⟨⟨some 11,.load 3 (.tmp 10),none⟩,[]⟩,
  ⟨⟨some 4,.assign (.tmp 11),none⟩,[]⟩]) .ret))
theorem in162:InT Tryz.prog 162 2 [.tmp 4] cd162:=InT.mk (by kernel_rfl) [] Tryz.func162 rfl (by kernel_rfl) (by kernel_rfl) (of_decide_eq_true (by kernel_rfl)) (by kernel_rfl)
end Go.Proofs.YtjnefjchconebaaGreat.Ai
namespace Go.Proofs.YtjnefjchconebaaGreat.Ai
open Go Go.RowKit
theorem fa_cur (p:Addr):fieldAddrA Tryz.prog 89 (.pointer (some p)) 0=some (.pointer (some ⟨p.block,p.off,none⟩))/\fieldAddrA Tryz.prog 89 (.pointer (some p)) 1=some (.pointer (some ⟨p.block,p.off+1,none⟩))/\fieldAddrA Tryz.prog 89 (.pointer (some p)) 2=some (.pointer (some ⟨p.block,p.off+2,none⟩)):=⟨by kernel_rfl,by kernel_rfl,by kernel_rfl⟩
theorem cs_u8:Tryz.prog.cellsOf 5=1:=by kernel_rfl
theorem cs_u64:Tryz.prog.cellsOf 87=1:=by kernel_rfl
theorem ag_u8:isAggA Tryz.prog 5=some false:=by kernel_rfl
theorem ag_u64:isAggA Tryz.prog 87=some false:=by kernel_rfl
theorem ag_by:isAggA Tryz.prog 22=some false:=by kernel_rfl
theorem len_by:∀ x H,lenS Tryz.prog 22 x H=lenA Tryz.prog 22 x:=lenS_sl (by decide)
theorem nilP (p:Addr):nilA (.pointer (some p))=some (.pointer (some p)):=rfl
structure Cur (H:AH) (o:Nat) (v:Value) (us:List Value) (N:Nat):Prop where
  cur:∃ at_ seed:Nat,H[o]?=some (.cells [v,.int .i64 (at_:Int),.int .u64 (seed:Int)] 89 false)/\at_<=N/\seed<2 ^ 64
  row:RowV 5 H v us
  byt:∀ i,i<us.length->∃ b:Nat,us.getD i undef=.int .u8 (b:Int)/\b<256
  ap:v=.slice none 0 0∨rowO v ≠ o
  le:us.length<=1048576
def OnlyO (o:Nat)(H H':AH):Prop:=H'.length=H.length/\∀ (j:Nat) (y:AObj),j ≠ o->H[j]?=some y->H'[j]?=some y
theorem OnlyO.trans {o:Nat}{H H' H'':AH}(h:OnlyO o H H')(k:OnlyO o H' H''):OnlyO o H H'':=⟨k.1.trans h.1,fun j y hj hy=>k.2 j y hj (h.2 j y hj hy)⟩
theorem OnlyO.refl (o:Nat)(H:AH):OnlyO o H H:=⟨rfl,fun _ _ _ h=>h⟩
theorem Cur.more {H:AH}{o:Nat}{v:Value}{us:List Value}{N M:Nat}(h:Cur H o v us N)(hm:N<=M):Cur H o v us M:=by
  obtain ⟨a,s,h1,h2,h3⟩:=h.cur
  exact ⟨⟨a,s,h1,by omega,h3⟩,h.row,h.byt,h.ap,h.le⟩
theorem Cur.pre {H H':AH}{o:Nat}{v:Value}{us:List Value}{N:Nat}(h:Cur H o v us N)(hp:H<+:H'):Cur H' o v us N:=by
  obtain ⟨a,s,h1,h2,h3⟩:=h.cur
  exact ⟨⟨a,s,pre_at hp h1,h2,h3⟩,h.row.pre hp,h.byt,h.ap,h.le⟩
theorem next_c {H:AH}{o:Nat}{v:Value}{us:List Value}{N:Nat}(h:Cur H o v us N)(hN:N<=1000000000) :
    ACalls Tryz.prog 184 [.pointer (some ⟨o,0,none⟩)] H fun r H'=>(∃ x:Nat,r=.int .i64 (x:Int)/\x<256)/\Cur H' o v us (N+1)/\OnlyO o H H':=by
  obtain ⟨at_,seed,ho,hat,hs⟩:=h.cur
  have hle:=h.le
  have hol:=at_lt ho
  refine in184 rfl ?_
  intro Q hQ
  have fin:∀ (b:Nat),b<256->∀ z:Int,0<=z->z<18446744073709551616->∀ H2:AH,H2=(H.set o (.cells [v,.int .i64 ((at_+1:Nat):Int),.int .u64 (seed:Int)] 89 false)).set o (.cells [v,.int .i64 ((at_+1:Nat):Int),.int .u64 z] 89 false)->Cur H2 o v us (N+1)/\OnlyO o H H2:=by
    intro b hb z z0 z1 H2 e
    have only:OnlyO o H H2:=by
      subst e
      refine ⟨by simp,fun j y hj hy=>?_⟩
      rw [List.getElem?_set_ne (fun e=>hj e.symm),List.getElem?_set_ne (fun e=>hj e.symm)]
      exact hy
    refine ⟨⟨⟨at_+1,z.toNat,?_,by omega,by omega⟩,?_,h.byt,h.ap,hle⟩,only⟩
    . subst e
      rw [List.getElem?_set_self (by simpa using hol),Int.toNat_of_nonneg z0]
    . rcases h.row with q | q
      . exact .inl q
      . refine RowV.mono (.inr q) fun y hy=>?_
        rcases h.ap with g | g
        . obtain ⟨o',k',_,_,g1,_⟩:=q
          rw [g] at g1;cases g1
        . exact only.2 _ _ g hy
  have s1:=st_at (P:=Tryz.prog) (t:=3) (i:=1) (y:=.int .i64 ((at_+1:Nat):Int)) cs3 ho (by show 1<3;decide) rfl rfl
  have hw1:IntKind.i64.wrap ((at_:Int)+1)=((at_+1:Nat):Int):=by rw [wrap64 (by omega) (by omega)];omega
  have c1:(H.set o (.cells ([v,.int .i64 (at_:Int),.int .u64 (seed:Int)].set 1 (.int .i64 ((at_+1:Nat):Int))) 89 false))[o]?=some (.cells [v,.int .i64 ((at_+1:Nat):Int),.int .u64 (seed:Int)] 89 false):=by
    rw [List.getElem?_set_self hol];rfl
  have fa:=fun p=>fa_cur p
  generalize hK:H.set o (.cells ([v,.int .i64 (at_:Int),.int .u64 (seed:Int)].set 1 (.int .i64 ((at_+1:Nat):Int))) 89 false)=K at s1 c1
  have hK2:K=H.set o (.cells [v,.int .i64 ((at_+1:Nat):Int),.int .u64 (seed:Int)] 89 false):=by rw [<- hK];rfl
  rw [<- hK2] at fin
  have s2:∀ z:Int,storeA Tryz.prog 87 (.pointer (some ⟨o,2,none⟩)) (.int .u64 z) K=some (K.set o (.cells [v,.int .i64 ((at_+1:Nat):Int),.int .u64 z] 89 false)):=fun z =>
    st_at (P:=Tryz.prog) (t:=87) (i:=2) (y:=.int .u64 z) cs_u64 c1 (by show 2<3;decide) rfl rfl
  have hKl:o<K.length:=at_lt c1
  have c2:∀ z:Int,(K.set o (.cells [v,.int .i64 ((at_+1:Nat):Int),.int .u64 z] 89 false))[o]?=some (.cells [v,.int .i64 ((at_+1:Nat):Int),.int .u64 z] 89 false):=fun z=>List.getElem?_set_self hKl
  have wz:∀ y:Int,0<=IntKind.u64.wrap y/\IntKind.u64.wrap y<18446744073709551616:=fun y=>by rw [IntKind.wrap_u64];omega
  simp (maxSteps:=1000000) (disch:=omega) only [cd184,nilP,(fa_cur _).1,(fa_cur _).2.1,(fa_cur _).2.2,ld_one ag_by,ld_one ag_u8,ld_one ag_u64,cell_of ho,len_by,h.row.len Tryz.underlying22,SS,eq_self,reduceIte,reduceCtorEq,Nat.reduceEqDiff,Nat.reduceAdd]
  refine brD.intro (fun g=>?_) (fun g=>?_)
  . have hi:at_<us.length:=by omega
    obtain ⟨b,hb1,hb2⟩:=h.byt at_ hi
    have hc:=h.row.cell hi
    rw [hb1] at hc
    simp (maxSteps:=1000000) (disch:=omega) only [nilP,(fa_cur _).1,(fa_cur _).2.1,(fa_cur _).2.2,ld_one ag_by,ld_one ag_u8,ld_one ag_u64,cell_of ho,h.row.ix Tryz.underlying22 cs_u8,Int.toNat_natCast,hc,hw1,s1,cell_of c1,s2,SS,eq_self,reduceIte,reduceCtorEq,Nat.reduceEqDiff,Nat.reduceAdd]
    generalize hzz:IntKind.u64.wrap (IntKind.u64.wrap (IntKind.u64.wrap ((seed:Int) * 6364136223846793005)+IntKind.u64.wrap (IntKind.i64.wrap (b:Int)))+462197)=z
    have hz:0<=z/\z<18446744073709551616:=by rw [<- hzz];exact wz _
    obtain ⟨q1,q2⟩:=fin b hb2 z hz.1 hz.2 _ rfl
    have hw2:IntKind.i64.wrap (b:Int)=(b:Int):=wrap64 (by omega) (by omega)
    simp (maxSteps:=1000000) (disch:=omega) only [nilP,(fa_cur _).1,(fa_cur _).2.1,(fa_cur _).2.2,ld_one ag_by,ld_one ag_u64,cell_of (c2 z),len_by,h.row.len Tryz.underlying22,SS,eq_self,reduceIte,reduceCtorEq,Nat.reduceEqDiff,Nat.reduceAdd]
    refine brD.intro (fun g2=>?_) (fun g2=>absurd (show ((at_+1:Nat):Int)<=(us.length:Int) by omega) g2)
    simp (maxSteps:=1000000) (disch:=omega) only [hw2,SS,eq_self,reduceIte,reduceCtorEq,Nat.reduceEqDiff,Nat.reduceAdd]
    refine hQ _ _ _ ?_
    simp (maxSteps:=1000000) (disch:=omega) only [SS,eq_self,reduceIte,reduceCtorEq,Nat.reduceEqDiff,Nat.reduceAdd]
    exact ⟨⟨b,rfl,hb2⟩,q1,q2⟩
  . simp (maxSteps:=1000000) (disch:=omega) only [nilP,(fa_cur _).1,(fa_cur _).2.1,(fa_cur _).2.2,ld_one ag_by,ld_one ag_u8,ld_one ag_u64,cell_of ho,hw1,s1,cell_of c1,s2,SS,eq_self,reduceIte,reduceCtorEq,Nat.reduceEqDiff,Nat.reduceAdd]
    generalize hzz:IntKind.u64.wrap (IntKind.u64.wrap (IntKind.u64.wrap ((seed:Int) * 6364136223846793005)+IntKind.u64.wrap 0)+462197)=z
    have hz:0<=z/\z<18446744073709551616:=by rw [<- hzz];exact wz _
    obtain ⟨q1,q2⟩:=fin 0 (by omega) z hz.1 hz.2 _ rfl
    obtain ⟨zn,rfl⟩:∃ k:Nat,z=k:=⟨z.toNat,by omega⟩
    simp (maxSteps:=1000000) (disch:=omega) only [nilP,(fa_cur _).1,(fa_cur _).2.1,(fa_cur _).2.2,ld_one ag_by,ld_one ag_u64,cell_of (c2 _),len_by,h.row.len Tryz.underlying22,SS,eq_self,reduceIte,reduceCtorEq,Nat.reduceEqDiff,Nat.reduceAdd]
    refine brD.intro (fun g2=>absurd g2 (by omega)) (fun g2=>?_)
    have k1:binA Tryz.prog .shr 87 (.int .u64 (zn:Int)) (.int .u64 40)=some (.int .u64 ((zn / 2 ^ 40:Nat):Int)):=bin_shrU _ _ zn 40 (by decide)
    have hd:zn / 2 ^ 40<2 ^ 64:=Nat.lt_of_le_of_lt (Nat.div_le_self _ _) (by omega)
    have k2:binA Tryz.prog .and 87 (.int .u64 ((zn / 2 ^ 40:Nat):Int)) (.int .u64 255)=some (.int .u64 ((zn / 2 ^ 40 &&& 255:Nat):Int)):=bin_and _ _ _ 255 hd (by decide)
    have hle2:zn / 2 ^ 40 &&& 255<=255:=Nat.and_le_right
    generalize zn / 2 ^ 40 &&& 255=r at *
    have c3:convA Tryz.prog 87 3 (.int .u64 (r:Int))=some (.int .i64 (r:Int)):=by
      simp only [convA,Tryz.underlying87,Tryz.underlying3]
      rw [wrap64 (by omega) (by omega)]
    simp (maxSteps:=1000000) (disch:=omega) only [nilP,(fa_cur _).1,(fa_cur _).2.1,(fa_cur _).2.2,ld_one ag_u64,cell_of (c2 _),k1,k2,c3,SS,eq_self,reduceIte,reduceCtorEq,Nat.reduceEqDiff,Nat.reduceAdd]
    refine hQ _ _ _ ?_
    simp (maxSteps:=1000000) (disch:=omega) only [SS,eq_self,reduceIte,reduceCtorEq,Nat.reduceEqDiff,Nat.reduceAdd]
    exact ⟨⟨r,rfl,by omega⟩,q1,q2⟩
theorem pick_c {H:AH}{o:Nat}{v:Value}{us:List Value}{N:Nat}(h:Cur H o v us N)(hN:N<=1000000000)(n:Int)(hn:n<=200) :
    ACalls Tryz.prog 111 [.pointer (some ⟨o,0,none⟩),.int .i64 n] H fun r H'=>(∃ x:Nat,r=.int .i64 (x:Int)/\((x:Int)<n∨x=0))/\Cur H' o v us (N+1)/\OnlyO o H H':=by
  refine in111 rfl ?_
  intro Q hQ
  simp (maxSteps:=1000000) (disch:=omega) only [cd111,SS,eq_self,reduceIte,reduceCtorEq,Nat.reduceEqDiff,Nat.reduceAdd]
  refine brD.intro (fun g=>?_) (fun g=>?_)
  . simp (maxSteps:=1000000) (disch:=omega) only [SS,eq_self,reduceIte,reduceCtorEq,Nat.reduceEqDiff,Nat.reduceAdd]
    refine hQ _ _ _ ?_
    simp (maxSteps:=1000000) (disch:=omega) only [SS,eq_self,reduceIte,reduceCtorEq,Nat.reduceEqDiff,Nat.reduceAdd]
    exact ⟨⟨0,rfl,.inr rfl⟩,h.more (by omega),OnlyO.refl o H⟩
  simp (maxSteps:=1000000) (disch:=omega) only [SS,eq_self,reduceIte,reduceCtorEq,Nat.reduceEqDiff,Nat.reduceAdd]
  refine CallH.by (next_c h hN) ?_
  rintro _ K ⟨⟨x,rfl,hx⟩,hK,oK⟩
  have hn0:n ≠ 0:=by omega
  have hmod:(x:Int).tmod n=((x % n.toNat:Nat):Int):=by
    rw [Int.tmod_eq_emod_of_nonneg (by omega)]
    have:n=(n.toNat:Int):=by omega
    conv=>lhs;rw [this]
    exact (Int.natCast_emod x n.toNat).symm
  simp (maxSteps:=1000000) (disch:=omega) only [SS,eq_self,reduceIte,reduceCtorEq,Nat.reduceEqDiff,Nat.reduceAdd]
  refine brD.intro (fun g2=>absurd g2 (by omega)) (fun g2=>?_)
  simp (maxSteps:=1000000) (disch:=omega) only [hn0,hmod,SS,eq_self,reduceIte,reduceCtorEq,Nat.reduceEqDiff,Nat.reduceAdd]
  refine hQ _ _ _ ?_
  simp (maxSteps:=1000000) (disch:=omega) only [SS,eq_self,reduceIte,reduceCtorEq,Nat.reduceEqDiff,Nat.reduceAdd]
  have:=Nat.mod_lt x (show 0<n.toNat by omega)
  exact ⟨⟨x % n.toNat,rfl,.inl (by omega)⟩,hK,oK⟩
theorem one_c {H:AH}{o:Nat}{v:Value}{us:List Value}{N:Nat}(h:Cur H o v us N)(hN:N<=1000000000)(n:Int)(hn:n<=200) :
    ACalls Tryz.prog 144 [.pointer (some ⟨o,0,none⟩),.int .i64 n] H fun r H'=>(∃ b:Bool,r=.bool b)/\Cur H' o v us (N+1)/\OnlyO o H H':=by
  refine in144 rfl ?_
  intro Q hQ
  simp (maxSteps:=1000000) (disch:=omega) only [cd144,SS,eq_self,reduceIte,reduceCtorEq,Nat.reduceEqDiff,Nat.reduceAdd]
  refine CallH.by (pick_c h hN n hn) ?_
  rintro _ K ⟨⟨x,rfl,_⟩,hK,oK⟩
  simp (maxSteps:=1000000) (disch:=omega) only [SS,eq_self,reduceIte,reduceCtorEq,Nat.reduceEqDiff,Nat.reduceAdd]
  refine hQ _ _ _ ?_
  simp (maxSteps:=1000000) (disch:=omega) only [SS,eq_self,reduceIte,reduceCtorEq,Nat.reduceEqDiff,Nat.reduceAdd]
  exact ⟨⟨_,rfl⟩,hK,oK⟩
theorem among_c {H:AH}{o:Nat}{v w:Value}{us:List Value}{xs:List Int}{N:Nat}(h:Cur H o v us N)(hN:N<=1000000000)(hw:Row 3 H w xs)(hwo:rowO w ≠ o)(hl:0<xs.length/\xs.length<=200) :
    ACalls Tryz.prog 162 [.pointer (some ⟨o,0,none⟩),w] H fun r H'=>(∃ x:Int,r=.int .i64 x/\x ∈ xs)/\Cur H' o v us (N+1)/\OnlyO o H H':=by
  refine in162 rfl ?_
  intro Q hQ
  simp (maxSteps:=1000000) (disch:=omega) only [cd162,hw.len Tryz.underlying27,SS,eq_self,reduceIte,reduceCtorEq,Nat.reduceEqDiff,Nat.reduceAdd]
  refine CallH.by (pick_c h hN (xs.length:Int) (by omega)) ?_
  rintro _ K ⟨⟨x,rfl,hx⟩,hK,oK⟩
  have hxl:x<xs.length:=by omega
  have hwK:Row 3 K w xs:=hw.mono fun y hy=>oK.2 _ _ hwo hy
  have hc:=hwK.cell hxl
  simp (maxSteps:=1000000) (disch:=omega) only [hw.ix Tryz.underlying27 cs3,Int.toNat_natCast,hc,SS,eq_self,reduceIte,reduceCtorEq,Nat.reduceEqDiff,Nat.reduceAdd]
  refine hQ _ _ _ ?_
  simp (maxSteps:=1000000) (disch:=omega) only [SS,eq_self,reduceIte,reduceCtorEq,Nat.reduceEqDiff,Nat.reduceAdd]
  exact ⟨⟨xs.getD x 0,rfl,by simp [hxl]⟩,hK,oK⟩
def Keeps (o:Nat)(H H':AH):Prop:=H.length<=H'.length/\∀ (j:Nat) (y:AObj),j ≠ o->H[j]?=some y->H'[j]?=some y
theorem Keeps.trans {o:Nat}{H H' H'':AH}(h:Keeps o H H')(k:Keeps o H' H''):Keeps o H H'':=⟨Nat.le_trans h.1 k.1,fun j y hj hy=>k.2 j y hj (h.2 j y hj hy)⟩
theorem Keeps.of_pre {o:Nat}{H H':AH}(h:H<+:H'):Keeps o H H':=⟨h.length_le,fun j y _ hy=>pre_at h hy⟩
theorem Own.keeps {e:TypeId}{H0 H H':AH}{o:Nat}{v:Value}{xs:List Int}(h:Own e H0 H v xs)(hk:Keeps o H H')(ho:o<H0.length):Own e H0 H' v xs:=by
  rcases h with q | ⟨oo,q1,q2,q3⟩
  . exact .inl q
  . exact .inr ⟨oo,q1,q2,hk.2 _ _ (by omega) q3⟩
theorem cutC {P:Program}{a b:Cd}{Q:Exit->Sl->AH->Prop}{s:Sl}{H:AH}(R:Sl->AH->Prop)(h1:∀ c,(∀ s H,R s H->wpC P c Q s H)->wpC P a (thenA (wpC P c Q) Q) s H)(h2:∀ s H,R s H->wpC P b Q s H):wpC P (.seq a b) Q s H:=h1 b h2
end Go.Proofs.YtjnefjchconebaaGreat.Ai
namespace Go.Proofs.YtjnefjchconebaaGreat.Ai
open Go Go.RowKit
theorem OnlyO.keeps {o:Nat}{H H':AH}(h:OnlyO o H H'):Keeps o H H':=⟨Nat.le_of_eq h.1.symm,h.2⟩
theorem Cur.keeps {H H':AH}{o:Nat}{v:Value}{us:List Value}{N:Nat}(h:Cur H o v us N)(hp:H<+:H'):Cur H' o v us N:=h.pre hp
theorem ownB {e:TypeId}{H0 H1 H:AH}{v:Value}{xs:List Int}(h:Own e H0 H v xs)(hl:H1.length<=H0.length):Own e H1 H v xs:=by
  rcases h with h | ⟨o,h1,h2,h3⟩
  . exact .inl h
  . exact .inr ⟨o,h1,by omega,h3⟩
theorem bld_cur (p:Option Addr)(n c:Nat):buildA Tryz.prog 89 [(0,.slice p n c)]=some (.agg (List.toArray [.slice p n c,.int .i64 0,.int .u64 0])):=by kernel_rfl
theorem box_cur (p:Option Addr)(n c:Nat)(H:AH):boxA Tryz.prog 89 (.agg (List.toArray [.slice p n c,.int .i64 0,.int .u64 0])) H=some (.pointer (some ⟨H.length,0,none⟩),H ++ [.cells [.slice p n c,.int .i64 0,.int .u64 0] 89 false]):=by kernel_rfl
structure Byt (H:AH) (v:Value) (us:List Value):Prop where
  row:RowV 5 H v us
  byt:∀ i,i<us.length->∃ b:Nat,us.getD i undef=.int .u8 (b:Int)/\b<256
  le:us.length<=1048576
theorem Byt.pre {H H':AH}{v:Value}{us:List Value}(h:Byt H v us)(hp:H<+:H'):Byt H' v us:=⟨h.row.pre hp,h.byt,h.le⟩
theorem Byt.cur {H:AH}{v:Value}{us:List Value}(h:Byt H v us):Cur (H ++ [.cells [v,.int .i64 0,.int .u64 0] 89 false]) H.length v us 0:=by
  refine ⟨⟨0,0,at_new ..,Nat.le_refl _,by decide⟩,h.row.pre (List.prefix_append _ _),h.byt,?_,h.le⟩
  rcases h.row with q | ⟨o',k',vs',ro',e1,g2',_⟩
  . exact .inl q.1
  . right
    rw [e1]
    have:=at_lt g2'
    show o' ≠ _
    omega
theorem keeps_new {H A G:AH}{o:Nat}(h:Keeps o A G)(hp:H<+:A)(ho:o=H.length):H<+:G:=prefix_of fun j y hy=>h.2 j y (by have:=at_lt hy;omega) (pre_at hp hy)
def cd119:Cd:=(.seq (.reg [⟨⟨some 6,.assign (.const (.bool false)),none⟩,[]⟩]) (.seq (.reg [⟨⟨some 7,.move (.tmp 0),none⟩,[]⟩,
  ⟨⟨some 8,.move (.tmp 1),none⟩,[]⟩,
  ⟨⟨some 9,.binOp .geq 3 (.tmp 7) (.tmp 8) 3,none⟩,[]⟩,
  ⟨⟨some 10,.move (.tmp 9),none⟩,[]⟩,
  ⟨⟨some 11,.move (.tmp 0),some (10,true)⟩,[]⟩,
  ⟨⟨some 12,.move (.tmp 2),some (10,true)⟩,[]⟩,
  ⟨⟨some 13,.binOp .leq 3 (.tmp 11) (.tmp 12) 3,some (10,true)⟩,[]⟩,
  ⟨⟨some 14,.pick (.tmp 10) (.tmp 13) (.const (.bool false)),none⟩,[]⟩,
  ⟨⟨some 6,.assign (.tmp 14),none⟩,[]⟩]) .ret))
theorem in119:InT Tryz.prog 119 3 [.tmp 6] cd119:=InT.mk (by kernel_rfl) [] Tryz.func119 rfl (by kernel_rfl) (by kernel_rfl) (of_decide_eq_true (by kernel_rfl)) (by kernel_rfl)
def cd113:Cd:=(.seq (.reg [⟨⟨some 6,.assign (.const (.bool false)),none⟩,[]⟩]) (.seq (.reg [⟨⟨some 7,.move (.tmp 0),none⟩,[]⟩,
  ⟨⟨some 8,.move (.tmp 1),none⟩,[]⟩,
  ⟨⟨some 9,.binOp .geq 3 (.tmp 7) (.tmp 8) 3,none⟩,[]⟩,
  ⟨⟨some 10,.move (.tmp 9),none⟩,[]⟩,
  ⟨⟨some 11,.move (.tmp 0),some (10,true)⟩,[]⟩,
  ⟨⟨some 12,.move (.tmp 2),some (10,true)⟩,[]⟩,
  ⟨⟨some 13,.binOp .leq 3 (.tmp 11) (.tmp 12) 3,some (10,true)⟩,[]⟩,
  ⟨⟨some 14,.pick (.tmp 10) (.tmp 13) (.const (.bool false)),none⟩,[]⟩,
  ⟨⟨some 6,.assign (.tmp 14),none⟩,[]⟩]) .ret))
theorem in113:InT Tryz.prog 113 3 [.tmp 6] cd113:=InT.mk (by kernel_rfl) [] Tryz.func113 rfl (by kernel_rfl) (by kernel_rfl) (of_decide_eq_true (by kernel_rfl)) (by kernel_rfl)
end Go.Proofs.YtjnefjchconebaaGreat.Ai
namespace Go.Proofs.YtjnefjchconebaaGreat.Ai
open Go Go.RowKit
theorem l1In_c (a b c:Int)(H:AH):ACalls Tryz.prog 119 [.int .i64 a,.int .i64 b,.int .i64 c] H fun r H'=>r=.bool (decide (b<=a/\a<=c))/\H=H':=by
  refine in119 rfl ?_
  intro Q hQ
  simp (maxSteps:=1000000) (disch:=omega) only [cd119,SS,eq_self,reduceIte,reduceCtorEq,Nat.reduceEqDiff,Nat.reduceAdd]
  refine brD.intro (fun h=>?_) (fun h=>?_) <;> simp (maxSteps:=1000000) (disch:=omega) only [h,SS,eq_self,reduceIte,reduceCtorEq,Nat.reduceEqDiff,Nat.reduceAdd] <;> refine hQ _ _ _ ?_ <;> simp (maxSteps:=1000000) (disch:=omega) only [h,SS,eq_self,reduceIte,reduceCtorEq,Nat.reduceEqDiff,Nat.reduceAdd] <;> simp [h]
theorem between_c (a b c:Int)(H:AH):ACalls Tryz.prog 113 [.int .i64 a,.int .i64 b,.int .i64 c] H fun r H'=>r=.bool (decide (b<=a/\a<=c))/\H=H':=by
  refine in113 rfl ?_
  intro Q hQ
  simp (maxSteps:=1000000) (disch:=omega) only [cd113,SS,eq_self,reduceIte,reduceCtorEq,Nat.reduceEqDiff,Nat.reduceAdd]
  refine brD.intro (fun h=>?_) (fun h=>?_) <;> simp (maxSteps:=1000000) (disch:=omega) only [h,SS,eq_self,reduceIte,reduceCtorEq,Nat.reduceEqDiff,Nat.reduceAdd] <;> refine hQ _ _ _ ?_ <;> simp (maxSteps:=1000000) (disch:=omega) only [h,SS,eq_self,reduceIte,reduceCtorEq,Nat.reduceEqDiff,Nat.reduceAdd] <;> simp [h]
def Asc (ys:List Int):Prop:=∀ i j,i<j->j<ys.length->ys.getD i 0<=ys.getD j 0
def Rsg (n:Int)(ys:List Int):Prop:=∀ i,i<ys.length->(0<=ys.getD i 0/\ys.getD i 0<=n - 1)/\(0<i->ys.getD (i - 1) 0<ys.getD i 0)
def Prm (p:List Int):Prop:=p.length<=8/\∀ x,x<p.length->(x:Int) ∈ p
instance (p:List Int):Decidable (Prm p):=inferInstanceAs (Decidable (_/\_))
theorem pos_ex {ys:List Int}{x:Int}(h:x ∈ ys):∃ i,i<ys.length/\ys.getD i 0=x:=by
  obtain ⟨i,hi,e⟩:=List.getElem_of_mem h
  exact ⟨i,hi,by simp [hi,e]⟩
theorem asc_at {ys:List Int}(ha:Asc ys)(h:∀ x,x<ys.length->(x:Int) ∈ ys):∀ i,i<ys.length->ys.getD i 0=i:=by
  have ex:∀ x,∃ i,x<ys.length->(i<ys.length/\ys.getD i 0=x):=by
    intro x
    by_cases hx:x<ys.length
    . obtain ⟨i,hi⟩:=pos_ex (h x hx);exact ⟨i,fun _=>hi⟩
    . exact ⟨0,fun e=>absurd e hx⟩
  let pos:Nat->Nat:=fun x=>Classical.choose (ex x)
  have hp:∀ x,x<ys.length->pos x<ys.length/\ys.getD (pos x) 0=x:=fun x hx=>Classical.choose_spec (ex x) hx
  have mono:∀ x,x+1<ys.length->pos x<pos (x+1):=by
    intro x hx
    have h1:=hp x (by omega)
    have h2:=hp (x+1) hx
    rcases Nat.lt_trichotomy (pos x) (pos (x+1)) with h3 | h3 | h3
    . exact h3
    . rw [h3] at h1;rw [h1.2] at h2;omega
    . have:=ha _ _ h3 h1.1
      rw [h1.2,h2.2] at this;omega
  have lo:∀ x,x<ys.length->x<=pos x:=by
    intro x
    induction x with
    | zero=>intro _;omega
    | succ x ih =>
      intro hx
      have:=ih (by omega)
      have:=mono x hx
      omega
  have hi':∀ d x,x+d+1=ys.length->pos x<=x:=by
    intro d
    induction d with
    | zero=>intro x hx;have:=(hp x (by omega)).1;omega
    | succ d ih =>
      intro x hx
      have:=ih (x+1) (by omega)
      have:=mono x (by omega)
      omega
  intro i hi
  have h1:=lo i hi
  have h2:=hi' (ys.length - i - 1) i (by omega)
  have h3:=hp i hi
  have:pos i=i:=by omega
  rw [this] at h3
  exact h3.2
theorem prm_at {p:List Int}(h:Prm p){ys:List Int}(hp:ys.Perm p)(ha:Asc ys):∀ i,i<ys.length->ys.getD i 0=i :=
  asc_at ha (fun x hx=>hp.mem_iff.2 (h.2 x (by have:=hp.length_eq;omega)))
def put:List Int->Int->List Int
  | [],x=>[x]
  | y :: ys,x=>if y<x then y :: put ys x else if y=x then y :: ys else x :: y :: ys
theorem putAt_eq0 (l:List Int)(x:Int):∀ k,k<=l.length->(∀ j,j<k->l.getD j 0<x)->(k<l.length->x<=l.getD k 0)->put l x=if k<l.length/\l.getD k 0=x then l else l.take k ++ x :: l.drop k:=by
  induction l with
  | nil=>intro k hk _ _;simp at hk;subst hk;simp [put]
  | cons y ys ih =>
    intro k hk h1 h2
    cases k with
    | zero =>
      have:=h2 (by simp)
      simp only [List.getD_cons_zero] at this
      simp only [put]
      rw [if_neg (by omega)]
      by_cases e:y=x
      . rw [if_pos e,if_pos ⟨by simp,by simpa using e⟩]
      . rw [if_neg e,if_neg (by rintro ⟨_,h⟩;exact e (by simpa using h))];simp
    | succ k =>
      have:=h1 0 (by omega)
      simp only [List.getD_cons_zero] at this
      simp only [put]
      rw [if_pos this,ih k (by simpa using hk) (fun j hj=>by have:=h1 (j+1) (by omega);simpa using this) (fun hkk=>by have:=h2 (by simp;omega);simpa using this)]
      by_cases c:k<ys.length/\ys.getD k 0=x
      . rw [if_pos c,if_pos (by simpa using c)]
      . rw [if_neg c,if_neg (by simpa using c)];simp
theorem put_perm (l:List Int)(x:Int)(h:x ∉ l):(put l x).Perm (x :: l):=by
  induction l with
  | nil=>exact List.Perm.refl _
  | cons y ys ih =>
    simp only [List.mem_cons,not_or] at h
    simp only [put]
    split
    . exact ((ih h.2).cons y).trans (List.Perm.swap x y ys)
    . rw [if_neg (fun e=>h.1 e.symm)]
theorem put_mem (l:List Int)(x y:Int):y ∈ put l x↔y=x∨y ∈ l:=by
  induction l with
  | nil=>simp [put]
  | cons z zs ih =>
    simp only [put]
    split
    . simp only [List.mem_cons,ih]
      constructor
      . rintro (h | h | h)
        . exact .inr (.inl h)
        . exact .inl h
        . exact .inr (.inr h)
      . rintro (h | h | h)
        . exact .inr (.inl h)
        . exact .inl h
        . exact .inr (.inr h)
    . split
      . rename_i h1 h2
        subst h2
        simp
      . simp
theorem put_sorted (l:List Int)(x:Int)(h:l.Pairwise (· < ·)):(put l x).Pairwise (· < ·):=by
  induction l with
  | nil=>simp [put]
  | cons y ys ih =>
    simp only [List.pairwise_cons] at h
    simp only [put]
    split
    . rename_i h1
      rw [List.pairwise_cons]
      refine ⟨fun z hz=>?_,ih h.2⟩
      rcases (put_mem ys x z).1 hz with e | e
      . rw [e];exact h1
      . exact h.1 z e
    . split
      . rw [List.pairwise_cons];exact h
      . rename_i h1 h2
        rw [List.pairwise_cons]
        refine ⟨fun z hz=>?_,by rw [List.pairwise_cons];exact h⟩
        rcases List.mem_cons.1 hz with e | e
        . rw [e];omega
        . have:=h.1 z e;omega
theorem put_len (l:List Int)(x:Int):(put l x).length<=l.length+1:=by
  induction l with
  | nil=>simp [put]
  | cons y ys ih=>simp only [put];split <;> (try split) <;> simp <;> omega
def puts (xs:List Int):List Int:=xs.foldl put []
theorem puts_step (xs:List Int)(x:Int):puts (xs ++ [x])=put (puts xs) x:=by simp [puts]
theorem puts_perm:∀ (n:Nat) (xs:List Int),xs.length=n->xs.Nodup->(puts xs).Perm xs/\(puts xs).Pairwise (· < ·):=by
  intro n
  induction n with
  | zero=>intro xs h _;have:xs=[]:=List.eq_nil_of_length_eq_zero h;subst this;exact ⟨List.Perm.refl _,List.Pairwise.nil⟩
  | succ n ih =>
    intro xs h hn
    rcases List.eq_nil_or_concat xs with e | ⟨ys,x,e⟩
    . subst e;simp at h
    . subst e
      rw [List.concat_eq_append] at h hn ⊢
      have hn':=List.nodup_append.1 hn
      obtain ⟨i1,i2⟩:=ih ys (by simpa using h) hn'.1
      have hx:x ∉ ys:=fun hm=>hn'.2.2 x hm x (by simp) rfl
      have hx2:x ∉ puts ys:=fun hm=>hx (i1.mem_iff.1 hm)
      rw [puts_step]
      refine ⟨?_,put_sorted _ _ i2⟩
      exact (put_perm _ _ hx2).trans ((i1.cons x).trans (List.perm_append_singleton x ys).symm)
theorem asc_of {ys:List Int}(h:Asc ys):ys.Pairwise (·<=·):=by
  rw [List.pairwise_iff_getElem]
  intro i j hi hj hij
  have:=h i j hij hj
  simpa [hi,hj] using this
theorem puts_sorted {xs ys:List Int}(hn:xs.Nodup)(hp:ys.Perm xs)(ha:Asc ys):ys=puts xs:=by
  obtain ⟨h1,h2⟩:=puts_perm _ xs rfl hn
  refine List.Perm.eq_of_pairwise (le:=(·<=·)) (fun a b _ _ h h'=>by omega) (asc_of ha) (h2.imp (fun h=>by omega)) (hp.trans h1.symm)
def cd224:Cd:=(.seq (.reg [⟨⟨some 2,.assign (.const (.bool false)),none⟩,[]⟩]) (.seq (.reg [⟨⟨some 3,.move (.tmp 0),none⟩,[]⟩,
  ⟨⟨some 4,.move (.tmp 0),none⟩,[]⟩,
  ⟨⟨some 5,.binOp .neq 3 (.tmp 3) (.tmp 4) 3,none⟩,[]⟩,
  ⟨⟨some 2,.assign (.tmp 5),none⟩,[]⟩]) .ret))
theorem in224:InT Tryz.prog 224 1 [.tmp 2] cd224:=InT.mk (by kernel_rfl) [] Tryz.func224 rfl (by kernel_rfl) (by kernel_rfl) (of_decide_eq_true (by kernel_rfl)) (by kernel_rfl)
def cd192:Cd:=(.seq (.reg [⟨⟨some 4,.assign (.const (.bool false)),none⟩,[]⟩]) (.seq (.reg [⟨⟨some 5,.move (.tmp 0),none⟩,[]⟩,⟨⟨some 6,.call ⟨(.value (.func 224)),#[.tmp 5],#[3]⟩,none⟩,[]⟩,⟨⟨some 7,.move (.tmp 6),none⟩,[]⟩,⟨⟨some 8,.move (.tmp 1),some (7,true)⟩,[]⟩,⟨⟨some 9,.call ⟨(.value (.func 224)),#[.tmp 8],#[3]⟩,some (7,true)⟩,[]⟩,⟨⟨some 10,.unOp .not 4 (.tmp 9),some (7,true)⟩,[]⟩,⟨⟨some 11,.pick (.tmp 7) (.tmp 10) (.const (.bool false)),none⟩,[]⟩,⟨⟨some 12,.move (.tmp 11),none⟩,[]⟩,⟨⟨some 13,.move (.tmp 0),some (12,false)⟩,[]⟩,⟨⟨some 14,.move (.tmp 1),some (12,false)⟩,[]⟩,⟨⟨some 15,.binOp .lss 3 (.tmp 13) (.tmp 14) 3,some (12,false)⟩,[]⟩,⟨⟨some 16,.pick (.tmp 12) (.const (.bool true)) (.tmp 15),none⟩,[]⟩,
 ⟨⟨some 4,.assign (.tmp 16),none⟩,[]⟩]) .ret))
theorem in192:InT Tryz.prog 192 2 [.tmp 4] cd192:=InT.mk (by kernel_rfl) [] Tryz.func192 rfl (by kernel_rfl) (by kernel_rfl) (of_decide_eq_true (by kernel_rfl)) (by kernel_rfl)
def cd214:Cd:=(.seq (.reg [⟨⟨some 8,.move (.tmp 1),none⟩,[]⟩,⟨⟨some 9,.binOp .add 3 (.tmp 8) (.const (.int .i64 1)) 3,none⟩,[]⟩,⟨⟨some 6,.assign (.tmp 9),none⟩,[]⟩]) (.block 0 (.loop (.seq (.seq (.reg [⟨⟨some 10,.move (.tmp 6),none⟩,[]⟩,⟨⟨some 11,.move (.tmp 2),none⟩,[]⟩,⟨⟨some 12,.binOp .lss 3 (.tmp 10) (.tmp 11) 3,none⟩,[]⟩]) (.cond (.tmp 12) .skip (.exit 0))) (.seq (.block 1 (.seq (.reg [⟨⟨some 15,.move (.tmp 6),none⟩,[]⟩,⟨⟨some 7,.assign (.tmp 15),none⟩,[]⟩]) (.block 2 (.loop (.seq (.seq (.reg [⟨⟨some 16,.move (.tmp 7),none⟩,[]⟩,⟨⟨some 17,.move (.tmp 1),none⟩,[]⟩,⟨⟨some 18,.binOp .gtr 3 (.tmp 16) (.tmp 17) 3,none⟩,[]⟩,⟨⟨some 19,.move (.tmp 18),none⟩,[]⟩,⟨⟨some 20,.move (.tmp 0),some (19,true)⟩,[]⟩,⟨⟨some 21,.move (.tmp 7),some (19,true)⟩,[]⟩,⟨⟨some 22,.indexAddr 27 (.tmp 20) (.tmp 21),some (19,true)⟩,[]⟩,
 ⟨⟨some 23,.load 3 (.tmp 22),some (19,true)⟩,[]⟩,⟨⟨some 24,.move (.tmp 0),some (19,true)⟩,[]⟩,⟨⟨some 25,.move (.tmp 7),some (19,true)⟩,[]⟩,⟨⟨some 26,.binOp .sub 3 (.tmp 25) (.const (.int .i64 1)) 3,some (19,true)⟩,[]⟩,⟨⟨some 27,.indexAddr 27 (.tmp 24) (.tmp 26),some (19,true)⟩,[]⟩,⟨⟨some 28,.load 3 (.tmp 27),some (19,true)⟩,[]⟩,⟨⟨some 29,.call ⟨(.value (.func 192)),#[.tmp 23,.tmp 28],#[3,3]⟩,some (19,true)⟩,[]⟩,⟨⟨some 30,.pick (.tmp 19) (.tmp 29) (.const (.bool false)),none⟩,[]⟩]) (.cond (.tmp 30) .skip (.exit 2))) (.seq (.block 3 (.reg [⟨⟨some 33,.move (.tmp 0),none⟩,[]⟩,⟨⟨some 34,.move (.tmp 7),none⟩,[]⟩,⟨⟨some 35,.move (.tmp 0),none⟩,[]⟩,⟨⟨some 36,.move (.tmp 7),none⟩,[]⟩,⟨⟨some 37,.binOp .sub 3 (.tmp 36) (.const (.int .i64 1)) 3,none⟩,[]⟩,
 ⟨⟨some 38,.move (.tmp 0),none⟩,[]⟩,⟨⟨some 39,.move (.tmp 7),none⟩,[]⟩,⟨⟨some 40,.binOp .sub 3 (.tmp 39) (.const (.int .i64 1)) 3,none⟩,[]⟩,⟨⟨some 41,.indexAddr 27 (.tmp 38) (.tmp 40),none⟩,[]⟩,⟨⟨some 42,.load 3 (.tmp 41),none⟩,[]⟩,⟨⟨some 43,.move (.tmp 0),none⟩,[]⟩,⟨⟨some 44,.move (.tmp 7),none⟩,[]⟩,⟨⟨some 45,.indexAddr 27 (.tmp 43) (.tmp 44),none⟩,[]⟩,⟨⟨some 46,.load 3 (.tmp 45),none⟩,[]⟩,⟨⟨some 47,.indexAddr 27 (.tmp 33) (.tmp 34),none⟩,[]⟩,⟨⟨none,.store 3 (.tmp 47) (.tmp 42),none⟩,[]⟩,⟨⟨some 48,.indexAddr 27 (.tmp 35) (.tmp 37),none⟩,[]⟩,
 ⟨⟨none,.store 3 (.tmp 48) (.tmp 46),none⟩,[]⟩])) (.reg [⟨⟨some 31,.move (.tmp 7),none⟩,[]⟩,
  ⟨⟨some 32,.binOp .sub 3 (.tmp 31) (.const (.int .i64 1)) 3,none⟩,[]⟩,
  ⟨⟨some 7,.assign (.tmp 32),none⟩,[]⟩]))))))) (.reg [⟨⟨some 13,.move (.tmp 6),none⟩,[]⟩,
  ⟨⟨some 14,.binOp .add 3 (.tmp 13) (.const (.int .i64 1)) 3,none⟩,[]⟩,
  ⟨⟨some 6,.assign (.tmp 14),none⟩,[]⟩]))))))
theorem in214:InT Tryz.prog 214 3 [] cd214:=InT.mk (by kernel_rfl) [(4,[(0,false),(1,false),(2,false),(3,false),(4,false),(5,false),(6,false),(7,false),(8,false),(9,false),(10,false),(11,false),(12,false),(13,true),(14,false)]),(6,[(0,false),(1,false),(2,false),(3,false),(4,false),(5,false),(6,false),(7,false),(8,false),(9,false),(10,false),(11,false),(12,false),(13,false),(14,false),(15,true),(16,false),(17,true)])] Tryz.func214 rfl (by kernel_rfl) (by kernel_rfl) (of_decide_eq_true (by kernel_rfl)) (by kernel_rfl)
def cd223:Cd:=(.seq (.reg [⟨⟨some 2,.assign (.const (.int .i64 0)),none⟩,[]⟩]) (.seq (.seq (.reg [⟨⟨some 3,.move (.tmp 0),none⟩,[]⟩,⟨⟨some 4,.binOp .geq 87 (.tmp 3) (.const (.int .u64 4294967296)) 87,none⟩,[]⟩]) (.cond (.tmp 4) (.seq (.reg [⟨⟨some 5,.move (.tmp 0),none⟩,[]⟩,⟨⟨some 6,.binOp .shr 87 (.tmp 5) (.const (.int .u64 32)) 122,none⟩,[]⟩,⟨⟨some 0,.assign (.tmp 6),none⟩,[]⟩]) (.reg [⟨⟨some 2,.assign (.const (.int .i64 32)),none⟩,[]⟩])) .skip)) (.seq (.seq (.reg [⟨⟨some 7,.move (.tmp 0),none⟩,[]⟩,⟨⟨some 8,.binOp .geq 87 (.tmp 7) (.const (.int .u64 65536)) 87,none⟩,[]⟩]) (.cond (.tmp 8) (.seq (.reg [⟨⟨some 9,.move (.tmp 0),none⟩,[]⟩,⟨⟨some 10,.binOp .shr 87 (.tmp 9) (.const (.int .u64 16)) 122,none⟩,[]⟩,⟨⟨some 0,.assign (.tmp 10),none⟩,[]⟩]) (.reg [⟨⟨some 11,.move (.tmp 2),none⟩,[]⟩,⟨⟨some 12,.binOp .add 3 (.tmp 11) (.const (.int .i64 16)) 3,none⟩,[]⟩,⟨⟨some 2,.assign (.tmp 12),none⟩,[]⟩])) .skip)) (.seq (.seq (.reg [⟨⟨some 13,.move (.tmp 0),none⟩,[]⟩,⟨⟨some 14,.binOp .geq 87 (.tmp 13) (.const (.int .u64 256)) 87,none⟩,[]⟩]) (.cond (.tmp 14) (.seq (.reg [⟨⟨some 15,.move (.tmp 0),none⟩,[]⟩,⟨⟨some 16,.binOp .shr 87 (.tmp 15) (.const (.int .u64 8)) 122,none⟩,[]⟩,⟨⟨some 0,.assign (.tmp 16),none⟩,[]⟩]) (.reg [⟨⟨some 17,.move (.tmp 2),none⟩,[]⟩,
 ⟨⟨some 18,.binOp .add 3 (.tmp 17) (.const (.int .i64 8)) 3,none⟩,[]⟩,
  ⟨⟨some 2,.assign (.tmp 18),none⟩,[]⟩])) .skip)) (.seq (.reg [⟨⟨some 19,.move (.tmp 2),none⟩,[]⟩,
  ⟨⟨some 20,.move (.tmp 0),none⟩,[]⟩,
  ⟨⟨some 21,.convert 87 5 (.tmp 20),none⟩,[]⟩,
  ⟨⟨some 22,.index 9 (.const (.string { data:=#[0,1,2,2,3,3,3,3,4,4,4,4,4,4,4,4,5,5,5,5,5,5,5,5,5,5,5,5,5,5,5,5,6,6,6,6,6,6,6,6,6,6,6,6,6,6,6,6,6,6,6,6,6,6,6,6,6,6,6,6,6,6,6,6,7,7,7,7,7,7,7,7,7,7,7,7,7,7,7,7,7,7,7,7,7,7,7,7,7,7,7,7,7,7,7,7,7,7,7,7,7,7,7,7,7,7,7,7,7,7,7,7,7,7,7,7,7,7,7,7,7,7,7,7,7,7,7,7,8,8,8,8,8,8,8,8,8,8,8,8,8,8,8,8,8,8,8,8,8,8,8,8,8,8,8,8,8,8,8,8,8,8,8,8,8,8,8,8,8,8,8,8,8,8,8,8,8,8,8,8,8,8,8,8,8,8,8,8,8,8,8,8,8,8,8,8,8,8,8,8,8,8,8,8,8,8,8,8,8,8,8,8,8,8,8,8,8,8,8,8,8,8,8,8,8,8,8,8,8,8,8,8,8,8,8,8,8,8,8,8,8,8,8,8,8,8,8,8,8,8,8,8,8,8,8,8] })) (.tmp 21),none⟩,[]⟩,
  ⟨⟨some 23,.convert 5 3 (.tmp 22),none⟩,[]⟩,
  ⟨⟨some 24,.binOp .add 3 (.tmp 19) (.tmp 23) 3,none⟩,[]⟩,
  ⟨⟨some 2,.assign (.tmp 24),none⟩,[]⟩]) .ret)))))
theorem in223:InT Tryz.prog 223 1 [.tmp 2] cd223:=InT.mk (by kernel_rfl) [] Tryz.func223 rfl (by kernel_rfl) (by kernel_rfl) (of_decide_eq_true (by kernel_rfl)) (by kernel_rfl)
def cd188:Cd:=(.seq (.reg [⟨⟨some 2,.assign (.const (.int .i64 0)),none⟩,[]⟩]) (.seq (.cond (.const (.bool false)) (.seq (.reg [⟨⟨some 3,.move (.tmp 0),none⟩,[]⟩,
  ⟨⟨some 4,.convert 122 172 (.tmp 3),none⟩,[]⟩,
  ⟨⟨some 5,.call ⟨(.value (.func 222)),#[.tmp 4],#[172]⟩,none⟩,[]⟩,
  ⟨⟨some 2,.assign (.tmp 5),none⟩,[]⟩]) .ret) .skip) (.seq (.reg [⟨⟨some 6,.move (.tmp 0),none⟩,[]⟩,
  ⟨⟨some 7,.call ⟨(.value (.func 223)),#[.tmp 6],#[87]⟩,none⟩,[]⟩,
  ⟨⟨some 2,.assign (.tmp 7),none⟩,[]⟩]) .ret)))
theorem in188:InT Tryz.prog 188 1 [.tmp 2] cd188:=InT.mk (by kernel_rfl) [] Tryz.func188 rfl (by kernel_rfl) (by kernel_rfl) (of_decide_eq_true (by kernel_rfl)) (by kernel_rfl)
def cd187:Cd:=(.seq (.reg [⟨⟨some 8,.assign (.const (.bool true)),none⟩,[]⟩]) (.seq (.reg [⟨⟨some 9,.assign (.const (.bool true)),none⟩,[]⟩]) (.block 0 (.loop (.block 1 (.seq (.reg [⟨⟨some 19,.move (.tmp 2),none⟩,[]⟩,⟨⟨some 20,.move (.tmp 1),none⟩,[]⟩,⟨⟨some 21,.binOp .sub 3 (.tmp 19) (.tmp 20) 3,none⟩,[]⟩,⟨⟨some 10,.assign (.tmp 21),none⟩,[]⟩]) (.seq (.seq (.reg [⟨⟨some 22,.move (.tmp 10),none⟩,[]⟩,⟨⟨some 23,.binOp .leq 3 (.tmp 22) (.const (.int .i64 12)) 3,none⟩,[]⟩]) (.cond (.tmp 23) (.seq (.reg [⟨⟨some 24,.move (.tmp 0),none⟩,[]⟩,⟨⟨some 25,.move (.tmp 1),none⟩,[]⟩,⟨⟨some 26,.move (.tmp 2),none⟩,[]⟩,⟨⟨some 27,.call ⟨(.value (.func 214)),#[.tmp 24,.tmp 25,.tmp 26],#[27,3,3]⟩,none⟩,[]⟩]) .ret) .skip)) (.seq (.seq (.reg [⟨⟨some 28,.move (.tmp 3),none⟩,[]⟩,⟨⟨some 29,.binOp .eql 3 (.tmp 28) (.const (.int .i64 0)) 3,none⟩,[]⟩]) (.cond (.tmp 29) (.seq (.reg [⟨⟨some 30,.move (.tmp 0),none⟩,[]⟩,⟨⟨some 31,.move (.tmp 1),none⟩,[]⟩,⟨⟨some 32,.move (.tmp 2),none⟩,[]⟩,⟨⟨some 33,.call ⟨(.value (.func 215)),#[.tmp 30,.tmp 31,.tmp 32],#[27,3,3]⟩,none⟩,[]⟩]) .ret) .skip)) (.seq (.seq (.reg [⟨⟨some 34,.move (.tmp 8),none⟩,[]⟩,
 ⟨⟨some 35,.unOp .not 4 (.tmp 34),none⟩,[]⟩]) (.cond (.tmp 35) (.seq (.reg [⟨⟨some 36,.move (.tmp 0),none⟩,[]⟩,⟨⟨some 37,.move (.tmp 1),none⟩,[]⟩,⟨⟨some 38,.move (.tmp 2),none⟩,[]⟩,⟨⟨some 39,.call ⟨(.value (.func 216)),#[.tmp 36,.tmp 37,.tmp 38],#[27,3,3]⟩,none⟩,[]⟩]) (.reg [⟨⟨some 40,.move (.tmp 3),none⟩,[]⟩,⟨⟨some 41,.binOp .sub 3 (.tmp 40) (.const (.int .i64 1)) 3,none⟩,[]⟩,⟨⟨some 3,.assign (.tmp 41),none⟩,[]⟩])) .skip)) (.seq (.reg [⟨⟨some 43,.move (.tmp 0),none⟩,[]⟩,⟨⟨some 44,.move (.tmp 1),none⟩,[]⟩,⟨⟨some 45,.move (.tmp 2),none⟩,[]⟩,⟨⟨some 46,.call ⟨(.value (.func 217)),#[.tmp 43,.tmp 44,.tmp 45],#[27,3,3]⟩,none⟩,[]⟩,⟨⟨some 42,.move (.tmp 46),none⟩,[]⟩,⟨⟨some 47,.extract (.tmp 42) 0,none⟩,[]⟩,⟨⟨some 48,.extract (.tmp 42) 1,none⟩,[]⟩,
 ⟨⟨some 11,.assign (.tmp 47),none⟩,[]⟩,⟨⟨some 12,.assign (.tmp 48),none⟩,[]⟩]) (.seq (.seq (.reg [⟨⟨some 49,.move (.tmp 12),none⟩,[]⟩,⟨⟨some 50,.binOp .eql 165 (.tmp 49) (.const (.int .i64 2)) 165,none⟩,[]⟩]) (.cond (.tmp 50) (.seq (.reg [⟨⟨some 51,.move (.tmp 0),none⟩,[]⟩,⟨⟨some 52,.move (.tmp 1),none⟩,[]⟩,⟨⟨some 53,.move (.tmp 2),none⟩,[]⟩,⟨⟨some 54,.call ⟨(.value (.func 218)),#[.tmp 51,.tmp 52,.tmp 53],#[27,3,3]⟩,none⟩,[]⟩]) (.seq (.reg [⟨⟨some 55,.move (.tmp 2),none⟩,[]⟩,⟨⟨some 56,.binOp .sub 3 (.tmp 55) (.const (.int .i64 1)) 3,none⟩,[]⟩,⟨⟨some 57,.move (.tmp 11),none⟩,[]⟩,⟨⟨some 58,.move (.tmp 1),none⟩,[]⟩,⟨⟨some 59,.binOp .sub 3 (.tmp 57) (.tmp 58) 3,none⟩,[]⟩,⟨⟨some 60,.binOp .sub 3 (.tmp 56) (.tmp 59) 3,none⟩,[]⟩,⟨⟨some 11,.assign (.tmp 60),none⟩,[]⟩]) (.reg [⟨⟨some 12,.assign (.const (.int .i64 1)),none⟩,[]⟩]))) .skip)) (.seq (.seq (.reg [⟨⟨some 61,.move (.tmp 8),none⟩,[]⟩,
 ⟨⟨some 62,.move (.tmp 61),none⟩,[]⟩,⟨⟨some 63,.move (.tmp 9),some (62,true)⟩,[]⟩,⟨⟨some 64,.pick (.tmp 62) (.tmp 63) (.const (.bool false)),none⟩,[]⟩,⟨⟨some 65,.move (.tmp 64),none⟩,[]⟩,⟨⟨some 66,.move (.tmp 12),some (65,true)⟩,[]⟩,⟨⟨some 67,.binOp .eql 165 (.tmp 66) (.const (.int .i64 1)) 165,some (65,true)⟩,[]⟩,⟨⟨some 68,.pick (.tmp 65) (.tmp 67) (.const (.bool false)),none⟩,[]⟩]) (.cond (.tmp 68) (.seq (.reg [⟨⟨some 69,.move (.tmp 0),none⟩,[]⟩,⟨⟨some 70,.move (.tmp 1),none⟩,[]⟩,⟨⟨some 71,.move (.tmp 2),none⟩,[]⟩,⟨⟨some 72,.call ⟨(.value (.func 219)),#[.tmp 69,.tmp 70,.tmp 71],#[27,3,3]⟩,none⟩,[]⟩]) (.cond (.tmp 72) .ret .skip)) .skip)) (.seq (.seq (.reg [⟨⟨some 73,.move (.tmp 1),none⟩,[]⟩,⟨⟨some 74,.binOp .gtr 3 (.tmp 73) (.const (.int .i64 0)) 3,none⟩,[]⟩,⟨⟨some 75,.move (.tmp 74),none⟩,[]⟩,
 ⟨⟨some 76,.move (.tmp 0),some (75,true)⟩,[]⟩,⟨⟨some 77,.move (.tmp 1),some (75,true)⟩,[]⟩,⟨⟨some 78,.binOp .sub 3 (.tmp 77) (.const (.int .i64 1)) 3,some (75,true)⟩,[]⟩,⟨⟨some 79,.indexAddr 27 (.tmp 76) (.tmp 78),some (75,true)⟩,[]⟩,⟨⟨some 80,.load 3 (.tmp 79),some (75,true)⟩,[]⟩,⟨⟨some 81,.move (.tmp 0),some (75,true)⟩,[]⟩,⟨⟨some 82,.move (.tmp 11),some (75,true)⟩,[]⟩,⟨⟨some 83,.indexAddr 27 (.tmp 81) (.tmp 82),some (75,true)⟩,[]⟩,⟨⟨some 84,.load 3 (.tmp 83),some (75,true)⟩,[]⟩,⟨⟨some 85,.call ⟨(.value (.func 192)),#[.tmp 80,.tmp 84],#[3,3]⟩,some (75,true)⟩,[]⟩,⟨⟨some 86,.unOp .not 4 (.tmp 85),some (75,true)⟩,[]⟩,⟨⟨some 87,.pick (.tmp 75) (.tmp 86) (.const (.bool false)),none⟩,[]⟩]) (.cond (.tmp 87) (.seq (.reg [⟨⟨some 88,.move (.tmp 0),none⟩,[]⟩,
 ⟨⟨some 89,.move (.tmp 1),none⟩,[]⟩,⟨⟨some 90,.move (.tmp 2),none⟩,[]⟩,⟨⟨some 91,.move (.tmp 11),none⟩,[]⟩,⟨⟨some 92,.call ⟨(.value (.func 220)),#[.tmp 88,.tmp 89,.tmp 90,.tmp 91],#[27,3,3,3]⟩,none⟩,[]⟩,⟨⟨some 13,.assign (.tmp 92),none⟩,[]⟩]) (.seq (.reg [⟨⟨some 93,.move (.tmp 13),none⟩,[]⟩,⟨⟨some 1,.assign (.tmp 93),none⟩,[]⟩]) (.exit 1))) .skip)) (.seq (.reg [⟨⟨some 95,.move (.tmp 0),none⟩,[]⟩,⟨⟨some 96,.move (.tmp 1),none⟩,[]⟩,⟨⟨some 97,.move (.tmp 2),none⟩,[]⟩,⟨⟨some 98,.move (.tmp 11),none⟩,[]⟩,⟨⟨some 99,.call ⟨(.value (.func 221)),#[.tmp 95,.tmp 96,.tmp 97,.tmp 98],#[27,3,3,3]⟩,none⟩,[]⟩,⟨⟨some 94,.move (.tmp 99),none⟩,[]⟩,⟨⟨some 100,.extract (.tmp 94) 0,none⟩,[]⟩,
 ⟨⟨some 101,.extract (.tmp 94) 1,none⟩,[]⟩,⟨⟨some 14,.assign (.tmp 100),none⟩,[]⟩,⟨⟨some 15,.assign (.tmp 101),none⟩,[]⟩]) (.seq (.reg [⟨⟨some 102,.move (.tmp 15),none⟩,[]⟩,⟨⟨some 9,.assign (.tmp 102),none⟩,[]⟩]) (.seq (.reg [⟨⟨some 103,.move (.tmp 14),none⟩,[]⟩,⟨⟨some 104,.move (.tmp 1),none⟩,[]⟩,⟨⟨some 105,.binOp .sub 3 (.tmp 103) (.tmp 104) 3,none⟩,[]⟩,⟨⟨some 106,.move (.tmp 2),none⟩,[]⟩,⟨⟨some 107,.move (.tmp 14),none⟩,[]⟩,⟨⟨some 108,.binOp .sub 3 (.tmp 106) (.tmp 107) 3,none⟩,[]⟩,⟨⟨some 16,.assign (.tmp 105),none⟩,[]⟩,⟨⟨some 17,.assign (.tmp 108),none⟩,[]⟩]) (.seq (.reg [⟨⟨some 109,.move (.tmp 10),none⟩,[]⟩,⟨⟨some 110,.binOp .quo 3 (.tmp 109) (.const (.int .i64 8)) 3,none⟩,[]⟩,
 ⟨⟨some 18,.assign (.tmp 110),none⟩,[]⟩]) (.seq (.reg [⟨⟨some 111,.move (.tmp 16),none⟩,[]⟩,⟨⟨some 112,.move (.tmp 17),none⟩,[]⟩,⟨⟨some 113,.binOp .lss 3 (.tmp 111) (.tmp 112) 3,none⟩,[]⟩]) (.cond (.tmp 113) (.seq (.reg [⟨⟨some 114,.move (.tmp 16),none⟩,[]⟩,⟨⟨some 115,.move (.tmp 18),none⟩,[]⟩,⟨⟨some 116,.binOp .geq 3 (.tmp 114) (.tmp 115) 3,none⟩,[]⟩,⟨⟨some 8,.assign (.tmp 116),none⟩,[]⟩]) (.seq (.reg [⟨⟨some 117,.move (.tmp 0),none⟩,[]⟩,⟨⟨some 118,.move (.tmp 1),none⟩,[]⟩,⟨⟨some 119,.move (.tmp 14),none⟩,[]⟩,⟨⟨some 120,.move (.tmp 3),none⟩,[]⟩,⟨⟨some 121,.call ⟨(.value (.func 187)),#[.tmp 117,.tmp 118,.tmp 119,.tmp 120],#[27,3,3,3]⟩,none⟩,[]⟩]) (.reg [⟨⟨some 122,.move (.tmp 14),none⟩,[]⟩,⟨⟨some 123,.binOp .add 3 (.tmp 122) (.const (.int .i64 1)) 3,none⟩,[]⟩,⟨⟨some 1,.assign (.tmp 123),none⟩,[]⟩]))) (.seq (.reg [⟨⟨some 124,.move (.tmp 17),none⟩,[]⟩,
 ⟨⟨some 125,.move (.tmp 18),none⟩,[]⟩,
  ⟨⟨some 126,.binOp .geq 3 (.tmp 124) (.tmp 125) 3,none⟩,[]⟩,
  ⟨⟨some 8,.assign (.tmp 126),none⟩,[]⟩]) (.seq (.reg [⟨⟨some 127,.move (.tmp 0),none⟩,[]⟩,
  ⟨⟨some 128,.move (.tmp 14),none⟩,[]⟩,
  ⟨⟨some 129,.binOp .add 3 (.tmp 128) (.const (.int .i64 1)) 3,none⟩,[]⟩,
  ⟨⟨some 130,.move (.tmp 2),none⟩,[]⟩,
  ⟨⟨some 131,.move (.tmp 3),none⟩,[]⟩,
  ⟨⟨some 132,.call ⟨(.value (.func 187)),#[.tmp 127,.tmp 129,.tmp 130,.tmp 131],#[27,3,3,3]⟩,none⟩,[]⟩]) (.reg [⟨⟨some 133,.move (.tmp 14),none⟩,[]⟩,
  ⟨⟨some 2,.assign (.tmp 133),none⟩,[]⟩]))))))))))))))))))))))
theorem in187:InT Tryz.prog 187 4 [] cd187:=InT.mk (by kernel_rfl) [(17,[(0,false),(1,false),(2,false),(3,false),(4,false),(5,false),(6,false),(7,false),(8,false),(9,false),(10,false),(11,false),(12,true),(13,false),(14,false)])] Tryz.func187 rfl (by kernel_rfl) (by kernel_rfl) (of_decide_eq_true (by kernel_rfl)) (by kernel_rfl)
def cd123:Cd:=(.seq (.reg [⟨⟨some 3,.move (.tmp 0),none⟩,[]⟩,
  ⟨⟨some 4,.call ⟨(.builtin .len),#[.tmp 3],#[27]⟩,none⟩,[]⟩,
  ⟨⟨some 2,.assign (.tmp 4),none⟩,[]⟩]) (.reg [⟨⟨some 5,.move (.tmp 0),none⟩,[]⟩,
  ⟨⟨some 6,.move (.tmp 2),none⟩,[]⟩,
  ⟨⟨some 7,.move (.tmp 2),none⟩,[]⟩,
  ⟨⟨some 8,.convert 3 122 (.tmp 7),none⟩,[]⟩,
  ⟨⟨some 9,.call ⟨(.value (.func 188)),#[.tmp 8],#[122]⟩,none⟩,[]⟩,
  ⟨⟨some 10,.call ⟨(.value (.func 187)),#[.tmp 5,(.const (.int .i64 0)),.tmp 6,.tmp 9],#[27,3,3,3]⟩,none⟩,[]⟩]))
theorem in123:InT Tryz.prog 123 1 [] cd123:=InT.mk (by kernel_rfl) [] Tryz.func123 rfl (by kernel_rfl) (by kernel_rfl) (of_decide_eq_true (by kernel_rfl)) (by kernel_rfl)
end Go.Proofs.YtjnefjchconebaaGreat.Ai
namespace Go.Proofs.YtjnefjchconebaaGreat.Ai
open Go Go.RowKit
theorem Own.else_pre {e:TypeId}{H0 H H':AH}{v:Value}{xs:List Int}(h:Own e H0 H v xs)(hp:H0<+:H)(he:Else v H H'):H0<+:H':=by
  rcases h with h | ⟨o,h1,h2,h3⟩
  . exact hp.trans (else_pre_nil h.1 he)
  . exact Ai.else_pre hp (by rw [h1];exact h2) he
theorem isNaN_c (x:Int)(H:AH):ACalls Tryz.prog 224 [.int .i64 x] H fun r H'=>r=.bool false/\H=H':=by
  refine in224 rfl ?_
  intro Q hQ
  simp (maxSteps:=1000000) (disch:=omega) only [cd224,SS,eq_self,reduceIte,reduceCtorEq,Nat.reduceEqDiff,Nat.reduceAdd]
  refine hQ _ _ _ ?_
  simp (maxSteps:=1000000) (disch:=omega) only [SS,eq_self,reduceIte,reduceCtorEq,Nat.reduceEqDiff,Nat.reduceAdd]
theorem Less_c (x y:Int)(H:AH):ACalls Tryz.prog 192 [.int .i64 x,.int .i64 y] H fun r H'=>r=.bool (decide (x<y))/\H=H':=by
  refine in192 rfl ?_
  intro Q hQ
  simp (maxSteps:=1000000) (disch:=omega) only [cd192,SS,eq_self,reduceIte,reduceCtorEq,Nat.reduceEqDiff,Nat.reduceAdd]
  refine CallH.by (isNaN_c ..) ?_
  rintro _ _ ⟨rfl,rfl⟩
  simp (maxSteps:=1000000) (disch:=omega) only [SS,eq_self,reduceIte,reduceCtorEq,Nat.reduceEqDiff,Nat.reduceAdd]
  refine hQ _ _ _ ?_
  simp (maxSteps:=1000000) (disch:=omega) only [SS,eq_self,reduceIte,reduceCtorEq,Nat.reduceEqDiff,Nat.reduceAdd]
theorem getD_set (xs:List Int)(i k:Nat)(x:Int)(hi:i<xs.length):(xs.set i x).getD k 0=if k=i then x else xs.getD k 0:=by
  rw [List.getD_eq_getElem?_getD,List.getElem?_set]
  by_cases h:i=k
  . subst h;rw [if_pos rfl,if_pos rfl,if_pos hi];rfl
  . rw [if_neg h,if_neg (fun e=>h e.symm),<- List.getD_eq_getElem?_getD]
theorem swap_perm (xs:List Int)(i j:Nat)(hi:i<xs.length)(hj:j<xs.length):((xs.set i (xs.getD j 0)).set j (xs.getD i 0)).Perm xs:=by
  have h:=@List.set_set_perm _ xs i j hi hj
  have e1:xs.getD j 0=xs[j]:=by simp [hj]
  have e2:xs.getD i 0=xs[i]:=by simp [hi]
  rw [e1,e2];exact h
theorem swap_at (zs:List Int)(j k p:Nat)(a b:Int)(hj:j<zs.length)(hk:k<zs.length):((zs.set j a).set k b).getD p 0=if p=k then b else if p=j then a else zs.getD p 0:=by
  rw [getD_set (zs.set j a) k p b (by simpa using hk),getD_set zs j p a hj]
theorem insSort_c (o:Nat)(xs:List Int)(H:AH)(ho:H[o]?=some (.cells (ints xs) 3 false))(hlen:xs.length<=1099511627776) :
    ACalls Tryz.prog 214 [.slice (some ⟨o,0,none⟩) xs.length xs.length,.int .i64 0,.int .i64 (xs.length:Int)] H fun r H'=>∃ ys,H'=H.set o (.cells (ints ys) 3 false)/\ys.Perm xs/\Asc ys:=by
  refine in214 rfl ?_
  intro Q hQ
  generalize hn:xs.length=n at *
  simp (maxSteps:=1000000) (disch:=omega) only [cd214,wrap64,SS,eq_self,reduceIte,reduceCtorEq,Nat.reduceEqDiff,Nat.reduceAdd]
  refine LoopH.by (fun m s H'=>∃ i ys,m+i=n+1/\1<=i/\s 0=.slice (some ⟨o,0,none⟩) n n/\s 1=.int .i64 0/\s 2=.int .i64 (n:Int)/\s 6=.int .i64 ((i:Nat):Int)/\H'=H.set o (.cells (ints ys) 3 false)/\ys.Perm xs/\∀ p q,p<q->q<i->q<n->ys.getD p 0<=ys.getD q 0) n ?_ ?_
  . refine ⟨1,xs,by omega,by omega,rfl,rfl,rfl,rfl,?_,List.Perm.refl _,by omega⟩
    apply List.ext_getElem?
    intro j
    rw [List.getElem?_set]
    by_cases hj:o=j
    . subst hj;rw [if_pos rfl,if_pos (at_lt ho),ho]
    . rw [if_neg hj]
  . rintro m s H' ⟨i,ys,hm,hi1,h0,h1,h2,h6,rfl,hp,hs⟩
    have hyl:ys.length=n:=by rw [hp.length_eq,hn]
    simp (maxSteps:=1000000) (disch:=omega) only [h0,h1,h2,h6,SS,eq_self,reduceIte,reduceCtorEq,Nat.reduceEqDiff,Nat.reduceAdd]
    refine brD.intro (fun g=>?_) (fun g=>?_) <;> simp (maxSteps:=1000000) (disch:=omega) only [h0,h1,h2,h6,SS,eq_self,reduceIte,reduceCtorEq,Nat.reduceEqDiff,Nat.reduceAdd]
    . have hi:i<n:=by omega
      refine LoopH.by (fun m' s' H''=>∃ zs,m'<=i/\s' 0=.slice (some ⟨o,0,none⟩) n n/\s' 1=.int .i64 0/\s' 2=.int .i64 (n:Int)/\s' 6=.int .i64 ((i:Nat):Int)/\s' 7=.int .i64 ((m':Nat):Int)/\H''=H.set o (.cells (ints zs) 3 false)/\zs.Perm xs/\∀ p q,p<q->q<=i->q ≠ m'->zs.getD p 0<=zs.getD q 0) i ?_ ?_
      . refine ⟨ys,Nat.le_refl _,?_⟩
        have f1:∀ p q,p<q->q<=i->q ≠ i->ys.getD p 0<=ys.getD q 0:=fun p q h1 h2 h3=>hs p q h1 (by omega) (by omega)
        simp only [SS,eq_self,reduceIte,reduceCtorEq,Nat.reduceEqDiff,Nat.reduceAdd,h0,h1,h2,h6]
        exact ⟨hp,f1⟩
      . rintro j s' H'' ⟨zs,hj,g0,g1,g2,g6,g7,rfl,hq,hz⟩
        have hzl:zs.length=n:=by rw [hq.length_eq,hn]
        have hc:(H.set o (.cells (ints zs) 3 false))[o]?=some (.cells (ints zs) 3 false):=at_set ho
        have out:(j=0∨zs.getD (j - 1) 0<=zs.getD j 0)->∀ p q,p<q->q<i+1->q<n->zs.getD p 0<=zs.getD q 0:=by
          intro h p q h1 h2 h3
          by_cases e:q=j
          . subst e
            rcases h with h | h
            . omega
            . by_cases e2:p=q - 1
              . subst e2;exact h
              . have:=hz p (q - 1) (by omega) (by omega) (by omega)
                omega
          . exact hz p q h1 (by omega) e
        simp (maxSteps:=1000000) (disch:=omega) only [g0,g1,g2,g6,g7,SS,eq_self,reduceIte,reduceCtorEq,Nat.reduceEqDiff,Nat.reduceAdd]
        refine brD.intro (fun q=>?_) (fun q=>?_)
        . have hj0:0<j:=by omega
          have e1:((j:Int) - 1).toNat=j - 1:=by omega
          have e3:((j:Int) - 1)=((j - 1:Nat):Int):=by omega
          have c1:cellA (H.set o (.cells (ints zs) 3 false)) o j=some (.int .i64 (zs.getD j 0)):=cell_ints hc (by omega)
          have c2:cellA (H.set o (.cells (ints zs) 3 false)) o (j - 1)=some (.int .i64 (zs.getD (j - 1) 0)):=cell_ints hc (by omega)
          simp (maxSteps:=1000000) (disch:=omega) only [q,g0,g1,g2,g6,g7,Int.toNat_natCast,Nat.zero_add,e1,c1,c2,wrap64,SS,eq_self,reduceIte,reduceCtorEq,Nat.reduceEqDiff,Nat.reduceAdd]
          refine CallH.by (Less_c ..) ?_
          rintro _ _ ⟨rfl,rfl⟩
          simp (maxSteps:=1000000) (disch:=omega) only [q,SS,eq_self,reduceIte,reduceCtorEq,Nat.reduceEqDiff,Nat.reduceAdd]
          refine brD.intro (fun lt=>?_) (fun lt=>?_)
          . have st1:∀ x,storeA Tryz.prog 3 (.pointer (some ⟨o,j,none⟩)) (.int .i64 x) (H.set o (.cells (ints zs) 3 false))=some (H.set o (.cells (ints (zs.set j x)) 3 false)):=by
              intro x;rw [st_ints cs3 hc (by omega),List.set_set]
            have st2:∀ x y,storeA Tryz.prog 3 (.pointer (some ⟨o,j - 1,none⟩)) (.int .i64 x) (H.set o (.cells (ints (zs.set j y)) 3 false))=some (H.set o (.cells (ints ((zs.set j y).set (j - 1) x)) 3 false)):=by
              intro x y
              have:(H.set o (.cells (ints (zs.set j y)) 3 false))[o]?=some (.cells (ints (zs.set j y)) 3 false):=at_set ho
              rw [st_ints cs3 this (by simp;omega),List.set_set]
            simp (maxSteps:=1000000) (disch:=omega) only [g0,g1,g2,g6,g7,Int.toNat_natCast,Nat.zero_add,e1,c1,c2,st1,st2,wrap64,SS,eq_self,reduceIte,reduceCtorEq,Nat.reduceEqDiff,Nat.reduceAdd]
            have f1:=swap_perm zs j (j - 1) (by omega) (by omega)
            have f2:∀ p q,p<q->q<=i->q ≠ j - 1->((zs.set j (zs.getD (j - 1) 0)).set (j - 1) (zs.getD j 0)).getD p 0<=((zs.set j (zs.getD (j - 1) 0)).set (j - 1) (zs.getD j 0)).getD q 0:=by
              intro p q h1 h2 h3
              rw [swap_at zs j (j - 1) p _ _ (by omega) (by omega),swap_at zs j (j - 1) q _ _ (by omega) (by omega),if_neg h3]
              by_cases ep:p=j - 1
              . rw [if_pos ep]
                by_cases eq:q=j
                . rw [if_pos eq];omega
                . rw [if_neg eq];exact hz j q (by omega) h2 eq
              . rw [if_neg ep]
                by_cases ep2:p=j
                . rw [if_pos ep2,if_neg (by omega)];exact hz (j - 1) q (by omega) h2 (by omega)
                . rw [if_neg ep2]
                  by_cases eq:q=j
                  . rw [if_pos eq];exact hz p (j - 1) (by omega) (by omega) (by omega)
                  . rw [if_neg eq];exact hz p q h1 h2 eq
            refine ⟨j - 1,by omega,(zs.set j (zs.getD (j - 1) 0)).set (j - 1) (zs.getD j 0),?_⟩
            (repeat' apply And.intro) <;> first | exact f1.trans hq | exact f2 | (simp only [Value.int.injEq,true_and];omega) | omega | rfl | assumption | (simp;done) | (simp;omega)
          . simp (maxSteps:=1000000) (disch:=omega) only [g0,g1,g2,g6,g7,wrap64,SS,eq_self,reduceIte,reduceCtorEq,Nat.reduceEqDiff,Nat.reduceAdd]
            have f1:=out (.inr (by omega))
            refine ⟨m - 1,by omega,i+1,zs,?_⟩
            (repeat' apply And.intro) <;> first | exact hq | exact f1 | (simp only [Value.int.injEq,true_and];omega) | omega | rfl | assumption | (simp;done) | (simp;omega)
        . simp (maxSteps:=1000000) (disch:=omega) only [q,g0,g1,g2,g6,g7,wrap64,SS,eq_self,reduceIte,reduceCtorEq,Nat.reduceEqDiff,Nat.reduceAdd]
          have f1:=out (.inl (by omega))
          refine ⟨m - 1,by omega,i+1,zs,?_⟩
          (repeat' apply And.intro) <;> first | exact hq | exact f1 | (simp only [Value.int.injEq,true_and];omega) | omega | rfl | assumption | (simp;done) | (simp;omega)
    . refine hQ _ _ _ ?_
      simp (maxSteps:=1000000) (disch:=omega) only [SS,eq_self,reduceIte,reduceCtorEq,Nat.reduceEqDiff,Nat.reduceAdd]
      refine ⟨ys,rfl,hp,?_⟩
      intro p q h1 h2
      exact hs p q h1 (by omega) (by omega)
theorem insNil_c (H:AH):ACalls Tryz.prog 214 [.slice none 0 0,.int .i64 0,.int .i64 0] H fun r H'=>H=H':=by
  refine in214 rfl ?_
  intro Q hQ
  simp (maxSteps:=1000000) (disch:=omega) only [cd214,wrap64,SS,eq_self,reduceIte,reduceCtorEq,Nat.reduceEqDiff,Nat.reduceAdd]
  refine LoopH.by (fun m s H'=>s 2=.int .i64 0/\s 6=.int .i64 1/\H=H') 0 ?_ ?_
  . exact ⟨rfl,rfl,rfl⟩
  . rintro m s H' ⟨h2,h6,rfl⟩
    simp (maxSteps:=1000000) (disch:=omega) only [h2,h6,SS,eq_self,reduceIte,reduceCtorEq,Nat.reduceEqDiff,Nat.reduceAdd]
    refine brD.intro (fun h=>absurd h (by decide)) (fun _=>?_)
    simp (maxSteps:=1000000) (disch:=omega) only [SS,eq_self,reduceIte,reduceCtorEq,Nat.reduceEqDiff,Nat.reduceAdd]
    refine hQ _ _ _ ?_
    simp (maxSteps:=1000000) (disch:=omega) only [SS,eq_self,reduceIte,reduceCtorEq,Nat.reduceEqDiff,Nat.reduceAdd]
theorem wrapU64 {n:Int}(h1:0<=n)(h2:n<18446744073709551616):IntKind.u64.wrap n=n:=by rw [IntKind.wrap_u64];omega
theorem wrapU8 {n:Int}(h1:0<=n)(h2:n<256):IntKind.u8.wrap n=n:=by rw [IntKind.wrap_u8];omega
theorem str_ix {P:Program}{t:TypeId}(hu:P.underlying t=some .string)(s:ByteArray)(k:IntKind)(i:Int)(h0:0<=i)(h1:i.toNat<s.size):∃ b:UInt8,indexA P t (.string s) (.int k i)=some (.int .u8 b.toNat):=by
  have:s[i.toNat]?=some s[i.toNat]:=by simp [h1]
  exact ⟨s[i.toNat],by simp only [indexA,hu,if_pos h0,this]⟩
theorem Len64_c (n:Int)(H:AH)(hn:0<=n/\n<256):ACalls Tryz.prog 223 [.int .u64 n] H fun r H'=>(∃ k:Int,r=.int .i64 k)/\H=H':=by
  refine in223 rfl ?_
  intro Q hQ
  simp (maxSteps:=1000000) (disch:=omega) only [cd223,SS,eq_self,reduceIte,reduceCtorEq,Nat.reduceEqDiff,Nat.reduceAdd]
  refine brD.intro (fun h=>absurd h (by omega)) (fun _=>?_)
  simp (maxSteps:=1000000) (disch:=omega) only [SS,eq_self,reduceIte,reduceCtorEq,Nat.reduceEqDiff,Nat.reduceAdd]
  refine brD.intro (fun h=>absurd h (by omega)) (fun _=>?_)
  simp (maxSteps:=1000000) (disch:=omega) only [SS,eq_self,reduceIte,reduceCtorEq,Nat.reduceEqDiff,Nat.reduceAdd]
  refine brD.intro (fun h=>absurd h (by omega)) (fun _=>?_)
  simp (maxSteps:=1000000) (disch:=omega) only [wrapU8,SS,eq_self,reduceIte,reduceCtorEq,Nat.reduceEqDiff,Nat.reduceAdd]
  generalize hs:(ByteArray.mk _)=s
  have hz:s.size=256:=by rw [<- hs];rfl
  obtain ⟨b,hb⟩:=str_ix (P:=Tryz.prog) Tryz.underlying9 s .u8 n hn.1 (by omega)
  simp (maxSteps:=1000000) (disch:=omega) only [hb,SS,eq_self,reduceIte,reduceCtorEq,Nat.reduceEqDiff,Nat.reduceAdd]
  refine hQ _ _ _ ?_
  simp (maxSteps:=1000000) (disch:=omega) only [SS,eq_self,reduceIte,reduceCtorEq,Nat.reduceEqDiff,Nat.reduceAdd]
  exact ⟨_,rfl⟩
theorem Len_c (n:Int)(H:AH)(hn:0<=n/\n<256):ACalls Tryz.prog 188 [.int .u64 n] H fun r H'=>(∃ k:Int,r=.int .i64 k)/\H=H':=by
  refine in188 rfl ?_
  intro Q hQ
  simp (maxSteps:=1000000) (disch:=omega) only [cd188,SS,eq_self,reduceIte,reduceCtorEq,Nat.reduceEqDiff,Nat.reduceAdd]
  refine CallH.by (Len64_c n H hn) ?_
  rintro _ _ ⟨⟨k,rfl⟩,rfl⟩
  simp (maxSteps:=1000000) (disch:=omega) only [SS,eq_self,reduceIte,reduceCtorEq,Nat.reduceEqDiff,Nat.reduceAdd]
  refine hQ _ _ _ ?_
  simp (maxSteps:=1000000) (disch:=omega) only [SS,eq_self,reduceIte,reduceCtorEq,Nat.reduceEqDiff,Nat.reduceAdd]
  exact ⟨_,rfl⟩
theorem pdq_c (o:Nat)(xs:List Int)(l:Int)(H:AH)(ho:H[o]?=some (.cells (ints xs) 3 false))(hlen:xs.length<=12) :
    ACalls Tryz.prog 187 [.slice (some ⟨o,0,none⟩) xs.length xs.length,.int .i64 0,.int .i64 (xs.length:Int),.int .i64 l] H fun r H'=>∃ ys,H'=H.set o (.cells (ints ys) 3 false)/\ys.Perm xs/\Asc ys:=by
  refine in187 rfl ?_
  intro Q hQ
  simp (maxSteps:=1000000) (disch:=omega) only [cd187,SS,eq_self,reduceIte,reduceCtorEq,Nat.reduceEqDiff,Nat.reduceAdd]
  refine LoopH.by (fun m s H'=>s 0=.slice (some ⟨o,0,none⟩) xs.length xs.length/\s 1=.int .i64 0/\s 2=.int .i64 (xs.length:Int)/\H=H') 0 ?_ ?_
  . exact ⟨rfl,rfl,rfl,rfl⟩
  . rintro m s H' ⟨h0,h1,h2,rfl⟩
    simp (maxSteps:=1000000) (disch:=omega) only [h0,h1,h2,wrap64,SS,eq_self,reduceIte,reduceCtorEq,Nat.reduceEqDiff,Nat.reduceAdd]
    refine brD.intro (fun _=>?_) (fun h=>absurd h (by omega))
    simp (maxSteps:=1000000) (disch:=omega) only [h0,h1,h2,SS,eq_self,reduceIte,reduceCtorEq,Nat.reduceEqDiff,Nat.reduceAdd]
    refine CallH.by (insSort_c o xs H ho (by omega)) ?_
    rintro r H1 hr
    simp (maxSteps:=1000000) (disch:=omega) only [SS,eq_self,reduceIte,reduceCtorEq,Nat.reduceEqDiff,Nat.reduceAdd]
    refine hQ _ _ _ ?_
    simp (maxSteps:=1000000) (disch:=omega) only [SS,eq_self,reduceIte,reduceCtorEq,Nat.reduceEqDiff,Nat.reduceAdd]
    exact hr
theorem pdqNil_c (l:Int)(H:AH):ACalls Tryz.prog 187 [.slice none 0 0,.int .i64 0,.int .i64 0,.int .i64 l] H fun r H'=>H=H':=by
  refine in187 rfl ?_
  intro Q hQ
  simp (maxSteps:=1000000) (disch:=omega) only [cd187,SS,eq_self,reduceIte,reduceCtorEq,Nat.reduceEqDiff,Nat.reduceAdd]
  refine LoopH.by (fun m s H'=>s 0=.slice none 0 0/\s 1=.int .i64 0/\s 2=.int .i64 0/\H=H') 0 ?_ ?_
  . exact ⟨rfl,rfl,rfl,rfl⟩
  . rintro m s H' ⟨h0,h1,h2,rfl⟩
    simp (maxSteps:=1000000) (disch:=omega) only [h0,h1,h2,wrap64,SS,eq_self,reduceIte,reduceCtorEq,Nat.reduceEqDiff,Nat.reduceAdd]
    refine brD.intro (fun _=>?_) (fun h=>absurd h (by decide))
    simp (maxSteps:=1000000) (disch:=omega) only [h0,h1,h2,SS,eq_self,reduceIte,reduceCtorEq,Nat.reduceEqDiff,Nat.reduceAdd]
    refine CallH.by (insNil_c ..) ?_
    rintro _ _ rfl
    simp (maxSteps:=1000000) (disch:=omega) only [SS,eq_self,reduceIte,reduceCtorEq,Nat.reduceEqDiff,Nat.reduceAdd]
    refine hQ _ _ _ ?_
    simp (maxSteps:=1000000) (disch:=omega) only [SS,eq_self,reduceIte,reduceCtorEq,Nat.reduceEqDiff,Nat.reduceAdd]
theorem Sort_c (v:Value)(xs:List Int)(H0 H:AH)(ho:Own 3 H0 H v xs)(hlen:xs.length<=12) :
    ACalls Tryz.prog 123 [v] H fun r H'=>∃ ys,Own 3 H0 H' v ys/\ys.Perm xs/\Asc ys/\Else v H H':=by
  refine in123 rfl ?_
  intro Q hQ
  obtain ⟨p,e⟩:=ho.row.shape
  rcases ho with ⟨rfl,rfl⟩ | ⟨o,rfl,hoo,hc⟩
  . simp (maxSteps:=1000000) (disch:=omega) only [cd123,wrapU64,List.length_nil,Int.natCast_zero,SS,eq_self,reduceIte,reduceCtorEq,Nat.reduceEqDiff,Nat.reduceAdd]
    refine CallH.by (Len_c _ _ (by decide)) ?_
    rintro _ _ ⟨⟨k,rfl⟩,rfl⟩
    simp (maxSteps:=1000000) (disch:=omega) only [List.length_nil,Int.natCast_zero,SS,eq_self,reduceIte,reduceCtorEq,Nat.reduceEqDiff,Nat.reduceAdd]
    refine CallH.by (pdqNil_c k H) ?_
    rintro _ _ rfl
    simp (maxSteps:=1000000) (disch:=omega) only [SS,eq_self,reduceIte,reduceCtorEq,Nat.reduceEqDiff,Nat.reduceAdd]
    refine hQ _ _ _ ?_
    simp (maxSteps:=1000000) (disch:=omega) only [SS,eq_self,reduceIte,reduceCtorEq,Nat.reduceEqDiff,Nat.reduceAdd]
    exact ⟨[],.inl ⟨rfl,rfl⟩,List.Perm.refl _,fun i j _ h=>by simp at h,Else.refl _ _⟩
  . simp (maxSteps:=1000000) (disch:=omega) only [cd123,wrapU64,SS,eq_self,reduceIte,reduceCtorEq,Nat.reduceEqDiff,Nat.reduceAdd]
    refine CallH.by (Len_c _ _ (by omega)) ?_
    rintro _ _ ⟨⟨k,rfl⟩,rfl⟩
    simp (maxSteps:=1000000) (disch:=omega) only [SS,eq_self,reduceIte,reduceCtorEq,Nat.reduceEqDiff,Nat.reduceAdd]
    refine CallH.by (pdq_c o xs k H hc hlen) ?_
    rintro _ H1 ⟨ys,rfl,hp,ha⟩
    simp (maxSteps:=1000000) (disch:=omega) only [SS,eq_self,reduceIte,reduceCtorEq,Nat.reduceEqDiff,Nat.reduceAdd]
    refine hQ _ _ _ ?_
    simp (maxSteps:=1000000) (disch:=omega) only [SS,eq_self,reduceIte,reduceCtorEq,Nat.reduceEqDiff,Nat.reduceAdd]
    exact ⟨ys,.inr ⟨o,by rw [hp.length_eq],hoo,at_set hc⟩,hp,ha,Else.set _ _⟩
def cd203:Cd:=(.seq (.reg [⟨⟨some 2,.box 47 (.tmp 0),none⟩,[]⟩,⟨⟨some 3,.box 47 (.tmp 1),none⟩,[]⟩,⟨⟨some 4,.assign (.const (.bool false)),none⟩,[]⟩]) (.seq (.reg [⟨⟨some 5,.indexAddr 47 (.tmp 2) (.const (.int .i64 0)),none⟩,[]⟩,⟨⟨some 6,.load 3 (.tmp 5),none⟩,[]⟩,⟨⟨some 7,.indexAddr 47 (.tmp 3) (.const (.int .i64 0)),none⟩,[]⟩,⟨⟨some 8,.load 3 (.tmp 7),none⟩,[]⟩,⟨⟨some 9,.binOp .lss 3 (.tmp 6) (.tmp 8) 3,none⟩,[]⟩,⟨⟨some 10,.move (.tmp 9),none⟩,[]⟩,⟨⟨some 11,.indexAddr 47 (.tmp 2) (.const (.int .i64 0)),some (10,false)⟩,[]⟩,⟨⟨some 12,.load 3 (.tmp 11),some (10,false)⟩,[]⟩,⟨⟨some 13,.indexAddr 47 (.tmp 3) (.const (.int .i64 0)),some (10,false)⟩,[]⟩,⟨⟨some 14,.load 3 (.tmp 13),some (10,false)⟩,[]⟩,
 ⟨⟨some 15,.binOp .eql 3 (.tmp 12) (.tmp 14) 3,some (10,false)⟩,[]⟩,
  ⟨⟨some 16,.move (.tmp 15),some (10,false)⟩,[]⟩,
  ⟨⟨some 17,.indexAddr 47 (.tmp 2) (.const (.int .i64 1)),some (16,true)⟩,[]⟩,
  ⟨⟨some 18,.load 3 (.tmp 17),some (16,true)⟩,[]⟩,
  ⟨⟨some 19,.indexAddr 47 (.tmp 3) (.const (.int .i64 1)),some (16,true)⟩,[]⟩,
  ⟨⟨some 20,.load 3 (.tmp 19),some (16,true)⟩,[]⟩,
  ⟨⟨some 21,.binOp .lss 3 (.tmp 18) (.tmp 20) 3,some (16,true)⟩,[]⟩,
  ⟨⟨some 22,.pick (.tmp 16) (.tmp 21) (.const (.bool false)),some (10,false)⟩,[]⟩,
  ⟨⟨some 23,.pick (.tmp 10) (.const (.bool true)) (.tmp 22),none⟩,[]⟩,
  ⟨⟨some 4,.assign (.tmp 23),none⟩,[]⟩]) .ret))
theorem in203:InT Tryz.prog 203 2 [.tmp 4] cd203:=InT.mk (by kernel_rfl) [] Tryz.func203 rfl (by kernel_rfl) (by kernel_rfl) (of_decide_eq_true (by kernel_rfl)) (by kernel_rfl)
def cd206:Cd:=(.seq (.reg [⟨⟨some 4,.assign (.const (.int .i64 0)),none⟩,[]⟩]) (.seq (.reg [⟨⟨some 7,.move (.tmp 0),none⟩,[]⟩,
  ⟨⟨some 8,.call ⟨(.value (.func 224)),#[.tmp 7],#[3]⟩,none⟩,[]⟩,
  ⟨⟨some 5,.assign (.tmp 8),none⟩,[]⟩]) (.seq (.reg [⟨⟨some 9,.move (.tmp 1),none⟩,[]⟩,
  ⟨⟨some 10,.call ⟨(.value (.func 224)),#[.tmp 9],#[3]⟩,none⟩,[]⟩,
  ⟨⟨some 6,.assign (.tmp 10),none⟩,[]⟩]) (.seq (.seq (.reg [⟨⟨some 11,.move (.tmp 5),none⟩,[]⟩]) (.cond (.tmp 11) (.seq (.seq (.reg [⟨⟨some 12,.move (.tmp 6),none⟩,[]⟩]) (.cond (.tmp 12) (.seq (.reg [⟨⟨some 4,.assign (.const (.int .i64 0)),none⟩,[]⟩]) .ret) .skip)) (.seq (.reg [⟨⟨some 4,.assign (.const (.int .i64 (-1))),none⟩,[]⟩]) .ret)) .skip)) (.seq (.seq (.reg [⟨⟨some 13,.move (.tmp 6),none⟩,[]⟩]) (.cond (.tmp 13) (.seq (.reg [⟨⟨some 4,.assign (.const (.int .i64 1)),none⟩,[]⟩]) .ret) .skip)) (.seq (.seq (.reg [⟨⟨some 14,.move (.tmp 0),none⟩,[]⟩,
  ⟨⟨some 15,.move (.tmp 1),none⟩,[]⟩,
  ⟨⟨some 16,.binOp .lss 3 (.tmp 14) (.tmp 15) 3,none⟩,[]⟩]) (.cond (.tmp 16) (.seq (.reg [⟨⟨some 4,.assign (.const (.int .i64 (-1))),none⟩,[]⟩]) .ret) .skip)) (.seq (.seq (.reg [⟨⟨some 17,.move (.tmp 0),none⟩,[]⟩,
  ⟨⟨some 18,.move (.tmp 1),none⟩,[]⟩,
  ⟨⟨some 19,.binOp .gtr 3 (.tmp 17) (.tmp 18) 3,none⟩,[]⟩]) (.cond (.tmp 19) (.seq (.reg [⟨⟨some 4,.assign (.const (.int .i64 1)),none⟩,[]⟩]) .ret) .skip)) (.seq (.reg [⟨⟨some 4,.assign (.const (.int .i64 0)),none⟩,[]⟩]) .ret))))))))
theorem in206:InT Tryz.prog 206 2 [.tmp 4] cd206:=InT.mk (by kernel_rfl) [] Tryz.func206 rfl (by kernel_rfl) (by kernel_rfl) (of_decide_eq_true (by kernel_rfl)) (by kernel_rfl)
def cd228:Cd:=(.seq (.reg [⟨⟨some 2,.assign (.const (.int .i64 0)),none⟩,[]⟩]) (.seq (.reg [⟨⟨some 3,.assign (.const (.int .i64 0)),none⟩,[]⟩]) (.seq (.seq (.reg [⟨⟨some 6,.move (.tmp 0),none⟩,[]⟩,
  ⟨⟨some 7,.call ⟨(.builtin .len),#[.tmp 6],#[27]⟩,none⟩,[]⟩,
  ⟨⟨some 8,.move (.const (.int .i64 0)),none⟩,[]⟩]) (.block 0 (.loop (.seq (.reg [⟨⟨some 9,.binOp .lss 3 (.tmp 8) (.tmp 7) 3,none⟩,[]⟩]) (.seq (.cond (.tmp 9) .skip (.exit 0)) (.seq (.block 1 (.seq (.reg [⟨⟨some 10,.indexAddr 27 (.tmp 6) (.tmp 8),none⟩,[]⟩,
  ⟨⟨some 11,.load 3 (.tmp 10),none⟩,[]⟩,
  ⟨⟨some 5,.assign (.tmp 11),none⟩,[]⟩]) (.seq (.reg [⟨⟨some 12,.move (.tmp 5),none⟩,[]⟩,
  ⟨⟨some 13,.move (.tmp 3),none⟩,[]⟩,
  ⟨⟨some 14,.binOp .neq 3 (.tmp 12) (.tmp 13) 3,none⟩,[]⟩]) (.cond (.tmp 14) (.seq (.reg [⟨⟨some 15,.move (.tmp 5),none⟩,[]⟩,
  ⟨⟨some 2,.assign (.tmp 15),none⟩,[]⟩]) .ret) .skip)))) (.reg [⟨⟨some 16,.binOp .add 3 (.tmp 8) (.const (.int .i64 1)) 3,none⟩,[]⟩,
  ⟨⟨some 8,.move (.tmp 16),none⟩,[]⟩]))))))) (.seq (.reg [⟨⟨some 17,.move (.tmp 3),none⟩,[]⟩,
  ⟨⟨some 2,.assign (.tmp 17),none⟩,[]⟩]) .ret))))
theorem in228:InT Tryz.prog 228 1 [.tmp 2] cd228:=InT.mk (by kernel_rfl) [] Tryz.func228 rfl (by kernel_rfl) (by kernel_rfl) (of_decide_eq_true (by kernel_rfl)) (by kernel_rfl)
def cd204:Cd:=(.seq (.reg [⟨⟨some 2,.box 47 (.tmp 0),none⟩,[]⟩,⟨⟨some 3,.box 47 (.tmp 1),none⟩,[]⟩,⟨⟨some 4,.assign (.const (.int .i64 0)),none⟩,[]⟩]) (.seq (.reg [⟨⟨some 5,.indexAddr 47 (.tmp 2) (.const (.int .i64 0)),none⟩,[]⟩,⟨⟨some 6,.load 3 (.tmp 5),none⟩,[]⟩,⟨⟨some 7,.indexAddr 47 (.tmp 3) (.const (.int .i64 0)),none⟩,[]⟩,⟨⟨some 8,.load 3 (.tmp 7),none⟩,[]⟩,⟨⟨some 10,.indexAddr 47 (.tmp 2) (.const (.int .i64 1)),none⟩,[]⟩,⟨⟨some 11,.load 3 (.tmp 10),none⟩,[]⟩,⟨⟨some 12,.indexAddr 47 (.tmp 3) (.const (.int .i64 1)),none⟩,[]⟩,⟨⟨some 13,.load 3 (.tmp 12),none⟩,[]⟩,⟨⟨some 9,.call ⟨(.value (.func 206)),#[.tmp 6,.tmp 8],#[3,3]⟩,none⟩,[⟨some 13,.load 3 (.tmp 12),none⟩,⟨some 11,.load 3 (.tmp 10),none⟩]⟩,⟨⟨some 14,.call ⟨(.value (.func 206)),#[.tmp 11,.tmp 13],#[3,3]⟩,none⟩,[]⟩,
 ⟨⟨some 15,.buildSlice 27 2 #[(0,.tmp 9),(1,.tmp 14)],none⟩,[]⟩,
  ⟨⟨some 16,.call ⟨(.value (.func 228)),#[.tmp 15],#[27]⟩,none⟩,[]⟩,
  ⟨⟨some 4,.assign (.tmp 16),none⟩,[]⟩]) .ret))
theorem in204:InT Tryz.prog 204 2 [.tmp 4] cd204:=InT.mk (by kernel_rfl) [(1,[(0,false),(1,false),(2,false),(3,false),(5,false),(6,false),(7,false),(8,false),(4,true),(9,true),(10,false),(11,true),(12,false)])] Tryz.func204 rfl (by kernel_rfl) (by kernel_rfl) (of_decide_eq_true (by kernel_rfl)) (by kernel_rfl)
def cd158:Cd:=(.seq (.reg [⟨⟨some 4,.assign (.const (.bool false)),none⟩,[]⟩]) (.seq (.seq (.reg [⟨⟨some 5,.assign (.const (.int .i64 0)),none⟩,[]⟩]) (.block 0 (.loop (.seq (.seq (.reg [⟨⟨some 7,.move (.tmp 5),none⟩,[]⟩,⟨⟨some 8,.move (.tmp 0),none⟩,[]⟩,⟨⟨some 9,.call ⟨(.builtin .len),#[.tmp 8],#[24]⟩,none⟩,[]⟩,⟨⟨some 10,.binOp .lss 3 (.tmp 7) (.tmp 9) 3,none⟩,[]⟩]) (.cond (.tmp 10) .skip (.exit 0))) (.seq (.block 1 (.seq (.reg [⟨⟨some 13,.move (.tmp 0),none⟩,[]⟩,⟨⟨some 14,.move (.tmp 5),none⟩,[]⟩,⟨⟨some 15,.indexAddr 24 (.tmp 13) (.tmp 14),none⟩,[]⟩,⟨⟨some 16,.load 47 (.tmp 15),none⟩,[]⟩,⟨⟨some 6,.alloc 47,none⟩,[]⟩,⟨⟨none,.store 47 (.tmp 6) (.tmp 16),none⟩,[]⟩]) (.seq (.reg [⟨⟨some 17,.indexAddr 47 (.tmp 6) (.const (.int .i64 0)),none⟩,[]⟩,⟨⟨some 18,.load 3 (.tmp 17),none⟩,[]⟩,⟨⟨some 19,.move (.tmp 1),none⟩,[]⟩,⟨⟨some 20,.binOp .sub 3 (.tmp 19) (.const (.int .i64 1)) 3,none⟩,[]⟩,
 ⟨⟨some 21,.call ⟨(.value (.func 119)),#[.tmp 18,(.const (.int .i64 0)),.tmp 20],#[3,3,3]⟩,none⟩,[]⟩,⟨⟨some 22,.unOp .not 4 (.tmp 21),none⟩,[]⟩,⟨⟨some 23,.move (.tmp 22),none⟩,[]⟩,⟨⟨some 24,.indexAddr 47 (.tmp 6) (.const (.int .i64 1)),some (23,false)⟩,[]⟩,⟨⟨some 25,.load 3 (.tmp 24),some (23,false)⟩,[]⟩,⟨⟨some 26,.move (.tmp 1),some (23,false)⟩,[]⟩,⟨⟨some 27,.binOp .sub 3 (.tmp 26) (.const (.int .i64 1)) 3,some (23,false)⟩,[]⟩,⟨⟨some 28,.call ⟨(.value (.func 119)),#[.tmp 25,(.const (.int .i64 0)),.tmp 27],#[3,3,3]⟩,some (23,false)⟩,[]⟩,⟨⟨some 29,.unOp .not 4 (.tmp 28),some (23,false)⟩,[]⟩,⟨⟨some 30,.pick (.tmp 23) (.const (.bool true)) (.tmp 29),none⟩,[]⟩,⟨⟨some 31,.move (.tmp 30),none⟩,[]⟩,⟨⟨some 32,.indexAddr 47 (.tmp 6) (.const (.int .i64 0)),some (31,false)⟩,[]⟩,
 ⟨⟨some 33,.load 3 (.tmp 32),some (31,false)⟩,[]⟩,⟨⟨some 34,.indexAddr 47 (.tmp 6) (.const (.int .i64 1)),some (31,false)⟩,[]⟩,⟨⟨some 35,.load 3 (.tmp 34),some (31,false)⟩,[]⟩,⟨⟨some 36,.binOp .geq 3 (.tmp 33) (.tmp 35) 3,some (31,false)⟩,[]⟩,⟨⟨some 37,.pick (.tmp 31) (.const (.bool true)) (.tmp 36),none⟩,[]⟩,⟨⟨some 38,.move (.tmp 37),none⟩,[]⟩,⟨⟨some 39,.move (.tmp 5),some (38,false)⟩,[]⟩,⟨⟨some 40,.binOp .gtr 3 (.tmp 39) (.const (.int .i64 0)) 3,some (38,false)⟩,[]⟩,⟨⟨some 41,.move (.tmp 40),some (38,false)⟩,[]⟩,⟨⟨some 42,.move (.tmp 0),some (41,true)⟩,[]⟩,⟨⟨some 43,.move (.tmp 5),some (41,true)⟩,[]⟩,⟨⟨some 44,.binOp .sub 3 (.tmp 43) (.const (.int .i64 1)) 3,some (41,true)⟩,[]⟩,
 ⟨⟨some 45,.indexAddr 24 (.tmp 42) (.tmp 44),some (41,true)⟩,[]⟩,
  ⟨⟨some 46,.load 47 (.tmp 45),some (41,true)⟩,[]⟩,
  ⟨⟨some 47,.load 47 (.tmp 6),some (41,true)⟩,[]⟩,
  ⟨⟨some 48,.call ⟨(.value (.func 203)),#[.tmp 46,.tmp 47],#[47,47]⟩,some (41,true)⟩,[]⟩,
  ⟨⟨some 49,.unOp .not 4 (.tmp 48),some (41,true)⟩,[]⟩,
  ⟨⟨some 50,.pick (.tmp 41) (.tmp 49) (.const (.bool false)),some (38,false)⟩,[]⟩,
  ⟨⟨some 51,.pick (.tmp 38) (.const (.bool true)) (.tmp 50),none⟩,[]⟩]) (.cond (.tmp 51) (.seq (.reg [⟨⟨some 4,.assign (.const (.bool false)),none⟩,[]⟩]) .ret) .skip)))) (.reg [⟨⟨some 11,.move (.tmp 5),none⟩,[]⟩,
  ⟨⟨some 12,.binOp .add 3 (.tmp 11) (.const (.int .i64 1)) 3,none⟩,[]⟩,
  ⟨⟨some 5,.assign (.tmp 12),none⟩,[]⟩])))))) (.seq (.reg [⟨⟨some 4,.assign (.const (.bool true)),none⟩,[]⟩]) .ret)))
theorem in158:InT Tryz.prog 158 2 [.tmp 4] cd158:=InT.mk (by kernel_rfl) [(5,[(0,false),(1,false),(2,false),(3,false),(4,true),(5,false),(6,false),(7,false),(8,false),(9,false),(10,false),(11,true),(12,false),(13,false),(14,false),(15,false),(16,false),(17,false),(18,false),(19,false),(20,false),(21,false),(22,false),(23,false),(24,false),(25,false),(26,false),(27,false),(28,false),(29,false),(30,false),(31,true),(32,false),(33,false),(34,false)])] Tryz.func158 rfl (by kernel_rfl) (by kernel_rfl) (of_decide_eq_true (by kernel_rfl)) (by kernel_rfl)
def cd164:Cd:=(.seq (.reg [⟨⟨some 4,.assign (.const (.bool false)),none⟩,[]⟩]) (.seq (.seq (.reg [⟨⟨some 7,.move (.tmp 0),none⟩,[]⟩,⟨⟨some 8,.call ⟨(.builtin .len),#[.tmp 7],#[24]⟩,none⟩,[]⟩,⟨⟨some 9,.move (.const (.int .i64 0)),none⟩,[]⟩]) (.block 0 (.loop (.seq (.reg [⟨⟨some 10,.binOp .lss 3 (.tmp 9) (.tmp 8) 3,none⟩,[]⟩]) (.seq (.cond (.tmp 10) .skip (.exit 0)) (.seq (.block 1 (.seq (.reg [⟨⟨some 11,.move (.tmp 9),none⟩,[]⟩,⟨⟨some 12,.indexAddr 24 (.tmp 7) (.tmp 9),none⟩,[]⟩,⟨⟨some 13,.load 47 (.tmp 12),none⟩,[]⟩,⟨⟨some 6,.alloc 47,none⟩,[]⟩,⟨⟨some 5,.assign (.tmp 11),none⟩,[]⟩,⟨⟨none,.store 47 (.tmp 6) (.tmp 13),none⟩,[]⟩]) (.seq (.reg [⟨⟨some 14,.indexAddr 47 (.tmp 6) (.const (.int .i64 0)),none⟩,[]⟩,⟨⟨some 15,.load 3 (.tmp 14),none⟩,[]⟩,⟨⟨some 16,.binOp .lss 3 (.tmp 15) (.const (.int .i64 0)) 3,none⟩,[]⟩,⟨⟨some 17,.move (.tmp 16),none⟩,[]⟩,⟨⟨some 18,.indexAddr 47 (.tmp 6) (.const (.int .i64 0)),some (17,false)⟩,[]⟩,
 ⟨⟨some 19,.load 3 (.tmp 18),some (17,false)⟩,[]⟩,⟨⟨some 20,.indexAddr 47 (.tmp 6) (.const (.int .i64 1)),some (17,false)⟩,[]⟩,⟨⟨some 21,.load 3 (.tmp 20),some (17,false)⟩,[]⟩,⟨⟨some 22,.binOp .geq 3 (.tmp 19) (.tmp 21) 3,some (17,false)⟩,[]⟩,⟨⟨some 23,.pick (.tmp 17) (.const (.bool true)) (.tmp 22),none⟩,[]⟩,⟨⟨some 24,.move (.tmp 23),none⟩,[]⟩,⟨⟨some 25,.indexAddr 47 (.tmp 6) (.const (.int .i64 1)),some (24,false)⟩,[]⟩,⟨⟨some 26,.load 3 (.tmp 25),some (24,false)⟩,[]⟩,⟨⟨some 27,.move (.tmp 1),some (24,false)⟩,[]⟩,⟨⟨some 28,.binOp .geq 3 (.tmp 26) (.tmp 27) 3,some (24,false)⟩,[]⟩,⟨⟨some 29,.pick (.tmp 24) (.const (.bool true)) (.tmp 28),none⟩,[]⟩,⟨⟨some 30,.move (.tmp 29),none⟩,[]⟩,
 ⟨⟨some 31,.move (.tmp 5),some (30,false)⟩,[]⟩,⟨⟨some 32,.binOp .gtr 3 (.tmp 31) (.const (.int .i64 0)) 3,some (30,false)⟩,[]⟩,⟨⟨some 33,.move (.tmp 32),some (30,false)⟩,[]⟩,⟨⟨some 34,.move (.tmp 0),some (33,true)⟩,[]⟩,⟨⟨some 35,.move (.tmp 5),some (33,true)⟩,[]⟩,⟨⟨some 36,.binOp .sub 3 (.tmp 35) (.const (.int .i64 1)) 3,some (33,true)⟩,[]⟩,⟨⟨some 37,.indexAddr 24 (.tmp 34) (.tmp 36),some (33,true)⟩,[]⟩,⟨⟨some 38,.load 47 (.tmp 37),some (33,true)⟩,[]⟩,⟨⟨some 39,.load 47 (.tmp 6),some (33,true)⟩,[]⟩,⟨⟨some 40,.call ⟨(.value (.func 204)),#[.tmp 38,.tmp 39],#[47,47]⟩,some (33,true)⟩,[]⟩,⟨⟨some 41,.binOp .geq 3 (.tmp 40) (.const (.int .i64 0)) 3,some (33,true)⟩,[]⟩,⟨⟨some 42,.pick (.tmp 33) (.tmp 41) (.const (.bool false)),some (30,false)⟩,[]⟩,
 ⟨⟨some 43,.pick (.tmp 30) (.const (.bool true)) (.tmp 42),none⟩,[]⟩]) (.cond (.tmp 43) (.seq (.reg [⟨⟨some 4,.assign (.const (.bool false)),none⟩,[]⟩]) .ret) .skip)))) (.reg [⟨⟨some 44,.binOp .add 3 (.tmp 9) (.const (.int .i64 1)) 3,none⟩,[]⟩,
  ⟨⟨some 9,.move (.tmp 44),none⟩,[]⟩]))))))) (.seq (.reg [⟨⟨some 4,.assign (.const (.bool true)),none⟩,[]⟩]) .ret)))
theorem in164:InT Tryz.prog 164 2 [.tmp 4] cd164:=InT.mk (by kernel_rfl) [(4,[(0,false),(1,false),(2,false),(3,false),(4,false),(5,false),(6,false),(7,false),(8,false),(9,false),(10,false),(11,false),(12,false),(13,false),(14,false),(15,false),(16,false),(17,false),(18,false),(19,false),(20,false),(21,false),(22,false),(23,false),(24,false),(25,false),(26,true),(27,false),(28,false),(29,false)])] Tryz.func164 rfl (by kernel_rfl) (by kernel_rfl) (of_decide_eq_true (by kernel_rfl)) (by kernel_rfl)
end Go.Proofs.YtjnefjchconebaaGreat.Ai
namespace Go.Proofs.YtjnefjchconebaaGreat.Ai
open Go Go.RowKit
def pairLt (p q:Int × Int):Prop:=p.1<q.1∨p.1=q.1/\p.2<q.2
instance (p q:Int × Int):Decidable (pairLt p q):=by unfold pairLt;infer_instance
def prOk (n:Int)(ps:List (Int × Int))(i:Nat):Prop :=
  0<=(ps.getD i (0,0)).1/\(ps.getD i (0,0)).1<(ps.getD i (0,0)).2/\(ps.getD i (0,0)).2<n/\(0<i->pairLt (ps.getD (i - 1) (0,0)) (ps.getD i (0,0)))
instance (n:Int) (ps:List (Int × Int)) (i:Nat):Decidable (prOk n ps i):=by unfold prOk;infer_instance
def PrU (n:Int)(ps:List (Int × Int))(k:Nat):Prop:=∀ i,i<k->prOk n ps i
instance (n:Int) (ps:List (Int × Int)) (k:Nat):Decidable (PrU n ps k):=by unfold PrU;infer_instance
def Grd (n:Int)(ps:List (Int × Int)):Prop:=(0<=n/\n<=8)/\PrU n ps ps.length
instance (n:Int) (ps:List (Int × Int)):Decidable (Grd n ps):=by unfold Grd;infer_instance
theorem PrU.zero (n:Int)(ps:List (Int × Int)):PrU n ps 0:=fun i h=>absurd h (Nat.not_lt_zero i)
theorem PrU.succ {n:Int}{ps:List (Int × Int)}{k:Nat}(h:PrU n ps k)(h2:prOk n ps k):PrU n ps (k+1):=by
  intro i hi
  rcases Nat.lt_succ_iff_lt_or_eq.1 hi with g | g
  . exact h i g
  . rw [g];exact h2
theorem PrU.no {n:Int}{ps:List (Int × Int)}{k i:Nat}(hi:i<k)(h:¬ prOk n ps i):¬ PrU n ps k:=fun g=>h (g i hi)
theorem l2Edge_c (p q:Int × Int)(H:AH):ACalls Tryz.prog 203 [.agg (List.toArray [.int .i64 p.1,.int .i64 p.2]),.agg (List.toArray [.int .i64 q.1,.int .i64 q.2])] H fun r H'=>r=.bool (decide (pairLt p q))/\H<+:H':=by
  refine in203 rfl ?_
  intro Q hQ
  simp (maxSteps:=1000000) (disch:=omega) only [cd203,box_a2,SS,eq_self,reduceIte,reduceCtorEq,Nat.reduceEqDiff,Nat.reduceAdd]
  generalize hA:H ++ [AObj.cells [.int .i64 p.1,.int .i64 p.2] 47 false]=A
  have pA:H<+:A:=by rw [<- hA];exact List.prefix_append _ _
  have a0:A[H.length]?=some (.cells [.int .i64 p.1,.int .i64 p.2] 47 false):=by rw [<- hA];exact at_new ..
  generalize hB:A ++ [AObj.cells [.int .i64 q.1,.int .i64 q.2] 47 false]=B
  have pB:A<+:B:=by rw [<- hB];exact List.prefix_append _ _
  have b0:=pre_at pB a0
  have b1:B[A.length]?=some (.cells [.int .i64 q.1,.int .i64 q.2] 47 false):=by rw [<- hB];exact at_new ..
  have pHB:=pA.trans pB
  simp (maxSteps:=1000000) (disch:=omega) only [cell_of b0,cell_of b1,SS,eq_self,reduceIte,reduceCtorEq,Nat.reduceEqDiff,Nat.reduceAdd]
  refine brD.intro (fun e1=>?_) (fun e1=>?_) <;> simp (maxSteps:=1000000) (disch:=omega) only [e1,cell_of b0,cell_of b1,SS,eq_self,reduceIte,reduceCtorEq,Nat.reduceEqDiff,Nat.reduceAdd]
  . refine hQ _ _ _ ?_
    simp (maxSteps:=1000000) (disch:=omega) only [e1,SS,eq_self,reduceIte,reduceCtorEq,Nat.reduceEqDiff,Nat.reduceAdd]
    exact ⟨by rw [decide_eq_true (show pairLt p q from .inl e1)],pHB⟩
  . refine brD.intro (fun e2=>?_) (fun e2=>?_) <;> simp (maxSteps:=1000000) (disch:=omega) only [e1,e2,cell_of b0,cell_of b1,SS,eq_self,reduceIte,reduceCtorEq,Nat.reduceEqDiff,Nat.reduceAdd]
    . refine hQ _ _ _ ?_
      simp (maxSteps:=1000000) (disch:=omega) only [e1,e2,SS,eq_self,reduceIte,reduceCtorEq,Nat.reduceEqDiff,Nat.reduceAdd]
      have:pairLt p q↔p.2<q.2:=by unfold pairLt;omega
      exact ⟨by simp [this],pHB⟩
    . refine hQ _ _ _ ?_
      simp (maxSteps:=1000000) (disch:=omega) only [e1,e2,SS,eq_self,reduceIte,reduceCtorEq,Nat.reduceEqDiff,Nat.reduceAdd]
      have:¬ pairLt p q:=by unfold pairLt;omega
      exact ⟨by simp [this],pHB⟩
def cmpI (a b:Int):Int:=if a<b then -1 else if b<a then 1 else 0
def cmpP (p q:Int × Int):Int:=if cmpI p.1 q.1 ≠ 0 then cmpI p.1 q.1 else cmpI p.2 q.2
theorem cmpP_ge (p q:Int × Int):(0<=cmpP p q)↔¬ pairLt p q:=by
  unfold cmpP cmpI pairLt
  repeat' split
  all_goals omega
theorem Compare_c (a b:Int)(H:AH):ACalls Tryz.prog 206 [.int .i64 a,.int .i64 b] H fun r H'=>r=.int .i64 (cmpI a b)/\H=H':=by
  refine in206 rfl ?_
  intro Q hQ
  simp (maxSteps:=1000000) (disch:=omega) only [cd206,SS,eq_self,reduceIte,reduceCtorEq,Nat.reduceEqDiff,Nat.reduceAdd]
  refine CallH.by (isNaN_c a H) ?_
  rintro _ _ ⟨rfl,rfl⟩
  simp (maxSteps:=1000000) (disch:=omega) only [SS,eq_self,reduceIte,reduceCtorEq,Nat.reduceEqDiff,Nat.reduceAdd]
  refine CallH.by (isNaN_c b H) ?_
  rintro _ _ ⟨rfl,rfl⟩
  simp (maxSteps:=1000000) (disch:=omega) only [SS,eq_self,reduceIte,reduceCtorEq,Nat.reduceEqDiff,Nat.reduceAdd]
  refine brD.intro (fun e=>?_) (fun e=>?_) <;> simp (maxSteps:=1000000) (disch:=omega) only [e,SS,eq_self,reduceIte,reduceCtorEq,Nat.reduceEqDiff,Nat.reduceAdd]
  . refine hQ _ _ _ ?_
    simp (maxSteps:=1000000) (disch:=omega) only [cmpI,e,SS,eq_self,reduceIte,reduceCtorEq,Nat.reduceEqDiff,Nat.reduceAdd]
  . refine brD.intro (fun e2=>?_) (fun e2=>?_) <;> simp (maxSteps:=1000000) (disch:=omega) only [e,e2,SS,eq_self,reduceIte,reduceCtorEq,Nat.reduceEqDiff,Nat.reduceAdd]
    . refine hQ _ _ _ ?_
      simp (maxSteps:=1000000) (disch:=omega) only [cmpI,e,e2,SS,eq_self,reduceIte,reduceCtorEq,Nat.reduceEqDiff,Nat.reduceAdd]
    . refine hQ _ _ _ ?_
      simp (maxSteps:=1000000) (disch:=omega) only [cmpI,e,e2,SS,eq_self,reduceIte,reduceCtorEq,Nat.reduceEqDiff,Nat.reduceAdd]
theorem Or_c (a b:Int)(o:Nat)(H:AH)(ho:H[o]?=some (.cells (ints [a,b]) 3 false)):ACalls Tryz.prog 228 [.slice (some ⟨o,0,none⟩) 2 2] H fun r H'=>r=.int .i64 (if a ≠ 0 then a else b)/\H=H':=by
  refine in228 rfl ?_
  intro Q hQ
  simp (maxSteps:=1000000) (disch:=omega) only [cd228,SS,eq_self,reduceIte,reduceCtorEq,Nat.reduceEqDiff,Nat.reduceAdd]
  refine LoopH.by (fun m s H'=>∃ i,m+i=2/\s 0=.slice (some ⟨o,0,none⟩) 2 2/\s 3=.int .i64 0/\s 6=.slice (some ⟨o,0,none⟩) 2 2/\s 7=.int .i64 2/\s 8=.int .i64 ((i:Nat):Int)/\H=H'/\∀ j,j<i->[a,b].getD j 0=0) 2 ?_ ?_
  . exact ⟨0,rfl,rfl,rfl,rfl,rfl,rfl,rfl,fun j hj=>absurd hj (Nat.not_lt_zero j)⟩
  . rintro m s H' ⟨i,hm,h0,h3,h6,h7,h8,rfl,hz⟩
    simp (maxSteps:=1000000) (disch:=omega) only [h0,h3,h6,h7,h8,SS,eq_self,reduceIte,reduceCtorEq,Nat.reduceEqDiff,Nat.reduceAdd]
    refine brD.intro (fun g=>?_) (fun g=>?_)
    . have hi:i < [a,b].length:=by show i<2;omega
      simp (maxSteps:=1000000) (disch:=omega) only [h0,h3,h6,h7,h8,Int.toNat_natCast,Nat.zero_add,cell_ints ho hi,SS,eq_self,reduceIte,reduceCtorEq,Nat.reduceEqDiff,Nat.reduceAdd]
      refine brD.intro (fun e=>?_) (fun e=>?_) <;> simp (maxSteps:=1000000) (disch:=omega) only [h0,h3,h6,h7,h8,e,wrap64,SS,eq_self,reduceIte,reduceCtorEq,Nat.reduceEqDiff,Nat.reduceAdd]
      . refine hQ _ _ _ ?_
        simp (maxSteps:=1000000) (disch:=omega) only [SS,eq_self,reduceIte,reduceCtorEq,Nat.reduceEqDiff,Nat.reduceAdd]
        have:i=0∨i=1:=by omega
        rcases this with rfl | rfl
        . have e':a ≠ 0:=e
          simp [e']
        . have e1:a=0:=hz 0 (by omega)
          simp [e1]
      . have f1:∀ j,j<i+1->[a,b].getD j 0=0:=by
          intro j hj
          rcases Nat.lt_succ_iff_lt_or_eq.1 hj with h | h
          . exact hz j h
          . rw [h];exact Decidable.not_not.1 e
        refine ⟨m - 1,by omega,i+1,?_⟩
        (repeat' apply And.intro) <;> first | exact f1 | (simp only [Value.int.injEq,true_and];omega) | omega | rfl | assumption | (simp;done) | (simp;omega)
    . simp (maxSteps:=1000000) (disch:=omega) only [h3,SS,eq_self,reduceIte,reduceCtorEq,Nat.reduceEqDiff,Nat.reduceAdd]
      refine hQ _ _ _ ?_
      simp (maxSteps:=1000000) (disch:=omega) only [h3,SS,eq_self,reduceIte,reduceCtorEq,Nat.reduceEqDiff,Nat.reduceAdd]
      have e1:a=0:=hz 0 (by omega)
      have e2:b=0:=hz 1 (by omega)
      simp [e1,e2]
theorem comparePairs_c (p q:Int × Int)(H:AH):ACalls Tryz.prog 204 [.agg (List.toArray [.int .i64 p.1,.int .i64 p.2]),.agg (List.toArray [.int .i64 q.1,.int .i64 q.2])] H fun r H'=>r=.int .i64 (cmpP p q)/\H<+:H':=by
  refine in204 rfl ?_
  intro Q hQ
  simp (maxSteps:=1000000) (disch:=omega) only [cd204,box_a2,SS,eq_self,reduceIte,reduceCtorEq,Nat.reduceEqDiff,Nat.reduceAdd]
  generalize hA:H ++ [AObj.cells [.int .i64 p.1,.int .i64 p.2] 47 false]=A
  have pA:H<+:A:=by rw [<- hA];exact List.prefix_append _ _
  have a0:A[H.length]?=some (.cells [.int .i64 p.1,.int .i64 p.2] 47 false):=by rw [<- hA];exact at_new ..
  generalize hB:A ++ [AObj.cells [.int .i64 q.1,.int .i64 q.2] 47 false]=B
  have pB:A<+:B:=by rw [<- hB];exact List.prefix_append _ _
  have b0:=pre_at pB a0
  have b1:B[A.length]?=some (.cells [.int .i64 q.1,.int .i64 q.2] 47 false):=by rw [<- hB];exact at_new ..
  have pHB:=pA.trans pB
  simp (maxSteps:=1000000) (disch:=omega) only [cell_of b0,cell_of b1,SS,eq_self,reduceIte,reduceCtorEq,Nat.reduceEqDiff,Nat.reduceAdd]
  refine CallH.by (Compare_c p.1 q.1 B) ?_
  rintro _ _ ⟨rfl,rfl⟩
  simp (maxSteps:=1000000) (disch:=omega) only [cell_of b0,cell_of b1,SS,eq_self,reduceIte,reduceCtorEq,Nat.reduceEqDiff,Nat.reduceAdd]
  refine CallH.by (Compare_c p.2 q.2 B) ?_
  rintro _ _ ⟨rfl,rfl⟩
  simp (maxSteps:=1000000) (disch:=omega) only [SS,eq_self,reduceIte,reduceCtorEq,Nat.reduceEqDiff,Nat.reduceAdd]
  refine CallH.by (Or_c (cmpI p.1 q.1) (cmpI p.2 q.2) B.length _ (at_new ..)) ?_
  rintro _ _ ⟨rfl,rfl⟩
  simp (maxSteps:=1000000) (disch:=omega) only [SS,eq_self,reduceIte,reduceCtorEq,Nat.reduceEqDiff,Nat.reduceAdd]
  refine hQ _ _ _ ?_
  simp (maxSteps:=1000000) (disch:=omega) only [cmpP,SS,eq_self,reduceIte,reduceCtorEq,Nat.reduceEqDiff,Nat.reduceAdd]
  exact pre_app pHB _
theorem isPairsN_c (v:Value)(n:Int)(ps:List (Int × Int))(H:AH)(hr:RowP 47 H v ps)(hlen:ps.length<=1099511627776) :
    ACalls Tryz.prog 164 [v,.int .i64 n] H fun r H'=>r=.bool (decide (PrU n ps ps.length))/\H<+:H':=by
  refine in164 rfl ?_
  intro Q hQ
  simp (maxSteps:=1000000) (disch:=omega) only [cd164,hr.len Tryz.underlying24,SS,eq_self,reduceIte,reduceCtorEq,Nat.reduceEqDiff,Nat.reduceAdd]
  refine LoopH.by (fun m s H'=>∃ i,m+i=ps.length/\s 0=v/\s 1=.int .i64 n/\s 7=v/\s 8=.int .i64 (ps.length:Int)/\s 9=.int .i64 ((i:Nat):Int)/\H<+:H'/\PrU n ps i) ps.length ?_ ?_
  . exact ⟨0,by simp,rfl,rfl,rfl,rfl,rfl,List.prefix_refl _,PrU.zero _ _⟩
  . rintro m s H' ⟨i,hm,h0,h1,h7,h8,h9,hp,hu⟩
    have hr':=hr.pre hp
    simp (maxSteps:=1000000) (disch:=omega) only [h0,h1,h7,h8,h9,SS,eq_self,reduceIte,reduceCtorEq,Nat.reduceEqDiff,Nat.reduceAdd]
    refine brD.intro (fun g=>?_) (fun g=>?_)
    . have hi:i<ps.length:=by omega
      have hst0:=store_a2 H' [.int .i64 0,.int .i64 0] rfl
      simp (maxSteps:=1000000) (disch:=omega) only [h0,h1,h7,h8,h9,hr'.ix Tryz.underlying24 cs47,Int.toNat_natCast,hr'.ld ag47 cs47 hi,alloc_a2,hst0,cell_new,wrap64,SS,eq_self,reduceIte,reduceCtorEq,Nat.reduceEqDiff,Nat.reduceAdd]
      generalize hB:H' ++ [AObj.cells [.int .i64 (ps.getD i (0,0)).1,.int .i64 (ps.getD i (0,0)).2] 47 false]=B
      have pB:H'<+:B:=by rw [<- hB];exact List.prefix_append _ _
      have b0:B[H'.length]?=some (.cells [.int .i64 (ps.getD i (0,0)).1,.int .i64 (ps.getD i (0,0)).2] 47 false):=by rw [<- hB];exact at_new ..
      have hrB:=hr'.pre pB
      have hBp:=hp.trans pB
      have e0:((i:Int) - 1).toNat=i - 1:=by omega
      have ok2:prOk n ps i->PrU n ps (i+1):=fun h=>hu.succ h
      have bad:¬ prOk n ps i->∀ G,H<+:G->decide (PrU n ps ps.length)=false/\H<+:G:=fun h G hG=>⟨decide_eq_false (PrU.no hi h),hG⟩
      have hld1:0<i->loadA Tryz.prog 47 (.pointer (some ⟨rowO v,rowK v+2 * (i - 1),none⟩)) B=some (.agg (List.toArray [.int .i64 (ps.getD (i - 1) (0,0)).1,.int .i64 (ps.getD (i - 1) (0,0)).2])):=fun h=>hrB.ld ag47 cs47 (by omega)
      unfold prOk at ok2 bad
      generalize hx:ps.getD i (0,0)=x at *
      generalize hy:ps.getD (i - 1) (0,0)=y at *
      refine brD.intro (fun e1=>?_) (fun e1=>?_) <;> simp (maxSteps:=1000000) (disch:=omega) only [e1,cell_of b0,h0,h1,h7,h8,h9,wrap64,SS,eq_self,reduceIte,reduceCtorEq,Nat.reduceEqDiff,Nat.reduceAdd]
      . refine hQ _ _ _ ?_
        simp (maxSteps:=1000000) (disch:=omega) only [SS,eq_self,reduceIte,reduceCtorEq,Nat.reduceEqDiff,Nat.reduceAdd]
        obtain ⟨q1,q2⟩:=bad (by omega) _ hBp
        rw [q1]
        exact ⟨rfl,q2⟩
      . refine brD.intro (fun e2=>?_) (fun e2=>?_) <;> simp (maxSteps:=1000000) (disch:=omega) only [e1,e2,cell_of b0,h0,h1,h7,h8,h9,wrap64,SS,eq_self,reduceIte,reduceCtorEq,Nat.reduceEqDiff,Nat.reduceAdd]
        . refine hQ _ _ _ ?_
          simp (maxSteps:=1000000) (disch:=omega) only [SS,eq_self,reduceIte,reduceCtorEq,Nat.reduceEqDiff,Nat.reduceAdd]
          obtain ⟨q1,q2⟩:=bad (by omega) _ hBp
          rw [q1]
          exact ⟨rfl,q2⟩
        . refine brD.intro (fun e3=>?_) (fun e3=>?_) <;> simp (maxSteps:=1000000) (disch:=omega) only [e1,e2,e3,cell_of b0,h0,h1,h7,h8,h9,wrap64,SS,eq_self,reduceIte,reduceCtorEq,Nat.reduceEqDiff,Nat.reduceAdd]
          . refine hQ _ _ _ ?_
            simp (maxSteps:=1000000) (disch:=omega) only [SS,eq_self,reduceIte,reduceCtorEq,Nat.reduceEqDiff,Nat.reduceAdd]
            obtain ⟨q1,q2⟩:=bad (by omega) _ hBp
            rw [q1]
            exact ⟨rfl,q2⟩
          . refine brD.intro (fun e4=>?_) (fun e4=>?_) <;> simp (maxSteps:=1000000) (disch:=omega) only [e1,e2,e3,e4,h0,h1,h7,h8,h9,wrap64,SS,eq_self,reduceIte,reduceCtorEq,Nat.reduceEqDiff,Nat.reduceAdd]
            . have hi1:0<i:=by omega
              simp (maxSteps:=1000000) (disch:=omega) only [e1,e2,e3,e4,e0,h0,h1,h7,h8,h9,hrB.ix Tryz.underlying24 cs47,hld1 hi1,ld_a2 b0,wrap64,SS,eq_self,reduceIte,reduceCtorEq,Nat.reduceEqDiff,Nat.reduceAdd]
              refine CallH.by (comparePairs_c y x B) ?_
              rintro _ C ⟨rfl,pC⟩
              have hCp:=hBp.trans pC
              simp (maxSteps:=1000000) (disch:=omega) only [e1,e2,e3,e4,SS,eq_self,reduceIte,reduceCtorEq,Nat.reduceEqDiff,Nat.reduceAdd]
              refine brD.intro (fun e5=>?_) (fun e5=>?_) <;> simp (maxSteps:=1000000) (disch:=omega) only [e1,e2,e3,e4,e5,h0,h1,h7,h8,h9,wrap64,SS,eq_self,reduceIte,reduceCtorEq,Nat.reduceEqDiff,Nat.reduceAdd]
              . refine hQ _ _ _ ?_
                simp (maxSteps:=1000000) (disch:=omega) only [SS,eq_self,reduceIte,reduceCtorEq,Nat.reduceEqDiff,Nat.reduceAdd]
                obtain ⟨q1,q2⟩:=bad (fun h=>(cmpP_ge y x).1 e5 (h.2.2.2 hi1)) _ hCp
                rw [q1]
                exact ⟨rfl,q2⟩
              . have f1:=ok2 ⟨by omega,by omega,by omega,fun _=>Decidable.not_not.1 fun h=>e5 ((cmpP_ge y x).2 h)⟩
                refine ⟨m - 1,by omega,i+1,?_⟩
                (repeat' first | exact f1 | exact hCp | apply And.intro) <;> first | (simp only [Value.int.injEq,true_and];omega) | omega | rfl | assumption | (simp;done) | (simp;omega)
            . have f1:=ok2 ⟨by omega,by omega,by omega,fun h=>absurd h (by omega)⟩
              refine ⟨m - 1,by omega,i+1,?_⟩
              (repeat' first | exact f1 | exact hBp | apply And.intro) <;> first | (simp only [Value.int.injEq,true_and];omega) | omega | rfl | assumption | (simp;done) | (simp;omega)
    . simp (maxSteps:=1000000) (disch:=omega) only [h0,h1,h7,h8,h9,SS,eq_self,reduceIte,reduceCtorEq,Nat.reduceEqDiff,Nat.reduceAdd]
      refine hQ _ _ _ ?_
      simp (maxSteps:=1000000) (disch:=omega) only [SS,eq_self,reduceIte,reduceCtorEq,Nat.reduceEqDiff,Nat.reduceAdd]
      have:i=ps.length:=by omega
      subst this
      simp [hu,hp]
theorem RowP.cells {P:Program}{e:TypeId}(hc:P.cellsOf e=2){H:AH}{v:Value}{ps:List (Int × Int)}(h:RowP e H v ps):sliceCells P e v H=some (ps.length,ints (flat ps)):=by
  rcases h with ⟨h1,h2⟩ | ⟨o,k,vs,ro,e1,h2,h3,h4⟩
  . subst h1;subst h2;rfl
  . subst e1
    simp only [sliceCells,h2,hc]
    rw [Nat.mul_comm ps.length 2,if_pos ⟨h3,trivial⟩,h4]
theorem MineP.app {P:Program}{t e:TypeId}(hu:P.underlying t=some (.slice e))(hc:P.cellsOf e=2)(hby:P.bytesOf e<=64)(hz:zeroOk P e=true){H0 H:AH}{v x:Value}{ps qs:List (Int × Int)}(h:MineP e H0 H v ps)(hx:RowP e H x qs)(hp:H0<+:H)(hb:ps.length+qs.length<=1099511627776) :
    ∃ v' H',appendA P t t v x H=some (v',H')/\MineP e H0 H' v' (ps ++ qs)/\H0<+:H'/\Kept v H H'/\(H.length<=rowO v'∨(v'=v/\H'=H))/\H.length<=H'.length:=by
  have hcells:=hx.cells (P:=P) hc
  have hb2:(ps.length+qs.length) * P.bytesOf e<=140737488355328:=by
    refine Nat.le_trans (Nat.mul_le_mul_left _ hby) ?_
    omega
  by_cases hm:qs.length=0
  . have hx0:qs=[]:=List.eq_nil_of_length_eq_zero hm
    subst hx0
    refine ⟨v,H,?_,by simpa using h,hp,fun o y _ hy=>hy,.inr ⟨rfl,rfl⟩,Nat.le_refl _⟩
    have hsl:isSl v=true:=by rcases h with ⟨h1,_⟩ | ⟨o,zs,h1,_⟩ <;> subst h1 <;> rfl
    simp only [appendA,hu,hc,hcells,hsl]
    simp
  . rcases h with ⟨h1,h2⟩ | ⟨o,zs,h1,h2,h3,h4⟩
    . subst h1;subst h2
      refine ⟨.slice (some ⟨H.length,0,none⟩) qs.length qs.length,H ++ [.cells (ints (flat qs)) e false],?_,.inr ⟨H.length,flat qs,rfl,hp.length_le,at_new ..,?_⟩,pre_app hp _,fun o y _ hy=>at_app hy _,.inl (Nat.le_refl _),by simp⟩
      . simp only [appendA,hu,hc,hcells,hz]
        simp only [List.length_nil,Nat.zero_add] at hb hb2
        simp [hm,hb2];omega
      . show (flat qs).take (2 * qs.length)=flat qs
        rw [List.take_of_length_le (by rw [flat_len];omega)]
    . subst h1
      have hl:=take_flat_len h4
      have lo:=hp.length_le
      refine ⟨.slice (some ⟨H.length,0,none⟩) (ps.length+qs.length) (ps.length+qs.length),H.set o .dead ++ [.cells (ints (flat (ps ++ qs))) e false],?_,.inr ⟨H.length,flat (ps ++ qs),by simp,by omega,?_,?_⟩,pre_app (pre_set hp h2 _) _,?_,.inl (Nat.le_refl _),by simp⟩
      . simp only [appendA,hu,hc,hcells,hz,h3]
        rw [if_pos (by simp),if_neg hm,if_pos ⟨trivial,by rw [ints_len];omega,hb2,by omega,trivial⟩]
        have:((ints zs).drop 0).take (ps.length * 2) ++ ints (flat qs)=ints (flat (ps ++ qs)):=by
          rw [flat_app,ints_app,<- h4,List.drop_zero,Nat.mul_comm]
          simp [ints,List.map_take]
        rw [this]
      . rw [List.getElem?_append_right (by simp)];simp
      . rw [List.take_of_length_le (by rw [flat_len];omega)]
      . intro o' y hne hy
        refine at_old hy ?_ _
        rcases hne with hne | hne
        . cases hne
        . exact fun e=>hne e.symm
def subP (v:Value)(l h:Nat):Value :=
  match v with
  | .slice (some p) _ _=>.slice (some ⟨p.block,p.off+2 * l,none⟩) (h - l) (h - l)
  | _=>.slice none 0 0
theorem RowP.slice {P:Program}{t e:TypeId}(hu:P.underlying t=some (.slice e))(hc:P.cellsOf e=2){H:AH}{v:Value}{ps:List (Int × Int)}(h:RowP e H v ps){lo hi:Option Value}{l r:Nat}(h1:boundA lo 0=some l)(h2:boundA hi ps.length=some r)(hl:l<=r)(hr:r<=ps.length) :
    sliceA P t v lo hi none H=some (subP v l r)/\RowP e H (subP v l r) ((ps.drop l).take (r - l))/\rowO (subP v l r)=rowO v:=by
  rcases h with ⟨e1,e2⟩ | ⟨o,k,vs,ro,e1,g2,g3,g4⟩
  . subst e1;subst e2
    have hr0:r=0:=by simpa using hr
    have hl0:l=0:=by omega
    subst hr0;subst hl0
    refine ⟨?_,.inl ⟨rfl,by simp⟩,rfl⟩
    simp only [List.length_nil] at h2
    simp only [sliceA,hu,h1,h2,hc,subP];rfl
  . subst e1
    have hlen:((ps.drop l).take (r - l)).length=r - l:=by simp;omega
    refine ⟨?_,.inr ⟨o,k+2 * l,vs,ro,?_,g2,?_,?_⟩,rfl⟩
    . simp only [sliceA,hu,h1,h2,g2,hc,subP]
      rw [if_pos ⟨hl,hr,trivial,by decide⟩,Nat.mul_comm l 2]
    . simp only [subP,hlen]
    . rw [hlen];omega
    . rw [hlen,<- List.drop_drop]
      have e4:ints (flat ((ps.drop l).take (r - l)))=((ints (flat ps)).drop (2 * l)).take (2 * (r - l)):=by
        rw [<- flat_take,<- flat_drop];simp [ints,List.map_drop,List.map_take]
      rw [e4,<- g4,List.drop_take,List.take_take,Nat.min_eq_left (by omega)]
def cd110:Cd:=(.seq (.reg [⟨⟨some 4,.assign (.const (.bool false)),none⟩,[]⟩]) (.seq (.seq (.reg [⟨⟨some 5,.assign (.const (.int .i64 0)),none⟩,[]⟩]) (.block 0 (.loop (.seq (.seq (.reg [⟨⟨some 6,.move (.tmp 5),none⟩,[]⟩,
  ⟨⟨some 7,.move (.tmp 0),none⟩,[]⟩,
  ⟨⟨some 8,.call ⟨(.builtin .len),#[.tmp 7],#[27]⟩,none⟩,[]⟩,
  ⟨⟨some 9,.binOp .lss 3 (.tmp 6) (.tmp 8) 3,none⟩,[]⟩]) (.cond (.tmp 9) .skip (.exit 0))) (.seq (.block 1 (.seq (.reg [⟨⟨some 12,.move (.tmp 0),none⟩,[]⟩,
  ⟨⟨some 13,.move (.tmp 5),none⟩,[]⟩,
  ⟨⟨some 14,.indexAddr 27 (.tmp 12) (.tmp 13),none⟩,[]⟩,
  ⟨⟨some 15,.load 3 (.tmp 14),none⟩,[]⟩,
  ⟨⟨some 16,.move (.tmp 1),none⟩,[]⟩,
  ⟨⟨some 17,.binOp .eql 3 (.tmp 15) (.tmp 16) 3,none⟩,[]⟩]) (.cond (.tmp 17) (.seq (.reg [⟨⟨some 4,.assign (.const (.bool true)),none⟩,[]⟩]) .ret) .skip))) (.reg [⟨⟨some 10,.move (.tmp 5),none⟩,[]⟩,
  ⟨⟨some 11,.binOp .add 3 (.tmp 10) (.const (.int .i64 1)) 3,none⟩,[]⟩,
  ⟨⟨some 5,.assign (.tmp 11),none⟩,[]⟩])))))) (.seq (.reg [⟨⟨some 4,.assign (.const (.bool false)),none⟩,[]⟩]) .ret)))
theorem in110:InT Tryz.prog 110 2 [.tmp 4] cd110:=InT.mk (by kernel_rfl) [] Tryz.func110 rfl (by kernel_rfl) (by kernel_rfl) (of_decide_eq_true (by kernel_rfl)) (by kernel_rfl)
end Go.Proofs.YtjnefjchconebaaGreat.Ai
namespace Go.Proofs.YtjnefjchconebaaGreat.Ai
open Go Go.RowKit
theorem l1Has_c (v:Value)(xs:List Int)(x:Int)(H:AH)(hr:Row 3 H v xs)(hlen:xs.length<=1099511627776):ACalls Tryz.prog 110 [v,.int .i64 x] H fun r H'=>r=.bool (decide (x ∈ xs))/\H=H':=by
  refine in110 rfl ?_
  intro Q hQ
  simp (maxSteps:=1000000) (disch:=omega) only [cd110,SS,eq_self,reduceIte,reduceCtorEq,Nat.reduceEqDiff,Nat.reduceAdd]
  refine LoopH.by (fun m s H'=>∃ i,m+i=xs.length/\s 0=v/\s 1=.int .i64 x/\s 5=.int .i64 ((i:Nat):Int)/\H=H'/\x ∉ xs.take i) xs.length ?_ ?_
  . exact ⟨0,by simp,rfl,rfl,rfl,rfl,by simp⟩
  . rintro m s H' ⟨i,hm,h0,h1,h5,rfl,hn⟩
    simp (maxSteps:=1000000) (disch:=omega) only [h0,h1,h5,hr.len Tryz.underlying27,SS,eq_self,reduceIte,reduceCtorEq,Nat.reduceEqDiff,Nat.reduceAdd]
    refine brD.intro (fun g=>?_) (fun g=>?_) <;> simp (maxSteps:=1000000) (disch:=omega) only [h0,h1,h5,hr.ix Tryz.underlying27 cs3,hr.cell,Int.toNat_natCast,SS,eq_self,reduceIte,reduceCtorEq,Nat.reduceEqDiff,Nat.reduceAdd]
    . have hi:i<xs.length:=by omega
      have hg:xs.getD i 0=xs[i]:=by simp [hi]
      refine brD.intro (fun e=>?_) (fun e=>?_) <;> simp (maxSteps:=1000000) (disch:=omega) only [h0,h1,h5,wrap64,SS,eq_self,reduceIte,reduceCtorEq,Nat.reduceEqDiff,Nat.reduceAdd]
      . refine hQ _ _ _ ?_
        simp (maxSteps:=1000000) (disch:=omega) only [SS,eq_self,reduceIte,reduceCtorEq,Nat.reduceEqDiff,Nat.reduceAdd]
        rw [hg] at e
        have:x ∈ xs:=e ▸ List.getElem_mem hi
        simp [this]
      . refine ⟨m - 1,by omega,i+1,by omega,by simp,?_⟩
        rw [List.take_add_one,List.getElem?_eq_getElem hi]
        rw [hg] at e
        simp only [Option.toList_some,List.mem_append,List.mem_singleton,not_or]
        exact ⟨hn,fun e'=>e e'.symm⟩
    . refine hQ _ _ _ ?_
      simp (maxSteps:=1000000) (disch:=omega) only [SS,eq_self,reduceIte,reduceCtorEq,Nat.reduceEqDiff,Nat.reduceAdd]
      rw [List.take_of_length_le (by omega)] at hn
      simp [hn]
def cd174:Cd:=(.seq (.reg [⟨⟨some 4,.assign (.const (.slice none 0 0)),none⟩,[]⟩]) (.seq (.reg [⟨⟨some 5,.assign (.const (.int .i64 0)),none⟩,[]⟩]) (.seq (.block 0 (.loop (.seq (.seq (.reg [⟨⟨some 6,.move (.tmp 5),none⟩,[]⟩,⟨⟨some 7,.move (.tmp 0),none⟩,[]⟩,⟨⟨some 8,.call ⟨(.builtin .len),#[.tmp 7],#[27]⟩,none⟩,[]⟩,⟨⟨some 9,.binOp .lss 3 (.tmp 6) (.tmp 8) 3,none⟩,[]⟩,⟨⟨some 10,.move (.tmp 9),none⟩,[]⟩,⟨⟨some 11,.move (.tmp 0),some (10,true)⟩,[]⟩,⟨⟨some 12,.move (.tmp 5),some (10,true)⟩,[]⟩,⟨⟨some 13,.indexAddr 27 (.tmp 11) (.tmp 12),some (10,true)⟩,[]⟩,⟨⟨some 14,.load 3 (.tmp 13),some (10,true)⟩,[]⟩,⟨⟨some 15,.move (.tmp 1),some (10,true)⟩,[]⟩,⟨⟨some 16,.binOp .lss 3 (.tmp 14) (.tmp 15) 3,some (10,true)⟩,[]⟩,⟨⟨some 17,.pick (.tmp 10) (.tmp 16) (.const (.bool false)),none⟩,[]⟩]) (.cond (.tmp 17) .skip (.exit 0))) (.block 1 (.reg [⟨⟨some 18,.move (.tmp 5),none⟩,[]⟩,
 ⟨⟨some 19,.binOp .add 3 (.tmp 18) (.const (.int .i64 1)) 3,none⟩,[]⟩,⟨⟨some 5,.assign (.tmp 19),none⟩,[]⟩]))))) (.seq (.seq (.reg [⟨⟨some 20,.move (.tmp 5),none⟩,[]⟩,⟨⟨some 21,.move (.tmp 0),none⟩,[]⟩,⟨⟨some 22,.call ⟨(.builtin .len),#[.tmp 21],#[27]⟩,none⟩,[]⟩,⟨⟨some 23,.binOp .lss 3 (.tmp 20) (.tmp 22) 3,none⟩,[]⟩,⟨⟨some 24,.move (.tmp 23),none⟩,[]⟩,⟨⟨some 25,.move (.tmp 0),some (24,true)⟩,[]⟩,⟨⟨some 26,.move (.tmp 5),some (24,true)⟩,[]⟩,⟨⟨some 27,.indexAddr 27 (.tmp 25) (.tmp 26),some (24,true)⟩,[]⟩,⟨⟨some 28,.load 3 (.tmp 27),some (24,true)⟩,[]⟩,⟨⟨some 29,.move (.tmp 1),some (24,true)⟩,[]⟩,⟨⟨some 30,.binOp .eql 3 (.tmp 28) (.tmp 29) 3,some (24,true)⟩,[]⟩,
 ⟨⟨some 31,.pick (.tmp 24) (.tmp 30) (.const (.bool false)),none⟩,[]⟩]) (.cond (.tmp 31) (.seq (.reg [⟨⟨some 32,.move (.tmp 0),none⟩,[]⟩,⟨⟨some 4,.assign (.tmp 32),none⟩,[]⟩]) .ret) .skip)) (.seq (.reg [⟨⟨some 33,.buildSlice 27 0 #[],none⟩,[]⟩,⟨⟨some 34,.move (.tmp 0),none⟩,[]⟩,⟨⟨some 35,.move (.tmp 5),none⟩,[]⟩,⟨⟨some 36,.slice 27 (.tmp 34) none (some (.tmp 35)) none,none⟩,[]⟩,⟨⟨some 38,.move (.tmp 1),none⟩,[]⟩,⟨⟨some 39,.buildSlice 27 1 #[(0,.tmp 38)],none⟩,[]⟩,⟨⟨some 41,.move (.tmp 0),none⟩,[]⟩,⟨⟨some 42,.move (.tmp 5),none⟩,[]⟩,⟨⟨some 43,.slice 27 (.tmp 41) (some (.tmp 42)) none none,none⟩,[]⟩,⟨⟨some 37,.call ⟨(.builtin .append),#[.tmp 33,.tmp 36],#[27,27]⟩,none⟩,[⟨some 43,.slice 27 (.tmp 41) (some (.tmp 42)) none none,none⟩,⟨some 39,.buildSlice 27 1 #[(0,.tmp 38)],none⟩]⟩,⟨⟨some 40,.call ⟨(.builtin .append),#[.tmp 37,.tmp 39],#[27,27]⟩,none⟩,[⟨some 43,.slice 27 (.tmp 41) (some (.tmp 42)) none none,none⟩]⟩,
 ⟨⟨some 44,.call ⟨(.builtin .append),#[.tmp 40,.tmp 43],#[27,27]⟩,none⟩,[]⟩,
  ⟨⟨some 4,.assign (.tmp 44),none⟩,[]⟩]) .ret)))))
theorem in174:InT Tryz.prog 174 2 [.tmp 4] cd174:=InT.mk (by kernel_rfl) [(6,[(0,false),(1,false),(2,false),(3,false),(5,false),(6,false),(8,false),(9,false),(10,false),(4,true),(7,true),(11,true),(12,false)])] Tryz.func174 rfl (by kernel_rfl) (by kernel_rfl) (of_decide_eq_true (by kernel_rfl)) (by kernel_rfl)
end Go.Proofs.YtjnefjchconebaaGreat.Ai
namespace Go.Proofs.YtjnefjchconebaaGreat.Ai
open Go Go.RowKit
theorem l1Put_c (v:Value)(l:List Int)(x:Int)(H:AH)(hr:Row 3 H v l)(hlen:l.length<=1000000)(hx:x ∉ l) :
    ACalls Tryz.prog 174 [v,.int .i64 x] H fun r H'=>Own 3 H H' r (put l x)/\H<+:H':=by
  refine in174 rfl ?_
  intro Q hQ
  simp (maxSteps:=1000000) (disch:=omega) only [cd174,SS,eq_self,reduceIte,reduceCtorEq,Nat.reduceEqDiff,Nat.reduceAdd]
  refine LoopH.by (fun m s H'=>∃ i,m+i=l.length/\s 0=v/\s 1=.int .i64 x/\s 5=.int .i64 ((i:Nat):Int)/\H=H'/\∀ j,j<i->l.getD j 0<x) l.length ?_ ?_
  . exact ⟨0,by simp,rfl,rfl,rfl,rfl,by omega⟩
  . rintro m s H' ⟨i,hm,h0,h1,h5,rfl,hlt⟩
    have fin:(i<l.length->x<=l.getD i 0)->put l x=l.take i ++ x :: l.drop i:=by
      intro h
      rw [putAt_eq0 l x i (by omega) hlt h,if_neg]
      rintro ⟨hi,e⟩
      apply hx
      have:l.getD i 0=l[i]:=by simp [hi]
      rw [<- e,this];exact List.getElem_mem hi
    have last:(i<l.length->x<=l.getD i 0)->∀ s':Sl,s' 0=v->s' 1=.int .i64 x->s' 5=.int .i64 ((i:Nat):Int)->True:=fun _ _ _ _ _=>trivial
    have hp1:=List.prefix_append H [AObj.cells [] 3 false]
    have hp2:H<+:H ++ [AObj.cells [] 3 false] ++ [AObj.cells [.int .i64 x] 3 false]:=pre_app hp1 _
    have sl1:∀ H1,H<+:H1->sliceA Tryz.prog 27 v none (some (.int .i64 ((i:Nat):Int))) none H1=some (subV v 0 i)/\Row 3 H1 (subV v 0 i) (l.take i):=by
      intro H1 hp
      have h:=(hr.pre hp).slice Tryz.underlying27 cs3 (lo:=none) (hi:=some (.int .i64 ((i:Nat):Int))) lo_none (bound_some (by omega) _) (by omega) (by simp;omega)
      simp only [Int.toNat_natCast,List.drop_zero,Nat.sub_zero] at h
      exact ⟨h.1,h.2.1⟩
    have sl2:∀ H1,H<+:H1->sliceA Tryz.prog 27 v (some (.int .i64 ((i:Nat):Int))) none none H1=some (subV v i l.length)/\Row 3 H1 (subV v i l.length) (l.drop i):=by
      intro H1 hp
      have h:=(hr.pre hp).slice Tryz.underlying27 cs3 (lo:=some (.int .i64 ((i:Nat):Int))) (hi:=none) (bound_some (by omega) _) (hi_none _) (by simp;omega) (Nat.le_refl _)
      simp only [Int.toNat_natCast] at h
      refine ⟨h.1,?_⟩
      have e:(l.drop i).take (l.length - i)=l.drop i:=List.take_of_length_le (by simp)
      rw [<- e];exact h.2.1
    have ho0:Own 3 H (H ++ [AObj.cells [] 3 false] ++ [AObj.cells [.int .i64 x] 3 false]) (.slice (some ⟨H.length,0,none⟩) 0 0) []:=.inr ⟨H.length,rfl,Nat.le_refl _,at_app (at_new ..) _⟩
    obtain ⟨w1,H3,k1,o1,p1,e1,_⟩:=ho0.app (P:=Tryz.prog) (t:=27) Tryz.underlying27 cs3 (by rw [by3];decide) zk3 (sl1 _ hp2).2 hp2 (by simp;omega)
    simp only [List.nil_append] at o1
    have c3:H3[(H ++ [AObj.cells [] 3 false]).length]?=some (.cells [.int .i64 x] 3 false):=e1 _ _ (.inr (by simp [rowO])) (at_new ..)
    have c2:(H ++ [AObj.cells [] 3 false] ++ [AObj.cells [.int .i64 x] 3 false])[(H ++ [AObj.cells [] 3 false]).length]?=some (.cells [.int .i64 x] 3 false):=at_new ..
    have r39:Row 3 H3 (.slice (some ⟨(H ++ [AObj.cells [] 3 false]).length,0,none⟩) 1 1) [x]:=.inr ⟨_,0,[.int .i64 x],false,rfl,c3,by simp,rfl⟩
    obtain ⟨w2,H4,k2,o2,p2,e2,_⟩:=o1.app (P:=Tryz.prog) (t:=27) Tryz.underlying27 cs3 (by rw [by3];decide) zk3 r39 p1 (by simp;omega)
    obtain ⟨w3,H5,k3,o3,p3,e3,_⟩:=o2.app (P:=Tryz.prog) (t:=27) Tryz.underlying27 cs3 (by rw [by3];decide) zk3 (sl2 _ p2).2 p2 (by simp;omega)
    have hcat:l.take i ++ [x] ++ l.drop i=l.take i ++ x :: l.drop i:=by simp
    simp (maxSteps:=1000000) (disch:=omega) only [h0,h1,h5,hr.len Tryz.underlying27,SS,eq_self,reduceIte,reduceCtorEq,Nat.reduceEqDiff,Nat.reduceAdd]
    refine brD.intro (fun g=>?_) (fun g=>?_)
    . have hi:i<l.length:=by omega
      simp (maxSteps:=1000000) (disch:=omega) only [g,h0,h1,h5,hr.ix Tryz.underlying27 cs3,hr.cell,Int.toNat_natCast,SS,eq_self,reduceIte,reduceCtorEq,Nat.reduceEqDiff,Nat.reduceAdd]
      refine brD.intro (fun e=>?_) (fun e=>?_)
      . simp (maxSteps:=1000000) (disch:=omega) only [h0,h1,h5,wrap64,SS,eq_self,reduceIte,reduceCtorEq,Nat.reduceEqDiff,Nat.reduceAdd]
        have fx:∀ j,j<i+1->l.getD j 0<x:=by
          intro j hj
          by_cases ej:j=i
          . subst ej;exact e
          . exact hlt j (by omega)
        refine ⟨m - 1,by omega,i+1,?_⟩
        (repeat' apply And.intro) <;> first | exact fx | (simp only [Value.int.injEq,true_and];omega) | omega | rfl | assumption | (simp;done) | (simp;omega)
      . have hne:¬ l.getD i 0=x:=fun h=>hx (by
          have:l.getD i 0=l[i]:=by simp [hi]
          rw [<- h,this];exact List.getElem_mem hi)
        simp (maxSteps:=1000000) (disch:=omega) only [g,h0,h1,h5,hr.len Tryz.underlying27,hr.ix Tryz.underlying27 cs3,hr.cell,Int.toNat_natCast,SS,eq_self,reduceIte,reduceCtorEq,Nat.reduceEqDiff,Nat.reduceAdd]
        refine brD.intro (fun h=>absurd h hne) (fun hne=>?_)
        simp (maxSteps:=1000000) (disch:=omega) only [hne,g,h0,h1,h5,(sl1 _ hp1).1,(sl2 _ hp2).1,k1,k2,k3,(sl2 _ p1).1,(sl2 _ p2).1,c2,c3,SS,eq_self,reduceIte,reduceCtorEq,Nat.reduceEqDiff,Nat.reduceAdd]
        refine hQ _ _ _ ?_
        simp (maxSteps:=1000000) (disch:=omega) only [o3.row.tup,SS,eq_self,reduceIte,reduceCtorEq,Nat.reduceEqDiff,Nat.reduceAdd]
        rw [fin (fun _=>by omega),<- hcat]
        exact ⟨o3,p3⟩
    . simp (maxSteps:=1000000) (disch:=omega) only [g,h0,h1,h5,hr.len Tryz.underlying27,SS,eq_self,reduceIte,reduceCtorEq,Nat.reduceEqDiff,Nat.reduceAdd]
      simp (maxSteps:=1000000) (disch:=omega) only [h0,h1,h5,(sl1 _ hp1).1,(sl2 _ hp2).1,k1,k2,k3,(sl2 _ p1).1,(sl2 _ p2).1,c2,c3,g,SS,eq_self,reduceIte,reduceCtorEq,Nat.reduceEqDiff,Nat.reduceAdd]
      refine hQ _ _ _ ?_
      simp (maxSteps:=1000000) (disch:=omega) only [o3.row.tup,SS,eq_self,reduceIte,reduceCtorEq,Nat.reduceEqDiff,Nat.reduceAdd]
      rw [fin (fun _=>by omega),<- hcat]
      exact ⟨o3,p3⟩
def cd118:Cd:=(.seq (.reg [⟨⟨some 2,.assign (.const (.bool false)),none⟩,[]⟩]) (.seq (.reg [⟨⟨some 3,.move (.tmp 0),none⟩,[]⟩,
  ⟨⟨some 4,.call ⟨(.value (.func 119)),#[.tmp 3,(.const (.int .i64 3)),(.const (.int .i64 8))],#[3,3,3]⟩,none⟩,[]⟩,
  ⟨⟨some 2,.assign (.tmp 4),none⟩,[]⟩]) .ret))
theorem in118:InT Tryz.prog 118 1 [.tmp 2] cd118:=InT.mk (by kernel_rfl) [] Tryz.func118 rfl (by kernel_rfl) (by kernel_rfl) (of_decide_eq_true (by kernel_rfl)) (by kernel_rfl)
def cd112:Cd:=(.seq (.reg [⟨⟨some 2,.assign (.const (.bool false)),none⟩,[]⟩]) (.seq (.reg [⟨⟨some 3,.move (.tmp 0),none⟩,[]⟩,
  ⟨⟨some 4,.call ⟨(.value (.func 113)),#[.tmp 3,(.const (.int .i64 3)),(.const (.int .i64 8))],#[3,3,3]⟩,none⟩,[]⟩,
  ⟨⟨some 2,.assign (.tmp 4),none⟩,[]⟩]) .ret))
theorem in112:InT Tryz.prog 112 1 [.tmp 2] cd112:=InT.mk (by kernel_rfl) [] Tryz.func112 rfl (by kernel_rfl) (by kernel_rfl) (of_decide_eq_true (by kernel_rfl)) (by kernel_rfl)
end Go.Proofs.YtjnefjchconebaaGreat.Ai
namespace Go.Proofs.YtjnefjchconebaaGreat.Ai
open Go Go.RowKit
theorem l8Corners_c (n:Int)(H:AH):ACalls Tryz.prog 118 [.int .i64 n] H fun r H'=>r=.bool (decide (3<=n/\n<=8))/\H=H':=by
  refine in118 rfl ?_
  intro Q hQ
  simp (maxSteps:=1000000) (disch:=omega) only [cd118,SS,eq_self,reduceIte,reduceCtorEq,Nat.reduceEqDiff,Nat.reduceAdd]
  refine CallH.by (l1In_c ..) ?_
  rintro _ _ ⟨rfl,rfl⟩
  simp (maxSteps:=1000000) (disch:=omega) only [SS,eq_self,reduceIte,reduceCtorEq,Nat.reduceEqDiff,Nat.reduceAdd]
  refine hQ _ _ _ ?_
  simp (maxSteps:=1000000) (disch:=omega) only [SS,eq_self,reduceIte,reduceCtorEq,Nat.reduceEqDiff,Nat.reduceAdd]
theorem isPolygon_c (n:Int)(H:AH):ACalls Tryz.prog 112 [.int .i64 n] H fun r H'=>r=.bool (decide (3<=n/\n<=8))/\H=H':=by
  refine in112 rfl ?_
  intro Q hQ
  simp (maxSteps:=1000000) (disch:=omega) only [cd112,SS,eq_self,reduceIte,reduceCtorEq,Nat.reduceEqDiff,Nat.reduceAdd]
  refine CallH.by (between_c ..) ?_
  rintro _ _ ⟨rfl,rfl⟩
  simp (maxSteps:=1000000) (disch:=omega) only [SS,eq_self,reduceIte,reduceCtorEq,Nat.reduceEqDiff,Nat.reduceAdd]
  refine hQ _ _ _ ?_
  simp (maxSteps:=1000000) (disch:=omega) only [SS,eq_self,reduceIte,reduceCtorEq,Nat.reduceEqDiff,Nat.reduceAdd]
def idxP (p:Int->Bool):List Int->Nat->Int
  | [],_ => -1
  | x :: xs,k=>if p x=true then (k:Int) else idxP p xs (k+1)
theorem idxP_step (p:Int->Bool)(xs:List Int)(i:Nat)(hi:i<xs.length):idxP p (xs.drop i) i=if p (xs.getD i 0)=true then (i:Int) else idxP p (xs.drop (i+1)) (i+1):=by
  rw [List.drop_eq_getElem_cons hi]
  simp [idxP,hi]
theorem idxP_any (p:Int->Bool):∀ (xs:List Int) (k:Nat),(0<=idxP p xs k)↔xs.any p=true
  | [],k=>by simp [idxP]
  | x :: xs,k=>by
    simp only [idxP,List.any_cons]
    cases h:p x with
    | true=>simp
    | false=>simp [idxP_any p xs (k+1)]
def cd108:Cd:=(.seq (.reg [⟨⟨some 4,.assign (.const (.bool false)),none⟩,[]⟩]) (.seq (.reg [⟨⟨some 9,.move (.tmp 0),none⟩,[]⟩,⟨⟨some 10,.binOp .quo 3 (.tmp 9) (.const (.int .i64 10)) 3,none⟩,[]⟩,⟨⟨some 11,.move (.tmp 0),none⟩,[]⟩,⟨⟨some 12,.binOp .rem 3 (.tmp 11) (.const (.int .i64 10)) 3,none⟩,[]⟩,⟨⟨some 13,.move (.tmp 1),none⟩,[]⟩,⟨⟨some 14,.binOp .quo 3 (.tmp 13) (.const (.int .i64 10)) 3,none⟩,[]⟩,⟨⟨some 15,.move (.tmp 1),none⟩,[]⟩,⟨⟨some 16,.binOp .rem 3 (.tmp 15) (.const (.int .i64 10)) 3,none⟩,[]⟩,⟨⟨some 5,.assign (.tmp 10),none⟩,[]⟩,⟨⟨some 6,.assign (.tmp 12),none⟩,[]⟩,⟨⟨some 7,.assign (.tmp 14),none⟩,[]⟩,⟨⟨some 8,.assign (.tmp 16),none⟩,[]⟩]) (.seq (.reg [⟨⟨some 17,.move (.tmp 5),none⟩,[]⟩,
 ⟨⟨some 18,.move (.tmp 7),none⟩,[]⟩,⟨⟨some 19,.binOp .lss 3 (.tmp 17) (.tmp 18) 3,none⟩,[]⟩,⟨⟨some 20,.move (.tmp 19),none⟩,[]⟩,⟨⟨some 21,.move (.tmp 7),some (20,true)⟩,[]⟩,⟨⟨some 22,.move (.tmp 6),some (20,true)⟩,[]⟩,⟨⟨some 23,.binOp .lss 3 (.tmp 21) (.tmp 22) 3,some (20,true)⟩,[]⟩,⟨⟨some 24,.pick (.tmp 20) (.tmp 23) (.const (.bool false)),none⟩,[]⟩,⟨⟨some 25,.move (.tmp 24),none⟩,[]⟩,⟨⟨some 26,.move (.tmp 6),some (25,true)⟩,[]⟩,⟨⟨some 27,.move (.tmp 8),some (25,true)⟩,[]⟩,⟨⟨some 28,.binOp .lss 3 (.tmp 26) (.tmp 27) 3,some (25,true)⟩,[]⟩,⟨⟨some 29,.pick (.tmp 25) (.tmp 28) (.const (.bool false)),none⟩,[]⟩,
 ⟨⟨some 30,.move (.tmp 29),none⟩,[]⟩,⟨⟨some 31,.move (.tmp 7),some (30,false)⟩,[]⟩,⟨⟨some 32,.move (.tmp 5),some (30,false)⟩,[]⟩,⟨⟨some 33,.binOp .lss 3 (.tmp 31) (.tmp 32) 3,some (30,false)⟩,[]⟩,⟨⟨some 34,.move (.tmp 33),some (30,false)⟩,[]⟩,⟨⟨some 35,.move (.tmp 5),some (34,true)⟩,[]⟩,⟨⟨some 36,.move (.tmp 8),some (34,true)⟩,[]⟩,⟨⟨some 37,.binOp .lss 3 (.tmp 35) (.tmp 36) 3,some (34,true)⟩,[]⟩,⟨⟨some 38,.pick (.tmp 34) (.tmp 37) (.const (.bool false)),some (30,false)⟩,[]⟩,⟨⟨some 39,.move (.tmp 38),some (30,false)⟩,[]⟩,⟨⟨some 40,.move (.tmp 8),some (39,true)⟩,[]⟩,⟨⟨some 41,.move (.tmp 6),some (39,true)⟩,[]⟩,
 ⟨⟨some 42,.binOp .lss 3 (.tmp 40) (.tmp 41) 3,some (39,true)⟩,[]⟩,
  ⟨⟨some 43,.pick (.tmp 39) (.tmp 42) (.const (.bool false)),some (30,false)⟩,[]⟩,
  ⟨⟨some 44,.pick (.tmp 30) (.const (.bool true)) (.tmp 43),none⟩,[]⟩,
  ⟨⟨some 4,.assign (.tmp 44),none⟩,[]⟩]) .ret)))
theorem in108:InT Tryz.prog 108 2 [.tmp 4] cd108:=InT.mk (by kernel_rfl) [] Tryz.func108 rfl (by kernel_rfl) (by kernel_rfl) (of_decide_eq_true (by kernel_rfl)) (by kernel_rfl)
def cd107:Cd:=(.seq (.reg [⟨⟨some 4,.assign (.const (.bool false)),none⟩,[]⟩]) (.seq (.reg [⟨⟨some 9,.move (.tmp 0),none⟩,[]⟩,⟨⟨some 10,.binOp .quo 3 (.tmp 9) (.const (.int .i64 10)) 3,none⟩,[]⟩,⟨⟨some 11,.move (.tmp 0),none⟩,[]⟩,⟨⟨some 12,.binOp .rem 3 (.tmp 11) (.const (.int .i64 10)) 3,none⟩,[]⟩,⟨⟨some 13,.move (.tmp 1),none⟩,[]⟩,⟨⟨some 14,.binOp .quo 3 (.tmp 13) (.const (.int .i64 10)) 3,none⟩,[]⟩,⟨⟨some 15,.move (.tmp 1),none⟩,[]⟩,⟨⟨some 16,.binOp .rem 3 (.tmp 15) (.const (.int .i64 10)) 3,none⟩,[]⟩,⟨⟨some 5,.assign (.tmp 10),none⟩,[]⟩,⟨⟨some 6,.assign (.tmp 12),none⟩,[]⟩,⟨⟨some 7,.assign (.tmp 14),none⟩,[]⟩,⟨⟨some 8,.assign (.tmp 16),none⟩,[]⟩]) (.seq (.reg [⟨⟨some 17,.move (.tmp 5),none⟩,[]⟩,
 ⟨⟨some 18,.move (.tmp 7),none⟩,[]⟩,⟨⟨some 19,.binOp .lss 3 (.tmp 17) (.tmp 18) 3,none⟩,[]⟩,⟨⟨some 20,.move (.tmp 19),none⟩,[]⟩,⟨⟨some 21,.move (.tmp 7),some (20,true)⟩,[]⟩,⟨⟨some 22,.move (.tmp 6),some (20,true)⟩,[]⟩,⟨⟨some 23,.binOp .lss 3 (.tmp 21) (.tmp 22) 3,some (20,true)⟩,[]⟩,⟨⟨some 24,.pick (.tmp 20) (.tmp 23) (.const (.bool false)),none⟩,[]⟩,⟨⟨some 25,.move (.tmp 24),none⟩,[]⟩,⟨⟨some 26,.move (.tmp 6),some (25,true)⟩,[]⟩,⟨⟨some 27,.move (.tmp 8),some (25,true)⟩,[]⟩,⟨⟨some 28,.binOp .lss 3 (.tmp 26) (.tmp 27) 3,some (25,true)⟩,[]⟩,⟨⟨some 29,.pick (.tmp 25) (.tmp 28) (.const (.bool false)),none⟩,[]⟩,
 ⟨⟨some 30,.move (.tmp 29),none⟩,[]⟩,⟨⟨some 31,.move (.tmp 7),some (30,false)⟩,[]⟩,⟨⟨some 32,.move (.tmp 5),some (30,false)⟩,[]⟩,⟨⟨some 33,.binOp .lss 3 (.tmp 31) (.tmp 32) 3,some (30,false)⟩,[]⟩,⟨⟨some 34,.move (.tmp 33),some (30,false)⟩,[]⟩,⟨⟨some 35,.move (.tmp 5),some (34,true)⟩,[]⟩,⟨⟨some 36,.move (.tmp 8),some (34,true)⟩,[]⟩,⟨⟨some 37,.binOp .lss 3 (.tmp 35) (.tmp 36) 3,some (34,true)⟩,[]⟩,⟨⟨some 38,.pick (.tmp 34) (.tmp 37) (.const (.bool false)),some (30,false)⟩,[]⟩,⟨⟨some 39,.move (.tmp 38),some (30,false)⟩,[]⟩,⟨⟨some 40,.move (.tmp 8),some (39,true)⟩,[]⟩,⟨⟨some 41,.move (.tmp 6),some (39,true)⟩,[]⟩,
 ⟨⟨some 42,.binOp .lss 3 (.tmp 40) (.tmp 41) 3,some (39,true)⟩,[]⟩,
  ⟨⟨some 43,.pick (.tmp 39) (.tmp 42) (.const (.bool false)),some (30,false)⟩,[]⟩,
  ⟨⟨some 44,.pick (.tmp 30) (.const (.bool true)) (.tmp 43),none⟩,[]⟩,
  ⟨⟨some 4,.assign (.tmp 44),none⟩,[]⟩]) .ret)))
theorem in107:InT Tryz.prog 107 2 [.tmp 4] cd107:=InT.mk (by kernel_rfl) [] Tryz.func107 rfl (by kernel_rfl) (by kernel_rfl) (of_decide_eq_true (by kernel_rfl)) (by kernel_rfl)
def cd185:Cd:=(.seq (.reg [⟨⟨some 4,.assign (.const (.int .i64 0)),none⟩,[]⟩]) (.seq (.seq (.reg [⟨⟨some 6,.move (.tmp 0),none⟩,[]⟩,
  ⟨⟨some 7,.call ⟨(.builtin .len),#[.tmp 6],#[27]⟩,none⟩,[]⟩,
  ⟨⟨some 8,.move (.const (.int .i64 0)),none⟩,[]⟩]) (.block 0 (.loop (.seq (.reg [⟨⟨some 9,.binOp .lss 3 (.tmp 8) (.tmp 7) 3,none⟩,[]⟩]) (.seq (.cond (.tmp 9) .skip (.exit 0)) (.seq (.block 1 (.seq (.reg [⟨⟨some 10,.move (.tmp 8),none⟩,[]⟩,
  ⟨⟨some 5,.assign (.tmp 10),none⟩,[]⟩]) (.seq (.reg [⟨⟨some 11,.move (.tmp 1),none⟩,[]⟩,
  ⟨⟨some 12,.move (.tmp 0),none⟩,[]⟩,
  ⟨⟨some 13,.move (.tmp 5),none⟩,[]⟩,
  ⟨⟨some 14,.indexAddr 27 (.tmp 12) (.tmp 13),none⟩,[]⟩,
  ⟨⟨some 15,.load 3 (.tmp 14),none⟩,[]⟩,
  ⟨⟨some 16,.call ⟨(.value (.tmp 11)),#[.tmp 15],#[3]⟩,none⟩,[]⟩]) (.cond (.tmp 16) (.seq (.reg [⟨⟨some 17,.move (.tmp 5),none⟩,[]⟩,
  ⟨⟨some 4,.assign (.tmp 17),none⟩,[]⟩]) .ret) .skip)))) (.reg [⟨⟨some 18,.binOp .add 3 (.tmp 8) (.const (.int .i64 1)) 3,none⟩,[]⟩,
  ⟨⟨some 8,.move (.tmp 18),none⟩,[]⟩]))))))) (.seq (.reg [⟨⟨some 4,.assign (.const (.int .i64 (-1))),none⟩,[]⟩]) .ret)))
theorem in185:InT Tryz.prog 185 2 [.tmp 4] cd185:=InT.mk (by kernel_rfl) [] Tryz.func185 rfl (by kernel_rfl) (by kernel_rfl) (of_decide_eq_true (by kernel_rfl)) (by kernel_rfl)
def cd190:Cd:=(.seq (.reg [⟨⟨some 4,.assign (.const (.bool false)),none⟩,[]⟩]) (.seq (.reg [⟨⟨some 5,.move (.tmp 0),none⟩,[]⟩,
  ⟨⟨some 6,.move (.tmp 1),none⟩,[]⟩,
  ⟨⟨some 7,.call ⟨(.value (.func 185)),#[.tmp 5,.tmp 6],#[27,98]⟩,none⟩,[]⟩,
  ⟨⟨some 8,.binOp .geq 3 (.tmp 7) (.const (.int .i64 0)) 3,none⟩,[]⟩,
  ⟨⟨some 4,.assign (.tmp 8),none⟩,[]⟩]) .ret))
theorem in190:InT Tryz.prog 190 2 [.tmp 4] cd190:=InT.mk (by kernel_rfl) [] Tryz.func190 rfl (by kernel_rfl) (by kernel_rfl) (of_decide_eq_true (by kernel_rfl)) (by kernel_rfl)
def cd173:Cd:=(.seq (.reg [⟨⟨some 4,.assign (.const (.bool false)),none⟩,[]⟩]) (.seq (.seq (.reg [⟨⟨some 5,.assign (.const (.int .i64 0)),none⟩,[]⟩]) (.block 0 (.loop (.seq (.seq (.reg [⟨⟨some 6,.move (.tmp 5),none⟩,[]⟩,
  ⟨⟨some 7,.move (.tmp 0),none⟩,[]⟩,
  ⟨⟨some 8,.call ⟨(.builtin .len),#[.tmp 7],#[27]⟩,none⟩,[]⟩,
  ⟨⟨some 9,.binOp .lss 3 (.tmp 6) (.tmp 8) 3,none⟩,[]⟩]) (.cond (.tmp 9) .skip (.exit 0))) (.seq (.block 1 (.seq (.reg [⟨⟨some 12,.move (.tmp 0),none⟩,[]⟩,
  ⟨⟨some 13,.move (.tmp 5),none⟩,[]⟩,
  ⟨⟨some 14,.indexAddr 27 (.tmp 12) (.tmp 13),none⟩,[]⟩,
  ⟨⟨some 15,.load 3 (.tmp 14),none⟩,[]⟩,
  ⟨⟨some 16,.move (.tmp 1),none⟩,[]⟩,
  ⟨⟨some 17,.call ⟨(.value (.func 108)),#[.tmp 15,.tmp 16],#[3,3]⟩,none⟩,[]⟩]) (.cond (.tmp 17) (.seq (.reg [⟨⟨some 4,.assign (.const (.bool false)),none⟩,[]⟩]) .ret) .skip))) (.reg [⟨⟨some 10,.move (.tmp 5),none⟩,[]⟩,
  ⟨⟨some 11,.binOp .add 3 (.tmp 10) (.const (.int .i64 1)) 3,none⟩,[]⟩,
  ⟨⟨some 5,.assign (.tmp 11),none⟩,[]⟩])))))) (.seq (.reg [⟨⟨some 4,.assign (.const (.bool true)),none⟩,[]⟩]) .ret)))
theorem in173:InT Tryz.prog 173 2 [.tmp 4] cd173:=InT.mk (by kernel_rfl) [] Tryz.func173 rfl (by kernel_rfl) (by kernel_rfl) (of_decide_eq_true (by kernel_rfl)) (by kernel_rfl)
def cd186:Cd:=(.seq (.reg [⟨⟨some 4,.assign (.const (.bool false)),none⟩,[]⟩]) (.seq (.reg [⟨⟨some 7,.move (.tmp 1),none⟩,[]⟩,⟨⟨some 8,.binOp .quo 3 (.tmp 7) (.const (.int .i64 10)) 3,none⟩,[]⟩,⟨⟨some 9,.move (.tmp 1),none⟩,[]⟩,⟨⟨some 10,.binOp .rem 3 (.tmp 9) (.const (.int .i64 10)) 3,none⟩,[]⟩,⟨⟨some 5,.assign (.tmp 8),none⟩,[]⟩,⟨⟨some 6,.assign (.tmp 10),none⟩,[]⟩]) (.seq (.reg [⟨⟨some 11,.move (.tmp 1),none⟩,[]⟩,⟨⟨some 12,.binOp .geq 3 (.tmp 11) (.const (.int .i64 0)) 3,none⟩,[]⟩,⟨⟨some 13,.move (.tmp 12),none⟩,[]⟩,⟨⟨some 14,.move (.tmp 6),some (13,true)⟩,[]⟩,⟨⟨some 15,.move (.tmp 0),some (13,true)⟩,[]⟩,⟨⟨some 16,.binOp .lss 3 (.tmp 14) (.tmp 15) 3,some (13,true)⟩,[]⟩,⟨⟨some 17,.pick (.tmp 13) (.tmp 16) (.const (.bool false)),none⟩,[]⟩,
 ⟨⟨some 18,.move (.tmp 17),none⟩,[]⟩,⟨⟨some 19,.move (.tmp 6),some (18,true)⟩,[]⟩,⟨⟨some 20,.move (.tmp 5),some (18,true)⟩,[]⟩,⟨⟨some 21,.binOp .sub 3 (.tmp 19) (.tmp 20) 3,some (18,true)⟩,[]⟩,⟨⟨some 22,.binOp .gtr 3 (.tmp 21) (.const (.int .i64 1)) 3,some (18,true)⟩,[]⟩,⟨⟨some 23,.pick (.tmp 18) (.tmp 22) (.const (.bool false)),none⟩,[]⟩,⟨⟨some 24,.move (.tmp 23),none⟩,[]⟩,⟨⟨some 25,.move (.tmp 5),some (24,true)⟩,[]⟩,⟨⟨some 26,.binOp .eql 3 (.tmp 25) (.const (.int .i64 0)) 3,some (24,true)⟩,[]⟩,⟨⟨some 27,.move (.tmp 26),some (24,true)⟩,[]⟩,⟨⟨some 28,.move (.tmp 6),some (27,true)⟩,[]⟩,⟨⟨some 29,.move (.tmp 0),some (27,true)⟩,[]⟩,
 ⟨⟨some 30,.binOp .sub 3 (.tmp 29) (.const (.int .i64 1)) 3,some (27,true)⟩,[]⟩,
  ⟨⟨some 31,.binOp .eql 3 (.tmp 28) (.tmp 30) 3,some (27,true)⟩,[]⟩,
  ⟨⟨some 32,.pick (.tmp 27) (.tmp 31) (.const (.bool false)),some (24,true)⟩,[]⟩,
  ⟨⟨some 33,.unOp .not 4 (.tmp 32),some (24,true)⟩,[]⟩,
  ⟨⟨some 34,.pick (.tmp 24) (.tmp 33) (.const (.bool false)),none⟩,[]⟩,
  ⟨⟨some 4,.assign (.tmp 34),none⟩,[]⟩]) .ret)))
theorem in186:InT Tryz.prog 186 2 [.tmp 4] cd186:=InT.mk (by kernel_rfl) [] Tryz.func186 rfl (by kernel_rfl) (by kernel_rfl) (of_decide_eq_true (by kernel_rfl)) (by kernel_rfl)
end Go.Proofs.YtjnefjchconebaaGreat.Ai
namespace Go.Proofs.YtjnefjchconebaaGreat.Ai
open Go Go.RowKit
theorem I64.tdiv {x:Int}(h:I64 x):IntKind.i64.wrap (x.tdiv 10)=x.tdiv 10:=by
  obtain ⟨h1,h2⟩:=h
  have hle:(x.tdiv 10).natAbs<=x.natAbs:=by rw [Int.natAbs_tdiv];exact Nat.div_le_self _ _
  by_cases h0:0<=x
  . have:=Int.tdiv_nonneg h0 (by decide:(0:Int)<=10)
    exact wrap64 (by omega) (by omega)
  . rw [IntKind.wrap_i64]
    have:(x.tdiv 10).natAbs<=922337203685477580:=by
      rw [Int.natAbs_tdiv]
      show x.natAbs / 10<=_
      omega
    omega
def Crs (x y:Int):Prop:=x.tdiv 10<y.tdiv 10/\y.tdiv 10<x.tmod 10/\x.tmod 10<y.tmod 10∨y.tdiv 10<x.tdiv 10/\x.tdiv 10<y.tmod 10/\y.tmod 10<x.tmod 10
instance (x y:Int):Decidable (Crs x y):=inferInstanceAs (Decidable (_∨_))
theorem l8Cross_c (x y:Int)(H:AH)(hx:I64 x)(hy:I64 y):ACalls Tryz.prog 108 [.int .i64 x,.int .i64 y] H fun r H'=>r=.bool (decide (Crs x y))/\H=H':=by
  refine in108 rfl ?_
  intro Q hQ
  simp (maxSteps:=1000000) (disch:=omega) only [cd108,hx.tdiv,hy.tdiv,SS,eq_self,reduceIte,reduceCtorEq,Nat.reduceEqDiff,Nat.reduceAdd]
  repeat' (first | (refine brD.intro (fun h=>?_) (fun h=>?_) <;> simp (maxSteps:=1000000) (disch:=omega) only [h,SS,eq_self,reduceIte,reduceCtorEq,Nat.reduceEqDiff,Nat.reduceAdd]) | (refine hQ _ _ _ ?_;simp (maxSteps:=1000000) (disch:=omega) only [SS,eq_self,reduceIte,reduceCtorEq,Nat.reduceEqDiff,Nat.reduceAdd]))
  all_goals (by_cases hC:Crs x y <;> simp [hC] <;> unfold Crs at hC <;> omega)
theorem cross_c (x y:Int)(H:AH)(hx:I64 x)(hy:I64 y):ACalls Tryz.prog 107 [.int .i64 x,.int .i64 y] H fun r H'=>r=.bool (decide (Crs x y))/\H=H':=by
  refine in107 rfl ?_
  intro Q hQ
  simp (maxSteps:=1000000) (disch:=omega) only [cd107,hx.tdiv,hy.tdiv,SS,eq_self,reduceIte,reduceCtorEq,Nat.reduceEqDiff,Nat.reduceAdd]
  repeat' (first | (refine brD.intro (fun h=>?_) (fun h=>?_) <;> simp (maxSteps:=1000000) (disch:=omega) only [h,SS,eq_self,reduceIte,reduceCtorEq,Nat.reduceEqDiff,Nat.reduceAdd]) | (refine hQ _ _ _ ?_;simp (maxSteps:=1000000) (disch:=omega) only [SS,eq_self,reduceIte,reduceCtorEq,Nat.reduceEqDiff,Nat.reduceAdd]))
  all_goals (by_cases hC:Crs x y <;> simp [hC] <;> unfold Crs at hC <;> omega)
theorem IndexFunc_c (v:Value)(xs:List Int)(p:Int->Bool)(g:FuncId)(caps:List Value)(H:AH)(hr:Row 3 H v xs)(hlen:xs.length<=1099511627776)
    (hp:∀ x ∈ xs,ACalls Tryz.prog g (.int .i64 x :: caps) H fun r H'=>r=.bool (p x)/\H=H') :
    ACalls Tryz.prog 185 [v,.func (.func g) #[] (List.toArray caps)] H fun r H'=>r=.int .i64 (idxP p xs 0)/\H=H':=by
  refine in185 rfl ?_
  intro Q hQ
  simp (maxSteps:=1000000) (disch:=omega) only [cd185,hr.len Tryz.underlying27,SS,eq_self,reduceIte,reduceCtorEq,Nat.reduceEqDiff,Nat.reduceAdd]
  refine LoopH.by (fun m s H'=>∃ i,m+i=xs.length/\s 0=v/\s 1=.func (.func g) #[] (List.toArray caps)/\s 8=.int .i64 ((i:Nat):Int)/\s 7=.int .i64 (xs.length:Int)/\H=H'/\idxP p xs 0=idxP p (xs.drop i) i) xs.length ?_ ?_
  . exact ⟨0,by simp,rfl,rfl,rfl,rfl,rfl,by simp⟩
  . rintro m s H' ⟨i,hm,h0,h1,h8,h7,rfl,hn⟩
    simp (maxSteps:=1000000) (disch:=omega) only [h0,h1,h8,h7,SS,eq_self,reduceIte,reduceCtorEq,Nat.reduceEqDiff,Nat.reduceAdd]
    refine brD.intro (fun g=>?_) (fun g=>?_) <;> simp (maxSteps:=1000000) (disch:=omega) only [h0,h1,h8,h7,hr.ix Tryz.underlying27 cs3,hr.cell,Int.toNat_natCast,SS,eq_self,reduceIte,reduceCtorEq,Nat.reduceEqDiff,Nat.reduceAdd]
    . have hi:i<xs.length:=by omega
      have hg:xs.getD i 0=xs[i]:=by simp [hi]
      rw [idxP_step p xs i hi] at hn
      refine CallH.by (hp (xs.getD i 0) (by rw [hg];exact List.getElem_mem hi)) ?_
      rintro _ _ ⟨rfl,rfl⟩
      simp (maxSteps:=1000000) (disch:=omega) only [SS,eq_self,reduceIte,reduceCtorEq,Nat.reduceEqDiff,Nat.reduceAdd]
      refine brH.intro (fun e=>?_) (fun e=>?_) <;> simp (maxSteps:=1000000) (disch:=omega) only [h0,h1,h8,h7,wrap64,SS,eq_self,reduceIte,reduceCtorEq,Nat.reduceEqDiff,Nat.reduceAdd]
      . refine hQ _ _ _ ?_
        simp (maxSteps:=1000000) (disch:=omega) only [SS,eq_self,reduceIte,reduceCtorEq,Nat.reduceEqDiff,Nat.reduceAdd]
        rw [hn,if_pos e]
      . rw [if_neg (by rw [e];decide)] at hn
        exact ⟨m - 1,by omega,i+1,by omega,by simp,hn⟩
    . refine hQ _ _ _ ?_
      simp (maxSteps:=1000000) (disch:=omega) only [SS,eq_self,reduceIte,reduceCtorEq,Nat.reduceEqDiff,Nat.reduceAdd]
      rw [hn,List.drop_of_length_le (by omega)];rfl
theorem ContainsFunc_c (v:Value)(xs:List Int)(p:Int->Bool)(g:FuncId)(caps:List Value)(H:AH)(hr:Row 3 H v xs)(hlen:xs.length<=1099511627776)
    (hp:∀ x ∈ xs,ACalls Tryz.prog g (.int .i64 x :: caps) H fun r H'=>r=.bool (p x)/\H=H') :
    ACalls Tryz.prog 190 [v,.func (.func g) #[] (List.toArray caps)] H fun r H'=>r=.bool (xs.any p)/\H=H':=by
  refine in190 rfl ?_
  intro Q hQ
  simp (maxSteps:=1000000) (disch:=omega) only [cd190,SS,eq_self,reduceIte,reduceCtorEq,Nat.reduceEqDiff,Nat.reduceAdd]
  refine CallH.by (IndexFunc_c v xs p g caps H hr hlen hp) ?_
  rintro _ _ ⟨rfl,rfl⟩
  simp (maxSteps:=1000000) (disch:=omega) only [SS,eq_self,reduceIte,reduceCtorEq,Nat.reduceEqDiff,Nat.reduceAdd]
  refine hQ _ _ _ ?_
  simp (maxSteps:=1000000) (disch:=omega) only [SS,eq_self,reduceIte,reduceCtorEq,Nat.reduceEqDiff,Nat.reduceAdd]
  have:=idxP_any p xs 0
  by_cases h:0<=idxP p xs 0
  . simp [h,this.1 h]
  . have h2:xs.any p=false:=by cases e:xs.any p <;> first | rfl | exact absurd (this.2 e) h
    simp [h,h2]
theorem l8Apart_c (v:Value)(xs:List Int)(x:Int)(H:AH)(hr:Row 3 H v xs)(hlen:xs.length<=1099511627776)(hxs:∀ y ∈ xs,I64 y)(hx:I64 x) :
    ACalls Tryz.prog 173 [v,.int .i64 x] H fun r H'=>r=.bool (!xs.any fun y=>decide (Crs y x))/\H=H':=by
  refine in173 rfl ?_
  intro Q hQ
  simp (maxSteps:=1000000) (disch:=omega) only [cd173,SS,eq_self,reduceIte,reduceCtorEq,Nat.reduceEqDiff,Nat.reduceAdd]
  refine LoopH.by (fun m s H'=>∃ i,m+i=xs.length/\s 0=v/\s 1=.int .i64 x/\s 5=.int .i64 ((i:Nat):Int)/\H=H'/\(xs.any fun y=>decide (Crs y x))=((xs.drop i).any fun y=>decide (Crs y x))) xs.length ?_ ?_
  . exact ⟨0,by simp,rfl,rfl,rfl,rfl,by simp⟩
  . rintro m s H' ⟨i,hm,h0,h1,h5,rfl,hn⟩
    simp (maxSteps:=1000000) (disch:=omega) only [h0,h1,h5,hr.len Tryz.underlying27,SS,eq_self,reduceIte,reduceCtorEq,Nat.reduceEqDiff,Nat.reduceAdd]
    refine brD.intro (fun g=>?_) (fun g=>?_) <;> simp (maxSteps:=1000000) (disch:=omega) only [h0,h1,h5,hr.ix Tryz.underlying27 cs3,hr.cell,Int.toNat_natCast,SS,eq_self,reduceIte,reduceCtorEq,Nat.reduceEqDiff,Nat.reduceAdd]
    . have hi:i<xs.length:=by omega
      have hg:xs.getD i 0=xs[i]:=by simp [hi]
      rw [List.drop_eq_getElem_cons hi,List.any_cons,<- hg] at hn
      refine CallH.by (l8Cross_c _ _ _ (by rw [hg];exact hxs _ (List.getElem_mem hi)) hx) ?_
      rintro _ _ ⟨rfl,rfl⟩
      simp (maxSteps:=1000000) (disch:=omega) only [SS,eq_self,reduceIte,reduceCtorEq,Nat.reduceEqDiff,Nat.reduceAdd]
      refine brD.intro (fun e=>?_) (fun e=>?_) <;> simp (maxSteps:=1000000) (disch:=omega) only [h0,h1,h5,wrap64,SS,eq_self,reduceIte,reduceCtorEq,Nat.reduceEqDiff,Nat.reduceAdd]
      . refine hQ _ _ _ ?_
        simp (maxSteps:=1000000) (disch:=omega) only [SS,eq_self,reduceIte,reduceCtorEq,Nat.reduceEqDiff,Nat.reduceAdd]
        rw [hn,decide_eq_true e,Bool.true_or];rfl
      . refine ⟨m - 1,by omega,i+1,by omega,by simp,?_⟩
        rw [hn,decide_eq_false e,Bool.false_or]
    . refine hQ _ _ _ ?_
      simp (maxSteps:=1000000) (disch:=omega) only [SS,eq_self,reduceIte,reduceCtorEq,Nat.reduceEqDiff,Nat.reduceAdd]
      rw [hn,List.drop_of_length_le (by omega)];rfl
def Diag (n d:Int):Prop:=0<=d/\d.tmod 10<n/\1<d.tmod 10 - d.tdiv 10/\¬ (d.tdiv 10=0/\d.tmod 10=n - 1)
instance (n d:Int):Decidable (Diag n d):=inferInstanceAs (Decidable (_/\_))
theorem tmod_small (d:Int) : -10<d.tmod 10/\d.tmod 10<10:=by
  have h1:=Int.tmod_lt_of_pos d (by decide:(0:Int)<10)
  have h2 : -10<d.tmod 10:=by
    have:=Int.lt_tmod_of_pos d (by decide:(0:Int)<10)
    omega
  exact ⟨h2,h1⟩
theorem I64.tdiv_small {x:Int}(h:I64 x) : -922337203685477580<=x.tdiv 10/\x.tdiv 10<=922337203685477580:=by
  obtain ⟨h1,h2⟩:=h
  have:(x.tdiv 10).natAbs<=922337203685477580:=by
    rw [Int.natAbs_tdiv]
    show x.natAbs / 10<=_
    omega
  omega
theorem isDiagonal_c (n d:Int)(H:AH)(hn:0<=n/\n<=100)(hd:I64 d):ACalls Tryz.prog 186 [.int .i64 n,.int .i64 d] H fun r H'=>r=.bool (decide (Diag n d))/\H=H':=by
  refine in186 rfl ?_
  intro Q hQ
  have b1:=tmod_small d
  have b2:=hd.tdiv_small
  simp (maxSteps:=1000000) (disch:=omega) only [cd186,hd.tdiv,wrap64,SS,eq_self,reduceIte,reduceCtorEq,Nat.reduceEqDiff,Nat.reduceAdd]
  repeat' (first | (refine brD.intro (fun h=>?_) (fun h=>?_) <;> simp (maxSteps:=1000000) (disch:=omega) only [h,wrap64,SS,eq_self,reduceIte,reduceCtorEq,Nat.reduceEqDiff,Nat.reduceAdd]) | (refine hQ _ _ _ ?_;simp (maxSteps:=1000000) (disch:=omega) only [SS,eq_self,reduceIte,reduceCtorEq,Nat.reduceEqDiff,Nat.reduceAdd]))
  all_goals (by_cases hC:Diag n d <;> simp [hC] <;> unfold Diag at hC <;> omega)
def cd213:Cd:=(.seq (.reg [⟨⟨some 3,.assign (.const (.bool false)),none⟩,[]⟩]) (.seq (.reg [⟨⟨some 4,.load 3 (.tmp 1),none⟩,[]⟩,
  ⟨⟨some 5,.move (.tmp 0),none⟩,[]⟩,
  ⟨⟨some 6,.call ⟨(.value (.func 107)),#[.tmp 4,.tmp 5],#[3,3]⟩,none⟩,[]⟩,
  ⟨⟨some 3,.assign (.tmp 6),none⟩,[]⟩]) .ret))
theorem in213:InT Tryz.prog 213 2 [.tmp 3] cd213:=InT.mk (by kernel_rfl) [] Tryz.func213 rfl (by kernel_rfl) (by kernel_rfl) (of_decide_eq_true (by kernel_rfl)) (by kernel_rfl)
def cd177:Cd:=(.seq (.reg [⟨⟨some 4,.assign (.const (.bool false)),none⟩,[]⟩]) (.seq (.seq (.reg [⟨⟨some 7,.move (.tmp 1),none⟩,[]⟩,⟨⟨some 8,.call ⟨(.builtin .len),#[.tmp 7],#[27]⟩,none⟩,[]⟩,⟨⟨some 9,.move (.tmp 0),none⟩,[]⟩,⟨⟨some 10,.binOp .sub 3 (.tmp 9) (.const (.int .i64 3)) 3,none⟩,[]⟩,⟨⟨some 11,.binOp .neq 3 (.tmp 8) (.tmp 10) 3,none⟩,[]⟩]) (.cond (.tmp 11) (.seq (.reg [⟨⟨some 4,.assign (.const (.bool false)),none⟩,[]⟩]) .ret) .skip)) (.seq (.seq (.reg [⟨⟨some 12,.move (.tmp 1),none⟩,[]⟩,⟨⟨some 13,.call ⟨(.builtin .len),#[.tmp 12],#[27]⟩,none⟩,[]⟩,⟨⟨some 14,.move (.const (.int .i64 0)),none⟩,[]⟩]) (.block 0 (.loop (.seq (.reg [⟨⟨some 15,.binOp .lss 3 (.tmp 14) (.tmp 13) 3,none⟩,[]⟩]) (.seq (.cond (.tmp 15) .skip (.exit 0)) (.seq (.block 1 (.seq (.reg [⟨⟨some 16,.move (.tmp 14),none⟩,[]⟩,⟨⟨some 17,.indexAddr 27 (.tmp 12) (.tmp 14),none⟩,[]⟩,⟨⟨some 18,.load 3 (.tmp 17),none⟩,[]⟩,⟨⟨some 6,.alloc 3,none⟩,[]⟩,⟨⟨some 5,.assign (.tmp 16),none⟩,[]⟩,⟨⟨none,.store 3 (.tmp 6) (.tmp 18),none⟩,[]⟩]) (.seq (.reg [⟨⟨some 19,.move (.tmp 0),none⟩,[]⟩,
 ⟨⟨some 20,.load 3 (.tmp 6),none⟩,[]⟩,⟨⟨some 21,.call ⟨(.value (.func 186)),#[.tmp 19,.tmp 20],#[3,3]⟩,none⟩,[]⟩,⟨⟨some 22,.unOp .not 4 (.tmp 21),none⟩,[]⟩,⟨⟨some 23,.move (.tmp 22),none⟩,[]⟩,⟨⟨some 24,.move (.tmp 5),some (23,false)⟩,[]⟩,⟨⟨some 25,.binOp .gtr 3 (.tmp 24) (.const (.int .i64 0)) 3,some (23,false)⟩,[]⟩,⟨⟨some 26,.move (.tmp 25),some (23,false)⟩,[]⟩,⟨⟨some 27,.load 3 (.tmp 6),some (26,true)⟩,[]⟩,⟨⟨some 28,.move (.tmp 1),some (26,true)⟩,[]⟩,⟨⟨some 29,.move (.tmp 5),some (26,true)⟩,[]⟩,⟨⟨some 30,.binOp .sub 3 (.tmp 29) (.const (.int .i64 1)) 3,some (26,true)⟩,[]⟩,⟨⟨some 31,.indexAddr 27 (.tmp 28) (.tmp 30),some (26,true)⟩,[]⟩,
 ⟨⟨some 32,.load 3 (.tmp 31),some (26,true)⟩,[]⟩,
  ⟨⟨some 33,.binOp .leq 3 (.tmp 27) (.tmp 32) 3,some (26,true)⟩,[]⟩,
  ⟨⟨some 34,.pick (.tmp 26) (.tmp 33) (.const (.bool false)),some (23,false)⟩,[]⟩,
  ⟨⟨some 35,.pick (.tmp 23) (.const (.bool true)) (.tmp 34),none⟩,[]⟩,
  ⟨⟨some 36,.move (.tmp 35),none⟩,[]⟩,
  ⟨⟨some 37,.move (.tmp 1),some (36,false)⟩,[]⟩,
  ⟨⟨some 38,.move (.tmp 5),some (36,false)⟩,[]⟩,
  ⟨⟨some 39,.slice 27 (.tmp 37) none (some (.tmp 38)) none,some (36,false)⟩,[]⟩,
  ⟨⟨some 40,.makeFunc (Fn.func 213) #[] #[.tmp 6],some (36,false)⟩,[]⟩,
  ⟨⟨some 41,.call ⟨(.value (.func 190)),#[.tmp 39,.tmp 40],#[27,98]⟩,some (36,false)⟩,[]⟩,
  ⟨⟨some 42,.pick (.tmp 36) (.const (.bool true)) (.tmp 41),none⟩,[]⟩]) (.cond (.tmp 42) (.seq (.reg [⟨⟨some 4,.assign (.const (.bool false)),none⟩,[]⟩]) .ret) .skip)))) (.reg [⟨⟨some 43,.binOp .add 3 (.tmp 14) (.const (.int .i64 1)) 3,none⟩,[]⟩,
  ⟨⟨some 14,.move (.tmp 43),none⟩,[]⟩]))))))) (.seq (.reg [⟨⟨some 4,.assign (.const (.bool true)),none⟩,[]⟩]) .ret))))
theorem in177:InT Tryz.prog 177 2 [.tmp 4] cd177:=InT.mk (by kernel_rfl) [(6,[(0,false),(1,false),(2,true),(3,false),(4,false),(5,false),(6,false),(7,false),(8,false),(9,false),(10,false),(11,false),(12,false),(13,false),(14,false),(15,false),(16,false),(17,false),(18,false),(19,false),(20,false),(21,false),(22,true),(23,false)])] Tryz.func177 rfl (by kernel_rfl) (by kernel_rfl) (of_decide_eq_true (by kernel_rfl)) (by kernel_rfl)
end Go.Proofs.YtjnefjchconebaaGreat.Ai
namespace Go.Proofs.YtjnefjchconebaaGreat.Ai
open Go Go.RowKit
theorem alloc_int (H:AH):allocA Tryz.prog 3 H=some (.pointer (some ⟨H.length,0,none⟩),H ++ [.cells [.int .i64 0] 3 false]):=by kernel_rfl
theorem store_int (H:AH)(x y:Int):storeA Tryz.prog 3 (.pointer (some ⟨H.length,0,none⟩)) (.int .i64 x) (H ++ [.cells [.int .i64 y] 3 false])=some (H ++ [.cells [.int .i64 x] 3 false]) :=
  st_new rfl (by rw [cs3];rfl) (by rw [cs3];decide) (by rw [cs3];rfl)
theorem mkf_p (f:Fn)(p:Option Addr):makeFuncA f [] [.pointer p]=some (.func f #[] (List.toArray [.pointer p])):=rfl
theorem triClos_c (d e:Int)(o:Nat)(H:AH)(hd:I64 d)(he:I64 e)(ho:cellA H o 0=some (.int .i64 d)):ACalls Tryz.prog 213 [.int .i64 e,.pointer (some ⟨o,0,none⟩)] H fun r H'=>r=.bool (decide (Crs d e))/\H=H':=by
  refine in213 rfl ?_
  intro Q hQ
  simp (maxSteps:=1000000) (disch:=omega) only [cd213,ho,SS,eq_self,reduceIte,reduceCtorEq,Nat.reduceEqDiff,Nat.reduceAdd]
  refine CallH.by (cross_c d e H hd he) ?_
  rintro _ _ ⟨rfl,rfl⟩
  simp (maxSteps:=1000000) (disch:=omega) only [SS,eq_self,reduceIte,reduceCtorEq,Nat.reduceEqDiff,Nat.reduceAdd]
  refine hQ _ _ _ ?_
  simp (maxSteps:=1000000) (disch:=omega) only [SS,eq_self,reduceIte,reduceCtorEq,Nat.reduceEqDiff,Nat.reduceAdd]
def triOk (n:Int)(xs:List Int)(i:Nat):Bool:=decide (Diag n (xs.getD i 0)) && (decide (i=0) || decide (xs.getD (i - 1) 0<xs.getD i 0)) && !(xs.take i).any fun e=>decide (Crs (xs.getD i 0) e)
def triI (n:Int)(xs:List Int):Bool:=decide ((xs.length:Int)=n - 3) && (List.range xs.length).all (triOk n xs)
theorem isTriangulation_c (n:Int)(v:Value)(xs:List Int)(H:AH)(hn:0<=n/\n<=100)(hr:Row 3 H v xs)(hlen:xs.length<=1099511627776)(hxs:∀ y ∈ xs,I64 y) :
    ACalls Tryz.prog 177 [.int .i64 n,v] H fun r H'=>r=.bool (triI n xs)/\H<+:H':=by
  refine in177 rfl ?_
  intro Q hQ
  simp (maxSteps:=1000000) (disch:=omega) only [cd177,hr.len Tryz.underlying27,wrap64,SS,eq_self,reduceIte,reduceCtorEq,Nat.reduceEqDiff,Nat.reduceAdd]
  refine brD.intro (fun g=>?_) (fun g=>?_) <;> simp (maxSteps:=1000000) (disch:=omega) only [hr.len Tryz.underlying27,SS,eq_self,reduceIte,reduceCtorEq,Nat.reduceEqDiff,Nat.reduceAdd]
  . refine hQ _ _ _ ?_
    simp (maxSteps:=1000000) (disch:=omega) only [triI,g,decide_false,Bool.false_and,SS,eq_self,reduceIte,reduceCtorEq,Nat.reduceEqDiff,Nat.reduceAdd]
    exact List.prefix_refl _
  . have g':(xs.length:Int)=n - 3:=by omega
    refine LoopH.by (fun m s H'=>∃ i,m+i=xs.length/\s 0=.int .i64 n/\s 1=v/\s 12=v/\s 13=.int .i64 (xs.length:Int)/\s 14=.int .i64 ((i:Nat):Int)/\H<+:H'/\∀ j,j<i->triOk n xs j=true) xs.length ?_ ?_
    . exact ⟨0,by simp,rfl,rfl,rfl,rfl,rfl,List.prefix_refl _,by omega⟩
    . rintro m s H' ⟨i,hm,h0,h1,h12,h13,h14,hp,hj⟩
      have hr':=hr.pre hp
      simp (maxSteps:=1000000) (disch:=omega) only [h0,h1,h12,h13,h14,SS,eq_self,reduceIte,reduceCtorEq,Nat.reduceEqDiff,Nat.reduceAdd]
      refine brD.intro (fun g=>?_) (fun g=>?_) <;> simp (maxSteps:=1000000) (disch:=omega) only [h0,h1,h12,h13,h14,hr'.ix Tryz.underlying27 cs3,hr'.cell,Int.toNat_natCast,alloc_int,store_int,cell_new,SS,eq_self,reduceIte,reduceCtorEq,Nat.reduceEqDiff,Nat.reduceAdd]
      . have hi:i<xs.length:=by omega
        have hx:xs.getD i 0=xs[i]:=by simp [hi]
        have hI:I64 (xs.getD i 0):=by rw [hx];exact hxs _ (List.getElem_mem hi)
        have bad:triOk n xs i=false->triI n xs=false:=by
          intro hb
          have:(List.range xs.length).all (triOk n xs)=false:=by
            rw [List.all_eq_false]
            exact ⟨i,List.mem_range.2 hi,by simp [hb]⟩
          simp [triI,this]
        generalize hH2:H' ++ [AObj.cells [.int .i64 (xs.getD i 0)] 3 false]=H2
        have hr2:Row 3 H2 v xs:=hH2 ▸ hr'.pre (List.prefix_append _ _)
        have hp2:H<+:H2:=hH2 ▸ pre_app hp _
        have hc2:cellA H2 H'.length 0=some (.int .i64 (xs.getD i 0)):=by rw [<- hH2,cell_new];rfl
        have hs2:=hr2.slice Tryz.underlying27 cs3 (lo:=none) (hi:=some (.int .i64 (i:Int))) lo_none (bound_some (by omega) _) (by omega) (by omega)
        have hlast:∀ j,j<xs.length->i - 1=j->xs.getD (i - 1) 0=xs.getD j 0:=fun j _ e=>by rw [e]
        have hpred:((i:Int) - 1).toNat=i - 1:=by omega
        refine CallH.by (isDiagonal_c n _ _ hn hI) ?_
        rintro _ _ ⟨rfl,rfl⟩
        simp (maxSteps:=1000000) (disch:=omega) only [h0,h1,h12,h13,h14,SS,eq_self,reduceIte,reduceCtorEq,Nat.reduceEqDiff,Nat.reduceAdd]
        refine brD.intro (fun gd=>?_) (fun gd=>?_) <;> simp (maxSteps:=1000000) (disch:=omega) only [gd,h0,h1,h12,h13,h14,wrap64,hc2,hr2.ix Tryz.underlying27 cs3,hr2.cell,hpred,hs2.1,mkf_p,SS,eq_self,reduceIte,reduceCtorEq,Nat.reduceEqDiff,Nat.reduceAdd]
        . refine brD.intro (fun gi=>?_) (fun gi=>?_) <;> simp (maxSteps:=1000000) (disch:=omega) only [gd,gi,h0,h1,h12,h13,h14,wrap64,hc2,hr2.ix Tryz.underlying27 cs3,hr2.cell,hpred,hs2.1,mkf_p,SS,eq_self,reduceIte,reduceCtorEq,Nat.reduceEqDiff,Nat.reduceAdd]
          . refine brD.intro (fun gl=>?_) (fun gl=>?_) <;> simp (maxSteps:=1000000) (disch:=omega) only [gd,gi,gl,h0,h1,h12,h13,h14,wrap64,hc2,hr2.ix Tryz.underlying27 cs3,hr2.cell,hpred,hs2.1,mkf_p,SS,eq_self,reduceIte,reduceCtorEq,Nat.reduceEqDiff,Nat.reduceAdd]
            . refine hQ _ _ _ ?_
              simp (maxSteps:=1000000) (disch:=omega) only [SS,eq_self,reduceIte,reduceCtorEq,Nat.reduceEqDiff,Nat.reduceAdd]
              refine ⟨?_,hp2⟩
              rw [bad]
              have:¬ xs.getD (i - 1) 0<xs.getD i 0:=by omega
              simp only [triOk,gd,this,show ¬ i=0 from by omega,decide_true,decide_false,Bool.or_false,Bool.and_false,Bool.false_and]
            . refine CallH.by (ContainsFunc_c _ _ (fun e=>decide (Crs (xs.getD i 0) e)) _ _ H2 hs2.2.1 (by simp;omega) ?_) ?_
              . intro e he
                exact triClos_c _ _ _ _ hI (hxs e (List.mem_of_mem_drop (List.mem_of_mem_take he))) hc2
              rintro _ _ ⟨rfl,rfl⟩
              simp (maxSteps:=1000000) (disch:=omega) only [gd,gi,gl,h0,h1,h12,h13,h14,wrap64,hc2,hr2.ix Tryz.underlying27 cs3,hr2.cell,hpred,hs2.1,mkf_p,SS,eq_self,reduceIte,reduceCtorEq,Nat.reduceEqDiff,Nat.reduceAdd]
              refine brH.intro (fun ga=>?_) (fun ga=>?_) <;> simp (maxSteps:=1000000) (disch:=omega) only [gd,gi,gl,h0,h1,h12,h13,h14,wrap64,hc2,hr2.ix Tryz.underlying27 cs3,hr2.cell,hpred,hs2.1,mkf_p,SS,eq_self,reduceIte,reduceCtorEq,Nat.reduceEqDiff,Nat.reduceAdd]
              . refine hQ _ _ _ ?_
                simp (maxSteps:=1000000) (disch:=omega) only [SS,eq_self,reduceIte,reduceCtorEq,Nat.reduceEqDiff,Nat.reduceAdd]
                refine ⟨?_,hp2⟩
                rw [bad]
                simp only [Int.toNat_natCast,List.drop_zero,Nat.sub_zero] at ga
                simp only [triOk,ga,Bool.not_true,Bool.and_false]
              . refine ⟨m - 1,by omega,i+1,by omega,by simp,hp2,?_⟩
                intro j hjj
                by_cases e:j=i
                . subst e
                  simp only [Int.toNat_natCast,List.drop_zero,Nat.sub_zero] at ga
                  simp only [triOk,ga,gd,decide_true,Bool.true_and,Bool.not_false,Bool.and_true]
                  have:xs.getD (j - 1) 0<xs.getD j 0:=by omega
                  simp only [this,decide_true,Bool.or_true]
                . exact hj j (by omega)
          . refine CallH.by (ContainsFunc_c _ _ (fun e=>decide (Crs (xs.getD i 0) e)) _ _ H2 hs2.2.1 (by simp;omega) ?_) ?_
            . intro e he
              exact triClos_c _ _ _ _ hI (hxs e (List.mem_of_mem_drop (List.mem_of_mem_take he))) hc2
            rintro _ _ ⟨rfl,rfl⟩
            simp (maxSteps:=1000000) (disch:=omega) only [gd,gi,h0,h1,h12,h13,h14,wrap64,hc2,hr2.ix Tryz.underlying27 cs3,hr2.cell,hpred,hs2.1,mkf_p,SS,eq_self,reduceIte,reduceCtorEq,Nat.reduceEqDiff,Nat.reduceAdd]
            refine brH.intro (fun ga=>?_) (fun ga=>?_) <;> simp (maxSteps:=1000000) (disch:=omega) only [gd,gi,h0,h1,h12,h13,h14,wrap64,hc2,hr2.ix Tryz.underlying27 cs3,hr2.cell,hpred,hs2.1,mkf_p,SS,eq_self,reduceIte,reduceCtorEq,Nat.reduceEqDiff,Nat.reduceAdd]
            . refine hQ _ _ _ ?_
              simp (maxSteps:=1000000) (disch:=omega) only [SS,eq_self,reduceIte,reduceCtorEq,Nat.reduceEqDiff,Nat.reduceAdd]
              refine ⟨?_,hp2⟩
              rw [bad]
              simp only [Int.toNat_natCast,List.drop_zero,Nat.sub_zero] at ga
              simp only [triOk,ga,Bool.not_true,Bool.and_false]
            . refine ⟨m - 1,by omega,i+1,by omega,by simp,hp2,?_⟩
              intro j hjj
              by_cases e:j=i
              . subst e
                simp only [Int.toNat_natCast,List.drop_zero,Nat.sub_zero] at ga
                simp only [triOk,ga,gd,decide_true,Bool.true_and,Bool.not_false,Bool.and_true]
                simp only [show j=0 from by omega,decide_true,Bool.true_or]
              . exact hj j (by omega)
        . refine hQ _ _ _ ?_
          simp (maxSteps:=1000000) (disch:=omega) only [SS,eq_self,reduceIte,reduceCtorEq,Nat.reduceEqDiff,Nat.reduceAdd]
          refine ⟨?_,hp2⟩
          rw [bad]
          simp only [triOk,gd,decide_false,Bool.false_and]
      . refine hQ _ _ _ ?_
        simp (maxSteps:=1000000) (disch:=omega) only [SS,eq_self,reduceIte,reduceCtorEq,Nat.reduceEqDiff,Nat.reduceAdd]
        refine ⟨?_,hp⟩
        have:(List.range xs.length).all (triOk n xs)=true:=List.all_eq_true.2 fun j hj'=>hj j (by have:=List.mem_range.1 hj';omega)
        simp [triI,this,g']
def cd120:Cd:=(.seq (.reg [⟨⟨some 2,.assign (.const (.slice none 0 0)),none⟩,[]⟩]) (.seq (.reg [⟨⟨some 6,.buildSlice 27 0 #[],none⟩,[]⟩,⟨⟨some 3,.assign (.tmp 6),none⟩,[]⟩]) (.seq (.seq (.reg [⟨⟨some 4,.assign (.const (.int .i64 0)),none⟩,[]⟩]) (.block 0 (.loop (.seq (.seq (.reg [⟨⟨some 7,.move (.tmp 4),none⟩,[]⟩,⟨⟨some 8,.move (.tmp 0),none⟩,[]⟩,⟨⟨some 9,.binOp .lss 3 (.tmp 7) (.tmp 8) 3,none⟩,[]⟩]) (.cond (.tmp 9) .skip (.exit 0))) (.seq (.block 1 (.seq (.reg [⟨⟨some 12,.move (.tmp 4),none⟩,[]⟩,⟨⟨some 13,.binOp .add 3 (.tmp 12) (.const (.int .i64 2)) 3,none⟩,[]⟩,⟨⟨some 5,.assign (.tmp 13),none⟩,[]⟩]) (.block 2 (.loop (.seq (.seq (.reg [⟨⟨some 14,.move (.tmp 5),none⟩,[]⟩,⟨⟨some 15,.move (.tmp 0),none⟩,[]⟩,⟨⟨some 16,.binOp .lss 3 (.tmp 14) (.tmp 15) 3,none⟩,[]⟩]) (.cond (.tmp 16) .skip (.exit 2))) (.seq (.block 3 (.seq (.reg [⟨⟨some 19,.move (.tmp 4),none⟩,[]⟩,⟨⟨some 20,.binOp .gtr 3 (.tmp 19) (.const (.int .i64 0)) 3,none⟩,[]⟩,⟨⟨some 21,.move (.tmp 20),none⟩,[]⟩,⟨⟨some 22,.move (.tmp 5),some (21,false)⟩,[]⟩,⟨⟨some 23,.move (.tmp 0),some (21,false)⟩,[]⟩,
 ⟨⟨some 24,.binOp .sub 3 (.tmp 23) (.const (.int .i64 1)) 3,some (21,false)⟩,[]⟩,⟨⟨some 25,.binOp .lss 3 (.tmp 22) (.tmp 24) 3,some (21,false)⟩,[]⟩,⟨⟨some 26,.pick (.tmp 21) (.const (.bool true)) (.tmp 25),none⟩,[]⟩]) (.cond (.tmp 26) (.reg [⟨⟨some 27,.move (.tmp 3),none⟩,[]⟩,⟨⟨some 28,.move (.tmp 4),none⟩,[]⟩,⟨⟨some 29,.binOp .mul 3 (.const (.int .i64 10)) (.tmp 28) 3,none⟩,[]⟩,⟨⟨some 30,.move (.tmp 5),none⟩,[]⟩,⟨⟨some 31,.binOp .add 3 (.tmp 29) (.tmp 30) 3,none⟩,[]⟩,⟨⟨some 32,.buildSlice 27 1 #[(0,.tmp 31)],none⟩,[]⟩,⟨⟨some 33,.call ⟨(.builtin .append),#[.tmp 27,.tmp 32],#[27,27]⟩,none⟩,[]⟩,⟨⟨some 3,.assign (.tmp 33),none⟩,[]⟩]) .skip))) (.reg [⟨⟨some 17,.move (.tmp 5),none⟩,[]⟩,⟨⟨some 18,.binOp .add 3 (.tmp 17) (.const (.int .i64 1)) 3,none⟩,[]⟩,⟨⟨some 5,.assign (.tmp 18),none⟩,[]⟩]))))))) (.reg [⟨⟨some 10,.move (.tmp 4),none⟩,[]⟩,
 ⟨⟨some 11,.binOp .add 3 (.tmp 10) (.const (.int .i64 1)) 3,none⟩,[]⟩,
  ⟨⟨some 4,.assign (.tmp 11),none⟩,[]⟩])))))) (.seq (.reg [⟨⟨some 34,.move (.tmp 3),none⟩,[]⟩,
  ⟨⟨some 2,.assign (.tmp 34),none⟩,[]⟩]) .ret))))
theorem in120:InT Tryz.prog 120 1 [.tmp 2] cd120:=InT.mk (by kernel_rfl) [] Tryz.func120 rfl (by kernel_rfl) (by kernel_rfl) (of_decide_eq_true (by kernel_rfl)) (by kernel_rfl)
def cd179:Cd:=(.seq (.reg [⟨⟨some 4,.assign (.const (.bool false)),none⟩,[]⟩]) (.seq (.reg [⟨⟨some 7,.move (.tmp 0),none⟩,[]⟩,⟨⟨some 8,.call ⟨(.value (.func 120)),#[.tmp 7],#[3]⟩,none⟩,[]⟩,⟨⟨some 5,.assign (.tmp 8),none⟩,[]⟩]) (.seq (.seq (.reg [⟨⟨some 6,.assign (.const (.int .i64 0)),none⟩,[]⟩]) (.block 0 (.loop (.seq (.seq (.reg [⟨⟨some 9,.move (.tmp 6),none⟩,[]⟩,⟨⟨some 10,.move (.tmp 1),none⟩,[]⟩,⟨⟨some 11,.call ⟨(.builtin .len),#[.tmp 10],#[27]⟩,none⟩,[]⟩,⟨⟨some 12,.binOp .lss 3 (.tmp 9) (.tmp 11) 3,none⟩,[]⟩]) (.cond (.tmp 12) .skip (.exit 0))) (.seq (.block 1 (.seq (.reg [⟨⟨some 15,.move (.tmp 5),none⟩,[]⟩,⟨⟨some 16,.move (.tmp 1),none⟩,[]⟩,⟨⟨some 17,.move (.tmp 6),none⟩,[]⟩,⟨⟨some 18,.indexAddr 27 (.tmp 16) (.tmp 17),none⟩,[]⟩,⟨⟨some 19,.load 3 (.tmp 18),none⟩,[]⟩,⟨⟨some 20,.call ⟨(.value (.func 110)),#[.tmp 15,.tmp 19],#[27,3]⟩,none⟩,[]⟩,⟨⟨some 21,.unOp .not 4 (.tmp 20),none⟩,[]⟩,
 ⟨⟨some 22,.move (.tmp 21),none⟩,[]⟩,⟨⟨some 23,.move (.tmp 6),some (22,false)⟩,[]⟩,⟨⟨some 24,.binOp .gtr 3 (.tmp 23) (.const (.int .i64 0)) 3,some (22,false)⟩,[]⟩,⟨⟨some 25,.move (.tmp 24),some (22,false)⟩,[]⟩,⟨⟨some 26,.move (.tmp 1),some (25,true)⟩,[]⟩,⟨⟨some 27,.move (.tmp 6),some (25,true)⟩,[]⟩,⟨⟨some 28,.binOp .sub 3 (.tmp 27) (.const (.int .i64 1)) 3,some (25,true)⟩,[]⟩,⟨⟨some 29,.indexAddr 27 (.tmp 26) (.tmp 28),some (25,true)⟩,[]⟩,⟨⟨some 30,.load 3 (.tmp 29),some (25,true)⟩,[]⟩,⟨⟨some 31,.move (.tmp 1),some (25,true)⟩,[]⟩,⟨⟨some 32,.move (.tmp 6),some (25,true)⟩,[]⟩,⟨⟨some 33,.indexAddr 27 (.tmp 31) (.tmp 32),some (25,true)⟩,[]⟩,
 ⟨⟨some 34,.load 3 (.tmp 33),some (25,true)⟩,[]⟩,⟨⟨some 35,.binOp .geq 3 (.tmp 30) (.tmp 34) 3,some (25,true)⟩,[]⟩,⟨⟨some 36,.pick (.tmp 25) (.tmp 35) (.const (.bool false)),some (22,false)⟩,[]⟩,⟨⟨some 37,.pick (.tmp 22) (.const (.bool true)) (.tmp 36),none⟩,[]⟩,⟨⟨some 38,.move (.tmp 37),none⟩,[]⟩,⟨⟨some 39,.move (.tmp 1),some (38,false)⟩,[]⟩,⟨⟨some 40,.move (.tmp 6),some (38,false)⟩,[]⟩,⟨⟨some 41,.slice 27 (.tmp 39) none (some (.tmp 40)) none,some (38,false)⟩,[]⟩,⟨⟨some 42,.move (.tmp 1),some (38,false)⟩,[]⟩,⟨⟨some 43,.move (.tmp 6),some (38,false)⟩,[]⟩,⟨⟨some 44,.indexAddr 27 (.tmp 42) (.tmp 43),some (38,false)⟩,[]⟩,⟨⟨some 45,.load 3 (.tmp 44),some (38,false)⟩,[]⟩,
 ⟨⟨some 46,.call ⟨(.value (.func 173)),#[.tmp 41,.tmp 45],#[27,3]⟩,some (38,false)⟩,[]⟩,
  ⟨⟨some 47,.unOp .not 4 (.tmp 46),some (38,false)⟩,[]⟩,
  ⟨⟨some 48,.pick (.tmp 38) (.const (.bool true)) (.tmp 47),none⟩,[]⟩]) (.cond (.tmp 48) (.seq (.reg [⟨⟨some 4,.assign (.const (.bool false)),none⟩,[]⟩]) .ret) .skip))) (.reg [⟨⟨some 13,.move (.tmp 6),none⟩,[]⟩,
  ⟨⟨some 14,.binOp .add 3 (.tmp 13) (.const (.int .i64 1)) 3,none⟩,[]⟩,
  ⟨⟨some 6,.assign (.tmp 14),none⟩,[]⟩])))))) (.seq (.reg [⟨⟨some 49,.move (.tmp 1),none⟩,[]⟩,
  ⟨⟨some 50,.call ⟨(.builtin .len),#[.tmp 49],#[27]⟩,none⟩,[]⟩,
  ⟨⟨some 51,.move (.tmp 0),none⟩,[]⟩,
  ⟨⟨some 52,.binOp .sub 3 (.tmp 51) (.const (.int .i64 3)) 3,none⟩,[]⟩,
  ⟨⟨some 53,.binOp .eql 3 (.tmp 50) (.tmp 52) 3,none⟩,[]⟩,
  ⟨⟨some 4,.assign (.tmp 53),none⟩,[]⟩]) .ret))))
theorem in179:InT Tryz.prog 179 2 [.tmp 4] cd179:=InT.mk (by kernel_rfl) [(5,[(0,false),(1,false),(2,false),(3,false),(4,false),(5,true),(6,false),(7,false),(8,false),(9,false),(10,false),(11,false),(12,false),(13,false),(14,false),(15,false),(16,false),(17,false),(18,false),(19,false),(20,false),(21,false),(22,false),(23,false),(24,false),(25,false),(26,false),(27,false),(28,false),(29,false),(30,false),(31,true),(32,false),(33,false)])] Tryz.func179 rfl (by kernel_rfl) (by kernel_rfl) (of_decide_eq_true (by kernel_rfl)) (by kernel_rfl)
end Go.Proofs.YtjnefjchconebaaGreat.Ai
namespace Go.Proofs.YtjnefjchconebaaGreat.Ai
open Go Go.RowKit
def dgRow (n a:Int):Nat->List Int
  | 0=>[]
  | k+1=>dgRow n a k ++ (if 0<a∨a+2+(k:Int)<n - 1 then [10 * a+(a+2+(k:Int))] else [])
def dgs (n:Int):Nat->List Int
  | 0=>[]
  | a+1=>dgs n a ++ dgRow n a (n - a - 2).toNat
theorem dgRow_len (n a:Int)(k:Nat):(dgRow n a k).length<=k:=by
  induction k with
  | zero=>exact Nat.le_refl _
  | succ k ih=>simp only [dgRow,List.length_append];split <;> simp <;> omega
theorem dgs_len (n:Int)(a:Nat)(h:n<=10)(h0:0<=n):(dgs n a).length<=20 * a:=by
  induction a with
  | zero=>exact Nat.le_refl _
  | succ a ih =>
    have:=dgRow_len n a (n - a - 2).toNat
    simp only [dgs,List.length_append];omega
theorem l8Diagonals_c (n:Int)(H:AH)(hn:0<=n/\n<=9):ACalls Tryz.prog 120 [.int .i64 n] H fun r H'=>Own 3 H H' r (dgs n n.toNat)/\H<+:H':=by
  refine in120 rfl ?_
  intro Q hQ
  simp (maxSteps:=1000000) (disch:=omega) only [cd120,SS,eq_self,reduceIte,reduceCtorEq,Nat.reduceEqDiff,Nat.reduceAdd]
  refine LoopH.by (fun m s H'=>∃ a:Nat,(m:Int)+a=n/\s 0=.int .i64 n/\s 4=.int .i64 (a:Int)/\(∃ o,s 3=.slice (some ⟨o,0,none⟩) (dgs n a).length (dgs n a).length/\H.length<=o/\H'[o]?=some (.cells (ints (dgs n a)) 3 false))/\H<+:H') n.toNat ?_ ?_
  . refine ⟨0,by omega,rfl,by simp [SS,eq_self,reduceIte,reduceCtorEq,Nat.reduceEqDiff,Nat.reduceAdd],⟨H.length,by simp [SS,eq_self,reduceIte,reduceCtorEq,Nat.reduceEqDiff,Nat.reduceAdd,dgs],Nat.le_refl _,by simp [dgs,ints]⟩,List.prefix_append _ _⟩
  . rintro m s H' ⟨a,hm,h0,h4,⟨o,h3,ho,hc⟩,hp⟩
    have hdl:=dgs_len n a (by omega) hn.1
    simp (maxSteps:=1000000) (disch:=omega) only [h0,h4,SS,eq_self,reduceIte,reduceCtorEq,Nat.reduceEqDiff,Nat.reduceAdd]
    refine brD.intro (fun g=>?_) (fun g=>?_) <;> simp (maxSteps:=1000000) (disch:=omega) only [h0,h4,wrap64,SS,eq_self,reduceIte,reduceCtorEq,Nat.reduceEqDiff,Nat.reduceAdd]
    . refine LoopH.by (fun m' s' H''=>∃ k:Nat,(m':Int)+k=(n - a - 2).toNat/\s' 0=.int .i64 n/\s' 4=.int .i64 (a:Int)/\s' 5=.int .i64 ((a:Int)+2+k)/\(∃ o,s' 3=.slice (some ⟨o,0,none⟩) (dgs n a ++ dgRow n a k).length (dgs n a ++ dgRow n a k).length/\H.length<=o/\H''[o]?=some (.cells (ints (dgs n a ++ dgRow n a k)) 3 false))/\H<+:H'') (n - a - 2).toNat ?_ ?_
      . exact ⟨0,by omega,by simp [SS,eq_self,reduceIte,reduceCtorEq,Nat.reduceEqDiff,Nat.reduceAdd,h0],by simp [SS,eq_self,reduceIte,reduceCtorEq,Nat.reduceEqDiff,Nat.reduceAdd,h4],by simp [SS,eq_self,reduceIte,reduceCtorEq,Nat.reduceEqDiff,Nat.reduceAdd],⟨o,by simp [SS,eq_self,reduceIte,reduceCtorEq,Nat.reduceEqDiff,Nat.reduceAdd,h3,dgRow],ho,by simpa [dgRow] using hc⟩,hp⟩
      . rintro m' s' H'' ⟨k,hm',g0,g4,g5,⟨o',g3,ho',hc'⟩,hp'⟩
        have hrl:=dgRow_len n a k
        have hll:(dgs n a ++ dgRow n a k).length=(dgs n a).length+(dgRow n a k).length:=List.length_append
        generalize hL:dgs n a ++ dgRow n a k=L at *
        simp (maxSteps:=1000000) (disch:=omega) only [g0,g5,SS,eq_self,reduceIte,reduceCtorEq,Nat.reduceEqDiff,Nat.reduceAdd]
        refine brD.intro (fun q=>?_) (fun q=>?_) <;> simp (maxSteps:=1000000) (disch:=omega) only [g0,g4,g5,wrap64,SS,eq_self,reduceIte,reduceCtorEq,Nat.reduceEqDiff,Nat.reduceAdd]
        . have app:(0<(a:Int)∨(a:Int)+2+k<n - 1)->dgs n a ++ dgRow n a (k+1)=L ++ [10 * (a:Int)+((a:Int)+2+k)]:=by
            intro hh;rw [dgRow,if_pos hh,<- List.append_assoc,hL]
          have noapp:¬ (0<(a:Int)∨(a:Int)+2+k<n - 1)->dgs n a ++ dgRow n a (k+1)=L:=by
            intro hh;rw [dgRow,if_neg hh,List.append_nil,hL]
          have fin:∀ x,dgs n a ++ dgRow n a (k+1)=L ++ [x]->∃ o,(Value.slice (some ⟨H''.length+1,0,none⟩) (L.length+1) (L.length+1)=.slice (some ⟨o,0,none⟩) (dgs n a ++ dgRow n a (k+1)).length (dgs n a ++ dgRow n a (k+1)).length)/\H.length<=o/\(H''.set o' .dead ++ [.cells [.int .i64 x] 3 false,.cells (ints (L ++ [x])) 3 false])[o]?=some (.cells (ints (dgs n a ++ dgRow n a (k+1))) 3 false):=by
            intro x hx
            have hlt:=at_lt hc'
            exact ⟨H''.length+1,by rw [hx];simp,by omega,by rw [hx];exact at_new1 ..⟩
          refine brD.intro (fun q1=>?_) (fun q1=>?_) <;> simp (maxSteps:=1000000) (disch:=omega) only [q1,g0,g3,g4,g5,wrap64,appi27 hc',SS,eq_self,reduceIte,reduceCtorEq,Nat.reduceEqDiff,Nat.reduceAdd]
          . refine ⟨m' - 1,by omega,k+1,by omega,?_⟩
            have fx:=fin _ (app (.inl q1))
            have hpp:=pre_app (pre_set hp' ho' .dead) [.cells [.int .i64 (10 * (a:Int)+((a:Int)+2+k))] 3 false,.cells (ints (L ++ [10 * (a:Int)+((a:Int)+2+k)])) 3 false]
            (repeat' apply And.intro) <;> first | rfl | trivial | assumption | omega | (simp only [Value.int.injEq,true_and];omega) | (simp;done) | (simp;omega) | exact fx | exact hpp
          . refine brD.intro (fun q2=>?_) (fun q2=>?_) <;> simp (maxSteps:=1000000) (disch:=omega) only [q1,q2,g0,g3,g4,g5,wrap64,appi27 hc',SS,eq_self,reduceIte,reduceCtorEq,Nat.reduceEqDiff,Nat.reduceAdd]
            . refine ⟨m' - 1,by omega,k+1,by omega,?_⟩
              have fx:=fin _ (app (.inr q2))
              have hpp:=pre_app (pre_set hp' ho' .dead) [.cells [.int .i64 (10 * (a:Int)+((a:Int)+2+k))] 3 false,.cells (ints (L ++ [10 * (a:Int)+((a:Int)+2+k)])) 3 false]
              (repeat' apply And.intro) <;> first | rfl | trivial | assumption | omega | (simp only [Value.int.injEq,true_and];omega) | (simp;done) | (simp;omega) | exact fx | exact hpp
            . refine ⟨m' - 1,by omega,k+1,by omega,?_⟩
              have fx:∃ o,Value.slice (some ⟨o',0,none⟩) L.length L.length=.slice (some ⟨o,0,none⟩) (dgs n a ++ dgRow n a (k+1)).length (dgs n a ++ dgRow n a (k+1)).length/\H.length<=o/\H''[o]?=some (.cells (ints (dgs n a ++ dgRow n a (k+1))) 3 false):=by
                rw [noapp (by omega)];exact ⟨o',rfl,ho',hc'⟩
              (repeat' apply And.intro) <;> first | rfl | trivial | assumption | omega | (simp only [Value.int.injEq,true_and];omega) | (simp;done) | (simp;omega) | exact fx
        . refine ⟨m - 1,by omega,a+1,by omega,?_⟩
          have hk:k=(n - a - 2).toNat:=by omega
          have fx:∃ o,s' 3=.slice (some ⟨o,0,none⟩) (dgs n (a+1)).length (dgs n (a+1)).length/\H.length<=o/\H''[o]?=some (.cells (ints (dgs n (a+1))) 3 false):=by
            rw [dgs,<- hk,hL,g3];exact ⟨o',rfl,ho',hc'⟩
          (repeat' apply And.intro) <;> first | rfl | trivial | assumption | omega | (simp only [Value.int.injEq,true_and];omega) | (simp;done) | (simp;omega) | exact fx
    . refine hQ _ _ _ ?_
      simp (maxSteps:=1000000) (disch:=omega) only [h3,SS,eq_self,reduceIte,reduceCtorEq,Nat.reduceEqDiff,Nat.reduceAdd]
      have:n.toNat=a:=by omega
      rw [this]
      exact ⟨.inr ⟨o,rfl,ho,hc⟩,hp⟩
def triOkS (n:Int)(xs:List Int)(i:Nat):Bool:=decide (xs.getD i 0 ∈ dgs n n.toNat) && (decide (i=0) || decide (xs.getD (i - 1) 0<xs.getD i 0)) && !(xs.take i).any fun y=>decide (Crs y (xs.getD i 0))
def triS (n:Int)(xs:List Int):Bool:=(List.range xs.length).all (triOkS n xs) && decide ((xs.length:Int)=n - 3)
theorem l8Triangulates_c (n:Int)(v:Value)(xs:List Int)(H:AH)(hn:0<=n/\n<=9)(hr:Row 3 H v xs)(hlen:xs.length<=1099511627776)(hxs:∀ y ∈ xs,I64 y) :
    ACalls Tryz.prog 179 [.int .i64 n,v] H fun r H'=>r=.bool (triS n xs)/\H<+:H':=by
  refine in179 rfl ?_
  intro Q hQ
  simp (maxSteps:=1000000) (disch:=omega) only [cd179,SS,eq_self,reduceIte,reduceCtorEq,Nat.reduceEqDiff,Nat.reduceAdd]
  refine CallH.by (l8Diagonals_c n H hn) ?_
  rintro all H1 ⟨hall,hp⟩
  have hra:=hall.row
  have hr1:=hr.pre hp
  have hal:=dgs_len n n.toNat (by omega) hn.1
  simp (maxSteps:=1000000) (disch:=omega) only [SS,eq_self,reduceIte,reduceCtorEq,Nat.reduceEqDiff,Nat.reduceAdd]
  refine LoopH.by (fun m s H'=>∃ i,m+i=xs.length/\s 0=.int .i64 n/\s 1=v/\s 5=all/\s 6=.int .i64 ((i:Nat):Int)/\H1=H'/\∀ j,j<i->triOkS n xs j=true) xs.length ?_ ?_
  . exact ⟨0,by simp,rfl,rfl,rfl,rfl,rfl,by omega⟩
  . rintro m s H' ⟨i,hm,h0,h1,h5,h6,rfl,hj⟩
    simp (maxSteps:=1000000) (disch:=omega) only [h0,h1,h5,h6,hr1.len Tryz.underlying27,SS,eq_self,reduceIte,reduceCtorEq,Nat.reduceEqDiff,Nat.reduceAdd]
    refine brD.intro (fun g=>?_) (fun g=>?_) <;> simp (maxSteps:=1000000) (disch:=omega) only [h0,h1,h5,h6,wrap64,hr1.len Tryz.underlying27,hr1.ix Tryz.underlying27 cs3,hr1.cell,Int.toNat_natCast,SS,eq_self,reduceIte,reduceCtorEq,Nat.reduceEqDiff,Nat.reduceAdd]
    . have hi:i<xs.length:=by omega
      have hx:xs.getD i 0=xs[i]:=by simp [hi]
      have hI:I64 (xs.getD i 0):=by rw [hx];exact hxs _ (List.getElem_mem hi)
      have bad:triOkS n xs i=false->triS n xs=false:=by
        intro hb
        have:(List.range xs.length).all (triOkS n xs)=false:=by
          rw [List.all_eq_false]
          exact ⟨i,List.mem_range.2 hi,by simp [hb]⟩
        simp [triS,this]
      have hs2:=hr1.slice Tryz.underlying27 cs3 (lo:=none) (hi:=some (.int .i64 (i:Int))) lo_none (bound_some (by omega) _) (by omega) (by omega)
      have hpred:((i:Int) - 1).toNat=i - 1:=by omega
      refine CallH.by (l1Has_c all _ _ _ hra (by omega)) ?_
      rintro _ _ ⟨rfl,rfl⟩
      simp (maxSteps:=1000000) (disch:=omega) only [h0,h1,h5,h6,wrap64,hr1.len Tryz.underlying27,hr1.ix Tryz.underlying27 cs3,hr1.cell,hpred,hs2.1,Int.toNat_natCast,SS,eq_self,reduceIte,reduceCtorEq,Nat.reduceEqDiff,Nat.reduceAdd]
      refine brD.intro (fun gd=>?_) (fun gd=>?_) <;> simp (maxSteps:=1000000) (disch:=omega) only [gd,h0,h1,h5,h6,wrap64,hr1.len Tryz.underlying27,hr1.ix Tryz.underlying27 cs3,hr1.cell,hpred,hs2.1,Int.toNat_natCast,SS,eq_self,reduceIte,reduceCtorEq,Nat.reduceEqDiff,Nat.reduceAdd]
      . refine brD.intro (fun gi=>?_) (fun gi=>?_) <;> simp (maxSteps:=1000000) (disch:=omega) only [gd,gi,h0,h1,h5,h6,wrap64,hr1.len Tryz.underlying27,hr1.ix Tryz.underlying27 cs3,hr1.cell,hpred,hs2.1,Int.toNat_natCast,SS,eq_self,reduceIte,reduceCtorEq,Nat.reduceEqDiff,Nat.reduceAdd]
        . refine brD.intro (fun gl=>?_) (fun gl=>?_) <;> simp (maxSteps:=1000000) (disch:=omega) only [gd,gi,gl,h0,h1,h5,h6,wrap64,hr1.len Tryz.underlying27,hr1.ix Tryz.underlying27 cs3,hr1.cell,hpred,hs2.1,Int.toNat_natCast,SS,eq_self,reduceIte,reduceCtorEq,Nat.reduceEqDiff,Nat.reduceAdd]
          . refine hQ _ _ _ ?_
            simp (maxSteps:=1000000) (disch:=omega) only [SS,eq_self,reduceIte,reduceCtorEq,Nat.reduceEqDiff,Nat.reduceAdd]
            refine ⟨?_,hp⟩
            rw [bad]
            have:¬ xs.getD (i - 1) 0<xs.getD i 0:=by omega
            simp only [triOkS,gd,this,show ¬ i=0 from by omega,decide_true,decide_false,Bool.or_false,Bool.and_false,Bool.false_and]
          . refine CallH.by (l8Apart_c _ _ _ _ hs2.2.1 (by simp;omega) (fun e he=>hxs e (List.mem_of_mem_drop (List.mem_of_mem_take he))) hI) ?_
            rintro _ _ ⟨rfl,rfl⟩
            simp (maxSteps:=1000000) (disch:=omega) only [gd,gi,gl,h0,h1,h5,h6,wrap64,hr1.len Tryz.underlying27,hr1.ix Tryz.underlying27 cs3,hr1.cell,hpred,hs2.1,Int.toNat_natCast,SS,eq_self,reduceIte,reduceCtorEq,Nat.reduceEqDiff,Nat.reduceAdd]
            simp only [List.drop_zero,Nat.sub_zero]
            refine brH.intro (fun ga=>?_) (fun ga=>?_) <;> simp (maxSteps:=1000000) (disch:=omega) only [gd,gi,gl,h0,h1,h5,h6,wrap64,hr1.len Tryz.underlying27,hr1.ix Tryz.underlying27 cs3,hr1.cell,hpred,hs2.1,Int.toNat_natCast,ga,List.drop_zero,Nat.sub_zero,SS,eq_self,reduceIte,reduceCtorEq,Nat.reduceEqDiff,Nat.reduceAdd]
            . refine hQ _ _ _ ?_
              simp (maxSteps:=1000000) (disch:=omega) only [SS,eq_self,reduceIte,reduceCtorEq,Nat.reduceEqDiff,Nat.reduceAdd]
              refine ⟨?_,hp⟩
              rw [bad]
              simp only [triOkS,ga,Bool.not_true,Bool.and_false]
            . refine ⟨m - 1,by omega,i+1,by omega,by simp,?_⟩
              intro j hjj
              by_cases e:j=i
              . subst e
                have:xs.getD (j - 1) 0<xs.getD j 0:=by omega
                simp only [triOkS,ga,gd,this,decide_true,Bool.true_and,Bool.not_false,Bool.and_true,Bool.or_true]
              . exact hj j (by omega)
        . refine CallH.by (l8Apart_c _ _ _ _ hs2.2.1 (by simp;omega) (fun e he=>hxs e (List.mem_of_mem_drop (List.mem_of_mem_take he))) hI) ?_
          rintro _ _ ⟨rfl,rfl⟩
          simp (maxSteps:=1000000) (disch:=omega) only [gd,gi,h0,h1,h5,h6,wrap64,hr1.len Tryz.underlying27,hr1.ix Tryz.underlying27 cs3,hr1.cell,hpred,hs2.1,Int.toNat_natCast,SS,eq_self,reduceIte,reduceCtorEq,Nat.reduceEqDiff,Nat.reduceAdd]
          simp only [List.drop_zero,Nat.sub_zero]
          refine brH.intro (fun ga=>?_) (fun ga=>?_) <;> simp (maxSteps:=1000000) (disch:=omega) only [gd,gi,h0,h1,h5,h6,wrap64,hr1.len Tryz.underlying27,hr1.ix Tryz.underlying27 cs3,hr1.cell,hpred,hs2.1,Int.toNat_natCast,ga,List.drop_zero,Nat.sub_zero,SS,eq_self,reduceIte,reduceCtorEq,Nat.reduceEqDiff,Nat.reduceAdd]
          . refine hQ _ _ _ ?_
            simp (maxSteps:=1000000) (disch:=omega) only [SS,eq_self,reduceIte,reduceCtorEq,Nat.reduceEqDiff,Nat.reduceAdd]
            refine ⟨?_,hp⟩
            rw [bad]
            simp only [triOkS,ga,Bool.not_true,Bool.and_false]
          . refine ⟨m - 1,by omega,i+1,by omega,by simp,?_⟩
            intro j hjj
            by_cases e:j=i
            . subst e
              have e0:decide (j=0)=true:=decide_eq_true (by omega)
              simp only [triOkS,ga,gd,e0,decide_true,Bool.true_and,Bool.true_or,Bool.not_false,Bool.and_true]
            . exact hj j (by omega)
      . refine hQ _ _ _ ?_
        simp (maxSteps:=1000000) (disch:=omega) only [SS,eq_self,reduceIte,reduceCtorEq,Nat.reduceEqDiff,Nat.reduceAdd]
        refine ⟨?_,hp⟩
        rw [bad]
        simp only [triOkS,gd,decide_false,Bool.false_and]
    . refine hQ _ _ _ ?_
      simp (maxSteps:=1000000) (disch:=omega) only [SS,eq_self,reduceIte,reduceCtorEq,Nat.reduceEqDiff,Nat.reduceAdd]
      refine ⟨?_,hp⟩
      have:(List.range xs.length).all (triOkS n xs)=true:=List.all_eq_true.2 fun j hj'=>hj j (by have:=List.mem_range.1 hj';omega)
      simp [triS,this]
theorem crs_symm (x y:Int):Crs x y↔Crs y x:=by unfold Crs;omega
theorem diag_mem:∀ n:Fin 9,3<=n.val->∀ d:Fin 100,(decide (Diag (n.val:Int) (d.val:Int))=decide ((d.val:Int) ∈ dgs (n.val:Int) n.val)):=by decide
theorem dgs_range:∀ n:Fin 9,∀ d ∈ dgs (n.val:Int) n.val,0<=d/\d<100:=by decide
theorem diag_range {n d:Int}(h:Diag n d):0<=d/\d<100:=by
  obtain ⟨h1,h2,h3,h4⟩:=h
  have:=tmod_small d
  refine ⟨h1,?_⟩
  have e:=Int.mul_tdiv_add_tmod d 10
  omega
theorem diag_iff (n d:Int)(hn:3<=n/\n<=8):Diag n d↔d ∈ dgs n n.toNat:=by
  obtain ⟨N,rfl⟩:∃ N:Nat,n=N:=⟨n.toNat,by omega⟩
  by_cases hd:0<=d/\d<100
  . obtain ⟨D,rfl⟩:∃ D:Nat,d=D:=⟨d.toNat,by omega⟩
    have:=diag_mem ⟨N,by omega⟩ (by show 3<=N;omega) ⟨D,by omega⟩
    simpa using this
  . constructor
    . intro h;exact absurd (diag_range h) hd
    . intro h;exact absurd (dgs_range ⟨N,by omega⟩ d h) hd
theorem tri_same (n:Int)(xs:List Int)(hn:3<=n/\n<=8):triI n xs=triS n xs:=by
  unfold triI triS
  rw [Bool.and_comm]
  congr 1
  congr 1
  funext i
  unfold triOk triOkS
  have e1:decide (Diag n (xs.getD i 0))=decide (xs.getD i 0 ∈ dgs n n.toNat):=by simp only [diag_iff n _ hn]
  have e2:(fun e=>decide (Crs (xs.getD i 0) e))=fun y=>decide (Crs y (xs.getD i 0)):=by funext e;simp only [crs_symm]
  rw [e1,e2]
def cd115:Cd:=(.seq (.reg [⟨⟨some 2,.assign (.const (.slice none 0 0)),none⟩,[]⟩]) (.seq (.reg [⟨⟨some 5,.buildSlice 27 0 #[],none⟩,[]⟩,
  ⟨⟨some 3,.assign (.tmp 5),none⟩,[]⟩]) (.seq (.seq (.reg [⟨⟨some 6,.move (.const (.int .i64 0)),none⟩,[]⟩]) (.block 0 (.loop (.seq (.reg [⟨⟨some 7,.binOp .lss 3 (.tmp 6) (.const (.int .i64 100)) 3,none⟩,[]⟩]) (.seq (.cond (.tmp 7) .skip (.exit 0)) (.seq (.block 1 (.seq (.reg [⟨⟨some 8,.move (.tmp 6),none⟩,[]⟩,
  ⟨⟨some 4,.assign (.tmp 8),none⟩,[]⟩]) (.seq (.reg [⟨⟨some 9,.move (.tmp 0),none⟩,[]⟩,
  ⟨⟨some 10,.move (.tmp 4),none⟩,[]⟩,
  ⟨⟨some 11,.call ⟨(.value (.func 186)),#[.tmp 9,.tmp 10],#[3,3]⟩,none⟩,[]⟩]) (.cond (.tmp 11) (.reg [⟨⟨some 12,.move (.tmp 3),none⟩,[]⟩,
  ⟨⟨some 13,.move (.tmp 4),none⟩,[]⟩,
  ⟨⟨some 14,.buildSlice 27 1 #[(0,.tmp 13)],none⟩,[]⟩,
  ⟨⟨some 15,.call ⟨(.builtin .append),#[.tmp 12,.tmp 14],#[27,27]⟩,none⟩,[]⟩,
  ⟨⟨some 3,.assign (.tmp 15),none⟩,[]⟩]) .skip)))) (.reg [⟨⟨some 16,.binOp .add 3 (.tmp 6) (.const (.int .i64 1)) 3,none⟩,[]⟩,
  ⟨⟨some 6,.move (.tmp 16),none⟩,[]⟩]))))))) (.seq (.reg [⟨⟨some 17,.move (.tmp 3),none⟩,[]⟩,
  ⟨⟨some 2,.assign (.tmp 17),none⟩,[]⟩]) .ret))))
theorem in115:InT Tryz.prog 115 1 [.tmp 2] cd115:=InT.mk (by kernel_rfl) [] Tryz.func115 rfl (by kernel_rfl) (by kernel_rfl) (of_decide_eq_true (by kernel_rfl)) (by kernel_rfl)
end Go.Proofs.YtjnefjchconebaaGreat.Ai
namespace Go.Proofs.YtjnefjchconebaaGreat.Ai
open Go Go.RowKit
def dgI (n:Int)(k:Nat):List Int:=((List.range k).map fun (i:Nat)=>(i:Int)).filter fun d=>decide (Diag n d)
theorem dgI_step (n:Int)(k:Nat):dgI n (k+1)=dgI n k ++ if Diag n k then [(k:Int)] else []:=by
  unfold dgI
  rw [List.range_succ,List.map_append,List.filter_append]
  by_cases h:Diag n k <;> simp [h]
theorem dgI_len (n:Int)(k:Nat):(dgI n k).length<=k:=by
  unfold dgI
  refine Nat.le_trans (List.length_filter_le _ _) ?_
  simp
theorem dgI_eq:∀ n:Fin 9,3<=n.val->dgI (n.val:Int) 100=dgs (n.val:Int) n.val:=by decide
theorem diagonals_c (n:Int)(H:AH)(hn:0<=n/\n<=100):ACalls Tryz.prog 115 [.int .i64 n] H fun r H'=>(∃ o,r=.slice (some ⟨o,0,none⟩) (dgI n 100).length (dgI n 100).length/\H.length<=o/\H'[o]?=some (.cells (ints (dgI n 100)) 3 false))/\H<+:H':=by
  refine in115 rfl ?_
  intro Q hQ
  simp (maxSteps:=1000000) (disch:=omega) only [cd115,SS,eq_self,reduceIte,reduceCtorEq,Nat.reduceEqDiff,Nat.reduceAdd]
  refine LoopH.by (fun m s H'=>∃ i,m+i=100/\s 0=.int .i64 n/\s 6=.int .i64 ((i:Nat):Int)/\(∃ o,s 3=.slice (some ⟨o,0,none⟩) (dgI n i).length (dgI n i).length/\H.length<=o/\H'[o]?=some (.cells (ints (dgI n i)) 3 false))/\H<+:H') 100 ?_ ?_
  . exact ⟨0,by simp,rfl,rfl,⟨H.length,rfl,Nat.le_refl _,at_new ..⟩,List.prefix_append _ _⟩
  . rintro m s H' ⟨i,hm,h0,h6,⟨o,h3,ho,hc⟩,hp⟩
    have hl:=dgI_len n i
    have hs:=dgI_step n i
    generalize hL:dgI n i=L at *
    simp (maxSteps:=1000000) (disch:=omega) only [h0,h6,SS,eq_self,reduceIte,reduceCtorEq,Nat.reduceEqDiff,Nat.reduceAdd]
    refine brD.intro (fun g=>?_) (fun g=>?_) <;> simp (maxSteps:=1000000) (disch:=omega) only [h0,h6,SS,eq_self,reduceIte,reduceCtorEq,Nat.reduceEqDiff,Nat.reduceAdd]
    . refine CallH.by (isDiagonal_c n i H' hn ⟨by omega,by omega⟩) ?_
      rintro _ _ ⟨rfl,rfl⟩
      simp (maxSteps:=1000000) (disch:=omega) only [SS,eq_self,reduceIte,reduceCtorEq,Nat.reduceEqDiff,Nat.reduceAdd]
      refine brD.intro (fun e=>?_) (fun e=>?_) <;> simp (maxSteps:=1000000) (disch:=omega) only [h0,h6,h3,wrap64,appi27 hc,SS,eq_self,reduceIte,reduceCtorEq,Nat.reduceEqDiff,Nat.reduceAdd]
      . rw [if_pos e] at hs
        have hlt:=at_lt hc
        refine ⟨m - 1,by omega,i+1,by omega,?_⟩
        rw [hs]
        have fx:∃ o2,(Value.slice (some ⟨H'.length+1,0,none⟩) (L.length+1) (L.length+1)=.slice (some ⟨o2,0,none⟩) (L ++ [(i:Int)]).length (L ++ [(i:Int)]).length)/\H.length<=o2/\(H'.set o .dead ++ [.cells [.int .i64 i] 3 false,.cells (ints (L ++ [(i:Int)])) 3 false])[o2]?=some (.cells (ints (L ++ [(i:Int)])) 3 false):=⟨H'.length+1,by simp,by omega,at_new1 ..⟩
        have hpp:=pre_app (pre_set hp ho .dead) [.cells [.int .i64 (i:Int)] 3 false,.cells (ints (L ++ [(i:Int)])) 3 false]
        (repeat' apply And.intro) <;> first | rfl | trivial | assumption | omega | (simp only [Value.int.injEq,true_and];omega) | (simp;done) | (simp;omega) | exact fx | exact hpp
      . rw [if_neg e] at hs
        refine ⟨m - 1,by omega,i+1,by omega,?_⟩
        rw [hs,List.append_nil]
        have fx:∃ o2,(Value.slice (some ⟨o,0,none⟩) L.length L.length=.slice (some ⟨o2,0,none⟩) L.length L.length)/\H.length<=o2/\H'[o2]?=some (.cells (ints L) 3 false):=⟨o,rfl,ho,hc⟩
        (repeat' apply And.intro) <;> first | rfl | trivial | assumption | omega | (simp only [Value.int.injEq,true_and];omega) | (simp;done) | (simp;omega) | exact fx
    . refine hQ _ _ _ ?_
      simp (maxSteps:=1000000) (disch:=omega) only [h3,SS,eq_self,reduceIte,reduceCtorEq,Nat.reduceEqDiff,Nat.reduceAdd]
      have:i=100:=by omega
      subst this
      rw [hL]
      exact ⟨⟨o,rfl,ho,hc⟩,hp⟩
end Go.Proofs.YtjnefjchconebaaGreat.Ai
