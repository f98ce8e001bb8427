/- Texts of this claim, joined: Drw, Drb, PrA, Drg, Tri2, Tri3, At, Bound, Drh, PmE, BrdP, MvP, Rch, Tok, Spd, Drc, Drd, Drl, Dsl, Vee, Tkd, Isp, Ltl, ArB. -/
import Derived.Test.YtlcipphiflcaiaaGreatProg
import Derived.KernelRfl
import Derived.Test.YtlcipphiflcaiaaGreatMgLawLtl6
set_option linter.unusedVariables false
set_option linter.unusedSimpArgs false
set_option maxHeartbeats 8000000
set_option maxRecDepth 20000
namespace Go.Proofs.YtlcipphiflcaiaaGreat.Ai
open Go Go.RowKit
def cd159:Cd:=(.seq (.reg [⟨⟨some 2,.assign (.const (.int .i64 0)),none⟩,[]⟩]) (.seq (.reg [⟨⟨some 3,.assign (.const (.int .i64 0)),none⟩,[]⟩]) (.seq (.seq (.reg [⟨⟨some 4,.move (.tmp 0),none⟩,[]⟩,⟨⟨some 5,.nilCheck (.tmp 4),none⟩,[]⟩,⟨⟨some 6,.fieldAddr 67 (.tmp 5) 1,none⟩,[]⟩,⟨⟨some 7,.load 3 (.tmp 6),none⟩,[]⟩,⟨⟨some 8,.move (.tmp 0),none⟩,[]⟩,⟨⟨some 9,.nilCheck (.tmp 8),none⟩,[]⟩,⟨⟨some 10,.fieldAddr 67 (.tmp 9) 0,none⟩,[]⟩,⟨⟨some 11,.load 22 (.tmp 10),none⟩,[]⟩,⟨⟨some 12,.call ⟨(.builtin .len),#[.tmp 11],#[22]⟩,none⟩,[]⟩,⟨⟨some 13,.binOp .lss 3 (.tmp 7) (.tmp 12) 3,none⟩,[]⟩]) (.cond (.tmp 13) (.reg [⟨⟨some 14,.move (.tmp 0),none⟩,[]⟩,⟨⟨some 15,.nilCheck (.tmp 14),none⟩,[]⟩,⟨⟨some 16,.fieldAddr 67 (.tmp 15) 0,none⟩,[]⟩,
 ⟨⟨some 17,.load 22 (.tmp 16),none⟩,[]⟩,⟨⟨some 18,.move (.tmp 0),none⟩,[]⟩,⟨⟨some 19,.nilCheck (.tmp 18),none⟩,[]⟩,⟨⟨some 20,.fieldAddr 67 (.tmp 19) 1,none⟩,[]⟩,⟨⟨some 21,.load 3 (.tmp 20),none⟩,[]⟩,⟨⟨some 22,.indexAddr 22 (.tmp 17) (.tmp 21),none⟩,[]⟩,⟨⟨some 23,.load 5 (.tmp 22),none⟩,[]⟩,⟨⟨some 24,.convert 5 3 (.tmp 23),none⟩,[]⟩,⟨⟨some 3,.assign (.tmp 24),none⟩,[]⟩]) .skip)) (.seq (.reg [⟨⟨some 25,.move (.tmp 0),none⟩,[]⟩,⟨⟨some 26,.nilCheck (.tmp 25),none⟩,[]⟩,⟨⟨some 27,.fieldAddr 67 (.tmp 26) 1,none⟩,[]⟩,⟨⟨some 28,.load 3 (.tmp 27),none⟩,[]⟩,
 ⟨⟨some 29,.binOp .add 3 (.tmp 28) (.const (.int .i64 1)) 3,none⟩,[]⟩,⟨⟨some 30,.nilCheck (.tmp 25),none⟩,[]⟩,⟨⟨some 31,.fieldAddr 67 (.tmp 30) 1,none⟩,[]⟩,⟨⟨none,.store 3 (.tmp 31) (.tmp 29),none⟩,[]⟩]) (.seq (.reg [⟨⟨some 32,.move (.tmp 0),none⟩,[]⟩,⟨⟨some 33,.move (.tmp 0),none⟩,[]⟩,⟨⟨some 34,.nilCheck (.tmp 33),none⟩,[]⟩,⟨⟨some 35,.fieldAddr 67 (.tmp 34) 2,none⟩,[]⟩,⟨⟨some 36,.load 65 (.tmp 35),none⟩,[]⟩,⟨⟨some 37,.binOp .mul 65 (.tmp 36) (.const (.int .u64 6364136223846793005)) 65,none⟩,[]⟩,⟨⟨some 38,.move (.tmp 3),none⟩,[]⟩,⟨⟨some 39,.convert 3 65 (.tmp 38),none⟩,[]⟩,⟨⟨some 40,.binOp .add 65 (.tmp 37) (.tmp 39) 65,none⟩,[]⟩,
 ⟨⟨some 41,.binOp .add 65 (.tmp 40) (.const (.int .u64 462197)) 65,none⟩,[]⟩,⟨⟨some 42,.nilCheck (.tmp 32),none⟩,[]⟩,⟨⟨some 43,.fieldAddr 67 (.tmp 42) 2,none⟩,[]⟩,⟨⟨none,.store 65 (.tmp 43) (.tmp 41),none⟩,[]⟩]) (.seq (.seq (.reg [⟨⟨some 44,.move (.tmp 0),none⟩,[]⟩,⟨⟨some 45,.nilCheck (.tmp 44),none⟩,[]⟩,⟨⟨some 46,.fieldAddr 67 (.tmp 45) 1,none⟩,[]⟩,⟨⟨some 47,.load 3 (.tmp 46),none⟩,[]⟩,⟨⟨some 48,.move (.tmp 0),none⟩,[]⟩,⟨⟨some 49,.nilCheck (.tmp 48),none⟩,[]⟩,⟨⟨some 50,.fieldAddr 67 (.tmp 49) 0,none⟩,[]⟩,⟨⟨some 51,.load 22 (.tmp 50),none⟩,[]⟩,⟨⟨some 52,.call ⟨(.builtin .len),#[.tmp 51],#[22]⟩,none⟩,[]⟩,
 ⟨⟨some 53,.binOp .leq 3 (.tmp 47) (.tmp 52) 3,none⟩,[]⟩]) (.cond (.tmp 53) (.seq (.reg [⟨⟨some 54,.move (.tmp 3),none⟩,[]⟩,
  ⟨⟨some 2,.assign (.tmp 54),none⟩,[]⟩]) .ret) .skip)) (.seq (.reg [⟨⟨some 55,.move (.tmp 0),none⟩,[]⟩,
  ⟨⟨some 56,.nilCheck (.tmp 55),none⟩,[]⟩,
  ⟨⟨some 57,.fieldAddr 67 (.tmp 56) 2,none⟩,[]⟩,
  ⟨⟨some 58,.load 65 (.tmp 57),none⟩,[]⟩,
  ⟨⟨some 59,.binOp .shr 65 (.tmp 58) (.const (.int .u64 40)) 94,none⟩,[]⟩,
  ⟨⟨some 60,.binOp .and 65 (.tmp 59) (.const (.int .u64 255)) 65,none⟩,[]⟩,
  ⟨⟨some 61,.convert 65 3 (.tmp 60),none⟩,[]⟩,
  ⟨⟨some 2,.assign (.tmp 61),none⟩,[]⟩]) .ret)))))))
theorem in159:InT Tryz.prog 159 1 [.tmp 2] cd159:=InT.mk (by kernel_rfl) [(2,[(0,false),(1,false),(2,false),(3,false),(4,false),(5,false),(6,false),(7,false),(8,false),(9,false)]),(3,[(0,false),(1,false),(2,false),(3,false),(4,false),(5,false),(6,false),(7,false),(8,false),(9,false),(10,false),(11,false)]),(6,[(0,false),(1,false),(2,false),(3,false),(4,false),(5,false),(6,false),(7,false),(8,false),(9,false)])] Tryz.func159 rfl (by kernel_rfl) (by kernel_rfl) (of_decide_eq_true (by kernel_rfl)) (by kernel_rfl)
def cd107:Cd:=(.seq (.reg [⟨⟨some 4,.assign (.const (.int .i64 0)),none⟩,[]⟩]) (.seq (.seq (.reg [⟨⟨some 6,.move (.tmp 1),none⟩,[]⟩,⟨⟨some 7,.binOp .leq 3 (.tmp 6) (.const (.int .i64 1)) 3,none⟩,[]⟩]) (.cond (.tmp 7) (.seq (.reg [⟨⟨some 4,.assign (.const (.int .i64 0)),none⟩,[]⟩]) .ret) .skip)) (.seq (.reg [⟨⟨some 8,.move (.tmp 0),none⟩,[]⟩,⟨⟨some 9,.call ⟨(.value (.func 159)),#[.tmp 8],#[64]⟩,none⟩,[]⟩,⟨⟨some 5,.assign (.tmp 9),none⟩,[]⟩]) (.seq (.seq (.reg [⟨⟨some 10,.move (.tmp 1),none⟩,[]⟩,⟨⟨some 11,.binOp .gtr 3 (.tmp 10) (.const (.int .i64 200)) 3,none⟩,[]⟩]) (.cond (.tmp 11) (.reg [⟨⟨some 12,.move (.tmp 5),none⟩,[]⟩,⟨⟨some 13,.binOp .mul 3 (.tmp 12) (.const (.int .i64 256)) 3,none⟩,[]⟩,⟨⟨some 14,.move (.tmp 0),none⟩,[]⟩,⟨⟨some 15,.call ⟨(.value (.func 159)),#[.tmp 14],#[64]⟩,none⟩,[]⟩,⟨⟨some 16,.binOp .add 3 (.tmp 13) (.tmp 15) 3,none⟩,[]⟩,⟨⟨some 5,.assign (.tmp 16),none⟩,[]⟩]) .skip)) (.seq (.reg [⟨⟨some 17,.move (.tmp 5),none⟩,[]⟩,⟨⟨some 18,.move (.tmp 1),none⟩,[]⟩,⟨⟨some 19,.binOp .rem 3 (.tmp 17) (.tmp 18) 3,none⟩,[]⟩,
 ⟨⟨some 4,.assign (.tmp 19),none⟩,[]⟩]) .ret)))))
theorem in107:InT Tryz.prog 107 2 [.tmp 4] cd107:=InT.mk (by kernel_rfl) [] Tryz.func107 rfl (by kernel_rfl) (by kernel_rfl) (of_decide_eq_true (by kernel_rfl)) (by kernel_rfl)
def cd86:Cd:=(.seq (.reg [⟨⟨some 4,.assign (.const (.bool false)),none⟩,[]⟩]) (.seq (.reg [⟨⟨some 5,.move (.tmp 0),none⟩,[]⟩,
 ⟨⟨some 6,.move (.tmp 1),none⟩,[]⟩,
 ⟨⟨some 7,.call ⟨(.value (.func 107)),#[.tmp 5,.tmp 6],#[64,3]⟩,none⟩,[]⟩,
 ⟨⟨some 8,.binOp .eql 3 (.tmp 7) (.const (.int .i64 0)) 3,none⟩,[]⟩,
 ⟨⟨some 4,.assign (.tmp 8),none⟩,[]⟩]) .ret))
theorem in86:InT Tryz.prog 86 2 [.tmp 4] cd86:=InT.mk (by kernel_rfl) [] Tryz.func86 rfl (by kernel_rfl) (by kernel_rfl) (of_decide_eq_true (by kernel_rfl)) (by kernel_rfl)
def cd108:Cd:=(.seq (.reg [⟨⟨some 4,.assign (.const (.int .i64 0)),none⟩,[]⟩]) (.seq (.reg [⟨⟨some 5,.move (.tmp 1),none⟩,[]⟩,
 ⟨⟨some 6,.move (.tmp 0),none⟩,[]⟩,
 ⟨⟨some 7,.move (.tmp 1),none⟩,[]⟩,
 ⟨⟨some 8,.call ⟨(.builtin .len),#[.tmp 7],#[27]⟩,none⟩,[]⟩,
 ⟨⟨some 9,.call ⟨(.value (.func 107)),#[.tmp 6,.tmp 8],#[64,3]⟩,none⟩,[]⟩,
 ⟨⟨some 10,.indexAddr 27 (.tmp 5) (.tmp 9),none⟩,[]⟩,
 ⟨⟨some 11,.load 3 (.tmp 10),none⟩,[]⟩,
 ⟨⟨some 4,.assign (.tmp 11),none⟩,[]⟩]) .ret))
theorem in108:InT Tryz.prog 108 2 [.tmp 4] cd108:=InT.mk (by kernel_rfl) [] Tryz.func108 rfl (by kernel_rfl) (by kernel_rfl) (of_decide_eq_true (by kernel_rfl)) (by kernel_rfl)
end Go.Proofs.YtlcipphiflcaiaaGreat.Ai
namespace Go.Proofs.YtlcipphiflcaiaaGreat.Ai
open Go Go.RowKit
theorem fa_cur (p:Addr):fieldAddrA Tryz.prog 67 (.pointer (some p)) 0=some (.pointer (some ⟨p.block,p.off,none⟩))/\fieldAddrA Tryz.prog 67 (.pointer (some p)) 1=some (.pointer (some ⟨p.block,p.off+1,none⟩))/\fieldAddrA Tryz.prog 67 (.pointer (some p)) 2=some (.pointer (some ⟨p.block,p.off+2,none⟩)):=⟨by kernel_rfl,by kernel_rfl,by kernel_rfl⟩
theorem cs_u8:Tryz.prog.cellsOf 5=1:=by kernel_rfl
theorem cs_u64:Tryz.prog.cellsOf 65=1:=by kernel_rfl
theorem ag_u8:isAggA Tryz.prog 5=some false:=by kernel_rfl
theorem ag_u64:isAggA Tryz.prog 65=some false:=by kernel_rfl
theorem ag_by:isAggA Tryz.prog 22=some false:=by kernel_rfl
theorem len_by:∀ x H,lenS Tryz.prog 22 x H=lenA Tryz.prog 22 x:=lenS_sl (by decide)
theorem nilP (p:Addr):nilA (.pointer (some p))=some (.pointer (some p)):=rfl
structure Cur (H:AH) (o:Nat) (v:Value) (us:List Value) (N:Nat):Prop where
 cur:∃ at_ seed:Nat,H[o]?=some (.cells [v,.int .i64 (at_:Int),.int .u64 (seed:Int)] 67 false)/\at_<=N/\seed<2 ^ 64
 row:RowV 5 H v us
 byt:∀ i,i<us.length->∃ b:Nat,us.getD i undef=.int .u8 (b:Int)/\b<256
 ap:v=.slice none 0 0∨rowO v ≠ o
 le:us.length<=1048576
def OnlyO (o:Nat)(H H':AH):Prop:=H'.length=H.length/\∀ (j:Nat) (y:AObj),j ≠ o->H[j]?=some y->H'[j]?=some y
theorem OnlyO.trans {o:Nat}{H H' H'':AH}(h:OnlyO o H H')(k:OnlyO o H' H''):OnlyO o H H'':=⟨k.1.trans h.1,fun j y hj hy=>k.2 j y hj (h.2 j y hj hy)⟩
theorem OnlyO.refl (o:Nat)(H:AH):OnlyO o H H:=⟨rfl,fun _ _ _ h=>h⟩
theorem Cur.more {H:AH}{o:Nat}{v:Value}{us:List Value}{N M:Nat}(h:Cur H o v us N)(hm:N<=M):Cur H o v us M:=by
 obtain ⟨a,s,h1,h2,h3⟩:=h.cur
 exact ⟨⟨a,s,h1,by omega,h3⟩,h.row,h.byt,h.ap,h.le⟩
theorem Cur.pre {H H':AH}{o:Nat}{v:Value}{us:List Value}{N:Nat}(h:Cur H o v us N)(hp:H<+:H'):Cur H' o v us N:=by
 obtain ⟨a,s,h1,h2,h3⟩:=h.cur
 exact ⟨⟨a,s,pre_at hp h1,h2,h3⟩,h.row.pre hp,h.byt,h.ap,h.le⟩
theorem next_c {H:AH}{o:Nat}{v:Value}{us:List Value}{N:Nat}(h:Cur H o v us N)(hN:N<=1000000000) :
  ACalls Tryz.prog 159 [.pointer (some ⟨o,0,none⟩)] H fun r H'=>(∃ x:Nat,r=.int .i64 (x:Int)/\x<256)/\Cur H' o v us (N+1)/\OnlyO o H H':=by
 obtain ⟨at_,seed,ho,hat,hs⟩:=h.cur
 have hle:=h.le
 have hol:=at_lt ho
 refine in159 rfl ?_
 intro Q hQ
 have fin:∀ (b:Nat),b<256->∀ z:Int,0<=z->z<18446744073709551616->∀ H2:AH,H2=(H.set o (.cells [v,.int .i64 ((at_+1:Nat):Int),.int .u64 (seed:Int)] 67 false)).set o (.cells [v,.int .i64 ((at_+1:Nat):Int),.int .u64 z] 67 false)->Cur H2 o v us (N+1)/\OnlyO o H H2:=by
  intro b hb z z0 z1 H2 e
  have only:OnlyO o H H2:=by
   subst e
   refine ⟨by simp,fun j y hj hy=>?_⟩
   rw [List.getElem?_set_ne (fun e=>hj e.symm),List.getElem?_set_ne (fun e=>hj e.symm)]
   exact hy
  refine ⟨⟨⟨at_+1,z.toNat,?_,by omega,by omega⟩,?_,h.byt,h.ap,hle⟩,only⟩
  ·subst e
   rw [List.getElem?_set_self (by simpa using hol),Int.toNat_of_nonneg z0]
  ·rcases h.row with q | q
   ·exact .inl q
   ·refine RowV.mono (.inr q) fun y hy=>?_
    rcases h.ap with g | g
    ·obtain ⟨o',k',_,_,g1,_⟩:=q
     rw [g] at g1;cases g1
    ·exact only.2 _ _ g hy
 have s1:=st_at (P:=Tryz.prog) (t:=3) (i:=1) (y:=.int .i64 ((at_+1:Nat):Int)) cs3 ho (by show 1<3;decide) rfl rfl
 have hw1:IntKind.i64.wrap ((at_:Int)+1)=((at_+1:Nat):Int):=by rw [wrap64 (by omega) (by omega)];omega
 have c1:(H.set o (.cells ([v,.int .i64 (at_:Int),.int .u64 (seed:Int)].set 1 (.int .i64 ((at_+1:Nat):Int))) 67 false))[o]?=some (.cells [v,.int .i64 ((at_+1:Nat):Int),.int .u64 (seed:Int)] 67 false):=by
  rw [List.getElem?_set_self hol];rfl
 have fa:=fun p=>fa_cur p
 generalize hK:H.set o (.cells ([v,.int .i64 (at_:Int),.int .u64 (seed:Int)].set 1 (.int .i64 ((at_+1:Nat):Int))) 67 false)=K at s1 c1
 have hK2:K=H.set o (.cells [v,.int .i64 ((at_+1:Nat):Int),.int .u64 (seed:Int)] 67 false):=by rw [<- hK];rfl
 rw [<- hK2] at fin
 have s2:∀ z:Int,storeA Tryz.prog 65 (.pointer (some ⟨o,2,none⟩)) (.int .u64 z) K=some (K.set o (.cells [v,.int .i64 ((at_+1:Nat):Int),.int .u64 z] 67 false)):=fun z =>
  st_at (P:=Tryz.prog) (t:=65) (i:=2) (y:=.int .u64 z) cs_u64 c1 (by show 2<3;decide) rfl rfl
 have hKl:o<K.length:=at_lt c1
 have c2:∀ z:Int,(K.set o (.cells [v,.int .i64 ((at_+1:Nat):Int),.int .u64 z] 67 false))[o]?=some (.cells [v,.int .i64 ((at_+1:Nat):Int),.int .u64 z] 67 false):=fun z=>List.getElem?_set_self hKl
 have wz:∀ y:Int,0<=IntKind.u64.wrap y/\IntKind.u64.wrap y<18446744073709551616:=fun y=>by rw [IntKind.wrap_u64];omega
 simp (maxSteps:=1000000) (disch:=omega) only [cd159,nilP,(fa_cur _).1,(fa_cur _).2.1,(fa_cur _).2.2,ld_one ag_by,ld_one ag_u8,ld_one ag_u64,cell_of ho,len_by,h.row.len Tryz.underlying22,SS,eq_self,reduceIte,reduceCtorEq,Nat.reduceEqDiff,Nat.reduceAdd]
 refine brD.intro (fun g=>?_) (fun g=>?_)
 ·have hi:at_<us.length:=by omega
  obtain ⟨b,hb1,hb2⟩:=h.byt at_ hi
  have hc:=h.row.cell hi
  rw [hb1] at hc
  simp (maxSteps:=1000000) (disch:=omega) only [nilP,(fa_cur _).1,(fa_cur _).2.1,(fa_cur _).2.2,ld_one ag_by,ld_one ag_u8,ld_one ag_u64,cell_of ho,h.row.ix Tryz.underlying22 cs_u8,Int.toNat_natCast,hc,hw1,s1,cell_of c1,s2,SS,eq_self,reduceIte,reduceCtorEq,Nat.reduceEqDiff,Nat.reduceAdd]
  generalize hzz:IntKind.u64.wrap (IntKind.u64.wrap (IntKind.u64.wrap ((seed:Int) * 6364136223846793005)+IntKind.u64.wrap (IntKind.i64.wrap (b:Int)))+462197)=z
  have hz:0<=z/\z<18446744073709551616:=by rw [<- hzz];exact wz _
  obtain ⟨q1,q2⟩:=fin b hb2 z hz.1 hz.2 _ rfl
  have hw2:IntKind.i64.wrap (b:Int)=(b:Int):=wrap64 (by omega) (by omega)
  simp (maxSteps:=1000000) (disch:=omega) only [nilP,(fa_cur _).1,(fa_cur _).2.1,(fa_cur _).2.2,ld_one ag_by,ld_one ag_u64,cell_of (c2 z),len_by,h.row.len Tryz.underlying22,SS,eq_self,reduceIte,reduceCtorEq,Nat.reduceEqDiff,Nat.reduceAdd]
  refine brD.intro (fun g2=>?_) (fun g2=>absurd (show ((at_+1:Nat):Int)<=(us.length:Int) by omega) g2)
  simp (maxSteps:=1000000) (disch:=omega) only [hw2,SS,eq_self,reduceIte,reduceCtorEq,Nat.reduceEqDiff,Nat.reduceAdd]
  refine hQ _ _ _ ?_
  simp (maxSteps:=1000000) (disch:=omega) only [SS,eq_self,reduceIte,reduceCtorEq,Nat.reduceEqDiff,Nat.reduceAdd]
  exact ⟨⟨b,rfl,hb2⟩,q1,q2⟩
 ·simp (maxSteps:=1000000) (disch:=omega) only [nilP,(fa_cur _).1,(fa_cur _).2.1,(fa_cur _).2.2,ld_one ag_by,ld_one ag_u8,ld_one ag_u64,cell_of ho,hw1,s1,cell_of c1,s2,SS,eq_self,reduceIte,reduceCtorEq,Nat.reduceEqDiff,Nat.reduceAdd]
  generalize hzz:IntKind.u64.wrap (IntKind.u64.wrap (IntKind.u64.wrap ((seed:Int) * 6364136223846793005)+IntKind.u64.wrap 0)+462197)=z
  have hz:0<=z/\z<18446744073709551616:=by rw [<- hzz];exact wz _
  obtain ⟨q1,q2⟩:=fin 0 (by omega) z hz.1 hz.2 _ rfl
  obtain ⟨zn,rfl⟩:∃ k:Nat,z=k:=⟨z.toNat,by omega⟩
  simp (maxSteps:=1000000) (disch:=omega) only [nilP,(fa_cur _).1,(fa_cur _).2.1,(fa_cur _).2.2,ld_one ag_by,ld_one ag_u64,cell_of (c2 _),len_by,h.row.len Tryz.underlying22,SS,eq_self,reduceIte,reduceCtorEq,Nat.reduceEqDiff,Nat.reduceAdd]
  refine brD.intro (fun g2=>absurd g2 (by omega)) (fun g2=>?_)
  have k1:binA Tryz.prog .shr 65 (.int .u64 (zn:Int)) (.int .u64 40)=some (.int .u64 ((zn / 2 ^ 40:Nat):Int)):=bin_shrU _ _ zn 40 (by decide)
  have hd:zn / 2 ^ 40<2 ^ 64:=Nat.lt_of_le_of_lt (Nat.div_le_self _ _) (by omega)
  have k2:binA Tryz.prog .and 65 (.int .u64 ((zn / 2 ^ 40:Nat):Int)) (.int .u64 255)=some (.int .u64 ((zn / 2 ^ 40 &&& 255:Nat):Int)):=bin_and _ _ _ 255 hd (by decide)
  have hle2:zn / 2 ^ 40 &&& 255<=255:=Nat.and_le_right
  generalize zn / 2 ^ 40 &&& 255=r at *
  have c3:convA Tryz.prog 65 3 (.int .u64 (r:Int))=some (.int .i64 (r:Int)):=by
   simp only [convA,Tryz.underlying65,Tryz.underlying3]
   rw [wrap64 (by omega) (by omega)]
  simp (maxSteps:=1000000) (disch:=omega) only [nilP,(fa_cur _).1,(fa_cur _).2.1,(fa_cur _).2.2,ld_one ag_u64,cell_of (c2 _),k1,k2,c3,SS,eq_self,reduceIte,reduceCtorEq,Nat.reduceEqDiff,Nat.reduceAdd]
  refine hQ _ _ _ ?_
  simp (maxSteps:=1000000) (disch:=omega) only [SS,eq_self,reduceIte,reduceCtorEq,Nat.reduceEqDiff,Nat.reduceAdd]
  exact ⟨⟨r,rfl,by omega⟩,q1,q2⟩
theorem pick_c {H:AH}{o:Nat}{v:Value}{us:List Value}{N:Nat}(h:Cur H o v us N)(hN:N<=1000000000)(n:Int)(hn:n<=200) :
  ACalls Tryz.prog 107 [.pointer (some ⟨o,0,none⟩),.int .i64 n] H fun r H'=>(∃ x:Nat,r=.int .i64 (x:Int)/\((x:Int)<n∨x=0))/\Cur H' o v us (N+1)/\OnlyO o H H':=by
 refine in107 rfl ?_
 intro Q hQ
 simp (disch:=omega) only [cd107,SS,eq_self,reduceIte,reduceCtorEq,Nat.reduceEqDiff,Nat.reduceAdd]
 refine brD.intro (fun g=>?_) (fun g=>?_)
 ·simp (disch:=omega) only [SS,eq_self,reduceIte,reduceCtorEq,Nat.reduceEqDiff,Nat.reduceAdd]
  refine hQ _ _ _ ?_
  simp (disch:=omega) only [SS,eq_self,reduceIte,reduceCtorEq,Nat.reduceEqDiff,Nat.reduceAdd]
  exact ⟨⟨0,rfl,.inr rfl⟩,h.more (by omega),OnlyO.refl o H⟩
 simp (disch:=omega) only [SS,eq_self,reduceIte,reduceCtorEq,Nat.reduceEqDiff,Nat.reduceAdd]
 refine CallH.by (next_c h hN) ?_
 rintro _ K ⟨⟨x,rfl,hx⟩,hK,oK⟩
 have hn0:n ≠ 0:=by omega
 have hmod:(x:Int).tmod n=((x % n.toNat:Nat):Int):=by
  rw [Int.tmod_eq_emod_of_nonneg (by omega)]
  have:n=(n.toNat:Int):=by omega
  conv=>lhs;rw [this]
  exact (Int.natCast_emod x n.toNat).symm
 simp (disch:=omega) only [SS,eq_self,reduceIte,reduceCtorEq,Nat.reduceEqDiff,Nat.reduceAdd]
 refine brD.intro (fun g2=>absurd g2 (by omega)) (fun g2=>?_)
 simp (disch:=omega) only [hn0,hmod,SS,eq_self,reduceIte,reduceCtorEq,Nat.reduceEqDiff,Nat.reduceAdd]
 refine hQ _ _ _ ?_
 simp (disch:=omega) only [SS,eq_self,reduceIte,reduceCtorEq,Nat.reduceEqDiff,Nat.reduceAdd]
 have:=Nat.mod_lt x (show 0<n.toNat by omega)
 exact ⟨⟨x % n.toNat,rfl,.inl (by omega)⟩,hK,oK⟩
theorem one_c {H:AH}{o:Nat}{v:Value}{us:List Value}{N:Nat}(h:Cur H o v us N)(hN:N<=1000000000)(n:Int)(hn:n<=200) :
  ACalls Tryz.prog 86 [.pointer (some ⟨o,0,none⟩),.int .i64 n] H fun r H'=>(∃ b:Bool,r=.bool b)/\Cur H' o v us (N+1)/\OnlyO o H H':=by
 refine in86 rfl ?_
 intro Q hQ
 simp (disch:=omega) only [cd86,SS,eq_self,reduceIte,reduceCtorEq,Nat.reduceEqDiff,Nat.reduceAdd]
 refine CallH.by (pick_c h hN n hn) ?_
 rintro _ K ⟨⟨x,rfl,_⟩,hK,oK⟩
 simp (disch:=omega) only [SS,eq_self,reduceIte,reduceCtorEq,Nat.reduceEqDiff,Nat.reduceAdd]
 refine hQ _ _ _ ?_
 simp (disch:=omega) only [SS,eq_self,reduceIte,reduceCtorEq,Nat.reduceEqDiff,Nat.reduceAdd]
 exact ⟨⟨_,rfl⟩,hK,oK⟩
theorem among_c {H:AH}{o:Nat}{v w:Value}{us:List Value}{xs:List Int}{N:Nat}(h:Cur H o v us N)(hN:N<=1000000000)(hw:Row 3 H w xs)(hwo:rowO w ≠ o)(hl:0<xs.length/\xs.length<=200) :
  ACalls Tryz.prog 108 [.pointer (some ⟨o,0,none⟩),w] H fun r H'=>(∃ x:Int,r=.int .i64 x/\x ∈ xs)/\Cur H' o v us (N+1)/\OnlyO o H H':=by
 refine in108 rfl ?_
 intro Q hQ
 simp (disch:=omega) only [cd108,hw.len Tryz.underlying27,SS,eq_self,reduceIte,reduceCtorEq,Nat.reduceEqDiff,Nat.reduceAdd]
 refine CallH.by (pick_c h hN (xs.length:Int) (by omega)) ?_
 rintro _ K ⟨⟨x,rfl,hx⟩,hK,oK⟩
 have hxl:x<xs.length:=by omega
 have hwK:Row 3 K w xs:=hw.mono fun y hy=>oK.2 _ _ hwo hy
 have hc:=hwK.cell hxl
 simp (disch:=omega) only [hw.ix Tryz.underlying27 cs3,Int.toNat_natCast,hc,SS,eq_self,reduceIte,reduceCtorEq,Nat.reduceEqDiff,Nat.reduceAdd]
 refine hQ _ _ _ ?_
 simp (disch:=omega) only [SS,eq_self,reduceIte,reduceCtorEq,Nat.reduceEqDiff,Nat.reduceAdd]
 exact ⟨⟨xs.getD x 0,rfl,by simp [hxl]⟩,hK,oK⟩
def cd6:Cd:=(.seq (.reg [⟨⟨some 2,.assign (.const (.bool false)),none⟩,[]⟩]) (.seq (.reg [⟨⟨some 3,.move (.tmp 0),none⟩,[]⟩,
 ⟨⟨some 4,.call ⟨(.builtin .len),#[.tmp 3],#[22]⟩,none⟩,[]⟩,
 ⟨⟨some 5,.binOp .gtr 3 (.tmp 4) (.const (.int .i64 65536)) 3,none⟩,[]⟩,
 ⟨⟨some 2,.assign (.tmp 5),none⟩,[]⟩]) .ret))
theorem in6:InT Tryz.prog 6 1 [.tmp 2] cd6:=InT.mk (by kernel_rfl) [] Tryz.func6 rfl (by kernel_rfl) (by kernel_rfl) (of_decide_eq_true (by kernel_rfl)) (by kernel_rfl)
end Go.Proofs.YtlcipphiflcaiaaGreat.Ai
namespace Go.Proofs.YtlcipphiflcaiaaGreat.Ai
open Go Go.RowKit
theorem OnlyO.keeps {o:Nat}{H H':AH}(h:OnlyO o H H'):Keeps o H H':=⟨Nat.le_of_eq h.1.symm,h.2⟩
theorem Cur.keeps {H H':AH}{o:Nat}{v:Value}{us:List Value}{N:Nat}(h:Cur H o v us N)(hp:H<+:H'):Cur H' o v us N:=h.pre hp
theorem ownB {e:TypeId}{H0 H1 H:AH}{v:Value}{xs:List Int}(h:Own e H0 H v xs)(hl:H1.length<=H0.length):Own e H1 H v xs:=by
 rcases h with h | ⟨o,h1,h2,h3⟩
 ·exact .inl h
 ·exact .inr ⟨o,h1,by omega,h3⟩
theorem bld_cur (p:Option Addr)(n c:Nat):buildA Tryz.prog 67 [(0,.slice p n c)]=some (.agg (List.toArray [.slice p n c,.int .i64 0,.int .u64 0])):=by kernel_rfl
theorem box_cur (p:Option Addr)(n c:Nat)(H:AH):boxA Tryz.prog 67 (.agg (List.toArray [.slice p n c,.int .i64 0,.int .u64 0])) H=some (.pointer (some ⟨H.length,0,none⟩),H ++ [.cells [.slice p n c,.int .i64 0,.int .u64 0] 67 false]):=by kernel_rfl
structure Byt (H:AH) (v:Value) (us:List Value):Prop where
 row:RowV 5 H v us
 byt:∀ i,i<us.length->∃ b:Nat,us.getD i undef=.int .u8 (b:Int)/\b<256
 le:us.length<=1048576
theorem Byt.pre {H H':AH}{v:Value}{us:List Value}(h:Byt H v us)(hp:H<+:H'):Byt H' v us:=⟨h.row.pre hp,h.byt,h.le⟩
theorem Byt.cur {H:AH}{v:Value}{us:List Value}(h:Byt H v us):Cur (H ++ [.cells [v,.int .i64 0,.int .u64 0] 67 false]) H.length v us 0:=by
 refine ⟨⟨0,0,at_new ..,Nat.le_refl _,by decide⟩,h.row.pre (List.prefix_append _ _),h.byt,?_,h.le⟩
 rcases h.row with q | ⟨o',k',vs',ro',e1,g2',_⟩
 ·exact .inl q.1
 ·right
  rw [e1]
  have:=at_lt g2'
  show o' ≠ _
  omega
theorem MineP.keepsP {e:TypeId}{H0 H H':AH}{o:Nat}{v:Value}{ps:List (Int × Int)}(h:MineP e H0 H v ps)(hk:Keeps o H H')(ho:o<H0.length):MineP e H0 H' v ps:=by
 rcases h with q | ⟨oo,zs,q1,q2,q3,q4⟩
 ·exact .inl q
 ·exact .inr ⟨oo,zs,q1,q2,hk.2 _ _ (by omega) q3,q4⟩
theorem vBig_c {H:AH}{v:Value}{us:List Value}(h:RowV 5 H v us)(hl:(us.length:Int)<=9223372036854775807):ACalls Tryz.prog 6 [v] H fun r H'=>r=.bool (decide ((65536:Int)<(us.length:Int)))/\H=H':=by
 refine in6 rfl ?_
 intro Q hQ
 simp (disch:=omega) only [cd6,len_by,h.len Tryz.underlying22,SS,eq_self,reduceIte,reduceCtorEq,Nat.reduceEqDiff,Nat.reduceAdd]
 refine hQ _ _ _ ?_
 simp (disch:=omega) only [SS,eq_self,reduceIte,reduceCtorEq,Nat.reduceEqDiff,Nat.reduceAdd]
theorem RowP.cells {P:Program}{e:TypeId}(hc:P.cellsOf e=2){H:AH}{v:Value}{ps:List (Int × Int)}(h:RowP e H v ps):sliceCells P e v H=some (ps.length,ints (flat ps)):=by
 rcases h with ⟨h1,h2⟩ | ⟨o,k,vs,ro,e1,h2,h3,h4⟩
 ·subst h1;subst h2;rfl
 ·subst e1
  simp only [sliceCells,h2,hc]
  rw [Nat.mul_comm ps.length 2,if_pos ⟨h3,trivial⟩,h4]
theorem MineP.app {P:Program}{t e:TypeId}(hu:P.underlying t=some (.slice e))(hc:P.cellsOf e=2)(hby:P.bytesOf e<=64)(hz:zeroOk P e=true){H0 H:AH}{v x:Value}{ps qs:List (Int × Int)}(h:MineP e H0 H v ps)(hx:RowP e H x qs)(hp:H0<+:H)(hb:ps.length+qs.length<=1099511627776) :
  ∃ v' H',appendA P t t v x H=some (v',H')/\MineP e H0 H' v' (ps ++ qs)/\H0<+:H'/\Kept v H H'/\(H.length<=rowO v'∨(v'=v/\H'=H))/\H.length<=H'.length:=by
 have hcells:=hx.cells (P:=P) hc
 have hb2:(ps.length+qs.length) * P.bytesOf e<=140737488355328:=by
  refine Nat.le_trans (Nat.mul_le_mul_left _ hby) ?_
  omega
 by_cases hm:qs.length=0
 ·have hx0:qs=[]:=List.eq_nil_of_length_eq_zero hm
  subst hx0
  refine ⟨v,H,?_,by simpa using h,hp,fun o y _ hy=>hy,.inr ⟨rfl,rfl⟩,Nat.le_refl _⟩
  have hsl:isSl v=true:=by rcases h with ⟨h1,_⟩ | ⟨o,zs,h1,_⟩ <;> subst h1 <;> rfl
  simp only [appendA,hu,hc,hcells,hsl]
  simp
 ·rcases h with ⟨h1,h2⟩ | ⟨o,zs,h1,h2,h3,h4⟩
  ·subst h1;subst h2
   refine ⟨.slice (some ⟨H.length,0,none⟩) qs.length qs.length,H ++ [.cells (ints (flat qs)) e false],?_,.inr ⟨H.length,flat qs,rfl,hp.length_le,at_new ..,?_⟩,pre_app hp _,fun o y _ hy=>at_app hy _,.inl (Nat.le_refl _),by simp⟩
   ·simp only [appendA,hu,hc,hcells,hz]
    simp only [List.length_nil,Nat.zero_add] at hb hb2
    simp [hm,hb2];omega
   ·show (flat qs).take (2 * qs.length)=flat qs
    rw [List.take_of_length_le (by rw [flat_len];omega)]
  ·subst h1
   have hl:=take_flat_len h4
   have lo:=hp.length_le
   refine ⟨.slice (some ⟨H.length,0,none⟩) (ps.length+qs.length) (ps.length+qs.length),H.set o .dead ++ [.cells (ints (flat (ps ++ qs))) e false],?_,.inr ⟨H.length,flat (ps ++ qs),by simp,by omega,?_,?_⟩,pre_app (pre_set hp h2 _) _,?_,.inl (Nat.le_refl _),by simp⟩
   ·simp only [appendA,hu,hc,hcells,hz,h3]
    rw [if_pos (by simp),if_neg hm,if_pos ⟨trivial,by rw [ints_len];omega,hb2,by omega,trivial⟩]
    have:((ints zs).drop 0).take (ps.length * 2) ++ ints (flat qs)=ints (flat (ps ++ qs)):=by
     rw [flat_app,ints_app,<- h4,List.drop_zero,Nat.mul_comm]
     simp [ints,List.map_take]
    rw [this]
   ·rw [List.getElem?_append_right (by simp)];simp
   ·rw [List.take_of_length_le (by rw [flat_len];omega)]
   ·intro o' y hne hy
    refine at_old hy ?_ _
    rcases hne with hne | hne
    ·cases hne
    ·exact fun e=>hne e.symm
def subP (v:Value)(l h:Nat):Value :=
 match v with
 | .slice (some p) _ _=>.slice (some ⟨p.block,p.off+2 * l,none⟩) (h - l) (h - l)
 | _=>.slice none 0 0
theorem RowP.slice {P:Program}{t e:TypeId}(hu:P.underlying t=some (.slice e))(hc:P.cellsOf e=2){H:AH}{v:Value}{ps:List (Int × Int)}(h:RowP e H v ps){lo hi:Option Value}{l r:Nat}(h1:boundA lo 0=some l)(h2:boundA hi ps.length=some r)(hl:l<=r)(hr:r<=ps.length) :
  sliceA P t v lo hi none H=some (subP v l r)/\RowP e H (subP v l r) ((ps.drop l).take (r - l))/\rowO (subP v l r)=rowO v:=by
 rcases h with ⟨e1,e2⟩ | ⟨o,k,vs,ro,e1,g2,g3,g4⟩
 ·subst e1;subst e2
  have hr0:r=0:=by simpa using hr
  have hl0:l=0:=by omega
  subst hr0;subst hl0
  refine ⟨?_,.inl ⟨rfl,by simp⟩,rfl⟩
  simp only [List.length_nil] at h2
  simp only [sliceA,hu,h1,h2,hc,subP];rfl
 ·subst e1
  have hlen:((ps.drop l).take (r - l)).length=r - l:=by simp;omega
  refine ⟨?_,.inr ⟨o,k+2 * l,vs,ro,?_,g2,?_,?_⟩,rfl⟩
  ·simp only [sliceA,hu,h1,h2,g2,hc,subP]
   rw [if_pos ⟨hl,hr,trivial,by decide⟩,Nat.mul_comm l 2]
  ·simp only [subP,hlen]
  ·rw [hlen];omega
  ·rw [hlen,<- List.drop_drop]
   have e4:ints (flat ((ps.drop l).take (r - l)))=((ints (flat ps)).drop (2 * l)).take (2 * (r - l)):=by
    rw [<- flat_take,<- flat_drop];simp [ints,List.map_drop,List.map_take]
   rw [e4,<- g4,List.drop_take,List.take_take,Nat.min_eq_left (by omega)]
def cd109:Cd:=(.seq (.reg [⟨⟨some 3,.box 115 (.tmp 1),none⟩,[]⟩,⟨⟨some 4,.assign (.const (.slice none 0 0)),none⟩,[]⟩]) (.seq (.reg [⟨⟨some 6,.move (.tmp 0),none⟩,[]⟩,⟨⟨some 7,.call ⟨(.builtin .len),#[.tmp 6],#[24]⟩,none⟩,[]⟩,⟨⟨some 5,.assign (.tmp 7),none⟩,[]⟩]) (.seq (.block 0 (.loop (.seq (.seq (.reg [⟨⟨some 8,.move (.tmp 5),none⟩,[]⟩,⟨⟨some 9,.binOp .gtr 3 (.tmp 8) (.const (.int .i64 0)) 3,none⟩,[]⟩,⟨⟨some 10,.move (.tmp 9),none⟩,[]⟩,⟨⟨some 11,.load 115 (.tmp 3),some (10,true)⟩,[]⟩,⟨⟨some 12,.move (.tmp 0),some (10,true)⟩,[]⟩,⟨⟨some 13,.move (.tmp 5),some (10,true)⟩,[]⟩,⟨⟨some 14,.binOp .sub 3 (.tmp 13) (.const (.int .i64 1)) 3,some (10,true)⟩,[]⟩,⟨⟨some 15,.indexAddr 24 (.tmp 12) (.tmp 14),some (10,true)⟩,[]⟩,⟨⟨some 16,.load 115 (.tmp 15),some (10,true)⟩,[]⟩,
 ⟨⟨some 17,.call ⟨(.value (.func 160)),#[.tmp 11,.tmp 16],#[115,115]⟩,some (10,true)⟩,[]⟩,⟨⟨some 18,.pick (.tmp 10) (.tmp 17) (.const (.bool false)),none⟩,[]⟩]) (.cond (.tmp 18) .skip (.exit 0))) (.block 1 (.reg [⟨⟨some 19,.move (.tmp 5),none⟩,[]⟩,⟨⟨some 20,.binOp .sub 3 (.tmp 19) (.const (.int .i64 1)) 3,none⟩,[]⟩,⟨⟨some 5,.assign (.tmp 20),none⟩,[]⟩]))))) (.seq (.seq (.reg [⟨⟨some 21,.move (.tmp 5),none⟩,[]⟩,⟨⟨some 22,.binOp .gtr 3 (.tmp 21) (.const (.int .i64 0)) 3,none⟩,[]⟩,⟨⟨some 23,.move (.tmp 22),none⟩,[]⟩,⟨⟨some 24,.move (.tmp 0),some (23,true)⟩,[]⟩,⟨⟨some 25,.move (.tmp 5),some (23,true)⟩,[]⟩,⟨⟨some 26,.binOp .sub 3 (.tmp 25) (.const (.int .i64 1)) 3,some (23,true)⟩,[]⟩,⟨⟨some 27,.indexAddr 24 (.tmp 24) (.tmp 26),some (23,true)⟩,[]⟩,⟨⟨some 28,.load 115 (.tmp 27),some (23,true)⟩,[]⟩,⟨⟨some 29,.load 115 (.tmp 3),some (23,true)⟩,[]⟩,
 ⟨⟨some 30,.binOp .eql 115 (.tmp 28) (.tmp 29) 115,some (23,true)⟩,[]⟩,⟨⟨some 31,.pick (.tmp 23) (.tmp 30) (.const (.bool false)),none⟩,[]⟩]) (.cond (.tmp 31) (.seq (.reg [⟨⟨some 32,.move (.tmp 0),none⟩,[]⟩,⟨⟨some 4,.assign (.tmp 32),none⟩,[]⟩]) .ret) .skip)) (.seq (.reg [⟨⟨some 33,.buildSlice 24 0 #[],none⟩,[]⟩,⟨⟨some 34,.move (.tmp 0),none⟩,[]⟩,⟨⟨some 35,.move (.tmp 5),none⟩,[]⟩,⟨⟨some 36,.slice 24 (.tmp 34) none (some (.tmp 35)) none,none⟩,[]⟩,⟨⟨some 38,.load 115 (.tmp 3),none⟩,[]⟩,⟨⟨some 39,.buildSlice 24 1 #[(0,.tmp 38)],none⟩,[]⟩,⟨⟨some 41,.move (.tmp 0),none⟩,[]⟩,⟨⟨some 42,.move (.tmp 5),none⟩,[]⟩,⟨⟨some 43,.slice 24 (.tmp 41) (some (.tmp 42)) none none,none⟩,[]⟩,⟨⟨some 37,.call ⟨(.builtin .append),#[.tmp 33,.tmp 36],#[24,24]⟩,none⟩,[⟨some 43,.slice 24 (.tmp 41) (some (.tmp 42)) none none,none⟩,⟨some 39,.buildSlice 24 1 #[(0,.tmp 38)],none⟩,⟨some 38,.load 115 (.tmp 3),none⟩]⟩,
 ⟨⟨some 40,.call ⟨(.builtin .append),#[.tmp 37,.tmp 39],#[24,24]⟩,none⟩,[⟨some 43,.slice 24 (.tmp 41) (some (.tmp 42)) none none,none⟩]⟩,
  ⟨⟨some 44,.call ⟨(.builtin .append),#[.tmp 40,.tmp 43],#[24,24]⟩,none⟩,[]⟩,
  ⟨⟨some 4,.assign (.tmp 44),none⟩,[]⟩]) .ret)))))
theorem in109:InT Tryz.prog 109 2 [.tmp 4] cd109:=InT.mk (by kernel_rfl) [(2,[(0,false),(1,false),(2,false),(3,false),(4,false),(5,false),(6,false),(7,false),(8,false),(9,true),(10,false)]),(4,[(0,false),(1,false),(2,false),(3,false),(4,false),(5,false),(6,false),(7,false),(8,false),(9,false),(10,false)]),(6,[(0,false),(1,false),(2,false),(3,false),(5,false),(6,false),(8,false),(9,false),(10,false),(4,true),(7,true),(11,true),(12,false)])] Tryz.func109 rfl (by kernel_rfl) (by kernel_rfl) (of_decide_eq_true (by kernel_rfl)) (by kernel_rfl)
end Go.Proofs.YtlcipphiflcaiaaGreat.Ai
namespace Go.Proofs.YtlcipphiflcaiaaGreat.Ai
open Go Go.RowKit
theorem MineP.rebase {e:TypeId}{H0 H1 H:AH}{v:Value}{ps:List (Int × Int)}(h:MineP e H0 H v ps)(hl:H1.length=H0.length):MineP e H1 H v ps:=by
 rcases h with h | ⟨o,zs,h1,h2,h3,h4⟩
 ·exact .inl h
 ·exact .inr ⟨o,zs,h1,by omega,h3,h4⟩
theorem eq_pr (a b c d:Int):binA Tryz.prog .eql 115 (.agg (List.toArray [.int .i64 a,.int .i64 b])) (.agg (List.toArray [.int .i64 c,.int .i64 d]))=some (.bool (decide ((a,b)=(c,d)))):=by
 have h:binA Tryz.prog .eql 115 (.agg (List.toArray [.int .i64 a,.int .i64 b])) (.agg (List.toArray [.int .i64 c,.int .i64 d]))=some (.bool (a == c && b == d)):=by kernel_rfl
 have e:(a == c && b == d)=decide ((a,b)=(c,d)):=by
  rw [Bool.eq_iff_iff,decide_eq_true_eq,Prod.mk.injEq,Bool.and_eq_true,beq_iff_eq,beq_iff_eq]
 rw [h,e]
theorem l2PutPair_c {Hb H:AH}(v:Value)(ps:List (Int × Int))(a b:Int)(hm:MineP 115 Hb H v ps)(hbl:Hb.length<=H.length)(hl:ps.length<=1000) :
  ACalls Tryz.prog 109 [v,.agg (List.toArray [.int .i64 a,.int .i64 b])] H fun r H'=>∃ qs,MineP 115 Hb H' r qs/\qs.length<=ps.length+1/\(∀ y ∈ qs,y ∈ ps∨y=(a,b))/\(r=v∨H.length<=rowO r)/\H<+:H':=by
 obtain ⟨H0,hp0,hb0⟩:∃ H0:AH,H0<+:H/\H0.length=Hb.length:=⟨H.take Hb.length,List.take_prefix _ _,by simp;omega⟩
 have hm:=hm.rebase hb0
 refine in109 rfl ?_
 intro Q hQ
 have bx:∀ H:AH,boxA Tryz.prog 115 (.agg (List.toArray [.int .i64 a,.int .i64 b])) H=some (.pointer (some ⟨H.length,0,none⟩),H ++ [.cells [.int .i64 a,.int .i64 b] 115 false]):=fun H=>by kernel_rfl
 have hr:=hm.row
 rw [cd109]
 generalize hA:H ++ [AObj.cells [.int .i64 a,.int .i64 b] 115 false]=A
 have pA:H<+:A:=by rw [<- hA];exact List.prefix_append _ _
 have cA:A[H.length]?=some (.cells [.int .i64 a,.int .i64 b] 115 false):=by rw [<- hA];exact at_new ..
 have bxA:=bx H
 rw [hA] at bxA
 have ldb:∀ {K:AH},K[H.length]?=some (.cells [.int .i64 a,.int .i64 b] 115 false)->loadA Tryz.prog 115 (.pointer (some ⟨H.length,0,none⟩)) K=some (.agg (List.toArray [.int .i64 a,.int .i64 b])):=fun h=>ld_agg ag115 cs115 h
 refine cutC (fun s K=>s 0=v/\s 3=.pointer (some ⟨H.length,0,none⟩)/\A<+:K) (fun c hc=>?_) ?_
 ·simp (disch:=omega) only [bxA,SS,eq_self,reduceIte,reduceCtorEq,Nat.reduceEqDiff,Nat.reduceAdd]
  exact hc _ _ ⟨rfl,rfl,List.prefix_refl _⟩
 rintro s K ⟨s0,s3,pK⟩
 refine cutC (fun s K=>s 0=v/\s 3=.pointer (some ⟨H.length,0,none⟩)/\s 5=.int .i64 (ps.length:Int)/\A<+:K) (fun c hc=>?_) ?_
 ·simp (disch:=omega) only [s0,s3,hr.len Tryz.underlying24,SS,eq_self,reduceIte,reduceCtorEq,Nat.reduceEqDiff,Nat.reduceAdd]
  exact hc _ _ ⟨s0,s3,rfl,pK⟩
 clear s0 s3 pK s K
 rintro s K ⟨s0,s3,s5,pK⟩
 refine cutC (fun s K=>∃ k:Nat,k<=ps.length/\s 0=v/\s 3=.pointer (some ⟨H.length,0,none⟩)/\s 5=.int .i64 (k:Int)/\A<+:K) (fun c hc=>?_) ?_
 ·simp (disch:=omega) only [s0,s3,s5,SS,eq_self,reduceIte,reduceCtorEq,Nat.reduceEqDiff,Nat.reduceAdd]
  refine LoopH.by (fun m s H'=>∃ k:Nat,m=k/\k<=ps.length/\s 0=v/\s 3=.pointer (some ⟨H.length,0,none⟩)/\s 5=.int .i64 ((k:Nat):Int)/\A<+:H') ps.length ?_ ?_
  ·exact ⟨ps.length,rfl,Nat.le_refl _,s0,s3,s5,pK⟩
  rintro m s B ⟨k,rfl,hk,s0,s3,s5,pB⟩
  have rB:=hr.pre (pA.trans pB)
  have cB:=pre_at pB cA
  simp (disch:=omega) only [s0,s3,s5,SS,eq_self,reduceIte,reduceCtorEq,Nat.reduceEqDiff,Nat.reduceAdd]
  by_cases g:(0:Int)<(m:Int)
  rotate_left
  ·simp (disch:=omega) only [decide_eq_false g,SS,eq_self,reduceIte,reduceCtorEq,Nat.reduceEqDiff,Nat.reduceAdd]
   exact hc _ _ ⟨m,hk,s0,s3,s5,pB⟩
  have hm1:m - 1<ps.length:=by omega
  have hw1:IntKind.i64.wrap ((m:Int) - 1)=((m - 1:Nat):Int):=by rw [wrap64 (by omega) (by omega)];omega
  simp (disch:=omega) only [decide_eq_true g,s0,s3,s5,ldb cB,hw1,rB.ix Tryz.underlying24 cs115,Int.toNat_natCast,rB.ld ag115 cs115 hm1,SS,eq_self,reduceIte,reduceCtorEq,Nat.reduceEqDiff,Nat.reduceAdd]
  refine CallH.by (l2Edge_c (a,b) (ps.getD (m - 1) (0,0)) B) ?_
  rintro _ C ⟨rfl,pC⟩
  simp (disch:=omega) only [SS,eq_self,reduceIte,reduceCtorEq,Nat.reduceEqDiff,Nat.reduceAdd]
  by_cases z:pairLt (a,b) (ps.getD (m - 1) (0,0))
  ·simp (disch:=omega) only [decide_eq_true z,s0,s3,s5,hw1,SS,eq_self,reduceIte,reduceCtorEq,Nat.reduceEqDiff,Nat.reduceAdd]
   have f1:=pB.trans pC
   refine ⟨m - 1,by omega,m - 1,?_⟩
   (repeat' first | exact f1 | exact s0 | exact s3 | apply And.intro) <;> first | (simp only [Value.int.injEq,true_and];omega) | omega | rfl | assumption | (simp;done) | (simp;omega)
  ·simp (disch:=omega) only [decide_eq_false z,SS,eq_self,reduceIte,reduceCtorEq,Nat.reduceEqDiff,Nat.reduceAdd]
   exact hc _ _ ⟨m,hk,s0,s3,s5,pB.trans pC⟩
 clear s0 s3 s5 pK s K
 rintro s K ⟨k,hk,s0,s3,s5,pK⟩
 have rK:=hr.pre (pA.trans pK)
 have cK:=pre_at pK cA
 refine cutC (fun s K'=>K=K'/\s 0=v/\s 3=.pointer (some ⟨H.length,0,none⟩)/\s 5=.int .i64 (k:Int)) (fun c hc=>?_) ?_
 ·simp (disch:=omega) only [s0,s3,s5,SS,eq_self,reduceIte,reduceCtorEq,Nat.reduceEqDiff,Nat.reduceAdd]
  by_cases g:(0:Int)<(k:Int)
  rotate_left
  ·simp (disch:=omega) only [decide_eq_false g,SS,eq_self,reduceIte,reduceCtorEq,Nat.reduceEqDiff,Nat.reduceAdd]
   exact hc _ _ ⟨rfl,s0,s3,s5⟩
  have hm1:k - 1<ps.length:=by omega
  have hw1:IntKind.i64.wrap ((k:Int) - 1)=((k - 1:Nat):Int):=by rw [wrap64 (by omega) (by omega)];omega
  simp (disch:=omega) only [decide_eq_true g,s0,s3,s5,ldb cK,hw1,rK.ix Tryz.underlying24 cs115,Int.toNat_natCast,rK.ld ag115 cs115 hm1,eq_pr,SS,eq_self,reduceIte,reduceCtorEq,Nat.reduceEqDiff,Nat.reduceAdd]
  refine brD.intro (fun z=>?_) (fun z=>?_)
  ·simp (disch:=omega) only [s0,SS,eq_self,reduceIte,reduceCtorEq,Nat.reduceEqDiff,Nat.reduceAdd]
   refine hQ _ _ _ ?_
   simp (disch:=omega) only [s0,hr.tup,SS,eq_self,reduceIte,reduceCtorEq,Nat.reduceEqDiff,Nat.reduceAdd]
   exact ⟨ps,(hm.pre (pA.trans pK)).rebase hb0.symm,by omega,fun y hy=>.inl hy,.inl trivial,pA.trans pK⟩
  ·simp (disch:=omega) only [SS,eq_self,reduceIte,reduceCtorEq,Nat.reduceEqDiff,Nat.reduceAdd]
   exact hc _ _ ⟨rfl,s0,s3,s5⟩
 clear s0 s3 s5 s
 rintro s _ ⟨rfl,s0,s3,s5⟩
 have lK:=(hp0.trans (pA.trans pK)).length_le
 generalize hC:K ++ [AObj.cells [] 115 false]=C
 have pC:K<+:C:=by rw [<- hC];exact List.prefix_append _ _
 have lC:C.length=K.length+1:=by rw [<- hC];simp
 have m0:MineP 115 H0 C (.slice (some ⟨K.length,0,none⟩) 0 0) []:=by rw [<- hC];exact MineP.nil0 (P:=Tryz.prog) H0 K lK
 generalize hD:C ++ [AObj.cells [.int .i64 a,.int .i64 b] 115 false]=D
 have pD:C<+:D:=by rw [<- hD];exact List.prefix_append _ _
 have lD:D.length=C.length+1:=by rw [<- hD];simp
 have at1:D[C.length]?=some (.cells [.int .i64 a,.int .i64 b] 115 false):=by rw [<- hD];exact at_new ..
 have pKD:=pC.trans pD
 have ks:=bound_some (k:=.i64) (i:=(k:Int)) (by omega)
 have sl1:∀ {G:AH},RowP 115 G v ps->sliceA Tryz.prog 24 v none (some (.int .i64 (k:Int))) none G=some (subP v 0 k)/\RowP 115 G (subP v 0 k) (ps.take k)/\rowO (subP v 0 k)=rowO v:=fun {G} h=>by
  have:=h.slice (P:=Tryz.prog) (t:=24) Tryz.underlying24 cs115 lo_none (ks ps.length) (Nat.zero_le _) (by rw [Int.toNat_natCast];exact hk)
  rw [Int.toNat_natCast,List.drop_zero,Nat.sub_zero] at this
  exact this
 have sl2:∀ {G:AH},RowP 115 G v ps->sliceA Tryz.prog 24 v (some (.int .i64 (k:Int))) none none G=some (subP v k ps.length)/\RowP 115 G (subP v k ps.length) (ps.drop k)/\rowO (subP v k ps.length)=rowO v:=fun {G} h=>by
  have:=h.slice (P:=Tryz.prog) (t:=24) Tryz.underlying24 cs115 (ks 0) (hi_none ps.length) (by rw [Int.toNat_natCast];exact hk) (Nat.le_refl _)
  rw [Int.toNat_natCast,List.take_of_length_le (by simp)] at this
  exact this
 have rD:=rK.pre pKD
 have hby:Tryz.prog.bytesOf 115<=64:=by rw [by115];decide
 obtain ⟨v1,E,a1,a2,a3,a4,a5,a6⟩:=(m0.pre pD).app (P:=Tryz.prog) (t:=24) Tryz.underlying24 cs115 hby zk115 (sl1 rD).2.1 (hp0.trans (pA.trans (pK.trans pKD))) (by simp;omega)
 rw [List.nil_append] at a2
 have kE:∀ {j:Nat} {y:AObj},j ≠ K.length->D[j]?=some y->E[j]?=some y:=fun hj hy=>a4 _ _ (.inr hj) hy
 have pKE:K<+:E:=prefix_of fun j y hy=>kE (by have:=at_lt hy;omega) (pre_at pKD hy)
 have rE:=rK.pre pKE
 have at2:=kE (by omega) at1
 have rx:RowP 115 E (.slice (some ⟨C.length,0,none⟩) 1 1) [(a,b)]:=.inr ⟨C.length,0,_,false,rfl,at2,by simp,rfl⟩
 have v1o:v1=.slice (some ⟨K.length,0,none⟩) 0 0∨D.length<=rowO v1:=by
  rcases a5 with q | q
  ·exact .inr q
  ·exact .inl q.1
 obtain ⟨v2,F,b1,b2,b3,b4,b5,b6⟩:=a2.app (P:=Tryz.prog) (t:=24) Tryz.underlying24 cs115 hby zk115 rx a3 (by simp;omega)
 have kF:∀ {j:Nat} {y:AObj},j<K.length->E[j]?=some y->F[j]?=some y:=fun {j y} hj hy=>b4 _ _ (.inr (by
  rcases v1o with q | q
  ·rw [q];show j ≠ K.length;omega
  ·omega)) hy
 have pKF:K<+:F:=prefix_of fun j y hy=>kF (at_lt hy) (pre_at pKE hy)
 have rF:=rK.pre pKF
 have cE:E[C.length]?=D[C.length]?:=by rw [at2,at1]
 obtain ⟨v3,G,c1,c2,c3,c4,c5,c6⟩:=b2.app (P:=Tryz.prog) (t:=24) Tryz.underlying24 cs115 hby zk115 (sl2 rF).2.1 b3 (by simp;omega)
 have v2o:K.length<=rowO v2:=by
  rcases b5 with q | q
  ·omega
  ·rw [q.1]
   rcases v1o with z | z
   ·rw [z];exact Nat.le_refl _
   ·omega
 have pKG:K<+:G:=prefix_of fun j y hy=>c4 _ _ (.inr (by have:=at_lt hy;omega)) (pre_at pKF hy)
 simp (disch:=omega) only [s0,s3,s5,hC,(sl1 (rK.pre pC)).1,ldb (pre_at pC cK),hD,(sl2 rD).1,a1,(sl2 rE).1,cE,ldb (pre_at pKE cK),b1,(sl2 rF).1,c1,SS,eq_self,reduceIte,reduceCtorEq,Nat.reduceEqDiff,Nat.reduceAdd]
 refine hQ _ _ _ ?_
 simp (disch:=omega) only [c2.row.tup,SS,eq_self,reduceIte,reduceCtorEq,Nat.reduceEqDiff,Nat.reduceAdd]
 have v3o:H.length<=rowO v3:=by
  have l1:=(pA.trans pK).length_le
  have l2:=pKF.length_le
  rcases c5 with q | q
  ·omega
  ·rw [q.1];omega
 refine ⟨_,c2.rebase hb0.symm,by simp;omega,fun y hy=>?_,.inr v3o,pA.trans (pK.trans pKG)⟩
 rcases List.mem_append.1 hy with hy | hy
 ·rcases List.mem_append.1 hy with hy | hy
  ·exact .inl (List.mem_of_mem_take hy)
  ·exact .inr (by simpa using hy)
 ·exact .inl (List.mem_of_mem_drop hy)
end Go.Proofs.YtlcipphiflcaiaaGreat.Ai
namespace Go.Proofs.YtlcipphiflcaiaaGreat.Ai
open Go Go.RowKit
def dgRow (n a:Int):Nat->List Int
 | 0=>[]
 | k+1=>dgRow n a k ++ (if 0<a∨a+2+(k:Int)<n - 1 then [10 * a+(a+2+(k:Int))] else [])
def dgs (n:Int):Nat->List Int
 | 0=>[]
 | a+1=>dgs n a ++ dgRow n a (n - a - 2).toNat
def triOkS (n:Int)(xs:List Int)(i:Nat):Bool:=decide (xs.getD i 0 ∈ dgs n n.toNat) && (decide (i=0) || decide (xs.getD (i - 1) 0<xs.getD i 0)) && !(xs.take i).any fun y=>decide (Crs y (xs.getD i 0))
def triS (n:Int)(xs:List Int):Bool:=(List.range xs.length).all (triOkS n xs) && decide ((xs.length:Int)=n - 3)
def At (d c:Int):Prop:=d.tdiv 10=c∨d.tmod 10=c
instance (d c:Int):Decidable (At d c):=inferInstanceAs (Decidable (_∨_))
def atN (xs:List Int)(c:Int):Nat:=(xs.filter fun d=>decide (At d c)).length
def Tri1 (n:Int)(xs:List Int):Prop:=(3<=n/\n<=8)/\triS n xs=true
instance (n:Int) (xs:List Int):Decidable (Tri1 n xs):=inferInstanceAs (Decidable (_/\_))
def Tri2 (n:Int)(xs ys:List Int):Prop:=(3<=n/\n<=8)/\triS n xs=true/\triS n ys=true
instance (n:Int) (xs ys:List Int):Decidable (Tri2 n xs ys):=inferInstanceAs (Decidable (_/\_))
theorem Tri1.len {n:Int}{xs:List Int}(h:Tri1 n xs):(xs.length:Int)=n - 3:=by
 have h:=h.2
 unfold triS at h
 simp only [Bool.and_eq_true,decide_eq_true_eq] at h
 exact h.2
theorem Tri2.a {n:Int}{xs ys:List Int}(h:Tri2 n xs ys):Tri1 n xs:=⟨h.1,h.2.1⟩
theorem Tri2.b {n:Int}{xs ys:List Int}(h:Tri2 n xs ys):Tri1 n ys:=⟨h.1,h.2.2⟩
theorem Tri1.mem {n:Int}{xs:List Int}(h:Tri1 n xs){d:Int}(hd:d ∈ xs):d ∈ dgs n n.toNat:=by
 have h:=h.2
 unfold triS triOkS at h
 simp only [Bool.and_eq_true,List.all_eq_true,decide_eq_true_eq] at h
 obtain ⟨i,hi,e⟩:=List.getElem_of_mem hd
 have:=(h.1 i (List.mem_range.2 hi)).1.1
 rw [List.getD_eq_getElem?_getD,List.getElem?_eq_getElem hi,Option.getD_some,e] at this
 exact this
def cd158:Cd:=(.seq (.reg [⟨⟨some 4,.assign (.const (.int .i64 0)),none⟩,[]⟩]) (.seq (.seq (.reg [⟨⟨some 5,.move (.tmp 0),none⟩,[]⟩,
 ⟨⟨some 6,.move (.tmp 1),none⟩,[]⟩,
 ⟨⟨some 7,.binOp .lss 3 (.tmp 5) (.tmp 6) 3,none⟩,[]⟩]) (.cond (.tmp 7) (.seq (.reg [⟨⟨some 8,.move (.tmp 0),none⟩,[]⟩,
 ⟨⟨some 4,.assign (.tmp 8),none⟩,[]⟩]) .ret) .skip)) (.seq (.reg [⟨⟨some 9,.move (.tmp 1),none⟩,[]⟩,
 ⟨⟨some 4,.assign (.tmp 9),none⟩,[]⟩]) .ret)))
theorem in158:InT Tryz.prog 158 2 [.tmp 4] cd158:=InT.mk (by kernel_rfl) [] Tryz.func158 rfl (by kernel_rfl) (by kernel_rfl) (of_decide_eq_true (by kernel_rfl)) (by kernel_rfl)
end Go.Proofs.YtlcipphiflcaiaaGreat.Ai
namespace Go.Proofs.YtlcipphiflcaiaaGreat.Ai
open Go Go.RowKit
theorem l1Least_c (a b:Int)(H:AH):ACalls Tryz.prog 158 [.int .i64 a,.int .i64 b] H fun r H'=>r=.int .i64 (if a<b then a else b)/\H=H':=by
 refine in158 rfl ?_
 intro Q hQ
 simp (disch:=omega) only [cd158,SS,eq_self,reduceIte,reduceCtorEq,Nat.reduceEqDiff,Nat.reduceAdd]
 refine brD.intro (fun h=>?_) (fun h=>?_) <;> simp (disch:=omega) only [h,SS,eq_self,reduceIte,reduceCtorEq,Nat.reduceEqDiff,Nat.reduceAdd] <;> refine hQ _ _ _ ?_ <;> simp (disch:=omega) only [h,SS,eq_self,reduceIte,reduceCtorEq,Nat.reduceEqDiff,Nat.reduceAdd]
def cd135:Cd:=(.seq (.reg [⟨⟨some 4,.alloc 26,none⟩,[]⟩]) (.seq (.reg [⟨⟨some 11,.move (.tmp 0),none⟩,[]⟩,⟨⟨some 12,.buildSlice 27 7 #[(0,(.const (.int .i64 4))),(1,(.const (.int .i64 5))),(2,(.const (.int .i64 3))),(3,(.const (.int .i64 6))),(4,(.const (.int .i64 2))),(5,(.const (.int .i64 1))),(6,(.const (.int .i64 0)))],none⟩,[]⟩,⟨⟨some 13,.call ⟨(.value (.func 108)),#[.tmp 11,.tmp 12],#[64,27]⟩,none⟩,[]⟩,⟨⟨some 5,.assign (.tmp 13),none⟩,[]⟩]) (.seq (.seq (.reg [⟨⟨some 14,.move (.tmp 1),none⟩,[]⟩,⟨⟨some 15,.binOp .gtr 3 (.tmp 14) (.const (.int .i64 6)) 3,none⟩,[]⟩,⟨⟨some 16,.move (.tmp 15),none⟩,[]⟩,⟨⟨some 17,.move (.tmp 0),some (16,true)⟩,[]⟩,⟨⟨some 18,.call ⟨(.value (.func 86)),#[.tmp 17,(.const (.int .i64 4))],#[64,3]⟩,some (16,true)⟩,[]⟩,⟨⟨some 19,.pick (.tmp 16) (.tmp 18) (.const (.bool false)),none⟩,[]⟩]) (.cond (.tmp 19) (.reg [⟨⟨some 20,.move (.tmp 0),none⟩,[]⟩,⟨⟨some 21,.call ⟨(.value (.func 107)),#[.tmp 20,(.const (.int .i64 2))],#[64,3]⟩,none⟩,[]⟩,⟨⟨some 22,.binOp .add 3 (.const (.int .i64 7)) (.tmp 21) 3,none⟩,[]⟩,⟨⟨some 5,.assign (.tmp 22),none⟩,[]⟩]) .skip)) (.seq (.reg [⟨⟨some 23,.move (.tmp 5),none⟩,[]⟩,
 ⟨⟨some 24,.move (.tmp 1),none⟩,[]⟩,⟨⟨some 25,.call ⟨(.value (.func 158)),#[.tmp 23,.tmp 24],#[3,3]⟩,none⟩,[]⟩,⟨⟨some 5,.assign (.tmp 25),none⟩,[]⟩]) (.seq (.reg [⟨⟨some 26,.move (.tmp 5),none⟩,[]⟩,⟨⟨some 27,.buildSlice 24 0 #[],none⟩,[]⟩,⟨⟨some 28,.build 26 #[(0,.tmp 26),(1,.tmp 27)],none⟩,[]⟩,⟨⟨some 29,.move (.tmp 0),none⟩,[]⟩,⟨⟨some 30,.buildSlice 27 4 #[(0,(.const (.int .i64 1))),(1,(.const (.int .i64 3))),(2,(.const (.int .i64 4))),(3,(.const (.int .i64 6)))],none⟩,[]⟩,⟨⟨some 31,.call ⟨(.value (.func 108)),#[.tmp 29,.tmp 30],#[64,27]⟩,none⟩,[]⟩,⟨⟨some 32,.move (.tmp 0),none⟩,[]⟩,⟨⟨some 33,.call ⟨(.value (.func 86)),#[.tmp 32,(.const (.int .i64 5))],#[64,3]⟩,none⟩,[]⟩,⟨⟨some 6,.alloc 26,none⟩,[]⟩,⟨⟨none,.store 26 (.tmp 6) (.tmp 28),none⟩,[]⟩,
 ⟨⟨some 7,.assign (.tmp 31),none⟩,[]⟩,⟨⟨some 8,.assign (.tmp 33),none⟩,[]⟩]) (.seq (.seq (.reg [⟨⟨some 9,.assign (.const (.int .i64 0)),none⟩,[]⟩]) (.block 0 (.loop (.seq (.seq (.reg [⟨⟨some 34,.move (.tmp 9),none⟩,[]⟩,⟨⟨some 35,.move (.tmp 5),none⟩,[]⟩,⟨⟨some 36,.binOp .lss 3 (.tmp 34) (.tmp 35) 3,none⟩,[]⟩]) (.cond (.tmp 36) .skip (.exit 0))) (.seq (.block 1 (.seq (.seq (.reg [⟨⟨some 39,.move (.tmp 9),none⟩,[]⟩,⟨⟨some 40,.binOp .add 3 (.tmp 39) (.const (.int .i64 1)) 3,none⟩,[]⟩,⟨⟨some 10,.assign (.tmp 40),none⟩,[]⟩]) (.block 2 (.loop (.seq (.seq (.reg [⟨⟨some 41,.move (.tmp 10),none⟩,[]⟩,⟨⟨some 42,.move (.tmp 5),none⟩,[]⟩,⟨⟨some 43,.binOp .lss 3 (.tmp 41) (.tmp 42) 3,none⟩,[]⟩]) (.cond (.tmp 43) .skip (.exit 2))) (.seq (.block 3 (.seq (.reg [⟨⟨some 46,.move (.tmp 0),none⟩,[]⟩,⟨⟨some 47,.move (.tmp 7),none⟩,[]⟩,⟨⟨some 48,.call ⟨(.value (.func 107)),#[.tmp 46,.tmp 47],#[64,3]⟩,none⟩,[]⟩,⟨⟨some 49,.binOp .eql 3 (.tmp 48) (.const (.int .i64 0)) 3,none⟩,[]⟩]) (.cond (.tmp 49) (.reg [⟨⟨some 50,.fieldAddr 26 (.tmp 6) 1,none⟩,[]⟩,⟨⟨some 51,.load 24 (.tmp 50),none⟩,[]⟩,
 ⟨⟨some 52,.move (.tmp 9),none⟩,[]⟩,⟨⟨some 53,.move (.tmp 10),none⟩,[]⟩,⟨⟨some 54,.build 115 #[(0,.tmp 52),(1,.tmp 53)],none⟩,[]⟩,⟨⟨some 55,.call ⟨(.value (.func 109)),#[.tmp 51,.tmp 54],#[24,115]⟩,none⟩,[]⟩,⟨⟨some 56,.fieldAddr 26 (.tmp 6) 1,none⟩,[]⟩,⟨⟨none,.store 24 (.tmp 56) (.tmp 55),none⟩,[]⟩]) .skip))) (.reg [⟨⟨some 44,.move (.tmp 10),none⟩,[]⟩,⟨⟨some 45,.binOp .add 3 (.tmp 44) (.const (.int .i64 1)) 3,none⟩,[]⟩,⟨⟨some 10,.assign (.tmp 45),none⟩,[]⟩])))))) (.seq (.reg [⟨⟨some 57,.move (.tmp 9),none⟩,[]⟩,⟨⟨some 58,.binOp .gtr 3 (.tmp 57) (.const (.int .i64 0)) 3,none⟩,[]⟩,⟨⟨some 59,.move (.tmp 58),none⟩,[]⟩,⟨⟨some 60,.move (.tmp 8),some (59,true)⟩,[]⟩,⟨⟨some 61,.unOp .not 4 (.tmp 60),some (59,true)⟩,[]⟩,
 ⟨⟨some 62,.pick (.tmp 59) (.tmp 61) (.const (.bool false)),none⟩,[]⟩]) (.cond (.tmp 62) (.reg [⟨⟨some 63,.fieldAddr 26 (.tmp 6) 1,none⟩,[]⟩,⟨⟨some 64,.load 24 (.tmp 63),none⟩,[]⟩,⟨⟨some 65,.move (.tmp 0),none⟩,[]⟩,⟨⟨some 66,.move (.tmp 9),none⟩,[]⟩,⟨⟨some 68,.move (.tmp 9),none⟩,[]⟩,⟨⟨some 67,.call ⟨(.value (.func 107)),#[.tmp 65,.tmp 66],#[64,3]⟩,none⟩,[⟨some 64,.load 24 (.tmp 63),none⟩]⟩,⟨⟨some 69,.build 115 #[(0,.tmp 67),(1,.tmp 68)],none⟩,[]⟩,⟨⟨some 70,.call ⟨(.value (.func 109)),#[.tmp 64,.tmp 69],#[24,115]⟩,none⟩,[]⟩,⟨⟨some 71,.fieldAddr 26 (.tmp 6) 1,none⟩,[]⟩,⟨⟨none,.store 24 (.tmp 71) (.tmp 70),none⟩,[]⟩]) .skip)))) (.reg [⟨⟨some 37,.move (.tmp 9),none⟩,[]⟩,⟨⟨some 38,.binOp .add 3 (.tmp 37) (.const (.int .i64 1)) 3,none⟩,[]⟩,⟨⟨some 9,.assign (.tmp 38),none⟩,[]⟩])))))) (.seq (.seq (.reg [⟨⟨some 72,.move (.tmp 0),none⟩,[]⟩,
 ⟨⟨some 73,.call ⟨(.value (.func 107)),#[.tmp 72,(.const (.int .i64 50))],#[64,3]⟩,none⟩,[]⟩]) (.block 4 (.seq (.reg [⟨⟨some 75,.binOp .eql 3 (.tmp 73) (.const (.int .i64 0)) 3,none⟩,[]⟩,⟨⟨some 74,.assign (.tmp 75),none⟩,[]⟩]) (.cond (.tmp 74) (.reg [⟨⟨some 76,.move (.tmp 0),none⟩,[]⟩,⟨⟨some 77,.buildSlice 27 5 #[(0,(.const (.int .i64 (-1)))),(1,(.const (.int .i64 8))),(2,(.const (.int .i64 9))),(3,(.const (.int .i64 0))),(4,(.const (.int .i64 4611686018427387904)))],none⟩,[]⟩,⟨⟨some 78,.call ⟨(.value (.func 108)),#[.tmp 76,.tmp 77],#[64,27]⟩,none⟩,[]⟩,⟨⟨some 79,.fieldAddr 26 (.tmp 6) 0,none⟩,[]⟩,⟨⟨none,.store 3 (.tmp 79) (.tmp 78),none⟩,[]⟩]) (.seq (.reg [⟨⟨some 81,.binOp .eql 3 (.tmp 73) (.const (.int .i64 1)) 3,none⟩,[]⟩,⟨⟨some 80,.assign (.tmp 81),none⟩,[]⟩]) (.cond (.tmp 80) (.reg [⟨⟨some 82,.fieldAddr 26 (.tmp 6) 1,none⟩,[]⟩,⟨⟨some 83,.load 24 (.tmp 82),none⟩,[]⟩,⟨⟨some 84,.move (.tmp 0),none⟩,[]⟩,⟨⟨some 86,.move (.tmp 0),none⟩,[]⟩,⟨⟨some 85,.call ⟨(.value (.func 107)),#[.tmp 84,(.const (.int .i64 4))],#[64,3]⟩,none⟩,[⟨some 83,.load 24 (.tmp 82),none⟩]⟩,⟨⟨some 87,.call ⟨(.value (.func 107)),#[.tmp 86,(.const (.int .i64 9))],#[64,3]⟩,none⟩,[⟨some 83,.load 24 (.tmp 82),none⟩]⟩,
 ⟨⟨some 88,.binOp .sub 3 (.tmp 87) (.const (.int .i64 1)) 3,none⟩,[]⟩,⟨⟨some 89,.build 115 #[(0,.tmp 85),(1,.tmp 88)],none⟩,[]⟩,⟨⟨some 90,.buildSlice 24 1 #[(0,.tmp 89)],none⟩,[]⟩,⟨⟨some 91,.call ⟨(.builtin .append),#[.tmp 83,.tmp 90],#[24,24]⟩,none⟩,[]⟩,⟨⟨some 92,.fieldAddr 26 (.tmp 6) 1,none⟩,[]⟩,⟨⟨none,.store 24 (.tmp 92) (.tmp 91),none⟩,[]⟩]) (.seq (.reg [⟨⟨some 94,.binOp .eql 3 (.tmp 73) (.const (.int .i64 2)) 3,none⟩,[]⟩,⟨⟨some 93,.assign (.tmp 94),none⟩,[]⟩]) (.cond (.tmp 93) (.seq (.reg [⟨⟨some 95,.fieldAddr 26 (.tmp 6) 1,none⟩,[]⟩,⟨⟨some 96,.load 24 (.tmp 95),none⟩,[]⟩,⟨⟨some 97,.call ⟨(.builtin .len),#[.tmp 96],#[24]⟩,none⟩,[]⟩,⟨⟨some 98,.binOp .gtr 3 (.tmp 97) (.const (.int .i64 0)) 3,none⟩,[]⟩]) (.cond (.tmp 98) (.reg [⟨⟨some 99,.fieldAddr 26 (.tmp 6) 1,none⟩,[]⟩,⟨⟨some 100,.load 24 (.tmp 99),none⟩,[]⟩,⟨⟨some 101,.fieldAddr 26 (.tmp 6) 1,none⟩,[]⟩,
 ⟨⟨some 102,.load 24 (.tmp 101),none⟩,[]⟩,⟨⟨some 103,.move (.tmp 0),none⟩,[]⟩,⟨⟨some 104,.fieldAddr 26 (.tmp 6) 1,none⟩,[]⟩,⟨⟨some 105,.load 24 (.tmp 104),none⟩,[]⟩,⟨⟨some 106,.call ⟨(.builtin .len),#[.tmp 105],#[24]⟩,none⟩,[]⟩,⟨⟨some 107,.call ⟨(.value (.func 107)),#[.tmp 103,.tmp 106],#[64,3]⟩,none⟩,[⟨some 102,.load 24 (.tmp 101),none⟩,⟨some 100,.load 24 (.tmp 99),none⟩]⟩,⟨⟨some 108,.indexAddr 24 (.tmp 102) (.tmp 107),none⟩,[]⟩,⟨⟨some 109,.load 115 (.tmp 108),none⟩,[]⟩,⟨⟨some 110,.buildSlice 24 1 #[(0,.tmp 109)],none⟩,[]⟩,⟨⟨some 111,.call ⟨(.builtin .append),#[.tmp 100,.tmp 110],#[24,24]⟩,none⟩,[]⟩,⟨⟨some 112,.fieldAddr 26 (.tmp 6) 1,none⟩,[]⟩,⟨⟨none,.store 24 (.tmp 112) (.tmp 111),none⟩,[]⟩]) .skip)) .skip)))))))) (.seq (.reg [⟨⟨some 113,.load 26 (.tmp 6),none⟩,[]⟩,
 ⟨⟨none,.store 26 (.tmp 4) (.tmp 113),none⟩,[]⟩]) .ret))))))))
theorem in135:InT Tryz.prog 135 2 [.cell 4 26] cd135:=InT.mk (by kernel_rfl) [(15,[(0,false),(1,false),(2,false),(3,false),(5,false),(4,true),(6,false),(7,true),(8,false),(9,true)]),(20,[(0,false),(1,false),(2,false),(4,false),(3,true),(5,true),(6,false),(7,false),(8,false),(9,true),(10,false),(11,true)]),(23,[(0,false),(1,false),(2,false),(3,false),(4,false),(5,false),(6,false),(7,false),(8,true),(9,false),(10,false),(11,false),(12,true),(13,false),(14,true)])] Tryz.func135 rfl (by kernel_rfl) (by kernel_rfl) (of_decide_eq_true (by kernel_rfl)) (by kernel_rfl)
end Go.Proofs.YtlcipphiflcaiaaGreat.Ai
namespace Go.Proofs.YtlcipphiflcaiaaGreat.Ai
open Go Go.RowKit
def Sml (ps:List (Int × Int)):Prop:=∀ y ∈ ps,(-1<=y.1/\y.1<=9) /\ -1<=y.2/\y.2<=9
def GSt (H:AH)(o gp:Nat)(v:Value)(us:List Value)(N L:Nat)(H':AH):Prop :=
 ∃ (n:Int) (w:Value) (ps:List (Int × Int)),H'[H.length]?=some (.cells [.int .i64 0,.slice none 0 0] 26 false)/\H'[gp]?=some (.cells [.int .i64 n,w] 26 false)/\MineP 115 H H' w ps/\rowO w ≠ gp/\(rowO w ≠ H.length∨w=.slice none 0 0)/\I64 n/\ps.length<=L/\Sml ps/\Cur H' o v us N/\Keeps o H H'
theorem MineP.onlyP {e:TypeId}{H0 H H':AH}{o:Nat}{v:Value}{ps:List (Int × Int)}(h:MineP e H0 H v ps)(hk:OnlyO o H H')(ho:o<H0.length):MineP e H0 H' v ps:=h.keepsP hk.keeps ho
theorem GSt.cur {H:AH}{o gp:Nat}{v:Value}{us:List Value}{N M L:Nat}{H' K:AH}(h:GSt H o gp v us N L H')(ho:o<H.length)(hg:o ≠ gp)(hk:OnlyO o H' K)(hc:Cur K o v us M):GSt H o gp v us M L K:=by
 obtain ⟨n,w,ps,h1,h2,h3,h4,h5,h6,h7,h8,h9,h10⟩:=h
 exact ⟨n,w,ps,hk.2 _ _ (by omega) h1,hk.2 _ _ (fun e=>hg e.symm) h2,h3.onlyP hk ho,h4,h5,h6,h7,h8,hc,h10.trans hk.keeps⟩
theorem GSt.pre {H:AH}{o gp:Nat}{v:Value}{us:List Value}{N L:Nat}{H' K:AH}(h:GSt H o gp v us N L H')(hp:H'<+:K):GSt H o gp v us N L K:=by
 obtain ⟨n,w,ps,h1,h2,h3,h4,h5,h6,h7,h8,h9,h10⟩:=h
 exact ⟨n,w,ps,pre_at hp h1,pre_at hp h2,h3.pre hp,h4,h5,h6,h7,h8,h9.pre hp,h10.trans (.of_pre hp)⟩
theorem GSt.more {H:AH}{o gp:Nat}{v:Value}{us:List Value}{N L N' L':Nat}{H':AH}(h:GSt H o gp v us N L H')(hN:N<=N')(hL:L<=L'):GSt H o gp v us N' L' H':=by
 obtain ⟨n,w,ps,h1,h2,h3,h4,h5,h6,h7,h8,h9,h10⟩:=h
 exact ⟨n,w,ps,h1,h2,h3,h4,h5,h6,by omega,h8,h9.more hN,h10⟩
theorem MineP.low {e:TypeId}{H0 H:AH}{v:Value}{ps:List (Int × Int)}(h:MineP e H0 H v ps):v=.slice none 0 0∨H0.length<=rowO v:=by
 rcases h with h | ⟨o,zs,h1,h2,_⟩
 ·exact .inl h.1
 ·exact .inr (by rw [h1];exact h2)
theorem GSt.put {H:AH}{o gp:Nat}{v:Value}{us:List Value}{N M:Nat}{H' K:AH}{n z:Int}{w w2:Value}{ps qs:List (Int × Int)}{N0:Nat}(hv:Cur H o v us N0)(ho:o<H.length)(hg:H.length<gp)
  (h1:H'[H.length]?=some (.cells [.int .i64 0,.slice none 0 0] 26 false))(h2:H'[gp]?=some (.cells [.int .i64 n,w] 26 false))(h3:MineP 115 H H' w ps)(h3g:rowO w ≠ gp)(h3r:rowO w ≠ H.length∨w=.slice none 0 0)(hk:Kept w H' K)(hl:H'.length<=K.length)
  (h4:MineP 115 H K w2 qs)(h5:rowO w2 ≠ gp)(h5b:rowO w2 ≠ H.length∨w2=.slice none 0 0)(h6:I64 z)(h7:qs.length<=M)(h8:Sml qs)(h9:Cur H' o v us N)(h10:Keeps o H H') :
  GSt H o gp v us N M (K.set gp (.cells [.int .i64 z,w2] 26 false)):=by
 have low:=h3.low
 have hk':∀ {j:Nat} {y:AObj},(w=.slice none 0 0∨j ≠ rowO w)->H'[j]?=some y->K[j]?=some y:=fun hj hy=>hk _ _ hj hy
 have kg:=hk' (j:=gp) (.inr fun e=>h3g e.symm) h2
 have hgl:=at_lt kg
 have at_:∀ {j:Nat} {y:AObj},j ≠ gp->K[j]?=some y->(K.set gp (.cells [.int .i64 z,w2] 26 false))[j]?=some y:=fun hj hy=>by rw [List.getElem?_set_ne (fun e=>hj e.symm)];exact hy
 have old:∀ {j:Nat} {y:AObj},j<H.length->H'[j]?=some y->(K.set gp (.cells [.int .i64 z,w2] 26 false))[j]?=some y:=fun {j y} hj hy=>at_ (by omega) (hk' (by
  rcases low with e | e
  ·exact .inl e
  ·exact .inr (by omega)) hy)
 obtain ⟨a,sd,c1,c2,c3⟩:=h9.cur
 refine ⟨z,w2,qs,at_ (by omega) (hk' (by
  rcases h3r with e | e
  ·exact .inr fun q=>e q.symm
  ·exact .inl e) h1),List.getElem?_set_self hgl,h4.keep fun y hy=>at_ h5 hy,h5,h5b,h6,h7,h8,⟨⟨a,sd,old ho c1,c2,c3⟩,h9.row.mono fun y hy=>old ?_ hy,h9.byt,h9.ap,h9.le⟩,⟨by have:=h10.1;simp;omega,fun j y hj hy=>old (at_lt hy) (h10.2 j y hj hy)⟩⟩
 rcases hv.row with q | ⟨o',k',vs',ro',e1,g2,_⟩
 ·rw [q.1]
  show (0:Nat)<H.length
  omega
 ·rw [e1]
  exact at_lt g2
theorem someGraph_c {H:AH}{o:Nat}{v:Value}{us:List Value}{N:Nat}(h:Cur H o v us N)(hN:N<=100000000)(most:Int)(hmost:0<=most/\most<=8) :
  ACalls Tryz.prog 135 [.pointer (some ⟨o,0,none⟩),.int .i64 most] H fun r H'=>∃ (n:Int) (w:Value) (ps:List (Int × Int)),r=.agg (List.toArray [.int .i64 n,w])/\MineP 115 H H' w ps/\I64 n/\ps.length<=200/\Sml ps/\Cur H' o v us (N+1000)/\Keeps o H H':=by
 have ho:o<H.length:=by
  obtain ⟨_,_,g,_⟩:=h.cur
  exact at_lt g
 refine in135 rfl ?_
 intro Q hQ
 rw [cd135]
 generalize hA:H ++ [AObj.cells [.int .i64 0,.slice none 0 0] 26 false]=A
 have pA:H<+:A:=by rw [<- hA];exact List.prefix_append _ _
 have cA:A[H.length]?=some (.cells [.int .i64 0,.slice none 0 0] 26 false):=by rw [<- hA];exact at_new ..
 have lA:A.length=H.length+1:=by rw [<- hA];simp
 have al:=alloc_G H
 rw [hA] at al
 refine cutC (fun s K=>A=K/\s 0=.pointer (some ⟨o,0,none⟩)/\s 1=.int .i64 most/\s 4=.pointer (some ⟨H.length,0,none⟩)) (fun c hc=>?_) ?_
 ·simp (disch:=omega) only [al,SS,eq_self,reduceIte,reduceCtorEq,Nat.reduceEqDiff,Nat.reduceAdd]
  exact hc _ _ ⟨rfl,rfl,rfl,rfl⟩
 rintro s _ ⟨rfl,s0,s1,s4⟩
 have hCA:=h.pre pA
 have blK1:∀ H0:AH,buildSliceA Tryz.prog 27 7 [(0,.int .i64 4),(1,.int .i64 5),(2,.int .i64 3),(3,.int .i64 6),(4,.int .i64 2),(5,.int .i64 1),(6,.int .i64 0)] H0=some (.slice (some ⟨H0.length,0,none⟩) 7 7,H0 ++ [.cells [.int .i64 4,.int .i64 5,.int .i64 3,.int .i64 6,.int .i64 2,.int .i64 1,.int .i64 0] 3 false]):=fun H0=>by kernel_rfl
 refine cutC (fun s K=>s 0=.pointer (some ⟨o,0,none⟩)/\s 1=.int .i64 most/\s 4=.pointer (some ⟨H.length,0,none⟩)/\(∃ n:Int,s 5=.int .i64 n/\0<=n/\n<=8)/\Cur K o v us (N+1)/\Keeps o A K) (fun c hc=>?_) ?_
 ·simp (disch:=omega) only [s0,s1,s4,blK1,SS,eq_self,reduceIte,reduceCtorEq,Nat.reduceEqDiff,Nat.reduceAdd]
  generalize hK1:A ++ [AObj.cells [.int .i64 4,.int .i64 5,.int .i64 3,.int .i64 6,.int .i64 2,.int .i64 1,.int .i64 0] 3 false]=K1
  have pK1:A<+:K1:=by rw [<- hK1];exact List.prefix_append _ _
  have aK1:K1[A.length]?=some (.cells [.int .i64 4,.int .i64 5,.int .i64 3,.int .i64 6,.int .i64 2,.int .i64 1,.int .i64 0] 3 false):=by rw [<- hK1];exact at_new ..
  have wK1:Row 3 K1 (.slice (some ⟨A.length,0,none⟩) 7 7) [4,5,3,6,2,1,0]:=.inr ⟨A.length,0,_,false,rfl,aK1,by simp,rfl⟩
  refine CallH.by (among_c (hCA.pre pK1) (by omega) wK1 (by show A.length ≠ o;omega) (by simp)) ?_
  rintro _ L ⟨⟨x,rfl,hx⟩,hCL,oL⟩
  simp (disch:=omega) only [s0,s1,s4,SS,eq_self,reduceIte,reduceCtorEq,Nat.reduceEqDiff,Nat.reduceAdd]
  exact hc _ _ ⟨s0,s1,s4,⟨x,rfl,by simp at hx;omega⟩,hCL,(Keeps.of_pre pK1).trans oL.keeps⟩
 clear s0 s1 s4 hCA s
 rintro s B ⟨s0,s1,s4,⟨n0,s5,hn0⟩,hCB,kB⟩
 refine cutC (fun s K=>s 0=.pointer (some ⟨o,0,none⟩)/\s 1=.int .i64 most/\s 4=.pointer (some ⟨H.length,0,none⟩)/\(∃ n:Int,s 5=.int .i64 n/\0<=n/\n<=8)/\Cur K o v us (N+3)/\Keeps o A K) (fun c hc=>?_) ?_
 ·simp (disch:=omega) only [s0,s1,s4,s5,SS,eq_self,reduceIte,reduceCtorEq,Nat.reduceEqDiff,Nat.reduceAdd]
  by_cases g:(6:Int)<most
  ·simp (disch:=omega) only [decide_eq_true g,s0,SS,eq_self,reduceIte,reduceCtorEq,Nat.reduceEqDiff,Nat.reduceAdd]
   refine CallH.by (one_c hCB (by omega) 4 (by omega)) ?_
   rintro _ K ⟨⟨b,rfl⟩,hCK,oK⟩
   simp (disch:=omega) only [SS,eq_self,reduceIte,reduceCtorEq,Nat.reduceEqDiff,Nat.reduceAdd]
   cases b with
   | true =>
    refine brH.intro (fun _=>?_) (fun q=>by cases q)
    simp (disch:=omega) only [s0,SS,eq_self,reduceIte,reduceCtorEq,Nat.reduceEqDiff,Nat.reduceAdd]
    refine CallH.by (pick_c hCK (by omega) 2 (by omega)) ?_
    rintro _ L ⟨⟨k,rfl,hk⟩,hCL,oL⟩
    simp (disch:=omega) only [wrap64,SS,eq_self,reduceIte,reduceCtorEq,Nat.reduceEqDiff,Nat.reduceAdd]
    exact hc _ _ ⟨s0,s1,s4,⟨7+(k:Int),rfl,by omega⟩,hCL,kB.trans (oK.keeps.trans oL.keeps)⟩
   | false =>
    refine brH.intro (fun q=>by cases q) (fun _=>?_)
    simp (disch:=omega) only [SS,eq_self,reduceIte,reduceCtorEq,Nat.reduceEqDiff,Nat.reduceAdd]
    exact hc _ _ ⟨s0,s1,s4,⟨n0,s5,hn0⟩,hCK.more (by omega),kB.trans oK.keeps⟩
  ·simp (disch:=omega) only [decide_eq_false g,SS,eq_self,reduceIte,reduceCtorEq,Nat.reduceEqDiff,Nat.reduceAdd]
   exact hc _ _ ⟨s0,s1,s4,⟨n0,s5,hn0⟩,hCB.more (by omega),kB⟩
 clear s0 s1 s4 s5 hCB kB s B hn0 n0
 rintro s B ⟨s0,s1,s4,⟨n0,s5,hn0⟩,hCB,kB⟩
 refine cutC (fun s K=>B=K/\s 0=.pointer (some ⟨o,0,none⟩)/\s 4=.pointer (some ⟨H.length,0,none⟩)/\(∃ n:Nat,s 5=.int .i64 (n:Int)/\n<=8)) (fun c hc=>?_) ?_
 ·simp (disch:=omega) only [s0,s1,s4,s5,SS,eq_self,reduceIte,reduceCtorEq,Nat.reduceEqDiff,Nat.reduceAdd]
  refine CallH.by (l1Least_c n0 most B) ?_
  rintro _ _ ⟨rfl,rfl⟩
  obtain ⟨m,hm,hm8⟩:∃ m:Nat,(if n0<most then n0 else most)=(m:Int)/\m<=8:=by
   split
   ·exact ⟨n0.toNat,by omega,by omega⟩
   ·exact ⟨most.toNat,by omega,by omega⟩
  rw [hm]
  simp (disch:=omega) only [s0,s4,SS,eq_self,reduceIte,reduceCtorEq,Nat.reduceEqDiff,Nat.reduceAdd]
  exact hc _ _ ⟨rfl,s0,s4,m,rfl,hm8⟩
 clear s0 s1 s4 s5 hn0 n0 s
 rintro s _ ⟨rfl,s0,s4,⟨n,s5,hn⟩⟩
 have hAB:=kB.1
 have cB:=kB.2 _ _ (by omega) cA
 have kHB:Keeps o H B:=(Keeps.of_pre pA).trans kB
 have blK2:∀ H0:AH,buildSliceA Tryz.prog 27 4 [(0,.int .i64 1),(1,.int .i64 3),(2,.int .i64 4),(3,.int .i64 6)] H0=some (.slice (some ⟨H0.length,0,none⟩) 4 4,H0 ++ [.cells [.int .i64 1,.int .i64 3,.int .i64 4,.int .i64 6] 3 false]):=fun H0=>by kernel_rfl
 have blG:∀ (n:Int) (p:Option Addr) (k c:Nat),buildA Tryz.prog 26 [(0,.int .i64 n),(1,.slice p k c)]=some (.agg (List.toArray [.int .i64 n,.slice p k c])):=fun _ _ _ _=>by kernel_rfl
 refine cutC (fun s K=>s 0=.pointer (some ⟨o,0,none⟩)/\s 4=.pointer (some ⟨H.length,0,none⟩)/\s 5=.int .i64 (n:Int)/\(∃ gp:Nat,s 6=.pointer (some ⟨gp,0,none⟩)/\H.length<gp/\GSt H o gp v us (N+5) 0 K)/\(∃ d:Int,s 7=.int .i64 d/\1<=d/\d<=6)/\∃ b:Bool,s 8=.bool b) (fun c hc=>?_) ?_
 ·generalize hC:B ++ [AObj.cells [] 115 false]=C
  have pC:B<+:C:=by rw [<- hC];exact List.prefix_append _ _
  have lC:C.length=B.length+1:=by rw [<- hC];simp
  have m0:MineP 115 H C (.slice (some ⟨B.length,0,none⟩) 0 0) []:=by rw [<- hC];exact MineP.nil0 (P:=Tryz.prog) H B (by omega)
  generalize hD:C ++ [AObj.cells [.int .i64 1,.int .i64 3,.int .i64 4,.int .i64 6] 3 false]=D
  have pD:C<+:D:=by rw [<- hD];exact List.prefix_append _ _
  have aD:D[C.length]?=some (.cells [.int .i64 1,.int .i64 3,.int .i64 4,.int .i64 6] 3 false):=by rw [<- hD];exact at_new ..
  have wD:Row 3 D (.slice (some ⟨C.length,0,none⟩) 4 4) [1,3,4,6]:=.inr ⟨C.length,0,_,false,rfl,aD,by simp,rfl⟩
  simp (disch:=omega) only [s0,s4,s5,hC,blG,blK2,hD,SS,eq_self,reduceIte,reduceCtorEq,Nat.reduceEqDiff,Nat.reduceAdd]
  refine CallH.by (among_c (hCB.pre (pC.trans pD)) (by omega) wD (by show C.length ≠ o;omega) (by simp)) ?_
  rintro _ E ⟨⟨d,rfl,hd⟩,hCE,oE⟩
  simp (disch:=omega) only [s0,s4,s5,SS,eq_self,reduceIte,reduceCtorEq,Nat.reduceEqDiff,Nat.reduceAdd]
  refine CallH.by (one_c hCE (by omega) 5 (by omega)) ?_
  rintro _ F ⟨⟨b,rfl⟩,hCF,oF⟩
  have kBF:Keeps o B F:=(Keeps.of_pre (pC.trans pD)).trans (oE.keeps.trans oF.keeps)
  have mF:MineP 115 H F (.slice (some ⟨B.length,0,none⟩) 0 0) []:=((m0.pre pD).onlyP oE ho).onlyP oF ho
  have st1:=st_G mF.row (at_new F (.cells [.int .i64 0,.slice none 0 0] 26 false)) rfl (n:Int)
  rw [set_new] at st1
  simp (disch:=omega) only [s0,s4,s5,alloc_G,st1,SS,eq_self,reduceIte,reduceCtorEq,Nat.reduceEqDiff,Nat.reduceAdd]
  have pG:F<+:F ++ [AObj.cells [.int .i64 (n:Int),.slice (some ⟨B.length,0,none⟩) 0 0] 26 false]:=List.prefix_append _ _
  have lF:=kBF.1
  have lD:D.length=C.length+1:=by rw [<- hD];simp
  have lEF:F.length=D.length:=by rw [oF.1,oE.1]
  refine hc _ _ ⟨s0,s4,s5,⟨F.length,rfl,by omega,n,.slice (some ⟨B.length,0,none⟩) 0 0,[],?_,at_new ..,mF.pre pG,?_,.inl ?_,⟨by omega,by omega⟩,Nat.le_refl _,fun y hy=>by simp at hy,(hCF.more (by omega)).pre pG,kHB.trans (kBF.trans (.of_pre pG))⟩,⟨d,rfl,by simp at hd;omega⟩,b,rfl⟩
  ·exact pre_at pG (kBF.2 _ _ (by omega) cB)
  ·show B.length ≠ F.length;omega
  ·show B.length ≠ H.length;omega
 clear s0 s4 s5 cB kHB hAB hCB kB s
 rintro s K ⟨s0,s4,s5,⟨gp,s6,hgp,hG⟩,⟨d,s7,hd⟩,lb,s8⟩
 clear B
 have put:∀ {N1 L1:Nat} {K1:AH} (a b:Int),GSt H o gp v us N1 L1 K1->L1<=500->((-1<=a/\a<=9) /\ -1<=b/\b<=9)->∃ n' w',cellA K1 gp 1=some w'/\K1[gp]?=some (.cells [.int .i64 n',w'] 26 false)/\ACalls Tryz.prog 109 [w',.agg (List.toArray [.int .i64 a,.int .i64 b])] K1 fun r K2=>∃ K3,storeA Tryz.prog 24 (.pointer (some ⟨gp,1,none⟩)) r K2=some K3/\isTup r=false/\GSt H o gp v us N1 (L1+1) K3:=by
  rintro N1 L1 K1 a b ⟨n',w',ps,q1,q2,q3,q4,q5,q6,q7,q8,q9,q10⟩ hL hab
  refine ⟨n',w',cell_of q2 1,q2,(l2PutPair_c w' ps a b q3 (by have:=q10.1;omega) (by omega)).mono fun r K2 hr=>?_⟩
  obtain ⟨qs,r1,r2,r3,r4,r5⟩:=hr
  have lgp:=at_lt q2
  have r6:rowO r ≠ gp:=by
   rcases r4 with e | e
   ·rw [e];exact q4
   ·omega
  have r7:rowO r ≠ H.length∨r=.slice none 0 0:=by
   rcases r4 with e | e
   ·rw [e];exact q5
   ·exact .inl (by omega)
  obtain ⟨q,hq⟩:=r1.row.shape
  have t2:r.cells.toList=[r]:=by rw [hq];rfl
  have hst:=st_at (P:=Tryz.prog) (t:=24) (i:=1) (y:=r) cs24 (pre_at r5 q2) (by show 1<2;decide) r1.row.tup t2
  exact ⟨_,hst,r1.row.tup,GSt.put h ho hgp q1 q2 q3 q4 q5 (fun j y _ hy=>pre_at r5 hy) r5.length_le r1 r6 r7 q6 (by omega:qs.length<=L1+1) (fun y hy=>by
   rcases r3 y hy with e | e
   ·exact q8 y e
   ·rw [e];exact hab) q9 q10⟩
 refine cutC (fun s K=>s 0=.pointer (some ⟨o,0,none⟩)/\s 4=.pointer (some ⟨H.length,0,none⟩)/\s 6=.pointer (some ⟨gp,0,none⟩)/\GSt H o gp v us (N+200) 100 K) (fun c hc=>?_) ?_
 ·simp (disch:=omega) only [s0,s4,s5,s6,s7,s8,SS,eq_self,reduceIte,reduceCtorEq,Nat.reduceEqDiff,Nat.reduceAdd]
  refine LoopH.by (fun m s K=>∃ x:Nat,m+x=n/\s 0=.pointer (some ⟨o,0,none⟩)/\s 4=.pointer (some ⟨H.length,0,none⟩)/\s 5=.int .i64 (n:Int)/\s 6=.pointer (some ⟨gp,0,none⟩)/\s 7=.int .i64 d/\s 8=.bool lb/\s 9=.int .i64 (x:Int)/\GSt H o gp v us (N+5+x * 10) (x * 10) K) n ?_ ?_
  ·refine ⟨0,by omega,?_⟩
   simp (disch:=omega) only [s0,s4,s5,s6,s7,s8,SS,eq_self,reduceIte,reduceCtorEq,Nat.reduceEqDiff,Nat.reduceAdd]
   have f1:=hG.more (show N+5<=N+5+0 * 10 by omega) (show 0<=0 * 10 by omega)
   (repeat' first | exact f1 | apply And.intro) <;> first | (simp only [Value.int.injEq,true_and];omega) | omega | rfl | assumption | (simp;done) | (simp;omega)
  clear s0 s4 s5 s6 s7 s8 hG s K
  rintro m s K ⟨x,hm,s0,s4,s5,s6,s7,s8,s9,hG⟩
  simp (disch:=omega) only [s0,s4,s5,s6,s7,s8,s9,SS,eq_self,reduceIte,reduceCtorEq,Nat.reduceEqDiff,Nat.reduceAdd]
  refine brD.intro (fun g=>?_) (fun g=>?_)
  rotate_left
  ·simp (disch:=omega) only [s0,s4,s6,SS,eq_self,reduceIte,reduceCtorEq,Nat.reduceEqDiff,Nat.reduceAdd]
   exact hc _ _ ⟨s0,s4,s6,hG.more (by omega) (by omega)⟩
  have hx:x<n:=by omega
  simp (disch:=omega) only [s0,s4,s5,s6,s7,s8,s9,wrap64,SS,eq_self,reduceIte,reduceCtorEq,Nat.reduceEqDiff,Nat.reduceAdd]
  refine LoopH.by (fun m' s K=>∃ j:Nat,m'+j=n - (x+1)/\s 0=.pointer (some ⟨o,0,none⟩)/\s 4=.pointer (some ⟨H.length,0,none⟩)/\s 5=.int .i64 (n:Int)/\s 6=.pointer (some ⟨gp,0,none⟩)/\s 7=.int .i64 d/\s 8=.bool lb/\s 9=.int .i64 (x:Int)/\s 10=.int .i64 ((x+1+j:Nat):Int)/\GSt H o gp v us (N+5+x * 10+j) (x * 10+j) K) (n - (x+1)) ?_ ?_
  ·refine ⟨0,by omega,?_⟩
   simp (disch:=omega) only [s0,s4,s5,s6,s7,s8,s9,SS,eq_self,reduceIte,reduceCtorEq,Nat.reduceEqDiff,Nat.reduceAdd]
   (repeat' first | exact hG | apply And.intro) <;> first | (simp only [Value.int.injEq,true_and];omega) | omega | rfl | assumption | (simp;done) | (simp;omega)
  clear s0 s4 s5 s6 s7 s8 s9 hG s K
  rintro m' s K ⟨j,hm',s0,s4,s5,s6,s7,s8,s9,s10,hG⟩
  simp (disch:=omega) only [s0,s4,s5,s6,s7,s8,s9,s10,SS,eq_self,reduceIte,reduceCtorEq,Nat.reduceEqDiff,Nat.reduceAdd]
  refine brD.intro (fun g2=>?_) (fun g2=>?_)
  ·have hC:∃ a,Cur K o v us a/\a=N+5+x * 10+j:=by
    obtain ⟨_,_,_,_,_,_,_,_,_,_,_,q,_⟩:=hG
    exact ⟨_,q,rfl⟩
   obtain ⟨_,hC,rfl⟩:=hC
   simp (disch:=omega) only [s0,s7,SS,eq_self,reduceIte,reduceCtorEq,Nat.reduceEqDiff,Nat.reduceAdd]
   refine CallH.by (pick_c hC (by omega) d (by omega)) ?_
   rintro _ L ⟨⟨k,rfl,_⟩,hCL,oL⟩
   have hGL:=hG.cur ho (by omega) oL hCL
   simp (disch:=omega) only [SS,eq_self,reduceIte,reduceCtorEq,Nat.reduceEqDiff,Nat.reduceAdd]
   refine brD.intro (fun z=>?_) (fun z=>?_)
   ·obtain ⟨n',w',c1,c2,hput⟩:=put (x:Int) ((x+1+j:Nat):Int) hGL (by omega) (by omega)
    simp (disch:=omega) only [s6,c1,s9,s10,build_a2,SS,eq_self,reduceIte,reduceCtorEq,Nat.reduceEqDiff,Nat.reduceAdd]
    refine CallH.by hput ?_
    rintro r K2 ⟨K3,e2,e1,e3⟩
    simp (disch:=omega) only [s6,e2,s0,s4,s5,s7,s8,s9,s10,wrap64,SS,eq_self,reduceIte,reduceCtorEq,Nat.reduceEqDiff,Nat.reduceAdd]
    have f1:=e3.more (show N+5+x * 10+j+1<=N+5+x * 10+(j+1) by omega) (show x * 10+j+1<=x * 10+(j+1) by omega)
    refine ⟨m' - 1,by omega,j+1,?_⟩
    (repeat' first | exact f1 | apply And.intro) <;> first | (simp only [Value.int.injEq,true_and];omega) | omega | rfl | assumption | (simp;done) | (simp;omega)
   ·simp (disch:=omega) only [s6,s0,s4,s5,s7,s8,s9,s10,wrap64,SS,eq_self,reduceIte,reduceCtorEq,Nat.reduceEqDiff,Nat.reduceAdd]
    have f1:=hGL.more (show N+5+x * 10+j+1<=N+5+x * 10+(j+1) by omega) (show x * 10+j<=x * 10+(j+1) by omega)
    refine ⟨m' - 1,by omega,j+1,?_⟩
    (repeat' first | exact f1 | apply And.intro) <;> first | (simp only [Value.int.injEq,true_and];omega) | omega | rfl | assumption | (simp;done) | (simp;omega)
  have hjn:j<=8:=by omega
  have next:∀ {K3:AH},GSt H o gp v us (N+5+x * 10+9) (x * 10+9) K3->GSt H o gp v us (N+5+(x+1) * 10) ((x+1) * 10) K3:=fun q=>q.more (by omega) (by omega)
  have hG9:=hG.more (show N+5+x * 10+j<=N+5+x * 10+8 by omega) (show x * 10+j<=x * 10+8 by omega)
  simp (disch:=omega) only [s0,s4,s5,s6,s7,s8,s9,SS,eq_self,reduceIte,reduceCtorEq,Nat.reduceEqDiff,Nat.reduceAdd]
  by_cases z:(0:Int)<(x:Int)
  ·cases lb with
   | false =>
    have hC:∃ a,Cur K o v us a/\a=N+5+x * 10+8:=by
     obtain ⟨_,_,_,_,_,_,_,_,_,_,_,q,_⟩:=hG9
     exact ⟨_,q,rfl⟩
    obtain ⟨_,hC,rfl⟩:=hC
    have hG9':=hG9
    obtain ⟨n0,w0,_,g1,g2,_⟩:=hG9'
    have g3:=cell_of g2 1
    simp (disch:=omega) only [decide_eq_true z,s8,s0,s6,s9,g3,SS,eq_self,reduceIte,reduceCtorEq,Nat.reduceEqDiff,Nat.reduceAdd]
    refine CallH.by (pick_c hC (by omega) (x:Int) (by omega)) ?_
    rintro _ L ⟨⟨k,rfl,hk⟩,hCL,oL⟩
    have hGL:=hG9.cur ho (by omega) oL hCL
    obtain ⟨n',w',c1,c2,hput⟩:=put (k:Int) (x:Int) hGL (by omega) (by omega)
    have e0:w0=w':=by
     have:=(oL.2 gp _ (by omega) g2).symm.trans c2
     simp only [Option.some.injEq,AObj.cells.injEq,List.cons.injEq] at this
     exact this.1.2.1
    subst e0
    simp (disch:=omega) only [s6,s9,c1,build_a2,SS,eq_self,reduceIte,reduceCtorEq,Nat.reduceEqDiff,Nat.reduceAdd]
    refine CallH.by hput ?_
    rintro r K2 ⟨K3,e2,e1,e3⟩
    simp (disch:=omega) only [s6,e2,s0,s4,s5,s7,s8,s9,wrap64,SS,eq_self,reduceIte,reduceCtorEq,Nat.reduceEqDiff,Nat.reduceAdd]
    have f1:=next (e3.more (by omega) (by omega))
    refine ⟨m - 1,by omega,x+1,?_⟩
    (repeat' first | exact f1 | apply And.intro) <;> first | (simp only [Value.int.injEq,true_and];omega) | omega | rfl | assumption | (simp;done) | (simp;omega)
   | true =>
    simp (disch:=omega) only [decide_eq_true z,s0,s4,s5,s6,s7,s8,s9,wrap64,SS,eq_self,reduceIte,reduceCtorEq,Nat.reduceEqDiff,Nat.reduceAdd]
    have f1:=next (hG9.more (by omega) (by omega))
    refine ⟨m - 1,by omega,x+1,?_⟩
    (repeat' first | exact f1 | apply And.intro) <;> first | (simp only [Value.int.injEq,true_and];omega) | omega | rfl | assumption | (simp;done) | (simp;omega)
  ·simp (disch:=omega) only [decide_eq_false z,s0,s4,s5,s6,s7,s8,s9,wrap64,SS,eq_self,reduceIte,reduceCtorEq,Nat.reduceEqDiff,Nat.reduceAdd]
   have f1:=next (hG9.more (by omega) (by omega))
   refine ⟨m - 1,by omega,x+1,?_⟩
   (repeat' first | exact f1 | apply And.intro) <;> first | (simp only [Value.int.injEq,true_and];omega) | omega | rfl | assumption | (simp;done) | (simp;omega)
 clear s0 s4 s5 s6 s7 s8 hG s K put
 rintro s K ⟨s0,s4,s6,hG⟩
 refine cutC (fun s K=>s 4=.pointer (some ⟨H.length,0,none⟩)/\s 6=.pointer (some ⟨gp,0,none⟩)/\GSt H o gp v us (N+250) 150 K) (fun c hc=>?_) ?_
 ·have hG':=hG
  obtain ⟨n1,w,ps,q1,q2,q3,q4,q5,q6,q7,q8,q9,q10⟩:=hG'
  simp (disch:=omega) only [s0,SS,eq_self,reduceIte,reduceCtorEq,Nat.reduceEqDiff,Nat.reduceAdd]
  refine CallH.by (pick_c q9 (by omega) 50 (by omega)) ?_
  rintro _ L ⟨⟨k,rfl,_⟩,hCL,oL⟩
  have hGL:=hG.cur ho (by omega) oL hCL
  clear hG q1 q2 q3 q4 q5 q6 q7 q8 q9 q10 w ps n1
  have hGL':=hGL
  obtain ⟨n1,w,ps,q1,q2,q3,q4,q5,q6,q7,q8,q9,q10⟩:=hGL'
  have lgp:=at_lt q2
  have lHL:=q10.1
  simp (disch:=omega) only [s0,s4,s6,SS,eq_self,reduceIte,reduceCtorEq,Nat.reduceEqDiff,Nat.reduceAdd]
  by_cases z0:(k:Int)=0
  ·simp (disch:=omega) only [decide_eq_true z0,s0,s4,s6,SS,eq_self,reduceIte,reduceCtorEq,Nat.reduceEqDiff,Nat.reduceAdd]
   have blK3:∀ H0:AH,buildSliceA Tryz.prog 27 5 [(0,.int .i64 (-1)),(1,.int .i64 8),(2,.int .i64 9),(3,.int .i64 0),(4,.int .i64 4611686018427387904)] H0=some (.slice (some ⟨H0.length,0,none⟩) 5 5,H0 ++ [.cells [.int .i64 (-1),.int .i64 8,.int .i64 9,.int .i64 0,.int .i64 4611686018427387904] 3 false]):=fun H0=>by kernel_rfl
   simp (disch:=omega) only [blK3,SS,eq_self,reduceIte,reduceCtorEq,Nat.reduceEqDiff,Nat.reduceAdd]
   generalize hK1:L ++ [AObj.cells [.int .i64 (-1),.int .i64 8,.int .i64 9,.int .i64 0,.int .i64 4611686018427387904] 3 false]=K1
   have pK1:L<+:K1:=by rw [<- hK1];exact List.prefix_append _ _
   have aK1:K1[L.length]?=some (.cells [.int .i64 (-1),.int .i64 8,.int .i64 9,.int .i64 0,.int .i64 4611686018427387904] 3 false):=by rw [<- hK1];exact at_new ..
   have wK1:Row 3 K1 (.slice (some ⟨L.length,0,none⟩) 5 5) [-1,8,9,0,4611686018427387904]:=.inr ⟨L.length,0,_,false,rfl,aK1,by simp,rfl⟩
   refine CallH.by (among_c (q9.pre pK1) (by omega) wK1 (by show L.length ≠ o;omega) (by simp)) ?_
   rintro _ M ⟨⟨y,rfl,hy⟩,hCM,oM⟩
   have hGM:=(hGL.pre pK1).cur ho (by omega) oM hCM
   obtain ⟨n2,w2,ps2,t1,t2,t3,t4,t5,t6,t7,t8,t9,t10⟩:=hGM
   have hst:=st_at (P:=Tryz.prog) (t:=3) (i:=0) (y:=.int .i64 y) cs3 t2 (by show 0<2;decide) rfl rfl
   have hy64:I64 y:=by simp at hy;exact ⟨by omega,by omega⟩
   simp (disch:=omega) only [s6,hst,SS,eq_self,reduceIte,reduceCtorEq,Nat.reduceEqDiff,Nat.reduceAdd]
   exact hc _ _ ⟨s4,s6,(GSt.put h ho hgp t1 t2 t3 t4 t5 (fun j y _ hy=>hy) (Nat.le_refl _) t3 t4 t5 hy64 t7 t8 t9 t10).more (by omega) (by omega)⟩
  by_cases z1:(k:Int)=1
  ·have hz0:¬ (k:Int)=0:=z0
   simp (disch:=omega) only [decide_eq_false hz0,decide_eq_true z1,s0,s4,s6,cell_of q2,SS,eq_self,reduceIte,reduceCtorEq,Nat.reduceEqDiff,Nat.reduceAdd]
   refine CallH.by (pick_c q9 (by omega) 4 (by omega)) ?_
   rintro _ M ⟨⟨a,rfl,ha⟩,hCM,oM⟩
   have c2:=oM.2 gp _ (by omega) q2
   simp (disch:=omega) only [s0,s6,cell_of c2,SS,eq_self,reduceIte,reduceCtorEq,Nat.reduceEqDiff,Nat.reduceAdd]
   refine CallH.by (pick_c hCM (by omega) 9 (by omega)) ?_
   rintro _ P ⟨⟨b,rfl,hb⟩,hCP,oP⟩
   have hGP:=(hGL.cur ho (by omega) oM hCM).cur ho (by omega) oP hCP
   obtain ⟨n2,w2,ps2,t1,t2,t3,t4,t5,t6,t7,t8,t9,t10⟩:=hGP
   have e0:w=w2:=by
    have:=(oP.2 gp _ (by omega) c2).symm.trans t2
    simp only [Option.some.injEq,AObj.cells.injEq,List.cons.injEq] at this
    exact this.1.2.1
   subst e0
   obtain ⟨H0,hp0,hb0⟩:∃ H0:AH,H0<+:P/\H0.length=H.length:=⟨P.take H.length,List.take_prefix _ _,by have:=t10.1;simp;omega⟩
   have hw1:IntKind.i64.wrap ((b:Int) - 1)=(b:Int) - 1:=wrap64 (by omega) (by omega)
   obtain ⟨w3,K3,k1,k2,k3,k4,k5,k6⟩:=own1_24 (t3.rebase hb0) hp0 (by omega) (a:Int) ((b:Int) - 1)
   obtain ⟨q,hq⟩:=k2.row.shape
   have tt:w3.cells.toList=[w3]:=by rw [hq];rfl
   have lP:=at_lt t2
   have kg:=k4 gp _ (.inr fun e=>t4 e.symm) t2
   have hst:=st_at (P:=Tryz.prog) (t:=24) (i:=1) (y:=w3) cs24 kg (by show 1<2;decide) k6 tt
   simp (disch:=omega) only [s6,cell_of t2,hw1,build_a2,k1,hst,SS,eq_self,reduceIte,reduceCtorEq,Nat.reduceEqDiff,Nat.reduceAdd]
   have l3:P.length<=K3.length:=by
    obtain ⟨o3,z3,e1,e2,e3,_⟩:∃ o3 zs,w3=.slice (some ⟨o3,0,none⟩) (ps2 ++ [((a:Int),(b:Int) - 1)]).length (ps2 ++ [((a:Int),(b:Int) - 1)]).length/\H0.length<=o3/\K3[o3]?=some (.cells (ints zs) 115 false)/\True:=by
     rcases k2 with ⟨_,e⟩ | ⟨o3,zs,e1,e2,e3,_⟩
     ·simp at e
     ·exact ⟨o3,zs,e1,e2,e3,trivial⟩
    have:=at_lt e3
    rw [e1] at k5
    have k5':P.length<=o3:=k5
    omega
   exact hc _ _ ⟨s4,s6,(GSt.put (M:=200 - 50) h ho hgp t1 t2 t3 t4 t5 k4 l3 (k2.rebase hb0.symm) (by omega) (.inl (by omega)) t6 (by simp;omega) (fun y hy=>by
    rcases List.mem_append.1 hy with e | e
    ·exact t8 y e
    ·rw [List.mem_singleton] at e;rw [e];simp only;omega) t9 t10).more (by omega) (by omega)⟩
  by_cases z2:(k:Int)=2
  ·have hz0:¬ (k:Int)=0:=z0
   have hz1:¬ (k:Int)=1:=z1
   simp (disch:=omega) only [decide_eq_false hz0,decide_eq_false hz1,decide_eq_true z2,s0,s4,s6,cell_of q2,q3.row.len Tryz.underlying24,SS,eq_self,reduceIte,reduceCtorEq,Nat.reduceEqDiff,Nat.reduceAdd]
   by_cases z3:(0:Int)<(ps.length:Int)
   rotate_left
   ·simp (disch:=omega) only [decide_eq_false z3,SS,eq_self,reduceIte,reduceCtorEq,Nat.reduceEqDiff,Nat.reduceAdd]
    exact hc _ _ ⟨s4,s6,hGL.more (by omega) (by omega)⟩
   simp (disch:=omega) only [decide_eq_true z3,s0,s4,s6,cell_of q2,q3.row.len Tryz.underlying24,SS,eq_self,reduceIte,reduceCtorEq,Nat.reduceEqDiff,Nat.reduceAdd]
   refine CallH.by (pick_c q9 (by omega) (ps.length:Int) (by omega)) ?_
   rintro _ P ⟨⟨a,rfl,ha⟩,hCP,oP⟩
   have hal:a<ps.length:=by omega
   have t2:=oP.2 gp _ (by omega) q2
   have t3:=q3.onlyP oP ho
   have t1:=oP.2 H.length _ (by omega) q1
   have t10:=q10.trans oP.keeps
   obtain ⟨H0,hp0,hb0⟩:∃ H0:AH,H0<+:P/\H0.length=H.length:=⟨P.take H.length,List.take_prefix _ _,by have:=t10.1;simp;omega⟩
   have hm:=q8 (ps.getD a (0,0)) (by simp [hal])
   obtain ⟨w3,K3,k1,k2,k3,k4,k5,k6⟩:=own1_24 (t3.rebase hb0) hp0 (by omega) (ps.getD a (0,0)).1 (ps.getD a (0,0)).2
   obtain ⟨q,hq⟩:=k2.row.shape
   have tt:w3.cells.toList=[w3]:=by rw [hq];rfl
   have lP:=at_lt t2
   have kg:=k4 gp _ (.inr fun e=>q4 e.symm) t2
   have hst:=st_at (P:=Tryz.prog) (t:=24) (i:=1) (y:=w3) cs24 kg (by show 1<2;decide) k6 tt
   simp (disch:=omega) only [s6,cell_of t2,t3.row.ix Tryz.underlying24 cs115,Int.toNat_natCast,t3.row.ld ag115 cs115 hal,k1,hst,SS,eq_self,reduceIte,reduceCtorEq,Nat.reduceEqDiff,Nat.reduceAdd]
   have l3:P.length<=K3.length:=by
    obtain ⟨o3,z3,e1,e2,e3,_⟩:∃ o3 zs,w3=.slice (some ⟨o3,0,none⟩) (ps ++ [((ps.getD a (0,0)).1,(ps.getD a (0,0)).2)]).length (ps ++ [((ps.getD a (0,0)).1,(ps.getD a (0,0)).2)]).length/\H0.length<=o3/\K3[o3]?=some (.cells (ints zs) 115 false)/\True:=by
     rcases k2 with ⟨_,e⟩ | ⟨o3,zs,e1,e2,e3,_⟩
     ·simp at e
     ·exact ⟨o3,zs,e1,e2,e3,trivial⟩
    have:=at_lt e3
    rw [e1] at k5
    have k5':P.length<=o3:=k5
    omega
   exact hc _ _ ⟨s4,s6,(GSt.put (M:=200 - 50) h ho hgp t1 t2 t3 q4 q5 k4 l3 (k2.rebase hb0.symm) (by omega) (.inl (by omega)) q6 (by simp;omega) (fun y hy=>by
    rcases List.mem_append.1 hy with e | e
    ·exact q8 y e
    ·rw [List.mem_singleton] at e;rw [e];exact hm) hCP t10).more (by omega) (by omega)⟩
  ·have hz0:¬ (k:Int)=0:=z0
   have hz1:¬ (k:Int)=1:=z1
   have hz2:¬ (k:Int)=2:=z2
   simp (disch:=omega) only [decide_eq_false hz0,decide_eq_false hz1,decide_eq_false hz2,s0,s4,s6,SS,eq_self,reduceIte,reduceCtorEq,Nat.reduceEqDiff,Nat.reduceAdd]
   exact hc _ _ ⟨s4,s6,hGL.more (by omega) (by omega)⟩
 clear s0 s4 s6 hG s K
 rintro s K ⟨s4,s6,n1,w,ps,q1,q2,q3,q4,q5,q6,q7,q8,q9,q10⟩
 have hst:=st_G q3.row q1 rfl n1
 simp (disch:=omega) only [s4,s6,ld_agg ag26 cs26 q2,hst,SS,eq_self,reduceIte,reduceCtorEq,Nat.reduceEqDiff,Nat.reduceAdd]
 have d4:=at_set (d:=.cells [.int .i64 n1,w] 26 false) q1
 have at_:∀ {j:Nat} {y:AObj},j ≠ H.length->K[j]?=some y->(K.set H.length (.cells [.int .i64 n1,w] 26 false))[j]?=some y:=fun hj hy=>by rw [List.getElem?_set_ne (fun e=>hj e.symm)];exact hy
 obtain ⟨a,sd,c1,c2,c3⟩:=q9.cur
 refine hQ _ _ _ (end_cell _ _ _ _ _ _ (.agg (List.toArray [.int .i64 n1,w])) ?_ rfl ⟨n1,w,ps,rfl,?_,q6,by omega,q8,⟨⟨a,sd,at_ (by omega) c1,by omega,c3⟩,q9.row.mono fun y hy=>at_ ?_ hy,q9.byt,q9.ap,q9.le⟩,⟨by have:=q10.1;simp;omega,fun j y hj hy=>at_ (by have:=at_lt hy;omega) (q10.2 j y hj hy)⟩⟩)
 ·simp (disch:=omega) only [s4,ld_agg ag26 cs26 d4,SS,eq_self,reduceIte,reduceCtorEq,Nat.reduceEqDiff,Nat.reduceAdd]
 ·rcases q5 with e | e
  ·exact q3.keep fun y hy=>at_ e hy
  ·rcases q3 with z | ⟨_,_,z,_⟩
   ·exact .inl z
   ·rw [z] at e;cases e
 ·rcases h.row with q | ⟨o',k',vs',ro',e1,g2,_⟩
  ·rw [q.1]
   show (0:Nat) ≠ H.length
   omega
  ·rw [e1]
   have:=at_lt g2
   show o' ≠ H.length
   omega
def pmT (rec:List Int->List (List Int))(b:List Int):Nat->Nat->List (List Int)
 | 0,_=>[]
 | d+1,c=>(if (c:Int) ∈ b then [] else rec (b ++ [(c:Int)])) ++ pmT rec b d (c+1)
def pmG (n:Nat):Nat->List Int->List (List Int)
 | 0=>fun b=>[b]
 | f+1=>fun b=>pmT (pmG n f) b n 0
def pms (n:Nat):List (List Int):=pmG n n []
theorem pmT_mem {rec:List Int->List (List Int)}{b q:List Int}{x:Nat}(hx:(x:Int) ∉ b)(hq:q ∈ rec (b ++ [(x:Int)])):∀ d c,c<=x->x<c+d->q ∈ pmT rec b d c
 | 0,c,h1,h2=>by omega
 | d+1,c,h1,h2=>by
  simp only [pmT,List.mem_append]
  by_cases e:c=x
  ·subst e;left;rw [if_neg hx];exact hq
  ·right;exact pmT_mem hx hq d (c+1) (by omega) (by omega)
theorem pmG_mem (n:Nat):∀ (r b:List Int),(∀ x ∈ r,0<=x/\x<n)->(b ++ r).Nodup->b ++ r ∈ pmG n r.length b
 | [],b,_,_=>by simp [pmG]
 | x :: r,b,hr,hn=>by
  have hx:=hr x (by simp)
  obtain ⟨k,rfl⟩:∃ k:Nat,x=k:=⟨x.toNat,by omega⟩
  have hp:=List.pairwise_append.1 hn
  have hxb:(k:Int) ∉ b:=fun h=>hp.2.2 _ h _ (by simp) rfl
  have e:b ++ (k:Int) :: r=(b ++ [(k:Int)]) ++ r:=by simp
  rw [e] at hn ⊢
  show _ ∈ pmT (pmG n r.length) b n 0
  exact pmT_mem hxb (pmG_mem n r (b ++ [(k:Int)]) (fun y hy=>hr y (by simp [hy])) hn) n 0 (by omega) (by omega)
theorem allIn_le:∀ (m:Nat) (l:List Int),(∀ z:Nat,z<m->(z:Int) ∈ l)->m<=l.length
 | 0,_,_=>Nat.zero_le _
 | m+1,l,h=>by
  have hm:=h m (by omega)
  have:=allIn_le m (l.erase (m:Int)) (fun z hz=>(List.mem_erase_of_ne (by omega)).2 (h z (by omega)))
  rw [List.length_erase_of_mem hm] at this
  have:0<l.length:=List.length_pos_of_mem hm
  omega
theorem erase_all {p:List Int}{m:Nat}(h:∀ z:Nat,z<m->(z:Int) ∈ p)(hl:p.length=m){j:Nat}(hj:j<p.length)(hd:∀ z:Nat,z<m->(z:Int)=p[j]->(z:Int) ∈ p.take j ++ p.drop (j+1)):False:=by
 have:=allIn_le m (p.take j ++ p.drop (j+1)) (fun z hz=>by
  have hm:=h z hz
  by_cases e:(z:Int)=p[j]
  ·exact hd z hz e
  ·have e2:p=p.take j ++ p[j] :: p.drop (j+1):=by rw [List.getElem_cons_drop];exact (List.take_append_drop j p).symm
   rw [e2] at hm
   simp only [List.mem_append,List.mem_cons] at hm ⊢
   rcases hm with hm | hm | hm
   ·exact .inl hm
   ·exact absurd hm e
   ·exact .inr hm)
 simp only [List.length_append,List.length_take,List.length_drop] at this
 omega
theorem prm_nodup {p:List Int}(h:Prm p):p.Nodup:=by
 rw [List.Nodup,List.pairwise_iff_getElem]
 intro i j hi hj hij e
 refine erase_all h.2 rfl hj (fun z hz ez=>?_)
 rw [ez,<- e]
 refine List.mem_append.2 (.inl ?_)
 have:(p.take j)[i]'(by simp;omega)=p[i]:=by simp
 rw [<- this];exact List.getElem_mem _
theorem prm_rng {p:List Int}(h:Prm p):∀ x ∈ p,0<=x/\x<p.length:=by
 intro x hx
 apply Decidable.byContradiction
 intro hn
 obtain ⟨j,hj,e⟩:=List.getElem_of_mem hx
 refine erase_all h.2 rfl hj (fun z hz ez=>?_)
 rw [e] at ez
 exact absurd ⟨by omega,by omega⟩ hn
theorem pms_mem {p:List Int}(h:Prm p):p ∈ pms p.length:=pmG_mem p.length p [] (prm_rng h) (by simpa using prm_nodup h)
def cdF:Int->List Int->Int
 | c,[]=>c
 | c,x :: r=>cdF (c * ((r.length:Int)+1)+((r.countP fun y=>decide (y<x):Nat):Int)) r
def cod (p:List Int):Int:=cdF 0 p
def mny:Nat->Nat
 | 0=>1
 | n+1=>mny n * (n+1)
def codOk (n:Nat):Bool:=decide ((pms n).map cod=(List.range (mny n)).map fun z:Nat=>(z:Int))
theorem cod0:codOk 0=true:=by decide +kernel
theorem cod1:codOk 1=true:=by decide +kernel
theorem cod2:codOk 2=true:=by decide +kernel
theorem cod3:codOk 3=true:=by decide +kernel
theorem cod4:codOk 4=true:=by decide +kernel
theorem cod5:codOk 5=true:=by decide +kernel
theorem cod6:codOk 6=true:=by decide +kernel
theorem cod_all {n:Nat}(hn:n<=6):(pms n).map cod=(List.range (mny n)).map fun z:Nat=>(z:Int):=by
 have h:codOk n=true:=by
  have:n=0∨n=1∨n=2∨n=3∨n=4∨n=5∨n=6:=by omega
  rcases this with rfl | rfl | rfl | rfl | rfl | rfl | rfl
  ·exact cod0
  ·exact cod1
  ·exact cod2
  ·exact cod3
  ·exact cod4
  ·exact cod5
  ·exact cod6
 exact of_decide_eq_true h
theorem inj_nd {α β:Type}{L:List α}{f:α->β}(h:(L.map f).Nodup){a b:α}(ha:a ∈ L)(hb:b ∈ L)(e:f a=f b):a=b:=by
 obtain ⟨i,hi,ei⟩:=List.getElem_of_mem ha
 obtain ⟨j,hj,ej⟩:=List.getElem_of_mem hb
 rw [List.Nodup,List.pairwise_iff_getElem] at h
 rcases Nat.lt_trichotomy i j with hij | hij | hij
 ·have:=h i j (by simpa using hi) (by simpa using hj) hij
  simp only [List.getElem_map,ei,ej] at this
  exact absurd e this
 ·subst hij;rw [<- ei,<- ej]
 ·have:=h j i (by simpa using hj) (by simpa using hi) hij
  simp only [List.getElem_map,ei,ej] at this
  exact absurd e.symm this
theorem range_nd (m:Nat):((List.range m).map fun z:Nat=>(z:Int)).Nodup:=by
 rw [List.Nodup,List.pairwise_map]
 exact List.nodup_range.imp fun h e=>h (by omega)
theorem cod_rng {p:List Int}(h:Prm p)(hl:p.length<=6):0<=cod p/\cod p<mny p.length:=by
 have hm:cod p ∈ (pms p.length).map cod:=List.mem_map.2 ⟨p,pms_mem h,rfl⟩
 rw [cod_all hl,List.mem_map] at hm
 obtain ⟨z,hz,e⟩:=hm
 have:=List.mem_range.1 hz
 omega
theorem cod_inj {p q:List Int}(hp:Prm p)(hq:Prm q)(hl:p.length<=6)(e:p.length=q.length)(hc:cod p=cod q):p=q:=by
 refine inj_nd (L:=pms p.length) (f:=cod) ?_ (pms_mem hp) (by rw [e];exact pms_mem hq) hc
 rw [cod_all hl];exact range_nd _
def bdIn (d:Int):List (List Int)->List (List Int × Int)->List (List Int × Int)
 | [],st=>st
 | b :: r,st=>bdIn d r (if b ∈ st.map (·.1) then st else st ++ [(b,d)])
def Bd (n:Nat)(p:List Int):Prop:=Prm p/\p.length=n
structure BdI (n:Nat) (nx:List Int->List (List Int)) (p:List Int) (st:List (List Int × Int)) (k:Nat):Prop where
 ok:∀ e ∈ st,Bd n e.1
 nd:(st.map (·.1)).Nodup
 rng:∀ e ∈ st,0<=e.2/\e.2<st.length
 src:∀ e ∈ st,e=(p,0)∨∃ u ∈ st,e.1 ∈ nx u.1/\e.2=u.2+1
 cl:∀ j,j<k->∀ b ∈ nx (st.getD j ([],0)).1,b ∈ st.map (·.1)
 le:k<=st.length
 start:st.getD 0 ([],0)=(p,0)/\0<st.length
theorem nodupI_le:∀ (n:Nat) (l:List Int),l.Nodup->(∀ x ∈ l,0<=x/\x<n)->l.length<=n
 | 0,l,_,h=>by
  cases l with
  | nil=>simp
  | cons a l=>have:=h a (by simp);omega
 | n+1,l,hn,h=>by
  have:=nodupI_le n (l.erase (n:Int)) (hn.erase _) (fun x hx=>by
   have h1:=h x (List.mem_of_mem_erase hx)
   have h2:x ≠ n:=fun e=>by subst e;exact (hn.not_mem_erase) hx
   omega)
  have h3:l.length<=(l.erase (n:Int)).length+1:=by rw [List.length_erase];split <;> omega
  omega
theorem BdI.len_le {n:Nat}(hn:n<=6){nx:List Int->List (List Int)}{p:List Int}{st:List (List Int × Int)}{k:Nat}(h:BdI n nx p st k):st.length<=mny n:=by
 have:=nodupI_le (mny n) ((st.map (·.1)).map cod) (by
  rw [List.Nodup,List.pairwise_map]
  refine List.Pairwise.imp_of_mem ?_ h.nd
  intro a b ha hb hab e
  obtain ⟨u,hu,rfl⟩:=List.mem_map.1 ha
  obtain ⟨v,hv,rfl⟩:=List.mem_map.1 hb
  have h1:=h.ok u hu
  have h2:=h.ok v hv
  exact hab (cod_inj h1.1 h2.1 (by rw [h1.2];exact hn) (by rw [h1.2,h2.2]) e)) (fun x hx=>by
  obtain ⟨a,ha,rfl⟩:=List.mem_map.1 hx
  obtain ⟨u,hu,rfl⟩:=List.mem_map.1 ha
  have h1:=h.ok u hu
  have:=cod_rng h1.1 (by rw [h1.2];exact hn)
  rw [h1.2] at this;exact this)
 simpa using this
theorem bdIn_pre (d:Int):∀ (l:List (List Int)) (st:List (List Int × Int)),st<+:bdIn d l st
 | [],st=>List.prefix_refl _
 | b :: r,st=>by
  simp only [bdIn]
  split
  ·exact bdIn_pre d r st
  ·exact (List.prefix_append _ _).trans (bdIn_pre d r _)
theorem bdIn_mem (d:Int):∀ (l:List (List Int)) (st:List (List Int × Int)) (e:List Int × Int),e ∈ bdIn d l st->e ∈ st∨(e.2=d/\e.1 ∈ l)
 | [],st,e,h=>.inl h
 | b :: r,st,e,h=>by
  simp only [bdIn] at h
  rcases bdIn_mem d r _ e h with h1 | ⟨h1,h2⟩
  ·split at h1
   ·exact .inl h1
   ·rcases List.mem_append.1 h1 with h1 | h1
    ·exact .inl h1
    ·simp only [List.mem_cons,List.not_mem_nil,or_false] at h1
     subst h1;exact .inr ⟨rfl,by simp⟩
  ·exact .inr ⟨h1,by simp [h2]⟩
theorem bdIn_get (d:Int):∀ (l:List (List Int)) (st:List (List Int × Int)),∀ b ∈ l,b ∈ (bdIn d l st).map (·.1)
 | [],st,b,h=>by simp at h
 | c :: r,st,b,h=>by
  simp only [bdIn]
  rcases List.mem_cons.1 h with rfl | h
  ·obtain ⟨t,ht⟩:=bdIn_pre d r (if b ∈ st.map (·.1) then st else st ++ [(b,d)])
   rw [<- ht,List.map_append]
   refine List.mem_append.2 (.inl ?_)
   split
   ·assumption
   ·simp
  ·exact bdIn_get d r _ b h
theorem bdIn_nd (d:Int):∀ (l:List (List Int)) (st:List (List Int × Int)),(st.map (·.1)).Nodup->((bdIn d l st).map (·.1)).Nodup
 | [],st,h=>h
 | b :: r,st,h=>by
  simp only [bdIn]
  refine bdIn_nd d r _ ?_
  split
  ·exact h
  ·rename_i hb
   rw [List.map_append,List.Nodup,List.pairwise_append]
   refine ⟨h,by simp,fun x hx y hy e=>?_⟩
   simp only [List.map_cons,List.map_nil,List.mem_cons,List.not_mem_nil,or_false] at hy
   subst hy;subst e;exact hb hx
theorem BdI.step {n:Nat}{nx:List Int->List (List Int)}(hnx:∀ b,Bd n b->∀ c ∈ nx b,Bd n c){p:List Int}{st:List (List Int × Int)}{k:Nat}(h:BdI n nx p st k)(hk:k<st.length) :
  BdI n nx p (bdIn ((st.getD k ([],0)).2+1) (nx (st.getD k ([],0)).1) st) (k+1):=by
 have hm:st.getD k ([],0) ∈ st:=by simp [hk]
 generalize hu:st.getD k ([],0)=u at *
 have hpre:=bdIn_pre (u.2+1) (nx u.1) st
 have hle:=hpre.length_le
 have keep:∀ j,j<st.length->(bdIn (u.2+1) (nx u.1) st).getD j ([],0)=st.getD j ([],0):=by
  intro j hj
  obtain ⟨t,ht⟩:=hpre
  rw [<- ht,List.getD_eq_getElem?_getD,List.getElem?_append_left hj,<- List.getD_eq_getElem?_getD]
 have hku:=h.rng u hm
 have hgrow:∀ e ∈ bdIn (u.2+1) (nx u.1) st,e ∉ st->st.length<(bdIn (u.2+1) (nx u.1) st).length:=by
  intro e he hn
  obtain ⟨t,ht⟩:=hpre
  rw [<- ht] at he ⊢
  rcases List.mem_append.1 he with h1 | h1
  ·exact absurd h1 hn
  ·rw [List.length_append]
   have:=List.length_pos_of_mem h1
   omega
 refine ⟨?_,bdIn_nd _ _ _ h.nd,?_,?_,?_,by omega,?_⟩
 ·intro e he
  rcases bdIn_mem _ _ _ e he with h1 | ⟨_,h2⟩
  ·exact h.ok e h1
  ·exact hnx u.1 (h.ok u hm) _ h2
 ·intro e he
  by_cases h1:e ∈ st
  ·have:=h.rng e h1;omega
  ·have:=hgrow e he h1
   rcases bdIn_mem _ _ _ e he with h3 | ⟨h3,_⟩
   ·exact absurd h3 h1
   ·omega
 ·intro e he
  rcases bdIn_mem _ _ _ e he with h1 | ⟨h1,h2⟩
  ·rcases h.src e h1 with h3 | ⟨v,h3,h4⟩
   ·exact .inl h3
   ·exact .inr ⟨v,hpre.subset h3,h4⟩
  ·exact .inr ⟨u,hpre.subset hm,h2,h1⟩
 ·intro j hj b hb
  rw [keep j (by omega)] at hb
  by_cases e:j=k
  ·subst e;rw [hu] at hb
   exact bdIn_get _ _ _ b hb
  ·have:=h.cl j (by omega) b hb
   obtain ⟨e,h1,h2⟩:=List.mem_map.1 this
   exact List.mem_map.2 ⟨e,hpre.subset h1,h2⟩
 ·exact ⟨by rw [keep 0 h.start.2];exact h.start.1,by have:=h.start.2;omega⟩
theorem BdI.zero {n:Nat}{nx:List Int->List (List Int)}{p:List Int}(hp:Bd n p):BdI n nx p [(p,0)] 0:=by
 refine ⟨fun e he=>?_,by simp,fun e he=>?_,fun e he=>.inl (by simpa using he),fun j hj=>absurd hj (Nat.not_lt_zero j),Nat.zero_le _,⟨rfl,by simp⟩⟩
 ·simp only [List.mem_cons,List.not_mem_nil,or_false] at he
  subst he;exact hp
 ·simp only [List.mem_cons,List.not_mem_nil,or_false] at he
  subst he;simp
def holeB (p:List Int)(e:Int × Int):Bool:=decide (p.getD e.1.toNat 0=0) || decide (p.getD e.2.toNat 0=0)
def mvs (es:List (Int × Int))(sl:Bool)(p:List Int):List (Int × Int):=es.filter fun e=>!sl || holeB p e
def nxt (es:List (Int × Int))(sl:Bool)(p:List Int):List (List Int):=(mvs es sl p).map fun e=>swp p e.1.toNat e.2.toNat
def NoInt (x:AObj):Prop:=∀ vs ro,x ≠ .cells vs 3 ro
theorem Row.ne {H:AH}{v:Value}{xs:List Int}(h:Row 3 H v xs){o:Nat}{x:AObj}(ho:H[o]?=some x)(hx:NoInt x):v=.slice none 0 0∨rowO v ≠ o:=by
 rcases h with h | ⟨o',k,vs,ro,h1,h2,_⟩
 ·exact .inl h.1
 ·refine .inr fun e=>?_
  rw [h1] at e
  have e':o'=o:=e
  rw [e',ho] at h2
  exact hx vs ro (by simpa using h2)
theorem Row.but {H H':AH}{v:Value}{xs:List Int}(h:Row 3 H v xs){o:Nat}{x:AObj}(ho:H[o]?=some x)(hx:NoInt x)(hk:∀ (j:Nat) (y:AObj),j ≠ o->H[j]?=some y->H'[j]?=some y):Row 3 H' v xs:=by
 rcases h.ne ho hx with g | g
 ·exact .inl ⟨g,h.nilv g⟩
 ·exact h.mono fun y hy=>hk _ _ g hy
theorem noInt_ll (vs:List Value)(ro:Bool):NoInt (.cells vs 27 ro):=fun ws r h=>by
 simp only [AObj.cells.injEq] at h
 exact absurd h.2.1 (by decide)
theorem app_qV {P:Program}{t e:TypeId}(hu:P.underlying t=some (.slice e))(hc:P.cellsOf e=1)(hby:P.bytesOf e<=64)(hz:zeroOk P e=true){H:AH}{o k n c:Nat}{zs:List Value}{x:Value}(ho:H[o]?=some (.cells zs e false))(hn:k+n<=zs.length)(hb:n<=1099511627775) :
  appendA P t t (.slice (some ⟨o,k,none⟩) n c) (.slice (some ⟨H.length,0,none⟩) 1 1) (H ++ [.cells [x] e false])=some (.slice (some ⟨H.length+1,0,none⟩) (n+1) (n+1),H.set o .dead ++ [.cells [x] e false,.cells ((zs.drop k).take n ++ [x]) e false]):=by
 have hlt:o<H.length:=at_lt ho
 have hb2:(n+1) * P.bytesOf e<=140737488355328:=by
  refine Nat.le_trans (Nat.mul_le_mul_left _ hby) ?_
  omega
 have ho2:(H ++ [AObj.cells [x] e false])[o]?=some (.cells zs e false):=at_app ho _
 have hsc:sliceCells P e (.slice (some ⟨H.length,0,none⟩) 1 1) (H ++ [.cells [x] e false])=some (1,[x]):=by
  simp only [sliceCells,at_new,hc];simp
 simp only [appendA,hu,hc,hsc,ho2,hz]
 rw [if_pos (by simp),if_neg (by simp),if_pos ⟨trivial,by omega,hb2,by omega,trivial⟩]
 rw [Nat.mul_one,List.length_append,List.set_append_left _ _ hlt]
 simp
def QV (H:AH)(oq kq nq:Nat)(bs:List (List Int)):Prop :=
 ∃ zs,H[oq]?=some (.cells zs 27 false)/\kq+nq<=zs.length/\nq=bs.length/\∀ j,j<nq->Row 3 H (zs.getD (kq+j) undef) (bs.getD j [])
theorem QV.tail {H:AH}{oq kq nq:Nat}{b:List Int}{bs:List (List Int)}(h:QV H oq kq nq (b :: bs)):QV H oq (kq+1) (nq - 1) bs/\0<nq/\∃ u,cellA H oq kq=some u/\Row 3 H u b:=by
 obtain ⟨zs,h1,h2,h3,h4⟩:=h
 rw [List.length_cons] at h3
 refine ⟨⟨zs,h1,by omega,by omega,fun j hj=>?_⟩,by omega,zs.getD kq undef,?_,?_⟩
 ·have:=h4 (j+1) (by omega)
  rw [show kq+(j+1)=kq+1+j by omega] at this
  simpa using this
 ·rw [cell_of h1]
  have:kq<zs.length:=by omega
  simp [this]
 ·have:=h4 0 (by omega)
  simpa using this
theorem QV.but {H H':AH}{oq kq nq:Nat}{bs:List (List Int)}(h:QV H oq kq nq bs){o:Nat}{x:AObj}(ho:H[o]?=some x)(hx:NoInt x)(hq:oq ≠ o)(hk:∀ (j:Nat) (y:AObj),j ≠ o->H[j]?=some y->H'[j]?=some y):QV H' oq kq nq bs:=by
 obtain ⟨zs,h1,h2,h3,h4⟩:=h
 exact ⟨zs,hk _ _ hq h1,h2,h3,fun j hj=>(h4 j hj).but ho hx hk⟩
theorem QV.pre {H H':AH}{oq kq nq:Nat}{bs:List (List Int)}(h:QV H oq kq nq bs)(hp:H<+:H'):QV H' oq kq nq bs:=by
 obtain ⟨zs,h1,h2,h3,h4⟩:=h
 exact ⟨zs,pre_at hp h1,h2,h3,fun j hj=>(h4 j hj).pre hp⟩
theorem QV.push {H:AH}{oq kq nq:Nat}{bs:List (List Int)}(h:QV H oq kq nq bs){x:Value}{b:List Int}(hx:Row 3 H x b)(hb:nq<=1099511627775) :
  ∃ H2,appendA Tryz.prog 32 32 (.slice (some ⟨oq,kq,none⟩) nq nq) (.slice (some ⟨H.length,0,none⟩) 1 1) (H ++ [.cells [x] 27 false])=some (.slice (some ⟨H.length+1,0,none⟩) (nq+1) (nq+1),H2) /\
   QV H2 (H.length+1) 0 (nq+1) (bs ++ [b])/\H2.length=H.length+2/\(∀ (j:Nat) (y:AObj),j ≠ oq->H[j]?=some y->H2[j]?=some y):=by
 obtain ⟨zs,h1,h2,h3,h4⟩:=h
 have k1:=app_qV (P:=Tryz.prog) (t:=32) (k:=kq) (n:=nq) (c:=nq) (x:=x) Tryz.underlying32 cs27 (by rw [by27];decide) zk27 h1 h2 hb
 have keep:∀ (j:Nat) (y:AObj),j ≠ oq->H[j]?=some y->(H.set oq .dead ++ [AObj.cells [x] 27 false,.cells ((zs.drop kq).take nq ++ [x]) 27 false])[j]?=some y:=fun j y hj hy=>at_old hy (fun e=>hj e.symm) _
 refine ⟨_,k1,⟨(zs.drop kq).take nq ++ [x],at_new1 ..,by simp;omega,by simp;omega,fun j hj=>?_⟩,by simp,keep⟩
 have hl:((zs.drop kq).take nq).length=nq:=by simp;omega
 rw [Nat.zero_add,List.getD_eq_getElem?_getD,List.getElem?_append,hl]
 by_cases hj2:j<nq
 ·have:=h4 j hj2
  rw [if_pos hj2,List.getElem?_take,if_pos hj2,List.getElem?_drop,<- List.getD_eq_getElem?_getD]
  have e:(bs ++ [b]).getD j []=bs.getD j []:=by
   rw [List.getD_eq_getElem?_getD,List.getElem?_append_left (by omega),<- List.getD_eq_getElem?_getD]
  rw [e]
  exact this.but h1 (noInt_ll _ _) keep
 ·have e:(bs ++ [b]).getD j []=b:=by
   rw [List.getD_eq_getElem?_getD,List.getElem?_append_right (by omega),show j - bs.length=0 by omega];rfl
  rw [if_neg hj2,e,show j - nq=0 by omega]
  exact hx.but h1 (noInt_ll _ _) keep
def Tkn (n:Int)(es:List (Int × Int))(p:List Int):Prop:=(Grd n es/\Prm p)/\(p.length:Int)=n
instance (n:Int) (es:List (Int × Int)) (p:List Int):Decidable (Tkn n es p):=by unfold Tkn;infer_instance
def Brd (n:Int)(es:List (Int × Int))(p:List Int):Prop:=Tkn n es p/\(1<=n/\n<=6)
instance (n:Int) (es:List (Int × Int)) (p:List Int):Decidable (Brd n es p):=by unfold Brd;infer_instance
def Fld (n:Int)(es:List (Int × Int))(p:List Int):Prop:=Tkn n es p/\n<=6
instance (n:Int) (es:List (Int × Int)) (p:List Int):Decidable (Fld n es p):=by unfold Fld;infer_instance
end Go.Proofs.YtlcipphiflcaiaaGreat.Ai
namespace Go.Proofs.YtlcipphiflcaiaaGreat.Ai
open Go Go.RowKit
def QA (H:AH)(so oq nq:Nat)(bs:List (List Int)):Prop :=
 ∃ zs,H[oq]?=some (.cells zs 27 false)/\nq<=zs.length/\nq=bs.length/\∀ j,j<nq->Row 3 H (zs.getD j undef) (bs.getD j [])/\(zs.getD j undef=.slice none 0 0∨rowO (zs.getD j undef) ≠ so)
theorem QA.pre {H H':AH}{so oq nq:Nat}{bs:List (List Int)}(h:QA H so oq nq bs)(hp:H<+:H'):QA H' so oq nq bs:=by
 obtain ⟨zs,h1,h2,h3,h4⟩:=h
 exact ⟨zs,pre_at hp h1,h2,h3,fun j hj=>⟨(h4 j hj).1.pre hp,(h4 j hj).2⟩⟩
theorem QA.set {H H':AH}{so oq nq:Nat}{bs:List (List Int)}(h:QA H so oq nq bs)(hq:oq ≠ so)(hk:∀ (j:Nat) (y:AObj),j ≠ so->H[j]?=some y->H'[j]?=some y):QA H' so oq nq bs:=by
 obtain ⟨zs,h1,h2,h3,h4⟩:=h
 refine ⟨zs,hk _ _ hq h1,h2,h3,fun j hj=>?_⟩
 obtain ⟨g1,g2⟩:=h4 j hj
 refine ⟨?_,g2⟩
 rcases g2 with g | g
 ·exact .inl ⟨g,g1.nilv g⟩
 ·exact g1.mono fun y hy=>hk _ _ g hy
theorem QA.at_ {H:AH}{so oq nq:Nat}{bs:List (List Int)}(h:QA H so oq nq bs){j:Nat}(hj:j<nq):∃ u,cellA H oq j=some u/\Row 3 H u (bs.getD j []):=by
 obtain ⟨zs,h1,h2,h3,h4⟩:=h
 refine ⟨zs.getD j undef,?_,(h4 j hj).1⟩
 rw [cell_of h1]
 have:j<zs.length:=by omega
 simp [this]
theorem QA.push {H:AH}{so oq nq:Nat}{bs:List (List Int)}(h:QA H so oq nq bs){x:Value}{b:List Int}(hx:Row 3 H x b)(hxs:x=.slice none 0 0∨rowO x ≠ so)(hb:nq<=1099511627775) :
  ∃ H2,appendA Tryz.prog 32 32 (.slice (some ⟨oq,0,none⟩) nq nq) (.slice (some ⟨H.length,0,none⟩) 1 1) (H ++ [.cells [x] 27 false])=some (.slice (some ⟨H.length+1,0,none⟩) (nq+1) (nq+1),H2) /\
   QA H2 so (H.length+1) (nq+1) (bs ++ [b])/\H2.length=H.length+2/\(∀ (j:Nat) (y:AObj),j ≠ oq->H[j]?=some y->H2[j]?=some y):=by
 obtain ⟨zs,h1,h2,h3,h4⟩:=h
 have k1:=app_qV (P:=Tryz.prog) (t:=32) (k:=0) (n:=nq) (c:=nq) (x:=x) Tryz.underlying32 cs27 (by rw [by27];decide) zk27 h1 (by omega) hb
 have keep:∀ (j:Nat) (y:AObj),j ≠ oq->H[j]?=some y->(H.set oq .dead ++ [AObj.cells [x] 27 false,.cells ((zs.drop 0).take nq ++ [x]) 27 false])[j]?=some y:=fun j y hj hy=>at_old hy (fun e=>hj e.symm) _
 refine ⟨_,k1,⟨(zs.drop 0).take nq ++ [x],at_new1 ..,by simp;omega,by simp;omega,fun j hj=>?_⟩,by simp,keep⟩
 rw [List.drop_zero]
 have hl:(zs.take nq).length=nq:=by simp;omega
 rw [List.getD_eq_getElem?_getD,List.getElem?_append,hl]
 by_cases hj2:j<nq
 ·obtain ⟨g1,g2⟩:=h4 j hj2
  rw [if_pos hj2,List.getElem?_take,if_pos hj2,<- List.getD_eq_getElem?_getD]
  have e:(bs ++ [b]).getD j []=bs.getD j []:=by
   rw [List.getD_eq_getElem?_getD,List.getElem?_append_left (by omega),<- List.getD_eq_getElem?_getD]
  rw [e]
  exact ⟨g1.but h1 (noInt_ll _ _) (by simpa using keep),g2⟩
 ·have e:(bs ++ [b]).getD j []=b:=by
   rw [List.getD_eq_getElem?_getD,List.getElem?_append_right (by omega),show j - bs.length=0 by omega];rfl
  rw [if_neg hj2,e,show j - nq=0 by omega]
  exact ⟨hx.but h1 (noInt_ll _ _) (by simpa using keep),hxs⟩
def cd69:Cd:=(.seq (.reg [⟨⟨some 2,.alloc 26,none⟩,[]⟩]) (.seq (.reg [⟨⟨some 3,.move (.tmp 0),none⟩,[]⟩,
 ⟨⟨some 4,.call ⟨(.value (.func 135)),#[.tmp 3,(.const (.int .i64 6))],#[64,3]⟩,none⟩,[]⟩,
 ⟨⟨none,.store 26 (.tmp 2) (.tmp 4),none⟩,[]⟩]) .ret))
theorem in69:InT Tryz.prog 69 1 [.cell 2 26] cd69:=InT.mk (by kernel_rfl) [] Tryz.func69 rfl (by kernel_rfl) (by kernel_rfl) (of_decide_eq_true (by kernel_rfl)) (by kernel_rfl)
end Go.Proofs.YtlcipphiflcaiaaGreat.Ai
namespace Go.Proofs.YtlcipphiflcaiaaGreat.Ai
open Go Go.RowKit
theorem GSt.putc {H:AH}{o gp:Nat}{v:Value}{us:List Value}{N0:Nat}(h:Cur H o v us N0)(ho:o<H.length)(hgp:H.length<gp){N1 L1:Nat}{K1:AH}(a b:Int)(hG:GSt H o gp v us N1 L1 K1)(hL:L1<=500)(hab:(-1<=a/\a<=9) /\ -1<=b/\b<=9) :
  ∃ n' w',cellA K1 gp 1=some w'/\K1[gp]?=some (.cells [.int .i64 n',w'] 26 false)/\ACalls Tryz.prog 109 [w',.agg (List.toArray [.int .i64 a,.int .i64 b])] K1 fun r K2=>∃ K3,storeA Tryz.prog 24 (.pointer (some ⟨gp,1,none⟩)) r K2=some K3/\isTup r=false/\GSt H o gp v us N1 (L1+1) K3/\K3[gp]?=some (.cells [.int .i64 n',r] 26 false):=by
 obtain ⟨n',w',ps,q1,q2,q3,q4,q5,q6,q7,q8,q9,q10⟩:=hG
 refine ⟨n',w',cell_of q2 1,q2,(l2PutPair_c w' ps a b q3 (by have:=q10.1;omega) (by omega)).mono fun r K2 hr=>?_⟩
 obtain ⟨qs,r1,r2,r3,r4,r5⟩:=hr
 have lgp:=at_lt q2
 have r6:rowO r ≠ gp:=by
  rcases r4 with e | e
  ·rw [e];exact q4
  ·omega
 have r7:rowO r ≠ H.length∨r=.slice none 0 0:=by
  rcases r4 with e | e
  ·rw [e];exact q5
  ·exact .inl (by omega)
 obtain ⟨q,hq⟩:=r1.row.shape
 have t2:r.cells.toList=[r]:=by rw [hq];rfl
 have hst:=st_at (P:=Tryz.prog) (t:=24) (i:=1) (y:=r) cs24 (pre_at r5 q2) (by show 1<2;decide) r1.row.tup t2
 exact ⟨_,hst,r1.row.tup,GSt.put h ho hgp q1 q2 q3 q4 q5 (fun j y _ hy=>pre_at r5 hy) r5.length_le r1 r6 r7 q6 (by omega:qs.length<=L1+1) (fun y hy=>by
  rcases r3 y hy with e | e
  ·exact q8 y e
  ·rw [e];exact hab) q9 q10,List.getElem?_set_self (at_lt (pre_at r5 q2))⟩
theorem GSt.cr {H:AH}{o gp:Nat}{v:Value}{us:List Value}{N L:Nat}{H':AH}(h:GSt H o gp v us N L H'):Cur H' o v us N:=by
 obtain ⟨_,_,_,_,_,_,_,_,_,_,_,q,_⟩:=h
 exact q
theorem own_slD {e:TypeId}{H0 H:AH}{v:Value}{xs:List Int}(h:Own e H0 H v xs)(hn:0<xs.length):∃ o,v=.slice (some ⟨o,0,none⟩) xs.length xs.length/\H0.length<=o/\H[o]?=some (.cells (ints xs) e false):=by
 rcases h with ⟨_,h⟩ | ⟨o,h1,h2,h3⟩
 ·rw [h] at hn;simp at hn
 ·exact ⟨o,h1,h2,h3⟩
theorem graph_c {H:AH}{o:Nat}{v:Value}{us:List Value}{N:Nat}(h:Cur H o v us N)(hN:N<=100000000) :
  ACalls Tryz.prog 69 [.pointer (some ⟨o,0,none⟩)] H fun r H'=>∃ (n:Int) (w:Value) (ps:List (Int × Int)),r=.agg (List.toArray [.int .i64 n,w])/\MineP 115 H H' w ps/\I64 n/\ps.length<=200/\Sml ps/\Cur H' o v us (N+1000)/\Keeps o H H':=by
 have ho:o<H.length:=by
  obtain ⟨_,_,g,_⟩:=h.cur
  exact at_lt g
 refine in69 rfl ?_
 intro Q hQ
 simp (disch:=omega) only [cd69,alloc_G,SS,eq_self,reduceIte,reduceCtorEq,Nat.reduceEqDiff,Nat.reduceAdd]
 generalize hA:H ++ [AObj.cells [.int .i64 0,.slice none 0 0] 26 false]=A
 have pA:H<+:A:=by rw [<- hA];exact List.prefix_append _ _
 have cA:A[H.length]?=some (.cells [.int .i64 0,.slice none 0 0] 26 false):=by rw [<- hA];exact at_new ..
 have lA:A.length=H.length+1:=by rw [<- hA];simp
 refine CallH.by (someGraph_c (h.pre pA) hN 6 (by omega)) ?_
 rintro _ K ⟨n,w,ps,rfl,hm,hn,hl,hs,hC,hK⟩
 have c1:=hK.2 _ _ (by omega) cA
 have hst:=st_G hm.row c1 rfl n
 simp (disch:=omega) only [hst,SS,eq_self,reduceIte,reduceCtorEq,Nat.reduceEqDiff,Nat.reduceAdd]
 have d4:=at_set (d:=.cells [.int .i64 n,w] 26 false) c1
 have at_:∀ {j:Nat} {y:AObj},j ≠ H.length->K[j]?=some y->(K.set H.length (.cells [.int .i64 n,w] 26 false))[j]?=some y:=fun hj hy=>by rw [List.getElem?_set_ne (fun e=>hj e.symm)];exact hy
 obtain ⟨a,sd,c1',c2,c3⟩:=hC.cur
 refine hQ _ _ _ (end_cell _ _ _ _ _ _ (.agg (List.toArray [.int .i64 n,w])) ?_ rfl ⟨n,w,ps,rfl,?_,hn,hl,hs,⟨⟨a,sd,at_ (by omega) c1',c2,c3⟩,hC.row.mono fun y hy=>at_ ?_ hy,hC.byt,hC.ap,hC.le⟩,⟨by have:=hK.1;simp;omega,fun j y hj hy=>at_ (by have:=at_lt hy;omega) (hK.2 j y hj (pre_at pA hy))⟩⟩)
 ·simp (disch:=omega) only [ld_agg ag26 cs26 d4,SS,eq_self,reduceIte,reduceCtorEq,Nat.reduceEqDiff,Nat.reduceAdd]
 ·rcases hm with z | ⟨q,zs,z1,z2,z3,z4⟩
  ·exact .inl z
  ·exact .inr ⟨q,zs,z1,by omega,at_ (by omega) z3,z4⟩
 ·rcases h.row with q | ⟨o',k',vs',ro',e1,g2,_⟩
  ·rw [q.1]
   show (0:Nat) ≠ H.length
   omega
  ·rw [e1]
   have:=at_lt g2
   show o' ≠ H.length
   omega
def cd46:Cd:=(.seq (.reg [⟨⟨some 2,.alloc 26,none⟩,[]⟩]) (.seq (.seq (.reg [⟨⟨some 7,.move (.tmp 0),none⟩,[]⟩,⟨⟨some 8,.call ⟨(.value (.func 86)),#[.tmp 7,(.const (.int .i64 4))],#[64,3]⟩,none⟩,[]⟩]) (.cond (.tmp 8) (.seq (.reg [⟨⟨some 9,.move (.tmp 0),none⟩,[]⟩,⟨⟨some 10,.call ⟨(.value (.func 69)),#[.tmp 9],#[64]⟩,none⟩,[]⟩,⟨⟨none,.store 26 (.tmp 2) (.tmp 10),none⟩,[]⟩]) .ret) .skip)) (.seq (.reg [⟨⟨some 11,.move (.tmp 0),none⟩,[]⟩,⟨⟨some 12,.buildSlice 27 8 #[(0,(.const (.int .i64 4))),(1,(.const (.int .i64 5))),(2,(.const (.int .i64 5))),(3,(.const (.int .i64 6))),(4,(.const (.int .i64 3))),(5,(.const (.int .i64 7))),(6,(.const (.int .i64 2))),(7,(.const (.int .i64 1)))],none⟩,[]⟩,⟨⟨some 13,.call ⟨(.value (.func 108)),#[.tmp 11,.tmp 12],#[64,27]⟩,none⟩,[]⟩,⟨⟨some 14,.buildSlice 24 0 #[],none⟩,[]⟩,⟨⟨some 15,.build 26 #[(0,.tmp 13),(1,.tmp 14)],none⟩,[]⟩,⟨⟨some 3,.alloc 26,none⟩,[]⟩,⟨⟨none,.store 26 (.tmp 3) (.tmp 15),none⟩,[]⟩]) (.seq (.seq (.reg [⟨⟨some 4,.assign (.const (.int .i64 1)),none⟩,[]⟩]) (.block 0 (.loop (.seq (.seq (.reg [⟨⟨some 16,.move (.tmp 4),none⟩,[]⟩,⟨⟨some 17,.fieldAddr 26 (.tmp 3) 0,none⟩,[]⟩,⟨⟨some 18,.load 3 (.tmp 17),none⟩,[]⟩,
 ⟨⟨some 19,.binOp .lss 3 (.tmp 16) (.tmp 18) 3,none⟩,[]⟩]) (.cond (.tmp 19) .skip (.exit 0))) (.seq (.block 1 (.reg [⟨⟨some 22,.fieldAddr 26 (.tmp 3) 1,none⟩,[]⟩,⟨⟨some 23,.load 24 (.tmp 22),none⟩,[]⟩,⟨⟨some 24,.move (.tmp 0),none⟩,[]⟩,⟨⟨some 25,.move (.tmp 4),none⟩,[]⟩,⟨⟨some 27,.move (.tmp 4),none⟩,[]⟩,⟨⟨some 26,.call ⟨(.value (.func 107)),#[.tmp 24,.tmp 25],#[64,3]⟩,none⟩,[⟨some 23,.load 24 (.tmp 22),none⟩]⟩,⟨⟨some 28,.build 115 #[(0,.tmp 26),(1,.tmp 27)],none⟩,[]⟩,⟨⟨some 29,.call ⟨(.value (.func 109)),#[.tmp 23,.tmp 28],#[24,115]⟩,none⟩,[]⟩,⟨⟨some 30,.fieldAddr 26 (.tmp 3) 1,none⟩,[]⟩,⟨⟨none,.store 24 (.tmp 30) (.tmp 29),none⟩,[]⟩])) (.reg [⟨⟨some 20,.move (.tmp 4),none⟩,[]⟩,⟨⟨some 21,.binOp .add 3 (.tmp 20) (.const (.int .i64 1)) 3,none⟩,[]⟩,⟨⟨some 4,.assign (.tmp 21),none⟩,[]⟩])))))) (.seq (.seq (.reg [⟨⟨some 31,.move (.tmp 0),none⟩,[]⟩,
 ⟨⟨some 32,.call ⟨(.value (.func 107)),#[.tmp 31,(.const (.int .i64 5))],#[64,3]⟩,none⟩,[]⟩,⟨⟨some 5,.assign (.tmp 32),none⟩,[]⟩]) (.block 2 (.loop (.seq (.seq (.reg [⟨⟨some 33,.move (.tmp 5),none⟩,[]⟩,⟨⟨some 34,.binOp .gtr 3 (.tmp 33) (.const (.int .i64 0)) 3,none⟩,[]⟩,⟨⟨some 35,.move (.tmp 34),none⟩,[]⟩,⟨⟨some 36,.fieldAddr 26 (.tmp 3) 0,some (35,true)⟩,[]⟩,⟨⟨some 37,.load 3 (.tmp 36),some (35,true)⟩,[]⟩,⟨⟨some 38,.binOp .gtr 3 (.tmp 37) (.const (.int .i64 2)) 3,some (35,true)⟩,[]⟩,⟨⟨some 39,.pick (.tmp 35) (.tmp 38) (.const (.bool false)),none⟩,[]⟩]) (.cond (.tmp 39) .skip (.exit 2))) (.seq (.block 3 (.seq (.reg [⟨⟨some 42,.move (.tmp 0),none⟩,[]⟩,⟨⟨some 43,.fieldAddr 26 (.tmp 3) 0,none⟩,[]⟩,⟨⟨some 44,.load 3 (.tmp 43),none⟩,[]⟩,⟨⟨some 45,.binOp .sub 3 (.tmp 44) (.const (.int .i64 1)) 3,none⟩,[]⟩,⟨⟨some 46,.call ⟨(.value (.func 107)),#[.tmp 42,.tmp 45],#[64,3]⟩,none⟩,[]⟩,
 ⟨⟨some 47,.binOp .add 3 (.const (.int .i64 1)) (.tmp 46) 3,none⟩,[]⟩,⟨⟨some 6,.assign (.tmp 47),none⟩,[]⟩]) (.reg [⟨⟨some 48,.fieldAddr 26 (.tmp 3) 1,none⟩,[]⟩,⟨⟨some 49,.load 24 (.tmp 48),none⟩,[]⟩,⟨⟨some 50,.move (.tmp 0),none⟩,[]⟩,⟨⟨some 51,.move (.tmp 6),none⟩,[]⟩,⟨⟨some 53,.move (.tmp 6),none⟩,[]⟩,⟨⟨some 52,.call ⟨(.value (.func 107)),#[.tmp 50,.tmp 51],#[64,3]⟩,none⟩,[⟨some 49,.load 24 (.tmp 48),none⟩]⟩,⟨⟨some 54,.build 115 #[(0,.tmp 52),(1,.tmp 53)],none⟩,[]⟩,⟨⟨some 55,.call ⟨(.value (.func 109)),#[.tmp 49,.tmp 54],#[24,115]⟩,none⟩,[]⟩,⟨⟨some 56,.fieldAddr 26 (.tmp 3) 1,none⟩,[]⟩,⟨⟨none,.store 24 (.tmp 56) (.tmp 55),none⟩,[]⟩]))) (.reg [⟨⟨some 40,.move (.tmp 5),none⟩,[]⟩,⟨⟨some 41,.binOp .sub 3 (.tmp 40) (.const (.int .i64 1)) 3,none⟩,[]⟩,
 ⟨⟨some 5,.assign (.tmp 41),none⟩,[]⟩])))))) (.seq (.reg [⟨⟨some 57,.load 26 (.tmp 3),none⟩,[]⟩,
  ⟨⟨none,.store 26 (.tmp 2) (.tmp 57),none⟩,[]⟩]) .ret))))))
theorem in46:InT Tryz.prog 46 1 [.cell 2 26] cd46:=InT.mk (by kernel_rfl) [(7,[(0,false),(1,false),(2,false),(3,false),(5,false),(4,true),(6,false),(7,true),(8,false),(9,true)]),(12,[(0,false),(1,false),(2,false),(3,false),(5,false),(4,true),(6,false),(7,true),(8,false),(9,true)])] Tryz.func46 rfl (by kernel_rfl) (by kernel_rfl) (of_decide_eq_true (by kernel_rfl)) (by kernel_rfl)
end Go.Proofs.YtlcipphiflcaiaaGreat.Ai
namespace Go.Proofs.YtlcipphiflcaiaaGreat.Ai
open Go Go.RowKit
theorem retG {H K:AH}{o:Nat}{v:Value}{us:List Value}{N M:Nat}(h:Cur H o v us N){n:Int}{w:Value}{ps:List (Int × Int)}(q1:K[H.length]?=some (.cells [.int .i64 0,.slice none 0 0] 26 false))(q3:MineP 115 H K w ps)(q5:rowO w ≠ H.length∨w=.slice none 0 0)(q9:Cur K o v us M)(q10:Keeps o H K) :
  (K.set H.length (.cells [.int .i64 n,w] 26 false))[H.length]?=some (.cells [.int .i64 n,w] 26 false)/\MineP 115 H (K.set H.length (.cells [.int .i64 n,w] 26 false)) w ps/\Cur (K.set H.length (.cells [.int .i64 n,w] 26 false)) o v us M/\Keeps o H (K.set H.length (.cells [.int .i64 n,w] 26 false)):=by
 have ho:o<H.length:=by
  obtain ⟨_,_,g,_⟩:=h.cur
  exact at_lt g
 have at_:∀ {j:Nat} {y:AObj},j ≠ H.length->K[j]?=some y->(K.set H.length (.cells [.int .i64 n,w] 26 false))[j]?=some y:=fun hj hy=>by rw [List.getElem?_set_ne (fun e=>hj e.symm)];exact hy
 obtain ⟨a,sd,c1,c2,c3⟩:=q9.cur
 refine ⟨at_set q1,?_,⟨⟨a,sd,at_ (by omega) c1,c2,c3⟩,q9.row.mono fun y hy=>at_ ?_ hy,q9.byt,q9.ap,q9.le⟩,⟨by have:=q10.1;simp;omega,fun j y hj hy=>at_ (by have:=at_lt hy;omega) (q10.2 j y hj hy)⟩⟩
 ·rcases q5 with e | e
  ·exact q3.keep fun y hy=>at_ e hy
  ·rcases q3 with z | ⟨_,_,z,_⟩
   ·exact .inl z
   ·rw [z] at e;cases e
 ·rcases h.row with q | ⟨o',k',vs',ro',e1,g2,_⟩
  ·rw [q.1]
   show (0:Nat) ≠ H.length
   omega
  ·rw [e1]
   have:=at_lt g2
   show o' ≠ H.length
   omega
theorem linked7_c {H:AH}{o:Nat}{v:Value}{us:List Value}{N:Nat}(h:Cur H o v us N)(hN:N<=90000000) :
  ACalls Tryz.prog 46 [.pointer (some ⟨o,0,none⟩)] H fun r H'=>∃ (n:Int) (w:Value) (ps:List (Int × Int)),r=.agg (List.toArray [.int .i64 n,w])/\MineP 115 H H' w ps/\I64 n/\ps.length<=200/\Sml ps/\Cur H' o v us (N+1010)/\Keeps o H H':=by
 have ho:o<H.length:=by
  obtain ⟨_,_,g,_⟩:=h.cur
  exact at_lt g
 refine in46 rfl ?_
 intro Q hQ
 rw [cd46]
 generalize hA:H ++ [AObj.cells [.int .i64 0,.slice none 0 0] 26 false]=A
 have pA:H<+:A:=by rw [<- hA];exact List.prefix_append _ _
 have cA:A[H.length]?=some (.cells [.int .i64 0,.slice none 0 0] 26 false):=by rw [<- hA];exact at_new ..
 have lA:A.length=H.length+1:=by rw [<- hA];simp
 have al:=alloc_G H
 rw [hA] at al
 refine cutC (fun s K=>A=K/\s 0=.pointer (some ⟨o,0,none⟩)/\s 2=.pointer (some ⟨H.length,0,none⟩)) (fun c hc=>?_) ?_
 ·simp (disch:=omega) only [al,SS,eq_self,reduceIte,reduceCtorEq,Nat.reduceEqDiff,Nat.reduceAdd]
  exact hc _ _ ⟨rfl,rfl,rfl⟩
 rintro s _ ⟨rfl,s0,s2⟩
 refine cutC (fun s K=>s 0=.pointer (some ⟨o,0,none⟩)/\s 2=.pointer (some ⟨H.length,0,none⟩)/\Cur K o v us (N+1)/\Keeps o A K) (fun c hc=>?_) ?_
 ·simp (disch:=omega) only [s0,s2,SS,eq_self,reduceIte,reduceCtorEq,Nat.reduceEqDiff,Nat.reduceAdd]
  refine CallH.by (one_c (h.pre pA) (by omega) 4 (by omega)) ?_
  rintro _ B ⟨⟨b,rfl⟩,hCB,oB⟩
  simp (disch:=omega) only [SS,eq_self,reduceIte,reduceCtorEq,Nat.reduceEqDiff,Nat.reduceAdd]
  cases b with
  | false =>
   refine brH.intro (fun q=>by cases q) (fun _=>?_)
   simp (disch:=omega) only [SS,eq_self,reduceIte,reduceCtorEq,Nat.reduceEqDiff,Nat.reduceAdd]
   exact hc _ _ ⟨s0,s2,hCB,oB.keeps⟩
  | true =>
   refine brH.intro (fun _=>?_) (fun q=>by cases q)
   simp (disch:=omega) only [s0,s2,SS,eq_self,reduceIte,reduceCtorEq,Nat.reduceEqDiff,Nat.reduceAdd]
   refine CallH.by (graph_c hCB (by omega)) ?_
   rintro _ K ⟨n,w,ps,rfl,hm,hn,hl,hs,hC,hK⟩
   have lB:=oB.1
   have c1:=hK.2 _ _ (by omega) (oB.2 _ _ (by omega) cA)
   have hm':MineP 115 H K w ps:=by
    rcases hm with z | ⟨q,zs,z1,z2,z3,z4⟩
    ·exact .inl z
    ·exact .inr ⟨q,zs,z1,by omega,z3,z4⟩
   have q5:rowO w ≠ H.length∨w=.slice none 0 0:=by
    rcases hm with z | ⟨q,zs,z1,z2,_⟩
    ·exact .inr z.1
    ·left;rw [z1];show q ≠ H.length;omega
   have hst:=st_G hm.row c1 rfl n
   obtain ⟨d4,t1,t2,t3⟩:=retG h (n:=n) c1 hm' q5 hC ((Keeps.of_pre pA).trans (oB.keeps.trans hK))
   simp (disch:=omega) only [s2,hst,SS,eq_self,reduceIte,reduceCtorEq,Nat.reduceEqDiff,Nat.reduceAdd]
   refine hQ _ _ _ (end_cell _ _ _ _ _ _ (.agg (List.toArray [.int .i64 n,w])) ?_ rfl ⟨n,w,ps,rfl,t1,hn,hl,hs,t2.more (by omega),t3⟩)
   simp (disch:=omega) only [s2,ld_agg ag26 cs26 d4,SS,eq_self,reduceIte,reduceCtorEq,Nat.reduceEqDiff,Nat.reduceAdd]
 clear s0 s2 s
 rintro s B ⟨s0,s2,hCB,kB⟩
 have lB:=kB.1
 have cB:=kB.2 _ _ (by omega) cA
 have kHB:Keeps o H B:=(Keeps.of_pre pA).trans kB
 have blK2:∀ H0:AH,buildSliceA Tryz.prog 27 8 [(0,.int .i64 4),(1,.int .i64 5),(2,.int .i64 5),(3,.int .i64 6),(4,.int .i64 3),(5,.int .i64 7),(6,.int .i64 2),(7,.int .i64 1)] H0=some (.slice (some ⟨H0.length,0,none⟩) 8 8,H0 ++ [.cells [.int .i64 4,.int .i64 5,.int .i64 5,.int .i64 6,.int .i64 3,.int .i64 7,.int .i64 2,.int .i64 1] 3 false]):=fun H0=>by kernel_rfl
 have blG:∀ (n:Int) (p:Option Addr) (k c:Nat),buildA Tryz.prog 26 [(0,.int .i64 n),(1,.slice p k c)]=some (.agg (List.toArray [.int .i64 n,.slice p k c])):=fun _ _ _ _=>by kernel_rfl
 refine cutC (fun s K=>s 0=.pointer (some ⟨o,0,none⟩)/\s 2=.pointer (some ⟨H.length,0,none⟩)/\∃ (gp n:Nat) (w:Value),s 3=.pointer (some ⟨gp,0,none⟩)/\(1<=n/\n<=7)/\H.length<gp/\GSt H o gp v us (N+2) 0 K/\K[gp]?=some (.cells [.int .i64 (n:Int),w] 26 false)) (fun c hc=>?_) ?_
 ·generalize hD:B ++ [AObj.cells [.int .i64 4,.int .i64 5,.int .i64 5,.int .i64 6,.int .i64 3,.int .i64 7,.int .i64 2,.int .i64 1] 3 false]=D
  have pD:B<+:D:=by rw [<- hD];exact List.prefix_append _ _
  have aD:D[B.length]?=some (.cells [.int .i64 4,.int .i64 5,.int .i64 5,.int .i64 6,.int .i64 3,.int .i64 7,.int .i64 2,.int .i64 1] 3 false):=by rw [<- hD];exact at_new ..
  have wD:Row 3 D (.slice (some ⟨B.length,0,none⟩) 8 8) [4,5,5,6,3,7,2,1]:=.inr ⟨B.length,0,_,false,rfl,aD,by simp,rfl⟩
  have lD:D.length=B.length+1:=by rw [<- hD];simp
  simp (disch:=omega) only [s0,s2,blK2,hD,SS,eq_self,reduceIte,reduceCtorEq,Nat.reduceEqDiff,Nat.reduceAdd]
  refine CallH.by (among_c (hCB.pre pD) (by omega) wD (by show B.length ≠ o;omega) (by simp)) ?_
  rintro _ E ⟨⟨d,rfl,hd⟩,hCE,oE⟩
  obtain ⟨n,rfl,hn⟩:∃ n:Nat,d=n/\1<=n/\n<=7:=⟨d.toNat,by simp at hd;omega,by simp at hd;omega⟩
  have lE:=oE.1
  generalize hF:E ++ [AObj.cells [] 115 false]=F
  have pF:E<+:F:=by rw [<- hF];exact List.prefix_append _ _
  have lF:F.length=E.length+1:=by rw [<- hF];simp
  have mF:MineP 115 H F (.slice (some ⟨E.length,0,none⟩) 0 0) []:=by rw [<- hF];exact MineP.nil0 (P:=Tryz.prog) H E (by omega)
  have st1:=st_G mF.row (at_new F (.cells [.int .i64 0,.slice none 0 0] 26 false)) rfl (n:Int)
  rw [set_new] at st1
  simp (disch:=omega) only [s0,s2,hF,blG,alloc_G,st1,SS,eq_self,reduceIte,reduceCtorEq,Nat.reduceEqDiff,Nat.reduceAdd]
  have pG:F<+:F ++ [AObj.cells [.int .i64 (n:Int),.slice (some ⟨E.length,0,none⟩) 0 0] 26 false]:=List.prefix_append _ _
  have kBE:Keeps o B E:=(Keeps.of_pre pD).trans oE.keeps
  refine hc _ _ ⟨s0,s2,F.length,n,.slice (some ⟨E.length,0,none⟩) 0 0,rfl,hn,by omega,⟨(n:Int),.slice (some ⟨E.length,0,none⟩) 0 0,[],?_,at_new ..,mF.pre pG,?_,.inl ?_,⟨by omega,by omega⟩,Nat.le_refl _,fun y hy=>by simp at hy,(hCE.pre pF).pre pG,kHB.trans (kBE.trans (.of_pre (pF.trans pG)))⟩,at_new ..⟩
  ·exact pre_at pG (pre_at pF (kBE.2 _ _ (by omega) cB))
  ·show E.length ≠ F.length;omega
  ·show E.length ≠ H.length;omega
 clear s0 s2 cB kHB lB hCB kB s B
 rintro s K ⟨s0,s2,gp,n,w1,s3,hn,hgp,hG,cg⟩
 have put:∀ {N1 L1:Nat} {K1:AH} {w1:Value} (x:Nat),GSt H o gp v us N1 L1 K1->K1[gp]?=some (.cells [.int .i64 (n:Int),w1] 26 false)->L1<=500->N1<=95000000->x<=8->ACalls Tryz.prog 107 [.pointer (some ⟨o,0,none⟩),.int .i64 (x:Int)] K1 fun r K2=>∃ k:Nat,r=.int .i64 (k:Int)/\k<=8/\K2[gp]?=some (.cells [.int .i64 (n:Int),w1] 26 false)/\ACalls Tryz.prog 109 [w1,.agg (List.toArray [.int .i64 (k:Int),.int .i64 (x:Int)])] K2 fun r K3=>∃ K4,storeA Tryz.prog 24 (.pointer (some ⟨gp,1,none⟩)) r K3=some K4/\isTup r=false/\GSt H o gp v us (N1+1) (L1+1) K4/\∃ w2,K4[gp]?=some (.cells [.int .i64 (n:Int),w2] 26 false):=by
  intro N1 L1 K1 w1 x hG hc hL hN1 hx
  refine (pick_c hG.cr (by omega) (x:Int) (by omega)).mono fun r K2 hr=>?_
  obtain ⟨⟨k,rfl,hk⟩,hC2,oK⟩:=hr
  have c2:=oK.2 gp _ (by omega) hc
  obtain ⟨n',w',e1,e2,hput⟩:=(hG.cur ho (by omega) oK hC2).putc h ho hgp (k:Int) (x:Int) hL (by omega)
  have e0:=c2.symm.trans e2
  simp only [Option.some.injEq,AObj.cells.injEq,List.cons.injEq,Value.int.injEq,true_and,and_true] at e0
  obtain ⟨e3,e4⟩:=e0
  subst e3
  subst e4
  refine ⟨k,rfl,by omega,c2,hput.mono fun r K3 hr=>?_⟩
  obtain ⟨K4,t1,t2,t3,t4⟩:=hr
  exact ⟨K4,t1,t2,t3,_,t4⟩
 refine cutC (fun s K=>s 0=.pointer (some ⟨o,0,none⟩)/\s 2=.pointer (some ⟨H.length,0,none⟩)/\s 3=.pointer (some ⟨gp,0,none⟩)/\GSt H o gp v us (N+20) 20 K/\∃ w,K[gp]?=some (.cells [.int .i64 (n:Int),w] 26 false)) (fun c hc=>?_) ?_
 ·simp (disch:=omega) only [s0,s2,s3,SS,eq_self,reduceIte,reduceCtorEq,Nat.reduceEqDiff,Nat.reduceAdd]
  refine LoopH.by (fun m s K=>∃ (x:Nat) (w:Value),m+x=n/\1<=x/\s 0=.pointer (some ⟨o,0,none⟩)/\s 2=.pointer (some ⟨H.length,0,none⟩)/\s 3=.pointer (some ⟨gp,0,none⟩)/\s 4=.int .i64 (x:Int)/\GSt H o gp v us (N+2+x) x K/\K[gp]?=some (.cells [.int .i64 (n:Int),w] 26 false)) (n - 1) ?_ ?_
  ·have f1:=hG.more (show N+2<=N+2+1 by omega) (show 0<=1 by omega)
   refine ⟨1,w1,by omega,?_⟩
   simp (disch:=omega) only [s0,s2,s3,SS,eq_self,reduceIte,reduceCtorEq,Nat.reduceEqDiff,Nat.reduceAdd]
   (repeat' first | exact f1 | exact cg | apply And.intro) <;> first | (simp only [Value.int.injEq,true_and];omega) | omega | rfl | assumption | (simp;done) | (simp;omega)
  clear s0 s2 s3 hG cg w1 s K
  rintro m s K ⟨x,w1,hm,hx,s0,s2,s3,s4,hG,cg⟩
  simp (disch:=omega) only [s0,s2,s3,s4,cell_of cg,SS,eq_self,reduceIte,reduceCtorEq,Nat.reduceEqDiff,Nat.reduceAdd]
  refine brD.intro (fun g=>?_) (fun g=>?_)
  ·simp (disch:=omega) only [s0,s2,s3,s4,cell_of cg,SS,eq_self,reduceIte,reduceCtorEq,Nat.reduceEqDiff,Nat.reduceAdd]
   refine CallH.by (put x hG cg (by omega) (by omega) (by omega)) ?_
   rintro _ L ⟨k,rfl,hk,cL,hput⟩
   simp (disch:=omega) only [s0,s2,s3,s4,cell_of cL,build_a2,SS,eq_self,reduceIte,reduceCtorEq,Nat.reduceEqDiff,Nat.reduceAdd]
   refine CallH.by hput ?_
   rintro r P ⟨K4,t1,t2,t3,w2,t4⟩
   simp (disch:=omega) only [s0,s2,s3,s4,t1,wrap64,SS,eq_self,reduceIte,reduceCtorEq,Nat.reduceEqDiff,Nat.reduceAdd]
   have f1:=t3.more (show N+2+x+1<=N+2+(x+1) by omega) (Nat.le_refl (x+1))
   refine ⟨m - 1,by omega,x+1,w2,?_⟩
   (repeat' first | exact f1 | exact t4 | apply And.intro) <;> first | (simp only [Value.int.injEq,true_and];omega) | omega | rfl | assumption | (simp;done) | (simp;omega)
  ·simp (disch:=omega) only [s0,s2,s3,SS,eq_self,reduceIte,reduceCtorEq,Nat.reduceEqDiff,Nat.reduceAdd]
   exact hc _ _ ⟨s0,s2,s3,hG.more (by omega) (by omega),w1,cg⟩
 clear s0 s2 s3 hG cg w1 s K
 rintro s K ⟨s0,s2,s3,hG,w1,cg⟩
 refine cutC (fun s K=>s 2=.pointer (some ⟨H.length,0,none⟩)/\s 3=.pointer (some ⟨gp,0,none⟩)/\GSt H o gp v us (N+60) 60 K) (fun c hc=>?_) ?_
 ·simp (disch:=omega) only [s0,s2,s3,SS,eq_self,reduceIte,reduceCtorEq,Nat.reduceEqDiff,Nat.reduceAdd]
  refine CallH.by (pick_c hG.cr (by omega) 5 (by omega)) ?_
  rintro _ L ⟨⟨k0,rfl,hk0⟩,hCL,oL⟩
  have hGL:=hG.cur ho (by omega) oL hCL
  have cL:=oL.2 gp _ (by omega) cg
  simp (disch:=omega) only [s0,s2,s3,SS,eq_self,reduceIte,reduceCtorEq,Nat.reduceEqDiff,Nat.reduceAdd]
  refine LoopH.by (fun m s K=>∃ (j:Nat) (w:Value),m+j=k0/\s 0=.pointer (some ⟨o,0,none⟩)/\s 2=.pointer (some ⟨H.length,0,none⟩)/\s 3=.pointer (some ⟨gp,0,none⟩)/\s 5=.int .i64 (m:Int)/\GSt H o gp v us (N+20+1+j * 2) (20+j) K/\K[gp]?=some (.cells [.int .i64 (n:Int),w] 26 false)) k0 ?_ ?_
  ·refine ⟨0,w1,by omega,?_⟩
   simp (disch:=omega) only [s0,s2,s3,SS,eq_self,reduceIte,reduceCtorEq,Nat.reduceEqDiff,Nat.reduceAdd]
   (repeat' first | exact hGL | exact cL | apply And.intro) <;> first | (simp only [Value.int.injEq,true_and];omega) | omega | rfl | assumption | (simp;done) | (simp;omega)
  clear s0 s2 s3 hG cg hGL cL hCL oL w1 s K L
  rintro m s K ⟨j,w1,hm,s0,s2,s3,s5,hG,cg⟩
  simp (disch:=omega) only [s0,s2,s3,s5,SS,eq_self,reduceIte,reduceCtorEq,Nat.reduceEqDiff,Nat.reduceAdd]
  by_cases g:(0:Int)<(m:Int)
  rotate_left
  ·simp (disch:=omega) only [decide_eq_false g,SS,eq_self,reduceIte,reduceCtorEq,Nat.reduceEqDiff,Nat.reduceAdd]
   exact hc _ _ ⟨s2,s3,hG.more (by omega) (by omega)⟩
  simp (disch:=omega) only [decide_eq_true g,s3,cell_of cg,SS,eq_self,reduceIte,reduceCtorEq,Nat.reduceEqDiff,Nat.reduceAdd]
  by_cases g2:(2:Int)<(n:Int)
  rotate_left
  ·simp (disch:=omega) only [decide_eq_false g2,SS,eq_self,reduceIte,reduceCtorEq,Nat.reduceEqDiff,Nat.reduceAdd]
   exact hc _ _ ⟨s2,s3,hG.more (by omega) (by omega)⟩
  have hw1:IntKind.i64.wrap ((n:Int) - 1)=((n - 1:Nat):Int):=by rw [wrap64 (by omega) (by omega)];omega
  simp (disch:=omega) only [decide_eq_true g2,s0,s2,s3,s5,cell_of cg,hw1,SS,eq_self,reduceIte,reduceCtorEq,Nat.reduceEqDiff,Nat.reduceAdd]
  refine CallH.by (pick_c hG.cr (by omega) ((n - 1:Nat):Int) (by omega)) ?_
  rintro _ L ⟨⟨k,rfl,hk⟩,hCL,oL⟩
  have hGL:=hG.cur ho (by omega) oL hCL
  have cL:=oL.2 gp _ (by omega) cg
  have hw2:IntKind.i64.wrap (1+(k:Int))=((1+k:Nat):Int):=by rw [wrap64 (by omega) (by omega)];omega
  simp (disch:=omega) only [s0,s2,s3,s5,hw2,cell_of cL,SS,eq_self,reduceIte,reduceCtorEq,Nat.reduceEqDiff,Nat.reduceAdd]
  refine CallH.by (put (1+k) hGL cL (by omega) (by omega) (by omega)) ?_
  rintro _ P ⟨k2,rfl,hk2,cP,hput⟩
  simp (disch:=omega) only [s0,s2,s3,s5,cell_of cP,build_a2,SS,eq_self,reduceIte,reduceCtorEq,Nat.reduceEqDiff,Nat.reduceAdd]
  refine CallH.by hput ?_
  rintro r R ⟨K4,t1,t2,t3,w2,t4⟩
  have hw3:IntKind.i64.wrap ((m:Int) - 1)=((m - 1:Nat):Int):=by rw [wrap64 (by omega) (by omega)];omega
  simp (disch:=omega) only [s0,s2,s3,s5,t1,hw3,SS,eq_self,reduceIte,reduceCtorEq,Nat.reduceEqDiff,Nat.reduceAdd]
  have f1:=t3.more (show N+20+1+j * 2+1+1<=N+20+1+(j+1) * 2 by omega) (show 20+j+1<=20+(j+1) by omega)
  refine ⟨m - 1,by omega,j+1,w2,?_⟩
  (repeat' first | exact f1 | exact t4 | apply And.intro) <;> first | (simp only [Value.int.injEq,true_and];omega) | omega | rfl | assumption | (simp;done) | (simp;omega)
 clear s0 s2 s3 hG cg w1 put s K
 rintro s K ⟨s2,s3,n1,w,ps,q1,q2,q3,q4,q5,q6,q7,q8,q9,q10⟩
 have hst:=st_G q3.row q1 rfl n1
 obtain ⟨d4,t1,t2,t3⟩:=retG h (n:=n1) q1 q3 q5 q9 q10
 simp (disch:=omega) only [s2,s3,ld_agg ag26 cs26 q2,hst,SS,eq_self,reduceIte,reduceCtorEq,Nat.reduceEqDiff,Nat.reduceAdd]
 refine hQ _ _ _ (end_cell _ _ _ _ _ _ (.agg (List.toArray [.int .i64 n1,w])) ?_ rfl ⟨n1,w,ps,rfl,t1,q6,by omega,q8,t2.more (by omega),t3⟩)
 simp (disch:=omega) only [s2,ld_agg ag26 cs26 d4,SS,eq_self,reduceIte,reduceCtorEq,Nat.reduceEqDiff,Nat.reduceAdd]
def cd47:Cd:=(.seq (.reg [⟨⟨some 3,.box 26 (.tmp 1),none⟩,[]⟩,⟨⟨some 4,.assign (.const (.slice none 0 0)),none⟩,[]⟩]) (.seq (.reg [⟨⟨some 7,.buildSlice 27 0 #[],none⟩,[]⟩,⟨⟨some 5,.assign (.tmp 7),none⟩,[]⟩]) (.seq (.seq (.reg [⟨⟨some 6,.assign (.const (.int .i64 0)),none⟩,[]⟩]) (.block 0 (.loop (.seq (.seq (.reg [⟨⟨some 8,.move (.tmp 6),none⟩,[]⟩,⟨⟨some 9,.fieldAddr 26 (.tmp 3) 1,none⟩,[]⟩,⟨⟨some 10,.load 24 (.tmp 9),none⟩,[]⟩,⟨⟨some 11,.call ⟨(.builtin .len),#[.tmp 10],#[24]⟩,none⟩,[]⟩,⟨⟨some 12,.binOp .lss 3 (.tmp 8) (.tmp 11) 3,none⟩,[]⟩,⟨⟨some 13,.move (.tmp 12),none⟩,[]⟩,⟨⟨some 14,.move (.tmp 6),some (13,true)⟩,[]⟩,⟨⟨some 15,.binOp .lss 3 (.tmp 14) (.const (.int .i64 29)) 3,some (13,true)⟩,[]⟩,⟨⟨some 16,.pick (.tmp 13) (.tmp 15) (.const (.bool false)),none⟩,[]⟩]) (.cond (.tmp 16) .skip (.exit 0))) (.seq (.block 1 (.reg [⟨⟨some 19,.move (.tmp 5),none⟩,[]⟩,⟨⟨some 20,.move (.tmp 0),none⟩,[]⟩,
 ⟨⟨some 21,.buildSlice 27 6 #[(0,(.const (.int .i64 1))),(1,(.const (.int .i64 2))),(2,(.const (.int .i64 1))),(3,(.const (.int .i64 3))),(4,(.const (.int .i64 1))),(5,(.const (.int .i64 0)))],none⟩,[]⟩,⟨⟨some 22,.call ⟨(.value (.func 108)),#[.tmp 20,.tmp 21],#[64,27]⟩,none⟩,[]⟩,⟨⟨some 23,.buildSlice 27 1 #[(0,.tmp 22)],none⟩,[]⟩,⟨⟨some 24,.call ⟨(.builtin .append),#[.tmp 19,.tmp 23],#[27,27]⟩,none⟩,[]⟩,⟨⟨some 5,.assign (.tmp 24),none⟩,[]⟩])) (.reg [⟨⟨some 17,.move (.tmp 6),none⟩,[]⟩,⟨⟨some 18,.binOp .add 3 (.tmp 17) (.const (.int .i64 1)) 3,none⟩,[]⟩,⟨⟨some 6,.assign (.tmp 18),none⟩,[]⟩])))))) (.seq (.seq (.reg [⟨⟨some 25,.move (.tmp 0),none⟩,[]⟩,⟨⟨some 26,.call ⟨(.value (.func 107)),#[.tmp 25,(.const (.int .i64 24))],#[64,3]⟩,none⟩,[]⟩]) (.block 2 (.seq (.reg [⟨⟨some 28,.binOp .eql 3 (.tmp 26) (.const (.int .i64 0)) 3,none⟩,[]⟩,⟨⟨some 27,.assign (.tmp 28),none⟩,[]⟩]) (.cond (.tmp 27) (.reg [⟨⟨some 29,.move (.tmp 5),none⟩,[]⟩,⟨⟨some 30,.buildSlice 27 1 #[(0,(.const (.int .i64 1)))],none⟩,[]⟩,⟨⟨some 31,.call ⟨(.builtin .append),#[.tmp 29,.tmp 30],#[27,27]⟩,none⟩,[]⟩,⟨⟨some 5,.assign (.tmp 31),none⟩,[]⟩]) (.seq (.reg [⟨⟨some 33,.binOp .eql 3 (.tmp 26) (.const (.int .i64 1)) 3,none⟩,[]⟩,
 ⟨⟨some 32,.assign (.tmp 33),none⟩,[]⟩]) (.cond (.tmp 32) (.seq (.reg [⟨⟨some 34,.move (.tmp 5),none⟩,[]⟩,
  ⟨⟨some 35,.call ⟨(.builtin .len),#[.tmp 34],#[27]⟩,none⟩,[]⟩,
  ⟨⟨some 36,.binOp .gtr 3 (.tmp 35) (.const (.int .i64 0)) 3,none⟩,[]⟩]) (.cond (.tmp 36) (.reg [⟨⟨some 37,.move (.tmp 5),none⟩,[]⟩,
  ⟨⟨some 38,.move (.tmp 0),none⟩,[]⟩,
  ⟨⟨some 39,.buildSlice 27 3 #[(0,(.const (.int .i64 (-1)))),(1,(.const (.int .i64 99))),(2,(.const (.int .i64 100)))],none⟩,[]⟩,
  ⟨⟨some 40,.call ⟨(.value (.func 108)),#[.tmp 38,.tmp 39],#[64,27]⟩,none⟩,[]⟩,
  ⟨⟨some 41,.indexAddr 27 (.tmp 37) (.const (.int .i64 0)),none⟩,[]⟩,
  ⟨⟨none,.store 3 (.tmp 41) (.tmp 40),none⟩,[]⟩]) .skip)) .skip)))))) (.seq (.reg [⟨⟨some 42,.move (.tmp 5),none⟩,[]⟩,
  ⟨⟨some 4,.assign (.tmp 42),none⟩,[]⟩]) .ret)))))
theorem in47:InT Tryz.prog 47 2 [.tmp 4] cd47:=InT.mk (by kernel_rfl) [] Tryz.func47 rfl (by kernel_rfl) (by kernel_rfl) (of_decide_eq_true (by kernel_rfl)) (by kernel_rfl)
def cd7:Cd:=(.seq (.reg [⟨⟨some 2,.alloc 26,none⟩,[]⟩,⟨⟨some 3,.assign (.const (.slice none 0 0)),none⟩,[]⟩]) (.seq (.reg [⟨⟨some 6,.move (.tmp 0),none⟩,[]⟩,⟨⟨some 7,.build 67 #[(0,.tmp 6)],none⟩,[]⟩,⟨⟨some 8,.box 67 (.tmp 7),none⟩,[]⟩,⟨⟨some 4,.assign (.tmp 8),none⟩,[]⟩]) (.seq (.reg [⟨⟨some 9,.move (.tmp 4),none⟩,[]⟩,⟨⟨some 10,.call ⟨(.value (.func 46)),#[.tmp 9],#[64]⟩,none⟩,[]⟩,⟨⟨some 5,.alloc 26,none⟩,[]⟩,⟨⟨none,.store 26 (.tmp 5) (.tmp 10),none⟩,[]⟩]) (.seq (.reg [⟨⟨some 11,.load 26 (.tmp 5),none⟩,[]⟩,⟨⟨some 12,.move (.tmp 4),none⟩,[]⟩,⟨⟨some 13,.load 26 (.tmp 5),none⟩,[]⟩,⟨⟨some 14,.call ⟨(.value (.func 47)),#[.tmp 12,.tmp 13],#[64,26]⟩,none⟩,[⟨some 11,.load 26 (.tmp 5),none⟩]⟩,⟨⟨none,.store 26 (.tmp 2) (.tmp 11),none⟩,[]⟩,
 ⟨⟨some 3,.assign (.tmp 14),none⟩,[]⟩]) .ret))))
theorem in7:InT Tryz.prog 7 1 [.cell 2 26,.tmp 3] cd7:=InT.mk (by kernel_rfl) [(3,[(0,false),(1,false),(2,false),(3,true),(4,true),(5,false)])] Tryz.func7 rfl (by kernel_rfl) (by kernel_rfl) (of_decide_eq_true (by kernel_rfl)) (by kernel_rfl)
end Go.Proofs.YtlcipphiflcaiaaGreat.Ai
namespace Go.Proofs.YtlcipphiflcaiaaGreat.Ai
open Go Go.RowKit
theorem row_low {H:AH}{v:Value}{us:List Value}(h:RowV 5 H v us)(h0:0<H.length):rowO v<H.length:=by
 rcases h with q | ⟨o',k',vs',ro',e1,g2,_⟩
 ·rw [q.1];show (0:Nat)<H.length;exact h0
 ·rw [e1];exact at_lt g2
theorem app_cur {H L:AH}{o:Nat}{v u:Value}{us:List Value}{N:Nat}{xs:List Int}(hv:rowO v<H.length)(ho:o<H.length)(hu:Own 3 H L u xs)(kHL:Keeps o H L)(hC:Cur L o v us N)(hl:xs.length<=1000)(x:Int) :
  ∃ u' M,appendA Tryz.prog 27 27 u (.slice (some ⟨L.length,0,none⟩) 1 1) (L ++ [.cells [.int .i64 x] 3 false])=some (u',M)/\Own 3 H M u' (xs ++ [x])/\Cur M o v us N/\Keeps o H M/\isTup u'=false:=by
 obtain ⟨H0,hp0,hb0⟩:∃ H0:AH,H0<+:L/\H0.length=H.length:=⟨L.take H.length,List.take_prefix _ _,by have:=kHL.1;simp;omega⟩
 have huL0:Own 3 H0 L u xs:=ownB hu (by omega)
 obtain ⟨w',M,a1,a2,a3,a4,a5,a6⟩:=own1_27 huL0 hp0 (by omega) x
 have a2':Own 3 H M w' (xs ++ [x]):=ownB a2 (by omega)
 have low:u=.slice none 0 0∨H.length<=rowO u:=by
  rcases hu with ⟨q,_⟩ | ⟨q,q1,q2,_⟩
  ·exact .inl q
  ·exact .inr (by rw [q1];exact q2)
 have old:∀ {j:Nat} {y:AObj},j<H.length->L[j]?=some y->M[j]?=some y:=fun {j y} hj hy=>a4 _ _ (by
  rcases low with e | e
  ·exact .inl e
  ·exact .inr (by omega)) hy
 have lML:L.length<=M.length:=by
  obtain ⟨q,q1,q2,q3⟩:=own_slD a2' (by simp)
  have:=at_lt q3
  rw [q1] at a5
  have a5':L.length<=q:=a5
  omega
 obtain ⟨a,sd,c1,c2,c3⟩:=hC.cur
 exact ⟨w',M,a1,a2',⟨⟨a,sd,old ho c1,by omega,c3⟩,hC.row.mono fun y hy=>old hv hy,hC.byt,hC.ap,hC.le⟩,⟨by have:=kHL.1;omega,fun j y hj hy=>old (at_lt hy) (kHL.2 j y hj hy)⟩,a6⟩
theorem weights7_c {H:AH}{o:Nat}{v w:Value}{us:List Value}{N:Nat}{es:List (Int × Int)}(h:Cur H o v us N)(hN:N<=99000000)(n:Int)(hw:RowP 115 H w es)(hwo:w=.slice none 0 0∨rowO w ≠ o)(hl:es.length<=1000) :
  ACalls Tryz.prog 47 [.pointer (some ⟨o,0,none⟩),.agg (List.toArray [.int .i64 n,w])] H fun r H'=>∃ xs:List Int,Own 3 H H' r xs/\xs.length<=30/\(∀ y ∈ xs,-1<=y/\y<=100)/\Cur H' o v us (N+40)/\Keeps o H H':=by
 have ho:o<H.length:=by
  obtain ⟨_,_,g,_⟩:=h.cur
  exact at_lt g
 have hv:=row_low h.row (by omega)
 refine in47 rfl ?_
 intro Q hQ
 simp (disch:=omega) only [cd47,hw.boxG,SS,eq_self,reduceIte,reduceCtorEq,Nat.reduceEqDiff,Nat.reduceAdd]
 generalize hA:H ++ [AObj.cells [.int .i64 n,w] 26 false]=A
 have pA:H<+:A:=by rw [<- hA];exact List.prefix_append _ _
 have cA:A[H.length]?=some (.cells [.int .i64 n,w] 26 false):=by rw [<- hA];exact at_new ..
 have rA:=hw.pre pA
 have lA:A.length=H.length+1:=by rw [<- hA];simp
 generalize hB:A ++ [AObj.cells [] 3 false]=B
 have pB:A<+:B:=by rw [<- hB];exact List.prefix_append _ _
 have own0:Own 3 A B (.slice (some ⟨A.length,0,none⟩) 0 0) []:=.inr ⟨A.length,rfl,Nat.le_refl _,by rw [<- hB];exact at_new ..⟩
 have cur0:=(h.pre pA).pre pB
 have kB:Keeps o A B:=Keeps.of_pre pB
 have blK6:∀ H0:AH,buildSliceA Tryz.prog 27 6 [(0,.int .i64 1),(1,.int .i64 2),(2,.int .i64 1),(3,.int .i64 3),(4,.int .i64 1),(5,.int .i64 0)] H0=some (.slice (some ⟨H0.length,0,none⟩) 6 6,H0 ++ [.cells [.int .i64 1,.int .i64 2,.int .i64 1,.int .i64 3,.int .i64 1,.int .i64 0] 3 false]):=fun H0=>by kernel_rfl
 have blK3:∀ H0:AH,buildSliceA Tryz.prog 27 3 [(0,.int .i64 (-1)),(1,.int .i64 99),(2,.int .i64 100)] H0=some (.slice (some ⟨H0.length,0,none⟩) 3 3,H0 ++ [.cells [.int .i64 (-1),.int .i64 99,.int .i64 100] 3 false]):=fun H0=>by kernel_rfl
 have rdK:∀ K:AH,Keeps o A K->RowP 115 K w es:=fun K kK=>by
  rcases hwo with e | e
  ·exact .inl ⟨e,rA.nilv e⟩
  ·exact rA.mono fun y hy=>kK.2 _ _ e hy
 have hvA:rowO v<A.length:=by omega
 have hoA:o<A.length:=by omega
 refine LoopH.by (fun m s K=>∃ (i:Nat) (xs:List Int),m+i=29/\s 0=.pointer (some ⟨o,0,none⟩)/\s 3=.pointer (some ⟨H.length,0,none⟩)/\s 6=.int .i64 (i:Int)/\Own 3 A K (s 5) xs/\xs.length=i/\(∀ y ∈ xs,0<=y/\y<=3)/\Cur K o v us (N+i)/\Keeps o A K) 29 ?_ ?_
 ·refine ⟨0,[],by omega,?_⟩
  simp (disch:=omega) only [SS,eq_self,reduceIte,reduceCtorEq,Nat.reduceEqDiff,Nat.reduceAdd]
  (repeat' first | exact own0 | exact cur0 | exact kB | apply And.intro) <;> first | (simp only [Value.int.injEq,true_and];omega) | omega | rfl | assumption | (simp;done) | (simp;omega)
 rintro m s K ⟨i,xs,hm,s0,s3,s6,hO,hxl,hx,hC,kK⟩
 have cK:=kK.2 _ _ (by omega) cA
 have rK:=rdK K kK
 generalize hu:s 5=u at *
 have htu:=hO.row.tup
 have fin:∀ (K':AH) (u':Value) (ys:List Int) (M:Nat),M<=N+35->Own 3 A K' u' ys->ys.length<=30->(∀ y ∈ ys,-1<=y/\y<=100)->Cur K' o v us M->Keeps o A K'->∃ xs:List Int,Own 3 H K' u' xs/\xs.length<=30/\(∀ y ∈ xs,-1<=y/\y<=100)/\Cur K' o v us (N+40)/\Keeps o H K':=fun K' u' ys M hM h1 h2 h3 h4 h5=>⟨ys,h1.base pA,h2,h3,h4.more (by omega),(Keeps.of_pre pA).trans h5⟩
 have rest:ACalls Tryz.prog 107 [.pointer (some ⟨o,0,none⟩),.int .i64 24] K fun r K'=>(∃ x:Nat,r=.int .i64 (x:Int)/\((x:Int)<24∨x=0))/\Cur K' o v us (N+i+1)/\OnlyO o K K':=pick_c hC (by omega) 24 (by omega)
 by_cases c1:(i:Int)<(es.length:Int)/\(i:Int)<29
 ·simp (disch:=omega) only [s0,s3,s6,hu,cell_of cK,rK.len Tryz.underlying24,decide_eq_true c1.1,decide_eq_true c1.2,blK6,SS,eq_self,reduceIte,reduceCtorEq,Nat.reduceEqDiff,Nat.reduceAdd]
  generalize hD:K ++ [AObj.cells [.int .i64 1,.int .i64 2,.int .i64 1,.int .i64 3,.int .i64 1,.int .i64 0] 3 false]=D
  have pD:K<+:D:=by rw [<- hD];exact List.prefix_append _ _
  have aD:D[K.length]?=some (.cells [.int .i64 1,.int .i64 2,.int .i64 1,.int .i64 3,.int .i64 1,.int .i64 0] 3 false):=by rw [<- hD];exact at_new ..
  have wD:Row 3 D (.slice (some ⟨K.length,0,none⟩) 6 6) [1,2,1,3,1,0]:=.inr ⟨K.length,0,_,false,rfl,aD,by simp,rfl⟩
  have lK:=kK.1
  refine CallH.by (among_c (hC.pre pD) (by omega) wD (by show K.length ≠ o;omega) (by simp)) ?_
  rintro _ E ⟨⟨d,rfl,hd⟩,hCE,oE⟩
  have kE:Keeps o A E:=kK.trans ((Keeps.of_pre pD).trans oE.keeps)
  have hOE:Own 3 A E u xs:=(hO.pre pD).keeps oE.keeps hoA
  obtain ⟨u',F,a1,a2,a3,a4,a5⟩:=app_cur hvA hoA hOE kE hCE (by omega) d
  simp (disch:=omega) only [s0,s3,s6,hu,a1,wrap64,SS,eq_self,reduceIte,reduceCtorEq,Nat.reduceEqDiff,Nat.reduceAdd]
  have hx2:∀ y ∈ xs ++ [d],0<=y/\y<=3:=fun y hy=>by
   rcases List.mem_append.1 hy with q | q
   ·exact hx y q
   ·rw [List.mem_singleton.1 q];simp at hd;omega
  have hl2:(xs ++ [d]).length=i+1:=by simp;omega
  have a3':Cur F o v us (N+(i+1)):=a3
  refine ⟨m - 1,by omega,i+1,xs ++ [d],?_⟩
  (repeat' first | exact a2 | exact hl2 | exact hx2 | exact a3' | exact a4 | apply And.intro) <;> first | (simp only [Value.int.injEq,true_and];omega) | omega | rfl | assumption | (simp;done) | (simp;omega)
 by_cases c3:(i:Int)<(es.length:Int)
 ·have c4:¬ (i:Int)<29:=fun h=>c1 ⟨c3,h⟩
  simp (disch:=omega) only [s0,s3,s6,hu,cell_of cK,rK.len Tryz.underlying24,decide_eq_true c3,decide_eq_false c4,SS,eq_self,reduceIte,reduceCtorEq,Nat.reduceEqDiff,Nat.reduceAdd]
  refine CallH.by rest ?_
  rintro _ L ⟨⟨x,rfl,hxx⟩,hCL,oL⟩
  have hOL:Own 3 A L u xs:=hO.keeps oL.keeps hoA
  have kL:Keeps o A L:=kK.trans oL.keeps
  by_cases x0:(x:Int)=0
  ·obtain ⟨u',F,a1,a2,a3,a4,a5⟩:=app_cur hvA hoA hOL kL hCL (by omega) 1
   simp (disch:=omega) only [s0,s3,s6,hu,decide_eq_true x0,a1,SS,eq_self,reduceIte,reduceCtorEq,Nat.reduceEqDiff,Nat.reduceAdd]
   refine hQ _ _ _ ?_
   simp (disch:=omega) only [a5,SS,eq_self,reduceIte,reduceCtorEq,Nat.reduceEqDiff,Nat.reduceAdd]
   refine fin F u' (xs ++ [1]) (N+i+1) (by omega) a2 (by simp;omega) (fun y hy=>?_) a3 a4
   rcases List.mem_append.1 hy with q | q
   ·have:=hx y q;omega
   ·rw [List.mem_singleton.1 q];omega
  by_cases x1:(x:Int)=1
  rotate_left
  ·simp (disch:=omega) only [s0,s3,s6,hu,decide_eq_false x0,decide_eq_false x1,SS,eq_self,reduceIte,reduceCtorEq,Nat.reduceEqDiff,Nat.reduceAdd]
   refine hQ _ _ _ ?_
   simp (disch:=omega) only [htu,SS,eq_self,reduceIte,reduceCtorEq,Nat.reduceEqDiff,Nat.reduceAdd]
   exact fin L u xs (N+i+1) (by omega) hOL (by omega) (fun y hy=>by have:=hx y hy;omega) hCL kL
  by_cases x2:(0:Int)<(xs.length:Int)
  rotate_left
  ·simp (disch:=omega) only [s0,s3,s6,hu,decide_eq_false x0,decide_eq_true x1,hOL.row.len Tryz.underlying27,decide_eq_false x2,SS,eq_self,reduceIte,reduceCtorEq,Nat.reduceEqDiff,Nat.reduceAdd]
   refine hQ _ _ _ ?_
   simp (disch:=omega) only [htu,SS,eq_self,reduceIte,reduceCtorEq,Nat.reduceEqDiff,Nat.reduceAdd]
   exact fin L u xs (N+i+1) (by omega) hOL (by omega) (fun y hy=>by have:=hx y hy;omega) hCL kL
  simp (disch:=omega) only [s0,s3,s6,hu,decide_eq_false x0,decide_eq_true x1,hOL.row.len Tryz.underlying27,decide_eq_true x2,blK3,SS,eq_self,reduceIte,reduceCtorEq,Nat.reduceEqDiff,Nat.reduceAdd]
  generalize hD:L ++ [AObj.cells [.int .i64 (-1),.int .i64 99,.int .i64 100] 3 false]=D
  have pD:L<+:D:=by rw [<- hD];exact List.prefix_append _ _
  have aD:D[L.length]?=some (.cells [.int .i64 (-1),.int .i64 99,.int .i64 100] 3 false):=by rw [<- hD];exact at_new ..
  have wD:Row 3 D (.slice (some ⟨L.length,0,none⟩) 3 3) [-1,99,100]:=.inr ⟨L.length,0,_,false,rfl,aD,by simp,rfl⟩
  have lL:=kL.1
  refine CallH.by (among_c (hCL.pre pD) (by omega) wD (by show L.length ≠ o;omega) (by simp)) ?_
  rintro _ E ⟨⟨d,rfl,hd⟩,hCE,oE⟩
  have kE:Keeps o A E:=kL.trans ((Keeps.of_pre pD).trans oE.keeps)
  have hOE:Own 3 A E u xs:=(hOL.pre pD).keeps oE.keeps hoA
  obtain ⟨q,rfl,hq,hcq⟩:∃ q,u=.slice (some ⟨q,0,none⟩) xs.length xs.length/\A.length<=q/\E[q]?=some (.cells (ints xs) 3 false):=by
   rcases hOE with ⟨_,z⟩ | h
   ·rw [z] at x2;simp at x2
   ·exact h
  have hst:storeA Tryz.prog 3 (.pointer (some ⟨rowO (.slice (some ⟨q,0,none⟩) xs.length xs.length),rowK (.slice (some ⟨q,0,none⟩) xs.length xs.length)+Int.toNat 0,none⟩)) (.int .i64 d) E=some (E.set q (.cells (ints (xs.set 0 d)) 3 false)):=st_ints (P:=Tryz.prog) (t:=3) (x:=d) cs3 hcq (show 0<xs.length by omega)
  simp (disch:=omega) only [s0,s3,s6,hu,hOE.row.ix Tryz.underlying27 cs3,hst,SS,eq_self,reduceIte,reduceCtorEq,Nat.reduceEqDiff,Nat.reduceAdd]
  refine hQ _ _ _ ?_
  simp (disch:=omega) only [SS,eq_self,reduceIte,reduceCtorEq,Nat.reduceEqDiff,Nat.reduceAdd]
  have at_:∀ {j:Nat} {y:AObj},j ≠ q->E[j]?=some y->(E.set q (.cells (ints (xs.set 0 d)) 3 false))[j]?=some y:=fun hj hy=>by rw [List.getElem?_set_ne (fun e=>hj e.symm)];exact hy
  obtain ⟨a,sd,k1,k2,k3⟩:=hCE.cur
  refine fin _ _ (xs.set 0 d) (N+i+1+1) (by omega) (.inr ⟨q,by rw [List.length_set],hq,at_set hcq⟩) (by rw [List.length_set];omega) (fun y hy=>?_) ⟨⟨a,sd,at_ (by omega) k1,k2,k3⟩,hCE.row.mono fun y hy=>at_ (by omega) hy,hCE.byt,hCE.ap,hCE.le⟩ ⟨by rw [List.length_set];exact kE.1,fun j y hj hy=>at_ (by have:=at_lt hy;omega) (kE.2 j y hj hy)⟩
  rcases List.mem_or_eq_of_mem_set hy with z | z
  ·have:=hx y z;omega
  ·rw [z];simp at hd;omega
 ·simp (disch:=omega) only [s0,s3,s6,hu,cell_of cK,rK.len Tryz.underlying24,decide_eq_false c3,SS,eq_self,reduceIte,reduceCtorEq,Nat.reduceEqDiff,Nat.reduceAdd]
  refine CallH.by rest ?_
  rintro _ L ⟨⟨x,rfl,hxx⟩,hCL,oL⟩
  have hOL:Own 3 A L u xs:=hO.keeps oL.keeps hoA
  have kL:Keeps o A L:=kK.trans oL.keeps
  by_cases x0:(x:Int)=0
  ·obtain ⟨u',F,a1,a2,a3,a4,a5⟩:=app_cur hvA hoA hOL kL hCL (by omega) 1
   simp (disch:=omega) only [s0,s3,s6,hu,decide_eq_true x0,a1,SS,eq_self,reduceIte,reduceCtorEq,Nat.reduceEqDiff,Nat.reduceAdd]
   refine hQ _ _ _ ?_
   simp (disch:=omega) only [a5,SS,eq_self,reduceIte,reduceCtorEq,Nat.reduceEqDiff,Nat.reduceAdd]
   refine fin F u' (xs ++ [1]) (N+i+1) (by omega) a2 (by simp;omega) (fun y hy=>?_) a3 a4
   rcases List.mem_append.1 hy with q | q
   ·have:=hx y q;omega
   ·rw [List.mem_singleton.1 q];omega
  by_cases x1:(x:Int)=1
  rotate_left
  ·simp (disch:=omega) only [s0,s3,s6,hu,decide_eq_false x0,decide_eq_false x1,SS,eq_self,reduceIte,reduceCtorEq,Nat.reduceEqDiff,Nat.reduceAdd]
   refine hQ _ _ _ ?_
   simp (disch:=omega) only [htu,SS,eq_self,reduceIte,reduceCtorEq,Nat.reduceEqDiff,Nat.reduceAdd]
   exact fin L u xs (N+i+1) (by omega) hOL (by omega) (fun y hy=>by have:=hx y hy;omega) hCL kL
  by_cases x2:(0:Int)<(xs.length:Int)
  rotate_left
  ·simp (disch:=omega) only [s0,s3,s6,hu,decide_eq_false x0,decide_eq_true x1,hOL.row.len Tryz.underlying27,decide_eq_false x2,SS,eq_self,reduceIte,reduceCtorEq,Nat.reduceEqDiff,Nat.reduceAdd]
   refine hQ _ _ _ ?_
   simp (disch:=omega) only [htu,SS,eq_self,reduceIte,reduceCtorEq,Nat.reduceEqDiff,Nat.reduceAdd]
   exact fin L u xs (N+i+1) (by omega) hOL (by omega) (fun y hy=>by have:=hx y hy;omega) hCL kL
  simp (disch:=omega) only [s0,s3,s6,hu,decide_eq_false x0,decide_eq_true x1,hOL.row.len Tryz.underlying27,decide_eq_true x2,blK3,SS,eq_self,reduceIte,reduceCtorEq,Nat.reduceEqDiff,Nat.reduceAdd]
  generalize hD:L ++ [AObj.cells [.int .i64 (-1),.int .i64 99,.int .i64 100] 3 false]=D
  have pD:L<+:D:=by rw [<- hD];exact List.prefix_append _ _
  have aD:D[L.length]?=some (.cells [.int .i64 (-1),.int .i64 99,.int .i64 100] 3 false):=by rw [<- hD];exact at_new ..
  have wD:Row 3 D (.slice (some ⟨L.length,0,none⟩) 3 3) [-1,99,100]:=.inr ⟨L.length,0,_,false,rfl,aD,by simp,rfl⟩
  have lL:=kL.1
  refine CallH.by (among_c (hCL.pre pD) (by omega) wD (by show L.length ≠ o;omega) (by simp)) ?_
  rintro _ E ⟨⟨d,rfl,hd⟩,hCE,oE⟩
  have kE:Keeps o A E:=kL.trans ((Keeps.of_pre pD).trans oE.keeps)
  have hOE:Own 3 A E u xs:=(hOL.pre pD).keeps oE.keeps hoA
  obtain ⟨q,rfl,hq,hcq⟩:∃ q,u=.slice (some ⟨q,0,none⟩) xs.length xs.length/\A.length<=q/\E[q]?=some (.cells (ints xs) 3 false):=by
   rcases hOE with ⟨_,z⟩ | h
   ·rw [z] at x2;simp at x2
   ·exact h
  have hst:storeA Tryz.prog 3 (.pointer (some ⟨rowO (.slice (some ⟨q,0,none⟩) xs.length xs.length),rowK (.slice (some ⟨q,0,none⟩) xs.length xs.length)+Int.toNat 0,none⟩)) (.int .i64 d) E=some (E.set q (.cells (ints (xs.set 0 d)) 3 false)):=st_ints (P:=Tryz.prog) (t:=3) (x:=d) cs3 hcq (show 0<xs.length by omega)
  simp (disch:=omega) only [s0,s3,s6,hu,hOE.row.ix Tryz.underlying27 cs3,hst,SS,eq_self,reduceIte,reduceCtorEq,Nat.reduceEqDiff,Nat.reduceAdd]
  refine hQ _ _ _ ?_
  simp (disch:=omega) only [SS,eq_self,reduceIte,reduceCtorEq,Nat.reduceEqDiff,Nat.reduceAdd]
  have at_:∀ {j:Nat} {y:AObj},j ≠ q->E[j]?=some y->(E.set q (.cells (ints (xs.set 0 d)) 3 false))[j]?=some y:=fun hj hy=>by rw [List.getElem?_set_ne (fun e=>hj e.symm)];exact hy
  obtain ⟨a,sd,k1,k2,k3⟩:=hCE.cur
  refine fin _ _ (xs.set 0 d) (N+i+1+1) (by omega) (.inr ⟨q,by rw [List.length_set],hq,at_set hcq⟩) (by rw [List.length_set];omega) (fun y hy=>?_) ⟨⟨a,sd,at_ (by omega) k1,k2,k3⟩,hCE.row.mono fun y hy=>at_ (by omega) hy,hCE.byt,hCE.ap,hCE.le⟩ ⟨by rw [List.length_set];exact kE.1,fun j y hj hy=>at_ (by have:=at_lt hy;omega) (kE.2 j y hj hy)⟩
  rcases List.mem_or_eq_of_mem_set hy with z | z
  ·have:=hx y z;omega
  ·rw [z];simp at hd;omega
theorem DrawLight_c {H:AH}{v:Value}{us:List Value}(h:Byt H v us) :
  ACalls Tryz.prog 7 [v] H fun r H'=>∃ (n:Int) (w u:Value) (es:List (Int × Int)) (T:List Int),r=.tuple (List.toArray [.agg (List.toArray [.int .i64 n,w]),u])/\RowP 115 H' w es/\es.length<=200/\I64 n/\Sml es/\Row 3 H' u T/\T.length<=30/\(∀ y ∈ T,-1<=y/\y<=100)/\H<+:H':=by
 obtain ⟨pv,ev⟩:=h.row.shape
 refine in7 rfl ?_
 intro Q hQ
 have b1:=bld_cur pv us.length us.length
 have b2:=fun H=>box_cur pv us.length us.length H
 rw [<- ev] at b1 b2
 generalize hA:H ++ [AObj.cells [.int .i64 0,.slice none 0 0] 26 false]=A
 have pA:H<+:A:=by rw [<- hA];exact List.prefix_append _ _
 have cA:A[H.length]?=some (.cells [.int .i64 0,.slice none 0 0] 26 false):=by rw [<- hA];exact at_new ..
 have lA:A.length=H.length+1:=by rw [<- hA];simp
 have al:=alloc_G H
 rw [hA] at al
 simp (disch:=omega) only [cd7,al,b1,b2,SS,eq_self,reduceIte,reduceCtorEq,Nat.reduceEqDiff,Nat.reduceAdd]
 generalize hB:A ++ [AObj.cells [v,.int .i64 0,.int .u64 0] 67 false]=B
 have pB:A<+:B:=by rw [<- hB];exact List.prefix_append _ _
 have lB:B.length=A.length+1:=by rw [<- hB];simp
 have hC:Cur B A.length v us 0:=by rw [<- hB];exact (h.pre pA).cur
 have cB:=pre_at pB cA
 refine CallH.by (linked7_c hC (by omega)) ?_
 rintro _ C ⟨n,w,es,rfl,hm,hn,hl,hs,hCC,kC⟩
 have cC:=kC.2 _ _ (by omega) cB
 have lC:=kC.1
 have hwo:w=.slice none 0 0∨B.length<=rowO w:=hm.low
 have st1:=st_G hm.row (at_new C (.cells [.int .i64 0,.slice none 0 0] 26 false)) rfl n
 rw [set_new] at st1
 simp (disch:=omega) only [alloc_G,st1,SS,eq_self,reduceIte,reduceCtorEq,Nat.reduceEqDiff,Nat.reduceAdd]
 generalize hD:C ++ [AObj.cells [.int .i64 n,w] 26 false]=D
 have pD:C<+:D:=by rw [<- hD];exact List.prefix_append _ _
 have lD:D.length=C.length+1:=by rw [<- hD];simp
 have gD:D[C.length]?=some (.cells [.int .i64 n,w] 26 false):=by rw [<- hD];exact at_new ..
 have rD:=hm.row.pre pD
 simp (disch:=omega) only [ld_agg ag26 cs26 gD,SS,eq_self,reduceIte,reduceCtorEq,Nat.reduceEqDiff,Nat.reduceAdd]
 refine CallH.by (weights7_c (hCC.pre pD) (by omega) n rD (by
  rcases hwo with e | e
  ·exact .inl e
  ·exact .inr (by omega)) (by omega)) ?_
 rintro u E ⟨T,hu,htl,htr,hCE,kE⟩
 have lE:=kE.1
 have gE:=kE.2 _ _ (by omega) gD
 have hul:u=.slice none 0 0∨D.length<=rowO u:=by
  rcases hu with ⟨q,_⟩ | ⟨q,q1,q2,_⟩
  ·exact .inl q
  ·exact .inr (by rw [q1];exact q2)
 have cE:E[H.length]?=some (.cells [.int .i64 0,.slice none 0 0] 26 false):=kE.2 _ _ (by omega) (pre_at pD cC)
 have rE:RowP 115 E w es:=by
  rcases hwo with e | e
  ·exact .inl ⟨e,rD.nilv e⟩
  ·exact rD.mono fun y hy=>kE.2 _ _ (by omega) hy
 have huE:=hu.row
 have hst:=st_G rE cE rfl n
 have d4:=at_set (d:=.cells [.int .i64 n,w] 26 false) cE
 have gDE:E[C.length]?=D[C.length]?:=by rw [gE,gD]
 simp (disch:=omega) only [ld_agg ag26 cs26 gE,gDE,hst,SS,eq_self,reduceIte,reduceCtorEq,Nat.reduceEqDiff,Nat.reduceAdd]
 have at_:∀ {j:Nat} {y:AObj},j ≠ H.length->E[j]?=some y->(E.set H.length (.cells [.int .i64 n,w] 26 false))[j]?=some y:=fun hj hy=>by rw [List.getElem?_set_ne (fun e=>hj e.symm)];exact hy
 refine hQ _ _ _ (end_cell2 _ _ _ _ _ _ _ (.agg (List.toArray [.int .i64 n,w])) u ?_ rfl ?_ huE.tup ⟨n,w,u,es,T,rfl,?_,hl,hn,hs,?_,htl,htr,?_⟩)
 ·simp (disch:=omega) only [ld_agg ag26 cs26 d4,SS,eq_self,reduceIte,reduceCtorEq,Nat.reduceEqDiff,Nat.reduceAdd]
 ·simp (disch:=omega) only [SS,eq_self,reduceIte,reduceCtorEq,Nat.reduceEqDiff,Nat.reduceAdd]
 ·rcases hwo with e | e
  ·exact .inl ⟨e,rD.nilv e⟩
  ·exact rE.mono fun y hy=>at_ (by omega) hy
 ·rcases hul with e | e
  ·rcases huE with z | ⟨_,_,_,_,z,_⟩
   ·exact .inl z
   ·rw [e] at z;cases z
  ·exact huE.mono fun y hy=>at_ (by omega) hy
 ·exact prefix_of fun j y hy=>by
   have hj:=at_lt hy
   exact at_ (by omega) (kE.2 _ _ (by omega) (pre_at pD (kC.2 _ _ (by omega) (pre_at (pA.trans pB) hy))))
end Go.Proofs.YtlcipphiflcaiaaGreat.Ai
namespace Go.Proofs.YtlcipphiflcaiaaGreat.Ai
open Go Go.RowKit
theorem row_keeps {e:TypeId}{H H':AH}{o:Nat}{v:Value}{xs:List Int}(h:Row e H v xs)(hv:v=.slice none 0 0∨rowO v ≠ o)(hk:Keeps o H H'):Row e H' v xs:=by
 rcases hv with e1 | e1
 ·rcases h with z | ⟨_,_,_,_,z,_⟩
  ·exact .inl z
  ·rw [e1] at z;cases z
 ·exact h.mono fun y hy=>hk.2 _ _ e1 hy
theorem rowP_keeps {e:TypeId}{H H':AH}{o:Nat}{v:Value}{xs:List (Int × Int)}(h:RowP e H v xs)(hv:v=.slice none 0 0∨rowO v ≠ o)(hk:Keeps o H H'):RowP e H' v xs:=by
 rcases hv with e1 | e1
 ·exact .inl ⟨e1,h.nilv e1⟩
 ·exact h.mono fun y hy=>hk.2 _ _ e1 hy
structure SlSt (H:AH) (o gp:Nat) (n:Int) (w:Value) (es:List (Int × Int)) (a:Value) (p:List Int) (v:Value) (us:List Value) (N:Nat) (K:AH):Prop where
 eo:o=H.length+1
 c0:K[H.length]?=some (.cells [.int .i64 0,.slice none 0 0] 26 false)
 cg:K[gp]?=some (.cells [.int .i64 n,w] 26 false)
 gp2:H.length+2<=gp
 rw_:RowP 115 K w es
 lw:w=.slice none 0 0∨H.length+2<=rowO w
 ra:Row 3 K a p
 la:a=.slice none 0 0∨H.length+2<=rowO a
 cr:Cur K o v us N
 pr:H<+:K
theorem SlSt.keeps {H:AH}{o gp:Nat}{n:Int}{w:Value}{es:List (Int × Int)}{a:Value}{p:List Int}{v:Value}{us:List Value}{N M:Nat}{K L:AH}(h:SlSt H o gp n w es a p v us N K)(hk:Keeps o K L)(hc:Cur L o v us M):SlSt H o gp n w es a p v us M L:=by
 have e:=h.eo
 have g:=h.gp2
 exact ⟨e,hk.2 _ _ (by omega) h.c0,hk.2 _ _ (by omega) h.cg,g,rowP_keeps h.rw_ (h.lw.imp id fun q=>by omega) hk,h.lw,row_keeps h.ra (h.la.imp id fun q=>by omega) hk,h.la,hc,prefix_of fun j y hy=>hk.2 j y (by have:=at_lt hy;omega) (pre_at h.pr hy)⟩
theorem SlSt.pre {H:AH}{o gp:Nat}{n:Int}{w:Value}{es:List (Int × Int)}{a:Value}{p:List Int}{v:Value}{us:List Value}{N:Nat}{K L:AH}(h:SlSt H o gp n w es a p v us N K)(hp:K<+:L):SlSt H o gp n w es a p v us N L :=
 h.keeps (.of_pre hp) (h.cr.pre hp)
theorem SlSt.more {H:AH}{o gp:Nat}{n:Int}{w:Value}{es:List (Int × Int)}{a:Value}{p:List Int}{v:Value}{us:List Value}{N M:Nat}{K:AH}(h:SlSt H o gp n w es a p v us N K)(hm:N<=M):SlSt H o gp n w es a p v us M K :=
 { h with cr:=h.cr.more hm }
theorem SlSt.fin {H:AH}{o gp:Nat}{n:Int}{w:Value}{es:List (Int × Int)}{a:Value}{p:List Int}{v:Value}{us:List Value}{N:Nat}{K:AH}(h:SlSt H o gp n w es a p v us N K){b:Value}{q:List Int}(hb:Row 3 K b q)(lb:b=.slice none 0 0∨H.length+2<=rowO b) :
  (K.set H.length (.cells [.int .i64 n,w] 26 false))[H.length]?=some (.cells [.int .i64 n,w] 26 false)/\RowP 115 (K.set H.length (.cells [.int .i64 n,w] 26 false)) w es/\Row 3 (K.set H.length (.cells [.int .i64 n,w] 26 false)) a p/\Row 3 (K.set H.length (.cells [.int .i64 n,w] 26 false)) b q/\H<+:(K.set H.length (.cells [.int .i64 n,w] 26 false)):=by
 have hk:Keeps H.length K (K.set H.length (.cells [.int .i64 n,w] 26 false)):=⟨by simp,fun j y hj hy=>by rw [List.getElem?_set_ne (fun e=>hj e.symm)];exact hy⟩
 exact ⟨at_set h.c0,rowP_keeps h.rw_ (h.lw.imp id fun q=>by omega) hk,row_keeps h.ra (h.la.imp id fun q=>by omega) hk,row_keeps hb (lb.imp id fun q=>by omega) hk,prefix_of fun j y hy=>hk.2 j y (by have:=at_lt hy;omega) (pre_at h.pr hy)⟩
theorem row_lt {e:TypeId}{K:AH}{v:Value}{xs:List Int}(h:Row e K v xs):v=.slice none 0 0∨rowO v<K.length:=by
 rcases h with z | ⟨o,k,vs,ro,z,z2,_⟩
 ·exact .inl z.1
 ·right;rw [z];exact at_lt z2
theorem rowP_lt {e:TypeId}{K:AH}{v:Value}{xs:List (Int × Int)}(h:RowP e K v xs):v=.slice none 0 0∨rowO v<K.length:=by
 rcases h with z | ⟨o,k,vs,ro,z,z2,_⟩
 ·exact .inl z.1
 ·right;rw [z];exact at_lt z2
def Frs (H:AH)(o gp:Nat)(w a b:Value):Prop:=rowO b ≠ H.length/\rowO b ≠ o/\rowO b ≠ gp/\(w=.slice none 0 0∨rowO w ≠ rowO b)/\(a=.slice none 0 0∨rowO a ≠ rowO b)
theorem SlSt.frs {H:AH}{o gp:Nat}{n:Int}{w:Value}{es:List (Int × Int)}{a:Value}{p:List Int}{v:Value}{us:List Value}{N:Nat}{K:AH}(h:SlSt H o gp n w es a p v us N K){b:Value}(hb:K.length<=rowO b):Frs H o gp w a b:=by
 have h1:=at_lt h.c0
 have h2:=at_lt h.cg
 have h3:o<K.length:=by
  obtain ⟨_,_,g,_⟩:=h.cr.cur
  exact at_lt g
 exact ⟨by omega,by omega,by omega,(rowP_lt h.rw_).imp id fun q=>by omega,(row_lt h.ra).imp id fun q=>by omega⟩
theorem SlSt.kept {H:AH}{o gp:Nat}{n:Int}{w:Value}{es:List (Int × Int)}{a:Value}{p:List Int}{v:Value}{us:List Value}{N:Nat}{K L:AH}(h:SlSt H o gp n w es a p v us N K)(hB:Byt H v us){b:Value}(hf:Frs H o gp w a b)(hk:Kept b K L)(hp:H<+:L):SlSt H o gp n w es a p v us N L:=by
 obtain ⟨f1,f2,f3,f4,f5⟩:=hf
 have hK:∀ (j:Nat) (y:AObj),j ≠ rowO b->K[j]?=some y->L[j]?=some y:=fun j y hj hy=>hk j y (.inr hj) hy
 refine ⟨h.eo,hK _ _ (fun e=>f1 e.symm) h.c0,hK _ _ (fun e=>f3 e.symm) h.cg,h.gp2,?_,h.lw,?_,h.la,?_,hp⟩
 ·rcases f4 with e | e
  ·exact .inl ⟨e,h.rw_.nilv e⟩
  ·exact h.rw_.mono fun y hy=>hK _ _ e hy
 ·rcases f5 with e1 | e1
  ·rcases h.ra with z | ⟨_,_,_,_,z,_⟩
   ·exact .inl z
   ·rw [e1] at z;cases z
  ·exact h.ra.mono fun y hy=>hK _ _ e1 hy
 ·obtain ⟨x1,x2,x3,x4⟩:=h.cr.cur
  exact ⟨⟨x1,x2,hK _ _ (fun e=>f2 e.symm) x3,x4⟩,hB.row.pre hp,h.cr.byt,h.cr.ap,h.cr.le⟩
theorem SlSt.app {H:AH}{o gp:Nat}{n:Int}{w:Value}{es:List (Int × Int)}{a:Value}{p:List Int}{v:Value}{us:List Value}{N:Nat}{K:AH}(h:SlSt H o gp n w es a p v us N K)(hB:Byt H v us){b:Value}{q:List Int}(hb:Own 3 H K b q)(hf:Frs H o gp w a b)(hq:q.length<=1000)(x:Int) :
  ∃ b' L,appendA Tryz.prog 27 27 b (.slice (some ⟨K.length,0,none⟩) 1 1) (K ++ [.cells [.int .i64 x] 3 false])=some (b',L)/\isTup b'=false/\Own 3 H L b' (q ++ [x])/\Frs H o gp w a b'/\SlSt H o gp n w es a p v us N L:=by
 obtain ⟨b',L,j1,j2,j3,j4,j5,j6⟩:=own1_27 hb h.pr (by omega) x
 have hL:=h.kept hB hf j4 j3
 exact ⟨b',L,j1,j6,j2,h.frs j5,hL⟩
def cd12:Cd:=(.seq (.reg [⟨⟨some 4,.assign (.const (.bool false)),none⟩,[]⟩]) (.seq (.seq (.reg [⟨⟨some 6,.move (.tmp 0),none⟩,[]⟩,⟨⟨some 7,.call ⟨(.builtin .len),#[.tmp 6],#[27]⟩,none⟩,[]⟩,⟨⟨some 8,.move (.tmp 1),none⟩,[]⟩,⟨⟨some 9,.call ⟨(.builtin .len),#[.tmp 8],#[27]⟩,none⟩,[]⟩,⟨⟨some 10,.binOp .neq 3 (.tmp 7) (.tmp 9) 3,none⟩,[]⟩]) (.cond (.tmp 10) (.seq (.reg [⟨⟨some 4,.assign (.const (.bool false)),none⟩,[]⟩]) .ret) .skip)) (.seq (.seq (.reg [⟨⟨some 5,.assign (.const (.int .i64 0)),none⟩,[]⟩]) (.block 0 (.loop (.seq (.seq (.reg [⟨⟨some 11,.move (.tmp 5),none⟩,[]⟩,⟨⟨some 12,.move (.tmp 0),none⟩,[]⟩,⟨⟨some 13,.call ⟨(.builtin .len),#[.tmp 12],#[27]⟩,none⟩,[]⟩,⟨⟨some 14,.binOp .lss 3 (.tmp 11) (.tmp 13) 3,none⟩,[]⟩]) (.cond (.tmp 14) .skip (.exit 0))) (.seq (.block 1 (.seq (.reg [⟨⟨some 17,.move (.tmp 0),none⟩,[]⟩,⟨⟨some 18,.move (.tmp 5),none⟩,[]⟩,⟨⟨some 19,.indexAddr 27 (.tmp 17) (.tmp 18),none⟩,[]⟩,⟨⟨some 20,.load 3 (.tmp 19),none⟩,[]⟩,⟨⟨some 21,.move (.tmp 1),none⟩,[]⟩,
 ⟨⟨some 22,.move (.tmp 5),none⟩,[]⟩,
  ⟨⟨some 23,.indexAddr 27 (.tmp 21) (.tmp 22),none⟩,[]⟩,
  ⟨⟨some 24,.load 3 (.tmp 23),none⟩,[]⟩,
  ⟨⟨some 25,.binOp .neq 3 (.tmp 20) (.tmp 24) 3,none⟩,[]⟩]) (.cond (.tmp 25) (.seq (.reg [⟨⟨some 4,.assign (.const (.bool false)),none⟩,[]⟩]) .ret) .skip))) (.reg [⟨⟨some 15,.move (.tmp 5),none⟩,[]⟩,
  ⟨⟨some 16,.binOp .add 3 (.tmp 15) (.const (.int .i64 1)) 3,none⟩,[]⟩,
  ⟨⟨some 5,.assign (.tmp 16),none⟩,[]⟩])))))) (.seq (.reg [⟨⟨some 4,.assign (.const (.bool true)),none⟩,[]⟩]) .ret))))
theorem in12:InT Tryz.prog 12 2 [.tmp 4] cd12:=InT.mk (by kernel_rfl) [(6,[(0,false),(1,false),(2,false),(3,false),(4,false),(5,false),(6,false),(7,false),(8,false)])] Tryz.func12 rfl (by kernel_rfl) (by kernel_rfl) (of_decide_eq_true (by kernel_rfl)) (by kernel_rfl)
def cd29:Cd:=(.seq (.reg [⟨⟨some 4,.assign (.const (.bool false)),none⟩,[]⟩]) (.seq (.seq (.reg [⟨⟨some 6,.move (.tmp 0),none⟩,[]⟩,⟨⟨some 7,.call ⟨(.builtin .len),#[.tmp 6],#[32]⟩,none⟩,[]⟩,⟨⟨some 8,.move (.tmp 1),none⟩,[]⟩,⟨⟨some 9,.call ⟨(.builtin .len),#[.tmp 8],#[32]⟩,none⟩,[]⟩,⟨⟨some 10,.binOp .neq 3 (.tmp 7) (.tmp 9) 3,none⟩,[]⟩]) (.cond (.tmp 10) (.seq (.reg [⟨⟨some 4,.assign (.const (.bool false)),none⟩,[]⟩]) .ret) .skip)) (.seq (.seq (.reg [⟨⟨some 5,.assign (.const (.int .i64 0)),none⟩,[]⟩]) (.block 0 (.loop (.seq (.seq (.reg [⟨⟨some 11,.move (.tmp 5),none⟩,[]⟩,⟨⟨some 12,.move (.tmp 0),none⟩,[]⟩,⟨⟨some 13,.call ⟨(.builtin .len),#[.tmp 12],#[32]⟩,none⟩,[]⟩,⟨⟨some 14,.binOp .lss 3 (.tmp 11) (.tmp 13) 3,none⟩,[]⟩]) (.cond (.tmp 14) .skip (.exit 0))) (.seq (.block 1 (.seq (.reg [⟨⟨some 17,.move (.tmp 0),none⟩,[]⟩,⟨⟨some 18,.move (.tmp 5),none⟩,[]⟩,⟨⟨some 19,.indexAddr 32 (.tmp 17) (.tmp 18),none⟩,[]⟩,⟨⟨some 20,.load 27 (.tmp 19),none⟩,[]⟩,⟨⟨some 21,.move (.tmp 1),none⟩,[]⟩,
 ⟨⟨some 22,.move (.tmp 5),none⟩,[]⟩,
  ⟨⟨some 23,.indexAddr 32 (.tmp 21) (.tmp 22),none⟩,[]⟩,
  ⟨⟨some 24,.load 27 (.tmp 23),none⟩,[]⟩,
  ⟨⟨some 25,.call ⟨(.value (.func 12)),#[.tmp 20,.tmp 24],#[27,27]⟩,none⟩,[]⟩,
  ⟨⟨some 26,.unOp .not 4 (.tmp 25),none⟩,[]⟩]) (.cond (.tmp 26) (.seq (.reg [⟨⟨some 4,.assign (.const (.bool false)),none⟩,[]⟩]) .ret) .skip))) (.reg [⟨⟨some 15,.move (.tmp 5),none⟩,[]⟩,
  ⟨⟨some 16,.binOp .add 3 (.tmp 15) (.const (.int .i64 1)) 3,none⟩,[]⟩,
  ⟨⟨some 5,.assign (.tmp 16),none⟩,[]⟩])))))) (.seq (.reg [⟨⟨some 4,.assign (.const (.bool true)),none⟩,[]⟩]) .ret))))
theorem in29:InT Tryz.prog 29 2 [.tmp 4] cd29:=InT.mk (by kernel_rfl) [(6,[(0,false),(1,false),(2,false),(3,false),(4,false),(5,false),(6,false),(7,false),(8,true),(9,false)])] Tryz.func29 rfl (by kernel_rfl) (by kernel_rfl) (of_decide_eq_true (by kernel_rfl)) (by kernel_rfl)
def cd63:Cd:=(.seq (.reg [⟨⟨some 4,.assign (.const (.bool false)),none⟩,[]⟩]) (.seq (.seq (.reg [⟨⟨some 6,.move (.tmp 0),none⟩,[]⟩,⟨⟨some 7,.call ⟨(.builtin .len),#[.tmp 6],#[24]⟩,none⟩,[]⟩,⟨⟨some 8,.move (.tmp 1),none⟩,[]⟩,⟨⟨some 9,.call ⟨(.builtin .len),#[.tmp 8],#[24]⟩,none⟩,[]⟩,⟨⟨some 10,.binOp .neq 3 (.tmp 7) (.tmp 9) 3,none⟩,[]⟩]) (.cond (.tmp 10) (.seq (.reg [⟨⟨some 4,.assign (.const (.bool false)),none⟩,[]⟩]) .ret) .skip)) (.seq (.seq (.reg [⟨⟨some 5,.assign (.const (.int .i64 0)),none⟩,[]⟩]) (.block 0 (.loop (.seq (.seq (.reg [⟨⟨some 11,.move (.tmp 5),none⟩,[]⟩,⟨⟨some 12,.move (.tmp 0),none⟩,[]⟩,⟨⟨some 13,.call ⟨(.builtin .len),#[.tmp 12],#[24]⟩,none⟩,[]⟩,⟨⟨some 14,.binOp .lss 3 (.tmp 11) (.tmp 13) 3,none⟩,[]⟩]) (.cond (.tmp 14) .skip (.exit 0))) (.seq (.block 1 (.seq (.reg [⟨⟨some 17,.move (.tmp 0),none⟩,[]⟩,⟨⟨some 18,.move (.tmp 5),none⟩,[]⟩,⟨⟨some 19,.indexAddr 24 (.tmp 17) (.tmp 18),none⟩,[]⟩,⟨⟨some 20,.load 115 (.tmp 19),none⟩,[]⟩,⟨⟨some 21,.move (.tmp 1),none⟩,[]⟩,
 ⟨⟨some 22,.move (.tmp 5),none⟩,[]⟩,
  ⟨⟨some 23,.indexAddr 24 (.tmp 21) (.tmp 22),none⟩,[]⟩,
  ⟨⟨some 24,.load 115 (.tmp 23),none⟩,[]⟩,
  ⟨⟨some 25,.binOp .neq 115 (.tmp 20) (.tmp 24) 115,none⟩,[]⟩]) (.cond (.tmp 25) (.seq (.reg [⟨⟨some 4,.assign (.const (.bool false)),none⟩,[]⟩]) .ret) .skip))) (.reg [⟨⟨some 15,.move (.tmp 5),none⟩,[]⟩,
  ⟨⟨some 16,.binOp .add 3 (.tmp 15) (.const (.int .i64 1)) 3,none⟩,[]⟩,
  ⟨⟨some 5,.assign (.tmp 16),none⟩,[]⟩])))))) (.seq (.reg [⟨⟨some 4,.assign (.const (.bool true)),none⟩,[]⟩]) .ret))))
theorem in63:InT Tryz.prog 63 2 [.tmp 4] cd63:=InT.mk (by kernel_rfl) [(6,[(0,false),(1,false),(2,false),(3,false),(4,false),(5,false),(6,false),(7,false),(8,false)])] Tryz.func63 rfl (by kernel_rfl) (by kernel_rfl) (of_decide_eq_true (by kernel_rfl)) (by kernel_rfl)
end Go.Proofs.YtlcipphiflcaiaaGreat.Ai
namespace Go.Proofs.YtlcipphiflcaiaaGreat.Ai
open Go Go.RowKit
theorem vInts_c (v w:Value)(xs:List Int)(H:AH)(hr:Row 3 H v xs)(hs:Row 3 H w xs)(hl:xs.length<=1000000):ACalls Tryz.prog 12 [v,w] H fun r H'=>r=.bool true/\H=H':=by
 refine in12 rfl ?_
 intro Q hQ
 have e0:¬ ¬ ((xs.length:Nat):Int)=((xs.length:Nat):Int):=fun h=>h rfl
 simp (disch:=omega) only [cd12,hr.len Tryz.underlying27,hs.len Tryz.underlying27,decide_eq_false e0,SS,eq_self,reduceIte,reduceCtorEq,Nat.reduceEqDiff,Nat.reduceAdd]
 refine LoopH.by (fun m s H'=>∃ (i:Nat),m+i=xs.length/\s 0=v/\s 1=w/\s 5=.int .i64 ((i:Nat):Int)/\H=H') xs.length ?_ ?_
 ·exact ⟨0,by simp,rfl,rfl,rfl,rfl⟩
 rintro m s H' ⟨i,hm,h0,h1,h5,rfl⟩
 simp (disch:=omega) only [h0,h1,h5,hr.len Tryz.underlying27,SS,eq_self,reduceIte,reduceCtorEq,Nat.reduceEqDiff,Nat.reduceAdd]
 refine brD.intro (fun g=>?_) (fun g=>?_)
 ·have hi:i<xs.length:=by omega
  have c1:=hr.cell hi
  have c2:=hs.cell hi
  have e1:¬ ¬ xs.getD i 0=xs.getD i 0:=fun h=>h rfl
  simp (disch:=omega) only [h0,h1,h5,hr.ix Tryz.underlying27 cs3,hs.ix Tryz.underlying27 cs3,Int.toNat_natCast,c1,c2,decide_eq_false e1,wrap64,SS,eq_self,reduceIte,reduceCtorEq,Nat.reduceEqDiff,Nat.reduceAdd]
  refine ⟨m - 1,by omega,i+1,?_⟩
  (repeat' first | exact rfl | apply And.intro) <;> first | (simp only [Value.int.injEq,true_and];omega) | omega | rfl | assumption | (simp;done) | (simp;omega)
 ·simp (disch:=omega) only [SS,eq_self,reduceIte,reduceCtorEq,Nat.reduceEqDiff,Nat.reduceAdd]
  refine hQ _ _ _ ?_
  simp (disch:=omega) only [SS,eq_self,reduceIte,reduceCtorEq,Nat.reduceEqDiff,Nat.reduceAdd]
theorem vTable_c {b1 b2:Nat}(v w:Value)(ls:List (List Int))(H:AH)(hr:RowLB b1 27 3 H v ls)(hs:RowLB b2 27 3 H w ls)(hl:ls.length<=1000000)(hll:∀ l ∈ ls,l.length<=1000000):ACalls Tryz.prog 29 [v,w] H fun r H'=>r=.bool true/\H=H':=by
 obtain ⟨us,r1,_,r2,r3⟩:=hr
 obtain ⟨ws,s1,_,s2,s3⟩:=hs
 refine in29 rfl ?_
 intro Q hQ
 have e0:¬ ¬ ((us.length:Nat):Int)=((ws.length:Nat):Int):=fun h=>h (by omega)
 simp (disch:=omega) only [cd29,r1.len Tryz.underlying32,s1.len Tryz.underlying32,decide_eq_false e0,SS,eq_self,reduceIte,reduceCtorEq,Nat.reduceEqDiff,Nat.reduceAdd]
 refine LoopH.by (fun m s H'=>∃ (i:Nat),m+i=ls.length/\s 0=v/\s 1=w/\s 5=.int .i64 ((i:Nat):Int)/\H=H') ls.length ?_ ?_
 ·exact ⟨0,by simp,rfl,rfl,rfl,rfl⟩
 rintro m s H' ⟨i,hm,h0,h1,h5,rfl⟩
 simp (disch:=omega) only [h0,h1,h5,r1.len Tryz.underlying32,SS,eq_self,reduceIte,reduceCtorEq,Nat.reduceEqDiff,Nat.reduceAdd]
 refine brD.intro (fun g=>?_) (fun g=>?_)
 ·have hi:i<ls.length:=by omega
  have c1:=r1.cell (show i<us.length by omega)
  have c2:=s1.cell (show i<ws.length by omega)
  simp (disch:=omega) only [h0,h1,h5,r1.ix Tryz.underlying32 cs27,s1.ix Tryz.underlying32 cs27,Int.toNat_natCast,c1,c2,SS,eq_self,reduceIte,reduceCtorEq,Nat.reduceEqDiff,Nat.reduceAdd]
  refine CallH.by (vInts_c _ _ (ls.getD i []) H (r3 i hi).1 (s3 i hi).1 (hll _ (by simp [hi]))) ?_
  rintro _ _ ⟨rfl,rfl⟩
  simp (disch:=omega) only [h0,h1,h5,wrap64,SS,eq_self,reduceIte,reduceCtorEq,Nat.reduceEqDiff,Nat.reduceAdd]
  refine ⟨m - 1,by omega,i+1,?_⟩
  (repeat' first | exact rfl | apply And.intro) <;> first | (simp only [Value.int.injEq,true_and];omega) | omega | rfl | assumption | (simp;done) | (simp;omega)
 ·simp (disch:=omega) only [SS,eq_self,reduceIte,reduceCtorEq,Nat.reduceEqDiff,Nat.reduceAdd]
  refine hQ _ _ _ ?_
  simp (disch:=omega) only [SS,eq_self,reduceIte,reduceCtorEq,Nat.reduceEqDiff,Nat.reduceAdd]
theorem vPairs_c (v w:Value)(ps:List (Int × Int))(H:AH)(hr:RowP 115 H v ps)(hs:RowP 115 H w ps)(hl:ps.length<=1000000):ACalls Tryz.prog 63 [v,w] H fun r H'=>r=.bool true/\H=H':=by
 refine in63 rfl ?_
 intro Q hQ
 have e0:¬ ¬ ((ps.length:Nat):Int)=((ps.length:Nat):Int):=fun h=>h rfl
 simp (disch:=omega) only [cd63,hr.len Tryz.underlying24,hs.len Tryz.underlying24,decide_eq_false e0,SS,eq_self,reduceIte,reduceCtorEq,Nat.reduceEqDiff,Nat.reduceAdd]
 refine LoopH.by (fun m s H'=>∃ (i:Nat),m+i=ps.length/\s 0=v/\s 1=w/\s 5=.int .i64 ((i:Nat):Int)/\H=H') ps.length ?_ ?_
 ·exact ⟨0,by simp,rfl,rfl,rfl,rfl⟩
 rintro m s H' ⟨i,hm,h0,h1,h5,rfl⟩
 simp (disch:=omega) only [h0,h1,h5,hr.len Tryz.underlying24,SS,eq_self,reduceIte,reduceCtorEq,Nat.reduceEqDiff,Nat.reduceAdd]
 refine brD.intro (fun g=>?_) (fun g=>?_)
 ·have hi:i<ps.length:=by omega
  have c1:=hr.ld ag115 cs115 hi
  have c2:=hs.ld ag115 cs115 hi
  have e1:∀ a b:Int,binA Tryz.prog .neq 115 (.agg (List.toArray [.int .i64 a,.int .i64 b])) (.agg (List.toArray [.int .i64 a,.int .i64 b]))=some (.bool false):=by
   intro a b
   have h:binA Tryz.prog .neq 115 (.agg (List.toArray [.int .i64 a,.int .i64 b])) (.agg (List.toArray [.int .i64 a,.int .i64 b]))=some (.bool (!(a == a && b == b))):=by kernel_rfl
   rw [h];simp
  simp (disch:=omega) only [h0,h1,h5,hr.ix Tryz.underlying24 cs115,hs.ix Tryz.underlying24 cs115,Int.toNat_natCast,c1,c2,e1,wrap64,SS,eq_self,reduceIte,reduceCtorEq,Nat.reduceEqDiff,Nat.reduceAdd]
  refine ⟨m - 1,by omega,i+1,?_⟩
  (repeat' first | exact rfl | apply And.intro) <;> first | (simp only [Value.int.injEq,true_and];omega) | omega | rfl | assumption | (simp;done) | (simp;omega)
 ·simp (disch:=omega) only [SS,eq_self,reduceIte,reduceCtorEq,Nat.reduceEqDiff,Nat.reduceAdd]
  refine hQ _ _ _ ?_
  simp (disch:=omega) only [SS,eq_self,reduceIte,reduceCtorEq,Nat.reduceEqDiff,Nat.reduceAdd]
def cd13:Cd:=(.seq (.reg [⟨⟨some 2,.box 34 (.tmp 0),none⟩,[]⟩,⟨⟨some 3,.box 34 (.tmp 1),none⟩,[]⟩,⟨⟨some 4,.assign (.const (.bool false)),none⟩,[]⟩]) (.seq (.reg [⟨⟨some 5,.fieldAddr 34 (.tmp 2) 0,none⟩,[]⟩,⟨⟨some 6,.load 32 (.tmp 5),none⟩,[]⟩,⟨⟨some 7,.fieldAddr 34 (.tmp 3) 0,none⟩,[]⟩,⟨⟨some 8,.load 32 (.tmp 7),none⟩,[]⟩,⟨⟨some 9,.call ⟨(.value (.func 29)),#[.tmp 6,.tmp 8],#[32,32]⟩,none⟩,[]⟩,⟨⟨some 10,.move (.tmp 9),none⟩,[]⟩,⟨⟨some 11,.fieldAddr 34 (.tmp 2) 1,some (10,true)⟩,[]⟩,⟨⟨some 12,.load 24 (.tmp 11),some (10,true)⟩,[]⟩,⟨⟨some 13,.fieldAddr 34 (.tmp 3) 1,some (10,true)⟩,[]⟩,⟨⟨some 14,.load 24 (.tmp 13),some (10,true)⟩,[]⟩,
 ⟨⟨some 15,.call ⟨(.value (.func 63)),#[.tmp 12,.tmp 14],#[24,24]⟩,some (10,true)⟩,[]⟩,
  ⟨⟨some 16,.pick (.tmp 10) (.tmp 15) (.const (.bool false)),none⟩,[]⟩,
  ⟨⟨some 4,.assign (.tmp 16),none⟩,[]⟩]) .ret))
theorem in13:InT Tryz.prog 13 2 [.tmp 4] cd13:=InT.mk (by kernel_rfl) [] Tryz.func13 rfl (by kernel_rfl) (by kernel_rfl) (of_decide_eq_true (by kernel_rfl)) (by kernel_rfl)
end Go.Proofs.YtlcipphiflcaiaaGreat.Ai
namespace Go.Proofs.YtlcipphiflcaiaaGreat.Ai
open Go Go.RowKit
theorem vSpace_c {a b a' b':Value}{ls:List (List Int)}{ps:List (Int × Int)}{H:AH}(hr:SpRow H a b ls ps)(hs:SpRow H a' b' ls ps)(hl:ls.length<=1000000)(hll:∀ l ∈ ls,l.length<=1000000)(hp:ps.length<=1000000) :
  ACalls Tryz.prog 13 [.agg (List.toArray [a,b]),.agg (List.toArray [a',b'])] H fun r H'=>r=.bool true/\H<+:H':=by
 refine in13 rfl ?_
 intro Q hQ
 simp (disch:=omega) only [cd13,hr.box,hs.box,SS,eq_self,reduceIte,reduceCtorEq,Nat.reduceEqDiff,Nat.reduceAdd]
 generalize hA:H ++ [AObj.cells [a,b] 34 false]=A
 have pA:H<+:A:=by rw [<- hA];exact List.prefix_append _ _
 have cA:A[H.length]?=some (.cells [a,b] 34 false):=by rw [<- hA];exact at_new ..
 generalize hB:A ++ [AObj.cells [a',b'] 34 false]=B
 have pB:A<+:B:=by rw [<- hB];exact List.prefix_append _ _
 have cB:B[A.length]?=some (.cells [a',b'] 34 false):=by rw [<- hB];exact at_new ..
 have cA2:=pre_at pB cA
 have h1:=hr.pre (pA.trans pB)
 have h2:=hs.pre (pA.trans pB)
 obtain ⟨⟨bd1,r1⟩,r2⟩:=h1
 obtain ⟨⟨bd2,s1⟩,s2⟩:=h2
 simp (disch:=omega) only [cell_of cA2,cell_of cB,SS,eq_self,reduceIte,reduceCtorEq,Nat.reduceEqDiff,Nat.reduceAdd]
 refine CallH.by (vTable_c a a' ls B r1 s1 hl hll) ?_
 rintro _ _ ⟨rfl,rfl⟩
 simp (disch:=omega) only [cell_of cA2,cell_of cB,SS,eq_self,reduceIte,reduceCtorEq,Nat.reduceEqDiff,Nat.reduceAdd]
 refine CallH.by (vPairs_c b b' ps B r2 s2 hp) ?_
 rintro _ _ ⟨rfl,rfl⟩
 simp (disch:=omega) only [SS,eq_self,reduceIte,reduceCtorEq,Nat.reduceEqDiff,Nat.reduceAdd]
 refine hQ _ _ _ ?_
 simp (disch:=omega) only [SS,eq_self,reduceIte,reduceCtorEq,Nat.reduceEqDiff,Nat.reduceAdd]
 exact pA.trans pB
def cd170:Cd:=(.seq (.reg [⟨⟨some 2,.assign (.const (.bool false)),none⟩,[]⟩]) (.seq (.reg [⟨⟨some 3,.move (.tmp 0),none⟩,[]⟩,
 ⟨⟨some 4,.call ⟨(.value (.func 102)),#[.tmp 3,(.const (.int .i64 (-99))),(.const (.int .i64 99))],#[3,3,3]⟩,none⟩,[]⟩,
 ⟨⟨some 5,.unOp .not 4 (.tmp 4),none⟩,[]⟩,
 ⟨⟨some 2,.assign (.tmp 5),none⟩,[]⟩]) .ret))
theorem in170:InT Tryz.prog 170 1 [.tmp 2] cd170:=InT.mk (by kernel_rfl) [] Tryz.func170 rfl (by kernel_rfl) (by kernel_rfl) (of_decide_eq_true (by kernel_rfl)) (by kernel_rfl)
def cd132:Cd:=(.seq (.reg [⟨⟨some 2,.assign (.const (.bool false)),none⟩,[]⟩]) (.seq (.reg [⟨⟨some 3,.move (.tmp 0),none⟩,[]⟩,
 ⟨⟨some 4,.call ⟨(.builtin .len),#[.tmp 3],#[27]⟩,none⟩,[]⟩,
 ⟨⟨some 5,.binOp .leq 3 (.tmp 4) (.const (.int .i64 24)) 3,none⟩,[]⟩,
 ⟨⟨some 6,.move (.tmp 5),none⟩,[]⟩,
 ⟨⟨some 7,.move (.tmp 0),some (6,true)⟩,[]⟩,
 ⟨⟨some 8,.call ⟨(.value (.func 110)),#[.tmp 7,(.func 170)],#[27,84]⟩,some (6,true)⟩,[]⟩,
 ⟨⟨some 9,.unOp .not 4 (.tmp 8),some (6,true)⟩,[]⟩,
 ⟨⟨some 10,.pick (.tmp 6) (.tmp 9) (.const (.bool false)),none⟩,[]⟩,
 ⟨⟨some 2,.assign (.tmp 10),none⟩,[]⟩]) .ret))
theorem in132:InT Tryz.prog 132 1 [.tmp 2] cd132:=InT.mk (by kernel_rfl) [] Tryz.func132 rfl (by kernel_rfl) (by kernel_rfl) (of_decide_eq_true (by kernel_rfl)) (by kernel_rfl)
def cd65:Cd:=(.seq (.reg [⟨⟨some 1,.box 34 (.tmp 0),none⟩,[]⟩,⟨⟨some 2,.assign (.const (.bool false)),none⟩,[]⟩]) (.seq (.seq (.reg [⟨⟨some 5,.fieldAddr 34 (.tmp 1) 0,none⟩,[]⟩,⟨⟨some 6,.load 32 (.tmp 5),none⟩,[]⟩,⟨⟨some 7,.call ⟨(.builtin .len),#[.tmp 6],#[32]⟩,none⟩,[]⟩,⟨⟨some 8,.binOp .gtr 3 (.tmp 7) (.const (.int .i64 300)) 3,none⟩,[]⟩,⟨⟨some 9,.move (.tmp 8),none⟩,[]⟩,⟨⟨some 10,.fieldAddr 34 (.tmp 1) 1,some (9,false)⟩,[]⟩,⟨⟨some 11,.load 24 (.tmp 10),some (9,false)⟩,[]⟩,⟨⟨some 12,.call ⟨(.builtin .len),#[.tmp 11],#[24]⟩,some (9,false)⟩,[]⟩,⟨⟨some 13,.binOp .gtr 3 (.tmp 12) (.const (.int .i64 6000)) 3,some (9,false)⟩,[]⟩,⟨⟨some 14,.pick (.tmp 9) (.const (.bool true)) (.tmp 13),none⟩,[]⟩]) (.cond (.tmp 14) (.seq (.reg [⟨⟨some 2,.assign (.const (.bool false)),none⟩,[]⟩]) .ret) .skip)) (.seq (.seq (.reg [⟨⟨some 15,.fieldAddr 34 (.tmp 1) 0,none⟩,[]⟩,⟨⟨some 16,.load 32 (.tmp 15),none⟩,[]⟩,
 ⟨⟨some 17,.call ⟨(.builtin .len),#[.tmp 16],#[32]⟩,none⟩,[]⟩,⟨⟨some 18,.move (.const (.int .i64 0)),none⟩,[]⟩]) (.block 0 (.loop (.seq (.reg [⟨⟨some 19,.binOp .lss 3 (.tmp 18) (.tmp 17) 3,none⟩,[]⟩]) (.seq (.cond (.tmp 19) .skip (.exit 0)) (.seq (.block 1 (.seq (.reg [⟨⟨some 20,.move (.tmp 18),none⟩,[]⟩,⟨⟨some 21,.indexAddr 32 (.tmp 16) (.tmp 18),none⟩,[]⟩,⟨⟨some 22,.load 27 (.tmp 21),none⟩,[]⟩,⟨⟨some 3,.assign (.tmp 20),none⟩,[]⟩,⟨⟨some 4,.assign (.tmp 22),none⟩,[]⟩]) (.seq (.reg [⟨⟨some 23,.move (.tmp 4),none⟩,[]⟩,⟨⟨some 24,.call ⟨(.value (.func 132)),#[.tmp 23],#[27]⟩,none⟩,[]⟩,⟨⟨some 25,.unOp .not 4 (.tmp 24),none⟩,[]⟩,⟨⟨some 26,.move (.tmp 25),none⟩,[]⟩,⟨⟨some 27,.move (.tmp 3),some (26,false)⟩,[]⟩,⟨⟨some 28,.binOp .gtr 3 (.tmp 27) (.const (.int .i64 0)) 3,some (26,false)⟩,[]⟩,⟨⟨some 29,.move (.tmp 28),some (26,false)⟩,[]⟩,
 ⟨⟨some 30,.fieldAddr 34 (.tmp 1) 0,some (29,true)⟩,[]⟩,⟨⟨some 31,.load 32 (.tmp 30),some (29,true)⟩,[]⟩,⟨⟨some 32,.move (.tmp 3),some (29,true)⟩,[]⟩,⟨⟨some 33,.binOp .sub 3 (.tmp 32) (.const (.int .i64 1)) 3,some (29,true)⟩,[]⟩,⟨⟨some 34,.indexAddr 32 (.tmp 31) (.tmp 33),some (29,true)⟩,[]⟩,⟨⟨some 35,.load 27 (.tmp 34),some (29,true)⟩,[]⟩,⟨⟨some 36,.move (.tmp 4),some (29,true)⟩,[]⟩,⟨⟨some 37,.call ⟨(.value (.func 126)),#[.tmp 35,.tmp 36],#[27,27]⟩,some (29,true)⟩,[]⟩,⟨⟨some 38,.binOp .geq 3 (.tmp 37) (.const (.int .i64 0)) 3,some (29,true)⟩,[]⟩,⟨⟨some 39,.pick (.tmp 29) (.tmp 38) (.const (.bool false)),some (26,false)⟩,[]⟩,⟨⟨some 40,.pick (.tmp 26) (.const (.bool true)) (.tmp 39),none⟩,[]⟩]) (.cond (.tmp 40) (.seq (.reg [⟨⟨some 2,.assign (.const (.bool false)),none⟩,[]⟩]) .ret) .skip)))) (.reg [⟨⟨some 41,.binOp .add 3 (.tmp 18) (.const (.int .i64 1)) 3,none⟩,[]⟩,⟨⟨some 18,.move (.tmp 41),none⟩,[]⟩]))))))) (.seq (.reg [⟨⟨some 42,.fieldAddr 34 (.tmp 1) 1,none⟩,[]⟩,
 ⟨⟨some 43,.load 24 (.tmp 42),none⟩,[]⟩,
  ⟨⟨some 44,.fieldAddr 34 (.tmp 1) 0,none⟩,[]⟩,
  ⟨⟨some 45,.load 32 (.tmp 44),none⟩,[]⟩,
  ⟨⟨some 46,.call ⟨(.builtin .len),#[.tmp 45],#[32]⟩,none⟩,[]⟩,
  ⟨⟨some 47,.call ⟨(.value (.func 131)),#[.tmp 43,.tmp 46],#[24,3]⟩,none⟩,[]⟩,
  ⟨⟨some 2,.assign (.tmp 47),none⟩,[]⟩]) .ret))))
theorem in65:InT Tryz.prog 65 1 [.tmp 2] cd65:=InT.mk (by kernel_rfl) [] Tryz.func65 rfl (by kernel_rfl) (by kernel_rfl) (of_decide_eq_true (by kernel_rfl)) (by kernel_rfl)
def cd66:Cd:=(.seq (.reg [⟨⟨some 2,.box 34 (.tmp 0),none⟩,[]⟩,
 ⟨⟨some 4,.assign (.const (.bool false)),none⟩,[]⟩]) (.seq (.reg [⟨⟨some 5,.move (.tmp 1),none⟩,[]⟩,
 ⟨⟨some 6,.fieldAddr 34 (.tmp 2) 0,none⟩,[]⟩,
 ⟨⟨some 7,.load 32 (.tmp 6),none⟩,[]⟩,
 ⟨⟨some 8,.call ⟨(.builtin .len),#[.tmp 7],#[32]⟩,none⟩,[]⟩,
 ⟨⟨some 9,.binOp .sub 3 (.tmp 8) (.const (.int .i64 1)) 3,none⟩,[]⟩,
 ⟨⟨some 10,.call ⟨(.value (.func 102)),#[.tmp 5,(.const (.int .i64 0)),.tmp 9],#[3,3,3]⟩,none⟩,[]⟩,
 ⟨⟨some 4,.assign (.tmp 10),none⟩,[]⟩]) .ret))
theorem in66:InT Tryz.prog 66 2 [.tmp 4] cd66:=InT.mk (by kernel_rfl) [] Tryz.func66 rfl (by kernel_rfl) (by kernel_rfl) (of_decide_eq_true (by kernel_rfl)) (by kernel_rfl)
def cd16:Cd:=(.seq (.reg [⟨⟨some 2,.box 34 (.tmp 0),none⟩,[]⟩,⟨⟨some 4,.assign (.const (.slice none 0 0)),none⟩,[]⟩,⟨⟨some 5,.assign (.const (.bool false)),none⟩,[]⟩]) (.seq (.seq (.reg [⟨⟨some 6,.load 34 (.tmp 2),none⟩,[]⟩,⟨⟨some 7,.call ⟨(.value (.func 65)),#[.tmp 6],#[34]⟩,none⟩,[]⟩,⟨⟨some 8,.unOp .not 4 (.tmp 7),none⟩,[]⟩,⟨⟨some 9,.move (.tmp 8),none⟩,[]⟩,⟨⟨some 10,.load 34 (.tmp 2),some (9,false)⟩,[]⟩,⟨⟨some 11,.move (.tmp 1),some (9,false)⟩,[]⟩,⟨⟨some 12,.call ⟨(.value (.func 66)),#[.tmp 10,.tmp 11],#[34,3]⟩,some (9,false)⟩,[]⟩,⟨⟨some 13,.unOp .not 4 (.tmp 12),some (9,false)⟩,[]⟩,⟨⟨some 14,.pick (.tmp 9) (.const (.bool true)) (.tmp 13),none⟩,[]⟩]) (.cond (.tmp 14) (.seq (.reg [⟨⟨some 4,.assign (.const (.slice none 0 0)),none⟩,[]⟩,⟨⟨some 5,.assign (.const (.bool false)),none⟩,[]⟩]) .ret) .skip)) (.seq (.reg [⟨⟨some 15,.load 34 (.tmp 2),none⟩,[]⟩,
 ⟨⟨some 16,.call ⟨(.value (.func 68)),#[.tmp 15],#[34]⟩,none⟩,[]⟩,
  ⟨⟨some 17,.move (.tmp 1),none⟩,[]⟩,
  ⟨⟨some 18,.call ⟨(.value (.func 67)),#[.tmp 16,.tmp 17],#[32,3]⟩,none⟩,[]⟩,
  ⟨⟨some 4,.assign (.tmp 18),none⟩,[]⟩,
  ⟨⟨some 5,.assign (.const (.bool true)),none⟩,[]⟩]) .ret)))
theorem in16:InT Tryz.prog 16 2 [.tmp 4,.tmp 5] cd16:=InT.mk (by kernel_rfl) [] Tryz.func16 rfl (by kernel_rfl) (by kernel_rfl) (of_decide_eq_true (by kernel_rfl)) (by kernel_rfl)
end Go.Proofs.YtlcipphiflcaiaaGreat.Ai
namespace Go.Proofs.YtlcipphiflcaiaaGreat.Ai
open Go Go.RowKit
theorem isState1_c (y:Int)(H:AH):ACalls Tryz.prog 170 [.int .i64 y] H fun r H'=>r=.bool (!decide (-99<=y/\y<=99))/\H=H':=by
 refine in170 rfl ?_
 intro Q hQ
 simp (disch:=omega) only [cd170,SS,eq_self,reduceIte,reduceCtorEq,Nat.reduceEqDiff,Nat.reduceAdd]
 refine CallH.by (between_c y (-99) 99 H) ?_
 rintro _ _ ⟨rfl,rfl⟩
 simp (disch:=omega) only [SS,eq_self,reduceIte,reduceCtorEq,Nat.reduceEqDiff,Nat.reduceAdd]
 refine hQ _ _ _ ?_
 simp (disch:=omega) only [SS,eq_self,reduceIte,reduceCtorEq,Nat.reduceEqDiff,Nat.reduceAdd]
theorem isState_c (v:Value)(xs:List Int)(H:AH)(hr:Row 3 H v xs)(hl:xs.length<=24)(hx:∀ y ∈ xs,-99<=y/\y<=99) :
  ACalls Tryz.prog 132 [v] H fun r H'=>r=.bool true/\H=H':=by
 refine in132 rfl ?_
 intro Q hQ
 have e1:((xs.length:Nat):Int)<=24:=by omega
 simp (disch:=omega) only [cd132,hr.len Tryz.underlying27,decide_eq_true e1,SS,eq_self,reduceIte,reduceCtorEq,Nat.reduceEqDiff,Nat.reduceAdd]
 refine CallH.by (ContainsFunc_c v xs (fun y=>!decide (-99<=y/\y<=99)) 170 [] H hr (by omega) fun y _=>isState1_c y H) ?_
 rintro _ _ ⟨rfl,rfl⟩
 have:xs.any (fun y=>!decide (-99<=y/\y<=99))=false:=by
  rw [List.any_eq_false]
  intro y hy
  simp [hx y hy]
 rw [this]
 simp (disch:=omega) only [SS,eq_self,reduceIte,reduceCtorEq,Nat.reduceEqDiff,Nat.reduceAdd]
 refine hQ _ _ _ ?_
 simp (disch:=omega) only [SS,eq_self,reduceIte,reduceCtorEq,Nat.reduceEqDiff,Nat.reduceAdd]
theorem isSpaceT_c {a b:Value}{us:List Value}{ls:List (List Int)}{ps:List (Int × Int)}{H:AH}(hr:SpRow H a b ls ps)(h:Sts H a us ls)(hn:ls.length<=300)(hp:ps.length<=6000)(hst:∀ l ∈ ls,l.length<=24/\∀ y ∈ l,-99<=y/\y<=99)(hps:PrU ls.length ps ps.length) :
  ACalls Tryz.prog 65 [.agg (List.toArray [a,b])] H fun r H'=>r=.bool true/\H<+:H':=by
 refine in65 rfl ?_
 intro Q hQ
 simp (disch:=omega) only [cd65,hr.box,SS,eq_self,reduceIte,reduceCtorEq,Nat.reduceEqDiff,Nat.reduceAdd]
 generalize hA:H ++ [AObj.cells [a,b] 34 false]=A
 have pA:H<+:A:=by rw [<- hA];exact List.prefix_append _ _
 have cA:A[H.length]?=some (.cells [a,b] 34 false):=by rw [<- hA];exact at_new ..
 have hA2:=h.pre pA
 have rb:=hr.2.pre pA
 have hul:=h.len
 have e1:¬ (300:Int)<(ls.length:Int):=by omega
 have e2:¬ (6000:Int)<(ps.length:Int):=by omega
 simp (disch:=omega) only [cell_of cA,hA2.row.len Tryz.underlying32,hul,rb.len Tryz.underlying24,decide_eq_false e1,decide_eq_false e2,SS,eq_self,reduceIte,reduceCtorEq,Nat.reduceEqDiff,Nat.reduceAdd]
 refine LoopH.by (fun m s H'=>∃ i:Nat,m+i=ls.length/\s 1=.pointer (some ⟨H.length,0,none⟩)/\s 16=a/\s 17=.int .i64 (ls.length:Int)/\s 18=.int .i64 (i:Int)/\A=H') ls.length ?_ ?_
 ·exact ⟨0,by simp,rfl,rfl,rfl,rfl,rfl⟩
 rintro m s _ ⟨i,hm,s1,s16,s17,s18,rfl⟩
 simp (disch:=omega) only [s1,s16,s17,s18,SS,eq_self,reduceIte,reduceCtorEq,Nat.reduceEqDiff,Nat.reduceAdd]
 refine brD.intro (fun g=>?_) (fun g=>?_)
 rotate_left
 ·simp (disch:=omega) only [s1,s16,s17,s18,cell_of cA,hA2.row.len Tryz.underlying32,hul,SS,eq_self,reduceIte,reduceCtorEq,Nat.reduceEqDiff,Nat.reduceAdd]
  refine CallH.by (isPairsN_c b (ls.length:Int) ps A rb (by omega)) ?_
  rintro _ B ⟨rfl,pB⟩
  simp (disch:=omega) only [decide_eq_true hps,SS,eq_self,reduceIte,reduceCtorEq,Nat.reduceEqDiff,Nat.reduceAdd]
  refine hQ _ _ _ ?_
  simp (disch:=omega) only [decide_eq_true hps,SS,eq_self,reduceIte,reduceCtorEq,Nat.reduceEqDiff,Nat.reduceAdd]
  exact pA.trans pB
 have hi:i<ls.length:=by omega
 have hmem:ls.getD i [] ∈ ls:=by simp [hi]
 have hci:=hA2.row.cell (show i<us.length by omega)
 simp (disch:=omega) only [s1,s16,s17,s18,hA2.row.ix Tryz.underlying32 cs27,hul,Int.toNat_natCast,hci,SS,eq_self,reduceIte,reduceCtorEq,Nat.reduceEqDiff,Nat.reduceAdd]
 have hti:=(hA2.each i hi).tup
 refine CallH.by (isState_c _ _ A (hA2.each i hi) (hst _ hmem).1 (hst _ hmem).2) ?_
 rintro _ _ ⟨rfl,rfl⟩
 simp (disch:=omega) only [s1,s16,s17,s18,SS,eq_self,reduceIte,reduceCtorEq,Nat.reduceEqDiff,Nat.reduceAdd]
 by_cases h0:(0:Int)<(i:Int)
 rotate_left
 ·simp (disch:=omega) only [s1,s16,s17,s18,decide_eq_false h0,wrap64,SS,eq_self,reduceIte,reduceCtorEq,Nat.reduceEqDiff,Nat.reduceAdd]
  refine ⟨m - 1,by omega,i+1,?_⟩
  (repeat' first | exact s1 | apply And.intro) <;> first | (simp only [Value.int.injEq,true_and];omega) | omega | rfl | assumption | (simp;done) | (simp;omega)
 have hcj:=hA2.row.cell (show i - 1<us.length by omega)
 have hw:IntKind.i64.wrap ((i:Int) - 1)=((i - 1:Nat):Int):=by rw [wrap64 (by omega) (by omega)];omega
 simp (disch:=omega) only [s1,s16,s17,s18,decide_eq_true h0,cell_of cA,hw,hA2.row.ix Tryz.underlying32 cs27,hul,Int.toNat_natCast,hcj,SS,eq_self,reduceIte,reduceCtorEq,Nat.reduceEqDiff,Nat.reduceAdd]
 refine CallH.by (CmpL_c _ _ _ _ A (hA2.each (i - 1) (by omega)) (hA2.each i hi) (h.small (i - 1) (by omega)) (h.small i hi)) ?_
 rintro _ _ ⟨rfl,rfl⟩
 have hc:¬ (0:Int)<=cmpL (ls.getD (i - 1) []) (ls.getD i []):=by
  have:=h.srt (i - 1) i (by omega) hi
  rw [cmpL_swap] at this
  omega
 simp (disch:=omega) only [s1,s16,s17,s18,decide_eq_false hc,wrap64,SS,eq_self,reduceIte,reduceCtorEq,Nat.reduceEqDiff,Nat.reduceAdd]
 refine ⟨m - 1,by omega,i+1,?_⟩
 (repeat' first | exact s1 | apply And.intro) <;> first | (simp only [Value.int.injEq,true_and];omega) | omega | rfl | assumption | (simp;done) | (simp;omega)
theorem isPlace_c {a b:Value}{us:List Value}{ls:List (List Int)}{ps:List (Int × Int)}{H:AH}(hr:SpRow H a b ls ps)(h:Sts H a us ls)(i:Int) :
  ACalls Tryz.prog 66 [.agg (List.toArray [a,b]),.int .i64 i] H fun r H'=>r=.bool (decide (0<=i/\i<=(ls.length:Int) - 1))/\H<+:H':=by
 refine in66 rfl ?_
 intro Q hQ
 have hb:=h.bnd
 simp (disch:=omega) only [cd66,hr.box,SS,eq_self,reduceIte,reduceCtorEq,Nat.reduceEqDiff,Nat.reduceAdd]
 generalize hA:H ++ [AObj.cells [a,b] 34 false]=A
 have pA:H<+:A:=by rw [<- hA];exact List.prefix_append _ _
 have cA:A[H.length]?=some (.cells [a,b] 34 false):=by rw [<- hA];exact at_new ..
 have hul:=h.len
 simp (disch:=omega) only [cell_of cA,(h.pre pA).row.len Tryz.underlying32,hul,wrap64,SS,eq_self,reduceIte,reduceCtorEq,Nat.reduceEqDiff,Nat.reduceAdd]
 refine CallH.by (between_c i 0 ((ls.length:Int) - 1) A) ?_
 rintro _ _ ⟨rfl,rfl⟩
 simp (disch:=omega) only [SS,eq_self,reduceIte,reduceCtorEq,Nat.reduceEqDiff,Nat.reduceAdd]
 refine hQ _ _ _ ?_
 simp (disch:=omega) only [SS,eq_self,reduceIte,reduceCtorEq,Nat.reduceEqDiff,Nat.reduceAdd]
 exact pA
theorem DistI_c {a b:Value}{us:List Value}{ls:List (List Int)}{ps:List (Int × Int)}{H:AH}(hr:SpRow H a b ls ps)(h:Sts H a us ls)(hn:ls.length<=300)(hp:ps.length<=6000)(hst:∀ l ∈ ls,l.length<=24/\∀ y ∈ l,-99<=y/\y<=99)(hpu:PrU ls.length ps ps.length)(hps:StpOk ls.length ps){dg:Nat}(hdeg:∀ x,(nbS ps x).length<=dg){i:Nat}(hi:i<ls.length) :
  ACalls Tryz.prog 16 [.agg (List.toArray [a,b]),.int .i64 (i:Int)] H fun r H'=>∃ g,r=.tuple (List.toArray [g,.bool true])/\Own 3 H H' g (bfs (rdS ls.length ps) i)/\H<+:H':=by
 refine in16 rfl ?_
 intro Q hQ
 simp (disch:=omega) only [cd16,hr.box,SS,eq_self,reduceIte,reduceCtorEq,Nat.reduceEqDiff,Nat.reduceAdd]
 generalize hA:H ++ [AObj.cells [a,b] 34 false]=A
 have pA:H<+:A:=by rw [<- hA];exact List.prefix_append _ _
 have cA:A[H.length]?=some (.cells [a,b] 34 false):=by rw [<- hA];exact at_new ..
 simp (disch:=omega) only [ld_agg ag34 cs34 cA,SS,eq_self,reduceIte,reduceCtorEq,Nat.reduceEqDiff,Nat.reduceAdd]
 refine CallH.by (isSpaceT_c (hr.pre pA) (h.pre pA) hn hp hst hpu) ?_
 rintro _ B ⟨rfl,pB⟩
 have cB:=pre_at pB cA
 simp (disch:=omega) only [ld_agg ag34 cs34 cB,SS,eq_self,reduceIte,reduceCtorEq,Nat.reduceEqDiff,Nat.reduceAdd]
 refine CallH.by (isPlace_c ((hr.pre pA).pre pB) ((h.pre pA).pre pB) (i:Int)) ?_
 rintro _ C ⟨rfl,pC⟩
 have cC:=pre_at pC cB
 simp (disch:=omega) only [decide_eq_true (show (0:Int)<=i/\(i:Int)<=(ls.length:Int) - 1 by omega),ld_agg ag34 cs34 cC,SS,eq_self,reduceIte,reduceCtorEq,Nat.reduceEqDiff,Nat.reduceAdd]
 refine CallH.by (spRoads_c a b ls ps C (((hr.pre pA).pre pB).pre pC) (by omega) (by omega) hps hdeg) ?_
 rintro rv D ⟨⟨bd,hD⟩,pD⟩
 try simp (disch:=omega) only [SS,eq_self,reduceIte,reduceCtorEq,Nat.reduceEqDiff,Nat.reduceAdd]
 refine CallH.by (spread_c rv (rdS ls.length ps) i D hD (rdS_ok hps) (by rw [rdS_len];omega) (by rw [rdS_len];exact hi) (fun x=>?_)) ?_
 ·by_cases hx:x<ls.length
  ·have e:(rdS ls.length ps).getD x []=nbS ps (x:Int):=by unfold rdS;simp [hx]
   rw [e]
   have:=nb_le hps (x:Int)
   omega
  ·have e:(rdS ls.length ps).getD x []=[]:=by unfold rdS;simp [hx]
   rw [e]
   simp
 rintro g E ⟨hg,pE⟩
 have hgt:=hg.row.tup
 try simp (disch:=omega) only [hgt,SS,eq_self,reduceIte,reduceCtorEq,Nat.reduceEqDiff,Nat.reduceAdd]
 refine hQ _ _ _ ?_
 try simp (disch:=omega) only [hgt,SS,eq_self,reduceIte,reduceCtorEq,Nat.reduceEqDiff,Nat.reduceAdd]
 have pp:=pA.trans (pB.trans (pC.trans pD))
 exact ⟨g,rfl,own_base hg pp.length_le,pp.trans pE⟩
def cd45:Cd:=(.seq (.reg [⟨⟨some 4,.assign (.const (.bool false)),none⟩,[]⟩]) (.seq (.seq (.reg [⟨⟨some 5,.assign (.const (.int .i64 0)),none⟩,[]⟩]) (.block 0 (.loop (.seq (.seq (.reg [⟨⟨some 6,.move (.tmp 5),none⟩,[]⟩,
 ⟨⟨some 7,.move (.tmp 0),none⟩,[]⟩,
 ⟨⟨some 8,.call ⟨(.builtin .len),#[.tmp 7],#[27]⟩,none⟩,[]⟩,
 ⟨⟨some 9,.binOp .lss 3 (.tmp 6) (.tmp 8) 3,none⟩,[]⟩]) (.cond (.tmp 9) .skip (.exit 0))) (.seq (.block 1 (.seq (.reg [⟨⟨some 12,.move (.tmp 0),none⟩,[]⟩,
 ⟨⟨some 13,.move (.tmp 5),none⟩,[]⟩,
 ⟨⟨some 14,.indexAddr 27 (.tmp 12) (.tmp 13),none⟩,[]⟩,
 ⟨⟨some 15,.load 3 (.tmp 14),none⟩,[]⟩,
 ⟨⟨some 16,.move (.tmp 1),none⟩,[]⟩,
 ⟨⟨some 17,.binOp .eql 3 (.tmp 15) (.tmp 16) 3,none⟩,[]⟩]) (.cond (.tmp 17) (.seq (.reg [⟨⟨some 4,.assign (.const (.bool true)),none⟩,[]⟩]) .ret) .skip))) (.reg [⟨⟨some 10,.move (.tmp 5),none⟩,[]⟩,
 ⟨⟨some 11,.binOp .add 3 (.tmp 10) (.const (.int .i64 1)) 3,none⟩,[]⟩,
 ⟨⟨some 5,.assign (.tmp 11),none⟩,[]⟩])))))) (.seq (.reg [⟨⟨some 4,.assign (.const (.bool false)),none⟩,[]⟩]) .ret)))
theorem in45:InT Tryz.prog 45 2 [.tmp 4] cd45:=InT.mk (by kernel_rfl) [] Tryz.func45 rfl (by kernel_rfl) (by kernel_rfl) (of_decide_eq_true (by kernel_rfl)) (by kernel_rfl)
def cd17:Cd:=(.seq (.reg [⟨⟨some 4,.assign (.const (.slice none 0 0)),none⟩,[]⟩]) (.seq (.reg [⟨⟨some 7,.buildSlice 27 0 #[],none⟩,[]⟩,⟨⟨some 5,.assign (.tmp 7),none⟩,[]⟩]) (.seq (.seq (.reg [⟨⟨some 6,.assign (.const (.int .i64 0)),none⟩,[]⟩]) (.block 0 (.loop (.seq (.seq (.reg [⟨⟨some 8,.move (.tmp 6),none⟩,[]⟩,⟨⟨some 9,.move (.tmp 0),none⟩,[]⟩,⟨⟨some 10,.call ⟨(.builtin .len),#[.tmp 9],#[27]⟩,none⟩,[]⟩,⟨⟨some 11,.binOp .lss 3 (.tmp 8) (.tmp 10) 3,none⟩,[]⟩]) (.cond (.tmp 11) .skip (.exit 0))) (.seq (.block 1 (.seq (.reg [⟨⟨some 14,.move (.tmp 1),none⟩,[]⟩,⟨⟨some 15,.move (.tmp 0),none⟩,[]⟩,⟨⟨some 16,.move (.tmp 6),none⟩,[]⟩,⟨⟨some 17,.indexAddr 27 (.tmp 15) (.tmp 16),none⟩,[]⟩,⟨⟨some 18,.load 3 (.tmp 17),none⟩,[]⟩,⟨⟨some 19,.call ⟨(.value (.func 45)),#[.tmp 14,.tmp 18],#[27,3]⟩,none⟩,[]⟩,⟨⟨some 20,.unOp .not 4 (.tmp 19),none⟩,[]⟩]) (.cond (.tmp 20) (.reg [⟨⟨some 21,.move (.tmp 5),none⟩,[]⟩,⟨⟨some 22,.move (.tmp 0),none⟩,[]⟩,
 ⟨⟨some 23,.move (.tmp 6),none⟩,[]⟩,
  ⟨⟨some 24,.indexAddr 27 (.tmp 22) (.tmp 23),none⟩,[]⟩,
  ⟨⟨some 25,.load 3 (.tmp 24),none⟩,[]⟩,
  ⟨⟨some 26,.buildSlice 27 1 #[(0,.tmp 25)],none⟩,[]⟩,
  ⟨⟨some 27,.call ⟨(.builtin .append),#[.tmp 21,.tmp 26],#[27,27]⟩,none⟩,[]⟩,
  ⟨⟨some 5,.assign (.tmp 27),none⟩,[]⟩]) .skip))) (.reg [⟨⟨some 12,.move (.tmp 6),none⟩,[]⟩,
  ⟨⟨some 13,.binOp .add 3 (.tmp 12) (.const (.int .i64 1)) 3,none⟩,[]⟩,
  ⟨⟨some 6,.assign (.tmp 13),none⟩,[]⟩])))))) (.seq (.reg [⟨⟨some 28,.move (.tmp 5),none⟩,[]⟩,
  ⟨⟨some 4,.assign (.tmp 28),none⟩,[]⟩]) .ret))))
theorem in17:InT Tryz.prog 17 2 [.tmp 4] cd17:=InT.mk (by kernel_rfl) [] Tryz.func17 rfl (by kernel_rfl) (by kernel_rfl) (of_decide_eq_true (by kernel_rfl)) (by kernel_rfl)
def cd15:Cd:=(.seq (.reg [⟨⟨some 4,.assign (.const (.int .i64 0)),none⟩,[]⟩]) (.seq (.reg [⟨⟨some 5,.assign (.const (.int .i64 0)),none⟩,[]⟩]) (.seq (.seq (.reg [⟨⟨some 6,.assign (.const (.int .i64 0)),none⟩,[]⟩]) (.block 0 (.loop (.seq (.seq (.reg [⟨⟨some 7,.move (.tmp 6),none⟩,[]⟩,⟨⟨some 8,.move (.tmp 1),none⟩,[]⟩,⟨⟨some 9,.call ⟨(.builtin .len),#[.tmp 8],#[27]⟩,none⟩,[]⟩,⟨⟨some 10,.binOp .lss 3 (.tmp 7) (.tmp 9) 3,none⟩,[]⟩]) (.cond (.tmp 10) .skip (.exit 0))) (.seq (.block 1 (.reg [⟨⟨some 13,.move (.tmp 5),none⟩,[]⟩,⟨⟨some 14,.move (.tmp 0),none⟩,[]⟩,⟨⟨some 15,.move (.tmp 1),none⟩,[]⟩,⟨⟨some 16,.move (.tmp 6),none⟩,[]⟩,⟨⟨some 17,.indexAddr 27 (.tmp 15) (.tmp 16),none⟩,[]⟩,⟨⟨some 18,.load 3 (.tmp 17),none⟩,[]⟩,⟨⟨some 19,.indexAddr 27 (.tmp 14) (.tmp 18),none⟩,[]⟩,⟨⟨some 20,.load 3 (.tmp 19),none⟩,[]⟩,⟨⟨some 21,.binOp .add 3 (.tmp 13) (.tmp 20) 3,none⟩,[]⟩,
 ⟨⟨some 5,.assign (.tmp 21),none⟩,[]⟩])) (.reg [⟨⟨some 11,.move (.tmp 6),none⟩,[]⟩,
  ⟨⟨some 12,.binOp .add 3 (.tmp 11) (.const (.int .i64 1)) 3,none⟩,[]⟩,
  ⟨⟨some 6,.assign (.tmp 12),none⟩,[]⟩])))))) (.seq (.reg [⟨⟨some 22,.move (.tmp 5),none⟩,[]⟩,
  ⟨⟨some 4,.assign (.tmp 22),none⟩,[]⟩]) .ret))))
theorem in15:InT Tryz.prog 15 2 [.tmp 4] cd15:=InT.mk (by kernel_rfl) [] Tryz.func15 rfl (by kernel_rfl) (by kernel_rfl) (of_decide_eq_true (by kernel_rfl)) (by kernel_rfl)
def cd3:Cd:=(.seq (.reg [⟨⟨some 2,.assign (.const (.bool false)),none⟩,[]⟩]) (.seq (.seq (.reg [⟨⟨some 21,.move (.tmp 0),none⟩,[]⟩,⟨⟨some 22,.call ⟨(.value (.func 6)),#[.tmp 21],#[22]⟩,none⟩,[]⟩]) (.cond (.tmp 22) (.seq (.reg [⟨⟨some 2,.assign (.const (.bool true)),none⟩,[]⟩]) .ret) .skip)) (.seq (.reg [⟨⟨some 24,.move (.tmp 0),none⟩,[]⟩,⟨⟨some 25,.call ⟨(.value (.func 7)),#[.tmp 24],#[22]⟩,none⟩,[]⟩,⟨⟨some 23,.move (.tmp 25),none⟩,[]⟩,⟨⟨some 26,.extract (.tmp 23) 0,none⟩,[]⟩,⟨⟨some 27,.extract (.tmp 23) 1,none⟩,[]⟩,⟨⟨some 3,.alloc 26,none⟩,[]⟩,⟨⟨none,.store 26 (.tmp 3) (.tmp 26),none⟩,[]⟩,⟨⟨some 4,.assign (.tmp 27),none⟩,[]⟩]) (.seq (.reg [⟨⟨some 29,.load 26 (.tmp 3),none⟩,[]⟩,⟨⟨some 30,.move (.tmp 4),none⟩,[]⟩,⟨⟨some 31,.call ⟨(.value (.func 8)),#[.tmp 29,.tmp 30],#[26,27]⟩,none⟩,[]⟩,⟨⟨some 28,.move (.tmp 31),none⟩,[]⟩,
 ⟨⟨some 32,.extract (.tmp 28) 0,none⟩,[]⟩,⟨⟨some 33,.extract (.tmp 28) 1,none⟩,[]⟩,⟨⟨some 5,.assign (.tmp 32),none⟩,[]⟩,⟨⟨some 6,.assign (.tmp 33),none⟩,[]⟩]) (.seq (.reg [⟨⟨some 35,.load 26 (.tmp 3),none⟩,[]⟩,⟨⟨some 36,.move (.tmp 4),none⟩,[]⟩,⟨⟨some 37,.call ⟨(.value (.func 9)),#[.tmp 35,.tmp 36],#[26,27]⟩,none⟩,[]⟩,⟨⟨some 34,.move (.tmp 37),none⟩,[]⟩,⟨⟨some 38,.extract (.tmp 34) 0,none⟩,[]⟩,⟨⟨some 39,.extract (.tmp 34) 1,none⟩,[]⟩,⟨⟨some 7,.assign (.tmp 38),none⟩,[]⟩,⟨⟨some 8,.assign (.tmp 39),none⟩,[]⟩]) (.seq (.reg [⟨⟨some 41,.load 26 (.tmp 3),none⟩,[]⟩,⟨⟨some 42,.move (.tmp 4),none⟩,[]⟩,
 ⟨⟨some 43,.call ⟨(.value (.func 10)),#[.tmp 41,.tmp 42],#[26,27]⟩,none⟩,[]⟩,⟨⟨some 40,.move (.tmp 43),none⟩,[]⟩,⟨⟨some 44,.extract (.tmp 40) 0,none⟩,[]⟩,⟨⟨some 45,.extract (.tmp 40) 1,none⟩,[]⟩,⟨⟨some 9,.alloc 34,none⟩,[]⟩,⟨⟨none,.store 34 (.tmp 9) (.tmp 44),none⟩,[]⟩,⟨⟨some 10,.assign (.tmp 45),none⟩,[]⟩]) (.seq (.reg [⟨⟨some 47,.load 26 (.tmp 3),none⟩,[]⟩,⟨⟨some 48,.move (.tmp 4),none⟩,[]⟩,⟨⟨some 49,.call ⟨(.value (.func 11)),#[.tmp 47,.tmp 48],#[26,27]⟩,none⟩,[]⟩,⟨⟨some 46,.move (.tmp 49),none⟩,[]⟩,⟨⟨some 50,.extract (.tmp 46) 0,none⟩,[]⟩,⟨⟨some 51,.extract (.tmp 46) 1,none⟩,[]⟩,
 ⟨⟨some 11,.alloc 34,none⟩,[]⟩,⟨⟨none,.store 34 (.tmp 11) (.tmp 50),none⟩,[]⟩,⟨⟨some 12,.assign (.tmp 51),none⟩,[]⟩]) (.seq (.seq (.reg [⟨⟨some 52,.move (.tmp 6),none⟩,[]⟩,⟨⟨some 53,.move (.tmp 8),none⟩,[]⟩,⟨⟨some 54,.binOp .neq 4 (.tmp 52) (.tmp 53) 4,none⟩,[]⟩,⟨⟨some 55,.move (.tmp 54),none⟩,[]⟩,⟨⟨some 56,.move (.tmp 5),some (55,false)⟩,[]⟩,⟨⟨some 57,.move (.tmp 7),some (55,false)⟩,[]⟩,⟨⟨some 58,.call ⟨(.value (.func 12)),#[.tmp 56,.tmp 57],#[27,27]⟩,some (55,false)⟩,[]⟩,⟨⟨some 59,.unOp .not 4 (.tmp 58),some (55,false)⟩,[]⟩,⟨⟨some 60,.pick (.tmp 55) (.const (.bool true)) (.tmp 59),none⟩,[]⟩,⟨⟨some 61,.move (.tmp 60),none⟩,[]⟩,
 ⟨⟨some 62,.move (.tmp 10),some (61,false)⟩,[]⟩,⟨⟨some 63,.move (.tmp 12),some (61,false)⟩,[]⟩,⟨⟨some 64,.binOp .neq 4 (.tmp 62) (.tmp 63) 4,some (61,false)⟩,[]⟩,⟨⟨some 65,.pick (.tmp 61) (.const (.bool true)) (.tmp 64),none⟩,[]⟩,⟨⟨some 66,.move (.tmp 65),none⟩,[]⟩,⟨⟨some 67,.load 34 (.tmp 9),some (66,false)⟩,[]⟩,⟨⟨some 68,.load 34 (.tmp 11),some (66,false)⟩,[]⟩,⟨⟨some 69,.call ⟨(.value (.func 13)),#[.tmp 67,.tmp 68],#[34,34]⟩,some (66,false)⟩,[]⟩,⟨⟨some 70,.unOp .not 4 (.tmp 69),some (66,false)⟩,[]⟩,⟨⟨some 71,.pick (.tmp 66) (.const (.bool true)) (.tmp 70),none⟩,[]⟩]) (.cond (.tmp 71) (.seq (.reg [⟨⟨some 2,.assign (.const (.bool false)),none⟩,[]⟩]) .ret) .skip)) (.seq (.seq (.reg [⟨⟨some 72,.move (.tmp 10),none⟩,[]⟩,⟨⟨some 73,.unOp .not 4 (.tmp 72),none⟩,[]⟩]) (.cond (.tmp 73) (.seq (.reg [⟨⟨some 2,.assign (.const (.bool true)),none⟩,[]⟩]) .ret) .skip)) (.seq (.reg [⟨⟨some 75,.load 26 (.tmp 3),none⟩,[]⟩,⟨⟨some 76,.call ⟨(.value (.func 14)),#[.tmp 75],#[26]⟩,none⟩,[]⟩,
 ⟨⟨some 74,.move (.tmp 76),none⟩,[]⟩,⟨⟨some 77,.extract (.tmp 74) 0,none⟩,[]⟩,⟨⟨some 78,.extract (.tmp 74) 1,none⟩,[]⟩,⟨⟨some 13,.assign (.tmp 77),none⟩,[]⟩,⟨⟨some 14,.assign (.tmp 78),none⟩,[]⟩]) (.seq (.reg [⟨⟨some 79,.move (.tmp 4),none⟩,[]⟩,⟨⟨some 80,.move (.tmp 5),none⟩,[]⟩,⟨⟨some 81,.call ⟨(.value (.func 15)),#[.tmp 79,.tmp 80],#[27,27]⟩,none⟩,[]⟩,⟨⟨some 15,.assign (.tmp 81),none⟩,[]⟩]) (.seq (.reg [⟨⟨some 16,.assign (.const (.int .i64 0)),none⟩,[]⟩]) (.seq (.seq (.reg [⟨⟨some 17,.assign (.const (.int .i64 0)),none⟩,[]⟩]) (.block 0 (.loop (.seq (.seq (.reg [⟨⟨some 82,.move (.tmp 17),none⟩,[]⟩,⟨⟨some 83,.move (.tmp 13),none⟩,[]⟩,⟨⟨some 84,.call ⟨(.builtin .len),#[.tmp 83],#[32]⟩,none⟩,[]⟩,⟨⟨some 85,.binOp .lss 3 (.tmp 82) (.tmp 84) 3,none⟩,[]⟩]) (.cond (.tmp 85) .skip (.exit 0))) (.seq (.block 1 (.seq (.seq (.reg [⟨⟨some 88,.move (.tmp 4),none⟩,[]⟩,⟨⟨some 89,.move (.tmp 13),none⟩,[]⟩,
 ⟨⟨some 90,.move (.tmp 17),none⟩,[]⟩,⟨⟨some 91,.indexAddr 32 (.tmp 89) (.tmp 90),none⟩,[]⟩,⟨⟨some 92,.load 27 (.tmp 91),none⟩,[]⟩,⟨⟨some 93,.call ⟨(.value (.func 15)),#[.tmp 88,.tmp 92],#[27,27]⟩,none⟩,[]⟩,⟨⟨some 94,.move (.tmp 15),none⟩,[]⟩,⟨⟨some 95,.binOp .lss 3 (.tmp 93) (.tmp 94) 3,none⟩,[]⟩]) (.cond (.tmp 95) (.seq (.reg [⟨⟨some 2,.assign (.const (.bool false)),none⟩,[]⟩]) .ret) .skip)) (.seq (.reg [⟨⟨some 96,.move (.tmp 4),none⟩,[]⟩,⟨⟨some 97,.move (.tmp 13),none⟩,[]⟩,⟨⟨some 98,.move (.tmp 17),none⟩,[]⟩,⟨⟨some 99,.indexAddr 32 (.tmp 97) (.tmp 98),none⟩,[]⟩,⟨⟨some 100,.load 27 (.tmp 99),none⟩,[]⟩,⟨⟨some 101,.call ⟨(.value (.func 15)),#[.tmp 96,.tmp 100],#[27,27]⟩,none⟩,[]⟩,⟨⟨some 102,.move (.tmp 15),none⟩,[]⟩,
 ⟨⟨some 103,.binOp .eql 3 (.tmp 101) (.tmp 102) 3,none⟩,[]⟩]) (.cond (.tmp 103) (.reg [⟨⟨some 104,.move (.tmp 16),none⟩,[]⟩,⟨⟨some 105,.binOp .add 3 (.tmp 104) (.const (.int .i64 1)) 3,none⟩,[]⟩,⟨⟨some 16,.assign (.tmp 105),none⟩,[]⟩]) .skip)))) (.reg [⟨⟨some 86,.move (.tmp 17),none⟩,[]⟩,⟨⟨some 87,.binOp .add 3 (.tmp 86) (.const (.int .i64 1)) 3,none⟩,[]⟩,⟨⟨some 17,.assign (.tmp 87),none⟩,[]⟩])))))) (.seq (.seq (.reg [⟨⟨some 106,.move (.tmp 14),none⟩,[]⟩,⟨⟨some 107,.unOp .not 4 (.tmp 106),none⟩,[]⟩,⟨⟨some 108,.move (.tmp 107),none⟩,[]⟩,⟨⟨some 109,.move (.tmp 6),some (108,false)⟩,[]⟩,⟨⟨some 110,.unOp .not 4 (.tmp 109),some (108,false)⟩,[]⟩,⟨⟨some 111,.pick (.tmp 108) (.const (.bool true)) (.tmp 110),none⟩,[]⟩,⟨⟨some 112,.move (.tmp 111),none⟩,[]⟩,⟨⟨some 113,.move (.tmp 16),some (112,false)⟩,[]⟩,
 ⟨⟨some 114,.fieldAddr 34 (.tmp 9) 0,some (112,false)⟩,[]⟩,⟨⟨some 115,.load 32 (.tmp 114),some (112,false)⟩,[]⟩,⟨⟨some 116,.call ⟨(.builtin .len),#[.tmp 115],#[32]⟩,some (112,false)⟩,[]⟩,⟨⟨some 117,.binOp .neq 3 (.tmp 113) (.tmp 116) 3,some (112,false)⟩,[]⟩,⟨⟨some 118,.pick (.tmp 112) (.const (.bool true)) (.tmp 117),none⟩,[]⟩,⟨⟨some 119,.move (.tmp 118),none⟩,[]⟩,⟨⟨some 120,.fieldAddr 34 (.tmp 9) 0,some (119,false)⟩,[]⟩,⟨⟨some 121,.load 32 (.tmp 120),some (119,false)⟩,[]⟩,⟨⟨some 122,.indexAddr 32 (.tmp 121) (.const (.int .i64 0)),some (119,false)⟩,[]⟩,⟨⟨some 123,.load 27 (.tmp 122),some (119,false)⟩,[]⟩,⟨⟨some 124,.move (.tmp 5),some (119,false)⟩,[]⟩,⟨⟨some 125,.call ⟨(.value (.func 12)),#[.tmp 123,.tmp 124],#[27,27]⟩,some (119,false)⟩,[]⟩,
 ⟨⟨some 126,.unOp .not 4 (.tmp 125),some (119,false)⟩,[]⟩,⟨⟨some 127,.pick (.tmp 119) (.const (.bool true)) (.tmp 126),none⟩,[]⟩]) (.cond (.tmp 127) (.seq (.reg [⟨⟨some 2,.assign (.const (.bool false)),none⟩,[]⟩]) .ret) .skip)) (.seq (.reg [⟨⟨some 129,.load 34 (.tmp 9),none⟩,[]⟩,⟨⟨some 130,.call ⟨(.value (.func 16)),#[.tmp 129,(.const (.int .i64 0))],#[34,3]⟩,none⟩,[]⟩,⟨⟨some 128,.move (.tmp 130),none⟩,[]⟩,⟨⟨some 131,.extract (.tmp 128) 0,none⟩,[]⟩,⟨⟨some 132,.extract (.tmp 128) 1,none⟩,[]⟩,⟨⟨some 18,.assign (.tmp 131),none⟩,[]⟩,⟨⟨some 19,.assign (.tmp 132),none⟩,[]⟩]) (.seq (.seq (.reg [⟨⟨some 20,.assign (.const (.int .i64 0)),none⟩,[]⟩]) (.block 2 (.loop (.seq (.seq (.reg [⟨⟨some 133,.move (.tmp 19),none⟩,[]⟩,⟨⟨some 134,.move (.tmp 133),none⟩,[]⟩,⟨⟨some 135,.move (.tmp 20),some (134,true)⟩,[]⟩,⟨⟨some 136,.move (.tmp 18),some (134,true)⟩,[]⟩,⟨⟨some 137,.call ⟨(.builtin .len),#[.tmp 136],#[27]⟩,some (134,true)⟩,[]⟩,
 ⟨⟨some 138,.binOp .lss 3 (.tmp 135) (.tmp 137) 3,some (134,true)⟩,[]⟩,⟨⟨some 139,.pick (.tmp 134) (.tmp 138) (.const (.bool false)),none⟩,[]⟩]) (.cond (.tmp 139) .skip (.exit 2))) (.seq (.block 3 (.seq (.reg [⟨⟨some 142,.move (.tmp 18),none⟩,[]⟩,⟨⟨some 143,.move (.tmp 20),none⟩,[]⟩,⟨⟨some 144,.indexAddr 27 (.tmp 142) (.tmp 143),none⟩,[]⟩,⟨⟨some 145,.load 3 (.tmp 144),none⟩,[]⟩,⟨⟨some 146,.move (.tmp 5),none⟩,[]⟩,⟨⟨some 147,.fieldAddr 34 (.tmp 9) 0,none⟩,[]⟩,⟨⟨some 148,.load 32 (.tmp 147),none⟩,[]⟩,⟨⟨some 149,.move (.tmp 20),none⟩,[]⟩,⟨⟨some 150,.indexAddr 32 (.tmp 148) (.tmp 149),none⟩,[]⟩,⟨⟨some 151,.load 27 (.tmp 150),none⟩,[]⟩,⟨⟨some 152,.call ⟨(.value (.func 17)),#[.tmp 146,.tmp 151],#[27,27]⟩,none⟩,[⟨some 145,.load 3 (.tmp 144),none⟩]⟩,
 ⟨⟨some 153,.call ⟨(.builtin .len),#[.tmp 152],#[27]⟩,none⟩,[]⟩,
  ⟨⟨some 154,.binOp .neq 3 (.tmp 145) (.tmp 153) 3,none⟩,[]⟩]) (.cond (.tmp 154) (.seq (.reg [⟨⟨some 2,.assign (.const (.bool false)),none⟩,[]⟩]) .ret) .skip))) (.reg [⟨⟨some 140,.move (.tmp 20),none⟩,[]⟩,
  ⟨⟨some 141,.binOp .add 3 (.tmp 140) (.const (.int .i64 1)) 3,none⟩,[]⟩,
  ⟨⟨some 20,.assign (.tmp 141),none⟩,[]⟩])))))) (.seq (.reg [⟨⟨some 155,.move (.tmp 19),none⟩,[]⟩,
  ⟨⟨some 2,.assign (.tmp 155),none⟩,[]⟩]) .ret)))))))))))))))))
theorem in3:InT Tryz.prog 3 1 [.tmp 2] cd3:=InT.mk (by kernel_rfl) [(28,[(0,false),(1,false),(2,false),(3,false),(4,false),(5,false),(6,false),(7,false),(8,false),(9,false),(10,true),(11,false),(12,false)])] Tryz.func3 rfl (by kernel_rfl) (by kernel_rfl) (of_decide_eq_true (by kernel_rfl)) (by kernel_rfl)
end Go.Proofs.YtlcipphiflcaiaaGreat.Ai
namespace Go.Proofs.YtlcipphiflcaiaaGreat.Ai
open Go Go.RowKit
theorem vHas3_c (v:Value)(xs:List Int)(x:Int)(H:AH)(hr:Row 3 H v xs)(hlen:xs.length<=1099511627776):ACalls Tryz.prog 45 [v,.int .i64 x] H fun r H'=>r=.bool (decide (x ∈ xs))/\H=H':=by
 refine in45 rfl ?_
 intro Q hQ
 simp (disch:=omega) only [cd45,SS,eq_self,reduceIte,reduceCtorEq,Nat.reduceEqDiff,Nat.reduceAdd]
 refine LoopH.by (fun m s H'=>∃ i,m+i=xs.length/\s 0=v/\s 1=.int .i64 x/\s 5=.int .i64 ((i:Nat):Int)/\H=H'/\x ∉ xs.take i) xs.length ?_ ?_
 ·exact ⟨0,by simp,rfl,rfl,rfl,rfl,by simp⟩
 ·rintro m s H' ⟨i,hm,h0,h1,h5,rfl,hn⟩
  simp (disch:=omega) only [h0,h1,h5,hr.len Tryz.underlying27,SS,eq_self,reduceIte,reduceCtorEq,Nat.reduceEqDiff,Nat.reduceAdd]
  refine brD.intro (fun g=>?_) (fun g=>?_)
  ·have hi:i<xs.length:=by omega
   have htk:xs.take (i+1)=xs.take i ++ [xs.getD i 0]:=by rw [List.take_succ_eq_append_getElem hi];simp [hi]
   have hm1:xs.getD i 0 ∈ xs:=by simp [hi]
   simp (disch:=omega) only [h0,h1,h5,hr.ix Tryz.underlying27 cs3,hr.cell,Int.toNat_natCast,SS,eq_self,reduceIte,reduceCtorEq,Nat.reduceEqDiff,Nat.reduceAdd]
   refine brD.intro (fun e=>?_) (fun e=>?_)
   ·simp (disch:=omega) only [SS,eq_self,reduceIte,reduceCtorEq,Nat.reduceEqDiff,Nat.reduceAdd]
    refine hQ _ _ _ ?_
    simp (disch:=omega) only [SS,eq_self,reduceIte,reduceCtorEq,Nat.reduceEqDiff,Nat.reduceAdd]
    rw [decide_eq_true (by rw [<- e];exact hm1)]
   ·have f1:x ∉ xs.take (i+1):=by
     rw [htk,List.mem_append,List.mem_singleton]
     rintro (q | q)
     ·exact hn q
     ·exact e q.symm
    simp (disch:=omega) only [h0,h1,h5,wrap64,SS,eq_self,reduceIte,reduceCtorEq,Nat.reduceEqDiff,Nat.reduceAdd]
    refine ⟨m - 1,by omega,i+1,?_⟩
    (repeat' apply And.intro) <;> first | exact f1 | (simp only [Value.int.injEq,true_and];omega) | omega | rfl | assumption | (simp;done) | (simp;omega)
  ·have:i=xs.length:=by omega
   subst this
   rw [List.take_length] at hn
   simp (disch:=omega) only [SS,eq_self,reduceIte,reduceCtorEq,Nat.reduceEqDiff,Nat.reduceAdd]
   refine hQ _ _ _ ?_
   simp (disch:=omega) only [SS,eq_self,reduceIte,reduceCtorEq,Nat.reduceEqDiff,Nat.reduceAdd]
   rw [decide_eq_false hn]
theorem vOnly_c (v w:Value)(xs ys:List Int)(H:AH)(hr:Row 3 H v xs)(hlen:xs.length<=1000000)(hs:Row 3 H w ys)(hlen2:ys.length<=1000000) :
  ACalls Tryz.prog 17 [v,w] H fun r H'=>Own 3 H H' r (without xs ys)/\H<+:H':=by
 refine in17 rfl ?_
 intro Q hQ
 simp (disch:=omega) only [cd17,SS,eq_self,reduceIte,reduceCtorEq,Nat.reduceEqDiff,Nat.reduceAdd]
 generalize hA:H ++ [AObj.cells [] 3 false]=A
 have pA:H<+:A:=by rw [<- hA];exact List.prefix_append _ _
 have own0:Own 3 H A (.slice (some ⟨H.length,0,none⟩) 0 0) (without (xs.take 0) ys):=.inr ⟨H.length,rfl,Nat.le_refl _,by rw [<- hA];exact at_new ..⟩
 refine LoopH.by (fun m s H'=>∃ i,m+i=xs.length/\s 0=v/\s 1=w/\s 6=.int .i64 ((i:Nat):Int)/\Own 3 H H' (s 5) (without (xs.take i) ys)/\H<+:H') xs.length ?_ ?_
 ·refine ⟨0,by omega,?_⟩
  simp (disch:=omega) only [SS,eq_self,reduceIte,reduceCtorEq,Nat.reduceEqDiff,Nat.reduceAdd]
  (repeat' first | exact own0 | exact pA | apply And.intro) <;> first | (simp only [Value.int.injEq,true_and];omega) | omega | rfl | assumption | (simp;done) | (simp;omega)
 rintro m s H' ⟨i,hm,s0,s1,s6,hO,hp⟩
 have rH:=hr.pre hp
 have tH:=hs.pre hp
 simp (disch:=omega) only [s0,s1,s6,rH.len Tryz.underlying27,SS,eq_self,reduceIte,reduceCtorEq,Nat.reduceEqDiff,Nat.reduceAdd]
 refine brD.intro (fun g=>?_) (fun g=>?_)
 ·have hi:i<xs.length:=by omega
  have hc:=rH.cell hi
  have hst:=without_step xs ys i hi
  have hol:=without_len (xs.take i) ys
  rw [List.length_take] at hol
  simp (disch:=omega) only [s0,s1,s6,rH.ix Tryz.underlying27 cs3,Int.toNat_natCast,hc,SS,eq_self,reduceIte,reduceCtorEq,Nat.reduceEqDiff,Nat.reduceAdd]
  refine CallH.by (vHas3_c w ys (xs.getD i 0) H' tH (by omega)) ?_
  rintro _ _ ⟨rfl,rfl⟩
  by_cases e:xs.getD i 0 ∈ ys
  ·rw [if_pos e,List.append_nil] at hst
   rw [<- hst] at hO
   simp (disch:=omega) only [decide_eq_true e,s0,s1,s6,wrap64,SS,eq_self,reduceIte,reduceCtorEq,Nat.reduceEqDiff,Nat.reduceAdd]
   refine ⟨m - 1,by omega,i+1,?_⟩
   (repeat' first | exact hO | exact hp | apply And.intro) <;> first | (simp only [Value.int.injEq,true_and];omega) | omega | rfl | assumption | (simp;done) | (simp;omega)
  ·rw [if_neg e] at hst
   obtain ⟨c2,F,a1,a2,a3,a4,a5,a6⟩:=own1_27 hO hp (by omega) (xs.getD i 0)
   rw [<- hst] at a2
   simp (disch:=omega) only [decide_eq_false e,s0,s1,s6,rH.ix Tryz.underlying27 cs3,Int.toNat_natCast,hc,a1,wrap64,SS,eq_self,reduceIte,reduceCtorEq,Nat.reduceEqDiff,Nat.reduceAdd]
   refine ⟨m - 1,by omega,i+1,?_⟩
   (repeat' first | exact a2 | exact a3 | apply And.intro) <;> first | (simp only [Value.int.injEq,true_and];omega) | omega | rfl | assumption | (simp;done) | (simp;omega)
 ·have hi:i=xs.length:=by omega
  subst hi
  rw [List.take_length] at hO
  simp (disch:=omega) only [hO.row.tup,SS,eq_self,reduceIte,reduceCtorEq,Nat.reduceEqDiff,Nat.reduceAdd]
  refine hQ _ _ _ ?_
  simp (disch:=omega) only [hO.row.tup,SS,eq_self,reduceIte,reduceCtorEq,Nat.reduceEqDiff,Nat.reduceAdd]
  exact ⟨hO,hp⟩
theorem vHeavy_c (v w:Value)(ws T:List Int)(H:AH)(hv:Row 3 H v ws)(hw:Row 3 H w T)(h0:∀ x ∈ ws,0<=x/\x<=99)(hT:∀ e ∈ T,0<=e/\e<ws.length)(hl:T.length<=1000)(hl2:ws.length<=1000) :
  ACalls Tryz.prog 15 [v,w] H fun r H'=>r=.int .i64 (swL ws T)/\H=H':=by
 refine in15 rfl ?_
 intro Q hQ
 simp (disch:=omega) only [cd15,SS,eq_self,reduceIte,reduceCtorEq,Nat.reduceEqDiff,Nat.reduceAdd]
 refine LoopH.by (fun m s H'=>∃ i,m+i=T.length/\s 0=v/\s 1=w/\s 5=.int .i64 (swL ws (T.take i))/\s 6=.int .i64 ((i:Nat):Int)/\H=H') T.length ?_ ?_
 ·exact ⟨0,by simp,rfl,rfl,rfl,rfl,rfl⟩
 rintro m s H' ⟨i,hm,s0,s1,s5,s6,rfl⟩
 simp (disch:=omega) only [s0,s1,s5,s6,hw.len Tryz.underlying27,SS,eq_self,reduceIte,reduceCtorEq,Nat.reduceEqDiff,Nat.reduceAdd]
 refine brD.intro (fun g=>?_) (fun g=>?_)
 ·have hi:i<T.length:=by omega
  have hme:T.getD i 0 ∈ T:=by simp [hi]
  have hr:=hT _ hme
  have hc:=hw.cell hi
  obtain ⟨x,hx⟩:∃ x:Nat,T.getD i 0=x:=⟨(T.getD i 0).toNat,by omega⟩
  have ht:=swL_take (ws:=ws) hi
  rw [hx] at hr hc ht
  rw [Int.toNat_natCast] at ht
  have hcw:=hv.cell (show x<ws.length by omega)
  have h3:=swL_rng h0 (T.take i)
  have h4:=swL_rng h0 (T.take (i+1))
  have h5:(T.take i).length<=1000:=by rw [List.length_take];omega
  have h6:(T.take (i+1)).length<=1000:=by rw [List.length_take];omega
  have hwr:IntKind.i64.wrap (swL ws (T.take i)+ws.getD x 0)=swL ws (T.take (i+1)):=by rw [<- ht];exact wrap64 (by omega) (by omega)
  simp (disch:=omega) only [s0,s1,s5,s6,hw.ix Tryz.underlying27 cs3,hv.ix Tryz.underlying27 cs3,Int.toNat_natCast,hc,hcw,hwr,wrap64,SS,eq_self,reduceIte,reduceCtorEq,Nat.reduceEqDiff,Nat.reduceAdd]
  refine ⟨m - 1,by omega,i+1,?_⟩
  (repeat' apply And.intro) <;> first | exact h6 | (simp only [Value.int.injEq,true_and];omega) | omega | rfl | assumption | (simp;done) | (simp;omega)
 ·have hi:i=T.length:=by omega
  subst hi
  simp (disch:=omega) only [s5,SS,eq_self,reduceIte,reduceCtorEq,Nat.reduceEqDiff,Nat.reduceAdd]
  refine hQ _ _ _ ?_
  simp (disch:=omega) only [SS,eq_self,reduceIte,reduceCtorEq,Nat.reduceEqDiff,Nat.reduceAdd]
  rw [List.take_length]
theorem SpRow.sts4 {G:AH}{a b:Value}{ls:List (List Int)}{ps:List (Int × Int)}(h:SpRow G a b ls ps)(hs:SrtL ls)(hb:ls.length<=60000)(hm:∀ l ∈ ls,l.length<=1099511627776):∃ us,Sts G a us ls:=by
 obtain ⟨⟨bd,us,r1,_,r2,r3⟩,_⟩:=h
 exact ⟨us,r1,r2,fun i hi=>(r3 i hi).1,fun i hi=>hm _ (by simp [hi]),hb,hs⟩
theorem stp_pru4 {n:Nat}{ps:List (Int × Int)}(h:StpOk n ps):PrU (n:Int) ps ps.length:=by
 intro i hi
 have e:ps.getD i (0,0)=ps[i]:=by simp [hi]
 have r:=h.rng ps[i] (List.getElem_mem hi)
 refine ⟨by rw [e];exact r.1,by rw [e];exact r.2.1,by rw [e];exact r.2.2,fun h0=>?_⟩
 have e2:ps.getD (i - 1) (0,0)=ps[i - 1]:=by simp [show i - 1<ps.length by omega]
 rw [e,e2]
 exact List.pairwise_iff_getElem.1 h.srt (i - 1) i (by omega) hi (by omega)
theorem len1_of {n:Nat}{es:List (Int × Int)}{T:List Int}(h:TreL n es T):T.length<=n:=by have:=h.1;omega
theorem ltlLaw_c (va:Value)(us:List Value)(H:AH)(hr:RowV 5 H va us)(hb:∀ i,i<us.length->∃ b:Nat,us.getD i undef=.int .u8 (b:Int)/\b<256)(hl:(us.length:Int)<=9223372036854775807) :
  ACalls Tryz.prog 3 [va] H fun r H'=>r=.bool true:=by
 refine in3 rfl ?_
 intro Q hQ
 rw [cd3]
 have f1:∀ b:Bool,decide (¬ b=b)=false:=by simp
 have f2:∀ b:Bool,(b != b)=false:=by simp
 have f3:∀ b:Bool,(!decide (b=b))=false:=by simp
 have f4:∀ x:Int,decide (¬ x=x)=false:=by simp
 have f5:∀ x:Int,(!decide (x=x))=false:=by simp
 refine cutC (fun s H'=>s 0=va/\H'=H) (fun c hc=>?_) ?_
 ·simp (disch:=omega) only [SS,eq_self,reduceIte,reduceCtorEq,Nat.reduceEqDiff,Nat.reduceAdd]
  exact hc _ _ ⟨rfl,rfl⟩
 rintro s _ ⟨h0,rfl⟩
 refine cutC (fun s H'=>s 0=va/\Byt H' va us) (fun c hc=>?_) ?_
 ·simp (disch:=omega) only [h0,SS,eq_self,reduceIte,reduceCtorEq,Nat.reduceEqDiff,Nat.reduceAdd]
  refine CallH.by (vBig_c hr hl) ?_
  rintro _ _ ⟨rfl,rfl⟩
  simp (disch:=omega) only [SS,eq_self,reduceIte,reduceCtorEq,Nat.reduceEqDiff,Nat.reduceAdd]
  refine brD.intro (fun g=>?_) (fun g=>?_)
  ·simp (disch:=omega) only [SS,eq_self,reduceIte,reduceCtorEq,Nat.reduceEqDiff,Nat.reduceAdd]
   refine hQ _ _ _ ?_
   simp (disch:=omega) only [SS,eq_self,reduceIte,reduceCtorEq,Nat.reduceEqDiff,Nat.reduceAdd]
  ·simp (disch:=omega) only [SS,eq_self,reduceIte,reduceCtorEq,Nat.reduceEqDiff,Nat.reduceAdd]
   exact hc _ _ ⟨h0,hr,hb,by omega⟩
 clear h0 hr hb hl s
 rintro s H ⟨h0,hby⟩
 refine cutC (fun s H'=>∃ (gp:Nat) (n:Int) (w u:Value) (es:List (Int × Int)) (ws:List Int),s 3=.pointer (some ⟨gp,0,none⟩)/\s 4=u/\H'[gp]?=some (.cells [.int .i64 n,w] 26 false)/\RowP 115 H' w es/\Row 3 H' u ws/\es.length<=200/\I64 n/\Sml es/\ws.length<=30/\(∀ y ∈ ws,-1<=y/\y<=100)) (fun c hc=>?_) ?_
 ·simp (disch:=omega) only [h0,SS,eq_self,reduceIte,reduceCtorEq,Nat.reduceEqDiff,Nat.reduceAdd]
  refine CallH.by (DrawLight_c hby) ?_
  rintro _ K ⟨n,w,u,es,ws,rfl,hw,hel,hn,hs,hu,hwl,hwr,pK⟩
  have st:=st_G hw (at_new K (.cells [.int .i64 0,.slice none 0 0] 26 false)) rfl n
  rw [set_new] at st
  have p2:K<+:K ++ [AObj.cells [.int .i64 n,w] 26 false]:=List.prefix_append _ _
  simp (disch:=omega) only [alloc_G,st,SS,eq_self,reduceIte,reduceCtorEq,Nat.reduceEqDiff,Nat.reduceAdd]
  exact hc _ _ ⟨K.length,n,w,u,es,ws,rfl,rfl,at_new ..,hw.pre p2,hu.pre p2,hel,hn,hs,hwl,hwr⟩
 clear h0 hby s H
 rintro s H ⟨gp,n,w,u,es,ws,h3,h4,cg,hw,hu,hel,hn,hs,hwl,hwr⟩
 have hes:∀ y ∈ es,I64 y.1/\I64 y.2:=fun y hy=>by have:=hs y hy;exact ⟨⟨by omega,by omega⟩,by omega,by omega⟩
 have hwi:∀ y ∈ ws,I64 y:=fun y hy=>by have:=hwr y hy;exact ⟨by omega,by omega⟩
 refine cutC (fun s H'=>∃ lv:Value,s 3=.pointer (some ⟨gp,0,none⟩)/\s 4=u/\H'[gp]?=some (.cells [.int .i64 n,w] 26 false)/\RowP 115 H' w es/\Row 3 H' u ws/\s 5=lv/\s 6=.bool (ltF n es ws)/\Row 3 H' lv (ltL n es ws)) (fun c hc=>?_) ?_
 ·simp (disch:=omega) only [h3,h4,ld_agg ag26 cs26 cg,SS,eq_self,reduceIte,reduceCtorEq,Nat.reduceEqDiff,Nat.reduceAdd]
  refine CallH.by (LtI_c n w u es ws H hw (by omega) hu (by omega)) ?_
  rintro _ H1 ⟨g,rfl,hg,p1⟩
  simp (disch:=omega) only [SS,eq_self,reduceIte,reduceCtorEq,Nat.reduceEqDiff,Nat.reduceAdd]
  exact hc _ _ ⟨g,h3,h4,pre_at p1 cg,hw.pre p1,hu.pre p1,rfl,rfl,hg.row⟩
 clear h3 h4 cg hw hu s H
 rintro s H ⟨lv,h3,h4,cg,hw,hu,h5,h6,hg⟩
 refine cutC (fun s H'=>∃ lv2:Value,s 3=.pointer (some ⟨gp,0,none⟩)/\s 4=u/\H'[gp]?=some (.cells [.int .i64 n,w] 26 false)/\RowP 115 H' w es/\Row 3 H' u ws/\s 5=lv/\s 6=.bool (ltF n es ws)/\Row 3 H' lv (ltL n es ws)/\s 7=lv2/\s 8=.bool (ltF n es ws)/\Row 3 H' lv2 (ltL n es ws)) (fun c hc=>?_) ?_
 ·simp (disch:=omega) only [h3,h4,ld_agg ag26 cs26 cg,SS,eq_self,reduceIte,reduceCtorEq,Nat.reduceEqDiff,Nat.reduceAdd]
  refine CallH.by (LtS_c n w u es ws H hw (by omega) hu (by omega)) ?_
  rintro _ H1 ⟨g2,rfl,hg2,p1⟩
  simp (disch:=omega) only [SS,eq_self,reduceIte,reduceCtorEq,Nat.reduceEqDiff,Nat.reduceAdd]
  exact hc _ _ ⟨g2,h3,h4,pre_at p1 cg,hw.pre p1,hu.pre p1,h5,h6,hg.pre p1,rfl,rfl,hg2.row⟩
 clear h3 h4 cg hw hu h5 h6 hg s H
 rintro s H ⟨lv2,h3,h4,cg,hw,hu,h5,h6,hg,h7,h8,hg2⟩
 refine cutC (fun s H'=>∃ (o:Nat) (a b:Value),s 3=.pointer (some ⟨gp,0,none⟩)/\s 4=u/\H'[gp]?=some (.cells [.int .i64 n,w] 26 false)/\RowP 115 H' w es/\Row 3 H' u ws/\s 5=lv/\s 6=.bool (ltF n es ws)/\Row 3 H' lv (ltL n es ws)/\s 7=lv2/\s 8=.bool (ltF n es ws)/\Row 3 H' lv2 (ltL n es ws)/\s 9=.pointer (some ⟨o,0,none⟩)/\s 10=.bool (lgB n es ws)/\H'[o]?=some (.cells [a,b] 34 false)/\SpRow H' a b (lgL n es ws) (lgS n es ws)) (fun c hc=>?_) ?_
 ·simp (disch:=omega) only [h3,h4,ld_agg ag26 cs26 cg,SS,eq_self,reduceIte,reduceCtorEq,Nat.reduceEqDiff,Nat.reduceAdd]
  refine CallH.by (LigI_c n w u es ws H hw (by omega) hes hu (by omega) hwi hn) ?_
  rintro _ H1 ⟨a,b,rfl,Z,p1⟩
  have Z:=Z.row
  have st:=Z.store (at_new H1 (.cells [.slice none 0 0,.slice none 0 0] 34 false)) rfl
  simp (disch:=omega) only [alloc_sp,st,set_new,SS,eq_self,reduceIte,reduceCtorEq,Nat.reduceEqDiff,Nat.reduceAdd]
  have p2:H1<+:H1 ++ [AObj.cells [a,b] 34 false]:=List.prefix_append _ _
  exact hc _ _ ⟨_,a,b,h3,h4,pre_at (p1.trans p2) cg,hw.pre (p1.trans p2),hu.pre (p1.trans p2),h5,h6,hg.pre (p1.trans p2),h7,h8,hg2.pre (p1.trans p2),rfl,rfl,at_new ..,Z.pre p2⟩
 clear h3 h4 cg hw hu h5 h6 hg h7 h8 hg2 s H
 rintro s H ⟨o,a,b,h3,h4,cg,hw,hu,h5,h6,hg,h7,h8,hg2,h9,h10,co,X⟩
 refine cutC (fun s H'=>∃ (o2:Nat) (a2 b2:Value),s 3=.pointer (some ⟨gp,0,none⟩)/\s 4=u/\H'[gp]?=some (.cells [.int .i64 n,w] 26 false)/\RowP 115 H' w es/\Row 3 H' u ws/\s 5=lv/\s 6=.bool (ltF n es ws)/\Row 3 H' lv (ltL n es ws)/\s 7=lv2/\s 8=.bool (ltF n es ws)/\Row 3 H' lv2 (ltL n es ws)/\s 9=.pointer (some ⟨o,0,none⟩)/\s 10=.bool (lgB n es ws)/\H'[o]?=some (.cells [a,b] 34 false)/\SpRow H' a b (lgL n es ws) (lgS n es ws)/\s 11=.pointer (some ⟨o2,0,none⟩)/\s 12=.bool (lgB n es ws)/\H'[o2]?=some (.cells [a2,b2] 34 false)/\SpRow H' a2 b2 (lgL n es ws) (lgS n es ws)) (fun c hc=>?_) ?_
 ·simp (disch:=omega) only [h3,h4,ld_agg ag26 cs26 cg,SS,eq_self,reduceIte,reduceCtorEq,Nat.reduceEqDiff,Nat.reduceAdd]
  refine CallH.by (LigS_c n w u es ws H hw (by omega) hes hu (by omega) hwi hn) ?_
  rintro _ H1 ⟨a2,b2,rfl,Z,p1⟩
  have Z:=Z.row
  have st:=Z.store (at_new H1 (.cells [.slice none 0 0,.slice none 0 0] 34 false)) rfl
  simp (disch:=omega) only [alloc_sp,st,set_new,SS,eq_self,reduceIte,reduceCtorEq,Nat.reduceEqDiff,Nat.reduceAdd]
  have p2:H1<+:H1 ++ [AObj.cells [a2,b2] 34 false]:=List.prefix_append _ _
  exact hc _ _ ⟨_,a2,b2,h3,h4,pre_at (p1.trans p2) cg,hw.pre (p1.trans p2),hu.pre (p1.trans p2),h5,h6,hg.pre (p1.trans p2),h7,h8,hg2.pre (p1.trans p2),h9,h10,pre_at (p1.trans p2) co,X.pre (p1.trans p2),rfl,rfl,at_new ..,Z.pre p2⟩
 clear h3 h4 cg hw hu h5 h6 hg h7 h8 hg2 h9 h10 co X s H
 rintro s H ⟨o2,a2,b2,h3,h4,cg,hw,hu,h5,h6,hg,h7,h8,hg2,h9,h10,co,X,h11,h12,co2,Y⟩
 refine cutC (fun s H'=>s 3=.pointer (some ⟨gp,0,none⟩)/\s 4=u/\H'[gp]?=some (.cells [.int .i64 n,w] 26 false)/\RowP 115 H' w es/\Row 3 H' u ws/\s 5=lv/\s 6=.bool (ltF n es ws)/\Row 3 H' lv (ltL n es ws)/\s 9=.pointer (some ⟨o,0,none⟩)/\s 10=.bool (lgB n es ws)/\H'[o]?=some (.cells [a,b] 34 false)/\SpRow H' a b (lgL n es ws) (lgS n es ws)) (fun c hc=>?_) ?_
 ·have hll:(ltL n es ws).length<=1000000:=ltL_le n es ws
  have l3:=lgL_len n es ws
  have l6:=lgS_len n es ws
  simp (disch:=omega) only [h5,h6,h7,h8,h9,h10,h11,h12,f1,f2,f3,f4,f5,SS,eq_self,reduceIte,reduceCtorEq,Nat.reduceEqDiff,Nat.reduceAdd]
  refine CallH.by (vInts_c lv lv2 _ H hg hg2 hll) ?_
  rintro _ _ ⟨rfl,rfl⟩
  simp (disch:=omega) only [h9,h10,h11,h12,f1,f2,f3,f4,f5,ld_agg ag34 cs34 co,ld_agg ag34 cs34 co2,SS,eq_self,reduceIte,reduceCtorEq,Nat.reduceEqDiff,Nat.reduceAdd]
  refine CallH.by (vSpace_c X Y (by omega) (fun l hl=>by have:=(tsL_in l (lgL_sub l hl)).1;omega) (by omega)) ?_
  rintro _ H1 ⟨rfl,p1⟩
  simp (disch:=omega) only [SS,eq_self,reduceIte,reduceCtorEq,Nat.reduceEqDiff,Nat.reduceAdd]
  exact hc _ _ ⟨h3,h4,pre_at p1 cg,hw.pre p1,hu.pre p1,h5,h6,hg.pre p1,h9,h10,pre_at p1 co,X.pre p1⟩
 clear h3 h4 cg hw hu h5 h6 hg h7 h8 hg2 h9 h10 co X h11 h12 co2 Y s H
 rintro s H ⟨h3,h4,cg,hw,hu,h5,h6,hg,h9,h10,co,X⟩
 refine cutC (fun s H'=>s 3=.pointer (some ⟨gp,0,none⟩)/\s 4=u/\H'[gp]?=some (.cells [.int .i64 n,w] 26 false)/\RowP 115 H' w es/\Row 3 H' u ws/\s 5=lv/\s 6=.bool (ltF n es ws)/\Row 3 H' lv (ltL n es ws)/\s 9=.pointer (some ⟨o,0,none⟩)/\H'[o]?=some (.cells [a,b] 34 false)/\SpRow H' a b (lgL n es ws) (lgS n es ws)/\lgB n es ws=true) (fun c hc=>?_) ?_
 ·simp (disch:=omega) only [h10,SS,eq_self,reduceIte,reduceCtorEq,Nat.reduceEqDiff,Nat.reduceAdd]
  cases hB:lgB n es ws with
  | false =>
   simp (disch:=omega) only [SS,eq_self,reduceIte,reduceCtorEq,Nat.reduceEqDiff,Nat.reduceAdd]
   refine hQ _ _ _ ?_
   simp (disch:=omega) only [SS,eq_self,reduceIte,reduceCtorEq,Nat.reduceEqDiff,Nat.reduceAdd]
  | true =>
  simp (disch:=omega) only [hB,SS,eq_self,reduceIte,reduceCtorEq,Nat.reduceEqDiff,Nat.reduceAdd]
  exact hc _ _ ⟨h3,h4,cg,hw,hu,h5,h6,hg,h9,co,X,hB⟩
 clear h3 h4 cg hw hu h5 h6 hg h9 h10 co X s H
 rintro s H ⟨h3,h4,cg,hw,hu,h5,h6,hg,h9,co,X,hB⟩
 have hB2:=hB
 unfold lgB at hB2
 rw [Bool.and_eq_true,decide_eq_true_eq,decide_eq_true_eq] at hB2
 obtain ⟨hWt,hTs⟩:=hB2
 have hgr:=hWt.2.1.1
 have hw99:=hWt.1
 have hwlen:=hWt.2.2
 obtain ⟨N,rfl⟩:∃ N:Nat,n=N:=⟨n.toNat,by have:=hWt.2.1.2;omega⟩
 have hN:1<=N:=by have:=hWt.2.1.2;omega
 have LT:=lt_says hN hB
 have h28:=grd_len hgr
 have hF:ltF (N:Int) es ws=true:=by unfold ltF;rw [Int.toNat_natCast,decide_eq_true LT.len,decide_eq_true hWt];rfl
 have hLL:ltL (N:Int) es ws=puts (krW N es ws 100):=by unfold ltL;rw [hF,if_pos rfl,Int.toNat_natCast]
 rw [hF] at h6
 rw [hLL] at hg
 have htre:∀ U ∈ tsL (N:Int) es,TreL N es U:=fun U hU=>by
  unfold tsL at hU
  rw [if_pos hTs,Int.toNat_natCast] at hU
  exact (treA_iff hN hgr U).1 hU
 have hN8:N<=8:=by have:=hgr.1;omega
 have hTK:TreL N es (puts (krW N es ws 100)):=(kr_kf hgr ws 100).tree hgr LT.len
 refine cutC (fun s H'=>∃ (tv:Value) (us:List Value),s 4=u/\Row 3 H' u ws/\s 5=lv/\s 6=.bool true/\Row 3 H' lv (puts (krW N es ws 100))/\s 9=.pointer (some ⟨o,0,none⟩)/\H'[o]?=some (.cells [a,b] 34 false)/\SpRow H' a b (lgL (N:Int) es ws) (lgS (N:Int) es ws)/\s 13=tv/\s 14=.bool true/\Sts H' tv us (tsL (N:Int) es)) (fun c hc=>?_) ?_
 ·simp (disch:=omega) only [h3,ld_agg ag26 cs26 cg,SS,eq_self,reduceIte,reduceCtorEq,Nat.reduceEqDiff,Nat.reduceAdd]
  refine CallH.by (SpanI_c (N:Int) w es H hw (by omega) hn) ?_
  rintro _ H1 ⟨tv,rfl,hin,p1⟩
  rw [decide_eq_true hTs]
  obtain ⟨us,r1,r2,r3⟩:=hin.parts
  have l3:=tsL_len (N:Int) es
  have hst:Sts H1 tv us (tsL (N:Int) es):=⟨r1,r2,fun i hi=>(r3 i hi).row.1,fun i hi=>by have:=(tsL_in _ (show (tsL (N:Int) es).getD i [] ∈ tsL (N:Int) es by simp [hi])).1;omega,by omega,tsL_srt _ _⟩
  simp (disch:=omega) only [SS,eq_self,reduceIte,reduceCtorEq,Nat.reduceEqDiff,Nat.reduceAdd]
  exact hc _ _ ⟨tv,us,h4,hu.pre p1,h5,h6,hg.pre p1,h9,pre_at p1 co,X.pre p1,rfl,rfl,hst⟩
 clear h3 h4 cg hw hu h5 h6 hg h9 co X s H
 rintro s H ⟨tv,us,h4,hu,h5,h6,hg,h9,co,X,h13,h14,hT⟩
 refine cutC (fun s H'=>s 4=u/\Row 3 H' u ws/\s 5=lv/\s 6=.bool true/\Row 3 H' lv (puts (krW N es ws 100))/\s 9=.pointer (some ⟨o,0,none⟩)/\H'[o]?=some (.cells [a,b] 34 false)/\SpRow H' a b (lgL (N:Int) es ws) (lgS (N:Int) es ws)/\s 13=tv/\s 14=.bool true/\Sts H' tv us (tsL (N:Int) es)/\s 15=.int .i64 (swL ws (puts (krW N es ws 100)))) (fun c hc=>?_) ?_
 ·simp (disch:=omega) only [h4,h5,SS,eq_self,reduceIte,reduceCtorEq,Nat.reduceEqDiff,Nat.reduceAdd]
  refine CallH.by (vHeavy_c u lv ws _ H hu hg hw99 (fun e he=>by have:=hTK.2.2.1 e he;omega) (by have:=hTK.1;omega) (by omega)) ?_
  rintro _ _ ⟨rfl,rfl⟩
  simp (disch:=omega) only [SS,eq_self,reduceIte,reduceCtorEq,Nat.reduceEqDiff,Nat.reduceAdd]
  exact hc _ _ ⟨h4,hu,h5,h6,hg,h9,co,X,h13,h14,hT,rfl⟩
 clear h4 hu h5 h6 hg h9 co X h13 h14 hT s H
 rintro s H ⟨h4,hu,h5,h6,hg,h9,co,X,h13,h14,hT,h15⟩
 refine cutC (fun s H'=>s 4=u/\Row 3 H' u ws/\s 5=lv/\s 6=.bool true/\Row 3 H' lv (puts (krW N es ws 100))/\s 9=.pointer (some ⟨o,0,none⟩)/\H'[o]?=some (.cells [a,b] 34 false)/\SpRow H' a b (lgL (N:Int) es ws) (lgS (N:Int) es ws)/\s 13=tv/\s 14=.bool true/\Sts H' tv us (tsL (N:Int) es)/\s 15=.int .i64 (swL ws (puts (krW N es ws 100)))/\s 16=.int .i64 0) (fun c hc=>?_) ?_
 ·simp (disch:=omega) only [SS,eq_self,reduceIte,reduceCtorEq,Nat.reduceEqDiff,Nat.reduceAdd]
  exact hc _ _ ⟨h4,hu,h5,h6,hg,h9,co,X,h13,h14,hT,h15,rfl⟩
 clear h4 hu h5 h6 hg h9 co X h13 h14 hT h15 s H
 rintro s H ⟨h4,hu,h5,h6,hg,h9,co,X,h13,h14,hT,h15,h16⟩
 refine cutC (fun s H'=>s 4=u/\Row 3 H' u ws/\s 5=lv/\s 6=.bool true/\Row 3 H' lv (puts (krW N es ws 100))/\s 9=.pointer (some ⟨o,0,none⟩)/\H'[o]?=some (.cells [a,b] 34 false)/\SpRow H' a b (lgL (N:Int) es ws) (lgS (N:Int) es ws)/\s 13=tv/\s 14=.bool true/\Sts H' tv us (tsL (N:Int) es)/\s 15=.int .i64 (swL ws (puts (krW N es ws 100)))/\s 16=.int .i64 ((lgL (N:Int) es ws).length:Int)) (fun c hc=>?_) ?_
 ·simp (disch:=omega) only [h4,h5,h6,h9,h13,h14,h15,h16,SS,eq_self,reduceIte,reduceCtorEq,Nat.reduceEqDiff,Nat.reduceAdd]
  refine LoopH.by (fun m s K=>∃ i:Nat,m+i=(tsL (N:Int) es).length/\s 4=u/\s 5=lv/\s 6=.bool true/\s 9=.pointer (some ⟨o,0,none⟩)/\s 13=tv/\s 14=.bool true/\s 15=.int .i64 (swL ws (puts (krW N es ws 100)))/\s 16=.int .i64 ((((tsL (N:Int) es).take i).filter fun T=>decide (swL ws T=swL ws (puts (krW N es ws 100)))).length:Int)/\s 17=.int .i64 (i:Int)/\H=K) (tsL (N:Int) es).length ?_ ?_
  ·refine ⟨0,by omega,?_⟩
   simp (disch:=omega) only [h4,h5,h6,h9,h13,h14,h15,h16,SS,eq_self,reduceIte,reduceCtorEq,Nat.reduceEqDiff,Nat.reduceAdd]
   (repeat' first | exact rfl | apply And.intro) <;> first | (simp only [Value.int.injEq,true_and];omega) | omega | rfl | assumption | (simp;done) | (simp;omega)
  rintro m s K ⟨i,hm,g4,g5,g6,g9,g13,g14,g15,g16,g17,rfl⟩
  have lts:=tsL_len (N:Int) es
  simp (disch:=omega) only [g4,g5,g6,g9,g13,g14,g15,g16,g17,hT.row.len Tryz.underlying32,hT.len,SS,eq_self,reduceIte,reduceCtorEq,Nat.reduceEqDiff,Nat.reduceAdd]
  refine brD.intro (fun g=>?_) (fun g=>?_)
  ·have hi:i<(tsL (N:Int) es).length:=by omega
   have hme:(tsL (N:Int) es).getD i [] ∈ tsL (N:Int) es:=by simp [hi]
   have hti:=htre _ hme
   have hlo:=LT.least _ hme
   have htk:(tsL (N:Int) es).take (i+1)=(tsL (N:Int) es).take i ++ [(tsL (N:Int) es).getD i []]:=by
    rw [List.take_add_one,List.getElem?_eq_getElem hi];simp [hi]
   have hcl:((((tsL (N:Int) es).take i).filter fun T=>decide (swL ws T=swL ws (puts (krW N es ws 100)))).length)<=i:=Nat.le_trans (List.length_filter_le _ _) (by rw [List.length_take];omega)
   have hci:=hT.cell hi
   have hul:=hT.len
   simp (disch:=omega) only [g4,g5,g6,g9,g13,g14,g15,g16,g17,hT.row.ix Tryz.underlying32 cs27,hul,Int.toNat_natCast,hci,SS,eq_self,reduceIte,reduceCtorEq,Nat.reduceEqDiff,Nat.reduceAdd]
   refine CallH.by (vHeavy_c u _ ws _ H hu (hT.each i hi) hw99 (fun e he=>by have:=hti.2.2.1 e he;omega) (by have:=hti.1;omega) (by omega)) ?_
   rintro _ _ ⟨rfl,rfl⟩
   have hnl:¬ swL ws ((tsL (N:Int) es).getD i [])<swL ws (puts (krW N es ws 100)):=by omega
   simp (disch:=omega) only [g4,g5,g6,g9,g13,g14,g15,g16,g17,decide_eq_false hnl,hT.row.ix Tryz.underlying32 cs27,hul,Int.toNat_natCast,hci,SS,eq_self,reduceIte,reduceCtorEq,Nat.reduceEqDiff,Nat.reduceAdd]
   refine CallH.by (vHeavy_c u _ ws _ H hu (hT.each i hi) hw99 (fun e he=>by have:=hti.2.2.1 e he;omega) (by have:=hti.1;omega) (by omega)) ?_
   rintro _ _ ⟨rfl,rfl⟩
   by_cases q:swL ws ((tsL (N:Int) es).getD i [])=swL ws (puts (krW N es ws 100))
   ·have k16:((((tsL (N:Int) es).take (i+1)).filter fun T=>decide (swL ws T=swL ws (puts (krW N es ws 100)))).length:Int)=((((tsL (N:Int) es).take i).filter fun T=>decide (swL ws T=swL ws (puts (krW N es ws 100)))).length:Int)+1:=by
     rw [htk,List.filter_append,List.length_append,List.filter_cons_of_pos (by rw [decide_eq_true_eq];exact q)];rfl
    have hwr1:IntKind.i64.wrap (((((tsL (N:Int) es).take i).filter fun T=>decide (swL ws T=swL ws (puts (krW N es ws 100)))).length:Int)+1)=((((tsL (N:Int) es).take (i+1)).filter fun T=>decide (swL ws T=swL ws (puts (krW N es ws 100)))).length:Int):=by rw [k16];exact wrap64 (by omega) (by omega)
    simp (disch:=omega) only [g4,g5,g6,g9,g13,g14,g15,g16,g17,decide_eq_true q,hwr1,wrap64,SS,eq_self,reduceIte,reduceCtorEq,Nat.reduceEqDiff,Nat.reduceAdd]
    refine ⟨m - 1,by omega,i+1,?_⟩
    (repeat' first | exact rfl | apply And.intro) <;> first | (simp only [Value.int.injEq,true_and];omega) | omega | rfl | assumption | (simp;done) | (simp;omega)
   ·have k16:(((tsL (N:Int) es).take (i+1)).filter fun T=>decide (swL ws T=swL ws (puts (krW N es ws 100))))=(((tsL (N:Int) es).take i).filter fun T=>decide (swL ws T=swL ws (puts (krW N es ws 100)))):=by
     rw [htk,List.filter_append,List.filter_cons_of_neg (by rw [decide_eq_true_eq];exact q)];simp
    simp (disch:=omega) only [g4,g5,g6,g9,g13,g14,g15,g16,g17,decide_eq_false q,wrap64,SS,eq_self,reduceIte,reduceCtorEq,Nat.reduceEqDiff,Nat.reduceAdd]
    refine ⟨m - 1,by omega,i+1,?_⟩
    rw [k16]
    (repeat' first | exact rfl | apply And.intro) <;> first | (simp only [Value.int.injEq,true_and];omega) | omega | rfl | assumption | (simp;done) | (simp;omega)
  ·have hi:i=(tsL (N:Int) es).length:=by omega
   subst hi
   rw [List.take_length,<- LT.eq] at g16
   simp (disch:=omega) only [g4,g5,g6,g9,g13,g14,g15,SS,eq_self,reduceIte,reduceCtorEq,Nat.reduceEqDiff,Nat.reduceAdd]
   exact hc _ _ ⟨g4,hu,g5,g6,hg,g9,co,X,g13,g14,hT,g15,g16⟩
 clear h4 hu h5 h6 hg h9 co X h13 h14 hT h15 h16 s H
 rintro s H ⟨h4,hu,h5,h6,hg,h9,co,X,h13,h14,hT,h15,h16⟩
 refine cutC (fun s H'=>∃ us2:List Value,s 5=lv/\Row 3 H' lv (puts (krW N es ws 100))/\s 9=.pointer (some ⟨o,0,none⟩)/\H'[o]?=some (.cells [a,b] 34 false)/\SpRow H' a b (lgL (N:Int) es ws) (lgS (N:Int) es ws)/\Sts H' a us2 (lgL (N:Int) es ws)) (fun c hc=>?_) ?_
 ·have l3:=lgL_len (N:Int) es ws
  have l6:=lgS_len (N:Int) es ws
  obtain ⟨us2,hY⟩:=X.sts4 (lgL_srt _ _ _) (by omega) (fun l hl=>by have:=(tsL_in l (lgL_sub l hl)).1;omega)
  have hul:=hY.len
  have hc0:cellA H (rowO a) (rowK a+Int.toNat 0)=some (us2.getD 0 undef):=hY.cell LT.pos
  have he0:=hY.each 0 LT.pos
  rw [LT.first] at he0
  have hfa:=cell_of co
  have hix0:=hY.row.ix Tryz.underlying32 cs27 .i64 (i:=0) (by omega) (by have:=LT.pos;simp;omega)
  simp (disch:=omega) only [h14,h5,h6,h16,h9,hfa,hY.row.len Tryz.underlying32,hul,f1,f2,f3,f4,f5,hix0,hc0,SS,eq_self,reduceIte,reduceCtorEq,Nat.reduceEqDiff,Nat.reduceAdd]
  refine CallH.by (vInts_c _ lv _ H he0 hg (by have:=hTK.1;omega)) ?_
  rintro _ _ ⟨rfl,rfl⟩
  simp (disch:=omega) only [SS,eq_self,reduceIte,reduceCtorEq,Nat.reduceEqDiff,Nat.reduceAdd]
  exact hc _ _ ⟨us2,h5,hg,h9,co,X,hY⟩
 clear h4 hu h5 h6 hg h9 co X h13 h14 hT h15 h16 s H
 rintro s H ⟨us2,h5,hg,h9,co,X,hY⟩
 have l3:=lgL_len (N:Int) es ws
 have l6:=lgS_len (N:Int) es ws
 have hso:StpOk (lgL (N:Int) es ws).length (lgS (N:Int) es ws):=steps_ok _ _
 have hsm:∀ l ∈ lgL (N:Int) es ws,l.length<=24/\∀ y ∈ l,-99<=y/\y<=99:=fun l hl=>by
  have h1:=htre l (lgL_sub l hl)
  have h2:=len1_of h1
  exact ⟨by omega,fun y hy=>by have:=h1.2.2.1 y hy;omega⟩
 have hbl:=(bfs_rng _ (rdS_ok hso) 0 (by rw [rdS_len];exact LT.pos)).1
 rw [rdS_len] at hbl
 refine cutC (fun s H'=>∃ dv:Value,s 5=lv/\Row 3 H' lv (puts (krW N es ws 100))/\s 9=.pointer (some ⟨o,0,none⟩)/\H'[o]?=some (.cells [a,b] 34 false)/\SpRow H' a b (lgL (N:Int) es ws) (lgS (N:Int) es ws)/\Sts H' a us2 (lgL (N:Int) es ws)/\s 18=dv/\s 19=.bool true/\Row 3 H' dv (bfs (rdS (lgL (N:Int) es ws).length (lgS (N:Int) es ws)) 0)) (fun c hc=>?_) ?_
 ·have hd:=DistI_c X hY (by omega) (by omega) hsm (stp_pru4 hso) hso (fun x=>nb_le hso x) LT.pos
  rw [show ((0:Nat):Int)=0 from rfl] at hd
  simp (disch:=omega) only [h9,ld_agg ag34 cs34 co,SS,eq_self,reduceIte,reduceCtorEq,Nat.reduceEqDiff,Nat.reduceAdd]
  refine CallH.by hd ?_
  rintro _ H1 ⟨dv,rfl,hdv,p1⟩
  simp (disch:=omega) only [SS,eq_self,reduceIte,reduceCtorEq,Nat.reduceEqDiff,Nat.reduceAdd]
  exact hc _ _ ⟨dv,h5,hg.pre p1,h9,pre_at p1 co,X.pre p1,hY.pre p1,rfl,rfl,hdv.row⟩
 clear h5 hg h9 co X hY s H
 rintro s H ⟨dv,h5,hg,h9,co,X,hY,h18,h19,hdv⟩
 refine cutC (fun s H'=>s 19=.bool true) (fun c hc=>?_) ?_
 ·simp (disch:=omega) only [h5,h9,h18,h19,SS,eq_self,reduceIte,reduceCtorEq,Nat.reduceEqDiff,Nat.reduceAdd]
  refine LoopH.by (fun m s K=>∃ i:Nat,m+i=(lgL (N:Int) es ws).length/\s 5=lv/\s 9=.pointer (some ⟨o,0,none⟩)/\s 18=dv/\s 19=.bool true/\s 20=.int .i64 (i:Int)/\H<+:K) (lgL (N:Int) es ws).length ?_ ?_
  ·refine ⟨0,by omega,?_⟩
   simp (disch:=omega) only [h5,h9,h18,h19,SS,eq_self,reduceIte,reduceCtorEq,Nat.reduceEqDiff,Nat.reduceAdd]
   (repeat' first | exact List.prefix_refl _ | apply And.intro) <;> first | (simp only [Value.int.injEq,true_and];omega) | omega | rfl | assumption | (simp;done) | (simp;omega)
  rintro m s K ⟨i,hm,g5,g9,g18,g19,g20,pK⟩
  have hdK:=hdv.pre pK
  have hYK:=hY.pre pK
  have coK:=pre_at pK co
  have hgK:=hg.pre pK
  simp (disch:=omega) only [g5,g9,g18,g19,g20,hdK.len Tryz.underlying27,hbl,SS,eq_self,reduceIte,reduceCtorEq,Nat.reduceEqDiff,Nat.reduceAdd]
  refine brD.intro (fun g=>?_) (fun g=>?_)
  ·have hi:i<(lgL (N:Int) es ws).length:=by omega
   have hdi:=LT.dist i hi
   have hci:=hdK.cell (show i<_ by rw [hbl];exact hi)
   rw [hdi] at hci
   have hyi:=hYK.cell hi
   have hul:=hYK.len
   have hme:(lgL (N:Int) es ws).getD i [] ∈ lgL (N:Int) es ws:=by simp [hi]
   have hml:=(hsm _ hme).1
   have hwo:=without_len (puts (krW N es ws 100)) ((lgL (N:Int) es ws).getD i [])
   simp (disch:=omega) only [g5,g9,g18,g19,g20,hdK.ix Tryz.underlying27 cs3,hbl,Int.toNat_natCast,hci,cell_of coK,hYK.row.ix Tryz.underlying32 cs27,hul,hyi,SS,eq_self,reduceIte,reduceCtorEq,Nat.reduceEqDiff,Nat.reduceAdd]
   refine CallH.by (vOnly_c lv _ _ _ K hgK (by have:=hTK.1;omega) (hYK.each i hi) (by omega)) ?_
   rintro ov K2 ⟨hov,pK2⟩
   have hci2:=(hdK.pre pK2).cell (show i<_ by rw [hbl];exact hi)
   rw [hdi] at hci2
   have f6:=decide_eq_false (fun h:¬ ((without (puts (krW N es ws 100)) ((lgL (N:Int) es ws).getD i [])).length:Int)=((without (puts (krW N es ws 100)) ((lgL (N:Int) es ws).getD i [])).length:Int)=>h rfl)
   simp (disch:=omega) only [g5,g9,g18,g19,g20,hci,hci2,hov.row.len Tryz.underlying27,f4,f5,f6,wrap64,SS,eq_self,reduceIte,reduceCtorEq,Nat.reduceEqDiff,Nat.reduceAdd]
   have pHK:=pK.trans pK2
   refine ⟨m - 1,by omega,i+1,?_⟩
   (repeat' first | exact pHK | apply And.intro) <;> first | (simp only [Value.int.injEq,true_and];omega) | omega | rfl | assumption | (simp;done) | (simp;omega)
  ·simp (disch:=omega) only [g5,g9,g18,g19,SS,eq_self,reduceIte,reduceCtorEq,Nat.reduceEqDiff,Nat.reduceAdd]
   exact hc _ _ g19
 clear h5 hg h9 co X hY h18 h19 hdv s H
 rintro s H h19
 simp (disch:=omega) only [h19,SS,eq_self,reduceIte,reduceCtorEq,Nat.reduceEqDiff,Nat.reduceAdd]
 refine hQ _ _ _ ?_
 simp (disch:=omega) only [SS,eq_self,reduceIte,reduceCtorEq,Nat.reduceEqDiff,Nat.reduceAdd]
def byts (zs:List Int):List Value:=zs.map fun z=>.int .u8 z
theorem byts_len (xs:List Int):(byts xs).length=xs.length:=by simp [byts]
theorem byts_at (xs:List Int){i:Nat}(h:i<xs.length):(byts xs)[i]?=some (.int .u8 (xs.getD i 0)):=by
 simp [byts,h,List.getElem?_eq_getElem]
theorem Args.addBytes {P:Program}{t e:TypeId}{W:World}{base:Nat}{a:Option Addr}{len cap:Nat}{zs:List Int}{μ:Mu}{H:AH}(h:Args P μ H W)(hc:P.cellsOf e=1)(hu:P.underlying t=some (.slice e))
  (hok:Value.okWide P W .any base t (.slice a len cap))(hrow:IsRow .u8 W a len cap zs) :
  ∃ (μ':Mu) (obj:AObj) (va:Value) (us:List Value),Args P μ' (H ++ [obj]) W/\μ.Le μ'/\TRel μ' va (.slice a len cap)/\RowV e (H ++ [obj]) va us/\(∀ i,i<us.length->∃ b:Nat,us.getD i undef=.int .u8 (b:Int)/\b<256)/\(us.length:Int)<=9223372036854775807:=by
 rcases hrow with ⟨rfl,rfl,rfl,rfl⟩ | ⟨x,rfl,hl,hm,hz,hcell,hwf⟩
 ·refine ⟨μ,.dead,.slice none 0 0,[],⟨h.rel.phantom .dead,?_⟩,Mu.Le.refl _,⟨rfl,rfl,rfl⟩,.inl ⟨rfl,rfl⟩,fun i hi=>absurd hi (by simp),by simp⟩
  intro o y hy
  rw [getElem?_snoc] at hy
  split at hy
  ·cases hy;rfl
  ·exact h.ro o y hy
 ·simp only [Value.okWide,hu,Cell.okWide,Cell.ok] at hok
  obtain ⟨_,_,_,hspot,row,cells,hsh,_⟩:=hok
  have hblk:x.block<W.heap.size:=by
   unfold World.shape? at hsh
   cases hb:W.heap[x.block]? with
   | none=>rw [hb] at hsh;cases hsh
   | some o=>exact (Array.getElem?_eq_some_iff.1 hb).1
  have hx:∀ i,x.add i=⟨x.block,x.off+i,none⟩:=by intro i;cases x;simp_all [Addr.add]
  have hfree:μ H.length=none:=h.rel.dom _ (Nat.le_refl _)
  have hle:=Mu.le_put (L:=⟨x.block,x.off,cap,1⟩) hfree
  have hro:∀ (o:Nat) (y:AObj),(H ++ [AObj.cells (byts zs) e true])[o]?=some y->y.wr=false:=by
   intro o y hy
   rw [getElem?_snoc] at hy
   split at hy
   ·cases hy;rfl
   ·exact h.ro o y hy
  refine ⟨μ.put H.length ⟨x.block,x.off,cap,1⟩,.cells (byts zs) e true,.slice (some ⟨H.length,0,none⟩) len len,byts (zs.take len),⟨?_,hro⟩,hle,?_,?_,?_,?_⟩
  ·refine ⟨?_,?_,?_,?_⟩
   ·intro o ho
    simp only [List.length_append,List.length_cons,List.length_nil] at ho
    rw [Mu.put_other _ _ _ (by omega)];exact h.rel.dom o (by omega)
   ·intro o vs t' ro L ho hL
    rw [getElem?_snoc] at ho
    split at ho
    ·rename_i eo
     subst eo
     simp only [Option.some.injEq,AObj.cells.injEq] at ho
     obtain ⟨rfl,rfl,rfl⟩:=ho
     rw [Mu.put_same] at hL
     cases hL
     refine ⟨hblk,by simp,hc.symm,by rw [byts_len];show zs.length<=cap;omega,?_,fun h=>by cases h⟩
     intro i v hv
     have hi:i<zs.length:=by have:=(List.getElem?_eq_some_iff.1 hv).1;rwa [byts_len] at this
     rw [byts_at zs hi] at hv
     cases hv
     refine ⟨_,?_,rfl⟩
     rw [<- hx];exact hcell i hi
    ·rename_i eo
     rw [Mu.put_other _ _ _ eo] at hL
     obtain ⟨h2,h3,h4,h5,h6,h7⟩:=h.rel.cells_ o vs t' ro L ho hL
     refine ⟨h2,h3,h4,h5,?_,h7⟩
     intro i v hv
     obtain ⟨cv,g1,g2⟩:=h6 i v hv
     exact ⟨cv,g1,g2.mono hle⟩
   ·intro o es L ho hL
    rw [getElem?_snoc] at ho
    split at ho
    ·cases ho
    ·have:=h.ro o _ ho
     cases this
   ·intro o o' y y' L L' hne ho ho' hw
    have:=hro o y ho
    rw [this] at hw;cases hw
  ·refine ⟨rfl,rfl,x,cap,rfl,hl,.inr ⟨⟨x.block,x.off,cap,1⟩,Mu.put_same _ _ _,?_,by simp⟩⟩
   have:=hx 0
   cases x
   simp_all
  ·refine .inr ⟨H.length,0,byts zs,true,?_,at_new ..,?_,?_⟩
   ·have:(byts (zs.take len)).length=len:=by rw [byts_len];simp;omega
    rw [this]
   ·rw [byts_len,byts_len];simp;omega
   ·have:(byts (zs.take len)).length=len:=by rw [byts_len];simp;omega
    rw [this,List.drop_zero]
    simp [byts,List.map_take]
  ·intro i hi
   rw [byts_len] at hi
   have h1:=byts_at (zs.take len) hi
   have hm2:(zs.take len).getD i 0 ∈ zs.take len:=by
    rw [List.getD_eq_getElem?_getD,List.getElem?_eq_getElem hi]
    exact List.getElem_mem hi
   have:=hwf _ (List.mem_of_mem_take hm2)
   simp [Lit.wf,IntKind.min,IntKind.max,IntKind.signed,IntKind.bits] at this
   rw [List.getD_eq_getElem?_getD,h1]
   have h0:0<=(zs.take len).getD i 0/\(zs.take len).getD i 0<256:=by
    simp only [List.getD_eq_getElem?_getD,List.getElem?_take] at this ⊢
    omega
   exact ⟨((zs.take len).getD i 0).toNat,by rw [Int.toNat_of_nonneg h0.1];rfl,by omega⟩
  ·rw [byts_len,List.length_take]
   unfold maxLen at hm
   omega
end Go.Proofs.YtlcipphiflcaiaaGreat.Ai
