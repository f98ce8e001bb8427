/- Texts of this claim, joined: TrS, Grw, Trl, Tss, LitS, LitI, LitJ, TreW, SpP, KrL, LitW, Tst, LigP, Ltr, BfsX, LtP, IdxL, DelL, Lig, App9, Lgs. -/
import Derived.Test.YtlcipphiflcaiaaGreatProg
import Derived.KernelRfl
import Derived.Test.YtlcipphiflcaiaaGreatMgLawLtl5
set_option linter.unusedVariables false
set_option linter.unusedSimpArgs false
set_option maxHeartbeats 8000000
set_option maxRecDepth 20000
namespace Go.Proofs.YtlcipphiflcaiaaGreat.Ai
open Go Go.RowKit
def cd119:Cd:=(.seq (.reg [⟨⟨some 6,.assign (.const (.bool false)),none⟩,[]⟩]) (.seq (.seq (.reg [⟨⟨some 7,.assign (.const (.int .i64 0)),none⟩,[]⟩]) (.block 0 (.loop (.seq (.seq (.reg [⟨⟨some 8,.move (.tmp 7),none⟩,[]⟩,⟨⟨some 9,.move (.tmp 0),none⟩,[]⟩,⟨⟨some 10,.call ⟨(.builtin .len),#[.tmp 9],#[27]⟩,none⟩,[]⟩,⟨⟨some 11,.binOp .lss 3 (.tmp 8) (.tmp 10) 3,none⟩,[]⟩]) (.cond (.tmp 11) .skip (.exit 0))) (.seq (.block 1 (.seq (.reg [⟨⟨some 14,.move (.tmp 0),none⟩,[]⟩,⟨⟨some 15,.move (.tmp 7),none⟩,[]⟩,⟨⟨some 16,.indexAddr 27 (.tmp 14) (.tmp 15),none⟩,[]⟩,⟨⟨some 17,.load 3 (.tmp 16),none⟩,[]⟩,⟨⟨some 18,.move (.tmp 1),none⟩,[]⟩,⟨⟨some 19,.move (.tmp 2),none⟩,[]⟩,⟨⟨some 20,.call ⟨(.value (.func 114)),#[.tmp 17,.tmp 18,.tmp 19],#[3,3,3]⟩,none⟩,[]⟩,⟨⟨some 21,.unOp .not 4 (.tmp 20),none⟩,[]⟩,⟨⟨some 22,.move (.tmp 21),none⟩,[]⟩,
 ⟨⟨some 23,.move (.tmp 7),some (22,false)⟩,[]⟩,⟨⟨some 24,.binOp .gtr 3 (.tmp 23) (.const (.int .i64 0)) 3,some (22,false)⟩,[]⟩,⟨⟨some 25,.move (.tmp 24),some (22,false)⟩,[]⟩,⟨⟨some 26,.move (.tmp 0),some (25,true)⟩,[]⟩,⟨⟨some 27,.move (.tmp 7),some (25,true)⟩,[]⟩,⟨⟨some 28,.binOp .sub 3 (.tmp 27) (.const (.int .i64 1)) 3,some (25,true)⟩,[]⟩,⟨⟨some 29,.indexAddr 27 (.tmp 26) (.tmp 28),some (25,true)⟩,[]⟩,⟨⟨some 30,.load 3 (.tmp 29),some (25,true)⟩,[]⟩,⟨⟨some 31,.move (.tmp 0),some (25,true)⟩,[]⟩,⟨⟨some 32,.move (.tmp 7),some (25,true)⟩,[]⟩,⟨⟨some 33,.indexAddr 27 (.tmp 31) (.tmp 32),some (25,true)⟩,[]⟩,⟨⟨some 34,.load 3 (.tmp 33),some (25,true)⟩,[]⟩,
 ⟨⟨some 35,.binOp .geq 3 (.tmp 30) (.tmp 34) 3,some (25,true)⟩,[]⟩,
  ⟨⟨some 36,.pick (.tmp 25) (.tmp 35) (.const (.bool false)),some (22,false)⟩,[]⟩,
  ⟨⟨some 37,.pick (.tmp 22) (.const (.bool true)) (.tmp 36),none⟩,[]⟩]) (.cond (.tmp 37) (.seq (.reg [⟨⟨some 6,.assign (.const (.bool false)),none⟩,[]⟩]) .ret) .skip))) (.reg [⟨⟨some 12,.move (.tmp 7),none⟩,[]⟩,
  ⟨⟨some 13,.binOp .add 3 (.tmp 12) (.const (.int .i64 1)) 3,none⟩,[]⟩,
  ⟨⟨some 7,.assign (.tmp 13),none⟩,[]⟩])))))) (.seq (.reg [⟨⟨some 6,.assign (.const (.bool true)),none⟩,[]⟩]) .ret)))
theorem in119:InT Tryz.prog 119 3 [.tmp 6] cd119:=InT.mk (by kernel_rfl) [(4,[(0,false),(1,false),(2,false),(3,false),(4,false),(5,false),(6,true),(7,false),(8,false),(9,false),(10,false),(11,false),(12,false),(13,false),(14,false),(15,false),(16,false),(17,false),(18,false),(19,false),(20,false),(21,false),(22,false),(23,false)])] Tryz.func119 rfl (by kernel_rfl) (by kernel_rfl) (of_decide_eq_true (by kernel_rfl)) (by kernel_rfl)
def cd121:Cd:=(.seq (.reg [⟨⟨some 2,.box 26 (.tmp 0),none⟩,[]⟩,⟨⟨some 4,.alloc 26,none⟩,[]⟩]) (.seq (.reg [⟨⟨some 7,.fieldAddr 26 (.tmp 2) 0,none⟩,[]⟩,⟨⟨some 8,.load 3 (.tmp 7),none⟩,[]⟩,⟨⟨some 9,.buildSlice 24 0 #[],none⟩,[]⟩,⟨⟨some 10,.build 26 #[(0,.tmp 8),(1,.tmp 9)],none⟩,[]⟩,⟨⟨some 5,.alloc 26,none⟩,[]⟩,⟨⟨none,.store 26 (.tmp 5) (.tmp 10),none⟩,[]⟩]) (.seq (.seq (.reg [⟨⟨some 6,.assign (.const (.int .i64 0)),none⟩,[]⟩]) (.block 0 (.loop (.seq (.seq (.reg [⟨⟨some 11,.move (.tmp 6),none⟩,[]⟩,⟨⟨some 12,.move (.tmp 1),none⟩,[]⟩,⟨⟨some 13,.call ⟨(.builtin .len),#[.tmp 12],#[27]⟩,none⟩,[]⟩,⟨⟨some 14,.binOp .lss 3 (.tmp 11) (.tmp 13) 3,none⟩,[]⟩]) (.cond (.tmp 14) .skip (.exit 0))) (.seq (.block 1 (.reg [⟨⟨some 17,.fieldAddr 26 (.tmp 5) 1,none⟩,[]⟩,⟨⟨some 18,.load 24 (.tmp 17),none⟩,[]⟩,⟨⟨some 19,.fieldAddr 26 (.tmp 2) 1,none⟩,[]⟩,
 ⟨⟨some 20,.load 24 (.tmp 19),none⟩,[]⟩,⟨⟨some 21,.move (.tmp 1),none⟩,[]⟩,⟨⟨some 22,.move (.tmp 6),none⟩,[]⟩,⟨⟨some 23,.indexAddr 27 (.tmp 21) (.tmp 22),none⟩,[]⟩,⟨⟨some 24,.load 3 (.tmp 23),none⟩,[]⟩,⟨⟨some 25,.indexAddr 24 (.tmp 20) (.tmp 24),none⟩,[]⟩,⟨⟨some 26,.load 115 (.tmp 25),none⟩,[]⟩,⟨⟨some 27,.buildSlice 24 1 #[(0,.tmp 26)],none⟩,[]⟩,⟨⟨some 28,.call ⟨(.builtin .append),#[.tmp 18,.tmp 27],#[24,24]⟩,none⟩,[]⟩,⟨⟨some 29,.fieldAddr 26 (.tmp 5) 1,none⟩,[]⟩,⟨⟨none,.store 24 (.tmp 29) (.tmp 28),none⟩,[]⟩])) (.reg [⟨⟨some 15,.move (.tmp 6),none⟩,[]⟩,⟨⟨some 16,.binOp .add 3 (.tmp 15) (.const (.int .i64 1)) 3,none⟩,[]⟩,
 ⟨⟨some 6,.assign (.tmp 16),none⟩,[]⟩])))))) (.seq (.reg [⟨⟨some 30,.load 26 (.tmp 5),none⟩,[]⟩,
  ⟨⟨none,.store 26 (.tmp 4) (.tmp 30),none⟩,[]⟩]) .ret))))
theorem in121:InT Tryz.prog 121 2 [.cell 4 26] cd121:=InT.mk (by kernel_rfl) [(5,[(0,false),(1,false),(2,false),(3,false),(4,false),(5,false),(6,false),(7,false),(8,false),(9,false),(10,false),(11,true),(12,false),(13,true)])] Tryz.func121 rfl (by kernel_rfl) (by kernel_rfl) (of_decide_eq_true (by kernel_rfl)) (by kernel_rfl)
def cd53:Cd:=(.seq (.reg [⟨⟨some 2,.box 26 (.tmp 0),none⟩,[]⟩,⟨⟨some 4,.assign (.const (.bool false)),none⟩,[]⟩]) (.seq (.seq (.reg [⟨⟨some 5,.move (.tmp 1),none⟩,[]⟩,⟨⟨some 6,.call ⟨(.builtin .len),#[.tmp 5],#[27]⟩,none⟩,[]⟩,⟨⟨some 7,.fieldAddr 26 (.tmp 2) 0,none⟩,[]⟩,⟨⟨some 8,.load 3 (.tmp 7),none⟩,[]⟩,⟨⟨some 9,.binOp .sub 3 (.tmp 8) (.const (.int .i64 1)) 3,none⟩,[]⟩,⟨⟨some 10,.binOp .neq 3 (.tmp 6) (.tmp 9) 3,none⟩,[]⟩,⟨⟨some 11,.move (.tmp 10),none⟩,[]⟩,⟨⟨some 12,.move (.tmp 1),some (11,false)⟩,[]⟩,⟨⟨some 13,.fieldAddr 26 (.tmp 2) 1,some (11,false)⟩,[]⟩,⟨⟨some 14,.load 24 (.tmp 13),some (11,false)⟩,[]⟩,⟨⟨some 15,.call ⟨(.builtin .len),#[.tmp 14],#[24]⟩,some (11,false)⟩,[]⟩,
 ⟨⟨some 16,.binOp .sub 3 (.tmp 15) (.const (.int .i64 1)) 3,some (11,false)⟩,[]⟩,⟨⟨some 17,.call ⟨(.value (.func 119)),#[.tmp 12,(.const (.int .i64 0)),.tmp 16],#[27,3,3]⟩,some (11,false)⟩,[]⟩,⟨⟨some 18,.unOp .not 4 (.tmp 17),some (11,false)⟩,[]⟩,⟨⟨some 19,.pick (.tmp 11) (.const (.bool true)) (.tmp 18),none⟩,[]⟩]) (.cond (.tmp 19) (.seq (.reg [⟨⟨some 4,.assign (.const (.bool false)),none⟩,[]⟩]) .ret) .skip)) (.seq (.reg [⟨⟨some 20,.load 26 (.tmp 2),none⟩,[]⟩,⟨⟨some 21,.move (.tmp 1),none⟩,[]⟩,⟨⟨some 23,.fieldAddr 26 (.tmp 2) 0,none⟩,[]⟩,⟨⟨some 24,.load 3 (.tmp 23),none⟩,[]⟩,⟨⟨some 25,.fieldAddr 26 (.tmp 2) 0,none⟩,[]⟩,⟨⟨some 26,.load 3 (.tmp 25),none⟩,[]⟩,⟨⟨some 27,.binOp .shl 3 (.const (.int .i64 1)) (.tmp 26) 3,none⟩,[]⟩,⟨⟨some 28,.binOp .sub 3 (.tmp 27) (.const (.int .i64 1)) 3,none⟩,[]⟩,⟨⟨some 22,.call ⟨(.value (.func 121)),#[.tmp 20,.tmp 21],#[26,27]⟩,none⟩,[⟨some 26,.load 3 (.tmp 25),none⟩,⟨some 24,.load 3 (.tmp 23),none⟩]⟩,
 ⟨⟨some 29,.call ⟨(.value (.func 122)),#[.tmp 24,.tmp 28],#[3,3]⟩,none⟩,[]⟩,
  ⟨⟨some 30,.call ⟨(.value (.func 120)),#[.tmp 22,.tmp 29],#[26,27]⟩,none⟩,[]⟩,
  ⟨⟨some 31,.call ⟨(.builtin .len),#[.tmp 30],#[32]⟩,none⟩,[]⟩,
  ⟨⟨some 32,.binOp .eql 3 (.tmp 31) (.const (.int .i64 1)) 3,none⟩,[]⟩,
  ⟨⟨some 4,.assign (.tmp 32),none⟩,[]⟩]) .ret)))
theorem in53:InT Tryz.prog 53 2 [.tmp 4] cd53:=InT.mk (by kernel_rfl) [(3,[(0,false),(1,false),(3,false),(4,false),(5,false),(6,false),(7,false),(8,false),(2,true),(9,true),(10,true),(11,false),(12,false),(13,false)])] Tryz.func53 rfl (by kernel_rfl) (by kernel_rfl) (of_decide_eq_true (by kernel_rfl)) (by kernel_rfl)
def cd115:Cd:=(.seq (.reg [⟨⟨some 1,.box 26 (.tmp 0),none⟩,[]⟩,
 ⟨⟨some 2,.assign (.const (.bool false)),none⟩,[]⟩]) (.seq (.reg [⟨⟨some 3,.load 26 (.tmp 1),none⟩,[]⟩,
 ⟨⟨some 4,.call ⟨(.value (.func 136)),#[.tmp 3],#[26]⟩,none⟩,[]⟩,
 ⟨⟨some 5,.move (.tmp 4),none⟩,[]⟩,
 ⟨⟨some 6,.fieldAddr 26 (.tmp 1) 0,some (5,true)⟩,[]⟩,
 ⟨⟨some 7,.load 3 (.tmp 6),some (5,true)⟩,[]⟩,
 ⟨⟨some 8,.binOp .gtr 3 (.tmp 7) (.const (.int .i64 0)) 3,some (5,true)⟩,[]⟩,
 ⟨⟨some 9,.pick (.tmp 5) (.tmp 8) (.const (.bool false)),none⟩,[]⟩,
 ⟨⟨some 2,.assign (.tmp 9),none⟩,[]⟩]) .ret))
theorem in115:InT Tryz.prog 115 1 [.tmp 2] cd115:=InT.mk (by kernel_rfl) [] Tryz.func115 rfl (by kernel_rfl) (by kernel_rfl) (of_decide_eq_true (by kernel_rfl)) (by kernel_rfl)
end Go.Proofs.YtlcipphiflcaiaaGreat.Ai
namespace Go.Proofs.YtlcipphiflcaiaaGreat.Ai
open Go Go.RowKit
theorem l1Rising_c (v:Value)(ys:List Int)(n:Int)(H:AH)(hn:0<=n/\n<=1099511627776)(hr:Row 3 H v ys)(hlen:ys.length<=1099511627776) :
  ACalls Tryz.prog 119 [v,.int .i64 0,.int .i64 (n - 1)] H fun r H'=>r=.bool (decide (Rsg n ys))/\H=H':=by
 refine in119 rfl ?_
 intro Q hQ
 simp (disch:=omega) only [cd119,SS,eq_self,reduceIte,reduceCtorEq,Nat.reduceEqDiff,Nat.reduceAdd]
 refine LoopH.by (fun m s H'=>∃ i,m+i=ys.length/\s 0=v/\s 1=.int .i64 0/\s 2=.int .i64 (n - 1)/\s 7=.int .i64 ((i:Nat):Int)/\H=H'/\∀ j,j<i->(0<=ys.getD j 0/\ys.getD j 0<=n - 1)/\(0<j->ys.getD (j - 1) 0<ys.getD j 0)) ys.length ?_ ?_
 ·exact ⟨0,by simp,rfl,rfl,rfl,rfl,rfl,by omega⟩
 ·rintro m s H' ⟨i,hm,h0,h1,h2,h7,rfl,hj⟩
  simp (disch:=omega) only [h0,h1,h2,h7,hr.len Tryz.underlying27,SS,eq_self,reduceIte,reduceCtorEq,Nat.reduceEqDiff,Nat.reduceAdd]
  refine brD.intro (fun g=>?_) (fun g=>?_)
  ·have hi:i<ys.length:=by omega
   have hp:((i:Int) - 1).toNat=i - 1:=by omega
   have bad:¬ ((0<=ys.getD i 0/\ys.getD i 0<=n - 1)/\(0<i->ys.getD (i - 1) 0<ys.getD i 0))->decide (Rsg n ys)=false:=fun h=>decide_eq_false fun hh=>h (hh i hi)
   have nxt:((0<=ys.getD i 0/\ys.getD i 0<=n - 1)/\(0<i->ys.getD (i - 1) 0<ys.getD i 0))->∀ j,j<i+1->(0<=ys.getD j 0/\ys.getD j 0<=n - 1)/\(0<j->ys.getD (j - 1) 0<ys.getD j 0):=by
    intro h j hjj
    by_cases e:j=i
    ·subst e;exact h
    ·exact hj j (by omega)
   simp (disch:=omega) only [h0,h1,h2,h7,hr.ix Tryz.underlying27 cs3,hr.cell,Int.toNat_natCast,wrap64,SS,eq_self,reduceIte,reduceCtorEq,Nat.reduceEqDiff,Nat.reduceAdd]
   refine CallH.by (l1In_c ..) ?_
   rintro _ _ ⟨rfl,rfl⟩
   by_cases e:0<=ys.getD i 0/\ys.getD i 0<=n - 1
   rotate_left
   ·simp (disch:=omega) only [decide_eq_false e,SS,eq_self,reduceIte,reduceCtorEq,Nat.reduceEqDiff,Nat.reduceAdd]
    refine hQ _ _ _ ?_
    simp (disch:=omega) only [SS,eq_self,reduceIte,reduceCtorEq,Nat.reduceEqDiff,Nat.reduceAdd]
    rw [bad (fun h=>e h.1)]
   simp (disch:=omega) only [decide_eq_true e,h0,h1,h2,h7,SS,eq_self,reduceIte,reduceCtorEq,Nat.reduceEqDiff,Nat.reduceAdd]
   refine brD.intro (fun q=>?_) (fun q=>?_) <;> simp (disch:=omega) only [q,h0,h1,h2,h7,hr.ix Tryz.underlying27 cs3,hr.cell,hp,Int.toNat_natCast,wrap64,SS,eq_self,reduceIte,reduceCtorEq,Nat.reduceEqDiff,Nat.reduceAdd]
   ·refine brD.intro (fun z=>?_) (fun z=>?_) <;> simp (disch:=omega) only [q,z,h0,h1,h2,h7,wrap64,SS,eq_self,reduceIte,reduceCtorEq,Nat.reduceEqDiff,Nat.reduceAdd]
    ·refine hQ _ _ _ ?_
     simp (disch:=omega) only [SS,eq_self,reduceIte,reduceCtorEq,Nat.reduceEqDiff,Nat.reduceAdd]
     rw [bad (fun h=>by have:=h.2 (by omega);omega)]
    ·have fx:=nxt ⟨e,fun _=>by omega⟩
     refine ⟨m - 1,by omega,i+1,?_⟩
     (repeat' apply And.intro) <;> first | exact fx | (simp only [Value.int.injEq,true_and];omega) | omega | rfl | assumption | (simp;done) | (simp;omega)
   ·have fx:=nxt ⟨e,fun _=>by omega⟩
    refine ⟨m - 1,by omega,i+1,?_⟩
    (repeat' apply And.intro) <;> first | exact fx | (simp only [Value.int.injEq,true_and];omega) | omega | rfl | assumption | (simp;done) | (simp;omega)
  ·simp (disch:=omega) only [SS,eq_self,reduceIte,reduceCtorEq,Nat.reduceEqDiff,Nat.reduceAdd]
   refine hQ _ _ _ ?_
   simp (disch:=omega) only [SS,eq_self,reduceIte,reduceCtorEq,Nat.reduceEqDiff,Nat.reduceAdd]
   have:Rsg n ys:=fun j hjj=>hj j (by omega)
   simp [this]
theorem bld_gr (n:Int)(p:Option Addr)(k c:Nat):buildA Tryz.prog 26 [(0,.int .i64 n),(1,.slice p k c)]=some (.agg (List.toArray [.int .i64 n,.slice p k c])):=by kernel_rfl
theorem prt_len (es:List (Int × Int))(T:List Int):(prtG es T).length=T.length:=by simp [prtG]
theorem l7Part_c (n:Int)(v w:Value)(es:List (Int × Int))(T:List Int)(H:AH)(hr:RowP 115 H v es)(hw:Row 3 H w T)(hT:EdIn es T)(hlen:T.length<=1000000) :
  ACalls Tryz.prog 121 [.agg (List.toArray [.int .i64 n,v]),w] H fun r H'=>∃ b,r=.agg (List.toArray [.int .i64 n,b])/\MineP 115 H H' b (prtG es T)/\H<+:H':=by
 refine in121 rfl ?_
 intro Q hQ
 simp (disch:=omega) only [cd121,hr.boxG,SS,eq_self,reduceIte,reduceCtorEq,Nat.reduceEqDiff,Nat.reduceAdd]
 generalize hB:H ++ [AObj.cells [.int .i64 n,v] 26 false]=B
 have pB:H<+:B:=by rw [<- hB];exact List.prefix_append _ _
 have cB:B[H.length]?=some (.cells [.int .i64 n,v] 26 false):=by rw [<- hB];exact at_new ..
 have rB:=hr.pre pB
 simp (disch:=omega) only [alloc_G,cell_of cB,SS,eq_self,reduceIte,reduceCtorEq,Nat.reduceEqDiff,Nat.reduceAdd]
 generalize hA:B ++ [AObj.cells [.int .i64 0,.slice none 0 0] 26 false]=A
 have pBA:B<+:A:=by rw [<- hA];exact List.prefix_append _ _
 have cA:A[B.length]?=some (.cells [.int .i64 0,.slice none 0 0] 26 false):=by rw [<- hA];exact at_new ..
 have lA:A.length=B.length+1:=by rw [<- hA];simp
 have gA:=pre_at pBA cB
 simp (disch:=omega) only [cell_of gA,SS,eq_self,reduceIte,reduceCtorEq,Nat.reduceEqDiff,Nat.reduceAdd]
 generalize hE:A ++ [AObj.cells [] 115 false]=E
 have pE:A<+:E:=by rw [<- hE];exact List.prefix_append _ _
 have lE:E.length=A.length+1:=by rw [<- hE];simp
 have m0:MineP 115 A E (.slice (some ⟨A.length,0,none⟩) 0 0) []:=by rw [<- hE];exact MineP.nil0 (P:=Tryz.prog) A A (Nat.le_refl _)
 have hb2:=bld_gr n (some ⟨A.length,0,none⟩) 0 0
 have st1:=st_G m0.row (at_new E (.cells [.int .i64 0,.slice none 0 0] 26 false)) rfl n
 rw [set_new] at st1
 simp (disch:=omega) only [hb2,alloc_G,st1,SS,eq_self,reduceIte,reduceCtorEq,Nat.reduceEqDiff,Nat.reduceAdd]
 generalize hG:E ++ [AObj.cells [.int .i64 n,.slice (some ⟨A.length,0,none⟩) 0 0] 26 false]=G
 have pG:E<+:G:=by rw [<- hG];exact List.prefix_append _ _
 have cG:G[E.length]?=some (.cells [.int .i64 n,.slice (some ⟨A.length,0,none⟩) 0 0] 26 false):=by rw [<- hG];exact at_new ..
 have lG:G.length=E.length+1:=by rw [<- hG];simp
 have pAG:=pE.trans pG
 have pHA:=pB.trans pBA
 refine LoopH.by (fun m s H'=>∃ i st,m+i=T.length/\s 1=w/\s 2=.pointer (some ⟨H.length,0,none⟩)/\s 4=.pointer (some ⟨B.length,0,none⟩)/\s 5=.pointer (some ⟨E.length,0,none⟩)/\s 6=.int .i64 ((i:Nat):Int)/\H'[E.length]?=some (.cells [.int .i64 n,st] 26 false)/\(rowO st=A.length∨G.length<=rowO st)/\st ≠ .slice none 0 0/\MineP 115 A H' st (prtG es (T.take i))/\A<+:H') T.length ?_ ?_
 ·exact ⟨0,.slice (some ⟨A.length,0,none⟩) 0 0,by simp,rfl,rfl,rfl,rfl,rfl,cG,.inl rfl,(by intro e;cases e),m0.pre pG,pAG⟩
 rintro m s H' ⟨i,st,hm,s1,s2,s4,s5,s6,hc5,hst,hsn,hmn,hpp⟩
 have wH:=hw.pre (pHA.trans hpp)
 have rH:=rB.pre (pBA.trans hpp)
 have gH:=pre_at hpp gA
 simp (disch:=omega) only [s1,s2,s4,s5,s6,wH.len Tryz.underlying27,SS,eq_self,reduceIte,reduceCtorEq,Nat.reduceEqDiff,Nat.reduceAdd]
 refine brD.intro (fun g=>?_) (fun g=>?_)
 ·have hi:i<T.length:=by omega
  have hcw:=wH.cell hi
  have hmem:T.getD i 0 ∈ T:=by simp [hi]
  have her:=hT _ hmem
  have htk:T.take (i+1)=T.take i ++ [T.getD i 0]:=by rw [List.take_succ_eq_append_getElem hi];simp [hi]
  have hi2:(T.getD i 0).toNat<es.length:=by omega
  obtain ⟨st2,H3,k1,k2,k3,k4,k5,k6⟩:=own1_24 hmn hpp (by rw [prt_len,List.length_take];omega) (es.getD (T.getD i 0).toNat (0,0)).1 (es.getD (T.getD i 0).toNat (0,0)).2
  have l5:=at_lt hc5
  have lH:=hpp.length_le
  have hne:E.length ≠ rowO st:=by omega
  have d5:H3[E.length]?=some (.cells [.int .i64 n,st] 26 false):=k4 _ _ (.inr hne) hc5
  obtain ⟨q2,hq2⟩:=k2.row.shape
  have t2:st2.cells.toList=[st2]:=by rw [hq2];rfl
  have hst3:=st_at (P:=Tryz.prog) (t:=24) (i:=1) (y:=st2) cs24 d5 (by show 1<2;decide) k6 t2
  simp (disch:=omega) only [s1,s2,s4,s5,s6,cell_of hc5,cell_of gH,wH.ix Tryz.underlying27 cs3,hcw,Int.toNat_natCast,rH.ix Tryz.underlying24 cs115,rH.ld ag115 cs115 hi2,k1,hst3,wrap64,SS,eq_self,reduceIte,reduceCtorEq,Nat.reduceEqDiff,Nat.reduceAdd]
  have f5:(H3.set E.length (.cells ([.int .i64 n,st].set 1 st2) 26 false))[E.length]?=some (.cells [.int .i64 n,st2] 26 false):=by
   rw [List.getElem?_set_self (at_lt d5)];rfl
  have fs1:rowO st2=A.length∨G.length<=rowO st2:=.inr (by omega)
  have fs2:st2 ≠ .slice none 0 0:=by
   intro hh
   rw [hh] at k5
   have:rowO (Value.slice none 0 0)=0:=rfl
   omega
  have fm:MineP 115 A (H3.set E.length (.cells ([.int .i64 n,st].set 1 st2) 26 false)) st2 (prtG es (T.take (i+1))):=by
   have e1:prtG es (T.take (i+1))=prtG es (T.take i) ++ [((es.getD (T.getD i 0).toNat (0,0)).1,(es.getD (T.getD i 0).toNat (0,0)).2)]:=by rw [htk];simp [prtG]
   rw [e1]
   exact k2.keepL fun hl y hy=>by rw [List.getElem?_set_ne (by omega)];exact hy
  have fp:A<+:H3.set E.length (.cells ([.int .i64 n,st].set 1 st2) 26 false):=pre_set k3 (by omega) _
  refine ⟨m - 1,by omega,i+1,st2,?_⟩
  (repeat' first | exact f5 | exact fs1 | exact fs2 | exact fm | exact fp | apply And.intro) <;> first | (simp only [Value.int.injEq,true_and];omega) | omega | rfl | assumption | (simp;done) | (simp;omega)
 ·have hi:i=T.length:=by omega
  subst hi
  rw [List.take_length] at hmn
  have cAH:=pre_at hpp cA
  have hstore:=st_G hmn.row cAH rfl n
  simp (disch:=omega) only [s1,s2,s4,s5,s6,ld_agg ag26 cs26 hc5,hstore,SS,eq_self,reduceIte,reduceCtorEq,Nat.reduceEqDiff,Nat.reduceAdd]
  have d4:=at_set (d:=.cells [.int .i64 n,st] 26 false) cAH
  have lH':=hpp.length_le
  refine hQ _ _ _ (end_cell _ _ _ _ _ _ (.agg (List.toArray [.int .i64 n,st])) ?_ rfl ⟨st,rfl,?_,?_⟩)
  ·simp (disch:=omega) only [s4,ld_agg ag26 cs26 d4,SS,eq_self,reduceIte,reduceCtorEq,Nat.reduceEqDiff,Nat.reduceAdd]
  ·refine (hmn.base pHA).keep fun y hy=>?_
   rw [List.getElem?_set_ne (by omega)];exact hy
  ·exact pre_set (pHA.trans hpp) (by have:=pB.length_le;omega) _
theorem l7Tree_c (n:Nat)(hn:1<=n)(v w:Value)(es:List (Int × Int))(T:List Int)(H:AH)(hr:RowP 115 H v es)(hg:Grd (n:Int) es)(hw:Row 3 H w T)(hlen:T.length<=1099511627776) :
  ACalls Tryz.prog 53 [.agg (List.toArray [.int .i64 (n:Int),v]),w] H fun r H'=>r=.bool (decide (TreL n es T))/\H<+:H':=by
 have h28:es.length<=28:=grd_len hg
 have hn8:n<=8:=by have:=hg.1;omega
 refine in53 rfl ?_
 intro Q hQ
 simp (disch:=omega) only [cd53,hr.boxG,hw.len Tryz.underlying27,SS,eq_self,reduceIte,reduceCtorEq,Nat.reduceEqDiff,Nat.reduceAdd]
 generalize hA:H ++ [AObj.cells [.int .i64 n,v] 26 false]=A
 have pA:H<+:A:=by rw [<- hA];exact List.prefix_append _ _
 have cA:A[H.length]?=some (.cells [.int .i64 n,v] 26 false):=by rw [<- hA];exact at_new ..
 have rA:=hr.pre pA
 have wA:=hw.pre pA
 have hw1:IntKind.i64.wrap ((n:Int) - 1)=(n:Int) - 1:=wrap64 (by omega) (by omega)
 have hw2:IntKind.i64.wrap ((es.length:Int) - 1)=(es.length:Int) - 1:=wrap64 (by omega) (by omega)
 simp (disch:=omega) only [cell_of cA,hw1,SS,eq_self,reduceIte,reduceCtorEq,Nat.reduceEqDiff,Nat.reduceAdd]
 by_cases e1:(T.length:Int)=(n:Int) - 1
 rotate_left
 ·simp (disch:=omega) only [decide_eq_true (show (T.length:Int) ≠ (n:Int) - 1 from e1),SS,eq_self,reduceIte,reduceCtorEq,Nat.reduceEqDiff,Nat.reduceAdd]
  refine hQ _ _ _ ?_
  simp (disch:=omega) only [SS,eq_self,reduceIte,reduceCtorEq,Nat.reduceEqDiff,Nat.reduceAdd]
  refine ⟨?_,pA⟩
  rw [decide_eq_false fun h=>e1 (by have:=h.1;omega)]
 have e1':¬ ¬ (T.length:Int)=(n:Int) - 1:=fun h=>h e1
 simp (disch:=omega) only [decide_eq_false e1',cell_of cA,rA.len Tryz.underlying24,hw2,SS,eq_self,reduceIte,reduceCtorEq,Nat.reduceEqDiff,Nat.reduceAdd]
 refine CallH.by (l1Rising_c w T es.length A (by omega) wA hlen) ?_
 rintro _ _ ⟨rfl,rfl⟩
 by_cases e2:Rsg es.length T
 rotate_left
 ·simp (disch:=omega) only [decide_eq_false e2,SS,eq_self,reduceIte,reduceCtorEq,Nat.reduceEqDiff,Nat.reduceAdd]
  refine hQ _ _ _ ?_
  simp (disch:=omega) only [SS,eq_self,reduceIte,reduceCtorEq,Nat.reduceEqDiff,Nat.reduceAdd]
  refine ⟨?_,pA⟩
  rw [decide_eq_false fun h=>e2 ((rsg_asc _ _).2 ⟨h.2.1,h.2.2.1⟩)]
 obtain ⟨hasc,hin⟩:=(rsg_asc _ _).1 e2
 have hin:EdIn es T:=hin
 have pw:2 ^ n<=2 ^ 8:=Nat.pow_le_pow_right (by decide) hn8
 have pw1:1<=2 ^ n:=Nat.one_le_two_pow
 have hw3:IntKind.i64.wrap (((2 ^ n:Nat):Int) - 1)=((2 ^ n:Nat):Int) - 1:=wrap64 (by omega) (by omega)
 simp (disch:=omega) only [decide_eq_true e2,cell_of cA,ld_agg ag26 cs26 cA,shl1 _ _ n hn8,hw3,SS,eq_self,reduceIte,reduceCtorEq,Nat.reduceEqDiff,Nat.reduceAdd]
 refine CallH.by (l7Part_c n v w es T A rA wA hin (by omega)) ?_
 rintro _ B ⟨b,rfl,hb,pB⟩
 have cB:=pre_at pB cA
 simp (disch:=omega) only [cell_of cB,SS,eq_self,reduceIte,reduceCtorEq,Nat.reduceEqDiff,Nat.reduceAdd]
 refine CallH.by (l2Bits_c n _ B hn8 rfl) ?_
 rintro u D ⟨hu,pD⟩
 simp (disch:=omega) only [SS,eq_self,reduceIte,reduceCtorEq,Nat.reduceEqDiff,Nat.reduceAdd]
 refine CallH.by (l2Pieces_c n b u (prtG es T) (alls n) D (hb.row.pre pD) (by rw [prt_len];omega) hu.row (fun z hz=>by have:=(alls_mem _ _).1 hz;omega) (by rw [alls_len];exact hn8)) ?_
 rintro x E ⟨hx,pE⟩
 obtain ⟨us,r1,r2,r3⟩:=hx.parts
 simp (disch:=omega) only [r1.len Tryz.underlying32,SS,eq_self,reduceIte,reduceCtorEq,Nat.reduceEqDiff,Nat.reduceAdd]
 refine hQ _ _ _ ?_
 simp (disch:=omega) only [SS,eq_self,reduceIte,reduceCtorEq,Nat.reduceEqDiff,Nat.reduceAdd]
 refine ⟨?_,pA.trans (pB.trans (pD.trans pE))⟩
 have:=pieces_one hn hg hin
 rw [Value.bool.injEq,decide_eq_decide]
 have hl:T.length+1=n:=by omega
 constructor
 ·intro h
  exact ⟨hl,hasc,hin,this.1 (by omega)⟩
 ·intro h
  have:=this.2 h.2.2.2
  omega
theorem l7Some_c (n:Int)(v:Value)(es:List (Int × Int))(H:AH)(hr:RowP 115 H v es)(hl:es.length<=1099511627776) :
  ACalls Tryz.prog 115 [.agg (List.toArray [.int .i64 n,v])] H fun r H'=>r=.bool (decide (Grd n es/\0<n))/\H<+:H':=by
 refine in115 rfl ?_
 intro Q hQ
 simp (disch:=omega) only [cd115,hr.boxG,SS,eq_self,reduceIte,reduceCtorEq,Nat.reduceEqDiff,Nat.reduceAdd]
 generalize hA:H ++ [AObj.cells [.int .i64 n,v] 26 false]=A
 have pA:H<+:A:=by rw [<- hA];exact List.prefix_append _ _
 have cA:A[H.length]?=some (.cells [.int .i64 n,v] 26 false):=by rw [<- hA];exact at_new ..
 have rA:=hr.pre pA
 simp (disch:=omega) only [ld_agg ag26 cs26 cA,SS,eq_self,reduceIte,reduceCtorEq,Nat.reduceEqDiff,Nat.reduceAdd]
 refine CallH.by (l2Good_c n v es A rA hl) ?_
 rintro _ B ⟨rfl,pB⟩
 have cB:=pre_at pB cA
 by_cases e:Grd n es
 rotate_left
 ·simp (disch:=omega) only [decide_eq_false e,SS,eq_self,reduceIte,reduceCtorEq,Nat.reduceEqDiff,Nat.reduceAdd]
  refine hQ _ _ _ ?_
  simp (disch:=omega) only [SS,eq_self,reduceIte,reduceCtorEq,Nat.reduceEqDiff,Nat.reduceAdd]
  refine ⟨?_,pA.trans pB⟩
  rw [decide_eq_false fun h:Grd n es/\0<n=>e h.1]
 simp (disch:=omega) only [decide_eq_true e,cell_of cB,SS,eq_self,reduceIte,reduceCtorEq,Nat.reduceEqDiff,Nat.reduceAdd]
 refine hQ _ _ _ ?_
 simp (disch:=omega) only [SS,eq_self,reduceIte,reduceCtorEq,Nat.reduceEqDiff,Nat.reduceAdd]
 refine ⟨?_,pA.trans pB⟩
 rw [Value.bool.injEq,decide_eq_decide]
 exact ⟨fun h=>⟨e,h⟩,fun h=>h.2⟩
def cd116:Cd:=(.seq (.reg [⟨⟨some 2,.box 26 (.tmp 0),none⟩,[]⟩,⟨⟨some 4,.assign (.const (.bool false)),none⟩,[]⟩]) (.seq (.reg [⟨⟨some 7,.move (.tmp 1),none⟩,[]⟩,⟨⟨some 8,.call ⟨(.builtin .len),#[.tmp 7],#[27]⟩,none⟩,[]⟩,⟨⟨some 9,.binOp .sub 3 (.tmp 8) (.const (.int .i64 1)) 3,none⟩,[]⟩,⟨⟨some 5,.assign (.tmp 9),none⟩,[]⟩]) (.seq (.reg [⟨⟨some 10,.fieldAddr 26 (.tmp 2) 1,none⟩,[]⟩,⟨⟨some 11,.load 24 (.tmp 10),none⟩,[]⟩,⟨⟨some 12,.move (.tmp 1),none⟩,[]⟩,⟨⟨some 13,.move (.tmp 5),none⟩,[]⟩,⟨⟨some 14,.indexAddr 27 (.tmp 12) (.tmp 13),none⟩,[]⟩,⟨⟨some 15,.load 3 (.tmp 14),none⟩,[]⟩,⟨⟨some 16,.indexAddr 24 (.tmp 11) (.tmp 15),none⟩,[]⟩,⟨⟨some 17,.load 115 (.tmp 16),none⟩,[]⟩,
 ⟨⟨some 6,.alloc 115,none⟩,[]⟩,⟨⟨none,.store 115 (.tmp 6) (.tmp 17),none⟩,[]⟩]) (.seq (.reg [⟨⟨some 18,.load 26 (.tmp 2),none⟩,[]⟩,⟨⟨some 19,.move (.tmp 1),none⟩,[]⟩,⟨⟨some 20,.move (.tmp 5),none⟩,[]⟩,⟨⟨some 21,.slice 27 (.tmp 19) none (some (.tmp 20)) none,none⟩,[]⟩,⟨⟨some 23,.indexAddr 115 (.tmp 6) (.const (.int .i64 0)),none⟩,[]⟩,⟨⟨some 24,.load 3 (.tmp 23),none⟩,[]⟩,⟨⟨some 26,.indexAddr 115 (.tmp 6) (.const (.int .i64 1)),none⟩,[]⟩,⟨⟨some 27,.load 3 (.tmp 26),none⟩,[]⟩,⟨⟨some 22,.call ⟨(.value (.func 121)),#[.tmp 18,.tmp 21],#[26,27]⟩,none⟩,[⟨some 27,.load 3 (.tmp 26),none⟩,⟨some 24,.load 3 (.tmp 23),none⟩]⟩,⟨⟨some 25,.call ⟨(.value (.func 84)),#[.tmp 22,.tmp 24],#[26,3]⟩,none⟩,[⟨some 27,.load 3 (.tmp 26),none⟩]⟩,⟨⟨some 28,.indexAddr 27 (.tmp 25) (.tmp 27),none⟩,[]⟩,
 ⟨⟨some 29,.load 3 (.tmp 28),none⟩,[]⟩,
  ⟨⟨some 30,.binOp .geq 3 (.tmp 29) (.const (.int .i64 0)) 3,none⟩,[]⟩,
  ⟨⟨some 4,.assign (.tmp 30),none⟩,[]⟩]) .ret))))
theorem in116:InT Tryz.prog 116 2 [.tmp 4] cd116:=InT.mk (by kernel_rfl) [(2,[(0,false),(1,false),(2,false),(3,false),(4,false),(5,false),(6,false),(7,false),(8,false),(9,true)]),(3,[(0,false),(1,false),(2,false),(3,false),(5,false),(6,false),(8,false),(9,false),(4,true),(7,true),(10,false),(11,false),(12,false),(13,false)])] Tryz.func116 rfl (by kernel_rfl) (by kernel_rfl) (of_decide_eq_true (by kernel_rfl)) (by kernel_rfl)
def cd130:Cd:=(.seq (.reg [⟨⟨some 4,.box 26 (.tmp 0),none⟩,[]⟩,⟨⟨some 8,.assign (.const (.slice none 0 0)),none⟩,[]⟩]) (.seq (.seq (.reg [⟨⟨some 11,.move (.tmp 1),none⟩,[]⟩,⟨⟨some 12,.call ⟨(.builtin .len),#[.tmp 11],#[27]⟩,none⟩,[]⟩,⟨⟨some 13,.fieldAddr 26 (.tmp 4) 0,none⟩,[]⟩,⟨⟨some 14,.load 3 (.tmp 13),none⟩,[]⟩,⟨⟨some 15,.binOp .sub 3 (.tmp 14) (.const (.int .i64 1)) 3,none⟩,[]⟩,⟨⟨some 16,.binOp .eql 3 (.tmp 12) (.tmp 15) 3,none⟩,[]⟩]) (.cond (.tmp 16) (.seq (.reg [⟨⟨some 17,.move (.tmp 3),none⟩,[]⟩,⟨⟨some 18,.move (.tmp 1),none⟩,[]⟩,⟨⟨some 19,.call ⟨(.value (.func 117)),#[.tmp 18],#[27]⟩,none⟩,[]⟩,⟨⟨some 20,.buildSlice 32 1 #[(0,.tmp 19)],none⟩,[]⟩,⟨⟨some 21,.call ⟨(.builtin .append),#[.tmp 17,.tmp 20],#[32,32]⟩,none⟩,[]⟩,⟨⟨some 8,.assign (.tmp 21),none⟩,[]⟩]) .ret) .skip)) (.seq (.seq (.reg [⟨⟨some 22,.move (.tmp 2),none⟩,[]⟩,
 ⟨⟨some 9,.assign (.tmp 22),none⟩,[]⟩]) (.block 0 (.loop (.seq (.seq (.reg [⟨⟨some 23,.move (.tmp 9),none⟩,[]⟩,⟨⟨some 24,.fieldAddr 26 (.tmp 4) 1,none⟩,[]⟩,⟨⟨some 25,.load 24 (.tmp 24),none⟩,[]⟩,⟨⟨some 26,.call ⟨(.builtin .len),#[.tmp 25],#[24]⟩,none⟩,[]⟩,⟨⟨some 27,.binOp .lss 3 (.tmp 23) (.tmp 26) 3,none⟩,[]⟩,⟨⟨some 28,.move (.tmp 27),none⟩,[]⟩,⟨⟨some 29,.move (.tmp 3),some (28,true)⟩,[]⟩,⟨⟨some 30,.call ⟨(.builtin .len),#[.tmp 29],#[32]⟩,some (28,true)⟩,[]⟩,⟨⟨some 31,.binOp .leq 3 (.tmp 30) (.const (.int .i64 300)) 3,some (28,true)⟩,[]⟩,⟨⟨some 32,.pick (.tmp 28) (.tmp 31) (.const (.bool false)),none⟩,[]⟩]) (.cond (.tmp 32) .skip (.exit 0))) (.seq (.block 1 (.seq (.reg [⟨⟨some 35,.move (.tmp 1),none⟩,[]⟩,⟨⟨some 36,.call ⟨(.value (.func 117)),#[.tmp 35],#[27]⟩,none⟩,[]⟩,⟨⟨some 37,.move (.tmp 9),none⟩,[]⟩,
 ⟨⟨some 38,.buildSlice 27 1 #[(0,.tmp 37)],none⟩,[]⟩,⟨⟨some 39,.call ⟨(.builtin .append),#[.tmp 36,.tmp 38],#[27,27]⟩,none⟩,[]⟩,⟨⟨some 10,.assign (.tmp 39),none⟩,[]⟩]) (.seq (.reg [⟨⟨some 40,.load 26 (.tmp 4),none⟩,[]⟩,⟨⟨some 41,.move (.tmp 10),none⟩,[]⟩,⟨⟨some 42,.call ⟨(.value (.func 116)),#[.tmp 40,.tmp 41],#[26,27]⟩,none⟩,[]⟩,⟨⟨some 43,.unOp .not 4 (.tmp 42),none⟩,[]⟩]) (.cond (.tmp 43) (.reg [⟨⟨some 44,.load 26 (.tmp 4),none⟩,[]⟩,⟨⟨some 45,.move (.tmp 10),none⟩,[]⟩,⟨⟨some 46,.move (.tmp 9),none⟩,[]⟩,⟨⟨some 47,.binOp .add 3 (.tmp 46) (.const (.int .i64 1)) 3,none⟩,[]⟩,⟨⟨some 48,.move (.tmp 3),none⟩,[]⟩,⟨⟨some 49,.call ⟨(.value (.func 130)),#[.tmp 44,.tmp 45,.tmp 47,.tmp 48],#[26,27,3,32]⟩,none⟩,[]⟩,⟨⟨some 3,.assign (.tmp 49),none⟩,[]⟩]) .skip)))) (.reg [⟨⟨some 33,.move (.tmp 9),none⟩,[]⟩,
 ⟨⟨some 34,.binOp .add 3 (.tmp 33) (.const (.int .i64 1)) 3,none⟩,[]⟩,
  ⟨⟨some 9,.assign (.tmp 34),none⟩,[]⟩])))))) (.seq (.reg [⟨⟨some 50,.move (.tmp 3),none⟩,[]⟩,
  ⟨⟨some 8,.assign (.tmp 50),none⟩,[]⟩]) .ret))))
theorem in130:InT Tryz.prog 130 4 [.tmp 8] cd130:=InT.mk (by kernel_rfl) [] Tryz.func130 rfl (by kernel_rfl) (by kernel_rfl) (of_decide_eq_true (by kernel_rfl)) (by kernel_rfl)
end Go.Proofs.YtlcipphiflcaiaaGreat.Ai
namespace Go.Proofs.YtlcipphiflcaiaaGreat.Ai
open Go Go.RowKit
theorem take_app (N:Nat)(a b c:List (List Int)):((a ++ b).take N ++ c).take N=(a ++ (b ++ c)).take N:=by
 rw [<- List.append_assoc]
 generalize a ++ b=d
 rw [List.take_append,List.take_append,List.take_take,Nat.min_self,List.length_take]
 by_cases h:N<=d.length
 ·rw [Nat.min_eq_left h,Nat.sub_self,Nat.sub_eq_zero_of_le h]
 ·rw [Nat.min_eq_right (by omega)]
theorem l7Closes_c (n:Nat)(v w:Value)(es:List (Int × Int))(T:List Int)(e:Int)(H:AH)(hr:RowP 115 H v es)(hg:Grd (n:Int) es)(hw:Row 3 H w (T ++ [e]))(hT:EdIn es T)(he:0<=e/\e<es.length)(hlen:T.length<=100) :
  ACalls Tryz.prog 116 [.agg (List.toArray [.int .i64 (n:Int),v]),w] H fun r H'=>r=.bool (jnB es n T (enA es e) (enB es e))/\H<+:H':=by
 have h28:es.length<=28:=grd_len hg
 have hn8:n<=8:=by have:=hg.1;omega
 have hee:=en_eq hg he
 have he2:e.toNat<es.length:=by omega
 have hl1:(T ++ [e]).length=T.length+1:=by simp
 have hw1:IntKind.i64.wrap (((T ++ [e]).length:Int) - 1)=(T.length:Int):=by rw [wrap64 (by omega) (by omega)];omega
 have hlast:(T ++ [e]).getD T.length 0=e:=by rw [List.getD_eq_getElem?_getD,List.getElem?_append_right (Nat.le_refl _)];simp
 refine in116 rfl ?_
 intro Q hQ
 simp (disch:=omega) only [cd116,hr.boxG,SS,eq_self,reduceIte,reduceCtorEq,Nat.reduceEqDiff,Nat.reduceAdd]
 generalize hA:H ++ [AObj.cells [.int .i64 n,v] 26 false]=A
 have pA:H<+:A:=by rw [<- hA];exact List.prefix_append _ _
 have cA:A[H.length]?=some (.cells [.int .i64 n,v] 26 false):=by rw [<- hA];exact at_new ..
 have rA:=hr.pre pA
 have wA:=hw.pre pA
 have cw:=wA.cell (show T.length<(T ++ [e]).length by omega)
 rw [hlast] at cw
 simp (disch:=omega) only [wA.len Tryz.underlying27,hw1,cell_of cA,wA.ix Tryz.underlying27 cs3,Int.toNat_natCast,cw,rA.ix Tryz.underlying24 cs115,rA.ld ag115 cs115 he2,SS,eq_self,reduceIte,reduceCtorEq,Nat.reduceEqDiff,Nat.reduceAdd]
 rw [hee.1]
 have st:=store_a2 A [.int .i64 0,.int .i64 0] rfl
 simp (disch:=omega) only [alloc_a2,st,SS,eq_self,reduceIte,reduceCtorEq,Nat.reduceEqDiff,Nat.reduceAdd]
 generalize hB:A ++ [AObj.cells [.int .i64 (enA es e:Int),.int .i64 (enB es e:Int)] 115 false]=B
 have pB:A<+:B:=by rw [<- hB];exact List.prefix_append _ _
 have cB:B[A.length]?=some (.cells [.int .i64 (enA es e:Int),.int .i64 (enB es e:Int)] 115 false):=by rw [<- hB];exact at_new ..
 have gB:=pre_at pB cA
 have wB:=wA.pre pB
 have rB:=rA.pre pB
 obtain ⟨a1,a2,a3⟩:=wB.slice (P:=Tryz.prog) (t:=27) Tryz.underlying27 cs3 lo_none (bound_some (k:=.i64) (i:=(T.length:Int)) (by omega) (T ++ [e]).length) (Nat.zero_le _) (by rw [Int.toNat_natCast];omega)
 rw [Int.toNat_natCast] at a1 a2 a3
 rw [List.drop_zero,Nat.sub_zero,List.take_append_of_le_length (Nat.le_refl _),List.take_length] at a2
 simp (disch:=omega) only [ld_agg ag26 cs26 gB,a1,cell_of cB,SS,eq_self,reduceIte,reduceCtorEq,Nat.reduceEqDiff,Nat.reduceAdd]
 refine CallH.by (l7Part_c n v _ es T B rB a2 hT (by omega)) ?_
 rintro _ C ⟨b,rfl,hb,pC⟩
 have cC:=pre_at pC cB
 simp (disch:=omega) only [cell_of cC,SS,eq_self,reduceIte,reduceCtorEq,Nat.reduceEqDiff,Nat.reduceAdd]
 refine CallH.by (l3Far_c n b (prtG es T) (enA es e) C hb.row (by rw [prt_len];omega) (by omega) (by omega)) ?_
 rintro u D ⟨hD,pD⟩
 rw [Int.toNat_natCast] at hD
 have bl:=(bfs_rng (roadsL n (prtG es T)) (roadsL_ok _ _) (enA es e) (by rw [roadsL_len];omega)).1
 rw [roadsL_len] at bl
 have cD:=pre_at pD cC
 have k0:=hD.row.cell (show enB es e<(bfs (roadsL n (prtG es T)) (enA es e)).length by rw [bl];omega)
 have hix:=hD.row.ix (P:=Tryz.prog) (t:=27) Tryz.underlying27 cs3 .i64 (i:=(enB es e:Int)) (by omega) (by rw [bl];omega)
 simp (disch:=omega) only [cell_of cD,hix,Int.toNat_natCast,k0,SS,eq_self,reduceIte,reduceCtorEq,Nat.reduceEqDiff,Nat.reduceAdd]
 refine hQ _ _ _ ?_
 simp (disch:=omega) only [SS,eq_self,reduceIte,reduceCtorEq,Nat.reduceEqDiff,Nat.reduceAdd]
 exact ⟨rfl,pA.trans (pB.trans (pC.trans pD))⟩
theorem l7Grow_c (n:Nat)(hn:1<=n)(v:Value)(es:List (Int × Int))(hg:Grd (n:Int) es)(lo:Nat):∀ (k:Nat) (w:Value) (T:List Int) (o:Nat) (us:List Value) (ls:List (List Int)) (H:AH),k<=es.length->Beg n es k T->RowP 115 H v es->Row 3 H w T ->
  Apart w (.slice (some ⟨o,0,none⟩) 0 0)->Apart v (.slice (some ⟨o,0,none⟩) 0 0)->InU lo H.length 27 3 H o us ls->ls.length<=300 ->
  ACalls Tryz.prog 130 [.agg (List.toArray [.int .i64 (n:Int),v]),w,.int .i64 ((es.length - k:Nat):Int),.slice (some ⟨o,0,none⟩) ls.length ls.length] H fun r H'=>∃ o' us',r=.slice (some ⟨o',0,none⟩) ((ls ++ grA es n k T).take 301).length ((ls ++ grA es n k T).take 301).length/\InU lo H'.length 27 3 H' o' us' ((ls ++ grA es n k T).take 301) /\
   (∀ (j:Nat) (y:AObj),j ≠ o->H[j]?=some y->H'[j]?=some y)/\H.length<=H'.length/\(o'=o∨H.length<=o'):=by
 have h28:es.length<=28:=grd_len hg
 have hn8:n<=8:=by have:=hg.1;omega
 intro k
 induction k using Nat.strongRecOn with
 | ind k ih =>
 intro w T o us ls H hk hT hr hw haw hav hin hls
 have hlo:=hin.1
 have hlo2:=hin.2.1
 have hTl:=hT.len
 have hw1:IntKind.i64.wrap ((n:Int) - 1)=(n:Int) - 1:=wrap64 (by omega) (by omega)
 refine in130 rfl ?_
 intro Q hQ
 simp (disch:=omega) only [cd130,hr.boxG,SS,eq_self,reduceIte,reduceCtorEq,Nat.reduceEqDiff,Nat.reduceAdd]
 generalize hA:H ++ [AObj.cells [.int .i64 ↑n,v] 26 false]=A
 have pA:H<+:A:=by rw [<- hA];exact List.prefix_append _ _
 have cA:A[H.length]?=some (.cells [.int .i64 ↑n,v] 26 false):=by rw [<- hA];exact at_new ..
 have rA:=hr.pre pA
 have lA:A.length=H.length+1:=by rw [<- hA];simp
 simp (disch:=omega) only [cell_of cA,(hw.pre pA).len Tryz.underlying27,hw1,SS,eq_self,reduceIte,reduceCtorEq,Nat.reduceEqDiff,Nat.reduceAdd]
 refine brD.intro (fun g=>?_) (fun g=>?_)
 ·have hfull:T.length+1=n:=by omega
  simp (disch:=omega) only [SS,eq_self,reduceIte,reduceCtorEq,Nat.reduceEqDiff,Nat.reduceAdd]
  refine CallH.by (l1Own_c w T A (hw.pre pA) (by omega)) ?_
  rintro c C ⟨hc,pC⟩
  have hinw:=InI.of hc.mine
  have hinC:=(hin.pre (pA.trans pC)).wide (Nat.le_refl _) pA.length_le
  obtain ⟨H3,k1,k2,k3,k4⟩:=hinC.app1 (P:=Tryz.prog) (t2:=32) Tryz.underlying32 cs27 (by rw [by27];decide) zk27 hinw (by have:=pA.length_le;omega) pC.length_le (Nat.le_refl _) (by omega)
  simp (disch:=omega) only [bsRow hc.row C,k1,SS,eq_self,reduceIte,reduceCtorEq,Nat.reduceEqDiff,Nat.reduceAdd]
  refine hQ _ _ _ ?_
  simp (disch:=omega) only [SS,eq_self,reduceIte,reduceCtorEq,Nat.reduceEqDiff,Nat.reduceAdd]
  have e:(ls ++ grA es n k T).take 301=ls ++ [T]:=by rw [grA_full hfull,List.take_of_length_le (by simp;omega)]
  have hl1:=pA.length_le
  have hl2:=pC.length_le
  rw [e]
  refine ⟨C.length+1,us.take ls.length ++ [c],by simp,by rw [k3];exact k2,fun j y hj hy=>k4 j y hj (pre_at (pA.trans pC) hy),by omega,by omega⟩
 have hnf:T.length+1 ≠ n:=fun q=>g (by omega)
 simp (disch:=omega) only [SS,eq_self,reduceIte,reduceCtorEq,Nat.reduceEqDiff,Nat.reduceAdd]
 refine LoopH.by (fun m s H'=>∃ (o':Nat) (us':List Value) (ls':List (List Int)),m<=k/\s 1=w/\s 3=.slice (some ⟨o',0,none⟩) ls'.length ls'.length/\s 4=.pointer (some ⟨H.length,0,none⟩)/\s 9=.int .i64 ((es.length - m:Nat):Int) /\
   (ls' ++ grA es n m T).take 301=(ls ++ grA es n k T).take 301/\ls'.length<=301/\Beg n es m T/\InU lo H'.length 27 3 H' o' us' ls'/\(o'=o∨A.length<=o')/\(∀ (j:Nat) (y:AObj),j ≠ o->A[j]?=some y->H'[j]?=some y)/\A.length<=H'.length) k ?_ ?_
 ·exact ⟨o,us,ls,Nat.le_refl _,rfl,rfl,rfl,rfl,rfl,by omega,hT,(hin.pre pA).wide (Nat.le_refl _) pA.length_le,.inl rfl,fun j y _ hy=>hy,Nat.le_refl _⟩
 rintro m s H' ⟨o',us',ls',hm,h1,h3,h4,h9,hE,hl',hB,hin',ho',hk',hAl⟩
 have hkA:Kept (.slice (some ⟨o,0,none⟩) 0 0) A H':=fun j y hj hy=>by
  rcases hj with hj | hj
  ·cases hj
  ·exact hk' j y hj hy
 have hw':Row 3 H' w T:=(hw.pre pA).kept haw hkA
 have hr':RowP 115 H' v es:=(hr.pre pA).kept hav hkA
 have cH':H'[H.length]?=some (.cells [.int .i64 (n:Int),v] 26 false):=hk' _ _ (by omega) cA
 have done:(ls' ++ grA es n m T).take 301=ls'->∃ o2 us',Value.slice (some ⟨o',0,none⟩) ls'.length ls'.length=.slice (some ⟨o2,0,none⟩) ((ls ++ grA es n k T).take 301).length ((ls ++ grA es n k T).take 301).length/\InU lo H'.length 27 3 H' o2 us' ((ls ++ grA es n k T).take 301) /\
   (∀ (j:Nat) (y:AObj),j ≠ o->H[j]?=some y->H'[j]?=some y)/\H.length<=H'.length/\(o2=o∨H.length<=o2):=by
  intro e
  rw [e] at hE
  rw [<- hE]
  exact ⟨o',us',rfl,hin',fun j y hj hy=>hk' j y hj (pre_at pA hy),by omega,by omega⟩
 simp (disch:=omega) only [h1,h3,h4,h9,cell_of cH',hr'.len Tryz.underlying24,SS,eq_self,reduceIte,reduceCtorEq,Nat.reduceEqDiff,Nat.reduceAdd]
 refine brD.intro (fun g1=>?_) (fun g1=>?_)
 rotate_left
 ·have hm0:m=0:=by omega
  subst hm0
  simp (disch:=omega) only [g1,h3,SS,eq_self,reduceIte,reduceCtorEq,Nat.reduceEqDiff,Nat.reduceAdd]
  refine hQ _ _ _ ?_
  simp (disch:=omega) only [h3,SS,eq_self,reduceIte,reduceCtorEq,Nat.reduceEqDiff,Nat.reduceAdd]
  refine done ?_
  rw [grA,if_neg hnf,List.append_nil,List.take_of_length_le hl']
 simp (disch:=omega) only [g1,h1,h3,h4,h9,SS,eq_self,reduceIte,reduceCtorEq,Nat.reduceEqDiff,Nat.reduceAdd]
 refine brD.intro (fun g2=>?_) (fun g2=>?_)
 rotate_left
 ·simp (disch:=omega) only [g1,g2,h3,SS,eq_self,reduceIte,reduceCtorEq,Nat.reduceEqDiff,Nat.reduceAdd]
  refine hQ _ _ _ ?_
  simp (disch:=omega) only [h3,SS,eq_self,reduceIte,reduceCtorEq,Nat.reduceEqDiff,Nat.reduceAdd]
  refine done ?_
  have:ls'.length=301:=by omega
  rw [<- this,List.take_append_of_le_length (Nat.le_refl _),List.take_length]
 obtain ⟨d,rfl⟩:∃ d,m=d+1:=⟨m - 1,by omega⟩
 have hee:(0:Int)<=((es.length - (d+1):Nat):Int)/\((es.length - (d+1):Nat):Int)<es.length:=by omega
 have hed:((es.length - (d+1):Nat):Int)+1=((es.length - d:Nat):Int):=by omega
 rw [grA,if_neg hnf] at hE
 have hsnoc:=fun hj=>hB.snoc hg (by omega) hnf hj
 generalize hX:((es.length - (d+1):Nat):Int)=x at *
 have hw2:IntKind.i64.wrap (x+1)=((es.length - d:Nat):Int):=by rw [wrap64 (by omega) (by omega)];exact hed
 simp (disch:=omega) only [g1,g2,h1,h3,h4,h9,SS,eq_self,reduceIte,reduceCtorEq,Nat.reduceEqDiff,Nat.reduceAdd]
 refine CallH.by (l1Own_c w T H' hw' (by omega)) ?_
 rintro c C ⟨hc,pC⟩
 obtain ⟨c2,D,a1,a2,a3,a4,a5,a6⟩:=own1_27 hc pC (by omega) x
 have cD:=pre_at a3 cH'
 have rD:=hr'.pre a3
 have hpD:=a3.length_le
 simp (disch:=omega) only [a1,h1,h3,h4,h9,ld_agg ag26 cs26 cD,SS,eq_self,reduceIte,reduceCtorEq,Nat.reduceEqDiff,Nat.reduceAdd]
 refine CallH.by (l7Closes_c n v c2 es T x D rD hg a2.row hB.ed hee (by omega)) ?_
 rintro _ E ⟨rfl,pE⟩
 have pHE:=a3.trans pE
 have lHE:=pHE.length_le
 have lDE:=pE.length_le
 have keepE:∀ (j:Nat) (y:AObj),j ≠ o->A[j]?=some y->E[j]?=some y:=fun j y hj hy=>pre_at pHE (hk' j y hj hy)
 have inE:InU lo E.length 27 3 E o' us' ls':=(hin'.pre pHE).wide (Nat.le_refl _) lHE
 have hoo:=hin'.2.1
 by_cases hj:jnB es n T (enA es x) (enB es x)=true
 ·rw [if_pos hj,List.nil_append] at hE
  rw [hj]
  simp (disch:=omega) only [h1,h3,h4,h9,hw2,SS,eq_self,reduceIte,reduceCtorEq,Nat.reduceEqDiff,Nat.reduceAdd]
  have f1:=hB.skip
  refine ⟨d,by omega,o',us',ls',?_⟩
  (repeat' first | exact hE | exact f1 | exact inE | exact ho' | exact keepE | apply And.intro) <;> first | (simp only [Value.int.injEq,true_and];omega) | omega | rfl | assumption | (simp;done) | (simp;omega)
 ·rw [if_neg hj] at hE
  have hj':jnB es n T (enA es x) (enB es x)=false:=by simpa using hj
  rw [hj']
  have cE:=pre_at pE cD
  have a2E:=a2.row.pre pE
  have ap1:Apart c2 (.slice (some ⟨o',0,none⟩) 0 0):=by
   rcases a2 with ⟨q,_⟩ | ⟨oc,q1,q2,q3⟩
   ·exact .inr (.inl q)
   ·refine .inr (.inr ?_)
    rw [q1]
    show oc ≠ o'
    omega
  have ap2:Apart v (.slice (some ⟨o',0,none⟩) 0 0):=by
   rcases ho' with q | q
   ·rw [q];exact hav
   ·rcases (hr.pre pA).nil with z | z
    ·exact .inr (.inl z.1)
    ·refine .inr (.inr ?_)
     show rowO v ≠ o'
     omega
  have ap3:Apart w (.slice (some ⟨o',0,none⟩) 0 0):=by
   rcases ho' with q | q
   ·rw [q];exact haw
   ·rcases (hw.pre pA).nil with z | z
    ·exact .inr (.inl z.1)
    ·refine .inr (.inr ?_)
     show rowO w ≠ o'
     omega
  simp (disch:=omega) only [h1,h3,h4,h9,ld_agg ag26 cs26 cE,hw2,SS,eq_self,reduceIte,reduceCtorEq,Nat.reduceEqDiff,Nat.reduceAdd]
  refine CallH.by (ih d (by omega) c2 (T ++ [x]) o' us' ls' E (by omega) (hsnoc hj) (rD.pre pE) a2E ap1 ap2 inE (by omega)) ?_
  rintro _ F ⟨o2,us2,rfl,f1,f2,f3,f4⟩
  simp (disch:=omega) only [h1,h3,h4,h9,hw2,SS,eq_self,reduceIte,reduceCtorEq,Nat.reduceEqDiff,Nat.reduceAdd]
  have e1:((ls' ++ grA es n d (T ++ [x])).take 301 ++ grA es n d T).take 301=(ls ++ grA es n k T).take 301:=by rw [take_app];exact hE
  have e2:((ls' ++ grA es n d (T ++ [x])).take 301).length<=301:=by rw [List.length_take];omega
  have e3:=hB.skip
  have e4:o2=o∨A.length<=o2:=by
   rcases f4 with q | q
   ·rw [q];exact ho'
   ·exact .inr (by omega)
  have e5:∀ (j:Nat) (y:AObj),j ≠ o->A[j]?=some y->F[j]?=some y:=fun j y hj hy=>by
   refine f2 j y (fun e=>?_) (keepE j y hj hy)
   rcases ho' with q | q
   ·exact hj (by omega)
   ·have:=at_lt hy;omega
  refine ⟨d,by omega,o2,us2,(ls' ++ grA es n d (T ++ [x])).take 301,?_⟩
  (repeat' first | exact e1 | exact e2 | exact e3 | exact f1 | exact e4 | exact e5 | apply And.intro) <;> first | (simp only [Value.int.injEq,true_and];omega) | omega | rfl | assumption | (simp;done) | (simp;omega)
def cd60:Cd:=(.seq (.reg [⟨⟨some 1,.box 26 (.tmp 0),none⟩,[]⟩,
 ⟨⟨some 2,.assign (.const (.slice none 0 0)),none⟩,[]⟩]) (.seq (.reg [⟨⟨some 4,.load 26 (.tmp 1),none⟩,[]⟩,
 ⟨⟨some 5,.buildSlice 27 0 #[],none⟩,[]⟩,
 ⟨⟨some 6,.buildSlice 32 0 #[],none⟩,[]⟩,
 ⟨⟨some 7,.call ⟨(.value (.func 130)),#[.tmp 4,.tmp 5,(.const (.int .i64 0)),.tmp 6],#[26,27,3,32]⟩,none⟩,[]⟩,
 ⟨⟨some 3,.assign (.tmp 7),none⟩,[]⟩]) (.seq (.seq (.reg [⟨⟨some 8,.move (.tmp 3),none⟩,[]⟩,
 ⟨⟨some 9,.call ⟨(.builtin .len),#[.tmp 8],#[32]⟩,none⟩,[]⟩,
 ⟨⟨some 10,.binOp .gtr 3 (.tmp 9) (.const (.int .i64 300)) 3,none⟩,[]⟩]) (.cond (.tmp 10) (.seq (.reg [⟨⟨some 11,.buildSlice 32 0 #[],none⟩,[]⟩,
 ⟨⟨some 2,.assign (.tmp 11),none⟩,[]⟩]) .ret) .skip)) (.seq (.reg [⟨⟨some 12,.move (.tmp 3),none⟩,[]⟩,
 ⟨⟨some 2,.assign (.tmp 12),none⟩,[]⟩]) .ret))))
theorem in60:InT Tryz.prog 60 1 [.tmp 2] cd60:=InT.mk (by kernel_rfl) [] Tryz.func60 rfl (by kernel_rfl) (by kernel_rfl) (of_decide_eq_true (by kernel_rfl)) (by kernel_rfl)
end Go.Proofs.YtlcipphiflcaiaaGreat.Ai
namespace Go.Proofs.YtlcipphiflcaiaaGreat.Ai
open Go Go.RowKit
def trsR (n:Nat)(es:List (Int × Int)):List (List Int):=if 300<(treA n es).length then [] else treA n es
theorem l7Trees_c (n:Nat)(hn:1<=n)(v:Value)(es:List (Int × Int))(H:AH)(hr:RowP 115 H v es)(hg:Grd (n:Int) es) :
  ACalls Tryz.prog 60 [.agg (List.toArray [.int .i64 (n:Int),v])] H fun r H'=>∃ o us,r=.slice (some ⟨o,0,none⟩) (trsR n es).length (trsR n es).length/\InU H.length H'.length 27 3 H' o us (trsR n es)/\H<+:H':=by
 have h28:es.length<=28:=grd_len hg
 refine in60 rfl ?_
 intro Q hQ
 simp (disch:=omega) only [cd60,hr.boxG,SS,eq_self,reduceIte,reduceCtorEq,Nat.reduceEqDiff,Nat.reduceAdd]
 generalize hA:H ++ [AObj.cells [.int .i64 ↑n,v] 26 false]=A
 have pA:H<+:A:=by rw [<- hA];exact List.prefix_append _ _
 have cA:A[H.length]?=some (.cells [.int .i64 ↑n,v] 26 false):=by rw [<- hA];exact at_new ..
 have rA:=hr.pre pA
 have lA:A.length=H.length+1:=by rw [<- hA];simp
 generalize hB:A ++ [AObj.cells [] 3 false]=B
 have pB:A<+:B:=by rw [<- hB];exact List.prefix_append _ _
 have lB:B.length=A.length+1:=by rw [<- hB];simp
 have cB:=pre_at pB cA
 have wB:Row 3 B (.slice (some ⟨A.length,0,none⟩) 0 0) []:=.inr ⟨A.length,0,[],false,rfl,by rw [<- hB];exact at_new ..,by simp,rfl⟩
 generalize hC:B ++ [AObj.cells [] 27 false]=C
 have pC:B<+:C:=by rw [<- hC];exact List.prefix_append _ _
 have lC:C.length=B.length+1:=by rw [<- hC];simp
 have u0:InU H.length C.length 27 3 C B.length [] []:=by
  have:=InU.new H.length 27 3 B (by omega)
  rw [hC] at this
  exact this.wide (Nat.le_refl _) (by omega)
 have cC:=pre_at pC cB
 have rC:=rA.pre (pB.trans pC)
 have z0:((es.length - es.length:Nat):Int)=0:=by rw [Nat.sub_self];rfl
 have hcall:=l7Grow_c n hn v es hg H.length es.length (.slice (some ⟨A.length,0,none⟩) 0 0) [] B.length [] [] C (Nat.le_refl _) (Beg.nil hn es) rC (wB.pre pC) (.inr (.inr (by show A.length ≠ B.length;omega))) (by
  rcases rA.nil with q | q
  ·exact .inr (.inl q.1)
  ·refine .inr (.inr ?_)
   show rowO v ≠ B.length
   omega) u0 (by simp)
 rw [z0] at hcall
 simp (disch:=omega) only [ld_agg ag26 cs26 cA,hB,hC,ld_agg ag26 cs26 cB,ld_agg ag26 cs26 cC,SS,eq_self,reduceIte,reduceCtorEq,Nat.reduceEqDiff,Nat.reduceAdd]
 refine CallH.by hcall ?_
 rintro _ D ⟨o,us,rfl,d1,d2,d3,d4⟩
 rw [List.nil_append] at d1 ⊢
 have hp:H<+:D:=prefix_of fun j y hy=>d2 j y (by have:=at_lt hy;omega) (pre_at (pA.trans (pB.trans pC)) hy)
 have hlen:((grA es n es.length []).take 301).length=min 301 (treA n es).length:=List.length_take
 have hlen2:(((grA es n es.length []).take 301).length:Int) > 300↔300<(treA n es).length:=by omega
 simp (disch:=omega) only [SS,eq_self,reduceIte,reduceCtorEq,Nat.reduceEqDiff,Nat.reduceAdd]
 refine brD.intro (fun g=>?_) (fun g=>?_)
 ·have hR:trsR n es=[]:=by unfold trsR;rw [if_pos (by omega)]
  have:=InU.new H.length 27 3 D hp.length_le
  simp (disch:=omega) only [SS,eq_self,reduceIte,reduceCtorEq,Nat.reduceEqDiff,Nat.reduceAdd]
  refine hQ _ _ _ ?_
  simp (disch:=omega) only [SS,eq_self,reduceIte,reduceCtorEq,Nat.reduceEqDiff,Nat.reduceAdd]
  rw [hR]
  exact ⟨D.length,[],rfl,this.wide (Nat.le_refl _) (by simp),pre_app hp _⟩
 ·have hR:trsR n es=(grA es n es.length []).take 301:=by
   unfold trsR
   rw [if_neg (by omega),List.take_of_length_le (show (grA es n es.length []).length<=301 by have:treA n es=grA es n es.length []:=rfl;rw [<- this];omega)]
   rfl
  rw [<- hR] at d1
  simp (disch:=omega) only [SS,eq_self,reduceIte,reduceCtorEq,Nat.reduceEqDiff,Nat.reduceAdd]
  refine hQ _ _ _ ?_
  simp (disch:=omega) only [SS,eq_self,reduceIte,reduceCtorEq,Nat.reduceEqDiff,Nat.reduceAdd]
  rw [hR]
  rw [hR] at d1
  exact ⟨o,us,rfl,d1,hp⟩
theorem trsR_tree {n:Nat}(hn:1<=n){es:List (Int × Int)}(hg:Grd (n:Int) es):∀ U ∈ trsR n es,TreL n es U:=fun U hU=>by
 unfold trsR at hU
 split at hU
 ·simp at hU
 ·exact (treA_iff hn hg U).1 hU
def cd14:Cd:=(.seq (.reg [⟨⟨some 1,.box 26 (.tmp 0),none⟩,[]⟩,⟨⟨some 2,.assign (.const (.slice none 0 0)),none⟩,[]⟩,⟨⟨some 3,.assign (.const (.bool false)),none⟩,[]⟩]) (.seq (.seq (.reg [⟨⟨some 6,.load 26 (.tmp 1),none⟩,[]⟩,⟨⟨some 7,.call ⟨(.value (.func 64)),#[.tmp 6],#[26]⟩,none⟩,[]⟩,⟨⟨some 8,.unOp .not 4 (.tmp 7),none⟩,[]⟩,⟨⟨some 9,.move (.tmp 8),none⟩,[]⟩,⟨⟨some 10,.fieldAddr 26 (.tmp 1) 0,some (9,false)⟩,[]⟩,⟨⟨some 11,.load 3 (.tmp 10),some (9,false)⟩,[]⟩,⟨⟨some 12,.binOp .eql 3 (.tmp 11) (.const (.int .i64 0)) 3,some (9,false)⟩,[]⟩,⟨⟨some 13,.pick (.tmp 9) (.const (.bool true)) (.tmp 12),none⟩,[]⟩]) (.cond (.tmp 13) (.seq (.reg [⟨⟨some 2,.assign (.const (.slice none 0 0)),none⟩,[]⟩,⟨⟨some 3,.assign (.const (.bool false)),none⟩,[]⟩]) .ret) .skip)) (.seq (.reg [⟨⟨some 15,.load 26 (.tmp 1),none⟩,[]⟩,⟨⟨some 16,.call ⟨(.value (.func 54)),#[.tmp 15],#[26]⟩,none⟩,[]⟩,
 ⟨⟨some 14,.move (.tmp 16),none⟩,[]⟩,
  ⟨⟨some 17,.extract (.tmp 14) 0,none⟩,[]⟩,
  ⟨⟨some 18,.extract (.tmp 14) 1,none⟩,[]⟩,
  ⟨⟨some 4,.assign (.tmp 17),none⟩,[]⟩,
  ⟨⟨some 5,.assign (.tmp 18),none⟩,[]⟩]) (.seq (.seq (.reg [⟨⟨some 19,.move (.tmp 5),none⟩,[]⟩,
  ⟨⟨some 20,.unOp .not 4 (.tmp 19),none⟩,[]⟩]) (.cond (.tmp 20) (.seq (.reg [⟨⟨some 2,.assign (.const (.slice none 0 0)),none⟩,[]⟩,
  ⟨⟨some 3,.assign (.const (.bool false)),none⟩,[]⟩]) .ret) .skip)) (.seq (.reg [⟨⟨some 21,.move (.tmp 4),none⟩,[]⟩,
  ⟨⟨some 2,.assign (.tmp 21),none⟩,[]⟩,
  ⟨⟨some 3,.assign (.const (.bool true)),none⟩,[]⟩]) .ret)))))
theorem in14:InT Tryz.prog 14 1 [.tmp 2,.tmp 3] cd14:=InT.mk (by kernel_rfl) [] Tryz.func14 rfl (by kernel_rfl) (by kernel_rfl) (of_decide_eq_true (by kernel_rfl)) (by kernel_rfl)
end Go.Proofs.YtlcipphiflcaiaaGreat.Ai
namespace Go.Proofs.YtlcipphiflcaiaaGreat.Ai
open Go Go.RowKit
theorem isJumpG_c (v w:Value)(xs ys:List Int)(H:AH)(hr:Row 3 H v xs)(hs:Row 3 H w ys)(hlx:xs.length<=28)(hly:ys.length<=28)(hx:∀ x ∈ xs,0<=x/\x<28)(hy:∀ x ∈ ys,0<=x/\x<28)(hpx:xs.Pairwise (· < ·))(hpy:ys.Pairwise (· < ·)) :
  ACalls Tryz.prog 59 [v,w] H fun r H'=>r=.bool (jmpB xs ys)/\H=H':=by
 refine in59 rfl ?_
 intro Q hQ
 simp (disch:=omega) only [cd59,SS,eq_self,reduceIte,reduceCtorEq,Nat.reduceEqDiff,Nat.reduceAdd]
 refine CallH.by (moves_c v w xs ys H hr hs (by omega) (by omega) (fun x h=>by have:=hx x h;omega) (fun x h=>by have:=hy x h;omega)) ?_
 rintro _ _ ⟨a,b,rfl,ha,hb,rfl⟩
 have la:=List.length_filter_le (fun e=>!decide (e ∈ ys)) xs
 have lb:=List.length_filter_le (fun e=>!decide (e ∈ xs)) ys
 have ea:=popc_len2 ⟨Nat.lt_of_lt_of_le ha.1 (by decide),ha.2⟩ (hpx.filter _) (fun x h=>hx x (List.mem_filter.1 h).1)
 have eb:=popc_len2 ⟨Nat.lt_of_lt_of_le hb.1 (by decide),hb.2⟩ (hpy.filter _) (fun x h=>hy x (List.mem_filter.1 h).1)
 simp (disch:=omega) only [SS,eq_self,reduceIte,reduceCtorEq,Nat.reduceEqDiff,Nat.reduceAdd]
 refine CallH.by (size_c a H (Nat.lt_of_lt_of_le ha.1 (by decide))) ?_
 rintro _ _ ⟨rfl,rfl⟩
 rw [ea]
 by_cases h1:(xs.filter fun e=>!decide (e ∈ ys)).length=1
 ·have h1':(((xs.filter fun e=>!decide (e ∈ ys)).length:Nat):Int)=1:=by omega
  simp (disch:=omega) only [decide_eq_true h1',SS,eq_self,reduceIte,reduceCtorEq,Nat.reduceEqDiff,Nat.reduceAdd]
  refine CallH.by (size_c b H (Nat.lt_of_lt_of_le hb.1 (by decide))) ?_
  rintro _ _ ⟨rfl,rfl⟩
  rw [eb]
  simp (disch:=omega) only [SS,eq_self,reduceIte,reduceCtorEq,Nat.reduceEqDiff,Nat.reduceAdd]
  refine hQ _ _ _ ?_
  simp (disch:=omega) only [SS,eq_self,reduceIte,reduceCtorEq,Nat.reduceEqDiff,Nat.reduceAdd]
  unfold jmpB
  rw [decide_eq_true h1,Bool.true_and]
  by_cases h2:(ys.filter fun e=>!decide (e ∈ xs)).length=1
  ·rw [decide_eq_true h2,decide_eq_true (show (((ys.filter fun e=>!decide (e ∈ xs)).length:Nat):Int)=1 by omega)]
  ·rw [decide_eq_false h2,decide_eq_false (show ¬ (((ys.filter fun e=>!decide (e ∈ xs)).length:Nat):Int)=1 by omega)]
 ·have h1':¬ (((xs.filter fun e=>!decide (e ∈ ys)).length:Nat):Int)=1:=by omega
  simp (disch:=omega) only [decide_eq_false h1',SS,eq_self,reduceIte,reduceCtorEq,Nat.reduceEqDiff,Nat.reduceAdd]
  refine hQ _ _ _ ?_
  simp (disch:=omega) only [SS,eq_self,reduceIte,reduceCtorEq,Nat.reduceEqDiff,Nat.reduceAdd]
  unfold jmpB
  rw [decide_eq_false h1,Bool.false_and]
def TsOk (n:Int)(es:List (Int × Int)):Prop:=(Grd n es/\0<n)/\0<(treA n.toNat es).length/\(treA n.toNat es).length<=300
instance (n:Int) (es:List (Int × Int)):Decidable (TsOk n es):=by unfold TsOk;infer_instance
def tsL (n:Int)(es:List (Int × Int)):List (List Int):=if TsOk n es then treA n.toNat es else []
theorem SpanI_c (n:Int)(v:Value)(es:List (Int × Int))(H:AH)(hr:RowP 115 H v es)(hlen:es.length<=1099511627776)(hn:I64 n) :
  ACalls Tryz.prog 14 [.agg (List.toArray [.int .i64 n,v])] H fun r H'=>∃ a,r=.tuple (List.toArray [a,.bool (decide (TsOk n es))])/\InL H.length H'.length 27 3 H' a (tsL n es)/\H<+:H':=by
 refine in14 rfl ?_
 intro Q hQ
 simp (disch:=omega) only [cd14,hr.boxG,SS,eq_self,reduceIte,reduceCtorEq,Nat.reduceEqDiff,Nat.reduceAdd]
 generalize hA:H ++ [AObj.cells [.int .i64 n,v] 26 false]=A
 have pA:H<+:A:=by rw [<- hA];exact List.prefix_append _ _
 have cA:A[H.length]?=some (.cells [.int .i64 n,v] 26 false):=by rw [<- hA];exact at_new ..
 have rA:=hr.pre pA
 simp (disch:=omega) only [ld_agg ag26 cs26 cA,SS,eq_self,reduceIte,reduceCtorEq,Nat.reduceEqDiff,Nat.reduceAdd]
 refine CallH.by (IsGraph_c n v es A rA (by omega)) ?_
 rintro _ B ⟨rfl,pB⟩
 have cB:=pre_at pB cA
 have pHB:=pA.trans pB
 have no:∀ {G:AH},H<+:G->¬ TsOk n es->∃ a,Value.tuple (List.toArray [.slice none 0 0,.bool false])=.tuple (List.toArray [a,.bool (decide (TsOk n es))])/\InL H.length G.length 27 3 G a (tsL n es)/\H<+:G:=by
  intro G pG h
  refine ⟨_,by rw [decide_eq_false h],?_,pG⟩
  have:tsL n es=[]:=if_neg h
  rw [this];exact .inl ⟨rfl,rfl⟩
 by_cases e:Grd n es
 rotate_left
 ·simp (disch:=omega) only [decide_eq_false e,SS,eq_self,reduceIte,reduceCtorEq,Nat.reduceEqDiff,Nat.reduceAdd]
  refine hQ _ _ _ ?_
  simp (disch:=omega) only [SS,eq_self,reduceIte,reduceCtorEq,Nat.reduceEqDiff,Nat.reduceAdd]
  exact no pHB fun h=>e h.1.1
 by_cases e0:n=0
 ·simp (disch:=omega) only [decide_eq_true e,cell_of cB,decide_eq_true e0,SS,eq_self,reduceIte,reduceCtorEq,Nat.reduceEqDiff,Nat.reduceAdd]
  refine hQ _ _ _ ?_
  simp (disch:=omega) only [SS,eq_self,reduceIte,reduceCtorEq,Nat.reduceEqDiff,Nat.reduceAdd]
  exact no pHB fun h=>by have:=h.1.2;omega
 have h8:=e.1
 obtain ⟨N,rfl⟩:∃ N:Nat,n=N:=⟨n.toNat,by omega⟩
 simp (disch:=omega) only [decide_eq_true e,cell_of cB,decide_eq_false e0,ld_agg ag26 cs26 cB,SS,eq_self,reduceIte,reduceCtorEq,Nat.reduceEqDiff,Nat.reduceAdd]
 refine CallH.by (trees_c N (by omega) v es B (rA.pre pB) e) ?_
 rintro _ C ⟨a,rfl,hL,pC⟩
 have hiff:(decide ((treA N es).length<=300) && decide (0<(treA N es).length))=decide (TsOk (N:Int) es):=by
  rw [Bool.eq_iff_iff,Bool.and_eq_true,decide_eq_true_eq,decide_eq_true_eq,decide_eq_true_eq]
  unfold TsOk
  rw [Int.toNat_natCast]
  exact ⟨fun h=>⟨⟨e,by omega⟩,h.2,h.1⟩,fun h=>⟨h.2.2,h.2.1⟩⟩
 rw [hiff]
 by_cases ok:TsOk (N:Int) es
 ·have hl:=ok.2.2
  rw [Int.toNat_natCast] at hl
  have e301:(treA N es).take 301=treA N es:=List.take_of_length_le (by omega)
  rw [e301] at hL
  have hat:=hL.row
  obtain ⟨us,r1,_,_,_⟩:=hat
  have htp:=r1.tup
  simp (disch:=omega) only [decide_eq_true ok,htp,SS,eq_self,reduceIte,reduceCtorEq,Nat.reduceEqDiff,Nat.reduceAdd]
  refine hQ _ _ _ ?_
  simp (disch:=omega) only [htp,SS,eq_self,reduceIte,reduceCtorEq,Nat.reduceEqDiff,Nat.reduceAdd]
  refine ⟨a,by rw [decide_eq_true ok],?_,pHB.trans pC⟩
  have:tsL (N:Int) es=treA N es:=by unfold tsL;rw [if_pos ok,Int.toNat_natCast]
  rw [this]
  exact hL.wide pHB.length_le (Nat.le_refl _)
 ·simp (disch:=omega) only [decide_eq_false ok,SS,eq_self,reduceIte,reduceCtorEq,Nat.reduceEqDiff,Nat.reduceAdd]
  refine hQ _ _ _ ?_
  simp (disch:=omega) only [SS,eq_self,reduceIte,reduceCtorEq,Nat.reduceEqDiff,Nat.reduceAdd]
  exact no (pHB.trans pC) ok
def cd61:Cd:=(.seq (.reg [⟨⟨some 4,.assign (.const (.int .i64 0)),none⟩,[]⟩]) (.seq (.reg [⟨⟨some 5,.assign (.const (.int .i64 0)),none⟩,[]⟩]) (.seq (.seq (.reg [⟨⟨some 6,.assign (.const (.int .i64 0)),none⟩,[]⟩]) (.block 0 (.loop (.seq (.seq (.reg [⟨⟨some 7,.move (.tmp 6),none⟩,[]⟩,⟨⟨some 8,.move (.tmp 1),none⟩,[]⟩,⟨⟨some 9,.call ⟨(.builtin .len),#[.tmp 8],#[27]⟩,none⟩,[]⟩,⟨⟨some 10,.binOp .lss 3 (.tmp 7) (.tmp 9) 3,none⟩,[]⟩]) (.cond (.tmp 10) .skip (.exit 0))) (.seq (.block 1 (.reg [⟨⟨some 13,.move (.tmp 5),none⟩,[]⟩,⟨⟨some 14,.move (.tmp 0),none⟩,[]⟩,⟨⟨some 15,.move (.tmp 1),none⟩,[]⟩,⟨⟨some 16,.move (.tmp 6),none⟩,[]⟩,⟨⟨some 17,.indexAddr 27 (.tmp 15) (.tmp 16),none⟩,[]⟩,⟨⟨some 18,.load 3 (.tmp 17),none⟩,[]⟩,⟨⟨some 19,.indexAddr 27 (.tmp 14) (.tmp 18),none⟩,[]⟩,⟨⟨some 20,.load 3 (.tmp 19),none⟩,[]⟩,⟨⟨some 21,.binOp .add 3 (.tmp 13) (.tmp 20) 3,none⟩,[]⟩,
 ⟨⟨some 5,.assign (.tmp 21),none⟩,[]⟩])) (.reg [⟨⟨some 11,.move (.tmp 6),none⟩,[]⟩,
  ⟨⟨some 12,.binOp .add 3 (.tmp 11) (.const (.int .i64 1)) 3,none⟩,[]⟩,
  ⟨⟨some 6,.assign (.tmp 12),none⟩,[]⟩])))))) (.seq (.reg [⟨⟨some 22,.move (.tmp 5),none⟩,[]⟩,
  ⟨⟨some 4,.assign (.tmp 22),none⟩,[]⟩]) .ret))))
theorem in61:InT Tryz.prog 61 2 [.tmp 4] cd61:=InT.mk (by kernel_rfl) [] Tryz.func61 rfl (by kernel_rfl) (by kernel_rfl) (of_decide_eq_true (by kernel_rfl)) (by kernel_rfl)
def cd51:Cd:=(.seq (.reg [⟨⟨some 2,.box 26 (.tmp 0),none⟩,[]⟩,⟨⟨some 4,.assign (.const (.bool false)),none⟩,[]⟩]) (.seq (.seq (.reg [⟨⟨some 5,.assign (.const (.int .i64 0)),none⟩,[]⟩]) (.block 0 (.loop (.seq (.seq (.reg [⟨⟨some 6,.move (.tmp 5),none⟩,[]⟩,⟨⟨some 7,.move (.tmp 1),none⟩,[]⟩,⟨⟨some 8,.call ⟨(.builtin .len),#[.tmp 7],#[27]⟩,none⟩,[]⟩,⟨⟨some 9,.binOp .lss 3 (.tmp 6) (.tmp 8) 3,none⟩,[]⟩]) (.cond (.tmp 9) .skip (.exit 0))) (.seq (.block 1 (.seq (.reg [⟨⟨some 12,.move (.tmp 1),none⟩,[]⟩,⟨⟨some 13,.move (.tmp 5),none⟩,[]⟩,⟨⟨some 14,.indexAddr 27 (.tmp 12) (.tmp 13),none⟩,[]⟩,⟨⟨some 15,.load 3 (.tmp 14),none⟩,[]⟩,⟨⟨some 16,.call ⟨(.value (.func 114)),#[.tmp 15,(.const (.int .i64 0)),(.const (.int .i64 99))],#[3,3,3]⟩,none⟩,[]⟩,⟨⟨some 17,.unOp .not 4 (.tmp 16),none⟩,[]⟩]) (.cond (.tmp 17) (.seq (.reg [⟨⟨some 4,.assign (.const (.bool false)),none⟩,[]⟩]) .ret) .skip))) (.reg [⟨⟨some 10,.move (.tmp 5),none⟩,[]⟩,⟨⟨some 11,.binOp .add 3 (.tmp 10) (.const (.int .i64 1)) 3,none⟩,[]⟩,⟨⟨some 5,.assign (.tmp 11),none⟩,[]⟩])))))) (.seq (.reg [⟨⟨some 18,.load 26 (.tmp 2),none⟩,[]⟩,
 ⟨⟨some 19,.call ⟨(.value (.func 115)),#[.tmp 18],#[26]⟩,none⟩,[]⟩,
  ⟨⟨some 20,.move (.tmp 19),none⟩,[]⟩,
  ⟨⟨some 21,.move (.tmp 1),some (20,true)⟩,[]⟩,
  ⟨⟨some 22,.call ⟨(.builtin .len),#[.tmp 21],#[27]⟩,some (20,true)⟩,[]⟩,
  ⟨⟨some 23,.fieldAddr 26 (.tmp 2) 1,some (20,true)⟩,[]⟩,
  ⟨⟨some 24,.load 24 (.tmp 23),some (20,true)⟩,[]⟩,
  ⟨⟨some 25,.call ⟨(.builtin .len),#[.tmp 24],#[24]⟩,some (20,true)⟩,[]⟩,
  ⟨⟨some 26,.binOp .eql 3 (.tmp 22) (.tmp 25) 3,some (20,true)⟩,[]⟩,
  ⟨⟨some 27,.pick (.tmp 20) (.tmp 26) (.const (.bool false)),none⟩,[]⟩,
  ⟨⟨some 4,.assign (.tmp 27),none⟩,[]⟩]) .ret)))
theorem in51:InT Tryz.prog 51 2 [.tmp 4] cd51:=InT.mk (by kernel_rfl) [] Tryz.func51 rfl (by kernel_rfl) (by kernel_rfl) (of_decide_eq_true (by kernel_rfl)) (by kernel_rfl)
def cd52:Cd:=(.seq (.reg [⟨⟨some 2,.box 26 (.tmp 0),none⟩,[]⟩,⟨⟨some 4,.assign (.const (.slice none 0 0)),none⟩,[]⟩]) (.seq (.reg [⟨⟨some 10,.buildSlice 27 0 #[],none⟩,[]⟩,⟨⟨some 5,.assign (.tmp 10),none⟩,[]⟩]) (.seq (.seq (.reg [⟨⟨some 6,.assign (.const (.int .i64 0)),none⟩,[]⟩]) (.block 0 (.loop (.seq (.seq (.reg [⟨⟨some 11,.move (.tmp 6),none⟩,[]⟩,⟨⟨some 12,.binOp .leq 3 (.tmp 11) (.const (.int .i64 99)) 3,none⟩,[]⟩]) (.cond (.tmp 12) .skip (.exit 0))) (.seq (.block 1 (.seq (.reg [⟨⟨some 7,.assign (.const (.int .i64 0)),none⟩,[]⟩]) (.block 2 (.loop (.seq (.seq (.reg [⟨⟨some 15,.move (.tmp 7),none⟩,[]⟩,⟨⟨some 16,.move (.tmp 1),none⟩,[]⟩,⟨⟨some 17,.call ⟨(.builtin .len),#[.tmp 16],#[27]⟩,none⟩,[]⟩,⟨⟨some 18,.binOp .lss 3 (.tmp 15) (.tmp 17) 3,none⟩,[]⟩]) (.cond (.tmp 18) .skip (.exit 2))) (.seq (.block 3 (.seq (.reg [⟨⟨some 21,.move (.tmp 1),none⟩,[]⟩,⟨⟨some 22,.move (.tmp 7),none⟩,[]⟩,⟨⟨some 23,.indexAddr 27 (.tmp 21) (.tmp 22),none⟩,[]⟩,⟨⟨some 24,.load 3 (.tmp 23),none⟩,[]⟩,⟨⟨some 25,.move (.tmp 6),none⟩,[]⟩,⟨⟨some 26,.binOp .eql 3 (.tmp 24) (.tmp 25) 3,none⟩,[]⟩,
 ⟨⟨some 27,.move (.tmp 26),none⟩,[]⟩,⟨⟨some 28,.load 26 (.tmp 2),some (27,true)⟩,[]⟩,⟨⟨some 29,.move (.tmp 5),some (27,true)⟩,[]⟩,⟨⟨some 31,.move (.tmp 7),some (27,true)⟩,[]⟩,⟨⟨some 32,.buildSlice 27 1 #[(0,.tmp 31)],some (27,true)⟩,[]⟩,⟨⟨some 30,.call ⟨(.value (.func 117)),#[.tmp 29],#[27]⟩,some (27,true)⟩,[⟨some 32,.buildSlice 27 1 #[(0,.tmp 31)],some (27,true)⟩,⟨some 28,.load 26 (.tmp 2),some (27,true)⟩]⟩,⟨⟨some 33,.call ⟨(.builtin .append),#[.tmp 30,.tmp 32],#[27,27]⟩,some (27,true)⟩,[⟨some 28,.load 26 (.tmp 2),some (27,true)⟩]⟩,⟨⟨some 34,.call ⟨(.value (.func 116)),#[.tmp 28,.tmp 33],#[26,27]⟩,some (27,true)⟩,[]⟩,⟨⟨some 35,.unOp .not 4 (.tmp 34),some (27,true)⟩,[]⟩,⟨⟨some 36,.pick (.tmp 27) (.tmp 35) (.const (.bool false)),none⟩,[]⟩]) (.cond (.tmp 36) (.reg [⟨⟨some 37,.move (.tmp 5),none⟩,[]⟩,⟨⟨some 38,.move (.tmp 7),none⟩,[]⟩,⟨⟨some 39,.buildSlice 27 1 #[(0,.tmp 38)],none⟩,[]⟩,
 ⟨⟨some 40,.call ⟨(.builtin .append),#[.tmp 37,.tmp 39],#[27,27]⟩,none⟩,[]⟩,⟨⟨some 5,.assign (.tmp 40),none⟩,[]⟩]) .skip))) (.reg [⟨⟨some 19,.move (.tmp 7),none⟩,[]⟩,⟨⟨some 20,.binOp .add 3 (.tmp 19) (.const (.int .i64 1)) 3,none⟩,[]⟩,⟨⟨some 7,.assign (.tmp 20),none⟩,[]⟩]))))))) (.reg [⟨⟨some 13,.move (.tmp 6),none⟩,[]⟩,⟨⟨some 14,.binOp .add 3 (.tmp 13) (.const (.int .i64 1)) 3,none⟩,[]⟩,⟨⟨some 6,.assign (.tmp 14),none⟩,[]⟩])))))) (.seq (.reg [⟨⟨some 41,.buildSlice 27 0 #[],none⟩,[]⟩,⟨⟨some 8,.assign (.tmp 41),none⟩,[]⟩]) (.seq (.seq (.reg [⟨⟨some 9,.assign (.const (.int .i64 0)),none⟩,[]⟩]) (.block 4 (.loop (.seq (.seq (.reg [⟨⟨some 42,.move (.tmp 9),none⟩,[]⟩,⟨⟨some 43,.move (.tmp 5),none⟩,[]⟩,⟨⟨some 44,.call ⟨(.builtin .len),#[.tmp 43],#[27]⟩,none⟩,[]⟩,⟨⟨some 45,.binOp .lss 3 (.tmp 42) (.tmp 44) 3,none⟩,[]⟩]) (.cond (.tmp 45) .skip (.exit 4))) (.seq (.block 5 (.reg [⟨⟨some 48,.move (.tmp 8),none⟩,[]⟩,⟨⟨some 49,.move (.tmp 5),none⟩,[]⟩,⟨⟨some 50,.move (.tmp 9),none⟩,[]⟩,
 ⟨⟨some 51,.indexAddr 27 (.tmp 49) (.tmp 50),none⟩,[]⟩,
  ⟨⟨some 52,.load 3 (.tmp 51),none⟩,[]⟩,
  ⟨⟨some 53,.call ⟨(.value (.func 118)),#[.tmp 48,.tmp 52],#[27,3]⟩,none⟩,[]⟩,
  ⟨⟨some 8,.assign (.tmp 53),none⟩,[]⟩])) (.reg [⟨⟨some 46,.move (.tmp 9),none⟩,[]⟩,
  ⟨⟨some 47,.binOp .add 3 (.tmp 46) (.const (.int .i64 1)) 3,none⟩,[]⟩,
  ⟨⟨some 9,.assign (.tmp 47),none⟩,[]⟩])))))) (.seq (.reg [⟨⟨some 54,.move (.tmp 8),none⟩,[]⟩,
  ⟨⟨some 4,.assign (.tmp 54),none⟩,[]⟩]) .ret))))))
theorem in52:InT Tryz.prog 52 2 [.tmp 4] cd52:=InT.mk (by kernel_rfl) [(8,[(0,false),(1,false),(2,false),(3,false),(4,false),(5,false),(6,false),(7,false),(8,false),(10,false),(11,false),(9,true),(12,true),(13,true),(14,false),(15,false)])] Tryz.func52 rfl (by kernel_rfl) (by kernel_rfl) (of_decide_eq_true (by kernel_rfl)) (by kernel_rfl)
end Go.Proofs.YtlcipphiflcaiaaGreat.Ai
namespace Go.Proofs.YtlcipphiflcaiaaGreat.Ai
open Go Go.RowKit
theorem swL_take {ws T:List Int}{i:Nat}(h:i<T.length):swL ws (T.take (i+1))=swL ws (T.take i)+ws.getD (T.getD i 0).toNat 0:=by
 have e:T.take (i+1)=T.take i ++ [T.getD i 0]:=by
  rw [List.take_add_one,List.getElem?_eq_getElem h]
  simp [h]
 rw [e,swL_app];simp [swL]
theorem swL_rng {ws:List Int}(h0:∀ x ∈ ws,0<=x/\x<=99):∀ T:List Int,0<=swL ws T/\swL ws T<=99 * (T.length:Int)
 | []=>by simp [swL]
 | a :: T=>by
  have ih:=swL_rng h0 T
  have e:swL ws (a :: T)=ws.getD a.toNat 0+swL ws T:=by simp [swL]
  have h1:0<=ws.getD a.toNat 0/\ws.getD a.toNat 0<=99:=by
   by_cases q:a.toNat<ws.length
   ·exact h0 _ (by simp [q])
   ·rw [List.getD_eq_getElem?_getD,List.getElem?_eq_none (by omega)];decide
  rw [e,List.length_cons]
  omega
theorem l7Weight_c (v w:Value)(ws T:List Int)(H:AH)(hv:Row 3 H v ws)(hw:Row 3 H w T)(h0:∀ x ∈ ws,0<=x/\x<=99)(hT:∀ e ∈ T,0<=e/\e<ws.length)(hl:T.length<=1000)(hl2:ws.length<=1000) :
  ACalls Tryz.prog 61 [v,w] H fun r H'=>r=.int .i64 (swL ws T)/\H=H':=by
 refine in61 rfl ?_
 intro Q hQ
 simp (disch:=omega) only [cd61,SS,eq_self,reduceIte,reduceCtorEq,Nat.reduceEqDiff,Nat.reduceAdd]
 refine LoopH.by (fun m s H'=>∃ i,m+i=T.length/\s 0=v/\s 1=w/\s 5=.int .i64 (swL ws (T.take i))/\s 6=.int .i64 ((i:Nat):Int)/\H=H') T.length ?_ ?_
 ·exact ⟨0,by simp,rfl,rfl,rfl,rfl,rfl⟩
 rintro m s H' ⟨i,hm,s0,s1,s5,s6,rfl⟩
 simp (disch:=omega) only [s0,s1,s5,s6,hw.len Tryz.underlying27,SS,eq_self,reduceIte,reduceCtorEq,Nat.reduceEqDiff,Nat.reduceAdd]
 refine brD.intro (fun g=>?_) (fun g=>?_)
 ·have hi:i<T.length:=by omega
  have hme:T.getD i 0 ∈ T:=by simp [hi]
  have hr:=hT _ hme
  have hc:=hw.cell hi
  obtain ⟨x,hx⟩:∃ x:Nat,T.getD i 0=x:=⟨(T.getD i 0).toNat,by omega⟩
  have ht:=swL_take (ws:=ws) hi
  rw [hx] at hr hc ht
  rw [Int.toNat_natCast] at ht
  have hcw:=hv.cell (show x<ws.length by omega)
  have h3:=swL_rng h0 (T.take i)
  have h4:=swL_rng h0 (T.take (i+1))
  have h5:(T.take i).length<=1000:=by rw [List.length_take];omega
  have h6:(T.take (i+1)).length<=1000:=by rw [List.length_take];omega
  have hwr:IntKind.i64.wrap (swL ws (T.take i)+ws.getD x 0)=swL ws (T.take (i+1)):=by rw [<- ht];exact wrap64 (by omega) (by omega)
  simp (disch:=omega) only [s0,s1,s5,s6,hw.ix Tryz.underlying27 cs3,hv.ix Tryz.underlying27 cs3,Int.toNat_natCast,hc,hcw,hwr,wrap64,SS,eq_self,reduceIte,reduceCtorEq,Nat.reduceEqDiff,Nat.reduceAdd]
  refine ⟨m - 1,by omega,i+1,?_⟩
  (repeat' apply And.intro) <;> first | exact h6 | (simp only [Value.int.injEq,true_and];omega) | omega | rfl | assumption | (simp;done) | (simp;omega)
 ·have hi:i=T.length:=by omega
  subst hi
  simp (disch:=omega) only [s5,SS,eq_self,reduceIte,reduceCtorEq,Nat.reduceEqDiff,Nat.reduceAdd]
  refine hQ _ _ _ ?_
  simp (disch:=omega) only [SS,eq_self,reduceIte,reduceCtorEq,Nat.reduceEqDiff,Nat.reduceAdd]
  rw [List.take_length]
def WtOk (n:Int)(es:List (Int × Int))(ws:List Int):Prop:=(∀ x ∈ ws,0<=x/\x<=99)/\(Grd n es/\0<n)/\ws.length=es.length
instance (n:Int) (es:List (Int × Int)) (ws:List Int):Decidable (WtOk n es ws):=by unfold WtOk;infer_instance
theorem l7Weights_c (n:Int)(v w:Value)(es:List (Int × Int))(ws:List Int)(H:AH)(hr:RowP 115 H v es)(hlen:es.length<=1099511627776)(hw:Row 3 H w ws)(hlw:ws.length<=1099511627776) :
  ACalls Tryz.prog 51 [.agg (List.toArray [.int .i64 n,v]),w] H fun r H'=>r=.bool (decide (WtOk n es ws))/\H<+:H':=by
 refine in51 rfl ?_
 intro Q hQ
 simp (disch:=omega) only [cd51,hr.boxG,SS,eq_self,reduceIte,reduceCtorEq,Nat.reduceEqDiff,Nat.reduceAdd]
 generalize hA:H ++ [AObj.cells [.int .i64 n,v] 26 false]=A
 have pA:H<+:A:=by rw [<- hA];exact List.prefix_append _ _
 have cA:A[H.length]?=some (.cells [.int .i64 n,v] 26 false):=by rw [<- hA];exact at_new ..
 have rA:=hr.pre pA
 have wA:=hw.pre pA
 refine LoopH.by (fun m s H'=>∃ i,m+i=ws.length/\s 1=w/\s 2=.pointer (some ⟨H.length,0,none⟩)/\s 5=.int .i64 ((i:Nat):Int)/\A=H'/\∀ j,j<i->0<=ws.getD j 0/\ws.getD j 0<=99) ws.length ?_ ?_
 ·exact ⟨0,by simp,rfl,rfl,rfl,rfl,fun j hj=>absurd hj (Nat.not_lt_zero j)⟩
 rintro m s H' ⟨i,hm,s1,s2,s5,rfl,hall⟩
 simp (disch:=omega) only [s1,s2,s5,wA.len Tryz.underlying27,SS,eq_self,reduceIte,reduceCtorEq,Nat.reduceEqDiff,Nat.reduceAdd]
 refine brD.intro (fun g=>?_) (fun g=>?_)
 ·have hi:i<ws.length:=by omega
  have hc:=wA.cell hi
  simp (disch:=omega) only [s1,s2,s5,wA.ix Tryz.underlying27 cs3,Int.toNat_natCast,hc,SS,eq_self,reduceIte,reduceCtorEq,Nat.reduceEqDiff,Nat.reduceAdd]
  refine CallH.by (l1In_c (ws.getD i 0) 0 99 A) ?_
  rintro _ _ ⟨rfl,rfl⟩
  by_cases e:0<=ws.getD i 0/\ws.getD i 0<=99
  ·simp (disch:=omega) only [decide_eq_true e,s1,s2,s5,wrap64,SS,eq_self,reduceIte,reduceCtorEq,Nat.reduceEqDiff,Nat.reduceAdd]
   have hall2:∀ j,j<i+1->0<=ws.getD j 0/\ws.getD j 0<=99:=fun j hj=>by
    by_cases q:j=i
    ·subst q;exact e
    ·exact hall j (by omega)
   refine ⟨m - 1,by omega,i+1,?_⟩
   (repeat' apply And.intro) <;> first | exact hall2 | (simp only [Value.int.injEq,true_and];omega) | omega | rfl | assumption | (simp;done) | (simp;omega)
  ·simp (disch:=omega) only [decide_eq_false e,SS,eq_self,reduceIte,reduceCtorEq,Nat.reduceEqDiff,Nat.reduceAdd]
   refine hQ _ _ _ ?_
   simp (disch:=omega) only [SS,eq_self,reduceIte,reduceCtorEq,Nat.reduceEqDiff,Nat.reduceAdd]
   exact ⟨by rw [decide_eq_false (fun h=>e (h.1 _ (by simp [hi])))],pA⟩
 ·have hi:i=ws.length:=by omega
  subst hi
  have h99:∀ x ∈ ws,0<=x/\x<=99:=by
   intro x hx
   obtain ⟨j,hj,rfl⟩:=List.getElem_of_mem hx
   have:=hall j hj
   rwa [show ws.getD j 0=ws[j] by simp [hj]] at this
  simp (disch:=omega) only [s2,ld_agg ag26 cs26 cA,SS,eq_self,reduceIte,reduceCtorEq,Nat.reduceEqDiff,Nat.reduceAdd]
  refine CallH.by (l7Some_c n v es A rA hlen) ?_
  rintro _ B ⟨rfl,pB⟩
  have cB:=pre_at pB cA
  have rB:=rA.pre pB
  by_cases e:Grd n es/\0<n
  ·simp (disch:=omega) only [decide_eq_true e,s1,s2,(wA.pre pB).len Tryz.underlying27,cell_of cB,rB.len Tryz.underlying24,SS,eq_self,reduceIte,reduceCtorEq,Nat.reduceEqDiff,Nat.reduceAdd]
   refine hQ _ _ _ ?_
   simp (disch:=omega) only [SS,eq_self,reduceIte,reduceCtorEq,Nat.reduceEqDiff,Nat.reduceAdd]
   refine ⟨?_,pA.trans pB⟩
   rw [Value.bool.injEq,decide_eq_decide]
   exact ⟨fun h=>⟨h99,e,by omega⟩,fun h=>by have:=h.2.2;omega⟩
  ·simp (disch:=omega) only [decide_eq_false e,SS,eq_self,reduceIte,reduceCtorEq,Nat.reduceEqDiff,Nat.reduceAdd]
   refine hQ _ _ _ ?_
   simp (disch:=omega) only [SS,eq_self,reduceIte,reduceCtorEq,Nat.reduceEqDiff,Nat.reduceAdd]
   exact ⟨by rw [decide_eq_false (fun h=>e h.2.1)],pA.trans pB⟩
theorem krN_len {n:Nat}(hn:1<=n){es:List (Int × Int)}(hg:Grd (n:Int) es){ws:List Int}(hw:∀ e:Nat,e<es.length->0<=ws.getD e 0)(w k:Nat)(hk:k<=es.length) :
  Krs n es ws (w:Int) k (krN n es ws (w:Int) (krW n es ws w) k)/\(krN n es ws (w:Int) (krW n es ws w) k).length+1<=n:=by
 have h:=(krN_ok hg (krW_ok hg hw w) k hk).1
 exact ⟨h,h.fst.few hn hg h.ed⟩
theorem l7Light_c (n:Nat)(hn:1<=n)(v w:Value)(es:List (Int × Int))(ws:List Int)(H:AH)(hr:RowP 115 H v es)(hg:Grd (n:Int) es)(hw:Row 3 H w ws)(hlw:ws.length=es.length)(h0:∀ x ∈ ws,0<=x/\x<=99) :
  ACalls Tryz.prog 52 [.agg (List.toArray [.int .i64 (n:Int),v]),w] H fun r H'=>Own 3 H H' r (puts (krW n es ws 100))/\H<+:H':=by
 have h28:es.length<=28:=grd_len hg
 have hn8:n<=8:=by have:=hg.1;omega
 have hw0:∀ e:Nat,e<es.length->0<=ws.getD e 0:=fun e he=>(h0 _ (by simp [show e<ws.length by omega])).1
 refine in52 rfl ?_
 intro Q hQ
 simp (disch:=omega) only [cd52,hr.boxG,SS,eq_self,reduceIte,reduceCtorEq,Nat.reduceEqDiff,Nat.reduceAdd]
 generalize hA:H ++ [AObj.cells [.int .i64 ↑n,v] 26 false]=A
 have pA:H<+:A:=by rw [<- hA];exact List.prefix_append _ _
 have cA:A[H.length]?=some (.cells [.int .i64 ↑n,v] 26 false):=by rw [<- hA];exact at_new ..
 have rA:=hr.pre pA
 have wA:=hw.pre pA
 generalize hB:A ++ [AObj.cells [] 3 false]=B
 have pB:A<+:B:=by rw [<- hB];exact List.prefix_append _ _
 have own0:Own 3 A B (.slice (some ⟨A.length,0,none⟩) 0 0) []:=.inr ⟨A.length,rfl,Nat.le_refl _,by rw [<- hB];exact at_new ..⟩
 refine LoopH.by (fun m s H'=>∃ i:Nat,m+i=100/\s 1=w/\s 2=.pointer (some ⟨H.length,0,none⟩)/\s 6=.int .i64 ((i:Nat):Int)/\Own 3 A H' (s 5) (krW n es ws i)/\A<+:H') 100 ?_ ?_
 ·refine ⟨0,by omega,?_⟩
  simp (disch:=omega) only [SS,eq_self,reduceIte,reduceCtorEq,Nat.reduceEqDiff,Nat.reduceAdd]
  have f1:Own 3 A B (.slice (some ⟨A.length,0,none⟩) 0 0) (krW n es ws 0):=own0
  (repeat' first | exact f1 | exact pB | apply And.intro) <;> first | (simp only [Value.int.injEq,true_and];omega) | omega | rfl | assumption | (simp;done) | (simp;omega)
 rintro m s H' ⟨i,hm,s1,s2,s6,hO,hp⟩
 simp (disch:=omega) only [s1,s2,s6,SS,eq_self,reduceIte,reduceCtorEq,Nat.reduceEqDiff,Nat.reduceAdd]
 refine brD.intro (fun g=>?_) (fun g=>?_)
 rotate_left
 ·have hi:i=100:=by omega
  subst hi
  clear s6 g
  have hk:=krW_ok hg hw0 100
  have hlen:=hk.fst.few hn hg hk.ed
  have hnd:=hk.nd
  generalize krW n es ws 100=K at *
  simp (disch:=omega) only [SS,eq_self,reduceIte,reduceCtorEq,Nat.reduceEqDiff,Nat.reduceAdd]
  generalize hC:H' ++ [AObj.cells [] 3 false]=C
  have pC:H'<+:C:=by rw [<- hC];exact List.prefix_append _ _
  have ownC:Own 3 A C (.slice (some ⟨H'.length,0,none⟩) 0 0) []:=.inr ⟨H'.length,rfl,hp.length_le,by rw [<- hC];exact at_new ..⟩
  generalize hV:s 5=V at *
  have rV:=hO.row
  refine LoopH.by (fun m s H2=>∃ j:Nat,m+j=K.length/\s 5=V/\s 9=.int .i64 ((j:Nat):Int)/\Own 3 A H2 (s 8) (puts (K.take j))/\A<+:H2/\Row 3 H2 V K) K.length ?_ ?_
  ·refine ⟨0,by omega,?_⟩
   simp (disch:=omega) only [hV,SS,eq_self,reduceIte,reduceCtorEq,Nat.reduceEqDiff,Nat.reduceAdd]
   have f1:Own 3 A C (.slice (some ⟨H'.length,0,none⟩) 0 0) (puts (K.take 0)):=ownC
   have f2:=hp.trans pC
   have f3:=rV.pre pC
   (repeat' first | exact f1 | exact f2 | exact f3 | apply And.intro) <;> first | (simp only [Value.int.injEq,true_and];omega) | omega | rfl | assumption | (simp;done) | (simp;omega)
  rintro m2 t H2 ⟨j,hm2,t5,t9,hO2,hp2,rV2⟩
  simp (disch:=omega) only [t5,t9,rV2.len Tryz.underlying27,SS,eq_self,reduceIte,reduceCtorEq,Nat.reduceEqDiff,Nat.reduceAdd]
  refine brD.intro (fun g=>?_) (fun g=>?_)
  ·have hj:j<K.length:=by omega
   have hc:=rV2.cell hj
   have hps:=puts_perm _ (K.take j) rfl (List.Nodup.sublist (List.take_sublist _ _) hnd)
   have htk:K.take (j+1)=K.take j ++ [K.getD j 0]:=by
    rw [List.take_add_one,List.getElem?_eq_getElem hj]
    simp [hj]
   have hnot:K.getD j 0 ∉ puts (K.take j):=by
    intro hx
    have hx2:=hps.1.mem_iff.1 hx
    have hnd2:(K.take (j+1)).Nodup:=List.Nodup.sublist (List.take_sublist _ _) hnd
    rw [htk,List.nodup_append] at hnd2
    exact hnd2.2.2 _ hx2 _ (by simp) rfl
   have hll:=hps.1.length_eq
   rw [List.length_take] at hll
   simp (disch:=omega) only [t5,t9,rV2.ix Tryz.underlying27 cs3,Int.toNat_natCast,hc,SS,eq_self,reduceIte,reduceCtorEq,Nat.reduceEqDiff,Nat.reduceAdd]
   refine CallH.by (l1Put_c (t 8) (puts (K.take j)) (K.getD j 0) H2 hO2.row (by omega) hnot) ?_
   rintro u D ⟨hu,pD⟩
   rw [<- puts_step,<- htk] at hu
   have f1:Own 3 A D u (puts (K.take (j+1))):=hu.base hp2
   have f2:=hp2.trans pD
   have f3:=rV2.pre pD
   simp (disch:=omega) only [t5,t9,wrap64,hu.row.tup,SS,eq_self,reduceIte,reduceCtorEq,Nat.reduceEqDiff,Nat.reduceAdd]
   refine ⟨m2 - 1,by omega,j+1,?_⟩
   (repeat' first | exact f1 | exact f2 | exact f3 | apply And.intro) <;> first | (simp only [Value.int.injEq,true_and];omega) | omega | rfl | assumption | (simp;done) | (simp;omega)
  ·have hj:j=K.length:=by omega
   subst hj
   rw [List.take_length] at hO2
   simp (disch:=omega) only [hO2.row.tup,SS,eq_self,reduceIte,reduceCtorEq,Nat.reduceEqDiff,Nat.reduceAdd]
   refine hQ _ _ _ ?_
   simp (disch:=omega) only [hO2.row.tup,SS,eq_self,reduceIte,reduceCtorEq,Nat.reduceEqDiff,Nat.reduceAdd]
   exact ⟨hO2.base pA,pA.trans hp2⟩
 have hi:i<100:=by omega
 simp (disch:=omega) only [s1,s2,s6,SS,eq_self,reduceIte,reduceCtorEq,Nat.reduceEqDiff,Nat.reduceAdd]
 refine LoopH.by (fun m s H2=>∃ j:Nat,m+j=ws.length/\s 1=w/\s 2=.pointer (some ⟨H.length,0,none⟩)/\s 6=.int .i64 ((i:Nat):Int)/\s 7=.int .i64 ((j:Nat):Int)/\Own 3 A H2 (s 5) (krN n es ws (i:Int) (krW n es ws i) j)/\A<+:H2) ws.length ?_ ?_
 ·refine ⟨0,by omega,?_⟩
  simp (disch:=omega) only [s1,s2,s6,SS,eq_self,reduceIte,reduceCtorEq,Nat.reduceEqDiff,Nat.reduceAdd]
  have f1:Own 3 A H' (s 5) (krN n es ws (i:Int) (krW n es ws i) 0):=hO
  (repeat' first | exact f1 | exact hp | apply And.intro) <;> first | (simp only [Value.int.injEq,true_and];omega) | omega | rfl | assumption | (simp;done) | (simp;omega)
 rintro m2 t H2 ⟨j,hm2,t1,t2,t6,t7,hO2,hp2⟩
 have wH:=wA.pre hp2
 have cH:=pre_at hp2 cA
 have rH:=rA.pre hp2
 simp (disch:=omega) only [t1,t2,t6,t7,wH.len Tryz.underlying27,SS,eq_self,reduceIte,reduceCtorEq,Nat.reduceEqDiff,Nat.reduceAdd]
 refine brD.intro (fun g2=>?_) (fun g2=>?_)
 rotate_left
 ·have hj:j=es.length:=by omega
  subst hj
  have f1:Own 3 A H2 (t 5) (krW n es ws (i+1)):=hO2
  simp (disch:=omega) only [t1,t2,t6,t7,wrap64,SS,eq_self,reduceIte,reduceCtorEq,Nat.reduceEqDiff,Nat.reduceAdd]
  refine ⟨m - 1,by omega,i+1,?_⟩
  (repeat' first | exact f1 | exact hp2 | apply And.intro) <;> first | (simp only [Value.int.injEq,true_and];omega) | omega | rfl | assumption | (simp;done) | (simp;omega)
 have hj:j<ws.length:=by omega
 obtain ⟨hK,hKl⟩:=krN_len hn hg hw0 i j (by omega)
 have hc:=wH.cell hj
 have hstep:krN n es ws (i:Int) (krW n es ws i) (j+1)=if ws.getD j 0=(i:Int)/\jnB es n (krN n es ws (i:Int) (krW n es ws i) j) (enA es (j:Int)) (enB es (j:Int))=false then krN n es ws (i:Int) (krW n es ws i) j ++ [(j:Int)] else krN n es ws (i:Int) (krW n es ws i) j:=rfl
 generalize krN n es ws (i:Int) (krW n es ws i) j=K at *
 by_cases e:ws.getD j 0=(i:Int)
 rotate_left
 ·rw [if_neg (fun h=>e h.1)] at hstep
  simp (disch:=omega) only [t1,t2,t6,t7,wH.ix Tryz.underlying27 cs3,Int.toNat_natCast,hc,decide_eq_false e,wrap64,ld_agg ag26 cs26 cH,SS,eq_self,reduceIte,reduceCtorEq,Nat.reduceEqDiff,Nat.reduceAdd]
  have f1:Own 3 A H2 (t 5) (krN n es ws (i:Int) (krW n es ws i) (j+1)):=by rw [hstep];exact hO2
  refine ⟨⟨trivial,fun h=>(by cases h)⟩,fun h=>(by cases h),m2 - 1,by omega,j+1,?_⟩
  (repeat' first | exact f1 | exact hp2 | apply And.intro) <;> first | (simp only [Value.int.injEq,true_and];omega) | omega | rfl | assumption | (simp;done) | (simp;omega)
 simp (disch:=omega) only [t1,t2,t6,t7,wH.ix Tryz.underlying27 cs3,Int.toNat_natCast,hc,decide_eq_true e,ld_agg ag26 cs26 cH,SS,eq_self,reduceIte,reduceCtorEq,Nat.reduceEqDiff,Nat.reduceAdd]
 generalize hG:H2 ++ [AObj.cells [.int .i64 ((j:Nat):Int)] 3 false]=G
 have pG:H2<+:G:=by rw [<- hG];exact List.prefix_append _ _
 have cJ:G[H2.length]?=some (.cells [.int .i64 ((j:Nat):Int)] 3 false):=by rw [<- hG];exact at_new ..
 have rJ:Row 3 G (.slice (some ⟨H2.length,0,none⟩) 1 1) [((j:Nat):Int)]:=.inr ⟨H2.length,0,[.int .i64 ((j:Nat):Int)],false,rfl,cJ,by simp,rfl⟩
 refine CallH.by (l1Own_c (t 5) K G (hO2.row.pre pG) (by omega)) ?_
 rintro c C ⟨hcO,pC⟩
 obtain ⟨c2,D,a1,a2,a3',_⟩:=hcO.app (P:=Tryz.prog) (t:=27) Tryz.underlying27 cs3 (by rw [by3];decide) zk3 (rJ.pre pC) pC (by simp;omega)
 have a3:H2<+:D:=pG.trans a3'
 have cC:=pre_at (pG.trans pC) cH
 have cJC:C[H2.length]?=G[H2.length]?:=by rw [pre_at pC cJ,cJ]
 have cD:=pre_at a3 cH
 have rD:=rH.pre a3
 simp (disch:=omega) only [a1,cJC,t1,t2,t6,t7,ld_agg ag26 cs26 cD,ld_agg ag26 cs26 cC,SS,eq_self,reduceIte,reduceCtorEq,Nat.reduceEqDiff,Nat.reduceAdd]
 refine ⟨fun _=>trivial,fun _=>trivial,?_⟩
 refine CallH.by (l7Closes_c n v c2 es K (j:Int) D rD hg a2.row hK.ed (by omega) (by omega)) ?_
 rintro _ E ⟨rfl,pE⟩
 have pHE:=a3.trans pE
 have hOE:=hO2.pre pHE
 have hpE:=hp2.trans pHE
 by_cases hjn:jnB es n K (enA es (j:Int)) (enB es (j:Int))=true
 ·rw [if_neg (fun h=>by rw [hjn] at h;cases h.2)] at hstep
  rw [hjn]
  simp (disch:=omega) only [t1,t2,t6,t7,wrap64,SS,eq_self,reduceIte,reduceCtorEq,Nat.reduceEqDiff,Nat.reduceAdd]
  refine ⟨m2 - 1,by omega,j+1,?_⟩
  have f1:Own 3 A E (t 5) (krN n es ws (i:Int) (krW n es ws i) (j+1)):=by rw [hstep];exact hOE
  (repeat' first | exact f1 | exact hpE | apply And.intro) <;> first | (simp only [Value.int.injEq,true_and];omega) | omega | rfl | assumption | (simp;done) | (simp;omega)
 ·rw [Bool.not_eq_true] at hjn
  rw [if_pos ⟨e,hjn⟩] at hstep
  rw [hjn]
  obtain ⟨c3,F,b1,b2,b3,b4,b5,b6⟩:=own1_27 hOE hpE (by omega) ((j:Nat):Int)
  simp (disch:=omega) only [b1,t1,t2,t6,t7,wrap64,SS,eq_self,reduceIte,reduceCtorEq,Nat.reduceEqDiff,Nat.reduceAdd]
  refine ⟨m2 - 1,by omega,j+1,?_⟩
  have f1:Own 3 A F c3 (krN n es ws (i:Int) (krW n es ws i) (j+1)):=by rw [hstep];exact b2
  (repeat' first | exact f1 | exact b3 | apply And.intro) <;> first | (simp only [Value.int.injEq,true_and];omega) | omega | rfl | assumption | (simp;done) | (simp;omega)
def cd111:Cd:=(.seq (.reg [⟨⟨some 2,.assign (.const (.bool false)),none⟩,[]⟩]) (.seq (.reg [⟨⟨some 3,.move (.tmp 0),none⟩,[]⟩,
 ⟨⟨some 4,.call ⟨(.value (.func 102)),#[.tmp 3,(.const (.int .i64 0)),(.const (.int .i64 99))],#[3,3,3]⟩,none⟩,[]⟩,
 ⟨⟨some 5,.unOp .not 4 (.tmp 4),none⟩,[]⟩,
 ⟨⟨some 2,.assign (.tmp 5),none⟩,[]⟩]) .ret))
theorem in111:InT Tryz.prog 111 1 [.tmp 2] cd111:=InT.mk (by kernel_rfl) [] Tryz.func111 rfl (by kernel_rfl) (by kernel_rfl) (of_decide_eq_true (by kernel_rfl)) (by kernel_rfl)
def cd48:Cd:=(.seq (.reg [⟨⟨some 2,.box 26 (.tmp 0),none⟩,[]⟩,⟨⟨some 4,.assign (.const (.bool false)),none⟩,[]⟩]) (.seq (.reg [⟨⟨some 5,.load 26 (.tmp 2),none⟩,[]⟩,⟨⟨some 6,.call ⟨(.value (.func 64)),#[.tmp 5],#[26]⟩,none⟩,[]⟩,⟨⟨some 7,.move (.tmp 6),none⟩,[]⟩,⟨⟨some 8,.fieldAddr 26 (.tmp 2) 0,some (7,true)⟩,[]⟩,⟨⟨some 9,.load 3 (.tmp 8),some (7,true)⟩,[]⟩,⟨⟨some 10,.binOp .gtr 3 (.tmp 9) (.const (.int .i64 0)) 3,some (7,true)⟩,[]⟩,⟨⟨some 11,.pick (.tmp 7) (.tmp 10) (.const (.bool false)),none⟩,[]⟩,⟨⟨some 12,.move (.tmp 11),none⟩,[]⟩,⟨⟨some 13,.move (.tmp 1),some (12,true)⟩,[]⟩,⟨⟨some 14,.call ⟨(.builtin .len),#[.tmp 13],#[27]⟩,some (12,true)⟩,[]⟩,⟨⟨some 15,.fieldAddr 26 (.tmp 2) 1,some (12,true)⟩,[]⟩,
 ⟨⟨some 16,.load 24 (.tmp 15),some (12,true)⟩,[]⟩,
  ⟨⟨some 17,.call ⟨(.builtin .len),#[.tmp 16],#[24]⟩,some (12,true)⟩,[]⟩,
  ⟨⟨some 18,.binOp .eql 3 (.tmp 14) (.tmp 17) 3,some (12,true)⟩,[]⟩,
  ⟨⟨some 19,.pick (.tmp 12) (.tmp 18) (.const (.bool false)),none⟩,[]⟩,
  ⟨⟨some 20,.move (.tmp 19),none⟩,[]⟩,
  ⟨⟨some 21,.move (.tmp 1),some (20,true)⟩,[]⟩,
  ⟨⟨some 22,.call ⟨(.value (.func 110)),#[.tmp 21,(.func 111)],#[27,84]⟩,some (20,true)⟩,[]⟩,
  ⟨⟨some 23,.unOp .not 4 (.tmp 22),some (20,true)⟩,[]⟩,
  ⟨⟨some 24,.pick (.tmp 20) (.tmp 23) (.const (.bool false)),none⟩,[]⟩,
  ⟨⟨some 4,.assign (.tmp 24),none⟩,[]⟩]) .ret))
theorem in48:InT Tryz.prog 48 2 [.tmp 4] cd48:=InT.mk (by kernel_rfl) [] Tryz.func48 rfl (by kernel_rfl) (by kernel_rfl) (of_decide_eq_true (by kernel_rfl)) (by kernel_rfl)
def cd58:Cd:=(.seq (.reg [⟨⟨some 4,.assign (.const (.bool false)),none⟩,[]⟩]) (.seq (.reg [⟨⟨some 5,.assign (.const (.int .i64 0)),none⟩,[]⟩]) (.seq (.seq (.reg [⟨⟨some 8,.move (.tmp 0),none⟩,[]⟩,⟨⟨some 9,.call ⟨(.builtin .len),#[.tmp 8],#[27]⟩,none⟩,[]⟩,⟨⟨some 10,.move (.const (.int .i64 0)),none⟩,[]⟩]) (.block 0 (.loop (.seq (.reg [⟨⟨some 11,.binOp .lss 3 (.tmp 10) (.tmp 9) 3,none⟩,[]⟩]) (.seq (.cond (.tmp 11) .skip (.exit 0)) (.seq (.block 1 (.seq (.reg [⟨⟨some 12,.indexAddr 27 (.tmp 8) (.tmp 10),none⟩,[]⟩,⟨⟨some 13,.load 3 (.tmp 12),none⟩,[]⟩,⟨⟨some 7,.assign (.tmp 13),none⟩,[]⟩]) (.reg [⟨⟨some 14,.move (.tmp 5),none⟩,[]⟩,⟨⟨some 15,.load 27 (.tmp 1),none⟩,[]⟩,⟨⟨some 16,.move (.tmp 7),none⟩,[]⟩,⟨⟨some 17,.indexAddr 27 (.tmp 15) (.tmp 16),none⟩,[]⟩,⟨⟨some 18,.load 3 (.tmp 17),none⟩,[]⟩,⟨⟨some 19,.binOp .add 3 (.tmp 14) (.tmp 18) 3,none⟩,[]⟩,⟨⟨some 5,.assign (.tmp 19),none⟩,[]⟩]))) (.reg [⟨⟨some 20,.binOp .add 3 (.tmp 10) (.const (.int .i64 1)) 3,none⟩,[]⟩,⟨⟨some 10,.move (.tmp 20),none⟩,[]⟩]))))))) (.seq (.reg [⟨⟨some 21,.move (.tmp 5),none⟩,[]⟩,
 ⟨⟨some 22,.load 3 (.tmp 2),none⟩,[]⟩,
  ⟨⟨some 23,.binOp .gtr 3 (.tmp 21) (.tmp 22) 3,none⟩,[]⟩,
  ⟨⟨some 4,.assign (.tmp 23),none⟩,[]⟩]) .ret))))
theorem in58:InT Tryz.prog 58 3 [.tmp 4] cd58:=InT.mk (by kernel_rfl) [] Tryz.func58 rfl (by kernel_rfl) (by kernel_rfl) (of_decide_eq_true (by kernel_rfl)) (by kernel_rfl)
end Go.Proofs.YtlcipphiflcaiaaGreat.Ai
namespace Go.Proofs.YtlcipphiflcaiaaGreat.Ai
open Go Go.RowKit
theorem isWeighted1_c (x:Int)(H:AH):ACalls Tryz.prog 111 [.int .i64 x] H fun r H'=>r=.bool (!decide (0<=x/\x<=99))/\H=H':=by
 refine in111 rfl ?_
 intro Q hQ
 simp (disch:=omega) only [cd111,SS,eq_self,reduceIte,reduceCtorEq,Nat.reduceEqDiff,Nat.reduceAdd]
 refine CallH.by (between_c x 0 99 H) ?_
 rintro _ _ ⟨rfl,rfl⟩
 simp (disch:=omega) only [SS,eq_self,reduceIte,reduceCtorEq,Nat.reduceEqDiff,Nat.reduceAdd]
 refine hQ _ _ _ ?_
 simp (disch:=omega) only [SS,eq_self,reduceIte,reduceCtorEq,Nat.reduceEqDiff,Nat.reduceAdd]
theorem isWeighted_c (n:Int)(v w:Value)(es:List (Int × Int))(ws:List Int)(H:AH)(hr:RowP 115 H v es)(hlen:es.length<=1099511627776)(hw:Row 3 H w ws)(hlw:ws.length<=1099511627776) :
  ACalls Tryz.prog 48 [.agg (List.toArray [.int .i64 n,v]),w] H fun r H'=>r=.bool (decide (WtOk n es ws))/\H<+:H':=by
 refine in48 rfl ?_
 intro Q hQ
 simp (disch:=omega) only [cd48,hr.boxG,SS,eq_self,reduceIte,reduceCtorEq,Nat.reduceEqDiff,Nat.reduceAdd]
 generalize hA:H ++ [AObj.cells [.int .i64 n,v] 26 false]=A
 have pA:H<+:A:=by rw [<- hA];exact List.prefix_append _ _
 have cA:A[H.length]?=some (.cells [.int .i64 n,v] 26 false):=by rw [<- hA];exact at_new ..
 have rA:=hr.pre pA
 simp (disch:=omega) only [ld_agg ag26 cs26 cA,SS,eq_self,reduceIte,reduceCtorEq,Nat.reduceEqDiff,Nat.reduceAdd]
 refine CallH.by (IsGraph_c n v es A rA (by omega)) ?_
 rintro _ B ⟨rfl,pB⟩
 have cB:=pre_at pB cA
 have rB:=rA.pre pB
 have pHB:=pA.trans pB
 have wB:=hw.pre pHB
 by_cases e:Grd n es
 rotate_left
 ·simp (disch:=omega) only [decide_eq_false e,SS,eq_self,reduceIte,reduceCtorEq,Nat.reduceEqDiff,Nat.reduceAdd]
  refine hQ _ _ _ ?_
  simp (disch:=omega) only [SS,eq_self,reduceIte,reduceCtorEq,Nat.reduceEqDiff,Nat.reduceAdd]
  exact ⟨by rw [decide_eq_false (fun h=>e h.2.1.1)],pHB⟩
 by_cases e1:0<n
 rotate_left
 ·simp (disch:=omega) only [decide_eq_true e,cell_of cB,decide_eq_false e1,SS,eq_self,reduceIte,reduceCtorEq,Nat.reduceEqDiff,Nat.reduceAdd]
  refine hQ _ _ _ ?_
  simp (disch:=omega) only [SS,eq_self,reduceIte,reduceCtorEq,Nat.reduceEqDiff,Nat.reduceAdd]
  exact ⟨by rw [decide_eq_false (fun h=>e1 h.2.1.2)],pHB⟩
 by_cases e2:(ws.length:Int)=(es.length:Int)
 rotate_left
 ·simp (disch:=omega) only [decide_eq_true e,cell_of cB,decide_eq_true e1,wB.len Tryz.underlying27,rB.len Tryz.underlying24,decide_eq_false e2,SS,eq_self,reduceIte,reduceCtorEq,Nat.reduceEqDiff,Nat.reduceAdd]
  refine hQ _ _ _ ?_
  simp (disch:=omega) only [SS,eq_self,reduceIte,reduceCtorEq,Nat.reduceEqDiff,Nat.reduceAdd]
  exact ⟨by rw [decide_eq_false (fun h=>e2 (by have:=h.2.2;omega))],pHB⟩
 simp (disch:=omega) only [decide_eq_true e,cell_of cB,decide_eq_true e1,wB.len Tryz.underlying27,rB.len Tryz.underlying24,decide_eq_true e2,SS,eq_self,reduceIte,reduceCtorEq,Nat.reduceEqDiff,Nat.reduceAdd]
 refine CallH.by (ContainsFunc_c w ws (fun x=>!decide (0<=x/\x<=99)) 111 [] B wB hlw (fun x _=>isWeighted1_c x B)) ?_
 rintro _ _ ⟨rfl,rfl⟩
 simp (disch:=omega) only [SS,eq_self,reduceIte,reduceCtorEq,Nat.reduceEqDiff,Nat.reduceAdd]
 refine hQ _ _ _ ?_
 simp (disch:=omega) only [SS,eq_self,reduceIte,reduceCtorEq,Nat.reduceEqDiff,Nat.reduceAdd]
 refine ⟨?_,pHB⟩
 rw [Value.bool.injEq,Bool.eq_iff_iff,decide_eq_true_eq]
 constructor
 ·intro h
  refine ⟨fun x hx=>?_,⟨e,e1⟩,by omega⟩
  refine Classical.byContradiction fun hc=>?_
  have:ws.any (fun x=>!decide (0<=x/\x<=99))=true:=List.any_eq_true.2 ⟨x,hx,by rw [decide_eq_false hc];rfl⟩
  rw [this] at h
  cases h
 ·intro h
  cases ha:ws.any (fun x=>!decide (0<=x/\x<=99)) with
  | false=>rfl
  | true =>
   obtain ⟨x,hx,hq⟩:=List.any_eq_true.1 ha
   have:=h.1 x hx
   rw [decide_eq_true this] at hq
   cases hq
theorem heavy_c (w v:Value)(pw pl:Nat)(ws T:List Int)(least:Int)(H:AH)(hw:Row 3 H w ws)(hv:Row 3 H v T)(cw:H[pw]?=some (.cells [w] 27 false))(cl:H[pl]?=some (.cells [.int .i64 least] 3 false))(h0:∀ x ∈ ws,0<=x/\x<=99)(hT:∀ e ∈ T,0<=e/\e<ws.length)(hl:T.length<=1000)(hl2:ws.length<=1000) :
  ACalls Tryz.prog 58 [v,.pointer (some ⟨pw,0,none⟩),.pointer (some ⟨pl,0,none⟩)] H fun r H'=>r=.bool (decide (least<swL ws T))/\H=H':=by
 refine in58 rfl ?_
 intro Q hQ
 simp (disch:=omega) only [cd58,hv.len Tryz.underlying27,SS,eq_self,reduceIte,reduceCtorEq,Nat.reduceEqDiff,Nat.reduceAdd]
 refine LoopH.by (fun m s H'=>∃ i,m+i=T.length/\s 1=.pointer (some ⟨pw,0,none⟩)/\s 2=.pointer (some ⟨pl,0,none⟩)/\s 5=.int .i64 (swL ws (T.take i))/\s 8=v/\s 9=.int .i64 (T.length:Int)/\s 10=.int .i64 ((i:Nat):Int)/\H=H') T.length ?_ ?_
 ·exact ⟨0,by simp,rfl,rfl,rfl,rfl,rfl,rfl,rfl⟩
 rintro m s H' ⟨i,hm,s1,s2,s5,s8,s9,s10,rfl⟩
 simp (disch:=omega) only [s1,s2,s5,s8,s9,s10,SS,eq_self,reduceIte,reduceCtorEq,Nat.reduceEqDiff,Nat.reduceAdd]
 refine brD.intro (fun g=>?_) (fun g=>?_)
 ·have hi:i<T.length:=by omega
  have hme:T.getD i 0 ∈ T:=by simp [hi]
  have hr:=hT _ hme
  have hc:=hv.cell hi
  obtain ⟨x,hx⟩:∃ x:Nat,T.getD i 0=x:=⟨(T.getD i 0).toNat,by omega⟩
  have ht:=swL_take (ws:=ws) hi
  rw [hx] at hr hc ht
  rw [Int.toNat_natCast] at ht
  have hcw:=hw.cell (show x<ws.length by omega)
  have h3:=swL_rng h0 (T.take i)
  have h4:=swL_rng h0 (T.take (i+1))
  have h5:(T.take i).length<=1000:=by rw [List.length_take];omega
  have h6:(T.take (i+1)).length<=1000:=by rw [List.length_take];omega
  have hwr:IntKind.i64.wrap (swL ws (T.take i)+ws.getD x 0)=swL ws (T.take (i+1)):=by rw [<- ht];exact wrap64 (by omega) (by omega)
  simp (disch:=omega) only [s1,s2,s5,s8,s9,s10,cell_of cw,hv.ix Tryz.underlying27 cs3,hw.ix Tryz.underlying27 cs3,Int.toNat_natCast,hc,hcw,hwr,wrap64,SS,eq_self,reduceIte,reduceCtorEq,Nat.reduceEqDiff,Nat.reduceAdd]
  refine ⟨m - 1,by omega,i+1,?_⟩
  (repeat' apply And.intro) <;> first | exact h6 | (simp only [Value.int.injEq,true_and];omega) | omega | rfl | assumption | (simp;done) | (simp;omega)
 ·have hi:i=T.length:=by omega
  subst hi
  simp (disch:=omega) only [s2,s5,cell_of cl,SS,eq_self,reduceIte,reduceCtorEq,Nat.reduceEqDiff,Nat.reduceAdd]
  refine hQ _ _ _ ?_
  simp (disch:=omega) only [SS,eq_self,reduceIte,reduceCtorEq,Nat.reduceEqDiff,Nat.reduceAdd]
  rw [List.take_length]
def cd49:Cd:=(.seq (.reg [⟨⟨some 3,.box 26 (.tmp 0),none⟩,[]⟩,⟨⟨some 6,.assign (.const (.int .i64 0)),none⟩,[]⟩,⟨⟨some 7,.assign (.const (.bool false)),none⟩,[]⟩]) (.seq (.reg [⟨⟨some 16,.fieldAddr 26 (.tmp 3) 0,none⟩,[]⟩,⟨⟨some 17,.load 3 (.tmp 16),none⟩,[]⟩,⟨⟨some 18,.call ⟨(.value (.func 112)),#[.tmp 17],#[3]⟩,none⟩,[]⟩,⟨⟨some 8,.assign (.tmp 18),none⟩,[]⟩,⟨⟨some 9,.assign (.const (.int .i64 0)),none⟩,[]⟩,⟨⟨some 10,.assign (.const (.int .i64 0)),none⟩,[]⟩]) (.seq (.seq (.reg [⟨⟨some 19,.move (.tmp 2),none⟩,[]⟩,⟨⟨some 20,.call ⟨(.builtin .len),#[.tmp 19],#[27]⟩,none⟩,[]⟩,⟨⟨some 21,.move (.const (.int .i64 0)),none⟩,[]⟩]) (.block 0 (.loop (.seq (.reg [⟨⟨some 22,.binOp .lss 3 (.tmp 21) (.tmp 20) 3,none⟩,[]⟩]) (.seq (.cond (.tmp 22) .skip (.exit 0)) (.seq (.block 1 (.seq (.reg [⟨⟨some 23,.indexAddr 27 (.tmp 19) (.tmp 21),none⟩,[]⟩,⟨⟨some 24,.load 3 (.tmp 23),none⟩,[]⟩,⟨⟨some 12,.assign (.tmp 24),none⟩,[]⟩]) (.seq (.seq (.reg [⟨⟨some 25,.move (.tmp 8),none⟩,[]⟩,
 ⟨⟨some 26,.fieldAddr 26 (.tmp 3) 1,none⟩,[]⟩,⟨⟨some 27,.load 24 (.tmp 26),none⟩,[]⟩,⟨⟨some 28,.move (.tmp 12),none⟩,[]⟩,⟨⟨some 29,.indexAddr 24 (.tmp 27) (.tmp 28),none⟩,[]⟩,⟨⟨some 30,.load 115 (.tmp 29),none⟩,[]⟩,⟨⟨some 31,.call ⟨(.value (.func 113)),#[.tmp 25,.tmp 30],#[117,115]⟩,none⟩,[]⟩,⟨⟨some 32,.unOp .not 4 (.tmp 31),none⟩,[]⟩]) (.cond (.tmp 32) (.seq (.reg [⟨⟨some 6,.assign (.const (.int .i64 0)),none⟩,[]⟩,⟨⟨some 7,.assign (.const (.bool false)),none⟩,[]⟩]) .ret) .skip)) (.reg [⟨⟨some 33,.move (.tmp 9),none⟩,[]⟩,⟨⟨some 34,.move (.tmp 1),none⟩,[]⟩,⟨⟨some 35,.move (.tmp 12),none⟩,[]⟩,⟨⟨some 36,.indexAddr 27 (.tmp 34) (.tmp 35),none⟩,[]⟩,⟨⟨some 37,.load 3 (.tmp 36),none⟩,[]⟩,
 ⟨⟨some 38,.binOp .add 3 (.tmp 33) (.tmp 37) 3,none⟩,[]⟩,⟨⟨some 39,.move (.tmp 10),none⟩,[]⟩,⟨⟨some 40,.binOp .add 3 (.tmp 39) (.const (.int .i64 1)) 3,none⟩,[]⟩,⟨⟨some 9,.assign (.tmp 38),none⟩,[]⟩,⟨⟨some 10,.assign (.tmp 40),none⟩,[]⟩])))) (.reg [⟨⟨some 41,.binOp .add 3 (.tmp 21) (.const (.int .i64 1)) 3,none⟩,[]⟩,⟨⟨some 21,.move (.tmp 41),none⟩,[]⟩]))))))) (.seq (.seq (.reg [⟨⟨some 42,.move (.const (.int .i64 0)),none⟩,[]⟩]) (.block 2 (.loop (.seq (.reg [⟨⟨some 43,.binOp .lss 3 (.tmp 42) (.const (.int .i64 100)) 3,none⟩,[]⟩]) (.seq (.cond (.tmp 43) .skip (.exit 2)) (.seq (.block 3 (.seq (.reg [⟨⟨some 44,.move (.tmp 42),none⟩,[]⟩,⟨⟨some 13,.assign (.tmp 44),none⟩,[]⟩]) (.seq (.reg [⟨⟨some 45,.fieldAddr 26 (.tmp 3) 1,none⟩,[]⟩,⟨⟨some 46,.load 24 (.tmp 45),none⟩,[]⟩,⟨⟨some 47,.call ⟨(.builtin .len),#[.tmp 46],#[24]⟩,none⟩,[]⟩,⟨⟨some 48,.move (.const (.int .i64 0)),none⟩,[]⟩]) (.block 4 (.loop (.seq (.reg [⟨⟨some 49,.binOp .lss 3 (.tmp 48) (.tmp 47) 3,none⟩,[]⟩]) (.seq (.cond (.tmp 49) .skip (.exit 4)) (.seq (.block 5 (.seq (.reg [⟨⟨some 50,.move (.tmp 48),none⟩,[]⟩,⟨⟨some 51,.indexAddr 24 (.tmp 46) (.tmp 48),none⟩,[]⟩,⟨⟨some 52,.load 115 (.tmp 51),none⟩,[]⟩,
 ⟨⟨some 15,.alloc 115,none⟩,[]⟩,⟨⟨some 14,.assign (.tmp 50),none⟩,[]⟩,⟨⟨none,.store 115 (.tmp 15) (.tmp 52),none⟩,[]⟩]) (.seq (.reg [⟨⟨some 53,.move (.tmp 1),none⟩,[]⟩,⟨⟨some 54,.move (.tmp 14),none⟩,[]⟩,⟨⟨some 55,.indexAddr 27 (.tmp 53) (.tmp 54),none⟩,[]⟩,⟨⟨some 56,.load 3 (.tmp 55),none⟩,[]⟩,⟨⟨some 57,.move (.tmp 13),none⟩,[]⟩,⟨⟨some 58,.binOp .eql 3 (.tmp 56) (.tmp 57) 3,none⟩,[]⟩,⟨⟨some 59,.move (.tmp 58),none⟩,[]⟩,⟨⟨some 60,.move (.tmp 8),some (59,true)⟩,[]⟩,⟨⟨some 61,.load 115 (.tmp 15),some (59,true)⟩,[]⟩,⟨⟨some 62,.call ⟨(.value (.func 113)),#[.tmp 60,.tmp 61],#[117,115]⟩,some (59,true)⟩,[]⟩,
 ⟨⟨some 63,.pick (.tmp 59) (.tmp 62) (.const (.bool false)),none⟩,[]⟩]) (.cond (.tmp 63) (.reg [⟨⟨some 64,.move (.tmp 9),none⟩,[]⟩,⟨⟨some 65,.move (.tmp 13),none⟩,[]⟩,⟨⟨some 66,.binOp .add 3 (.tmp 64) (.tmp 65) 3,none⟩,[]⟩,⟨⟨some 67,.move (.tmp 10),none⟩,[]⟩,⟨⟨some 68,.binOp .add 3 (.tmp 67) (.const (.int .i64 1)) 3,none⟩,[]⟩,⟨⟨some 9,.assign (.tmp 66),none⟩,[]⟩,⟨⟨some 10,.assign (.tmp 68),none⟩,[]⟩]) .skip)))) (.reg [⟨⟨some 69,.binOp .add 3 (.tmp 48) (.const (.int .i64 1)) 3,none⟩,[]⟩,⟨⟨some 48,.move (.tmp 69),none⟩,[]⟩]))))))))) (.reg [⟨⟨some 70,.binOp .add 3 (.tmp 42) (.const (.int .i64 1)) 3,none⟩,[]⟩,⟨⟨some 42,.move (.tmp 70),none⟩,[]⟩]))))))) (.seq (.reg [⟨⟨some 71,.move (.tmp 9),none⟩,[]⟩,⟨⟨some 72,.move (.tmp 10),none⟩,[]⟩,⟨⟨some 73,.fieldAddr 26 (.tmp 3) 0,none⟩,[]⟩,⟨⟨some 74,.load 3 (.tmp 73),none⟩,[]⟩,
 ⟨⟨some 75,.binOp .sub 3 (.tmp 74) (.const (.int .i64 1)) 3,none⟩,[]⟩,
  ⟨⟨some 76,.binOp .eql 3 (.tmp 72) (.tmp 75) 3,none⟩,[]⟩,
  ⟨⟨some 6,.assign (.tmp 71),none⟩,[]⟩,
  ⟨⟨some 7,.assign (.tmp 76),none⟩,[]⟩]) .ret)))))
theorem in49:InT Tryz.prog 49 3 [.tmp 6,.tmp 7] cd49:=InT.mk (by kernel_rfl) [(19,[(0,false),(1,false),(2,false),(3,false),(4,false),(5,false),(6,false),(7,false)])] Tryz.func49 rfl (by kernel_rfl) (by kernel_rfl) (of_decide_eq_true (by kernel_rfl)) (by kernel_rfl)
end Go.Proofs.YtlcipphiflcaiaaGreat.Ai
namespace Go.Proofs.YtlcipphiflcaiaaGreat.Ai
open Go Go.RowKit
theorem krN_step {n:Nat}{es:List (Int × Int)}{ws:List Int}{w:Int}{K:List Int}{j:Nat}:krN n es ws w K (j+1)=if ws.getD j 0=w/\jnB es n (krN n es ws w K j) (enA es (j:Int)) (enB es (j:Int))=false then krN n es ws w K j ++ [(j:Int)] else krN n es ws w K j:=rfl
theorem lightest_c (n:Nat)(hn:1<=n)(v w:Value)(es:List (Int × Int))(ws:List Int)(H:AH)(hr:RowP 115 H v es)(hg:Grd (n:Int) es)(hw:Row 3 H w ws)(hlw:ws.length=es.length)(h0:∀ x ∈ ws,0<=x/\x<=99) :
  ACalls Tryz.prog 49 [.agg (List.toArray [.int .i64 (n:Int),v]),w,.slice none 0 0] H fun r H'=>∃ b,r=.tuple (List.toArray [.int .i64 (swL ws (krW n es ws 100)),.bool b])/\H<+:H':=by
 have h28:es.length<=28:=grd_len hg
 have hn8:n<=8:=by have:=hg.1;omega
 have hw0:∀ e:Nat,e<es.length->0<=ws.getD e 0:=fun e he=>(h0 _ (by simp [show e<ws.length by omega])).1
 refine in49 rfl ?_
 intro Q hQ
 simp (disch:=omega) only [cd49,hr.boxG,SS,eq_self,reduceIte,reduceCtorEq,Nat.reduceEqDiff,Nat.reduceAdd]
 generalize hA:H ++ [AObj.cells [.int .i64 ↑n,v] 26 false]=A
 have pA:H<+:A:=by rw [<- hA];exact List.prefix_append _ _
 have cA:A[H.length]?=some (.cells [.int .i64 ↑n,v] 26 false):=by rw [<- hA];exact at_new ..
 have rA:=hr.pre pA
 have wA:=hw.pre pA
 simp (disch:=omega) only [cell_of cA,SS,eq_self,reduceIte,reduceCtorEq,Nat.reduceEqDiff,Nat.reduceAdd]
 refine CallH.by (newJoiner_c n A (by omega)) ?_
 rintro jv B ⟨hOwn,pB⟩
 obtain ⟨o,ejv,ho1,hoB⟩:∃ o,jv=.slice (some ⟨o,0,none⟩) n n/\A.length<=o/\B[o]?=some (.cells (ints (alls n)) 3 false):=by
  have hal:(alls n).length=n:=by simp [alls]
  rcases hOwn with ⟨_,q⟩ | ⟨o,q1,q2,q3⟩
  ·rw [q] at hal;simp at hal;omega
  ·rw [hal] at q1;exact ⟨o,q1,q2,q3⟩
 subst ejv
 have hw1:IntKind.i64.wrap ((n:Int) - 1)=(n:Int) - 1:=wrap64 (by omega) (by omega)
 simp (disch:=omega) only [SS,eq_self,reduceIte,reduceCtorEq,Nat.reduceEqDiff,Nat.reduceAdd]
 refine LoopH.by (fun m s H'=>s 1=w/\s 3=.pointer (some ⟨H.length,0,none⟩)/\s 8=.slice (some ⟨o,0,none⟩) n n/\s 9=.int .i64 0/\s 10=.int .i64 0/\s 20=.int .i64 0/\s 21=.int .i64 0/\B=H') 0 ?_ ?_
 ·exact ⟨rfl,rfl,rfl,rfl,rfl,rfl,rfl,rfl⟩
 rintro m s H' ⟨s1,s3,s8,s9,s10,s20,s21,rfl⟩
 simp (disch:=omega) only [s1,s3,s8,s9,s10,s20,s21,SS,eq_self,reduceIte,reduceCtorEq,Nat.reduceEqDiff,Nat.reduceAdd]
 refine brD.intro (fun z=>absurd z (by decide)) (fun _=>?_)
 simp (disch:=omega) only [s1,s3,s8,s9,s10,s20,s21,SS,eq_self,reduceIte,reduceCtorEq,Nat.reduceEqDiff,Nat.reduceAdd]
 refine LoopH.by (fun m s H'=>∃ (i:Nat) (J:List Int),m+i=100/\s 1=w/\s 3=.pointer (some ⟨H.length,0,none⟩)/\s 8=.slice (some ⟨o,0,none⟩) n n/\s 9=.int .i64 (swL ws (krW n es ws i))/\s 10=.int .i64 ((krW n es ws i).length:Int)/\s 42=.int .i64 ((i:Nat):Int)/\H'[o]?=some (.cells (ints J) 3 false)/\JR es (krW n es ws i) n J/\Keeps o B H') 100 ?_ ?_
 ·refine ⟨0,alls n,by omega,?_⟩
  simp (disch:=omega) only [s1,s3,s8,s9,s10,SS,eq_self,reduceIte,reduceCtorEq,Nat.reduceEqDiff,Nat.reduceAdd]
  have f2:JR es (krW n es ws 0) n (alls n):=JR.zero es n
  have f3:Keeps o B B:=Keeps.of_pre (List.prefix_refl _)
  have z1:swL ws (krW n es ws 0)=0:=rfl
  have z2:((krW n es ws 0).length:Int)=0:=rfl
  simp (disch:=omega) only [z1,z2,SS,eq_self,reduceIte,reduceCtorEq,Nat.reduceEqDiff,Nat.reduceAdd]
  (repeat' first | exact hoB | exact f2 | exact f3 | apply And.intro) <;> first | (simp only [Value.int.injEq,true_and];omega) | omega | rfl | assumption | (simp;done) | (simp;omega)
 rintro m1 t H1 ⟨i,J,hm,t1,t3,t8,t9,t10,t42,hJ,hjr,kH⟩
 have hpA:=keepsA kH pB ho1
 have cH:=pre_at hpA cA
 have rH:=rA.pre hpA
 have wH:=wA.pre hpA
 simp (disch:=omega) only [t1,t3,t8,t9,t10,t42,SS,eq_self,reduceIte,reduceCtorEq,Nat.reduceEqDiff,Nat.reduceAdd]
 refine brD.intro (fun g=>?_) (fun g=>?_)
 rotate_left
 ·have hi:i=100:=by omega
  subst hi
  simp (disch:=omega) only [t1,t3,t8,t9,t10,t42,cell_of cH,hw1,SS,eq_self,reduceIte,reduceCtorEq,Nat.reduceEqDiff,Nat.reduceAdd]
  refine hQ _ _ _ ?_
  simp (disch:=omega) only [SS,eq_self,reduceIte,reduceCtorEq,Nat.reduceEqDiff,Nat.reduceAdd]
  exact ⟨_,rfl,pA.trans hpA⟩
 have hi:i<100:=by omega
 simp (disch:=omega) only [t1,t3,t8,t9,t10,t42,cell_of cH,rH.len Tryz.underlying24,SS,eq_self,reduceIte,reduceCtorEq,Nat.reduceEqDiff,Nat.reduceAdd]
 refine LoopH.by (fun m s H'=>∃ (j:Nat) (J:List Int),m+j=es.length/\s 1=w/\s 3=.pointer (some ⟨H.length,0,none⟩)/\s 8=.slice (some ⟨o,0,none⟩) n n/\s 9=.int .i64 (swL ws (krN n es ws (i:Int) (krW n es ws i) j))/\s 10=.int .i64 ((krN n es ws (i:Int) (krW n es ws i) j).length:Int)/\s 42=.int .i64 ((i:Nat):Int)/\s 13=.int .i64 ((i:Nat):Int)/\s 46=v/\s 47=.int .i64 (es.length:Int)/\s 48=.int .i64 ((j:Nat):Int)/\H'[o]?=some (.cells (ints J) 3 false)/\JR es (krN n es ws (i:Int) (krW n es ws i) j) n J/\Keeps o B H') es.length ?_ ?_
 ·refine ⟨0,J,by omega,?_⟩
  simp (disch:=omega) only [t1,t3,t8,t9,t10,t42,SS,eq_self,reduceIte,reduceCtorEq,Nat.reduceEqDiff,Nat.reduceAdd]
  have f2:JR es (krN n es ws (i:Int) (krW n es ws i) 0) n J:=hjr
  have z1:krN n es ws (i:Int) (krW n es ws i) 0=krW n es ws i:=rfl
  simp (disch:=omega) only [z1,SS,eq_self,reduceIte,reduceCtorEq,Nat.reduceEqDiff,Nat.reduceAdd]
  (repeat' first | exact hJ | exact hjr | exact kH | apply And.intro) <;> first | (simp only [Value.int.injEq,true_and];omega) | omega | rfl | assumption | (simp;done) | (simp;omega)
 rintro m2 u H2 ⟨j,J2,hm2,u1,u3,u8,u9,u10,u42,u13,u46,u47,u48,hJ2,hjr2,kH2⟩
 have hpA2:=keepsA kH2 pB ho1
 have rH2:=rA.pre hpA2
 have wH2:=wA.pre hpA2
 simp (disch:=omega) only [u1,u3,u8,u9,u10,u42,u13,u46,u47,u48,SS,eq_self,reduceIte,reduceCtorEq,Nat.reduceEqDiff,Nat.reduceAdd]
 refine brD.intro (fun g2=>?_) (fun g2=>?_)
 rotate_left
 ·have hj:j=es.length:=by omega
  subst hj
  have z1:krN n es ws (i:Int) (krW n es ws i) es.length=krW n es ws (i+1):=rfl
  rw [z1] at u9 u10 hjr2
  simp (disch:=omega) only [u1,u3,u8,u9,u10,u42,wrap64,SS,eq_self,reduceIte,reduceCtorEq,Nat.reduceEqDiff,Nat.reduceAdd]
  refine ⟨m1 - 1,by omega,i+1,J2,?_⟩
  (repeat' first | exact hJ2 | exact hjr2 | exact kH2 | apply And.intro) <;> first | (simp only [Value.int.injEq,true_and];omega) | omega | rfl | assumption | (simp;done) | (simp;omega)
 have hj:j<es.length:=by omega
 obtain ⟨hK,hKl⟩:=krN_len hn hg hw0 i j (by omega)
 have hend:=en_eq hg (e:=(j:Int)) ⟨by omega,by omega⟩
 rw [Int.toNat_natCast] at hend
 have hst0:=store_a2 H2 [.int .i64 0,.int .i64 0] rfl
 have hc:=(wH2.pre (List.prefix_append H2 [AObj.cells [.int .i64 (es.getD j (0,0)).1,.int .i64 (es.getD j (0,0)).2] 115 false])).cell (show j<ws.length by omega)
 have hstep:=krN_step (n:=n) (es:=es) (ws:=ws) (w:=(i:Int)) (K:=krW n es ws i) (j:=j)
 simp (disch:=omega) only [u1,u3,u8,u9,u10,u42,u13,u46,u47,u48,rH2.ix Tryz.underlying24 cs115,Int.toNat_natCast,rH2.ld ag115 cs115 hj,alloc_a2,hst0,SS,eq_self,reduceIte,reduceCtorEq,Nat.reduceEqDiff,Nat.reduceAdd]
 generalize hD:H2 ++ [AObj.cells [.int .i64 (es.getD j (0,0)).1,.int .i64 (es.getD j (0,0)).2] 115 false]=D at *
 have pD:H2<+:D:=by rw [<- hD];exact List.prefix_append _ _
 have cP:D[H2.length]?=some (.cells [.int .i64 (es.getD j (0,0)).1,.int .i64 (es.getD j (0,0)).2] 115 false):=by rw [<- hD];exact at_new ..
 have wD:=wH2.pre pD
 have kD:Keeps o B D:=kH2.trans (Keeps.of_pre pD)
 have hJD:=pre_at pD hJ2
 by_cases e:ws.getD j 0=(i:Int)
 rotate_left
 ·rw [if_neg (fun h=>e h.1)] at hstep
  simp (disch:=omega) only [u1,u3,u8,u9,u10,u42,u13,u46,u47,u48,wD.ix Tryz.underlying27 cs3,Int.toNat_natCast,hc,decide_eq_false e,wrap64,SS,eq_self,reduceIte,reduceCtorEq,Nat.reduceEqDiff,Nat.reduceAdd]
  rw [<- hstep] at hjr2 ⊢
  refine ⟨m2 - 1,by omega,j+1,J2,?_⟩
  (repeat' first | exact hJD | exact hjr2 | exact kD | apply And.intro) <;> first | (simp only [Value.int.injEq,true_and];omega) | omega | rfl | assumption | (simp;done) | (simp;omega)
 simp (disch:=omega) only [u1,u3,u8,u9,u10,u42,u13,u46,u47,u48,wD.ix Tryz.underlying27 cs3,Int.toNat_natCast,hc,decide_eq_true e,ld_a2 cP,SS,eq_self,reduceIte,reduceCtorEq,Nat.reduceEqDiff,Nat.reduceAdd]
 have hjc:=join_c hjr2 o D hJD (j:Int) (by omega) (by omega) (by rw [Int.toNat_natCast];exact congrArg Prod.fst hend.1) (by rw [Int.toNat_natCast];exact congrArg Prod.snd hend.1)
 rw [Int.toNat_natCast] at hjc
 refine CallH.by hjc ?_
 rintro _ G ⟨b,J',rfl,hb,hJ',hjr',k2⟩
 have kG:=kD.trans k2
 have hjb:=jnB_iff hg hK.ed (i:=enA es (j:Int)) (j:=enB es (j:Int)) (by omega) (by omega)
 have hjn:=jnB_not hg hK.ed (i:=enA es (j:Int)) (j:=enB es (j:Int)) (by omega) (by omega)
 cases b with
 | false =>
  have hJn:Jn es (krN n es ws (i:Int) (krW n es ws i) j) (enA es (j:Int)) (enB es (j:Int)):=Classical.byContradiction fun q=>by have:=hb.2 q;cases this
  rw [if_neg (fun h=>hjn.1 h.2 hJn)] at hstep
  have f2:JR es (krN n es ws (i:Int) (krW n es ws i) j) n J':=by
   obtain ⟨rt,d,a1,a2⟩:=hjr'
   exact ⟨rt,d,a1,fun x y hx hy=>Iff.trans ⟨fun h=>h.mono fun z hz=>List.mem_append_left _ hz,fun h=>Jn.same (e:=(j:Int)) (fun z hz=>by
    rcases List.mem_append.1 hz with q | q
    ·exact .inl q
    ·exact .inr (List.mem_singleton.1 q)) hJn h⟩ (a2 x y hx hy)⟩
  simp (disch:=omega) only [u1,u3,u8,u9,u10,u42,u13,u46,u47,u48,wrap64,SS,eq_self,reduceIte,reduceCtorEq,Nat.reduceEqDiff,Nat.reduceAdd]
  rw [<- hstep] at f2 ⊢
  refine ⟨m2 - 1,by omega,j+1,J',?_⟩
  (repeat' first | exact hJ' | exact f2 | exact kG | apply And.intro) <;> first | (simp only [Value.int.injEq,true_and];omega) | omega | rfl | assumption | (simp;done) | (simp;omega)
 | true =>
  have hJn:=hjn.2 (hb.1 rfl)
  rw [if_pos ⟨e,hJn⟩] at hstep
  have h3:=swL_rng h0 (krN n es ws (i:Int) (krW n es ws i) j)
  have h4:swL ws (krN n es ws (i:Int) (krW n es ws i) (j+1))=swL ws (krN n es ws (i:Int) (krW n es ws i) j)+(i:Int):=by
   rw [hstep,swL_app,<- e];simp [swL]
  have h5:((krN n es ws (i:Int) (krW n es ws i) (j+1)).length:Int)=((krN n es ws (i:Int) (krW n es ws i) j).length:Int)+1:=by
   rw [hstep,List.length_append];rfl
  have hwr:IntKind.i64.wrap (swL ws (krN n es ws (i:Int) (krW n es ws i) j)+(i:Int))=swL ws (krN n es ws (i:Int) (krW n es ws i) (j+1)):=by rw [h4];exact wrap64 (by omega) (by omega)
  have hwl:IntKind.i64.wrap (((krN n es ws (i:Int) (krW n es ws i) j).length:Int)+1)=((krN n es ws (i:Int) (krW n es ws i) (j+1)).length:Int):=by rw [h5];exact wrap64 (by omega) (by omega)
  simp (disch:=omega) only [u1,u3,u8,u9,u10,u42,u13,u46,u47,u48,hwr,hwl,wrap64,SS,eq_self,reduceIte,reduceCtorEq,Nat.reduceEqDiff,Nat.reduceAdd]
  rw [<- hstep] at hjr'
  refine ⟨m2 - 1,by omega,j+1,J',?_⟩
  (repeat' first | exact hJ' | exact hjr' | exact kG | apply And.intro) <;> first | (simp only [Value.int.injEq,true_and];omega) | omega | rfl | assumption | (simp;done) | (simp;omega)
theorem tre_eq {n:Nat}{es:List (Int × Int)}(hg:Grd (n:Int) es){a b:List Int}(hA:TreL n es a)(hB:TreL n es b)(h:∀ x ∈ b,x ∈ a):a=b:=by
 have nb:b.Nodup:=hB.2.1.imp fun q e=>by omega
 refine srt_ext hA.2.1 hB.2.1 fun z=>⟨fun hz=>?_,h z⟩
 refine Classical.byContradiction fun hzb=>?_
 have:=nodup_le (a:=z :: b) (b:=a) (List.nodup_cons.2 ⟨hzb,nb⟩) fun y hy=>by
  rcases List.mem_cons.1 hy with rfl | hy
  ·exact hz
  ·exact h y hy
 have h1:=hA.1
 have h2:=hB.1
 simp only [List.length_cons] at this
 omega
theorem cmpI_swap (a b:Int):cmpI b a = - cmpI a b:=by unfold cmpI;split <;> split <;> (try split) <;> omega
theorem cmpI_lt {a b:Int}:cmpI a b<0↔a<b:=by unfold cmpI;split <;> (try split) <;> omega
theorem cmpI_eq {a b:Int}:cmpI a b=0↔a=b:=by unfold cmpI;split <;> (try split) <;> omega
theorem cmpL_swap:∀ a b:List Int,cmpL b a = - cmpL a b
 | [],[]=>rfl
 | [],_ :: _=>rfl
 | _ :: _,[]=>rfl
 | x :: a,y :: b=>by
  rw [cmpL,cmpL,cmpI_swap x y]
  by_cases h:cmpI x y=0
  ·rw [if_neg (by omega),if_neg (by omega)];exact cmpL_swap a b
  ·rw [if_pos (by omega),if_pos h]
theorem srt_lt {ls:List (List Int)}(h:SrtL ls){i j:Nat}(hij:i<j)(hj:j<ls.length):cmpL (ls.getD i []) (ls.getD j [])<0:=by
 have:=h i j hij hj
 rw [cmpL_swap];omega
theorem srt_uniq {ls:List (List Int)}(h:SrtL ls){i j:Nat}(hi:i<ls.length)(hj:j<ls.length)(e:ls.getD i []=ls.getD j []):i=j:=by
 rcases Nat.lt_trichotomy i j with q | q | q
 ·have:=srt_lt h q hj;rw [e,cmpL_self] at this;omega
 ·exact q
 ·have:=srt_lt h q hi;rw [e,cmpL_self] at this;omega
theorem mem_at {ls:List (List Int)}{t:List Int}(h:t ∈ ls):∃ i,i<ls.length/\ls.getD i []=t:=by
 obtain ⟨i,hi,e⟩:=List.mem_iff_getElem.1 h
 exact ⟨i,hi,by simp [hi,e]⟩
section
variable {L:List (List Int)} (hL:LOk L.length L) (hs:Sym L) {j:Nat} (hj:j<L.length)
include hL hs hj
end
theorem swL_pm {ws l m:List Int}(h:l.Perm m):swL ws l=swL ws m:=by
 unfold swL
 induction h with
 | nil=>rfl
 | cons x _ ih=>simp only [List.map_cons,List.sum_cons,ih]
 | swap x y l=>simp only [List.map_cons,List.sum_cons];omega
 | trans _ _ i1 i2=>exact i1.trans i2
def krG (n:Nat)(es:List (Int × Int))(ws W:List Int):Nat->List Int
 | 0=>W
 | w+1=>krN n es ws (w:Int) (krG n es ws W w) es.length
theorem krG_nil (n:Nat)(es:List (Int × Int))(ws:List Int):∀ w,krG n es ws [] w=krW n es ws w
 | 0=>rfl
 | w+1=>by rw [krG,krG_nil n es ws w];rfl
structure KF (es:List (Int × Int)) (K:List Int):Prop where
 fst:Fst es K
 nd:K.Nodup
 ed:EdIn es K
theorem KF.nil (es:List (Int × Int)):KF es []:=⟨Fst.nil es,.nil,fun e he=>by simp at he⟩
theorem KF.snoc {es:List (Int × Int)}{K:List Int}(h:KF es K){e:Int}(he:0<=e/\e<es.length)(hn:¬ Jn es K (enA es e) (enB es e)):KF es (K ++ [e]):=by
 refine ⟨h.fst.snoc hn,?_,?_⟩
 ·rw [List.nodup_append]
  refine ⟨h.nd,by simp,fun a ha b hb q=>?_⟩
  rw [List.mem_singleton.1 hb] at q
  subst q
  exact hn (.edge _ ha)
 ·intro x hx
  rcases List.mem_append.1 hx with q | q
  ·exact h.ed x q
  ·rw [List.mem_singleton.1 q];exact he
theorem krN_succ (n:Nat)(es:List (Int × Int))(ws:List Int)(w:Int)(K:List Int)(k:Nat):krN n es ws w K (k+1)=if ws.getD k 0=w/\jnB es n (krN n es ws w K k) (enA es (k:Int)) (enB es (k:Int))=false then krN n es ws w K k ++ [(k:Int)] else krN n es ws w K k:=rfl
theorem krN_kf {n:Nat}{es:List (Int × Int)}{ws:List Int}(hg:Grd (n:Int) es){w:Int}{K:List Int}(h:KF es K):∀ k,k<=es.length->KF es (krN n es ws w K k):=by
 intro k
 induction k with
 | zero=>intro _;exact h
 | succ k ih =>
  intro hk
  have i1:=ih (by omega)
  rw [krN_succ]
  split
  ·rename_i c
   have hend:=en_eq hg (e:=(k:Int)) ⟨by omega,by omega⟩
   have:=(jnB_not hg i1.ed (i:=enA es (k:Int)) (j:=enB es (k:Int)) (by omega) (by omega)).1 c.2
   exact i1.snoc ⟨by omega,by omega⟩ this
  ·exact i1
theorem krG_kf {n:Nat}{es:List (Int × Int)}{ws W:List Int}(hg:Grd (n:Int) es)(h:KF es W):∀ w,KF es (krG n es ws W w)
 | 0=>h
 | w+1=>krN_kf hg (krG_kf hg h w) _ (Nat.le_refl _)
theorem krN_mono {n:Nat}{es:List (Int × Int)}{ws:List Int}{w:Int}{K:List Int}{x:Int}:∀ {k j:Nat},k<=j->x ∈ krN n es ws w K k->x ∈ krN n es ws w K j:=by
 intro k j h hx
 induction j with
 | zero=>rw [show k=0 by omega] at hx;exact hx
 | succ j ih =>
  by_cases e:k=j+1
  ·subst e;exact hx
  ·have:=ih (by omega)
   rw [krN_succ];split
   ·exact List.mem_append_left _ this
   ·exact this
theorem krG_mono {n:Nat}{es:List (Int × Int)}{ws W:List Int}{x:Int}:∀ {w v:Nat},w<=v->x ∈ krG n es ws W w->x ∈ krG n es ws W v:=by
 intro w v h hx
 induction v with
 | zero=>rw [show w=0 by omega] at hx;exact hx
 | succ v ih =>
  by_cases e:w=v+1
  ·subst e;exact hx
  ·exact krN_mono (Nat.zero_le _) (ih (by omega))
theorem krN_mem {n:Nat}{es:List (Int × Int)}{ws:List Int}{w:Int}{K:List Int}{x:Int}:∀ {k:Nat},x ∈ krN n es ws w K k->x ∈ K∨(ws.getD x.toNat 0=w/\0<=x/\x<k):=by
 intro k
 induction k with
 | zero=>exact .inl
 | succ k ih =>
  intro h
  rw [krN_succ] at h
  split at h
  ·rename_i c
   rcases List.mem_append.1 h with q | q
   ·rcases ih q with p | p
    ·exact .inl p
    ·exact .inr ⟨p.1,p.2.1,by omega⟩
   ·rw [List.mem_singleton.1 q,Int.toNat_natCast];exact .inr ⟨c.1,by omega,by omega⟩
  ·rcases ih h with p | p
   ·exact .inl p
   ·exact .inr ⟨p.1,p.2.1,by omega⟩
theorem krW_lt {n:Nat}{es:List (Int × Int)}{ws:List Int}{x:Int}:∀ {w:Nat},x ∈ krW n es ws w->ws.getD x.toNat 0<(w:Int):=by
 intro w
 induction w with
 | zero=>intro h;simp [krW] at h
 | succ w ih =>
  intro h
  rcases krN_mem (show x ∈ krN n es ws (w:Int) (krW n es ws w) es.length from h) with p | p
  ·have:=ih p;omega
  ·omega
theorem KF.tree {n:Nat}{es:List (Int × Int)}{K:List Int}(hg:Grd (n:Int) es)(h:KF es K)(hl:K.length+1=n):TreL n es (puts K):=by
 have hp:=puts_perm _ K rfl h.nd
 have hc:=(tree_iff h.nd hl (h.ed.ends hg)).1 h.fst
 exact ⟨by rw [hp.1.length_eq];exact hl,hp.2,h.ed.sub fun x hx=>hp.1.mem_iff.1 hx,fun x y hx hy=>(hc x y hx hy).mono fun e he=>hp.1.mem_iff.2 he⟩
theorem TreL.nd {n:Nat}{es:List (Int × Int)}{T:List Int}(h:TreL n es T):T.Nodup:=h.2.1.imp fun q e=>by omega
theorem TreL.part {n:Nat}{es:List (Int × Int)}{T W:List Int}(hg:Grd (n:Int) es)(h:TreL n es T)(hW:W.Nodup)(hs:∀ x ∈ W,x ∈ T):KF es W:=by
 refine ⟨fun k hk hj=>?_,hW,h.2.2.1.sub hs⟩
 have hm:W.getD k 0 ∈ W:=by simp [hk]
 refine (h.tree hg).bridge (hs _ hm) (hj.mono fun x hx=>wo1_mem.2 ⟨hs x (List.mem_of_mem_take hx),fun q=>?_⟩)
 obtain ⟨i,hi,he⟩:=List.mem_iff_getElem.1 hx
 rw [List.length_take] at hi
 rw [List.getElem_take] at he
 have:W.getD k 0=W[k]:=by simp [hk]
 rw [this] at q
 have:=(List.pairwise_iff_getElem.1 hW) i k (by omega) hk (by omega)
 exact this (he.trans q)
theorem kr_conn {n:Nat}(hn:1<=n){es:List (Int × Int)}(hg:Grd (n:Int) es){ws:List Int}(hw:∀ e:Nat,e<es.length->0<=ws.getD e 0/\ws.getD e 0<100){U:List Int}(hU:TreL n es U):(krW n es ws 100).length+1=n:=by
 have hk:=krW_ok hg (fun e he=>(hw e he).1) 100
 have hc:Conn es (krW n es ws 100) n:=fun x y hx hy=>Jn.over (fun e he=>by
  have hb:=hU.2.2.1 e he
  have:=hk.all e.toNat (by omega) (.inl (by have:=(hw e.toNat (by omega)).2;omega))
  rwa [show ((e.toNat:Nat):Int)=e by omega] at this) (hU.2.2.2 x y hx hy)
 have h1:=conn_cls hc
 have h2:=cls_le es n (krW n es ws 100)
 have h3:=hk.fst.few hn hg hk.ed
 omega
theorem kr_kf {n:Nat}{es:List (Int × Int)}(hg:Grd (n:Int) es)(ws:List Int)(w:Nat):KF es (krW n es ws w):=by
 rw [<- krG_nil];exact krG_kf hg (KF.nil es) w
theorem kr_before {n:Nat}{es:List (Int × Int)}(hg:Grd (n:Int) es){ws:List Int}(hw:∀ e:Nat,e<es.length->0<=ws.getD e 0/\ws.getD e 0<100){e:Int}(he:0<=e/\e<es.length)(hT:e ∉ krW n es ws 100) :
  ∃ B:List Int,Jn es B (enA es e) (enB es e)/\∀ f ∈ B,f ∈ krW n es ws 100/\(ws.getD f.toNat 0<ws.getD e.toNat 0∨(ws.getD f.toNat 0=ws.getD e.toNat 0/\f<e)):=by
 obtain ⟨k,rfl⟩:∃ k:Nat,e=k:=⟨e.toNat,by omega⟩
 have hwe:=hw k (by omega)
 rw [Int.toNat_natCast]
 obtain ⟨w,hwk⟩:∃ w:Nat,ws.getD k 0=w:=⟨(ws.getD k 0).toNat,by omega⟩
 have up:∀ {j:Nat} {x:Int},j<=es.length->x ∈ krN n es ws (w:Int) (krW n es ws w) j->x ∈ krW n es ws 100:=by
  intro j x hj hx
  have h1:x ∈ krG n es ws [] (w+1):=by rw [krG,krG_nil];exact krN_mono hj hx
  have h2:=krG_mono (v:=100) (by omega) h1
  rwa [krG_nil] at h2
 refine ⟨krN n es ws (w:Int) (krW n es ws w) k,?_,fun f hf=>⟨up (by omega) hf,?_⟩⟩
 ·have hK:=krN_kf (ws:=ws) (w:=(w:Int)) hg (kr_kf hg ws w) k (by omega)
  have hend:=en_eq hg (e:=(k:Int)) ⟨by omega,by omega⟩
  refine (jnB_iff hg hK.ed (by omega) (by omega)).1 ?_
  cases hb:jnB es n (krN n es ws (w:Int) (krW n es ws w) k) (enA es (k:Int)) (enB es (k:Int)) with
  | true=>rfl
  | false =>
   refine absurd (up (j:=k+1) (by omega) ?_) hT
   rw [krN_succ,if_pos ⟨hwk,hb⟩]
   simp
 ·rcases krN_mem hf with p | p
  ·have:=krW_lt p;omega
  ·omega
theorem kr_with {n:Nat}{es:List (Int × Int)}(hg:Grd (n:Int) es){ws W T:List Int}(hT:TreL n es T)(hTm:∀ x,x ∈ T↔x ∈ krW n es ws 100)(hW:KF es W)(hWT:∀ x ∈ W,x ∈ T) :
  ∀ w,w<=100->∀ x,x ∈ krG n es ws W w↔x ∈ W∨x ∈ krW n es ws w:=by
 intro w
 induction w with
 | zero=>intro _ x;simp [krG,krW]
 | succ w ih =>
  intro hw100
  have ih:=ih (by omega)
  have hA:=krG_kf (ws:=ws) hg hW w
  have hB:=kr_kf hg ws w
  have inT:∀ {k:Nat} {x:Int},k<=es.length->x ∈ krN n es ws (w:Int) (krW n es ws w) k->x ∈ T:=by
   intro k x hk hx
   have h1:x ∈ krG n es ws [] (w+1):=by rw [krG,krG_nil];exact krN_mono hk hx
   have h2:=krG_mono (v:=100) hw100 h1
   rw [krG_nil] at h2
   exact (hTm x).2 h2
  have key:∀ k,k<=es.length->∀ x,x ∈ krN n es ws (w:Int) (krG n es ws W w) k↔x ∈ W∨x ∈ krN n es ws (w:Int) (krW n es ws w) k:=by
   intro k
   induction k with
   | zero=>intro _;exact ih
   | succ k ik =>
    intro hk x
    have ik:=ik (by omega)
    have kA:=krN_kf (ws:=ws) (w:=(w:Int)) hg hA k (by omega)
    have kB:=krN_kf (ws:=ws) (w:=(w:Int)) hg hB k (by omega)
    have hend:=en_eq hg (e:=(k:Int)) ⟨by omega,by omega⟩
    have jA:=jnB_iff hg kA.ed (i:=enA es (k:Int)) (j:=enB es (k:Int)) (by omega) (by omega)
    have jB:=jnB_iff hg kB.ed (i:=enA es (k:Int)) (j:=enB es (k:Int)) (by omega) (by omega)
    have inB:=@inT (k+1)
    rw [krN_succ] at inB ⊢
    rw [krN_succ]
    generalize krN n es ws (w:Int) (krG n es ws W w) k=A at *
    generalize krN n es ws (w:Int) (krW n es ws w) k=B at *
    by_cases hwk:ws.getD k 0=(w:Int)
    rotate_left
    ·rw [if_neg (fun h=>hwk h.1),if_neg (fun h=>hwk h.1)];exact ik x
    cases hb:jnB es n B (enA es (k:Int)) (enB es (k:Int)) with
    | true =>
     have ha:jnB es n A (enA es (k:Int)) (enB es (k:Int))=true:=jA.2 ((jB.1 hb).mono fun y hy=>(ik y).2 (.inr hy))
     rw [ha,if_neg (fun h=>by cases h.2),if_neg (fun h=>by cases h.2)]
     exact ik x
    | false =>
     rw [hb,if_pos ⟨hwk,rfl⟩] at inB
     have hkT:=inB (x:=(k:Int)) hk (by simp)
     rw [if_pos (show ws.getD k 0=(w:Int)/\(false:Bool)=false from ⟨hwk,rfl⟩)]
     by_cases hkW:(k:Int) ∈ W
     ·have ha:jnB es n A (enA es (k:Int)) (enB es (k:Int))=true:=jA.2 (.edge _ ((ik _).2 (.inl hkW)))
      rw [ha,if_neg (fun h=>by cases h.2),ik x]
      constructor
      ·rintro (h | h)
       ·exact .inl h
       ·exact .inr (List.mem_append_left _ h)
      ·rintro (h | h)
       ·exact .inl h
       ·rcases List.mem_append.1 h with q | q
        ·exact .inr q
        ·rw [List.mem_singleton.1 q];exact .inl hkW
     ·have ha:jnB es n A (enA es (k:Int)) (enB es (k:Int))=false:=by
       cases hc:jnB es n A (enA es (k:Int)) (enB es (k:Int)) with
       | false=>rfl
       | true =>
        refine absurd ((jA.1 hc).mono fun y hy=>?_) ((hT.tree hg).bridge hkT)
        rcases (ik y).1 hy with q | q
        ·exact wo1_mem.2 ⟨hWT y q,fun e=>hkW (e ▸ q)⟩
        ·refine wo1_mem.2 ⟨inB hk (List.mem_append_left _ q),fun e=>?_⟩
         subst e
         have:=jB.2 (.edge _ q)
         rw [hb] at this;cases this
      rw [ha,if_pos ⟨hwk,rfl⟩,List.mem_append,List.mem_append,ik x]
      exact or_assoc
  exact fun x=>key es.length (Nat.le_refl _) x
theorem kr_withP {n:Nat}{es:List (Int × Int)}(hg:Grd (n:Int) es){ws W T:List Int}(hT:TreL n es T)(hTm:∀ x,x ∈ T↔x ∈ krW n es ws 100)(hW:W.Nodup)(hWT:∀ x ∈ W,x ∈ T):(krG n es ws W 100).Perm (krW n es ws 100):=by
 have hK:=hT.part hg hW hWT
 refine (List.perm_ext_iff_of_nodup (krG_kf hg hK 100).nd (kr_kf hg ws 100).nd).2 fun x=>?_
 rw [kr_with hg hT hTm hK hWT 100 (Nat.le_refl _) x,<- hTm x]
 exact ⟨fun h=>h.elim (hWT x) id,.inr⟩
theorem wo1_perm {S:List Int}(h:S.Nodup){e:Int}(he:e ∈ S):S.Perm (e :: wo1 S e):=by
 refine (List.perm_ext_iff_of_nodup h (List.nodup_cons.2 ⟨fun q=>(wo1_mem.1 q).2 rfl,h.filter _⟩)).2 fun x=>?_
 rw [List.mem_cons,wo1_mem]
 constructor
 ·intro hx
  by_cases q:x=e
  ·exact .inl q
  ·exact .inr ⟨hx,q⟩
 ·rintro (rfl | q)
  ·exact he
  ·exact q.1
theorem wo1_srt {S:List Int}(h:S.Pairwise (· < ·))(e:Int):(wo1 S e).Pairwise (· < ·):=h.filter _
theorem sw_swap {ws S:List Int}(h:S.Nodup){e f:Int}(he:e ∈ S)(hf:f ∉ S):swL ws (put (wo1 S e) f)=swL ws S - ws.getD e.toNat 0+ws.getD f.toNat 0:=by
 rw [swL_pm (put_perm _ f fun q=>hf (wo1_mem.1 q).1),swL_pm (wo1_perm h he)]
 unfold swL
 simp only [List.map_cons,List.sum_cons]
 omega
theorem TreL.swap {n:Nat}{es:List (Int × Int)}(hg:Grd (n:Int) es){S:List Int}(h:TreL n es S){e f:Int}(hc:Cir es S f e)(hf:f ∉ S)(hfe:0<=f/\f<es.length):TreL n es (put (wo1 S e) f):=by
 have hp:=put_perm (wo1 S e) f fun q=>hf (wo1_mem.1 q).1
 have hend:=en_eq hg hfe
 have ht:=(h.tree hg).swap hc hf (by omega) (hp.trans (List.perm_append_singleton f (wo1 S e)).symm)
 refine ⟨ht.len,put_sorted _ _ (wo1_srt h.2.1 e),fun x hx=>?_,ht.conn⟩
 rcases (put_mem _ _ _).1 hx with rfl | q
 ·exact hfe
 ·exact h.2.2.1 x (wo1_mem.1 q).1
theorem light_core {n:Nat}(hn:1<=n){es:List (Int × Int)}(hg:Grd (n:Int) es){ws:List Int}(hw:∀ e:Nat,e<es.length->0<=ws.getD e 0/\ws.getD e 0<100){S:List Int}(hS:TreL n es S)(hmin:swL ws S<=swL ws (krW n es ws 100)){e:Int}(he:e ∈ S)(hT:e ∉ krW n es ws 100)(hb:∀ f ∈ krW n es ws 100,f<e->f ∈ S):False:=by
 have hee:=hS.2.2.1 e he
 obtain ⟨B,hj,hB⟩:=kr_before hg hw hee hT
 obtain ⟨f,hfB,hfc⟩:∃ f ∈ B,¬ Jn es (wo1 S e) (enA es f) (enB es f):=by
  refine Classical.byContradiction fun q=>?_
  exact (hS.tree hg).bridge he (hj.over fun f hf=>Classical.byContradiction fun q2=>q ⟨f,hf,q2⟩)
 obtain ⟨hfK,hfw⟩:=hB f hfB
 have hfe:f ≠ e:=fun q=>hT (q ▸ hfK)
 have hfS:f ∉ S:=fun q=>hfc (.edge _ (wo1_mem.2 ⟨q,hfe⟩))
 have hU:=hS.swap hg ⟨he,hfc⟩ hfS ((kr_kf hg ws 100).ed f hfK)
 have h1:=kr_least hn hg (M:=100) (fun e he=>hw e he) hU
 have h2:=sw_swap (ws:=ws) hS.nd he hfS
 rcases hfw with q | q
 ·omega
 ·exact hfS (hb f hfK q.2)
theorem light_ex {n:Nat}{es:List (Int × Int)}(hg:Grd (n:Int) es){ws S T:List Int}{M:Int}(hM:∀ U,TreL n es U->M<=swL ws U)(hS:TreL n es S)(hT:TreL n es T)(hSM:swL ws S=M)(hTM:swL ws T=M){f:Int}(hf:f ∈ T)(hfS:f ∉ S) :
  ∃ e,e ∈ S/\e ∉ T/\TreL n es (put (wo1 S e) f)/\swL ws (put (wo1 S e) f)=M:=by
 have hfe:=hT.2.2.1 f hf
 have hend:=en_eq hg hfe
 obtain ⟨e,hc,hc2⟩:∃ e,Cir es S f e/\¬ Jn es (wo1 T f) (enA es e) (enB es e):=by
  refine Classical.byContradiction fun q=>?_
  have hr:=(hS.tree hg).round (f:=f) (by omega) (C:=S.filter fun e=>pdc (Cir es S f e)) fun e he=>List.mem_filter.2 ⟨he.1,pdc_iff.2 he⟩
  refine (hT.tree hg).bridge hf (hr.over fun e he=>Classical.byContradiction fun q2=>q ⟨e,pdc_iff.1 (List.mem_filter.1 he).2,q2⟩)
 have heT:e ∉ T:=fun q=>hc2 (.edge _ (wo1_mem.2 ⟨q,fun q2=>hfS (q2 ▸ hc.1)⟩))
 have h1:=hS.swap hg hc hfS hfe
 have h2:=hT.swap hg (e:=f) (f:=e) ⟨hf,hc2⟩ heT (hS.2.2.1 e hc.1)
 have w1:=sw_swap (ws:=ws) hS.nd hc.1 hfS
 have w2:=sw_swap (ws:=ws) hT.nd hf heT
 have m1:=hM _ h1
 have m2:=hM _ h2
 exact ⟨e,hc.1,heT,h1,by omega⟩
theorem lex_diff:∀ {S T:List Int},S.length=T.length->S.Pairwise (· < ·)->T.Pairwise (· < ·)->cmpL S T<0->∃ e ∈ S,e ∉ T/\∀ f ∈ T,f<e->f ∈ S
 | [],[],_,_,_,h=>by simp [cmpL] at h
 | [],_ :: _,hl,_,_,_=>by simp at hl
 | _ :: _,[],hl,_,_,_=>by simp at hl
 | x :: a,y :: b,hl,h1,h2,h=>by
  rw [List.pairwise_cons] at h1 h2
  rw [cmpL] at h
  by_cases e:cmpI x y=0
  ·rw [if_neg (by omega)] at h
   have exy:=cmpI_eq.1 e
   subst exy
   obtain ⟨z,hz,hzb,hz2⟩:=lex_diff (by simpa using hl) h1.2 h2.2 h
   have:=h1.1 z hz
   refine ⟨z,List.mem_cons_of_mem _ hz,fun q=>?_,fun f hf hfz=>?_⟩
   ·rcases List.mem_cons.1 q with q | q
    ·omega
    ·exact hzb q
   ·rcases List.mem_cons.1 hf with q | q
    ·rw [q];simp
    ·exact List.mem_cons_of_mem _ (hz2 f q hfz)
  ·rw [if_pos e] at h
   have hxy:=cmpI_lt.1 h
   refine ⟨x,by simp,fun q=>?_,fun f hf hfx=>?_⟩
   ·rcases List.mem_cons.1 q with q | q
    ·omega
    ·have:=h2.1 x q;omega
   ·rcases List.mem_cons.1 hf with q | q
    ·omega
    ·have:=h2.1 f q;omega
theorem light_first {n:Nat}(hn:1<=n){es:List (Int × Int)}(hg:Grd (n:Int) es){ws:List Int}(hw:∀ e:Nat,e<es.length->0<=ws.getD e 0/\ws.getD e 0<100){S:List Int}(hS:TreL n es S)(hmin:swL ws S<=swL ws (krW n es ws 100))(hT:TreL n es (puts (krW n es ws 100))):¬ cmpL S (puts (krW n es ws 100))<0:=by
 intro h
 have hp:=(puts_perm _ (krW n es ws 100) rfl (kr_kf hg ws 100).nd).1
 obtain ⟨e,he,heT,hb⟩:=lex_diff (by have:=hS.1;have:=hT.1;omega) hS.2.1 hT.2.1 h
 exact light_core hn hg hw hS hmin he (fun q=>heT (hp.mem_iff.2 q)) fun f hf hfe=>hb f (hp.mem_iff.2 hf) hfe
theorem krG_len {n:Nat}(hn:1<=n){es:List (Int × Int)}(hg:Grd (n:Int) es){ws W:List Int}(hW:KF es W)(w k:Nat)(hk:k<=es.length) :
  KF es (krN n es ws (w:Int) (krG n es ws W w) k)/\(krN n es ws (w:Int) (krG n es ws W w) k).length+1<=n:=by
 have h:=krN_kf (ws:=ws) (w:=(w:Int)) hg (krG_kf (ws:=ws) hg hW w) k hk
 exact ⟨h,h.fst.few hn hg h.ed⟩
theorem lightestW_c (n:Nat)(hn:1<=n)(v w x:Value)(es:List (Int × Int))(ws W:List Int)(H:AH)(hr:RowP 115 H v es)(hg:Grd (n:Int) es)(hw:Row 3 H w ws)(hlw:ws.length=es.length)(h0:∀ x ∈ ws,0<=x/\x<=99)(hx:Row 3 H x W)(hWe:EdIn es W)(hWl:W.length<=1000) :
  ACalls Tryz.prog 49 [.agg (List.toArray [.int .i64 (n:Int),v]),w,x] H fun r H'=>((KF es W/\r=.tuple (List.toArray [.int .i64 (swL ws (krG n es ws W 100)),.bool (decide ((krG n es ws W 100).length+1=n))]))∨(¬ KF es W/\r=.tuple (List.toArray [.int .i64 0,.bool false])))/\H<+:H':=by
 have h28:es.length<=28:=grd_len hg
 have hn8:n<=8:=by have:=hg.1;omega
 have hw0:∀ e:Nat,e<es.length->0<=ws.getD e 0:=fun e he=>(h0 _ (by simp [show e<ws.length by omega])).1
 refine in49 rfl ?_
 intro Q hQ
 simp (disch:=omega) only [cd49,hr.boxG,SS,eq_self,reduceIte,reduceCtorEq,Nat.reduceEqDiff,Nat.reduceAdd]
 generalize hA:H ++ [AObj.cells [.int .i64 ↑n,v] 26 false]=A
 have pA:H<+:A:=by rw [<- hA];exact List.prefix_append _ _
 have cA:A[H.length]?=some (.cells [.int .i64 ↑n,v] 26 false):=by rw [<- hA];exact at_new ..
 have rA:=hr.pre pA
 have wA:=hw.pre pA
 simp (disch:=omega) only [cell_of cA,SS,eq_self,reduceIte,reduceCtorEq,Nat.reduceEqDiff,Nat.reduceAdd]
 refine CallH.by (newJoiner_c n A (by omega)) ?_
 rintro jv B ⟨hOwn,pB⟩
 obtain ⟨o,ejv,ho1,hoB⟩:∃ o,jv=.slice (some ⟨o,0,none⟩) n n/\A.length<=o/\B[o]?=some (.cells (ints (alls n)) 3 false):=by
  have hal:(alls n).length=n:=by simp [alls]
  rcases hOwn with ⟨_,q⟩ | ⟨o,q1,q2,q3⟩
  ·rw [q] at hal;simp at hal;omega
  ·rw [hal] at q1;exact ⟨o,q1,q2,q3⟩
 subst ejv
 have hw1:IntKind.i64.wrap ((n:Int) - 1)=(n:Int) - 1:=wrap64 (by omega) (by omega)
 simp (disch:=omega) only [SS,eq_self,reduceIte,reduceCtorEq,Nat.reduceEqDiff,Nat.reduceAdd]
 have xA:=hx.pre pA
 have xB:=xA.pre pB
 have rB:=rA.pre pB
 have wB:=wA.pre pB
 have cB:=pre_at pB cA
 simp (disch:=omega) only [xB.len Tryz.underlying27,SS,eq_self,reduceIte,reduceCtorEq,Nat.reduceEqDiff,Nat.reduceAdd]
 refine LoopH.by (fun m s H'=>∃ (i:Nat) (J:List Int),m+i=W.length/\s 1=w/\s 3=.pointer (some ⟨H.length,0,none⟩)/\s 8=.slice (some ⟨o,0,none⟩) n n/\s 9=.int .i64 (swL ws (W.take i))/\s 10=.int .i64 ((i:Nat):Int)/\s 19=x/\s 20=.int .i64 (W.length:Int)/\s 21=.int .i64 ((i:Nat):Int)/\H'[o]?=some (.cells (ints J) 3 false)/\JR es (W.take i) n J/\KF es (W.take i)/\Keeps o B H') W.length ?_ ?_
 ·refine ⟨0,alls n,by omega,?_⟩
  have f2:JR es (W.take 0) n (alls n):=JR.zero es n
  have f3:Keeps o B B:=Keeps.of_pre (List.prefix_refl _)
  have f4:KF es (W.take 0):=KF.nil es
  have z1:swL ws (W.take 0)=0:=rfl
  simp (disch:=omega) only [z1,SS,eq_self,reduceIte,reduceCtorEq,Nat.reduceEqDiff,Nat.reduceAdd]
  (repeat' first | exact hoB | exact f2 | exact f3 | exact f4 | apply And.intro) <;> first | (simp only [Value.int.injEq,true_and];omega) | omega | rfl | assumption | (simp;done) | (simp;omega)
 rintro m s H' ⟨i,J,hm,s1,s3,s8,s9,s10,s19,s20,s21,hoB',hjr0,hkf0,kB'⟩
 have hpA0:=keepsA kB' pB ho1
 have cH0:=pre_at hpA0 cA
 have rH0:=rA.pre hpA0
 have wH0:=wA.pre hpA0
 have xH0:=xA.pre hpA0
 simp (disch:=omega) only [s1,s3,s8,s9,s10,s19,s20,s21,SS,eq_self,reduceIte,reduceCtorEq,Nat.reduceEqDiff,Nat.reduceAdd]
 refine brD.intro (fun g=>?_) (fun g=>?_)
 ·have hi:i<W.length:=by omega
  have hme:W.getD i 0 ∈ W:=by simp [hi]
  have her:=hWe _ hme
  have hc0:=xH0.cell hi
  have hend:=en_eq hg her
  have htk:W.take (i+1)=W.take i ++ [W.getD i 0]:=by
   rw [List.take_add_one,List.getElem?_eq_getElem hi];simp [hi]
  have hsw:=swL_take (ws:=ws) hi
  obtain ⟨e,he⟩:∃ e:Nat,W.getD i 0=e:=⟨(W.getD i 0).toNat,by omega⟩
  rw [he] at her hc0 hend htk hsw
  rw [Int.toNat_natCast] at hend hsw
  have hld:=rH0.ld ag115 cs115 (show e<es.length by omega)
  simp (disch:=omega) only [s1,s3,s8,s9,s10,s19,s20,s21,xH0.ix Tryz.underlying27 cs3,Int.toNat_natCast,hc0,cell_of cH0,rH0.ix Tryz.underlying24 cs115,hld,SS,eq_self,reduceIte,reduceCtorEq,Nat.reduceEqDiff,Nat.reduceAdd]
  have hjc:=join_c hjr0 o H' hoB' (e:Int) (by omega) (by omega) (by rw [Int.toNat_natCast];exact congrArg Prod.fst hend.1) (by rw [Int.toNat_natCast];exact congrArg Prod.snd hend.1)
  rw [Int.toNat_natCast] at hjc
  refine CallH.by hjc ?_
  rintro _ G ⟨b,J',rfl,hb,hJ',hjr',k2⟩
  have kG:=kB'.trans k2
  have hpG:=keepsA kG pB ho1
  have wG:=wA.pre hpG
  have cG:=pre_at hpG cA
  cases b with
  | false =>
   have hJn:Jn es (W.take i) (enA es (e:Int)) (enB es (e:Int)):=Classical.byContradiction fun q=>by have:=hb.2 q;cases this
   simp (disch:=omega) only [SS,eq_self,reduceIte,reduceCtorEq,Nat.reduceEqDiff,Nat.reduceAdd]
   refine hQ _ _ _ ?_
   simp (disch:=omega) only [SS,eq_self,reduceIte,reduceCtorEq,Nat.reduceEqDiff,Nat.reduceAdd]
   exact ⟨.inr fun h=>h.fst i hi (by rw [he];exact hJn),pA.trans hpG⟩
  | true =>
   have hnJ:=hb.1 rfl
   have hkf1:KF es (W.take (i+1)):=by rw [htk];exact hkf0.snoc her hnJ
   have hfw:=hkf1.fst.few hn hg hkf1.ed
   rw [List.length_take] at hfw
   have h3:=swL_rng h0 (W.take i)
   have h4:=swL_rng h0 (W.take (i+1))
   rw [List.length_take] at h3 h4
   have hcw:=wG.cell (show e<ws.length by omega)
   have hwr:IntKind.i64.wrap (swL ws (W.take i)+ws.getD e 0)=swL ws (W.take (i+1)):=by rw [<- hsw];exact wrap64 (by omega) (by omega)
   rw [<- htk] at hjr'
   simp (disch:=omega) only [s1,s3,s8,s9,s10,s19,s20,s21,wG.ix Tryz.underlying27 cs3,Int.toNat_natCast,hcw,hwr,wrap64,SS,eq_self,reduceIte,reduceCtorEq,Nat.reduceEqDiff,Nat.reduceAdd]
   refine ⟨m - 1,by omega,i+1,J',?_⟩
   (repeat' first | exact hJ' | exact hjr' | exact hkf1 | exact kG | apply And.intro) <;> first | (simp only [Value.int.injEq,true_and];omega) | omega | rfl | assumption | (simp;done) | (simp;omega)
 have hi:i=W.length:=by omega
 subst hi
 rw [List.take_length] at hjr0 hkf0 s9
 clear g
 simp (disch:=omega) only [s1,s3,s8,s9,s10,s19,s20,s21,SS,eq_self,reduceIte,reduceCtorEq,Nat.reduceEqDiff,Nat.reduceAdd]
 refine LoopH.by (fun m s H'=>∃ (i:Nat) (J:List Int),m+i=100/\s 1=w/\s 3=.pointer (some ⟨H.length,0,none⟩)/\s 8=.slice (some ⟨o,0,none⟩) n n/\s 9=.int .i64 (swL ws (krG n es ws W i))/\s 10=.int .i64 ((krG n es ws W i).length:Int)/\s 42=.int .i64 ((i:Nat):Int)/\H'[o]?=some (.cells (ints J) 3 false)/\JR es (krG n es ws W i) n J/\Keeps o B H') 100 ?_ ?_
 ·refine ⟨0,J,by omega,?_⟩
  have z1:krG n es ws W 0=W:=rfl
  simp (disch:=omega) only [s1,s3,s8,s9,s10,z1,SS,eq_self,reduceIte,reduceCtorEq,Nat.reduceEqDiff,Nat.reduceAdd]
  (repeat' first | exact hoB' | exact hjr0 | exact kB' | apply And.intro) <;> first | (simp only [Value.int.injEq,true_and];omega) | omega | rfl | assumption | (simp;done) | (simp;omega)
 rintro m1 t H1 ⟨i,J,hm',t1,t3,t8,t9,t10,t42,hJ,hjr,kH⟩
 have hpA:=keepsA kH pB ho1
 have cH:=pre_at hpA cA
 have rH:=rA.pre hpA
 have wH:=wA.pre hpA
 simp (disch:=omega) only [t1,t3,t8,t9,t10,t42,SS,eq_self,reduceIte,reduceCtorEq,Nat.reduceEqDiff,Nat.reduceAdd]
 refine brD.intro (fun g=>?_) (fun g=>?_)
 rotate_left
 ·have hi:i=100:=by omega
  subst hi
  simp (disch:=omega) only [t1,t3,t8,t9,t10,t42,cell_of cH,hw1,SS,eq_self,reduceIte,reduceCtorEq,Nat.reduceEqDiff,Nat.reduceAdd]
  refine hQ _ _ _ ?_
  simp (disch:=omega) only [SS,eq_self,reduceIte,reduceCtorEq,Nat.reduceEqDiff,Nat.reduceAdd]
  refine ⟨.inl ⟨hkf0,?_⟩,pA.trans hpA⟩
  congr 4
  rw [Value.bool.injEq,decide_eq_decide]
  omega
 have hi:i<100:=by omega
 simp (disch:=omega) only [t1,t3,t8,t9,t10,t42,cell_of cH,rH.len Tryz.underlying24,SS,eq_self,reduceIte,reduceCtorEq,Nat.reduceEqDiff,Nat.reduceAdd]
 refine LoopH.by (fun m s H'=>∃ (j:Nat) (J:List Int),m+j=es.length/\s 1=w/\s 3=.pointer (some ⟨H.length,0,none⟩)/\s 8=.slice (some ⟨o,0,none⟩) n n/\s 9=.int .i64 (swL ws (krN n es ws (i:Int) (krG n es ws W i) j))/\s 10=.int .i64 ((krN n es ws (i:Int) (krG n es ws W i) j).length:Int)/\s 42=.int .i64 ((i:Nat):Int)/\s 13=.int .i64 ((i:Nat):Int)/\s 46=v/\s 47=.int .i64 (es.length:Int)/\s 48=.int .i64 ((j:Nat):Int)/\H'[o]?=some (.cells (ints J) 3 false)/\JR es (krN n es ws (i:Int) (krG n es ws W i) j) n J/\Keeps o B H') es.length ?_ ?_
 ·refine ⟨0,J,by omega,?_⟩
  simp (disch:=omega) only [t1,t3,t8,t9,t10,t42,SS,eq_self,reduceIte,reduceCtorEq,Nat.reduceEqDiff,Nat.reduceAdd]
  have f2:JR es (krN n es ws (i:Int) (krG n es ws W i) 0) n J:=hjr
  have z1:krN n es ws (i:Int) (krG n es ws W i) 0=krG n es ws W i:=rfl
  simp (disch:=omega) only [z1,SS,eq_self,reduceIte,reduceCtorEq,Nat.reduceEqDiff,Nat.reduceAdd]
  (repeat' first | exact hJ | exact hjr | exact kH | apply And.intro) <;> first | (simp only [Value.int.injEq,true_and];omega) | omega | rfl | assumption | (simp;done) | (simp;omega)
 rintro m2 u H2 ⟨j,J2,hm2,u1,u3,u8,u9,u10,u42,u13,u46,u47,u48,hJ2,hjr2,kH2⟩
 have hpA2:=keepsA kH2 pB ho1
 have rH2:=rA.pre hpA2
 have wH2:=wA.pre hpA2
 simp (disch:=omega) only [u1,u3,u8,u9,u10,u42,u13,u46,u47,u48,SS,eq_self,reduceIte,reduceCtorEq,Nat.reduceEqDiff,Nat.reduceAdd]
 refine brD.intro (fun g2=>?_) (fun g2=>?_)
 rotate_left
 ·have hj:j=es.length:=by omega
  subst hj
  have z1:krN n es ws (i:Int) (krG n es ws W i) es.length=krG n es ws W (i+1):=rfl
  rw [z1] at u9 u10 hjr2
  simp (disch:=omega) only [u1,u3,u8,u9,u10,u42,wrap64,SS,eq_self,reduceIte,reduceCtorEq,Nat.reduceEqDiff,Nat.reduceAdd]
  refine ⟨m1 - 1,by omega,i+1,J2,?_⟩
  (repeat' first | exact hJ2 | exact hjr2 | exact kH2 | apply And.intro) <;> first | (simp only [Value.int.injEq,true_and];omega) | omega | rfl | assumption | (simp;done) | (simp;omega)
 have hj:j<es.length:=by omega
 obtain ⟨hK,hKl⟩:=krG_len (ws:=ws) hn hg hkf0 i j (by omega)
 have hend:=en_eq hg (e:=(j:Int)) ⟨by omega,by omega⟩
 rw [Int.toNat_natCast] at hend
 have hst0:=store_a2 H2 [.int .i64 0,.int .i64 0] rfl
 have hc:=(wH2.pre (List.prefix_append H2 [AObj.cells [.int .i64 (es.getD j (0,0)).1,.int .i64 (es.getD j (0,0)).2] 115 false])).cell (show j<ws.length by omega)
 have hstep:=krN_step (n:=n) (es:=es) (ws:=ws) (w:=(i:Int)) (K:=krG n es ws W i) (j:=j)
 simp (disch:=omega) only [u1,u3,u8,u9,u10,u42,u13,u46,u47,u48,rH2.ix Tryz.underlying24 cs115,Int.toNat_natCast,rH2.ld ag115 cs115 hj,alloc_a2,hst0,SS,eq_self,reduceIte,reduceCtorEq,Nat.reduceEqDiff,Nat.reduceAdd]
 generalize hD:H2 ++ [AObj.cells [.int .i64 (es.getD j (0,0)).1,.int .i64 (es.getD j (0,0)).2] 115 false]=D at *
 have pD:H2<+:D:=by rw [<- hD];exact List.prefix_append _ _
 have cP:D[H2.length]?=some (.cells [.int .i64 (es.getD j (0,0)).1,.int .i64 (es.getD j (0,0)).2] 115 false):=by rw [<- hD];exact at_new ..
 have wD:=wH2.pre pD
 have kD:Keeps o B D:=kH2.trans (Keeps.of_pre pD)
 have hJD:=pre_at pD hJ2
 by_cases e:ws.getD j 0=(i:Int)
 rotate_left
 ·rw [if_neg (fun h=>e h.1)] at hstep
  simp (disch:=omega) only [u1,u3,u8,u9,u10,u42,u13,u46,u47,u48,wD.ix Tryz.underlying27 cs3,Int.toNat_natCast,hc,decide_eq_false e,wrap64,SS,eq_self,reduceIte,reduceCtorEq,Nat.reduceEqDiff,Nat.reduceAdd]
  rw [<- hstep] at hjr2 ⊢
  refine ⟨m2 - 1,by omega,j+1,J2,?_⟩
  (repeat' first | exact hJD | exact hjr2 | exact kD | apply And.intro) <;> first | (simp only [Value.int.injEq,true_and];omega) | omega | rfl | assumption | (simp;done) | (simp;omega)
 simp (disch:=omega) only [u1,u3,u8,u9,u10,u42,u13,u46,u47,u48,wD.ix Tryz.underlying27 cs3,Int.toNat_natCast,hc,decide_eq_true e,ld_a2 cP,SS,eq_self,reduceIte,reduceCtorEq,Nat.reduceEqDiff,Nat.reduceAdd]
 have hjc:=join_c hjr2 o D hJD (j:Int) (by omega) (by omega) (by rw [Int.toNat_natCast];exact congrArg Prod.fst hend.1) (by rw [Int.toNat_natCast];exact congrArg Prod.snd hend.1)
 rw [Int.toNat_natCast] at hjc
 refine CallH.by hjc ?_
 rintro _ G ⟨b,J',rfl,hb,hJ',hjr',k2⟩
 have kG:=kD.trans k2
 have hjb:=jnB_iff hg hK.ed (i:=enA es (j:Int)) (j:=enB es (j:Int)) (by omega) (by omega)
 have hjn:=jnB_not hg hK.ed (i:=enA es (j:Int)) (j:=enB es (j:Int)) (by omega) (by omega)
 cases b with
 | false =>
  have hJn:Jn es (krN n es ws (i:Int) (krG n es ws W i) j) (enA es (j:Int)) (enB es (j:Int)):=Classical.byContradiction fun q=>by have:=hb.2 q;cases this
  rw [if_neg (fun h=>hjn.1 h.2 hJn)] at hstep
  have f2:JR es (krN n es ws (i:Int) (krG n es ws W i) j) n J':=by
   obtain ⟨rt,d,a1,a2⟩:=hjr'
   exact ⟨rt,d,a1,fun x y hx hy=>Iff.trans ⟨fun h=>h.mono fun z hz=>List.mem_append_left _ hz,fun h=>Jn.same (e:=(j:Int)) (fun z hz=>by
    rcases List.mem_append.1 hz with q | q
    ·exact .inl q
    ·exact .inr (List.mem_singleton.1 q)) hJn h⟩ (a2 x y hx hy)⟩
  simp (disch:=omega) only [u1,u3,u8,u9,u10,u42,u13,u46,u47,u48,wrap64,SS,eq_self,reduceIte,reduceCtorEq,Nat.reduceEqDiff,Nat.reduceAdd]
  rw [<- hstep] at f2 ⊢
  refine ⟨m2 - 1,by omega,j+1,J',?_⟩
  (repeat' first | exact hJ' | exact f2 | exact kG | apply And.intro) <;> first | (simp only [Value.int.injEq,true_and];omega) | omega | rfl | assumption | (simp;done) | (simp;omega)
 | true =>
  have hJn:=hjn.2 (hb.1 rfl)
  rw [if_pos ⟨e,hJn⟩] at hstep
  have h3:=swL_rng h0 (krN n es ws (i:Int) (krG n es ws W i) j)
  have h4:swL ws (krN n es ws (i:Int) (krG n es ws W i) (j+1))=swL ws (krN n es ws (i:Int) (krG n es ws W i) j)+(i:Int):=by
   rw [hstep,swL_app,<- e];simp [swL]
  have h5:((krN n es ws (i:Int) (krG n es ws W i) (j+1)).length:Int)=((krN n es ws (i:Int) (krG n es ws W i) j).length:Int)+1:=by
   rw [hstep,List.length_append];rfl
  have hwr:IntKind.i64.wrap (swL ws (krN n es ws (i:Int) (krG n es ws W i) j)+(i:Int))=swL ws (krN n es ws (i:Int) (krG n es ws W i) (j+1)):=by rw [h4];exact wrap64 (by omega) (by omega)
  have hwl:IntKind.i64.wrap (((krN n es ws (i:Int) (krG n es ws W i) j).length:Int)+1)=((krN n es ws (i:Int) (krG n es ws W i) (j+1)).length:Int):=by rw [h5];exact wrap64 (by omega) (by omega)
  simp (disch:=omega) only [u1,u3,u8,u9,u10,u42,u13,u46,u47,u48,hwr,hwl,wrap64,SS,eq_self,reduceIte,reduceCtorEq,Nat.reduceEqDiff,Nat.reduceAdd]
  rw [<- hstep] at hjr'
  refine ⟨m2 - 1,by omega,j+1,J',?_⟩
  (repeat' first | exact hJ' | exact hjr' | exact kG | apply And.intro) <;> first | (simp only [Value.int.injEq,true_and];omega) | omega | rfl | assumption | (simp;done) | (simp;omega)
def cd62:Cd:=(.seq (.reg [⟨⟨some 2,.box 26 (.tmp 0),none⟩,[]⟩,
 ⟨⟨some 4,.alloc 34,none⟩,[]⟩]) (.seq (.reg [⟨⟨some 5,.load 26 (.tmp 2),none⟩,[]⟩,
 ⟨⟨some 6,.move (.tmp 1),none⟩,[]⟩,
 ⟨⟨some 7,.call ⟨(.value (.func 77)),#[.tmp 5,(.const (.int .i64 1)),.tmp 6],#[26,3,32]⟩,none⟩,[]⟩,
 ⟨⟨none,.store 34 (.tmp 4) (.tmp 7),none⟩,[]⟩]) .ret))
theorem in62:InT Tryz.prog 62 2 [.cell 4 34] cd62:=InT.mk (by kernel_rfl) [] Tryz.func62 rfl (by kernel_rfl) (by kernel_rfl) (of_decide_eq_true (by kernel_rfl)) (by kernel_rfl)
end Go.Proofs.YtlcipphiflcaiaaGreat.Ai
namespace Go.Proofs.YtlcipphiflcaiaaGreat.Ai
open Go Go.RowKit
theorem stB_jmp (es:List (Int × Int)):stB es 1=jmpB:=by
 funext x y
 have e:∀ x y:List Int,(without x y).length=(x.filter fun e=>!decide (e ∈ y)).length:=by
  intro x y
  unfold without;congr 1
  exact List.filter_congr fun e _=>by simp
 unfold stB jmpB
 rw [if_neg (by decide),e x y,e y x,decide_eq_true (show (1:Int)=1 from rfl),Bool.true_or,Bool.and_true]
 rw [Bool.eq_iff_iff,Bool.and_eq_true,Bool.and_eq_true,decide_eq_true_eq,decide_eq_true_eq,decide_eq_true_eq,decide_eq_true_eq]
 omega
theorem tsL_in {n:Int}{es:List (Int × Int)}:∀ x ∈ tsL n es,x.length<=28/\(∀ y ∈ x,0<=y/\y<28)/\x.Pairwise (· < ·):=by
 intro x hx
 unfold tsL at hx
 split at hx
 ·rename_i h
  have hg:=h.1.1
  have h8:=hg.1
  obtain ⟨N,rfl⟩:∃ N:Nat,n=N:=⟨n.toNat,by omega⟩
  rw [Int.toNat_natCast] at hx
  have t:=(treA_iff (by have:=h.1.2;omega) hg x).1 hx
  have h28:=grd_len hg
  refine ⟨by have:=t.1;omega,fun y hy=>?_,t.2.1⟩
  have:=t.2.2.1 y hy
  omega
 ·simp at hx
theorem tsL_len (n:Int)(es:List (Int × Int)):(tsL n es).length<=300:=by
 unfold tsL;split
 ·rename_i h;exact h.2.2
 ·exact Nat.zero_le _
theorem tsL_srt (n:Int)(es:List (Int × Int)):SrtL (tsL n es):=by
 unfold tsL;split
 ·rename_i h
  have h8:=h.1.1.1
  have hg:=h.1.1
  obtain ⟨N,rfl⟩:∃ N:Nat,n=N:=⟨n.toNat,by omega⟩
  rw [Int.toNat_natCast]
  exact srtL_of (treA_pw (by have:=h.1.2;omega) hg)
 ·exact srtL_of .nil
theorem l7Exchanges_c {H0:AH}(n:Int)(v:Value)(es:List (Int × Int))(hg:RowP 115 H0 v es)(hes:es.length<=1099511627776){a:Value}{ls:List (List Int)}{lo:Nat}(hL:InL lo H0.length 27 3 H0 a ls)(h9:ls.length<=1000)(hlen:∀ l ∈ ls,l.length<=1000) :
  ACalls Tryz.prog 62 [.agg (List.toArray [.int .i64 n,v]),a] H0 fun r H'=>∃ b,r=.agg (List.toArray [a,b])/\InP H0.length H'.length 115 H' b (steps jmpB ls)/\H0<+:H':=by
 refine in62 rfl ?_
 intro Q hQ
 simp (disch:=omega) only [cd62,hg.boxG,SS,eq_self,reduceIte,reduceCtorEq,Nat.reduceEqDiff,Nat.reduceAdd]
 generalize hA0:H0 ++ [AObj.cells [.int .i64 n,v] 26 false]=A0
 have pA0:H0<+:A0:=by rw [<- hA0];exact List.prefix_append _ _
 have cA0:A0[H0.length]?=some (.cells [.int .i64 n,v] 26 false):=by rw [<- hA0];exact at_new ..
 have rA0:=hg.pre pA0
 simp (disch:=omega) only [alloc_sp,SS,eq_self,reduceIte,reduceCtorEq,Nat.reduceEqDiff,Nat.reduceAdd]
 generalize hA:A0 ++ [AObj.cells [.slice none 0 0,.slice none 0 0] 34 false]=A
 have pA1:A0<+:A:=by rw [<- hA];exact List.prefix_append _ _
 have lA0:A0.length=H0.length+1:=by rw [<- hA0];simp
 have cS:A[A0.length]?=some (.cells [.slice none 0 0,.slice none 0 0] 34 false):=by rw [<- hA];exact at_new ..
 have lA:A.length=A0.length+1:=by rw [<- hA];simp
 have pA:=pA0.trans pA1
 have cA:=pre_at pA1 cA0
 have rA:=rA0.pre pA1
 have hLA:InL lo A.length 27 3 A a ls:=(hL.pre pA).wide (Nat.le_refl _) (by omega)
 simp (disch:=omega) only [ld_agg ag26 cs26 cA,SS,eq_self,reduceIte,reduceCtorEq,Nat.reduceEqDiff,Nat.reduceAdd]
 refine CallH.by (l3Space_c n 1 v es rA hes hLA h9 hlen) ?_
 rintro _ D ⟨b,rfl,hp,pD⟩
 rw [stB_jmp] at hp
 have lD:=pD.length_le
 have cSD:=pre_at pD cS
 have hrow:SpRow D a b ls (steps jmpB ls):=⟨⟨_,(hLA.row).pre pD⟩,by
  rcases hp with ⟨q1,q2⟩ | ⟨o,zs,q1,q2,q3,q4,q5⟩
  ·exact (show MineP 115 D D b (steps jmpB ls) from .inl ⟨q1,q2⟩).row
  ·exact (show MineP 115 A D b (steps jmpB ls) from .inr ⟨o,zs,q1,q2,q4,q5⟩).row⟩
 have hstore:=hrow.store cSD rfl
 simp (disch:=omega) only [hstore,SS,eq_self,reduceIte,reduceCtorEq,Nat.reduceEqDiff,Nat.reduceAdd]
 have d4:=at_set (d:=.cells [a,b] 34 false) cSD
 refine hQ _ _ _ (end_cell _ _ _ _ _ _ (.agg (List.toArray [a,b])) ?_ rfl ⟨b,rfl,?_,?_⟩)
 ·simp (disch:=omega) only [ld_agg ag34 cs34 d4,SS,eq_self,reduceIte,reduceCtorEq,Nat.reduceEqDiff,Nat.reduceAdd]
 ·rcases hp with q | ⟨o,zs,q1,q2,q3,q4,q5⟩
  ·exact .inl q
  ·exact .inr ⟨o,zs,q1,by omega,by simpa using q3,by rw [List.getElem?_set_ne (by omega)];exact q4,q5⟩
 ·exact pre_set (pA.trans pD) (by omega) _
theorem cnt_sub {α:Type}(p q:α->Bool):∀ l:List α,(l.filter q).countP p<=l.countP p
 | []=>Nat.le_refl _
 | a :: l=>by
  have ih:=cnt_sub p q l
  cases h:q a
  ·rw [List.filter_cons_of_neg (by rw [h];decide),List.countP_cons];omega
  ·rw [List.filter_cons_of_pos h,List.countP_cons,List.countP_cons];omega
theorem tre_steps_f {n:Nat}(hn:1<=n){es:List (Int × Int)}(hg:Grd (n:Int) es)(h28:es.length<=28)(h300:(treA n es).length<=300)(q:List Int->Bool):(steps jmpB ((treA n es).filter q)).length<=6000:=by
 by_cases hb:(n=8/\15<=es.length)∨(n=7/\17<=es.length)
 ·have hnil:treA n es=[]:=List.eq_nil_iff_forall_not_mem.2 fun T hT=>by have:=many_trees hg hb hT;omega
  rw [hnil];exact Nat.zero_le _
 ·have h2:=List.length_filter_le q (treA n es)
  have:=steps_le (p:=jmpB) (ls:=(treA n es).filter q) (m:=40) fun x hx=>by
   refine Nat.le_trans (nbS_cnt jmpB _ x) (Nat.le_trans (cnt_sub _ q _) ?_)
   exact tre_deg hn hg h28 hb (List.mem_filter.1 (show ((treA n es).filter q).getD x [] ∈ (treA n es).filter q by
    rw [List.getD_eq_getElem?_getD,List.getElem?_eq_getElem hx];exact List.getElem_mem hx)).1
  omega
def lgB (n:Int)(es:List (Int × Int))(ws:List Int):Bool:=decide (WtOk n es ws) && decide (TsOk n es)
def lgL (n:Int)(es:List (Int × Int))(ws:List Int):List (List Int):=if WtOk n es ws then (tsL n es).filter fun T=>decide (swL ws T=swL ws (krW n.toNat es ws 100)) else []
def lgS (n:Int)(es:List (Int × Int))(ws:List Int):List (Int × Int):=steps jmpB (lgL n es ws)
theorem lgL_sub {n:Int}{es:List (Int × Int)}{ws:List Int}:∀ x ∈ lgL n es ws,x ∈ tsL n es:=by
 intro x hx
 unfold lgL at hx
 split at hx
 ·exact (List.mem_filter.1 hx).1
 ·simp at hx
theorem lgL_len (n:Int)(es:List (Int × Int))(ws:List Int):(lgL n es ws).length<=300:=by
 have:=tsL_len n es
 unfold lgL;split
 ·exact Nat.le_trans (List.length_filter_le _ _) this
 ·exact Nat.zero_le _
theorem lgS_len (n:Int)(es:List (Int × Int))(ws:List Int):(lgS n es ws).length<=6000:=by
 unfold lgS lgL tsL
 split
 ·split
  ·rename_i h1 h
   have h8:=h.1.1.1
   have hg:=h.1.1
   obtain ⟨N,rfl⟩:∃ N:Nat,n=N:=⟨n.toNat,by omega⟩
   rw [Int.toNat_natCast]
   exact tre_steps_f (by have:=h.1.2;omega) hg (grd_len hg) h.2.2 _
  ·exact Nat.zero_le _
 ·exact Nat.zero_le _
theorem lgL_srt (n:Int)(es:List (Int × Int))(ws:List Int):SrtL (lgL n es ws):=by
 unfold lgL tsL
 split
 ·split
  ·rename_i h1 h
   have h8:=h.1.1.1
   have hg:=h.1.1
   obtain ⟨N,rfl⟩:∃ N:Nat,n=N:=⟨n.toNat,by omega⟩
   rw [Int.toNat_natCast]
   exact srtL_of ((treA_pw (by have:=h.1.2;omega) hg).filter _)
  ·exact srtL_of .nil
 ·exact srtL_of .nil
theorem lg_light {n:Int}{es:List (Int × Int)}{ws:List Int}(h:WtOk n es ws){T:List Int}(hT:T ∈ tsL n es):(!decide (swL ws (krW n.toNat es ws 100)<swL ws T))=decide (swL ws T=swL ws (krW n.toNat es ws 100)):=by
 have hg:=h.2.1.1
 have h8:=hg.1
 have hp:=h.2.1.2
 unfold tsL at hT
 split at hT
 ·have t:=(treA_iff (n:=n.toNat) (by omega) (by rw [show ((n.toNat:Nat):Int)=n by omega];exact hg) T).1 hT
  have:=kr_least (n:=n.toNat) (by omega) (by rw [show ((n.toNat:Nat):Int)=n by omega];exact hg) (ws:=ws) (M:=100) (fun e he=>by
   have:=h.1 (ws.getD e 0) (by simp [show e<ws.length by have:=h.2.2;omega])
   omega) t
  by_cases q:swL ws T=swL ws (krW n.toNat es ws 100)
  ·rw [decide_eq_true q,decide_eq_false (by omega)];rfl
  ·rw [decide_eq_false q,decide_eq_true (by omega)];rfl
 ·simp at hT
def cd8:Cd:=(.seq (.reg [⟨⟨some 2,.box 26 (.tmp 0),none⟩,[]⟩,⟨⟨some 4,.assign (.const (.slice none 0 0)),none⟩,[]⟩,⟨⟨some 5,.assign (.const (.bool false)),none⟩,[]⟩]) (.seq (.seq (.reg [⟨⟨some 13,.load 26 (.tmp 2),none⟩,[]⟩,⟨⟨some 14,.move (.tmp 1),none⟩,[]⟩,⟨⟨some 15,.call ⟨(.value (.func 48)),#[.tmp 13,.tmp 14],#[26,27]⟩,none⟩,[]⟩,⟨⟨some 16,.unOp .not 4 (.tmp 15),none⟩,[]⟩]) (.cond (.tmp 16) (.seq (.reg [⟨⟨some 4,.assign (.const (.slice none 0 0)),none⟩,[]⟩,⟨⟨some 5,.assign (.const (.bool false)),none⟩,[]⟩]) .ret) .skip)) (.seq (.reg [⟨⟨some 18,.load 26 (.tmp 2),none⟩,[]⟩,⟨⟨some 19,.move (.tmp 1),none⟩,[]⟩,⟨⟨some 20,.call ⟨(.value (.func 49)),#[.tmp 18,.tmp 19,(.const (.slice none 0 0))],#[26,27,27]⟩,none⟩,[]⟩,⟨⟨some 17,.move (.tmp 20),none⟩,[]⟩,⟨⟨some 21,.extract (.tmp 17) 0,none⟩,[]⟩,⟨⟨some 22,.extract (.tmp 17) 1,none⟩,[]⟩,
 ⟨⟨some 6,.assign (.tmp 21),none⟩,[]⟩,⟨⟨some 7,.assign (.tmp 22),none⟩,[]⟩]) (.seq (.seq (.reg [⟨⟨some 23,.move (.tmp 7),none⟩,[]⟩,⟨⟨some 24,.unOp .not 4 (.tmp 23),none⟩,[]⟩]) (.cond (.tmp 24) (.seq (.reg [⟨⟨some 4,.assign (.const (.slice none 0 0)),none⟩,[]⟩,⟨⟨some 5,.assign (.const (.bool false)),none⟩,[]⟩]) .ret) .skip)) (.seq (.reg [⟨⟨some 25,.buildSlice 27 0 #[],none⟩,[]⟩,⟨⟨some 8,.assign (.tmp 25),none⟩,[]⟩]) (.seq (.seq (.reg [⟨⟨some 26,.fieldAddr 26 (.tmp 2) 1,none⟩,[]⟩,⟨⟨some 27,.load 24 (.tmp 26),none⟩,[]⟩,⟨⟨some 28,.call ⟨(.builtin .len),#[.tmp 27],#[24]⟩,none⟩,[]⟩,⟨⟨some 29,.move (.const (.int .i64 0)),none⟩,[]⟩]) (.block 0 (.loop (.seq (.reg [⟨⟨some 30,.binOp .lss 3 (.tmp 29) (.tmp 28) 3,none⟩,[]⟩]) (.seq (.cond (.tmp 30) .skip (.exit 0)) (.seq (.block 1 (.seq (.reg [⟨⟨some 31,.move (.tmp 29),none⟩,[]⟩,⟨⟨some 9,.assign (.tmp 31),none⟩,[]⟩]) (.seq (.reg [⟨⟨some 32,.move (.tmp 8),none⟩,[]⟩,⟨⟨some 33,.call ⟨(.value (.func 50)),#[.tmp 32],#[27]⟩,none⟩,[]⟩,⟨⟨some 34,.move (.tmp 9),none⟩,[]⟩,⟨⟨some 35,.buildSlice 27 1 #[(0,.tmp 34)],none⟩,[]⟩,
 ⟨⟨some 36,.call ⟨(.builtin .append),#[.tmp 33,.tmp 35],#[27,27]⟩,none⟩,[]⟩,⟨⟨some 10,.assign (.tmp 36),none⟩,[]⟩]) (.seq (.reg [⟨⟨some 38,.load 26 (.tmp 2),none⟩,[]⟩,⟨⟨some 39,.move (.tmp 1),none⟩,[]⟩,⟨⟨some 40,.move (.tmp 10),none⟩,[]⟩,⟨⟨some 41,.call ⟨(.value (.func 49)),#[.tmp 38,.tmp 39,.tmp 40],#[26,27,27]⟩,none⟩,[]⟩,⟨⟨some 37,.move (.tmp 41),none⟩,[]⟩,⟨⟨some 42,.extract (.tmp 37) 0,none⟩,[]⟩,⟨⟨some 43,.extract (.tmp 37) 1,none⟩,[]⟩,⟨⟨some 11,.assign (.tmp 42),none⟩,[]⟩,⟨⟨some 12,.assign (.tmp 43),none⟩,[]⟩]) (.seq (.reg [⟨⟨some 44,.move (.tmp 12),none⟩,[]⟩,⟨⟨some 45,.move (.tmp 44),none⟩,[]⟩,⟨⟨some 46,.move (.tmp 11),some (45,true)⟩,[]⟩,
 ⟨⟨some 47,.move (.tmp 6),some (45,true)⟩,[]⟩,
  ⟨⟨some 48,.binOp .eql 3 (.tmp 46) (.tmp 47) 3,some (45,true)⟩,[]⟩,
  ⟨⟨some 49,.pick (.tmp 45) (.tmp 48) (.const (.bool false)),none⟩,[]⟩]) (.cond (.tmp 49) (.reg [⟨⟨some 50,.move (.tmp 10),none⟩,[]⟩,
  ⟨⟨some 8,.assign (.tmp 50),none⟩,[]⟩]) .skip)))))) (.reg [⟨⟨some 51,.binOp .add 3 (.tmp 29) (.const (.int .i64 1)) 3,none⟩,[]⟩,
  ⟨⟨some 29,.move (.tmp 51),none⟩,[]⟩]))))))) (.seq (.reg [⟨⟨some 52,.move (.tmp 8),none⟩,[]⟩,
  ⟨⟨some 4,.assign (.tmp 52),none⟩,[]⟩,
  ⟨⟨some 5,.assign (.const (.bool true)),none⟩,[]⟩]) .ret)))))))
theorem in8:InT Tryz.prog 8 2 [.tmp 4,.tmp 5] cd8:=InT.mk (by kernel_rfl) [] Tryz.func8 rfl (by kernel_rfl) (by kernel_rfl) (of_decide_eq_true (by kernel_rfl)) (by kernel_rfl)
def cd9:Cd:=(.seq (.reg [⟨⟨some 2,.box 26 (.tmp 0),none⟩,[]⟩,⟨⟨some 4,.assign (.const (.slice none 0 0)),none⟩,[]⟩,⟨⟨some 5,.assign (.const (.bool false)),none⟩,[]⟩]) (.seq (.seq (.reg [⟨⟨some 7,.load 26 (.tmp 2),none⟩,[]⟩,⟨⟨some 8,.move (.tmp 1),none⟩,[]⟩,⟨⟨some 9,.call ⟨(.value (.func 51)),#[.tmp 7,.tmp 8],#[26,27]⟩,none⟩,[]⟩,⟨⟨some 10,.unOp .not 4 (.tmp 9),none⟩,[]⟩]) (.cond (.tmp 10) (.seq (.reg [⟨⟨some 11,.buildSlice 27 0 #[],none⟩,[]⟩,⟨⟨some 4,.assign (.tmp 11),none⟩,[]⟩,⟨⟨some 5,.assign (.const (.bool false)),none⟩,[]⟩]) .ret) .skip)) (.seq (.reg [⟨⟨some 12,.load 26 (.tmp 2),none⟩,[]⟩,⟨⟨some 13,.move (.tmp 1),none⟩,[]⟩,⟨⟨some 14,.call ⟨(.value (.func 52)),#[.tmp 12,.tmp 13],#[26,27]⟩,none⟩,[]⟩,⟨⟨some 6,.assign (.tmp 14),none⟩,[]⟩]) (.seq (.seq (.reg [⟨⟨some 15,.load 26 (.tmp 2),none⟩,[]⟩,⟨⟨some 16,.move (.tmp 6),none⟩,[]⟩,
 ⟨⟨some 17,.call ⟨(.value (.func 53)),#[.tmp 15,.tmp 16],#[26,27]⟩,none⟩,[]⟩,
  ⟨⟨some 18,.unOp .not 4 (.tmp 17),none⟩,[]⟩]) (.cond (.tmp 18) (.seq (.reg [⟨⟨some 19,.buildSlice 27 0 #[],none⟩,[]⟩,
  ⟨⟨some 4,.assign (.tmp 19),none⟩,[]⟩,
  ⟨⟨some 5,.assign (.const (.bool false)),none⟩,[]⟩]) .ret) .skip)) (.seq (.reg [⟨⟨some 20,.move (.tmp 6),none⟩,[]⟩,
  ⟨⟨some 4,.assign (.tmp 20),none⟩,[]⟩,
  ⟨⟨some 5,.assign (.const (.bool true)),none⟩,[]⟩]) .ret)))))
theorem in9:InT Tryz.prog 9 2 [.tmp 4,.tmp 5] cd9:=InT.mk (by kernel_rfl) [] Tryz.func9 rfl (by kernel_rfl) (by kernel_rfl) (of_decide_eq_true (by kernel_rfl)) (by kernel_rfl)
end Go.Proofs.YtlcipphiflcaiaaGreat.Ai
namespace Go.Proofs.YtlcipphiflcaiaaGreat.Ai
open Go Go.RowKit
def ltO (n:Nat)(es:List (Int × Int))(ws:List Int)(e:Nat):List Int:=(alls e).filter fun z=>decide (z ∈ krW n es ws 100)
theorem ltO_succ (n:Nat)(es:List (Int × Int))(ws:List Int)(e:Nat):ltO n es ws (e+1)=ltO n es ws e ++ if (e:Int) ∈ krW n es ws 100 then [(e:Int)] else []:=by
 unfold ltO alls
 rw [List.range_succ,List.map_append,List.filter_append]
 congr 1
 simp only [List.map_cons,List.map_nil,List.filter_cons,List.filter_nil]
 by_cases h:(e:Int) ∈ krW n es ws 100
 ·simp [h]
 ·simp [h]
theorem ltO_mem {n:Nat}{es:List (Int × Int)}{ws:List Int}{e:Nat}{z:Int}:z ∈ ltO n es ws e↔(0<=z/\z<e)/\z ∈ krW n es ws 100:=by
 unfold ltO
 rw [List.mem_filter,decide_eq_true_eq,alls_mem]
theorem alls_pw (n:Nat):(alls n).Pairwise (· < ·):=by
 unfold alls
 rw [List.pairwise_map]
 exact List.pairwise_lt_range.imp fun h=>by omega
theorem ltO_len (n:Nat)(es:List (Int × Int))(ws:List Int)(e:Nat):(ltO n es ws e).length<=e:=by
 refine Nat.le_trans (List.length_filter_le _ _) ?_
 rw [alls_len];exact Nat.le_refl _
theorem ltO_all {n:Nat}{es:List (Int × Int)}{ws:List Int}(hg:Grd (n:Int) es):ltO n es ws es.length=puts (krW n es ws 100):=by
 have hk:=kr_kf hg ws 100
 have hp:=puts_perm _ _ rfl hk.nd
 refine srt_ext ((alls_pw _).filter _) hp.2 fun z=>?_
 rw [hp.1.mem_iff]
 show z ∈ ltO n es ws es.length↔_
 rw [ltO_mem]
 exact ⟨fun h=>h.2,fun h=>⟨by have:=hk.ed z h;omega,h⟩⟩
theorem lt_choice {n:Nat}(hn:1<=n){es:List (Int × Int)}(hg:Grd (n:Int) es){ws:List Int}(hw:∀ e:Nat,e<es.length->0<=ws.getD e 0/\ws.getD e 0<100)(hl:(krW n es ws 100).length+1=n){e:Nat}(he:e<es.length) :
  (KF es (ltO n es ws e ++ [(e:Int)])/\(krG n es ws (ltO n es ws e ++ [(e:Int)]) 100).length+1=n/\swL ws (krG n es ws (ltO n es ws e ++ [(e:Int)]) 100)=swL ws (krW n es ws 100))↔(e:Int) ∈ krW n es ws 100:=by
 have hk:=kr_kf hg ws 100
 have hT:=hk.tree hg hl
 have hp:=puts_perm _ _ rfl hk.nd
 have hTm:∀ x,x ∈ puts (krW n es ws 100)↔x ∈ krW n es ws 100:=fun x=>hp.1.mem_iff
 constructor
 ·rintro ⟨h1,h2,h3⟩
  refine Classical.byContradiction fun hc=>?_
  have hK:=krG_kf (ws:=ws) hg h1 100
  have hS:=hK.tree hg h2
  have hps:=puts_perm _ _ rfl hK.nd
  have sub:∀ x ∈ ltO n es ws e ++ [(e:Int)],x ∈ puts (krG n es ws (ltO n es ws e ++ [(e:Int)]) 100):=fun x hx=>hps.1.mem_iff.2 (krG_mono (w:=0) (Nat.zero_le _) hx)
  refine light_core hn hg hw hS (by rw [swL_pm hps.1,h3];exact Int.le_refl _) (sub _ (by simp)) hc fun f hf hfe=>sub _ (List.mem_append_left _ (ltO_mem.2 ⟨⟨(hk.ed f hf).1,hfe⟩,hf⟩))
 ·intro hc
  have hnd:(ltO n es ws e ++ [(e:Int)]).Nodup:=by
   rw [List.nodup_append]
   refine ⟨((alls_pw e).filter _).imp fun h q=>by omega,by simp,fun a ha b hb q=>?_⟩
   rw [List.mem_singleton.1 hb] at q
   have:=(ltO_mem.1 ha).1;omega
  have hsub:∀ x ∈ ltO n es ws e ++ [(e:Int)],x ∈ puts (krW n es ws 100):=fun x hx=>by
   rw [hTm]
   rcases List.mem_append.1 hx with q | q
   ·exact (ltO_mem.1 q).2
   ·rw [List.mem_singleton.1 q];exact hc
  have hperm:=kr_withP hg hT hTm hnd hsub
  exact ⟨hT.part hg hnd hsub,by rw [hperm.length_eq];exact hl,swL_pm hperm⟩
def ltF (n:Int)(es:List (Int × Int))(ws:List Int):Bool:=decide (WtOk n es ws) && decide ((krW n.toNat es ws 100).length+1=n.toNat)
def ltL (n:Int)(es:List (Int × Int))(ws:List Int):List Int:=if ltF n es ws=true then puts (krW n.toNat es ws 100) else []
theorem ltL_le (n:Int)(es:List (Int × Int))(ws:List Int):(ltL n es ws).length<=1000000:=by
 unfold ltL
 split
 ·rename_i h
  unfold ltF at h
  rw [Bool.and_eq_true,decide_eq_true_eq,decide_eq_true_eq] at h
  obtain ⟨h1,h2⟩:=h
  have hg:=h1.2.1.1
  have h8:=hg.1
  obtain ⟨N,rfl⟩:∃ N:Nat,n=N:=⟨n.toNat,by omega⟩
  rw [Int.toNat_natCast] at h2 ⊢
  rw [(puts_perm _ _ rfl (kr_kf hg ws 100).nd).1.length_eq]
  omega
 ·exact Nat.zero_le _
theorem LtI_c (n:Int)(v w:Value)(es:List (Int × Int))(ws:List Int)(H:AH)(hr:RowP 115 H v es)(hlen:es.length<=1099511627776)(hw:Row 3 H w ws)(hlw:ws.length<=1099511627776) :
  ACalls Tryz.prog 8 [.agg (List.toArray [.int .i64 n,v]),w] H fun r H'=>∃ g,r=.tuple (List.toArray [g,.bool (ltF n es ws)])/\Own 3 H H' g (ltL n es ws)/\H<+:H':=by
 refine in8 rfl ?_
 intro Q hQ
 simp (disch:=omega) only [cd8,hr.boxG,SS,eq_self,reduceIte,reduceCtorEq,Nat.reduceEqDiff,Nat.reduceAdd]
 generalize hA:H ++ [AObj.cells [.int .i64 n,v] 26 false]=A
 have pA:H<+:A:=by rw [<- hA];exact List.prefix_append _ _
 have cA:A[H.length]?=some (.cells [.int .i64 n,v] 26 false):=by rw [<- hA];exact at_new ..
 have rA:=hr.pre pA
 have wA:=hw.pre pA
 simp (disch:=omega) only [ld_agg ag26 cs26 cA,SS,eq_self,reduceIte,reduceCtorEq,Nat.reduceEqDiff,Nat.reduceAdd]
 refine CallH.by (isWeighted_c n v w es ws A rA hlen wA hlw) ?_
 rintro _ B ⟨rfl,pB⟩
 have cB:=pre_at pB cA
 by_cases e:WtOk n es ws
 rotate_left
 ·have hF:ltF n es ws=false:=by unfold ltF;rw [decide_eq_false e];rfl
  have hL:ltL n es ws=[]:=by unfold ltL;rw [hF];rfl
  simp (disch:=omega) only [decide_eq_false e,SS,eq_self,reduceIte,reduceCtorEq,Nat.reduceEqDiff,Nat.reduceAdd]
  refine hQ _ _ _ ?_
  simp (disch:=omega) only [SS,eq_self,reduceIte,reduceCtorEq,Nat.reduceEqDiff,Nat.reduceAdd]
  rw [hF,hL]
  exact ⟨_,rfl,.inl ⟨rfl,rfl⟩,pA.trans pB⟩
 have hg:=e.2.1.1
 obtain ⟨N,rfl⟩:∃ N:Nat,n=N:=⟨n.toNat,by have:=e.2.1.2;omega⟩
 have hN:1<=N:=by have:=e.2.1.2;omega
 have h28:=grd_len hg
 have hwl:=e.2.2
 have hwb:∀ x:Nat,x<es.length->0<=ws.getD x 0/\ws.getD x 0<100:=fun x hx=>by
  have:=e.1 (ws.getD x 0) (by simp [show x<ws.length by omega])
  omega
 have hk:=lightestW_c N hN v w (.slice none 0 0) es ws [] B (rA.pre pB) hg (wA.pre pB) e.2.2 e.1 (.inl ⟨rfl,rfl⟩) (fun x hx=>by simp at hx) (by simp)
 simp only [krG_nil] at hk
 simp (disch:=omega) only [decide_eq_true e,ld_agg ag26 cs26 cB,SS,eq_self,reduceIte,reduceCtorEq,Nat.reduceEqDiff,Nat.reduceAdd]
 refine CallH.by hk ?_
 rintro _ C ⟨h | h,pC⟩
 rotate_left
 ·exact absurd (KF.nil es) h.1
 obtain ⟨_,rfl⟩:=h
 have pAC:=pB.trans pC
 by_cases hT:(krW N es ws 100).length+1=N
 rotate_left
 ·have hF:ltF (N:Int) es ws=false:=by unfold ltF;rw [Int.toNat_natCast,decide_eq_false hT,Bool.and_false]
  have hL:ltL (N:Int) es ws=[]:=by unfold ltL;rw [hF];rfl
  simp (disch:=omega) only [decide_eq_false hT,SS,eq_self,reduceIte,reduceCtorEq,Nat.reduceEqDiff,Nat.reduceAdd]
  refine hQ _ _ _ ?_
  simp (disch:=omega) only [SS,eq_self,reduceIte,reduceCtorEq,Nat.reduceEqDiff,Nat.reduceAdd]
  rw [hF,hL]
  exact ⟨_,rfl,.inl ⟨rfl,rfl⟩,pA.trans pAC⟩
 have hF:ltF (N:Int) es ws=true:=by unfold ltF;rw [Int.toNat_natCast,decide_eq_true hT,decide_eq_true e];rfl
 have hL:ltL (N:Int) es ws=puts (krW N es ws 100):=by unfold ltL;rw [hF,if_pos rfl,Int.toNat_natCast]
 simp (disch:=omega) only [decide_eq_true hT,SS,eq_self,reduceIte,reduceCtorEq,Nat.reduceEqDiff,Nat.reduceAdd]
 generalize hD:C ++ [AObj.cells [] 3 false]=D
 have pD:C<+:D:=by rw [<- hD];exact List.prefix_append _ _
 have own0:Own 3 A D (.slice (some ⟨C.length,0,none⟩) 0 0) (ltO N es ws 0):=.inr ⟨C.length,rfl,pAC.length_le,by rw [<- hD];exact at_new ..⟩
 have pAD:=pAC.trans pD
 have rD:=rA.pre pAD
 simp (disch:=omega) only [cell_of (pre_at pAD cA),rD.len Tryz.underlying24,SS,eq_self,reduceIte,reduceCtorEq,Nat.reduceEqDiff,Nat.reduceAdd]
 refine LoopH.by (fun m s H'=>∃ j:Nat,m+j=es.length/\s 1=w/\s 2=.pointer (some ⟨H.length,0,none⟩)/\s 6=.int .i64 (swL ws (krW N es ws 100))/\s 28=.int .i64 (es.length:Int)/\s 29=.int .i64 ((j:Nat):Int)/\Own 3 A H' (s 8) (ltO N es ws j)/\A<+:H') es.length ?_ ?_
 ·refine ⟨0,by omega,?_⟩
  simp (disch:=omega) only [SS,eq_self,reduceIte,reduceCtorEq,Nat.reduceEqDiff,Nat.reduceAdd]
  (repeat' first | exact own0 | exact pAD | apply And.intro) <;> first | (simp only [Value.int.injEq,true_and];omega) | omega | rfl | assumption | (simp;done) | (simp;omega)
 rintro m s H' ⟨j,hm,s1,s2,s6,s28,s29,hO,hp⟩
 simp (disch:=omega) only [s1,s2,s6,s28,s29,SS,eq_self,reduceIte,reduceCtorEq,Nat.reduceEqDiff,Nat.reduceAdd]
 refine brD.intro (fun g=>?_) (fun g=>?_)
 rotate_left
 ·have hj:j=es.length:=by omega
  subst hj
  rw [ltO_all hg] at hO
  simp (disch:=omega) only [hO.row.tup,SS,eq_self,reduceIte,reduceCtorEq,Nat.reduceEqDiff,Nat.reduceAdd]
  refine hQ _ _ _ ?_
  simp (disch:=omega) only [hO.row.tup,SS,eq_self,reduceIte,reduceCtorEq,Nat.reduceEqDiff,Nat.reduceAdd]
  rw [hF,hL]
  exact ⟨_,rfl,hO.base pA,pA.trans hp⟩
 have hj:j<es.length:=by omega
 have hol:=ltO_len N es ws j
 have hch:=lt_choice hN hg hwb hT hj
 have hsu:=ltO_succ N es ws j
 simp (disch:=omega) only [s1,s2,s6,s28,s29,SS,eq_self,reduceIte,reduceCtorEq,Nat.reduceEqDiff,Nat.reduceAdd]
 refine CallH.by (Clone_c (s 8) _ H' hO.row (by omega)) ?_
 rintro c E ⟨hcO,pE⟩
 obtain ⟨c2,F,a1,a2,a3,a4,a5,a6⟩:=own1_27 hcO pE (by omega) ((j:Nat):Int)
 have pHF:H'<+:F:=a3
 have pAF:=hp.trans pHF
 have cF:=pre_at pAF cA
 simp (disch:=omega) only [a1,s1,s2,s6,s28,s29,ld_agg ag26 cs26 cF,SS,eq_self,reduceIte,reduceCtorEq,Nat.reduceEqDiff,Nat.reduceAdd]
 refine CallH.by (lightestW_c N hN v w c2 es ws (ltO N es ws j ++ [(j:Int)]) F (rA.pre pAF) hg (wA.pre pAF) e.2.2 e.1 a2.row (fun x hx=>by
  rcases List.mem_append.1 hx with q | q
  ·have:=(ltO_mem.1 q).1;omega
  ·rw [List.mem_singleton.1 q];omega) (by simp;omega)) ?_
 rintro r K ⟨h,pK⟩
 have pAK:=pAF.trans pK
 have pFK:=pHF.trans pK
 by_cases hin:(j:Int) ∈ krW N es ws 100
 ·obtain ⟨h1,h2,h3⟩:=hch.2 hin
  rcases h with ⟨_,rfl⟩ | ⟨q,_⟩
  rotate_left
  ·exact absurd h1 q
  rw [if_pos hin] at hsu
  have f1:Own 3 A K c2 (ltO N es ws (j+1)):=by
   rw [hsu]
   exact ((a2.base hp).pre pK)
  simp (disch:=omega) only [decide_eq_true h2,decide_eq_true h3,s1,s2,s6,s28,s29,a2.row.tup,wrap64,SS,eq_self,reduceIte,reduceCtorEq,Nat.reduceEqDiff,Nat.reduceAdd]
  refine ⟨m - 1,by omega,j+1,?_⟩
  (repeat' first | exact f1 | exact pAK | apply And.intro) <;> first | (simp only [Value.int.injEq,true_and];omega) | omega | rfl | assumption | (simp;done) | (simp;omega)
 ·rw [if_neg hin,List.append_nil] at hsu
  have f1:Own 3 A K (s 8) (ltO N es ws (j+1)):=by rw [hsu];exact hO.pre pFK
  rcases h with ⟨h1,rfl⟩ | ⟨h1,rfl⟩
  ·by_cases h2:(krG N es ws (ltO N es ws j ++ [(j:Int)]) 100).length+1=N
   ·have h3:¬ swL ws (krG N es ws (ltO N es ws j ++ [(j:Int)]) 100)=swL ws (krW N es ws 100):=fun h3=>hin (hch.1 ⟨h1,h2,h3⟩)
    simp (disch:=omega) only [decide_eq_true h2,decide_eq_false h3,s1,s2,s6,s28,s29,wrap64,SS,eq_self,reduceIte,reduceCtorEq,Nat.reduceEqDiff,Nat.reduceAdd]
    refine ⟨m - 1,by omega,j+1,?_⟩
    (repeat' first | exact f1 | exact pAK | apply And.intro) <;> first | (simp only [Value.int.injEq,true_and];omega) | omega | rfl | assumption | (simp;done) | (simp;omega)
   ·simp (disch:=omega) only [decide_eq_false h2,s1,s2,s6,s28,s29,wrap64,SS,eq_self,reduceIte,reduceCtorEq,Nat.reduceEqDiff,Nat.reduceAdd]
    refine ⟨m - 1,by omega,j+1,?_⟩
    (repeat' first | exact f1 | exact pAK | apply And.intro) <;> first | (simp only [Value.int.injEq,true_and];omega) | omega | rfl | assumption | (simp;done) | (simp;omega)
  ·simp (disch:=omega) only [s1,s2,s6,s28,s29,wrap64,SS,eq_self,reduceIte,reduceCtorEq,Nat.reduceEqDiff,Nat.reduceAdd]
   refine ⟨m - 1,by omega,j+1,?_⟩
   (repeat' first | exact f1 | exact pAK | apply And.intro) <;> first | (simp only [Value.int.injEq,true_and];omega) | omega | rfl | assumption | (simp;done) | (simp;omega)
theorem LtS_c (n:Int)(v w:Value)(es:List (Int × Int))(ws:List Int)(H:AH)(hr:RowP 115 H v es)(hlen:es.length<=1099511627776)(hw:Row 3 H w ws)(hlw:ws.length<=1099511627776) :
  ACalls Tryz.prog 9 [.agg (List.toArray [.int .i64 n,v]),w] H fun r H'=>∃ g,r=.tuple (List.toArray [g,.bool (ltF n es ws)])/\Own 3 H H' g (ltL n es ws)/\H<+:H':=by
 refine in9 rfl ?_
 intro Q hQ
 simp (disch:=omega) only [cd9,hr.boxG,SS,eq_self,reduceIte,reduceCtorEq,Nat.reduceEqDiff,Nat.reduceAdd]
 generalize hA:H ++ [AObj.cells [.int .i64 n,v] 26 false]=A
 have pA:H<+:A:=by rw [<- hA];exact List.prefix_append _ _
 have cA:A[H.length]?=some (.cells [.int .i64 n,v] 26 false):=by rw [<- hA];exact at_new ..
 have rA:=hr.pre pA
 have wA:=hw.pre pA
 have emp:∀ B:AH,A<+:B->Own 3 H (B ++ [AObj.cells [] 3 false]) (.slice (some ⟨B.length,0,none⟩) 0 0) []/\H<+:B ++ [AObj.cells [] 3 false]:=fun B pB=>⟨.inr ⟨B.length,rfl,(pA.trans pB).length_le,at_new ..⟩,(pA.trans pB).trans (List.prefix_append _ _)⟩
 simp (disch:=omega) only [ld_agg ag26 cs26 cA,SS,eq_self,reduceIte,reduceCtorEq,Nat.reduceEqDiff,Nat.reduceAdd]
 refine CallH.by (l7Weights_c n v w es ws A rA hlen wA hlw) ?_
 rintro _ B ⟨rfl,pB⟩
 have cB:=pre_at pB cA
 by_cases e:WtOk n es ws
 rotate_left
 ·have hF:ltF n es ws=false:=by unfold ltF;rw [decide_eq_false e];rfl
  have hL:ltL n es ws=[]:=by unfold ltL;rw [hF];rfl
  simp (disch:=omega) only [decide_eq_false e,SS,eq_self,reduceIte,reduceCtorEq,Nat.reduceEqDiff,Nat.reduceAdd]
  refine hQ _ _ _ ?_
  simp (disch:=omega) only [SS,eq_self,reduceIte,reduceCtorEq,Nat.reduceEqDiff,Nat.reduceAdd]
  rw [hF,hL]
  exact ⟨_,rfl,(emp B pB).1,(emp B pB).2⟩
 have hg:=e.2.1.1
 obtain ⟨N,rfl⟩:∃ N:Nat,n=N:=⟨n.toNat,by have:=e.2.1.2;omega⟩
 have hN:1<=N:=by have:=e.2.1.2;omega
 have hk:=kr_kf hg ws 100
 have hfew:=hk.fst.few hN hg hk.ed
 have hpp:=puts_perm _ (krW N es ws 100) rfl hk.nd
 have hpl:=hpp.1.length_eq
 have h28:=grd_len hg
 have hn8:=hg.1
 have hiff:TreL N es (puts (krW N es ws 100))↔(krW N es ws 100).length+1=N:=⟨fun h=>by rw [<- hpl];exact h.1,fun h=>hk.tree hg h⟩
 simp (disch:=omega) only [decide_eq_true e,ld_agg ag26 cs26 cB,SS,eq_self,reduceIte,reduceCtorEq,Nat.reduceEqDiff,Nat.reduceAdd]
 refine CallH.by (l7Light_c N hN v w es ws B (rA.pre pB) hg (wA.pre pB) e.2.2 e.1) ?_
 rintro k C ⟨hkO,pC⟩
 have pAC:=pB.trans pC
 have cC:=pre_at pAC cA
 simp (disch:=omega) only [hkO.row.tup,ld_agg ag26 cs26 cC,SS,eq_self,reduceIte,reduceCtorEq,Nat.reduceEqDiff,Nat.reduceAdd]
 refine CallH.by (l7Tree_c N hN v k es _ C (rA.pre pAC) hg hkO.row (by omega)) ?_
 rintro _ D ⟨rfl,pD⟩
 have pAD:=pAC.trans pD
 by_cases hT:(krW N es ws 100).length+1=N
 ·have hF:ltF (N:Int) es ws=true:=by unfold ltF;rw [Int.toNat_natCast,decide_eq_true hT,decide_eq_true e];rfl
  have hL:ltL (N:Int) es ws=puts (krW N es ws 100):=by unfold ltL;rw [hF,if_pos rfl,Int.toNat_natCast]
  simp (disch:=omega) only [decide_eq_true (hiff.2 hT),hkO.row.tup,SS,eq_self,reduceIte,reduceCtorEq,Nat.reduceEqDiff,Nat.reduceAdd]
  refine hQ _ _ _ ?_
  simp (disch:=omega) only [hkO.row.tup,SS,eq_self,reduceIte,reduceCtorEq,Nat.reduceEqDiff,Nat.reduceAdd]
  rw [hF,hL]
  exact ⟨_,rfl,((hkO.base (pA.trans pB)).pre pD),pA.trans pAD⟩
 ·have hF:ltF (N:Int) es ws=false:=by unfold ltF;rw [Int.toNat_natCast,decide_eq_false hT,Bool.and_false]
  have hL:ltL (N:Int) es ws=[]:=by unfold ltL;rw [hF];rfl
  simp (disch:=omega) only [decide_eq_false (fun h=>hT (hiff.1 h)),hkO.row.tup,SS,eq_self,reduceIte,reduceCtorEq,Nat.reduceEqDiff,Nat.reduceAdd]
  refine hQ _ _ _ ?_
  simp (disch:=omega) only [SS,eq_self,reduceIte,reduceCtorEq,Nat.reduceEqDiff,Nat.reduceAdd]
  rw [hF,hL]
  exact ⟨_,rfl,(emp D pAD).1,(emp D pAD).2⟩
theorem bfs_pot {L:List (List Int)}(hL:LOk L.length L){i:Nat}(hi:i<L.length)(f:Nat->Nat)(f0:f i=0)
  (lip:∀ u v:Nat,u<L.length->v<L.length->(v:Int) ∈ L.getD u []->f v<=f u+1)
  (desc:∀ u:Nat,u<L.length->u ≠ i->∃ v,v<L.length/\(u:Int) ∈ L.getD v []/\f v+1=f u) :
  ∀ u,u<L.length->(bfs L i).getD u 0=(f u:Int):=by
 have A:∀ m u:Nat,u<L.length->f u=m->0<=(bfs L i).getD u 0/\(bfs L i).getD u 0<=(m:Int):=by
  intro m
  induction m with
  | zero =>
   intro u hu h
   by_cases e:u=i
   ·subst e;rw [bfs_zero hL hi];omega
   ·obtain ⟨v,_,_,h3⟩:=desc u hu e
    omega
  | succ m ih =>
   intro u hu h
   by_cases e:u=i
   ·subst e;omega
   ·obtain ⟨v,h1,h2,h3⟩:=desc u hu e
    obtain ⟨i1,i2⟩:=ih v h1 (by omega)
    have:=bfs_edge hL hi h1 i1 h2
    rw [Int.toNat_natCast] at this
    omega
 obtain ⟨q,hDI⟩:=bfs_DI hL hi
 have B:∀ d v:Nat,v<L.length->(bfs L i).getD v 0=(d:Int)->f v<=d:=by
  intro d
  induction d with
  | zero =>
   intro v hv h
   rcases hDI.src v hv (show 0<=(bfs L i).getD v 0 by omega) with ⟨e,_⟩ | ⟨u,u1,u2,u3,u4⟩
   ·subst e;omega
   ·have u2':0<=(bfs L i).getD u 0:=u2
    have u4':(bfs L i).getD v 0=(bfs L i).getD u 0+1:=u4
    omega
  | succ d ih =>
   intro v hv h
   rcases hDI.src v hv (show 0<=(bfs L i).getD v 0 by omega) with ⟨e,_⟩ | ⟨u,u1,u2,u3,u4⟩
   ·subst e;omega
   ·have u2':0<=(bfs L i).getD u 0:=u2
    have u4':(bfs L i).getD v 0=(bfs L i).getD u 0+1:=u4
    have h1:=ih u u1 (by omega)
    have h2:=lip u v u1 hv u3
    omega
 intro u hu
 obtain ⟨a1,a2⟩:=A (f u) u hu rfl
 have:=B ((bfs L i).getD u 0).toNat u hu (by omega)
 omega
theorem wo_tri {T U V:List Int}(hT:T.Nodup):(without T V).length<=(without T U).length+(without U V).length:=by
 have h:=nodup_leB (without T V) (without T U ++ without U V) (hT.filter _) fun x hx=>by
  unfold without at hx
  rw [List.mem_filter,decide_eq_true_eq] at hx
  by_cases q:x ∈ U
  ·refine List.mem_append_right _ ?_
   unfold without
   rw [List.mem_filter,decide_eq_true_eq];exact ⟨q,hx.2⟩
  ·refine List.mem_append_left _ ?_
   unfold without
   rw [List.mem_filter,decide_eq_true_eq];exact ⟨hx.1,q⟩
 rwa [List.length_append] at h
theorem jmpB_iff (x y:List Int):jmpB x y=true↔(without x y).length=1/\(without y x).length=1:=by
 have e:∀ a b:List Int,(a.filter fun e=>!decide (e ∈ b))=without a b:=fun a b=>by
  unfold without
  congr 1;funext e
  by_cases q:e ∈ b <;> simp [q]
 unfold jmpB
 rw [e,e,Bool.and_eq_true,decide_eq_true_eq,decide_eq_true_eq]
theorem jmpB_symm (x y:List Int):jmpB x y=jmpB y x:=by
 unfold jmpB;exact Bool.and_comm _ _
theorem jmp_dist {L:List (List Int)}(hs:SrtL L){i0:Nat}(hi0:i0<L.length)(hnd:(L.getD i0 []).Nodup)
  (hst:∀ u,u<L.length->u ≠ i0->∃ v,v<L.length/\v ≠ u/\jmpB (L.getD v []) (L.getD u [])=true/\(without (L.getD i0 []) (L.getD v [])).length+1=(without (L.getD i0 []) (L.getD u [])).length) :
  ∀ u,u<L.length->(bfs (rdS L.length (steps jmpB L)) i0).getD u 0=((without (L.getD i0 []) (L.getD u [])).length:Int):=by
 have hl:=rdS_len L.length (steps jmpB L)
 have hnb:∀ {x y:Nat},x<L.length->y<L.length->((y:Int) ∈ (rdS L.length (steps jmpB L)).getD x []↔y ≠ x/\jmpB (L.getD y []) (L.getD x [])=true):=by
  intro x y hx hy
  rw [rdS_at _ _ hx,steps_nb jmpB L hx hy]
  constructor
  ·rintro (⟨h1,h2⟩ | ⟨h1,h2⟩)
   ·exact ⟨by omega,h2⟩
   ·exact ⟨by omega,by rw [jmpB_symm];exact h2⟩
  ·rintro ⟨h1,h2⟩
   by_cases q:y<x
   ·exact .inl ⟨q,h2⟩
   ·exact .inr ⟨by omega,by rw [jmpB_symm];exact h2⟩
 have z:(without (L.getD i0 []) (L.getD i0 [])).length=0:=by
  rw [List.length_eq_zero_iff]
  unfold without
  rw [List.filter_eq_nil_iff]
  intro x hx h
  exact (of_decide_eq_true h) hx
 have key:=bfs_pot (rdS_ok (steps_ok jmpB L)) (i:=i0) (by rw [hl];exact hi0) (fun u=>(without (L.getD i0 []) (L.getD u [])).length) z
  (fun u v hu hv h=>by
   rw [hl] at hu hv
   obtain ⟨_,h2⟩:=(hnb hu hv).1 h
   have h3:=((jmpB_iff _ _).1 h2).2
   have:=wo_tri (U:=L.getD u []) (V:=L.getD v []) hnd
   show (without (L.getD i0 []) (L.getD v [])).length<=(without (L.getD i0 []) (L.getD u [])).length+1
   omega)
  (fun u hu hne=>by
   rw [hl] at hu
   obtain ⟨v,h1,h2,h3,h4⟩:=hst u hu hne
   exact ⟨v,by rw [hl];exact h1,(hnb h1 hu).2 ⟨fun q=>h2 q.symm,by rw [jmpB_symm];exact h3⟩,h4⟩)
 rw [hl] at key
 exact key
theorem swap_wo {S T:List Int}(hS:S.Pairwise (· < ·))(hT:T.Pairwise (· < ·)){e f:Int}(he:e ∈ S)(heT:e ∉ T)(hf:f ∈ T)(hfS:f ∉ S) :
  jmpB (put (wo1 S e) f) S=true/\(without T (put (wo1 S e) f)).length+1=(without T S).length:=by
 have hm:∀ x,x ∈ put (wo1 S e) f↔x=f∨(x ∈ S/\x ≠ e):=fun x=>by rw [put_mem,wo1_mem]
 have sp:=put_sorted _ f (wo1_srt hS e)
 have one:∀ (l:List Int) (a:Int),l.Pairwise (· < ·)->(∀ x,x ∈ l↔x=a)->l.length=1:=by
  intro l a hl h
  have:l=[a]:=srt_ext hl (List.pairwise_singleton _ _) fun z=>by rw [h z,List.mem_singleton]
  rw [this];rfl
 refine ⟨(jmpB_iff _ _).2 ⟨one _ f (sp.filter _) fun x=>?_,one _ e (hS.filter _) fun x=>?_⟩,?_⟩
 ·unfold without
  rw [List.mem_filter,decide_eq_true_eq,hm]
  constructor
  ·rintro ⟨h | h,h2⟩
   ·exact h
   ·exact absurd h.1 h2
  ·rintro rfl
   exact ⟨.inl rfl,hfS⟩
 ·unfold without
  rw [List.mem_filter,decide_eq_true_eq,hm]
  constructor
  ·rintro ⟨h1,h2⟩
   refine Classical.byContradiction fun q=>h2 (.inr ⟨h1,q⟩)
  ·rintro rfl
   refine ⟨he,?_⟩
   rintro (h | h)
   ·exact hfS (h ▸ he)
   ·exact h.2 rfl
 ·have hfw:f ∈ without T S:=by unfold without;rw [List.mem_filter,decide_eq_true_eq];exact ⟨hf,hfS⟩
  have hnd:(without T S).Nodup:=(hT.filter _).imp fun q e=>by omega
  have h1:=wo1_len hnd hfw
  have h2:without T (put (wo1 S e) f)=wo1 (without T S) f:=by
   refine srt_ext (hT.filter _) ((hT.filter _).filter _) fun x=>?_
   rw [wo1_mem]
   unfold without
   rw [List.mem_filter,List.mem_filter,decide_eq_true_eq,decide_eq_true_eq,hm]
   constructor
   ·rintro ⟨a,b⟩
    refine ⟨⟨a,fun q=>b (.inr ⟨q,fun q2=>heT (q2 ▸ a)⟩)⟩,fun q=>b (.inl q)⟩
   ·rintro ⟨⟨a,b⟩,c⟩
    refine ⟨a,?_⟩
    rintro (h | h)
    ·exact c h
    ·exact b h.1
  rw [h2];exact h1
structure LtOk (N:Nat) (es:List (Int × Int)) (ws:List Int):Prop where
 first:(lgL (N:Int) es ws).getD 0 []=puts (krW N es ws 100)
 pos:0<(lgL (N:Int) es ws).length
 least:∀ U ∈ tsL (N:Int) es,swL ws (puts (krW N es ws 100))<=swL ws U
 eq:lgL (N:Int) es ws=(tsL (N:Int) es).filter fun T=>decide (swL ws T=swL ws (puts (krW N es ws 100)))
 dist:∀ u,u<(lgL (N:Int) es ws).length->(bfs (rdS (lgL (N:Int) es ws).length (lgS (N:Int) es ws)) 0).getD u 0=((without (puts (krW N es ws 100)) ((lgL (N:Int) es ws).getD u [])).length:Int)
 len:(krW N es ws 100).length+1=N
theorem lt_says {N:Nat}(hn:1<=N){es:List (Int × Int)}{ws:List Int}(h:lgB (N:Int) es ws=true):LtOk N es ws:=by
 unfold lgB at h
 rw [Bool.and_eq_true,decide_eq_true_eq,decide_eq_true_eq] at h
 obtain ⟨hw,ht⟩:=h
 have hg:=hw.2.1.1
 have hwb:∀ e:Nat,e<es.length->0<=ws.getD e 0/\ws.getD e 0<100:=fun e he=>by
  have hl:=hw.2.2
  have:=hw.1 (ws.getD e 0) (by simp [show e<ws.length by omega])
  omega
 have htm:∀ U,U ∈ tsL (N:Int) es↔TreL N es U:=fun U=>by
  unfold tsL;rw [if_pos ht,Int.toNat_natCast];exact treA_iff hn hg U
 have hkf:=kr_kf hg ws 100
 have hp:=puts_perm _ (krW N es ws 100) rfl hkf.nd
 have hsw:=swL_pm (ws:=ws) hp.1
 have heq:lgL (N:Int) es ws=(tsL (N:Int) es).filter fun T=>decide (swL ws T=swL ws (puts (krW N es ws 100))):=by
  unfold lgL;rw [if_pos hw,Int.toNat_natCast,hsw]
 obtain ⟨U0,hU0⟩:∃ U,TreL N es U:=by
  have h1:=ht.2.1
  rw [Int.toNat_natCast] at h1
  exact ⟨_,(treA_iff hn hg _).1 (List.getElem_mem h1)⟩
 have hlen:=kr_conn hn hg hwb hU0
 have hT:=hkf.tree hg hlen
 have hleast:∀ U,TreL N es U->swL ws (puts (krW N es ws 100))<=swL ws U:=fun U hU=>by
  rw [hsw];exact kr_least hn hg (M:=100) (fun e he=>hwb e he) hU
 have hmem:∀ U,U ∈ lgL (N:Int) es ws↔TreL N es U/\swL ws U=swL ws (puts (krW N es ws 100)):=fun U=>by
  rw [heq,List.mem_filter,decide_eq_true_eq,htm]
 have hs:=lgL_srt (N:Int) es ws
 obtain ⟨j,hj,hje⟩:=mem_at ((hmem _).2 ⟨hT,rfl⟩)
 have at_mem:∀ u,u<(lgL (N:Int) es ws).length->(lgL (N:Int) es ws).getD u [] ∈ lgL (N:Int) es ws:=fun u hu=>by
  rw [List.getD_eq_getElem?_getD,List.getElem?_eq_getElem hu];exact List.getElem_mem hu
 have hj0:j=0:=by
  refine Classical.byContradiction fun q=>?_
  have h1:=srt_lt hs (i:=0) (j:=j) (by omega) hj
  obtain ⟨h2,h3⟩:=(hmem _).1 (at_mem 0 (by omega))
  rw [hje] at h1
  exact light_first hn hg hwb h2 (by rw [h3,hsw];exact Int.le_refl _) hT h1
 subst hj0
 refine ⟨hje,by omega,fun U hU=>hleast U ((htm U).1 hU),heq,?_,hlen⟩
 have key:=jmp_dist hs hj (by rw [hje];exact hT.nd) fun u hu hne=>by
  obtain ⟨h2,h3⟩:=(hmem _).1 (at_mem u hu)
  rw [hje]
  generalize hS:(lgL (N:Int) es ws).getD u []=S at *
  have hne2:S ≠ puts (krW N es ws 100):=fun q=>hne (srt_uniq hs hu hj (by rw [hS,hje,q]))
  obtain ⟨f,hf,hfS⟩:∃ f ∈ puts (krW N es ws 100),f ∉ S:=by
   refine Classical.byContradiction fun q=>hne2 (tre_eq hg h2 hT fun x hx=>?_)
   exact Classical.byContradiction fun q2=>q ⟨x,hx,q2⟩
  obtain ⟨e,he,heT,h4,h5⟩:=light_ex hg hleast h2 hT h3 rfl hf hfS
  obtain ⟨v,hv,hve⟩:=mem_at ((hmem _).2 ⟨h4,h5⟩)
  obtain ⟨h6,h7⟩:=swap_wo h2.2.1 hT.2.1 he heT hf hfS
  refine ⟨v,hv,fun q=>?_,by rw [hve];exact h6,by rw [hve];exact h7⟩
  subst q
  rw [hS] at hve
  exact hfS (by rw [hve];exact (put_mem _ _ _).2 (.inl rfl))
 intro u hu
 have:=key u hu
 rw [hje] at this
 exact this
def cd127:Cd:=(.seq (.reg [⟨⟨some 4,.assign (.const (.int .i64 0)),none⟩,[]⟩]) (.seq (.seq (.reg [⟨⟨some 6,.move (.tmp 0),none⟩,[]⟩,
 ⟨⟨some 7,.call ⟨(.builtin .len),#[.tmp 6],#[32]⟩,none⟩,[]⟩,
 ⟨⟨some 8,.move (.const (.int .i64 0)),none⟩,[]⟩]) (.block 0 (.loop (.seq (.reg [⟨⟨some 9,.binOp .lss 3 (.tmp 8) (.tmp 7) 3,none⟩,[]⟩]) (.seq (.cond (.tmp 9) .skip (.exit 0)) (.seq (.block 1 (.seq (.reg [⟨⟨some 10,.move (.tmp 8),none⟩,[]⟩,
 ⟨⟨some 5,.assign (.tmp 10),none⟩,[]⟩]) (.seq (.reg [⟨⟨some 11,.move (.tmp 1),none⟩,[]⟩,
 ⟨⟨some 12,.move (.tmp 0),none⟩,[]⟩,
 ⟨⟨some 13,.move (.tmp 5),none⟩,[]⟩,
 ⟨⟨some 14,.indexAddr 32 (.tmp 12) (.tmp 13),none⟩,[]⟩,
 ⟨⟨some 15,.load 27 (.tmp 14),none⟩,[]⟩,
 ⟨⟨some 16,.call ⟨(.value (.tmp 11)),#[.tmp 15],#[27]⟩,none⟩,[]⟩]) (.cond (.tmp 16) (.seq (.reg [⟨⟨some 17,.move (.tmp 5),none⟩,[]⟩,
 ⟨⟨some 4,.assign (.tmp 17),none⟩,[]⟩]) .ret) .skip)))) (.reg [⟨⟨some 18,.binOp .add 3 (.tmp 8) (.const (.int .i64 1)) 3,none⟩,[]⟩,
 ⟨⟨some 8,.move (.tmp 18),none⟩,[]⟩]))))))) (.seq (.reg [⟨⟨some 4,.assign (.const (.int .i64 (-1))),none⟩,[]⟩]) .ret)))
theorem in127:InT Tryz.prog 127 2 [.tmp 4] cd127:=InT.mk (by kernel_rfl) [] Tryz.func127 rfl (by kernel_rfl) (by kernel_rfl) (of_decide_eq_true (by kernel_rfl)) (by kernel_rfl)
end Go.Proofs.YtlcipphiflcaiaaGreat.Ai
namespace Go.Proofs.YtlcipphiflcaiaaGreat.Ai
open Go Go.RowKit
def idxB:List Bool->Nat->Int
 | [],_ => -1
 | b :: bs,k=>if b=true then (k:Int) else idxB bs (k+1)
theorem idxB_step (bs:List Bool)(i:Nat)(hi:i<bs.length):idxB (bs.drop i) i=if bs.getD i false=true then (i:Int) else idxB (bs.drop (i+1)) (i+1):=by
 rw [List.drop_eq_getElem_cons hi]
 simp [idxB,hi]
theorem IndexFuncL_c (v:Value)(us:List Value)(bs:List Bool)(g:FuncId)(caps:List Value)(H:AH)(hr:RowV 27 H v us)(hlen:us.length<=1099511627776)(hb:bs.length=us.length)
  (hp:∀ i,i<us.length->∀ H1,H<+:H1->ACalls Tryz.prog g (us.getD i undef :: caps) H1 fun r H'=>r=.bool (bs.getD i false)/\H1<+:H') :
  ACalls Tryz.prog 127 [v,.func (.func g) #[] (List.toArray caps)] H fun r H'=>r=.int .i64 (idxB bs 0)/\H<+:H':=by
 refine in127 rfl ?_
 intro Q hQ
 simp (disch:=omega) only [cd127,hr.len Tryz.underlying32,SS,eq_self,reduceIte,reduceCtorEq,Nat.reduceEqDiff,Nat.reduceAdd]
 refine LoopH.by (fun m s H'=>∃ i,m+i=us.length/\s 0=v/\s 1=.func (.func g) #[] (List.toArray caps)/\s 8=.int .i64 ((i:Nat):Int)/\s 7=.int .i64 (us.length:Int)/\H<+:H'/\idxB bs 0=idxB (bs.drop i) i) us.length ?_ ?_
 ·exact ⟨0,by simp,rfl,rfl,rfl,rfl,List.prefix_refl _,by simp⟩
 ·rintro m s H' ⟨i,hm,h0,h1,h8,h7,hpp,hn⟩
  have hr':=hr.pre hpp
  simp (disch:=omega) only [h0,h1,h8,h7,SS,eq_self,reduceIte,reduceCtorEq,Nat.reduceEqDiff,Nat.reduceAdd]
  refine brD.intro (fun g=>?_) (fun g=>?_) <;> simp (disch:=omega) only [h0,h1,h8,h7,hr'.ix Tryz.underlying32 cs27,hr'.cell,Int.toNat_natCast,SS,eq_self,reduceIte,reduceCtorEq,Nat.reduceEqDiff,Nat.reduceAdd]
  ·have hi:i<us.length:=by omega
   rw [idxB_step bs i (by omega)] at hn
   refine CallH.by (hp i hi H' hpp) ?_
   rintro _ H2 ⟨rfl,hp2⟩
   simp (disch:=omega) only [SS,eq_self,reduceIte,reduceCtorEq,Nat.reduceEqDiff,Nat.reduceAdd]
   refine brH.intro (fun e=>?_) (fun e=>?_) <;> simp (disch:=omega) only [h0,h1,h8,h7,wrap64,SS,eq_self,reduceIte,reduceCtorEq,Nat.reduceEqDiff,Nat.reduceAdd]
   ·refine hQ _ _ _ ?_
    simp (disch:=omega) only [SS,eq_self,reduceIte,reduceCtorEq,Nat.reduceEqDiff,Nat.reduceAdd]
    rw [hn,if_pos e]
    exact ⟨rfl,hpp.trans hp2⟩
   ·rw [if_neg (by rw [e];decide)] at hn
    exact ⟨m - 1,by omega,i+1,by omega,by simp,hpp.trans hp2,hn⟩
  ·refine hQ _ _ _ ?_
   simp (disch:=omega) only [SS,eq_self,reduceIte,reduceCtorEq,Nat.reduceEqDiff,Nat.reduceAdd]
   rw [hn,List.drop_of_length_le (by omega)]
   exact ⟨rfl,hpp⟩
def cd57:Cd:=(.seq (.reg [⟨⟨some 4,.assign (.const (.slice none 0 0)),none⟩,[]⟩]) (.seq (.reg [⟨⟨some 8,.move (.tmp 0),none⟩,[]⟩,⟨⟨some 9,.move (.tmp 1),none⟩,[]⟩,⟨⟨some 10,.call ⟨(.value (.func 127)),#[.tmp 8,.tmp 9],#[32,78]⟩,none⟩,[]⟩,⟨⟨some 5,.assign (.tmp 10),none⟩,[]⟩]) (.seq (.seq (.reg [⟨⟨some 11,.move (.tmp 5),none⟩,[]⟩,⟨⟨some 12,.binOp .eql 3 (.tmp 11) (.const (.int .i64 (-1))) 3,none⟩,[]⟩]) (.cond (.tmp 12) (.seq (.reg [⟨⟨some 13,.move (.tmp 0),none⟩,[]⟩,⟨⟨some 4,.assign (.tmp 13),none⟩,[]⟩]) .ret) .skip)) (.seq (.seq (.reg [⟨⟨some 14,.move (.tmp 5),none⟩,[]⟩,⟨⟨some 15,.binOp .add 3 (.tmp 14) (.const (.int .i64 1)) 3,none⟩,[]⟩,⟨⟨some 6,.assign (.tmp 15),none⟩,[]⟩]) (.block 0 (.loop (.seq (.seq (.reg [⟨⟨some 16,.move (.tmp 6),none⟩,[]⟩,⟨⟨some 17,.move (.tmp 0),none⟩,[]⟩,⟨⟨some 18,.call ⟨(.builtin .len),#[.tmp 17],#[32]⟩,none⟩,[]⟩,⟨⟨some 19,.binOp .lss 3 (.tmp 16) (.tmp 18) 3,none⟩,[]⟩]) (.cond (.tmp 19) .skip (.exit 0))) (.seq (.block 1 (.seq (.reg [⟨⟨some 22,.move (.tmp 0),none⟩,[]⟩,⟨⟨some 23,.move (.tmp 6),none⟩,[]⟩,
 ⟨⟨some 24,.indexAddr 32 (.tmp 22) (.tmp 23),none⟩,[]⟩,⟨⟨some 25,.load 27 (.tmp 24),none⟩,[]⟩,⟨⟨some 7,.assign (.tmp 25),none⟩,[]⟩]) (.seq (.reg [⟨⟨some 26,.move (.tmp 1),none⟩,[]⟩,⟨⟨some 27,.move (.tmp 7),none⟩,[]⟩,⟨⟨some 28,.call ⟨(.value (.tmp 26)),#[.tmp 27],#[27]⟩,none⟩,[]⟩,⟨⟨some 29,.unOp .not 4 (.tmp 28),none⟩,[]⟩]) (.cond (.tmp 29) (.seq (.reg [⟨⟨some 30,.move (.tmp 0),none⟩,[]⟩,⟨⟨some 31,.move (.tmp 5),none⟩,[]⟩,⟨⟨some 32,.move (.tmp 7),none⟩,[]⟩,⟨⟨some 33,.indexAddr 32 (.tmp 30) (.tmp 31),none⟩,[]⟩,⟨⟨none,.store 27 (.tmp 33) (.tmp 32),none⟩,[]⟩]) (.reg [⟨⟨some 34,.move (.tmp 5),none⟩,[]⟩,⟨⟨some 35,.binOp .add 3 (.tmp 34) (.const (.int .i64 1)) 3,none⟩,[]⟩,⟨⟨some 5,.assign (.tmp 35),none⟩,[]⟩])) .skip)))) (.reg [⟨⟨some 20,.move (.tmp 6),none⟩,[]⟩,
 ⟨⟨some 21,.binOp .add 3 (.tmp 20) (.const (.int .i64 1)) 3,none⟩,[]⟩,
  ⟨⟨some 6,.assign (.tmp 21),none⟩,[]⟩])))))) (.seq (.reg [⟨⟨some 36,.move (.tmp 0),none⟩,[]⟩,
  ⟨⟨some 37,.move (.tmp 5),none⟩,[]⟩,
  ⟨⟨some 38,.slice 32 (.tmp 36) (some (.tmp 37)) none none,none⟩,[]⟩,
  ⟨⟨none,.call ⟨(.builtin .clear),#[.tmp 38],#[32]⟩,none⟩,[]⟩]) (.seq (.reg [⟨⟨some 39,.move (.tmp 0),none⟩,[]⟩,
  ⟨⟨some 40,.move (.tmp 5),none⟩,[]⟩,
  ⟨⟨some 41,.slice 32 (.tmp 39) none (some (.tmp 40)) none,none⟩,[]⟩,
  ⟨⟨some 4,.assign (.tmp 41),none⟩,[]⟩]) .ret))))))
theorem in57:InT Tryz.prog 57 2 [.tmp 4] cd57:=InT.mk (by kernel_rfl) [] Tryz.func57 rfl (by kernel_rfl) (by kernel_rfl) (of_decide_eq_true (by kernel_rfl)) (by kernel_rfl)
end Go.Proofs.YtlcipphiflcaiaaGreat.Ai
namespace Go.Proofs.YtlcipphiflcaiaaGreat.Ai
open Go Go.RowKit
def kiB (bs:List Bool):Nat->List Nat
 | 0=>[]
 | n+1=>kiB bs n ++ (if bs.getD n false=true then [] else [n])
theorem kiB_lt (bs:List Bool):∀ n,∀ k ∈ kiB bs n,k<n
 | 0,k,h=>by simp [kiB] at h
 | n+1,k,h=>by
  simp only [kiB,List.mem_append] at h
  rcases h with h | h
  ·have:=kiB_lt bs n k h;omega
  ·split at h
   ·simp at h
   ·simp only [List.mem_singleton] at h;omega
theorem kiB_srt (bs:List Bool):∀ n,(kiB bs n).Pairwise (· < ·)
 | 0=>.nil
 | n+1=>by
  simp only [kiB]
  rw [List.pairwise_append]
  refine ⟨kiB_srt bs n,by split <;> simp,fun x hx y hy=>?_⟩
  have:=kiB_lt bs n x hx
  split at hy
  ·simp at hy
  ·simp only [List.mem_singleton] at hy;omega
theorem kiB_len (bs:List Bool):∀ n,(kiB bs n).length<=n
 | 0=>Nat.le_refl _
 | n+1=>by
  have:=kiB_len bs n
  simp only [kiB,List.length_append]
  split <;> simp <;> omega
theorem kiB_filter (p:List Int->Bool)(ls:List (List Int)):∀ n,n<=ls.length->(kiB (ls.map p) n).map (fun k=>ls.getD k [])=(ls.take n).filter (fun l=>!p l)
 | 0,_=>by simp [kiB]
 | n+1,h=>by
  have hn:n<ls.length:=by omega
  have e1:(ls.map p).getD n false=p ls[n]:=by simp [hn]
  have e2:ls.getD n []=ls[n]:=by simp [hn]
  simp only [kiB,List.map_append,kiB_filter p ls n (by omega)]
  rw [List.take_add_one,List.getElem?_eq_getElem hn,List.filter_append,e1]
  congr 1
  cases hp:p ls[n] <;> simp [hp,hn]
theorem kiB_none (bs:List Bool):∀ n,(∀ j,j<n->bs.getD j false=false)->kiB bs n=List.range n
 | 0,_=>rfl
 | n+1,h=>by
  simp only [kiB]
  rw [kiB_none bs n (fun j hj=>h j (by omega)),h n (by omega),List.range_succ]
  simp
theorem idxB_lt:∀ (bs:List Bool) (k:Nat),(idxB bs k = -1/\∀ j,bs.getD j false=false)∨∃ i,idxB bs k=((k+i:Nat):Int)/\i<bs.length/\(∀ j,j<i->bs.getD j false=false)/\bs.getD i false=true
 | [],k=>.inl ⟨rfl,by simp⟩
 | b :: bs,k=>by
  simp only [idxB]
  cases b with
  | true=>exact .inr ⟨0,by simp,by simp,fun j h=>absurd h (Nat.not_lt_zero j),by simp⟩
  | false =>
   rcases idxB_lt bs (k+1) with ⟨e,h⟩ | ⟨i,e1,e2,e3,e4⟩
   ·refine .inl ⟨by simpa using e,fun j=>?_⟩
    cases j with
    | zero=>simp
    | succ j=>simpa using h j
   ·refine .inr ⟨i+1,by simp only [Bool.false_eq_true,if_false];rw [e1];congr 1;omega,by simp;omega,fun j hj=>?_,by simpa using e4⟩
    cases j with
    | zero=>simp
    | succ j=>simpa using e3 j (by omega)
theorem take_set_V (zs:List Value)(i:Nat)(x:Value)(h:i<zs.length):(zs.set i x).take (i+1)=zs.take i ++ [x]:=by
 rw [List.take_add_one,List.getElem?_set_self h]
 congr 1
 rw [List.take_set_of_le (Nat.le_refl _)]
theorem clear_vals {P:Program}{t e:TypeId}(hu:P.underlying t=some (.slice e))(hc:P.cellsOf e=1)(hz:zeroA P e=some (.slice none 0 0)){H:AH}{o k n c:Nat}{ys:List Value}(ho:H[o]?=some (.cells ys e false))(hk:k+n<=ys.length) :
  ∃ zs,clearA P t (.slice (some ⟨o,k,none⟩) n c) H=some (undef,H.set o (.cells zs e false))/\zs.take k=ys.take k/\zs.length=ys.length:=by
 by_cases hn:n=0
 ·refine ⟨ys,?_,rfl,rfl⟩
  simp only [clearA,hu]
  rw [if_pos hn]
  have:H.set o (.cells ys e false)=H:=by
   apply List.ext_getElem?
   intro i
   rw [List.getElem?_set]
   by_cases hi:o=i
   ·subst hi
    rw [if_pos rfl,if_pos (at_lt ho),ho]
   ·rw [if_neg hi]
  rw [this]
 ·have hzc:(Value.slice none 0 0).cells=#[.slice none 0 0]:=rfl
  have hzs:zerosA (.slice none 0 0) (n * 1)=List.replicate n (.slice none 0 0):=by
   unfold zerosA
   rw [hzc,Nat.mul_one]
   apply List.ext_getElem
   ·simp
   ·intro i h1 h2
    simp [Nat.mod_one]
  refine ⟨ys.take k ++ List.replicate n (.slice none 0 0) ++ ys.drop (k+n),?_,?_,?_⟩
  ·simp only [clearA,hu,ho,hz,hc,hzs]
   rw [if_neg hn,if_pos ⟨trivial,by simp [plainCs,hzc,plainC],by simp [hzc],by omega,by omega⟩]
   unfold putAt
   simp only [List.length_replicate]
  ·rw [List.append_assoc,List.take_append_of_le_length (by simp;omega),List.take_take,Nat.min_self]
  ·simp;omega
theorem InL.tup9 {lo hi:Nat}{e2 e:TypeId}{H:AH}{v:Value}{ls:List (List Int)}(h:InL lo hi e2 e H v ls):isTup v=false:=by
 rcases h with ⟨h,_⟩ | ⟨o,us,h,_⟩ <;> rw [h] <;> rfl
theorem DelL_c {lo hi:Nat}(v:Value)(ls:List (List Int))(p:List Int->Bool)(g:FuncId)(caps:List Value)(H:AH)(hv:InL lo hi 27 3 H v ls)(hlen:ls.length<=1099511627776)
  (hp:∀ (w:Value) (l:List Int) (H1:AH),Row 3 H1 w l->l ∈ ls->Kept v H H1->ACalls Tryz.prog g (w :: caps) H1 fun r H'=>r=.bool (p l)/\H1=H') :
  ACalls Tryz.prog 57 [v,.func (.func g) #[] (List.toArray caps)] H fun r H'=>InL lo hi 27 3 H' r (ls.filter fun l=>!p l)/\Kept v H H'/\H.length<=H'.length:=by
 refine in57 rfl ?_
 intro Q hQ
 simp (disch:=omega) only [cd57,SS,eq_self,reduceIte,reduceCtorEq,Nat.reduceEqDiff,Nat.reduceAdd]
 obtain ⟨us,r1,r2,r3⟩:=hv.parts
 have hbl:(ls.map p).length=us.length:=by rw [List.length_map,r2]
 have bat:∀ i,i<ls.length->(ls.map p).getD i false=p (ls.getD i []):=fun i hi=>by simp [hi]
 have kp0:∀ H1:AH,H<+:H1->Kept v H H1:=fun H1 hp1 j y _ hy=>pre_at hp1 hy
 refine CallH.by (IndexFuncL_c v us (ls.map p) g caps H r1 (by omega) hbl (fun i hi H1 hp1=>?_)) ?_
 ·have hi':i<ls.length:=by omega
  have h:=hp (us.getD i undef) (ls.getD i []) H1 ((r3 i hi').row.1.pre hp1) (by simp [hi']) (kp0 H1 hp1)
  rw [<- bat i hi'] at h
  exact h.mono fun r H' hh=>⟨hh.1,hh.2 ▸ List.prefix_refl _⟩
 rintro _ H1 ⟨rfl,hp1⟩
 have hv1:=hv.pre hp1
 simp (disch:=omega) only [SS,eq_self,reduceIte,reduceCtorEq,Nat.reduceEqDiff,Nat.reduceAdd]
 rcases idxB_lt (ls.map p) 0 with ⟨e,hno⟩ | ⟨i0,e1,e2,e3,e4⟩
 ·have hall:ls.filter (fun l=>!p l)=ls:=by
   rw [List.filter_eq_self]
   intro l hl
   obtain ⟨i,hi,rfl⟩:=List.getElem_of_mem hl
   have:=hno i
   rw [bat i hi] at this
   have e2:ls.getD i []=ls[i]:=by simp [hi]
   rw [e2] at this;simp [this]
  rw [hall] at hQ
  simp (disch:=omega) only [e,SS,eq_self,reduceIte,reduceCtorEq,Nat.reduceEqDiff,Nat.reduceAdd]
  refine hQ _ _ _ ?_
  simp (disch:=omega) only [hv.tup9,SS,eq_self,reduceIte,reduceCtorEq,Nat.reduceEqDiff,Nat.reduceAdd]
  exact ⟨hv1,kp0 H1 hp1,hp1.length_le⟩
 rw [Nat.zero_add] at e1
 have hi0:i0<ls.length:=by simpa using e2
 rcases hv1 with ⟨_,hn⟩ | ⟨o,us1,rfl,hU⟩
 ·rw [hn] at hi0;simp at hi0
 have hU0:=hU
 obtain ⟨u1,u2,u3,u4,u5,u6⟩:=hU0
 have hne:¬ ((i0:Nat):Int) = -1:=by omega
 simp (disch:=omega) only [e1,hne,wrap64,SS,eq_self,reduceIte,reduceCtorEq,Nat.reduceEqDiff,Nat.reduceAdd]
 have rowOf:∀ zs:List Value,ls.length<=zs.length->RowV 27 (H1.set o (.cells zs 27 false)) (.slice (some ⟨o,0,none⟩) ls.length ls.length) (zs.take ls.length):=by
  intro zs hz
  refine .inr ⟨o,0,zs,false,by simp [Nat.min_eq_left hz],at_set u3,by simp;omega,by simp [Nat.min_eq_left hz]⟩
 have kset:∀ x:AObj,Kept (.slice (some ⟨o,0,none⟩) ls.length ls.length) H1 (H1.set o x):=fun x=>(Else.set (p:=0) (n:=ls.length) (c:=ls.length) H1 x).2
 refine LoopH.by (fun m s H'=>∃ (j i:Nat) (zs:List Value),m+j=ls.length/\s 0=.slice (some ⟨o,0,none⟩) ls.length ls.length/\s 1=.func (.func g) #[] (List.toArray caps)/\s 5=.int .i64 ((i:Nat):Int)/\s 6=.int .i64 ((j:Nat):Int)/\H'=H1.set o (.cells zs 27 false)/\zs.length=us1.length/\i<j/\(kiB (ls.map p) j).length=i/\zs.take i=(kiB (ls.map p) j).map (fun k=>us1.getD k undef)/\zs.drop j=us1.drop j) (ls.length - i0 - 1) ?_ ?_
 ·have hk0:kiB (ls.map p) (i0+1)=List.range i0:=by
   simp only [kiB]
   rw [kiB_none _ i0 e3,e4]
   simp
  have hs:H1=H1.set o (.cells us1 27 false):=by
   apply List.ext_getElem?
   intro j
   rw [List.getElem?_set]
   by_cases hj:o=j
   ·subst hj;rw [if_pos rfl,if_pos (at_lt u3),u3]
   ·rw [if_neg hj]
  refine ⟨i0+1,i0,us1,by omega,rfl,rfl,by simp [SS,eq_self,reduceIte,reduceCtorEq,Nat.reduceEqDiff,Nat.reduceAdd],by simp [SS,eq_self,reduceIte,reduceCtorEq,Nat.reduceEqDiff,Nat.reduceAdd],hs,rfl,by omega,by rw [hk0];simp,?_,rfl⟩
  rw [hk0]
  apply List.ext_getElem
  ·simp;omega
  ·intro j h1 h2
   simp at h1 h2
   simp [show j<us1.length by omega]
 rintro m s H' ⟨j,i,zs,hm,h0,h1,h5,h6,rfl,hzl,hij,hkl,hzt,hzd⟩
 have hc':(H1.set o (.cells zs 27 false))[o]?=some (.cells zs 27 false):=at_set u3
 have hjl:i<=us1.length:=by have:=kiB_len (ls.map p) j;omega
 have hrow:=rowOf zs (by omega)
 have htl:(zs.take ls.length).length=ls.length:=by simp;omega
 simp (disch:=omega) only [h0,h1,h5,h6,SS,eq_self,reduceIte,reduceCtorEq,Nat.reduceEqDiff,Nat.reduceAdd]
 refine brD.intro (fun gg=>?_) (fun gg=>?_)
 ·have hj:j<ls.length:=by omega
  have hy:zs.getD j undef=us1.getD j undef:=by
   have:=congrArg (·[0]?) hzd
   simp only [List.getElem?_drop,Nat.add_zero] at this
   rw [List.getD_eq_getElem?_getD,List.getD_eq_getElem?_getD,this]
  have hcell:cellA (H1.set o (.cells zs 27 false)) o j=some (us1.getD j undef):=by
   rw [cell_of hc',<- hy]
   simp [show j<zs.length by omega]
  obtain ⟨w1,w2⟩:=u5 j hj
  have hrw:=w1.row.1
  have hap:Apart (us1.getD j undef) (.slice (some ⟨o,0,none⟩) ls.length ls.length):=by
   rcases w2 with q | q
   ·exact .inr (.inl q)
   ·exact .inr (.inr q)
  have hrw2:=hrw.kept hap (kset (.cells zs 27 false))
  have hkk:Kept (.slice (some ⟨o,0,none⟩) ls.length ls.length) H (H1.set o (.cells zs 27 false)):=fun q y hq hy=>kset _ q y hq (pre_at hp1 hy)
  simp (disch:=omega) only [h0,h1,h5,h6,Int.toNat_natCast,Nat.zero_add,hcell,SS,eq_self,reduceIte,reduceCtorEq,Nat.reduceEqDiff,Nat.reduceAdd]
  refine CallH.by (hp (us1.getD j undef) (ls.getD j []) _ hrw2 (by simp [hj]) hkk) ?_
  rintro _ _ ⟨rfl,rfl⟩
  have hstep:kiB (ls.map p) (j+1)=kiB (ls.map p) j ++ (if p (ls.getD j [])=true then [] else [j]):=by simp only [kiB];rw [bat j hj]
  obtain ⟨pu,hpu⟩:=hrw.shape
  cases q:p (ls.getD j []) with
  | true =>
   simp (disch:=omega) only [h0,h1,h5,h6,wrap64,SS,eq_self,reduceIte,reduceCtorEq,Nat.reduceEqDiff,Nat.reduceAdd]
   rw [q,if_pos rfl,List.append_nil] at hstep
   have f1:(kiB (ls.map p) (j+1)).length=i:=by rw [hstep];exact hkl
   have f2:zs.take i=(kiB (ls.map p) (j+1)).map (fun k=>us1.getD k undef):=by rw [hstep];exact hzt
   have f3:zs.drop (j+1)=us1.drop (j+1):=by rw [<- List.drop_drop,hzd,List.drop_drop]
   refine ⟨m - 1,by omega,j+1,i,zs,?_⟩
   (repeat' apply And.intro) <;> first | rfl | trivial | assumption | omega | (simp only [Value.int.injEq,true_and];omega) | (simp;done) | (simp;omega) | exact f1 | exact f2 | exact f3
  | false =>
   have hst:=st_at (P:=Tryz.prog) (t:=27) (i:=i) (y:=us1.getD j undef) cs27 hc' (by omega) (by rw [hpu];rfl) (by rw [hpu];rfl)
   rw [List.set_set] at hst
   rw [q,if_neg (by decide)] at hstep
   simp (disch:=omega) only [h0,h1,h5,h6,Int.toNat_natCast,Nat.zero_add,hcell,hst,wrap64,SS,eq_self,reduceIte,reduceCtorEq,Nat.reduceEqDiff,Nat.reduceAdd]
   have f1:(kiB (ls.map p) (j+1)).length=i+1:=by rw [hstep,List.length_append,hkl];rfl
   have f2:(zs.set i (us1.getD j undef)).take (i+1)=(kiB (ls.map p) (j+1)).map (fun k=>us1.getD k undef):=by rw [take_set_V zs i _ (by omega),hstep,hzt,List.map_append];rfl
   have f3:(zs.set i (us1.getD j undef)).drop (j+1)=us1.drop (j+1):=by rw [List.drop_set_of_lt (by omega),<- List.drop_drop,hzd,List.drop_drop]
   have f4:(zs.set i (us1.getD j undef)).length=us1.length:=by simp [hzl]
   refine ⟨m - 1,by omega,j+1,i+1,zs.set i (us1.getD j undef),?_⟩
   (repeat' apply And.intro) <;> first | rfl | trivial | assumption | omega | (simp only [Value.int.injEq,true_and];omega) | (simp;done) | (simp;omega) | exact f1 | exact f2 | exact f3 | exact f4
 ·have hj:j=ls.length:=by omega
  subst hj
  have hs1:=sl_own (P:=Tryz.prog) (t:=32) (k:=0) (n:=ls.length) (c:=ls.length) Tryz.underlying32 cs27 hc' (lo:=some (.int .i64 ((i:Nat):Int))) (hi:=none) (bound_some (by omega) _) (hi_none _) (by omega) (Nat.le_refl _)
  simp only [Int.toNat_natCast,Nat.zero_add] at hs1
  obtain ⟨zs2,hz1,hz2,hz3⟩:=clear_vals (P:=Tryz.prog) (k:=i) (n:=ls.length - i) (c:=ls.length - i) Tryz.underlying32 cs27 ze27 hc' (by omega)
  rw [List.set_set] at hz1
  simp (disch:=omega) only [h0,h1,h5,h6,hs1,hz1,SS,eq_self,reduceIte,reduceCtorEq,Nat.reduceEqDiff,Nat.reduceAdd]
  have hc2:(H1.set o (.cells zs2 27 false))[o]?=some (.cells zs2 27 false):=at_set u3
  have hs2:=sl_own (P:=Tryz.prog) (t:=32) (k:=0) (n:=ls.length) (c:=ls.length) Tryz.underlying32 cs27 hc2 (lo:=none) (hi:=some (.int .i64 ((i:Nat):Int))) lo_none (bound_some (by omega) _) (by omega) (by simp;omega)
  simp only [Int.toNat_natCast,Nat.add_zero,Nat.sub_zero] at hs2
  simp (disch:=omega) only [h0,h1,h5,h6,hs2,SS,eq_self,reduceIte,reduceCtorEq,Nat.reduceEqDiff,Nat.reduceAdd]
  refine hQ _ _ _ ?_
  simp (disch:=omega) only [SS,eq_self,reduceIte,reduceCtorEq,Nat.reduceEqDiff,Nat.reduceAdd]
  have hfl:ls.filter (fun l=>!p l)=(kiB (ls.map p) ls.length).map (fun k=>ls.getD k []):=by
   rw [kiB_filter p ls ls.length (Nat.le_refl _),List.take_length]
  have hfn:(ls.filter fun l=>!p l).length=i:=by rw [hfl,List.length_map,hkl]
  have hget:∀ t,t<i->zs2.getD t undef=us1.getD ((kiB (ls.map p) ls.length).getD t 0) undef/\(ls.filter fun l=>!p l).getD t []=ls.getD ((kiB (ls.map p) ls.length).getD t 0) []/\(kiB (ls.map p) ls.length).getD t 0<ls.length:=by
   intro t ht
   have ht2:t<(kiB (ls.map p) ls.length).length:=by omega
   have hkm:(kiB (ls.map p) ls.length)[t] ∈ kiB (ls.map p) ls.length:=List.getElem_mem _
   have e0:(kiB (ls.map p) ls.length).getD t 0=(kiB (ls.map p) ls.length)[t]:=by simp [ht2]
   refine ⟨?_,?_,by rw [e0];exact kiB_lt _ _ _ hkm⟩
   ·have h:=congrArg (·[t]?) (hz2.trans hzt)
    simp only [List.getElem?_take,if_pos ht,List.getElem?_map] at h
    rw [List.getD_eq_getElem?_getD,h,e0,List.getElem?_eq_getElem ht2];rfl
   ·rw [hfl,List.getD_eq_getElem?_getD,List.getElem?_map,List.getElem?_eq_getElem ht2,e0];rfl
  have kset2:=kset (.cells zs2 27 false)
  refine ⟨.inr ⟨o,zs2,by rw [hfn],u1,u2,hc2,by omega,fun t ht=>?_,fun a b hab ha hb=>?_⟩,fun q y hq hy=>kset2 q y hq (pre_at hp1 hy),by simpa using hp1.length_le⟩
  ·rw [hfn] at ht
   obtain ⟨g1,g2,g3⟩:=hget t ht
   rw [g1,g2]
   obtain ⟨w1,w2⟩:=u5 _ g3
   refine ⟨w1.move fun y hn hy=>?_,w2⟩
   rcases w2 with q | q
   ·exact absurd q hn
   ·rw [List.getElem?_set_ne (fun e=>q e.symm)];exact hy
  ·rw [hfn] at ha hb
   obtain ⟨g1,_,g3⟩:=hget a ha
   obtain ⟨k1,_,k3⟩:=hget b hb
   rw [g1,k1]
   refine u6 _ _ ?_ g3 k3
   have hs:=kiB_srt (ls.map p) ls.length
   rw [List.pairwise_iff_getElem] at hs
   have ea:(kiB (ls.map p) ls.length).getD a 0=(kiB (ls.map p) ls.length)[a]'(by omega):=by simp [show a<(kiB (ls.map p) ls.length).length by omega]
   have eb:(kiB (ls.map p) ls.length).getD b 0=(kiB (ls.map p) ls.length)[b]'(by omega):=by simp [show b<(kiB (ls.map p) ls.length).length by omega]
   rw [ea,eb]
   rcases Nat.lt_trichotomy a b with h | h | h
   ·have:=hs a b (by omega) (by omega) h;omega
   ·exact absurd h hab
   ·have:=hs b a (by omega) (by omega) h;omega
def cd10:Cd:=(.seq (.reg [⟨⟨some 2,.box 26 (.tmp 0),none⟩,[]⟩,⟨⟨some 3,.box 27 (.tmp 1),none⟩,[]⟩,⟨⟨some 4,.alloc 34,none⟩,[]⟩,⟨⟨some 5,.assign (.const (.bool false)),none⟩,[]⟩]) (.seq (.seq (.reg [⟨⟨some 10,.load 26 (.tmp 2),none⟩,[]⟩,⟨⟨some 11,.load 27 (.tmp 3),none⟩,[]⟩,⟨⟨some 12,.call ⟨(.value (.func 48)),#[.tmp 10,.tmp 11],#[26,27]⟩,none⟩,[]⟩,⟨⟨some 13,.unOp .not 4 (.tmp 12),none⟩,[]⟩]) (.cond (.tmp 13) (.seq (.reg [⟨⟨some 14,.build 34 #[],none⟩,[]⟩,⟨⟨none,.store 34 (.tmp 4) (.tmp 14),none⟩,[]⟩,⟨⟨some 5,.assign (.const (.bool false)),none⟩,[]⟩]) .ret) .skip)) (.seq (.reg [⟨⟨some 16,.load 26 (.tmp 2),none⟩,[]⟩,⟨⟨some 17,.call ⟨(.value (.func 54)),#[.tmp 16],#[26]⟩,none⟩,[]⟩,⟨⟨some 15,.move (.tmp 17),none⟩,[]⟩,⟨⟨some 18,.extract (.tmp 15) 0,none⟩,[]⟩,
 ⟨⟨some 19,.extract (.tmp 15) 1,none⟩,[]⟩,⟨⟨some 6,.assign (.tmp 18),none⟩,[]⟩,⟨⟨some 7,.assign (.tmp 19),none⟩,[]⟩]) (.seq (.seq (.reg [⟨⟨some 20,.move (.tmp 7),none⟩,[]⟩,⟨⟨some 21,.unOp .not 4 (.tmp 20),none⟩,[]⟩]) (.cond (.tmp 21) (.seq (.reg [⟨⟨some 22,.build 34 #[],none⟩,[]⟩,⟨⟨none,.store 34 (.tmp 4) (.tmp 22),none⟩,[]⟩,⟨⟨some 5,.assign (.const (.bool false)),none⟩,[]⟩]) .ret) .skip)) (.seq (.reg [⟨⟨some 24,.load 26 (.tmp 2),none⟩,[]⟩,⟨⟨some 25,.load 27 (.tmp 3),none⟩,[]⟩,⟨⟨some 26,.call ⟨(.value (.func 49)),#[.tmp 24,.tmp 25,(.const (.slice none 0 0))],#[26,27,27]⟩,none⟩,[]⟩,⟨⟨some 23,.move (.tmp 26),none⟩,[]⟩,⟨⟨some 27,.extract (.tmp 23) 0,none⟩,[]⟩,⟨⟨some 28,.extract (.tmp 23) 1,none⟩,[]⟩,⟨⟨some 8,.alloc 3,none⟩,[]⟩,
 ⟨⟨none,.store 3 (.tmp 8) (.tmp 27),none⟩,[]⟩,
  ⟨⟨some 9,.assign (.tmp 28),none⟩,[]⟩]) (.seq (.reg [⟨⟨some 29,.move (.tmp 6),none⟩,[]⟩,
  ⟨⟨some 30,.makeFunc (Fn.func 58) #[] #[.tmp 3,.tmp 8],none⟩,[]⟩,
  ⟨⟨some 31,.call ⟨(.value (.func 57)),#[.tmp 29,.tmp 30],#[32,78]⟩,none⟩,[]⟩,
  ⟨⟨some 32,.call ⟨(.value (.func 56)),#[.tmp 31,(.func 59)],#[32,37]⟩,none⟩,[]⟩,
  ⟨⟨some 33,.call ⟨(.value (.func 55)),#[.tmp 32],#[34]⟩,none⟩,[]⟩,
  ⟨⟨some 34,.extract (.tmp 33) 0,none⟩,[]⟩,
  ⟨⟨some 35,.extract (.tmp 33) 1,none⟩,[]⟩,
  ⟨⟨none,.store 34 (.tmp 4) (.tmp 34),none⟩,[]⟩,
  ⟨⟨some 5,.assign (.tmp 35),none⟩,[]⟩]) .ret))))))
theorem in10:InT Tryz.prog 10 2 [.cell 4 34,.tmp 5] cd10:=InT.mk (by kernel_rfl) [] Tryz.func10 rfl (by kernel_rfl) (by kernel_rfl) (of_decide_eq_true (by kernel_rfl)) (by kernel_rfl)
end Go.Proofs.YtlcipphiflcaiaaGreat.Ai
namespace Go.Proofs.YtlcipphiflcaiaaGreat.Ai
open Go Go.RowKit
theorem Row.boxI9 {e:TypeId}{G:AH}{v:Value}{xs:List Int}(h:Row e G v xs)(H:AH):boxA Tryz.prog 27 v H=some (.pointer (some ⟨H.length,0,none⟩),H ++ [.cells [v] 27 false]):=by
 obtain ⟨q,rfl⟩:=h.shape
 kernel_rfl
theorem alloc_int9 (H:AH):allocA Tryz.prog 3 H=some (.pointer (some ⟨H.length,0,none⟩),H ++ [.cells [.int .i64 0] 3 false]):=by kernel_rfl
theorem store_int9 (H:AH)(x y:Int):storeA Tryz.prog 3 (.pointer (some ⟨H.length,0,none⟩)) (.int .i64 y) (H ++ [.cells [.int .i64 x] 3 false])=some (H ++ [.cells [.int .i64 y] 3 false]):=by
 rw [st_at (P:=Tryz.prog) (t:=3) (i:=0) (y:=.int .i64 y) cs3 (at_new ..) (by show 0<1;decide) (by kernel_rfl) rfl]
 simp
theorem LigI_c (n:Int)(v w:Value)(es:List (Int × Int))(ws:List Int)(H:AH)(hr:RowP 115 H v es)(hlen:es.length<=1099511627776)(hes:∀ y ∈ es,I64 y.1/\I64 y.2)(hw:Row 3 H w ws)(hlw:ws.length<=1099511627776)(hwi:∀ y ∈ ws,I64 y)(hn:I64 n) :
  ACalls Tryz.prog 10 [.agg (List.toArray [.int .i64 n,v]),w] H fun r H'=>∃ a b,r=.tuple (List.toArray [.agg (List.toArray [a,b]),.bool (lgB n es ws)])/\SpIn H.length H'.length H' a b (lgL n es ws) (lgS n es ws)/\H<+:H':=by
 refine in10 rfl ?_
 intro Q hQ
 simp (disch:=omega) only [cd10,hr.boxG,SS,eq_self,reduceIte,reduceCtorEq,Nat.reduceEqDiff,Nat.reduceAdd]
 generalize hA0:H ++ [AObj.cells [.int .i64 n,v] 26 false]=A0
 have pA0:H<+:A0:=by rw [<- hA0];exact List.prefix_append _ _
 have cA0:A0[H.length]?=some (.cells [.int .i64 n,v] 26 false):=by rw [<- hA0];exact at_new ..
 have rA0:=hr.pre pA0
 simp (disch:=omega) only [hw.boxI9,SS,eq_self,reduceIte,reduceCtorEq,Nat.reduceEqDiff,Nat.reduceAdd]
 generalize hA1:A0 ++ [AObj.cells [w] 27 false]=A1
 have pA1:A0<+:A1:=by rw [<- hA1];exact List.prefix_append _ _
 have cW:A1[A0.length]?=some (.cells [w] 27 false):=by rw [<- hA1];exact at_new ..
 have lA1:A1.length=A0.length+1:=by rw [<- hA1];simp
 simp (disch:=omega) only [alloc_sp,SS,eq_self,reduceIte,reduceCtorEq,Nat.reduceEqDiff,Nat.reduceAdd]
 generalize hA:A1 ++ [AObj.cells [.slice none 0 0,.slice none 0 0] 34 false]=A
 have pA2:A1<+:A:=by rw [<- hA];exact List.prefix_append _ _
 have lA0:A0.length=H.length+1:=by rw [<- hA0];simp
 have cS:A[A1.length]?=some (.cells [.slice none 0 0,.slice none 0 0] 34 false):=by rw [<- hA];exact at_new ..
 have lA:A.length=A1.length+1:=by rw [<- hA];simp
 have pA:=pA0.trans (pA1.trans pA2)
 have cA:=pre_at (pA1.trans pA2) cA0
 have rA:=rA0.pre (pA1.trans pA2)
 have wA:=hw.pre pA
 have cWA:=pre_at pA2 cW
 simp (disch:=omega) only [ld_agg ag26 cs26 cA,cell_of cWA,SS,eq_self,reduceIte,reduceCtorEq,Nat.reduceEqDiff,Nat.reduceAdd]
 refine CallH.by (isWeighted_c n v w es ws A rA hlen wA hlw) ?_
 rintro _ B ⟨rfl,pB⟩
 have cB:=pre_at pB cA
 have cWB:=pre_at pB cWA
 have lB:=pB.length_le
 have no:∀ {G:AH},A<+:G->lgL n es ws=[]->lgB n es ws=false->∀ sl:Sl,sl 4=.pointer (some ⟨A1.length,0,none⟩)->sl 5=.bool false->endA Tryz.prog [.cell 4 34,.tmp 5] (fun r H'=>∃ a b,r=.tuple (List.toArray [.agg (List.toArray [a,b]),.bool (lgB n es ws)])/\SpIn H.length H'.length H' a b (lgL n es ws) (lgS n es ws)/\H<+:H') .ret sl (G.set A1.length (.cells [.slice none 0 0,.slice none 0 0] 34 false)):=by
  intro G pG h hb sl s2 s3
  have cSG:=pre_at pG cS
  have lG:=pG.length_le
  have d4:=at_set (d:=.cells [.slice none 0 0,.slice none 0 0] 34 false) cSG
  have hS:lgS n es ws=[]:=by unfold lgS;rw [h];rfl
  refine end_cell2 _ _ _ _ _ _ _ (.agg (List.toArray [.slice none 0 0,.slice none 0 0])) (.bool false) ?_ rfl s3 rfl ⟨_,_,by rw [hb],⟨H.length,Nat.le_refl _,by simp;omega,?_,?_⟩,?_⟩
  ·simp (disch:=omega) only [s2,ld_agg ag34 cs34 d4,SS,eq_self,reduceIte,reduceCtorEq,Nat.reduceEqDiff,Nat.reduceAdd]
  ·rw [h];exact .inl ⟨rfl,rfl⟩
  ·rw [hS];exact .inl ⟨rfl,rfl⟩
  ·exact pre_set (pA.trans pG) (by omega) _
 by_cases e:WtOk n es ws
 rotate_left
 ·have hstore0:=st_ss (pre_at pB cS) rfl none none 0 0 0 0
  simp (disch:=omega) only [decide_eq_false e,bld_sp0,hstore0,SS,eq_self,reduceIte,reduceCtorEq,Nat.reduceEqDiff,Nat.reduceAdd]
  refine hQ _ _ _ (no pB (by unfold lgL;rw [if_neg e]) (by unfold lgB;rw [decide_eq_false e];rfl) _ ?_ ?_) <;> simp (disch:=omega) only [SS,eq_self,reduceIte,reduceCtorEq,Nat.reduceEqDiff,Nat.reduceAdd]
 have hg:=e.2.1.1
 have h8:=hg.1
 obtain ⟨N,rfl⟩:∃ N:Nat,n=N:=⟨n.toNat,by omega⟩
 have hN:1<=N:=by have:=e.2.1.2;omega
 simp (disch:=omega) only [decide_eq_true e,ld_agg ag26 cs26 cB,SS,eq_self,reduceIte,reduceCtorEq,Nat.reduceEqDiff,Nat.reduceAdd]
 refine CallH.by (trees_c N hN v es B (rA.pre pB) hg) ?_
 rintro _ C ⟨a,rfl,hL,pC⟩
 have hiff:(decide ((treA N es).length<=300) && decide (0<(treA N es).length))=decide (TsOk (N:Int) es):=by
  rw [Bool.eq_iff_iff,Bool.and_eq_true,decide_eq_true_eq,decide_eq_true_eq,decide_eq_true_eq]
  unfold TsOk
  rw [Int.toNat_natCast]
  exact ⟨fun h=>⟨e.2.1,h.2,h.1⟩,fun h=>⟨h.2.2,h.2.1⟩⟩
 rw [hiff]
 have htp:=hL.tup9
 have pBC:=pB.trans pC
 have cSC:=pre_at pBC cS
 have cC:=pre_at pBC cA
 have cWC:=pre_at pBC cWA
 have lC:=pC.length_le
 by_cases ok:TsOk (N:Int) es
 rotate_left
 ·have hstore0:=st_ss cSC rfl none none 0 0 0 0
  simp (disch:=omega) only [htp,decide_eq_false ok,bld_sp0,hstore0,SS,eq_self,reduceIte,reduceCtorEq,Nat.reduceEqDiff,Nat.reduceAdd]
  have z:tsL (N:Int) es=[]:=if_neg ok
  refine hQ _ _ _ (no pBC (by unfold lgL;rw [z];split <;> rfl) (by unfold lgB;rw [decide_eq_false ok,Bool.and_false]) _ ?_ ?_) <;> simp (disch:=omega) only [htp,SS,eq_self,reduceIte,reduceCtorEq,Nat.reduceEqDiff,Nat.reduceAdd]
 clear no
 have hl:=ok.2.2
 rw [Int.toNat_natCast] at hl
 have e301:(treA N es).take 301=treA N es:=List.take_of_length_le (by omega)
 have hts:treA N es=tsL (N:Int) es:=by unfold tsL;rw [if_pos ok,Int.toNat_natCast]
 rw [e301,hts] at hL
 simp (disch:=omega) only [htp,decide_eq_true ok,ld_agg ag26 cs26 cC,cell_of cWC,SS,eq_self,reduceIte,reduceCtorEq,Nat.reduceEqDiff,Nat.reduceAdd]
 refine CallH.by (lightest_c N hN v w es ws C (rA.pre pBC) hg (wA.pre pBC) e.2.2 e.1) ?_
 rintro _ D ⟨bb,rfl,pD⟩
 simp (disch:=omega) only [alloc_int9,store_int9,SS,eq_self,reduceIte,reduceCtorEq,Nat.reduceEqDiff,Nat.reduceAdd]
 generalize hE:D ++ [AObj.cells [.int .i64 (swL ws (krW N es ws 100))] 3 false]=E
 have pE:D<+:E:=by rw [<- hE];exact List.prefix_append _ _
 have cL:E[D.length]?=some (.cells [.int .i64 (swL ws (krW N es ws 100))] 3 false):=by rw [<- hE];exact at_new ..
 have pCE:=pD.trans pE
 have lD:=pD.length_le
 have lE:=pE.length_le
 have hLE:=hL.pre pCE
 have hra:a=.slice none 0 0∨(B.length<=rowO a/\rowO a<C.length):=by
  rcases hL with ⟨q,_⟩ | ⟨o,us,q1,q2⟩
  ·exact .inl q
  ·right;rw [q1];exact ⟨q2.1,q2.2.1⟩
 simp (disch:=omega) only [mkf_2T,htp,SS,eq_self,reduceIte,reduceCtorEq,Nat.reduceEqDiff,Nat.reduceAdd]
 refine CallH.by (DelL_c a (tsL (N:Int) es) (fun T=>decide (swL ws (krW N es ws 100)<swL ws T)) 58 [.pointer (some ⟨A0.length,0,none⟩),.pointer (some ⟨D.length,0,none⟩)] E hLE (by have:=tsL_len (N:Int) es;omega) (fun w' l H1 hrow hl hk=>?_)) ?_
 ·have hin:=tsL_in l hl
  have h28:=grd_len hg
  have hrng:∀ x ∈ l,0<=x/\x<ws.length:=by
   intro x hx
   rw [<- hts] at hl
   have:=((treA_iff hN hg l).1 hl).2.2.1 x hx
   have:=e.2.2
   omega
  have hap:Apart w a:=by
   rcases hra with q | ⟨q,_⟩
   ·exact .inl q
   ·exact Apart.new hw (by omega)
  exact heavy_c w w' A0.length D.length ws l _ H1 ((wA.pre (pBC.trans pCE)).kept hap hk) hrow (hk _ _ (hra.imp id fun q=>by omega) (pre_at pCE cWC)) (hk _ _ (hra.imp id fun q=>by omega) cL) e.1 hrng (by omega) (by have:=e.2.2;omega)
 rintro r Z ⟨hL2,hkZ,lZ⟩
 have hfil:(tsL (N:Int) es).filter (fun l=>!(fun T:List Int=>decide (swL ws (krW N es ws 100)<swL ws T)) l)=lgL (N:Int) es ws:=by
  unfold lgL
  rw [if_pos e]
  exact List.filter_congr fun T hT=>lg_light e hT
 rw [hfil] at hL2
 have pAZ:A<+:Z:=prefix_of fun j y hy=>hkZ j y (hra.imp id fun q=>by have:=at_lt hy;omega) (pre_at (pBC.trans pCE) hy)
 have hB:lgB (N:Int) es ws=true:=by unfold lgB;rw [decide_eq_true e,decide_eq_true ok];rfl
 have hS:lgS (N:Int) es ws=steps jmpB (lgL (N:Int) es ws):=rfl
 have hin:∀ x ∈ lgL (N:Int) es ws,x.length<=28/\(∀ y ∈ x,0<=y/\y<28)/\x.Pairwise (· < ·):=fun x hx=>tsL_in x (lgL_sub x hx)
 have hsrt:=lgL_srt (N:Int) es ws
 have h300:=lgL_len (N:Int) es ws
 have hjmp:=lgS_len (N:Int) es ws
 rw [hB,hS] at hQ
 rw [hS] at hjmp
 have cSZ:=pre_at pAZ cS
 have lAZ:=pAZ.length_le
 have lA9:=pA.length_le
 generalize lgL (N:Int) es ws=ls at *
 obtain ⟨us,r1,r2,r3⟩:=hL2.parts
 have htp2:=hL2.tup9
 have hsts:Sts Z r us ls:=⟨r1,r2,fun i hi=>(r3 i hi).row.1,fun i hi=>by
  have:ls.getD i [] ∈ ls:=by simp [hi]
  have:=(hin _ this).1;omega,by omega,hsrt⟩
 have hSt:StepFn Z 59 [] ls jmpB:=fun va vb x y H2 hp2 hv hw hx hy=>(isJumpG_c va vb x y H2 hv hw (hin x hx).1 (hin y hy).1 (hin x hx).2.1 (hin y hy).2.1 (hin x hx).2.2 (hin y hy).2.2).mono fun r H' hh=>⟨hh.1,hh.2 ▸ List.prefix_refl _⟩
 simp (disch:=omega) only [htp2,SS,eq_self,reduceIte,reduceCtorEq,Nat.reduceEqDiff,Nat.reduceAdd]
 refine CallH.by (spaceOf_c hsts (by omega) 59 [] jmpB hSt (List.prefix_refl _)) ?_
 rintro _ D2 ⟨st,rfl,hst,pD2⟩
 have hrowD:SpRow D2 r st ls (steps jmpB ls):=⟨⟨_,(hL2.row).pre pD2⟩,hst.row⟩
 simp (disch:=omega) only [SS,eq_self,reduceIte,reduceCtorEq,Nat.reduceEqDiff,Nat.reduceAdd]
 refine CallH.by (orNone_c r st _ _ D2 hrowD (by omega) hjmp) ?_
 rintro _ E2 ⟨rfl,pE2⟩
 have hrowE:=hrowD.pre pE2
 have cSE:=pre_at (pD2.trans pE2) cSZ
 have hstore:=hrowE.store cSE rfl
 simp (disch:=omega) only [hstore,SS,eq_self,reduceIte,reduceCtorEq,Nat.reduceEqDiff,Nat.reduceAdd]
 have d4:=at_set (d:=.cells [r,st] 34 false) cSE
 have lD2:=pD2.length_le
 have lE2:=pE2.length_le
 refine hQ _ _ _ (end_cell2 _ _ _ _ _ _ _ (.agg (List.toArray [r,st])) (.bool true) ?_ rfl ?_ rfl ⟨r,st,rfl,⟨Z.length,by omega,by simp;omega,?_,?_⟩,?_⟩)
 ·simp (disch:=omega) only [ld_agg ag34 cs34 d4,SS,eq_self,reduceIte,reduceCtorEq,Nat.reduceEqDiff,Nat.reduceAdd]
 ·simp (disch:=omega) only [SS,eq_self,reduceIte,reduceCtorEq,Nat.reduceEqDiff,Nat.reduceAdd]
 ·rcases hL2.pre (pD2.trans pE2) with q | ⟨o,us',q1,q2⟩
  ·exact .inl q
  ·refine .inr ⟨o,us',q1,(q2.move fun j y hj1 hj2 hy=>?_).wide (by omega) (by omega)⟩
   rw [List.getElem?_set_ne (by omega)];exact hy
 ·have hI:=InP.of (hst.pre pE2)
  rcases hI with q | ⟨o,zs,q1,q2,q3,q4,q5⟩
  ·exact .inl q
  ·exact .inr ⟨o,zs,q1,q2,by simpa using q3,by rw [List.getElem?_set_ne (by omega)];exact q4,q5⟩
 ·exact pre_set (pA.trans (pAZ.trans (pD2.trans pE2))) (by omega) _
theorem bsRowS {H0:AH}{v:Value}{xs:List Int}(h:Row 3 H0 v xs)(K:AH):buildSliceA Tryz.prog 32 1 [(0,v)] K=some (.slice (some ⟨K.length,0,none⟩) 1 1,K ++ [.cells [v] 27 false]):=by
 obtain ⟨q,eq⟩:=h.shape
 rw [eq]
 exact bs1 Tryz.underlying32 cs27 ze27 ⟨by kernel_rfl,by kernel_rfl⟩ K rfl
theorem InU.app1w {P:Program}{t2 e2 e:TypeId}(hu:P.underlying t2=some (.slice e2))(hc:P.cellsOf e2=1)(hby:P.bytesOf e2<=64)(hz:zeroOk P e2=true){lo hi hi2:Nat}{H:AH}{o:Nat}{us:List Value}{w:Value}{ls:List (List Int)}{l:List Int}
  (h:InU lo hi e2 e H o us ls)(hw:InI lo hi2 e H w l)(hwo:w=.slice none 0 0∨rowO w ≠ o)(aw:∀ i,i<ls.length->Apart (us.getD i undef) w)(hl2:hi<=H.length)(hl3:hi2<=H.length)(hb:ls.length<=1099511627775) :
  ∃ H',appendA P t2 t2 (.slice (some ⟨o,0,none⟩) ls.length ls.length) (.slice (some ⟨H.length,0,none⟩) 1 1) (H ++ [.cells [w] e2 false])=some (.slice (some ⟨H.length+1,0,none⟩) (ls.length+1) (ls.length+1),H') /\
   InU lo (H.length+2) e2 e H' (H.length+1) (us.take ls.length ++ [w]) (ls ++ [l])/\H'.length=H.length+2/\(∀ (j:Nat) (y:AObj),j ≠ o->H[j]?=some y->H'[j]?=some y):=by
 have bb:∀ n:Nat,n<=1099511627776->n * P.bytesOf e2<=140737488355328:=fun n hn=>by
  refine Nat.le_trans (Nat.mul_le_mul_left _ hby) ?_
  omega
 have hsc:sliceCells P e2 (.slice (some ⟨H.length,0,none⟩) 1 1) (H ++ [.cells [w] e2 false])=some (1,[w]):=by
  simp only [sliceCells,at_new,hc];simp
 obtain ⟨h2,h3,h4,h5,h6,h7⟩:=h
 have ho:=at_lt h4
 have hlt:o<(H ++ [AObj.cells [w] e2 false]).length:=by simp;omega
 have keep:∀ (j:Nat) (y:AObj),j ≠ o->H[j]?=some y->((H ++ [AObj.cells [w] e2 false]).set o AObj.dead ++ [AObj.cells (us.take ls.length ++ [w]) e2 false])[j]?=some y:=by
  intro j y hj hy
  exact at_old (at_app hy _) (fun e=>hj e.symm) _
 refine ⟨(H ++ [AObj.cells [w] e2 false]).set o AObj.dead ++ [AObj.cells (us.take ls.length ++ [w]) e2 false],?_,?_,by simp,keep⟩
 ·have ho2:(H ++ [AObj.cells [w] e2 false])[o]?=some (.cells us e2 false):=at_app h4 _
  simp only [appendA,hu,hc,hsc,hz,ho2]
  rw [if_pos (by simp),if_neg (by simp),if_pos ⟨trivial,by omega,bb _ (by omega),by omega,trivial⟩]
  simp
 ·have hul:(us.take ls.length).length=ls.length:=by simp;omega
  have uat:∀ i,i<ls.length->(us.take ls.length ++ [w]).getD i undef=us.getD i undef:=by
   intro i hi'
   rw [List.getD_eq_getElem?_getD,List.getD_eq_getElem?_getD,List.getElem?_append_left (by omega),List.getElem?_take,if_pos hi']
  have ulast:(us.take ls.length ++ [w]).getD ls.length undef=w:=by
   rw [List.getD_eq_getElem?_getD,List.getElem?_append_right (by omega),hul];simp
  have lat:∀ i,i<ls.length->(ls ++ [l]).getD i []=ls.getD i []:=by
   intro i hi'
   rw [List.getD_eq_getElem?_getD,List.getD_eq_getElem?_getD,List.getElem?_append_left hi']
  have llast:(ls ++ [l]).getD ls.length []=l:=by
   rw [List.getD_eq_getElem?_getD,List.getElem?_append_right (by omega)];simp
  refine ⟨by omega,by omega,?_,by simp;omega,?_,?_⟩
  ·rw [List.getElem?_append_right (by simp)];simp
  ·intro i hi'
   simp only [List.length_append,List.length_cons,List.length_nil] at hi'
   by_cases hc':i<ls.length
   ·rw [uat i hc',lat i hc']
    obtain ⟨k1,k2⟩:=h6 i hc'
    refine ⟨(k1.move fun y hn hy=>?_).wide (Nat.le_refl _) (by omega),?_⟩
    ·rcases k2 with g | g
     ·exact absurd g hn
     ·exact keep _ _ g hy
    ·rcases k1.at_ with g | g
     ·exact .inl g
     ·exact .inr (by omega)
   ·obtain rfl:i=ls.length:=by omega
    rw [ulast,llast]
    refine ⟨(hw.move fun y hn hy=>?_).wide (Nat.le_refl _) (by omega),?_⟩
    ·rcases hwo with g | g
     ·exact absurd g hn
     ·exact keep _ _ g hy
    ·rcases hw.at_ with g | g
     ·exact .inl g
     ·exact .inr (by omega)
  ·intro i j hij hi' hj'
   simp only [List.length_append,List.length_cons,List.length_nil] at hi' hj'
   by_cases ci:i<ls.length <;> by_cases cj:j<ls.length
   ·rw [uat i ci,uat j cj];exact h7 i j hij ci cj
   ·obtain rfl:j=ls.length:=by omega
    rw [uat i ci,ulast];exact aw i ci
   ·obtain rfl:i=ls.length:=by omega
    rw [uat j cj,ulast]
    rcases aw j cj with g | g | g
    ·exact .inr (.inl g)
    ·exact .inl g
    ·exact .inr (.inr fun e=>g e.symm)
   ·omega
def cd11:Cd:=(.seq (.reg [⟨⟨some 2,.box 26 (.tmp 0),none⟩,[]⟩,⟨⟨some 4,.alloc 34,none⟩,[]⟩,⟨⟨some 5,.assign (.const (.bool false)),none⟩,[]⟩]) (.seq (.seq (.reg [⟨⟨some 10,.load 26 (.tmp 2),none⟩,[]⟩,⟨⟨some 11,.move (.tmp 1),none⟩,[]⟩,⟨⟨some 12,.call ⟨(.value (.func 51)),#[.tmp 10,.tmp 11],#[26,27]⟩,none⟩,[]⟩,⟨⟨some 13,.unOp .not 4 (.tmp 12),none⟩,[]⟩]) (.cond (.tmp 13) (.seq (.reg [⟨⟨some 14,.build 34 #[],none⟩,[]⟩,⟨⟨none,.store 34 (.tmp 4) (.tmp 14),none⟩,[]⟩,⟨⟨some 5,.assign (.const (.bool false)),none⟩,[]⟩]) .ret) .skip)) (.seq (.reg [⟨⟨some 15,.load 26 (.tmp 2),none⟩,[]⟩,⟨⟨some 16,.call ⟨(.value (.func 60)),#[.tmp 15],#[26]⟩,none⟩,[]⟩,⟨⟨some 6,.assign (.tmp 16),none⟩,[]⟩]) (.seq (.seq (.reg [⟨⟨some 17,.move (.tmp 6),none⟩,[]⟩,⟨⟨some 18,.call ⟨(.builtin .len),#[.tmp 17],#[32]⟩,none⟩,[]⟩,⟨⟨some 19,.binOp .eql 3 (.tmp 18) (.const (.int .i64 0)) 3,none⟩,[]⟩]) (.cond (.tmp 19) (.seq (.reg [⟨⟨some 20,.build 34 #[],none⟩,[]⟩,
 ⟨⟨none,.store 34 (.tmp 4) (.tmp 20),none⟩,[]⟩,⟨⟨some 5,.assign (.const (.bool false)),none⟩,[]⟩]) .ret) .skip)) (.seq (.reg [⟨⟨some 21,.move (.tmp 1),none⟩,[]⟩,⟨⟨some 22,.load 26 (.tmp 2),none⟩,[]⟩,⟨⟨some 23,.move (.tmp 1),none⟩,[]⟩,⟨⟨some 24,.call ⟨(.value (.func 52)),#[.tmp 22,.tmp 23],#[26,27]⟩,none⟩,[]⟩,⟨⟨some 25,.call ⟨(.value (.func 61)),#[.tmp 21,.tmp 24],#[27,27]⟩,none⟩,[]⟩,⟨⟨some 7,.assign (.tmp 25),none⟩,[]⟩]) (.seq (.reg [⟨⟨some 26,.buildSlice 32 0 #[],none⟩,[]⟩,⟨⟨some 8,.assign (.tmp 26),none⟩,[]⟩]) (.seq (.seq (.reg [⟨⟨some 9,.assign (.const (.int .i64 0)),none⟩,[]⟩]) (.block 0 (.loop (.seq (.seq (.reg [⟨⟨some 27,.move (.tmp 9),none⟩,[]⟩,⟨⟨some 28,.move (.tmp 6),none⟩,[]⟩,⟨⟨some 29,.call ⟨(.builtin .len),#[.tmp 28],#[32]⟩,none⟩,[]⟩,⟨⟨some 30,.binOp .lss 3 (.tmp 27) (.tmp 29) 3,none⟩,[]⟩]) (.cond (.tmp 30) .skip (.exit 0))) (.seq (.block 1 (.seq (.reg [⟨⟨some 33,.move (.tmp 1),none⟩,[]⟩,⟨⟨some 34,.move (.tmp 6),none⟩,[]⟩,
 ⟨⟨some 35,.move (.tmp 9),none⟩,[]⟩,⟨⟨some 36,.indexAddr 32 (.tmp 34) (.tmp 35),none⟩,[]⟩,⟨⟨some 37,.load 27 (.tmp 36),none⟩,[]⟩,⟨⟨some 38,.call ⟨(.value (.func 61)),#[.tmp 33,.tmp 37],#[27,27]⟩,none⟩,[]⟩,⟨⟨some 39,.move (.tmp 7),none⟩,[]⟩,⟨⟨some 40,.binOp .eql 3 (.tmp 38) (.tmp 39) 3,none⟩,[]⟩]) (.cond (.tmp 40) (.reg [⟨⟨some 41,.move (.tmp 8),none⟩,[]⟩,⟨⟨some 42,.move (.tmp 6),none⟩,[]⟩,⟨⟨some 43,.move (.tmp 9),none⟩,[]⟩,⟨⟨some 44,.indexAddr 32 (.tmp 42) (.tmp 43),none⟩,[]⟩,⟨⟨some 45,.load 27 (.tmp 44),none⟩,[]⟩,⟨⟨some 46,.buildSlice 32 1 #[(0,.tmp 45)],none⟩,[]⟩,⟨⟨some 47,.call ⟨(.builtin .append),#[.tmp 41,.tmp 46],#[32,32]⟩,none⟩,[]⟩,
 ⟨⟨some 8,.assign (.tmp 47),none⟩,[]⟩]) .skip))) (.reg [⟨⟨some 31,.move (.tmp 9),none⟩,[]⟩,
  ⟨⟨some 32,.binOp .add 3 (.tmp 31) (.const (.int .i64 1)) 3,none⟩,[]⟩,
  ⟨⟨some 9,.assign (.tmp 32),none⟩,[]⟩])))))) (.seq (.reg [⟨⟨some 48,.load 26 (.tmp 2),none⟩,[]⟩,
  ⟨⟨some 49,.move (.tmp 8),none⟩,[]⟩,
  ⟨⟨some 50,.call ⟨(.value (.func 62)),#[.tmp 48,.tmp 49],#[26,32]⟩,none⟩,[]⟩,
  ⟨⟨none,.store 34 (.tmp 4) (.tmp 50),none⟩,[]⟩,
  ⟨⟨some 5,.assign (.const (.bool true)),none⟩,[]⟩]) .ret))))))))
theorem in11:InT Tryz.prog 11 2 [.cell 4 34,.tmp 5] cd11:=InT.mk (by kernel_rfl) [] Tryz.func11 rfl (by kernel_rfl) (by kernel_rfl) (of_decide_eq_true (by kernel_rfl)) (by kernel_rfl)
end Go.Proofs.YtlcipphiflcaiaaGreat.Ai
namespace Go.Proofs.YtlcipphiflcaiaaGreat.Ai
open Go Go.RowKit
theorem swL_perm {ws l m:List Int}(h:l.Perm m):swL ws l=swL ws m:=by
 unfold swL
 induction h with
 | nil=>rfl
 | cons x _ ih=>simp only [List.map_cons,List.sum_cons,ih]
 | swap x y l=>simp only [List.map_cons,List.sum_cons];omega
 | trans _ _ i1 i2=>exact i1.trans i2
theorem LigS_c (n:Int)(v w:Value)(es:List (Int × Int))(ws:List Int)(H:AH)(hr:RowP 115 H v es)(hlen:es.length<=1099511627776)(hes:∀ y ∈ es,I64 y.1/\I64 y.2)(hw:Row 3 H w ws)(hlw:ws.length<=1099511627776)(hwi:∀ y ∈ ws,I64 y)(hn:I64 n) :
  ACalls Tryz.prog 11 [.agg (List.toArray [.int .i64 n,v]),w] H fun r H'=>∃ a b,r=.tuple (List.toArray [.agg (List.toArray [a,b]),.bool (lgB n es ws)])/\SpIn H.length H'.length H' a b (lgL n es ws) (lgS n es ws)/\H<+:H':=by
 refine in11 rfl ?_
 intro Q hQ
 simp (disch:=omega) only [cd11,hr.boxG,SS,eq_self,reduceIte,reduceCtorEq,Nat.reduceEqDiff,Nat.reduceAdd]
 generalize hA1:H ++ [AObj.cells [.int .i64 n,v] 26 false]=A1
 have pA1:H<+:A1:=by rw [<- hA1];exact List.prefix_append _ _
 have cA1:A1[H.length]?=some (.cells [.int .i64 n,v] 26 false):=by rw [<- hA1];exact at_new ..
 have rA1:=hr.pre pA1
 simp (disch:=omega) only [alloc_sp,SS,eq_self,reduceIte,reduceCtorEq,Nat.reduceEqDiff,Nat.reduceAdd]
 generalize hA:A1 ++ [AObj.cells [.slice none 0 0,.slice none 0 0] 34 false]=A
 have pA2:A1<+:A:=by rw [<- hA];exact List.prefix_append _ _
 have lA1:A1.length=H.length+1:=by rw [<- hA1];simp
 have cS:A[A1.length]?=some (.cells [.slice none 0 0,.slice none 0 0] 34 false):=by rw [<- hA];exact at_new ..
 have lA:A.length=A1.length+1:=by rw [<- hA];simp
 have pA:=pA1.trans pA2
 have cA:=pre_at pA2 cA1
 have rA:=rA1.pre pA2
 have wA:=hw.pre pA
 simp (disch:=omega) only [ld_agg ag26 cs26 cA,SS,eq_self,reduceIte,reduceCtorEq,Nat.reduceEqDiff,Nat.reduceAdd]
 refine CallH.by (l7Weights_c n v w es ws A rA hlen wA hlw) ?_
 rintro _ B ⟨rfl,pB⟩
 have cB:=pre_at pB cA
 have lB:=pB.length_le
 have no:∀ {G:AH},A<+:G->lgL n es ws=[]->lgB n es ws=false->∀ sl:Sl,sl 4=.pointer (some ⟨A1.length,0,none⟩)->sl 5=.bool false->endA Tryz.prog [.cell 4 34,.tmp 5] (fun r H'=>∃ a b,r=.tuple (List.toArray [.agg (List.toArray [a,b]),.bool (lgB n es ws)])/\SpIn H.length H'.length H' a b (lgL n es ws) (lgS n es ws)/\H<+:H') .ret sl (G.set A1.length (.cells [.slice none 0 0,.slice none 0 0] 34 false)):=by
  intro G pG h hb sl s2 s3
  have cSG:=pre_at pG cS
  have lG:=pG.length_le
  have d4:=at_set (d:=.cells [.slice none 0 0,.slice none 0 0] 34 false) cSG
  have hS:lgS n es ws=[]:=by unfold lgS;rw [h];rfl
  refine end_cell2 _ _ _ _ _ _ _ (.agg (List.toArray [.slice none 0 0,.slice none 0 0])) (.bool false) ?_ rfl s3 rfl ⟨_,_,by rw [hb],⟨H.length,Nat.le_refl _,by simp;omega,?_,?_⟩,?_⟩
  ·simp (disch:=omega) only [s2,ld_agg ag34 cs34 d4,SS,eq_self,reduceIte,reduceCtorEq,Nat.reduceEqDiff,Nat.reduceAdd]
  ·rw [h];exact .inl ⟨rfl,rfl⟩
  ·rw [hS];exact .inl ⟨rfl,rfl⟩
  ·exact pre_set (pA.trans pG) (by omega) _
 by_cases e:WtOk n es ws
 rotate_left
 ·have hstore0:=st_ss (pre_at pB cS) rfl none none 0 0 0 0
  simp (disch:=omega) only [decide_eq_false e,bld_sp0,hstore0,SS,eq_self,reduceIte,reduceCtorEq,Nat.reduceEqDiff,Nat.reduceAdd]
  refine hQ _ _ _ (no pB (by unfold lgL;rw [if_neg e]) (by unfold lgB;rw [decide_eq_false e];rfl) _ ?_ ?_) <;> simp (disch:=omega) only [SS,eq_self,reduceIte,reduceCtorEq,Nat.reduceEqDiff,Nat.reduceAdd]
 have hg:=e.2.1.1
 have h8:=hg.1
 obtain ⟨N,rfl⟩:∃ N:Nat,n=N:=⟨n.toNat,by omega⟩
 have hN:1<=N:=by have:=e.2.1.2;omega
 simp (disch:=omega) only [decide_eq_true e,ld_agg ag26 cs26 cB,SS,eq_self,reduceIte,reduceCtorEq,Nat.reduceEqDiff,Nat.reduceAdd]
 refine CallH.by (l7Trees_c N hN v es B (rA.pre pB) hg) ?_
 rintro _ C ⟨o,us,rfl,hU,pC⟩
 have pBC:=pB.trans pC
 have cSC:=pre_at pBC cS
 have cC:=pre_at pBC cA
 have lC:=pC.length_le
 by_cases e2:(trsR N es).length=0
 ·have hno:¬ TsOk (N:Int) es:=by
   intro h
   have h1:=h.2.1
   have h2:=h.2.2
   rw [Int.toNat_natCast] at h1 h2
   unfold trsR at e2
   rw [if_neg (by omega)] at e2
   omega
  have e3:(((trsR N es).length:Nat):Int)=0:=by omega
  have z:tsL (N:Int) es=[]:=if_neg hno
  have hstore0:=st_ss cSC rfl none none 0 0 0 0
  simp (disch:=omega) only [decide_eq_true e3,bld_sp0,hstore0,SS,eq_self,reduceIte,reduceCtorEq,Nat.reduceEqDiff,Nat.reduceAdd]
  refine hQ _ _ _ (no pBC (by unfold lgL;rw [z];split <;> rfl) (by unfold lgB;rw [decide_eq_false hno,Bool.and_false]) _ ?_ ?_) <;> simp (disch:=omega) only [SS,eq_self,reduceIte,reduceCtorEq,Nat.reduceEqDiff,Nat.reduceAdd]
 clear no
 have e3:¬ (((trsR N es).length:Nat):Int)=0:=by omega
 simp (disch:=omega) only [decide_eq_false e3,ld_agg ag26 cs26 cC,SS,eq_self,reduceIte,reduceCtorEq,Nat.reduceEqDiff,Nat.reduceAdd]
 refine CallH.by (l7Light_c N hN v w es ws C (rA.pre pBC) hg (wA.pre pBC) e.2.2 e.1) ?_
 rintro k D ⟨hk,pD⟩
 have hkr:=krW_ok hg (fun x hx=>(e.1 _ (show ws.getD x 0 ∈ ws by have:=e.2.2;simp [show x<ws.length by omega])).1) 100
 have hpp:=puts_perm _ (krW N es ws 100) rfl hkr.nd
 have hfew:=hkr.fst.few hN hg hkr.ed
 have hpl:=hpp.1.length_eq
 simp (disch:=omega) only [hk.row.tup,SS,eq_self,reduceIte,reduceCtorEq,Nat.reduceEqDiff,Nat.reduceAdd]
 refine CallH.by (l7Weight_c w k ws _ D (wA.pre (pBC.trans pD)) hk.row e.1 (fun x hx=>by
  have:=hkr.ed x (hpp.1.mem_iff.1 hx)
  have:=e.2.2
  omega) (by omega) (by have:=e.2.2;have:=grd_len hg;omega)) ?_
 rintro _ _ ⟨rfl,rfl⟩
 rw [swL_perm hpp.1]
 simp (disch:=omega) only [SS,eq_self,reduceIte,reduceCtorEq,Nat.reduceEqDiff,Nat.reduceAdd]
 have ok:TsOk (N:Int) es:=by
  refine ⟨e.2.1,?_⟩
  rw [Int.toNat_natCast]
  unfold trsR at e2
  split at e2
  ·exact absurd rfl e2
  ·omega
 have hR:trsR N es=tsL (N:Int) es:=by
  unfold trsR tsL
  have h2:=ok.2.2
  rw [if_pos ok,if_neg (by rw [Int.toNat_natCast] at h2;omega),Int.toNat_natCast]
 have hB:lgB (N:Int) es ws=true:=by unfold lgB;rw [decide_eq_true e,decide_eq_true ok];rfl
 have h300:=tsL_len (N:Int) es
 have hin:∀ x ∈ tsL (N:Int) es,x.length<=28/\(∀ y ∈ x,0<=y/\y<28)/\x.Pairwise (· < ·):=tsL_in
 have hrg:∀ x ∈ tsL (N:Int) es,∀ y ∈ x,0<=y/\y<ws.length:=by
  intro x hx y hy
  rw [<- hR] at hx
  have:=(trsR_tree hN hg x hx).2.2.1 y hy
  have:=e.2.2
  omega
 have hlg:lgL (N:Int) es ws=(tsL (N:Int) es).filter fun T=>decide (swL ws T=swL ws (krW N es ws 100)):=by unfold lgL;rw [if_pos e,Int.toNat_natCast]
 rw [hR] at hU ⊢
 generalize hE:D ++ [AObj.cells [] 27 false]=E
 have pE:D<+:E:=by rw [<- hE];exact List.prefix_append _ _
 have lE:E.length=D.length+1:=by rw [<- hE];simp
 have lD:=pD.length_le
 have u0:InU B.length E.length 27 3 E D.length [] []:=by
  have:=InU.new B.length 27 3 D (by omega)
  rw [hE] at this
  exact this.wide (Nat.le_refl _) (by omega)
 generalize hls:tsL (N:Int) es=ls at *
 generalize hle:swL ws (krW N es ws 100)=least at *
 have hL:InL B.length C.length 27 3 C (.slice (some ⟨o,0,none⟩) ls.length ls.length) ls:=.inr ⟨o,us,rfl,hU⟩
 obtain ⟨q2,q3,q4,q5,q6,q7⟩:=hU
 obtain ⟨us2,r1,r2,r3⟩:=hL.parts
 refine LoopH.by (fun m s H'=>∃ (i o':Nat) (us':List Value),m+i=ls.length/\s 1=w/\s 2=.pointer (some ⟨H.length,0,none⟩)/\s 4=.pointer (some ⟨A1.length,0,none⟩)/\s 6=.slice (some ⟨o,0,none⟩) ls.length ls.length/\s 7=.int .i64 least/\s 9=.int .i64 ((i:Nat):Int)/\s 8=.slice (some ⟨o',0,none⟩) ((ls.take i).filter fun T=>decide (swL ws T=least)).length ((ls.take i).filter fun T=>decide (swL ws T=least)).length/\InU B.length H'.length 27 3 H' o' us' ((ls.take i).filter fun T=>decide (swL ws T=least))/\(∀ k,k<((ls.take i).filter fun T=>decide (swL ws T=least)).length->∃ i',i'<i/\us'.getD k undef=us.getD i' undef)/\D.length<=o'/\D<+:H') ls.length ?_ ?_
 ·refine ⟨0,D.length,[],by omega,rfl,rfl,rfl,rfl,rfl,rfl,rfl,u0,fun k hk=>absurd hk (Nat.not_lt_zero k),Nat.le_refl _,pE⟩
 rintro m s H' ⟨i,o',us',hm,s1,s2,s4,s6,s7,s9,s8,hU',hsub,ho',pp⟩
 have pCH:=pD.trans pp
 have r1H:=r1.pre pCH
 have cH:=pre_at pCH cC
 have wH:=wA.pre (pBC.trans pCH)
 have lH:=pp.length_le
 simp (disch:=omega) only [s1,s2,s4,s6,s7,s8,s9,r1H.len Tryz.underlying32,SS,eq_self,reduceIte,reduceCtorEq,Nat.reduceEqDiff,Nat.reduceAdd]
 refine brD.intro (fun g=>?_) (fun g=>?_)
 ·have hi:i<ls.length:=by omega
  have hme:ls.getD i [] ∈ ls:=by simp [hi]
  obtain ⟨k1,k2⟩:=q6 i hi
  have k1H:InI B.length H'.length 3 H' (us.getD i undef) (ls.getD i []):=(k1.move fun y _ hy=>pre_at pCH hy).wide (Nat.le_refl _) (by omega)
  have hc4:=pre_at pCH q4
  have hld:cellA H' o (0+i)=some (us.getD i undef):=by
   rw [Nat.zero_add,cell_of hc4,List.getD_eq_getElem?_getD,List.getElem?_eq_getElem (by omega)];rfl
  have htk:ls.take (i+1)=ls.take i ++ [ls.getD i []]:=by
   rw [List.take_add_one,List.getElem?_eq_getElem hi]
   simp [hi]
  have hld0:cellA H' o i=some (us.getD i undef):=by rw [<- hld,Nat.zero_add]
  have ix:=ix_one (P:=Tryz.prog) (t:=32) Tryz.underlying32 cs27 ⟨o,0,none⟩ ls.length ls.length .i64 (i:=(i:Int)) (by omega) (by omega)
  have h28i:=hin _ hme
  simp (disch:=omega) only [s1,s2,s4,s6,s7,s8,s9,ix,Int.toNat_natCast,hld,hld0,SS,eq_self,reduceIte,reduceCtorEq,Nat.reduceEqDiff,Nat.reduceAdd]
  refine CallH.by (l7Weight_c w _ ws (ls.getD i []) H' wH k1H.row.1 e.1 (hrg _ hme) (by omega) (by have:=e.2.2;have:=grd_len hg;omega)) ?_
  rintro _ _ ⟨rfl,rfl⟩
  by_cases q:swL ws (ls.getD i [])=least
  ·have hfs:(ls.take (i+1)).filter (fun T=>decide (swL ws T=least))=(ls.take i).filter (fun T=>decide (swL ws T=least)) ++ [ls.getD i []]:=by
    rw [htk,List.filter_append,List.filter_cons_of_pos (by rw [decide_eq_true_eq];exact q)];rfl
   have hls':((ls.take i).filter fun T=>decide (swL ws T=least)).length<=300:=by
    have:=List.length_filter_le (fun T=>decide (swL ws T=least)) (ls.take i)
    rw [List.length_take] at this;omega
   have hoo:=hU'.2.1
   obtain ⟨H3,a1,a2,a3,a4⟩:=hU'.app1w (P:=Tryz.prog) (t2:=32) Tryz.underlying32 cs27 (by rw [by27];decide) zk27 k1H (by
    rcases k1.at_ with z | z
    ·exact .inl z
    ·exact .inr (by omega)) (fun k hk=>by
    obtain ⟨i',hi',hk2⟩:=hsub k hk
    rw [hk2];exact q7 i' i (by omega) (by omega) hi) (Nat.le_refl _) (Nat.le_refl _) (by omega)
   simp (disch:=omega) only [decide_eq_true q,s1,s2,s4,s6,s7,s8,s9,ix,Int.toNat_natCast,hld,hld0,bsRowS k1H.row.1 H',a1,wrap64,SS,eq_self,reduceIte,reduceCtorEq,Nat.reduceEqDiff,Nat.reduceAdd]
   have f1:∀ k,k<((ls.take i).filter (fun T=>decide (swL ws T=least)) ++ [ls.getD i []]).length->∃ i',i'<i+1/\(us'.take ((ls.take i).filter fun T=>decide (swL ws T=least)).length ++ [us.getD i undef]).getD k undef=us.getD i' undef:=fun k hk=>by
    rw [List.length_append] at hk
    have hul:(us'.take ((ls.take i).filter fun T=>decide (swL ws T=least)).length).length=((ls.take i).filter fun T=>decide (swL ws T=least)).length:=by
     have:=hU'.2.2.2.1
     rw [List.length_take];omega
    by_cases z:k<((ls.take i).filter fun T=>decide (swL ws T=least)).length
    ·obtain ⟨i',z1,z2⟩:=hsub k z
     refine ⟨i',by omega,?_⟩
     rw [<- z2,List.getD_eq_getElem?_getD,List.getD_eq_getElem?_getD,List.getElem?_append_left (by rw [hul];exact z),List.getElem?_take]
     simp [z]
    ·refine ⟨i,by omega,?_⟩
     have hk2:k=((ls.take i).filter fun T=>decide (swL ws T=least)).length:=by simp only [List.length_cons,List.length_nil] at hk;omega
     rw [List.getD_eq_getElem?_getD,List.getElem?_append_right (by omega),hul,hk2,Nat.sub_self];rfl
   have f2:D<+:H3:=prefix_of fun j y hy=>a4 j y (by have:=at_lt hy;omega) (pre_at pp hy)
   have f3:D.length<=H'.length+1:=by omega
   rw [<- a3] at a2
   refine ⟨m - 1,by omega,i+1,H'.length+1,us'.take ((ls.take i).filter fun T=>decide (swL ws T=least)).length ++ [us.getD i undef],?_⟩
   rw [hfs]
   refine ⟨by omega,by simp,by simp,a2,f1,f3,f2⟩
  ·have hfs:(ls.take (i+1)).filter (fun T=>decide (swL ws T=least))=(ls.take i).filter (fun T=>decide (swL ws T=least)):=by
    rw [htk,List.filter_append,List.filter_cons_of_neg (by rw [decide_eq_true_eq];exact q)];simp
   simp (disch:=omega) only [decide_eq_false q,s1,s2,s4,s6,s7,s8,s9,wrap64,SS,eq_self,reduceIte,reduceCtorEq,Nat.reduceEqDiff,Nat.reduceAdd]
   have f1:∀ k,k<((ls.take i).filter fun T=>decide (swL ws T=least)).length->∃ i',i'<i+1/\us'.getD k undef=us.getD i' undef:=fun k hk=>by
    obtain ⟨i',z1,z2⟩:=hsub k hk;exact ⟨i',by omega,z2⟩
   refine ⟨m - 1,by omega,i+1,o',us',?_⟩
   rw [hfs]
   (repeat' first | exact hU' | exact f1 | exact ho' | exact pp | apply And.intro) <;> first | (simp only [Value.int.injEq,true_and];omega) | omega | rfl | assumption | (simp;done) | (simp;omega)
 ·have hi:i=ls.length:=by omega
  subst hi
  rw [List.take_length,<- hlg] at s8 hU'
  have hin2:∀ x ∈ lgL (N:Int) es ws,x.length<=28:=fun x hx=>by
   rw [hlg] at hx;exact (hin x (List.mem_filter.1 hx).1).1
  have h300b:=lgL_len (N:Int) es ws
  have hS:lgS (N:Int) es ws=steps jmpB (lgL (N:Int) es ws):=rfl
  rw [hB,hS] at hQ
  generalize lgL (N:Int) es ws=ks at *
  have hLk:InL B.length H'.length 27 3 H' (.slice (some ⟨o',0,none⟩) ks.length ks.length) ks:=.inr ⟨o',us',rfl,hU'⟩
  generalize hav:Value.slice (some ⟨o',0,none⟩) ks.length ks.length=a at *
  have pAH:=pBC.trans pCH
  simp (disch:=omega) only [s2,s4,s8,ld_agg ag26 cs26 cH,SS,eq_self,reduceIte,reduceCtorEq,Nat.reduceEqDiff,Nat.reduceAdd]
  refine CallH.by (l7Exchanges_c (N:Int) v es (rA.pre pAH) hlen hLk (by omega) (fun l hl=>by have:=hin2 l hl;omega)) ?_
  rintro _ Z ⟨b,rfl,hp,pZ⟩
  have lZ:=pZ.length_le
  have cSZ:=pre_at (pAH.trans pZ) cS
  have lA9:=pA.length_le
  have lAH:=pAH.length_le
  have hrow:SpRow Z a b ks (steps jmpB ks):=⟨⟨_,(hLk.row).pre pZ⟩,by
   rcases hp with ⟨q1,q2⟩ | ⟨o,zs,q1,q2,q3,q4,q5⟩
   ·exact (show MineP 115 Z Z b (steps jmpB ks) from .inl ⟨q1,q2⟩).row
   ·exact (show MineP 115 H' Z b (steps jmpB ks) from .inr ⟨o,zs,q1,q2,q4,q5⟩).row⟩
  have hstore:=hrow.store cSZ rfl
  simp (disch:=omega) only [s4,hstore,SS,eq_self,reduceIte,reduceCtorEq,Nat.reduceEqDiff,Nat.reduceAdd]
  have d4:=at_set (d:=.cells [a,b] 34 false) cSZ
  refine hQ _ _ _ (end_cell2 _ _ _ _ _ _ _ (.agg (List.toArray [a,b])) (.bool true) ?_ rfl ?_ rfl ⟨a,b,rfl,⟨H'.length,by omega,by simp;omega,?_,?_⟩,?_⟩)
  ·simp (disch:=omega) only [s4,ld_agg ag34 cs34 d4,SS,eq_self,reduceIte,reduceCtorEq,Nat.reduceEqDiff,Nat.reduceAdd]
  ·simp (disch:=omega) only [SS,eq_self,reduceIte,reduceCtorEq,Nat.reduceEqDiff,Nat.reduceAdd]
  ·rcases hLk.pre pZ with q | ⟨o,us',q1,q2⟩
   ·exact .inl q
   ·refine .inr ⟨o,us',q1,(q2.move fun j y hj1 hj2 hy=>?_).wide (by omega) (Nat.le_refl _)⟩
    rw [List.getElem?_set_ne (by omega)];exact hy
  ·rcases hp with q | ⟨o,zs,q1,q2,q3,q4,q5⟩
   ·exact .inl q
   ·exact .inr ⟨o,zs,q1,q2,by simpa using q3,by rw [List.getElem?_set_ne (by omega)];exact q4,q5⟩
  ·exact pre_set (pA.trans (pAH.trans pZ)) (by omega) _
end Go.Proofs.YtlcipphiflcaiaaGreat.Ai
