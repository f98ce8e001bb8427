/- Texts of this claim, joined: Cross, Fan, TurnP, FdT, BfsX, Lst, Trg, CycP, SrtP, Swp, Fill, Common, Lone. -/
import Derived.Test.YtjnefjchconebaaGreatProg
import Derived.KernelRfl
import Derived.Test.YtjnefjchconebaaGreatMgLawFdw5
set_option linter.unusedVariables false
set_option linter.unusedSimpArgs false
set_option maxHeartbeats 8000000
set_option maxRecDepth 20000
namespace Go.Proofs.YtjnefjchconebaaGreat.Ai
open Go Go.RowKit
def cd32:Cd:=(.seq (.reg [⟨⟨some 6,.assign (.const (.int .i64 0)),none⟩,[]⟩,⟨⟨some 7,.assign (.const (.bool false)),none⟩,[]⟩]) (.seq (.seq (.reg [⟨⟨some 11,.move (.tmp 0),none⟩,[]⟩,⟨⟨some 12,.move (.tmp 1),none⟩,[]⟩,⟨⟨some 13,.call ⟨(.value (.func 100)),#[.tmp 11,.tmp 12],#[3,27]⟩,none⟩,[]⟩,⟨⟨some 14,.unOp .not 4 (.tmp 13),none⟩,[]⟩,⟨⟨some 15,.move (.tmp 14),none⟩,[]⟩,⟨⟨some 16,.move (.tmp 0),some (15,false)⟩,[]⟩,⟨⟨some 17,.move (.tmp 2),some (15,false)⟩,[]⟩,⟨⟨some 18,.call ⟨(.value (.func 100)),#[.tmp 16,.tmp 17],#[3,27]⟩,some (15,false)⟩,[]⟩,⟨⟨some 19,.unOp .not 4 (.tmp 18),some (15,false)⟩,[]⟩,⟨⟨some 20,.pick (.tmp 15) (.const (.bool true)) (.tmp 19),none⟩,[]⟩]) (.cond (.tmp 20) (.seq (.reg [⟨⟨some 6,.assign (.const (.int .i64 0)),none⟩,[]⟩,⟨⟨some 7,.assign (.const (.bool false)),none⟩,[]⟩]) .ret) .skip)) (.seq (.reg [⟨⟨some 8,.assign (.const (.int .i64 0)),none⟩,[]⟩]) (.seq (.seq (.reg [⟨⟨some 9,.assign (.const (.int .i64 0)),none⟩,[]⟩]) (.block 0 (.loop (.seq (.seq (.reg [⟨⟨some 21,.move (.tmp 9),none⟩,[]⟩,
 ⟨⟨some 22,.move (.tmp 1),none⟩,[]⟩,⟨⟨some 23,.call ⟨(.builtin .len),#[.tmp 22],#[27]⟩,none⟩,[]⟩,⟨⟨some 24,.binOp .lss 3 (.tmp 21) (.tmp 23) 3,none⟩,[]⟩]) (.cond (.tmp 24) .skip (.exit 0))) (.seq (.block 1 (.seq (.reg [⟨⟨some 10,.assign (.const (.int .i64 0)),none⟩,[]⟩]) (.block 2 (.loop (.seq (.seq (.reg [⟨⟨some 27,.move (.tmp 10),none⟩,[]⟩,⟨⟨some 28,.move (.tmp 2),none⟩,[]⟩,⟨⟨some 29,.call ⟨(.builtin .len),#[.tmp 28],#[27]⟩,none⟩,[]⟩,⟨⟨some 30,.binOp .lss 3 (.tmp 27) (.tmp 29) 3,none⟩,[]⟩]) (.cond (.tmp 30) .skip (.exit 2))) (.seq (.block 3 (.seq (.reg [⟨⟨some 33,.move (.tmp 1),none⟩,[]⟩,⟨⟨some 34,.move (.tmp 9),none⟩,[]⟩,⟨⟨some 35,.indexAddr 27 (.tmp 33) (.tmp 34),none⟩,[]⟩,⟨⟨some 36,.load 3 (.tmp 35),none⟩,[]⟩,⟨⟨some 37,.move (.tmp 2),none⟩,[]⟩,⟨⟨some 38,.move (.tmp 10),none⟩,[]⟩,⟨⟨some 39,.indexAddr 27 (.tmp 37) (.tmp 38),none⟩,[]⟩,
 ⟨⟨some 40,.load 3 (.tmp 39),none⟩,[]⟩,
  ⟨⟨some 41,.call ⟨(.value (.func 108)),#[.tmp 36,.tmp 40],#[3,3]⟩,none⟩,[]⟩]) (.cond (.tmp 41) (.reg [⟨⟨some 42,.move (.tmp 8),none⟩,[]⟩,
  ⟨⟨some 43,.binOp .add 3 (.tmp 42) (.const (.int .i64 1)) 3,none⟩,[]⟩,
  ⟨⟨some 8,.assign (.tmp 43),none⟩,[]⟩]) .skip))) (.reg [⟨⟨some 31,.move (.tmp 10),none⟩,[]⟩,
  ⟨⟨some 32,.binOp .add 3 (.tmp 31) (.const (.int .i64 1)) 3,none⟩,[]⟩,
  ⟨⟨some 10,.assign (.tmp 32),none⟩,[]⟩]))))))) (.reg [⟨⟨some 25,.move (.tmp 9),none⟩,[]⟩,
  ⟨⟨some 26,.binOp .add 3 (.tmp 25) (.const (.int .i64 1)) 3,none⟩,[]⟩,
  ⟨⟨some 9,.assign (.tmp 26),none⟩,[]⟩])))))) (.seq (.reg [⟨⟨some 44,.move (.tmp 8),none⟩,[]⟩,
  ⟨⟨some 6,.assign (.tmp 44),none⟩,[]⟩,
  ⟨⟨some 7,.assign (.const (.bool true)),none⟩,[]⟩]) .ret)))))
theorem in32:InT Tryz.prog 32 3 [.tmp 6,.tmp 7] cd32:=InT.mk (by kernel_rfl) [(10,[(0,false),(1,false),(2,false),(3,false),(4,false),(5,false),(6,false),(7,false),(8,true)])] Tryz.func32 rfl (by kernel_rfl) (by kernel_rfl) (of_decide_eq_true (by kernel_rfl)) (by kernel_rfl)
def cd31:Cd:=(.seq (.reg [⟨⟨some 6,.assign (.const (.int .i64 0)),none⟩,[]⟩,⟨⟨some 7,.assign (.const (.bool false)),none⟩,[]⟩]) (.seq (.seq (.reg [⟨⟨some 13,.move (.tmp 0),none⟩,[]⟩,⟨⟨some 14,.move (.tmp 1),none⟩,[]⟩,⟨⟨some 15,.move (.tmp 2),none⟩,[]⟩,⟨⟨some 16,.buildSlice 36 2 #[(0,.tmp 14),(1,.tmp 15)],none⟩,[]⟩,⟨⟨some 17,.call ⟨(.value (.func 98)),#[.tmp 13,.tmp 16],#[3,36]⟩,none⟩,[]⟩,⟨⟨some 18,.unOp .not 4 (.tmp 17),none⟩,[]⟩]) (.cond (.tmp 18) (.seq (.reg [⟨⟨some 6,.assign (.const (.int .i64 0)),none⟩,[]⟩,⟨⟨some 7,.assign (.const (.bool false)),none⟩,[]⟩]) .ret) .skip)) (.seq (.reg [⟨⟨some 8,.assign (.const (.int .i64 0)),none⟩,[]⟩]) (.seq (.seq (.reg [⟨⟨some 19,.move (.tmp 1),none⟩,[]⟩,⟨⟨some 20,.call ⟨(.builtin .len),#[.tmp 19],#[27]⟩,none⟩,[]⟩,⟨⟨some 21,.move (.const (.int .i64 0)),none⟩,[]⟩]) (.block 0 (.loop (.seq (.reg [⟨⟨some 22,.binOp .lss 3 (.tmp 21) (.tmp 20) 3,none⟩,[]⟩]) (.seq (.cond (.tmp 22) .skip (.exit 0)) (.seq (.block 1 (.seq (.reg [⟨⟨some 23,.indexAddr 27 (.tmp 19) (.tmp 21),none⟩,[]⟩,⟨⟨some 24,.load 3 (.tmp 23),none⟩,[]⟩,⟨⟨some 10,.assign (.tmp 24),none⟩,[]⟩]) (.seq (.reg [⟨⟨some 25,.move (.tmp 2),none⟩,[]⟩,
 ⟨⟨some 26,.call ⟨(.builtin .len),#[.tmp 25],#[27]⟩,none⟩,[]⟩,
  ⟨⟨some 27,.move (.const (.int .i64 0)),none⟩,[]⟩]) (.block 2 (.loop (.seq (.reg [⟨⟨some 28,.binOp .lss 3 (.tmp 27) (.tmp 26) 3,none⟩,[]⟩]) (.seq (.cond (.tmp 28) .skip (.exit 2)) (.seq (.block 3 (.seq (.reg [⟨⟨some 29,.indexAddr 27 (.tmp 25) (.tmp 27),none⟩,[]⟩,
  ⟨⟨some 30,.load 3 (.tmp 29),none⟩,[]⟩,
  ⟨⟨some 12,.assign (.tmp 30),none⟩,[]⟩]) (.seq (.reg [⟨⟨some 31,.move (.tmp 10),none⟩,[]⟩,
  ⟨⟨some 32,.move (.tmp 12),none⟩,[]⟩,
  ⟨⟨some 33,.call ⟨(.value (.func 107)),#[.tmp 31,.tmp 32],#[3,3]⟩,none⟩,[]⟩]) (.cond (.tmp 33) (.reg [⟨⟨some 34,.move (.tmp 8),none⟩,[]⟩,
  ⟨⟨some 35,.binOp .add 3 (.tmp 34) (.const (.int .i64 1)) 3,none⟩,[]⟩,
  ⟨⟨some 8,.assign (.tmp 35),none⟩,[]⟩]) .skip)))) (.reg [⟨⟨some 36,.binOp .add 3 (.tmp 27) (.const (.int .i64 1)) 3,none⟩,[]⟩,
  ⟨⟨some 27,.move (.tmp 36),none⟩,[]⟩]))))))))) (.reg [⟨⟨some 37,.binOp .add 3 (.tmp 21) (.const (.int .i64 1)) 3,none⟩,[]⟩,
  ⟨⟨some 21,.move (.tmp 37),none⟩,[]⟩]))))))) (.seq (.reg [⟨⟨some 38,.move (.tmp 8),none⟩,[]⟩,
  ⟨⟨some 6,.assign (.tmp 38),none⟩,[]⟩,
  ⟨⟨some 7,.assign (.const (.bool true)),none⟩,[]⟩]) .ret)))))
theorem in31:InT Tryz.prog 31 3 [.tmp 6,.tmp 7] cd31:=InT.mk (by kernel_rfl) [] Tryz.func31 rfl (by kernel_rfl) (by kernel_rfl) (of_decide_eq_true (by kernel_rfl)) (by kernel_rfl)
end Go.Proofs.YtjnefjchconebaaGreat.Ai
namespace Go.Proofs.YtjnefjchconebaaGreat.Ai
open Go Go.RowKit
def crsRow (x:Int)(ys:List Int):Nat:=(ys.filter fun y=>decide (Crs x y)).length
def crsAll:List Int->List Int->Nat
  | [],_=>0
  | x :: xs,ys=>crsRow x ys+crsAll xs ys
theorem crsRow_step (x:Int)(ys:List Int)(k:Nat)(hk:k<ys.length):crsRow x (ys.take (k+1))=crsRow x (ys.take k)+if Crs x (ys.getD k 0) then 1 else 0:=by
  unfold crsRow
  rw [List.take_add_one,List.getElem?_eq_getElem hk,List.filter_append,List.length_append]
  have:ys.getD k 0=ys[k]:=by simp [hk]
  rw [this]
  by_cases h:Crs x ys[k] <;> simp [h]
theorem crsRow_le (x:Int)(ys:List Int):crsRow x ys<=ys.length:=List.length_filter_le _ _
theorem crsAll_app (xs zs ys:List Int):crsAll (xs ++ zs) ys=crsAll xs ys+crsAll zs ys:=by
  induction xs with
  | nil=>simp [crsAll]
  | cons x xs ih=>simp [crsAll,ih];omega
theorem crsAll_step (xs ys:List Int)(i:Nat)(hi:i<xs.length):crsAll (xs.take (i+1)) ys=crsAll (xs.take i) ys+crsRow (xs.getD i 0) ys:=by
  rw [List.take_add_one,List.getElem?_eq_getElem hi,crsAll_app]
  have:xs.getD i 0=xs[i]:=by simp [hi]
  rw [this];simp [crsAll]
theorem crsAll_le (xs ys:List Int):crsAll xs ys<=xs.length * ys.length:=by
  induction xs with
  | nil=>simp [crsAll]
  | cons x xs ih =>
    have:=crsRow_le x ys
    simp only [crsAll,List.length_cons,Nat.succ_mul];omega
theorem triS_len {n:Int}{xs:List Int}(h:triS n xs=true):(xs.length:Int)=n - 3:=by
  unfold triS at h
  simp only [Bool.and_eq_true,decide_eq_true_eq] at h
  exact h.2
theorem crossS_c (n:Int)(v w:Value)(xs ys:List Int)(H:AH)(hr:Row 3 H v xs)(hlen:xs.length<=1099511627776)(hxs:∀ y ∈ xs,I64 y)(hr2:Row 3 H w ys)(hlen2:ys.length<=1099511627776)(hys:∀ y ∈ ys,I64 y) :
    ACalls Tryz.prog 32 [.int .i64 n,v,w] H fun r H'=>r=(if (3<=n/\n<=8)/\triS n xs=true/\triS n ys=true then .tuple (List.toArray [.int .i64 (crsAll xs ys:Int),.bool true]) else .tuple (List.toArray [.int .i64 0,.bool false]))/\H<+:H':=by
  refine in32 rfl ?_
  intro Q hQ
  simp (maxSteps:=1000000) (disch:=omega) only [cd32,SS,eq_self,reduceIte,reduceCtorEq,Nat.reduceEqDiff,Nat.reduceAdd]
  refine CallH.by (l8Valid_c n v xs H hr hlen hxs) ?_
  rintro _ H1 ⟨rfl,hp1⟩
  simp (maxSteps:=1000000) (disch:=omega) only [SS,eq_self,reduceIte,reduceCtorEq,Nat.reduceEqDiff,Nat.reduceAdd]
  by_cases hv:(decide (3<=n/\n<=8) && triS n xs)=true
  . simp (maxSteps:=1000000) (disch:=omega) only [hv,SS,eq_self,reduceIte,reduceCtorEq,Nat.reduceEqDiff,Nat.reduceAdd]
    refine CallH.by (l8Valid_c n w ys H1 (hr2.pre hp1) hlen2 hys) ?_
    rintro _ H2 ⟨rfl,hp2⟩
    simp (maxSteps:=1000000) (disch:=omega) only [hv,SS,eq_self,reduceIte,reduceCtorEq,Nat.reduceEqDiff,Nat.reduceAdd]
    by_cases hw:(decide (3<=n/\n<=8) && triS n ys)=true
    . simp (maxSteps:=1000000) (disch:=omega) only [hv,hw,SS,eq_self,reduceIte,reduceCtorEq,Nat.reduceEqDiff,Nat.reduceAdd]
      have hp:=hp1.trans hp2
      have hra:=hr.pre hp
      have hrb:=hr2.pre hp
      simp only [Bool.and_eq_true,decide_eq_true_eq] at hv hw
      have la:=triS_len hv.2
      have lb:=triS_len hw.2
      refine LoopH.by (fun m s H'=>∃ i,m+i=xs.length/\s 0=.int .i64 n/\s 1=v/\s 2=w/\s 9=.int .i64 ((i:Nat):Int)/\s 8=.int .i64 ((crsAll (xs.take i) ys:Nat):Int)/\H2=H') xs.length ?_ ?_
      . exact ⟨0,by simp,rfl,rfl,rfl,by simp [SS,eq_self,reduceIte,reduceCtorEq,Nat.reduceEqDiff,Nat.reduceAdd],by simp [SS,eq_self,reduceIte,reduceCtorEq,Nat.reduceEqDiff,Nat.reduceAdd,crsAll],rfl⟩
      . rintro m s H' ⟨i,hm,h0,h1,h2,h9,h8,rfl⟩
        simp (maxSteps:=1000000) (disch:=omega) only [h0,h1,h2,h9,h8,hra.len Tryz.underlying27,SS,eq_self,reduceIte,reduceCtorEq,Nat.reduceEqDiff,Nat.reduceAdd]
        refine brD.intro (fun g=>?_) (fun g=>?_) <;> simp (maxSteps:=1000000) (disch:=omega) only [h0,h1,h2,h9,h8,wrap64,SS,eq_self,reduceIte,reduceCtorEq,Nat.reduceEqDiff,Nat.reduceAdd]
        . have hi:i<xs.length:=by omega
          have hx:xs.getD i 0=xs[i]:=by simp [hi]
          have b0:=crsAll_le (xs.take i) ys
          have b1:(xs.take i).length * ys.length<=6 * 6:=Nat.mul_le_mul (by simp;omega) (by omega)
          refine LoopH.by (fun m' s' H''=>∃ k,m'+k=ys.length/\s' 0=.int .i64 n/\s' 1=v/\s' 2=w/\s' 9=.int .i64 ((i:Nat):Int)/\s' 10=.int .i64 ((k:Nat):Int)/\s' 8=.int .i64 (((crsAll (xs.take i) ys+crsRow (xs.getD i 0) (ys.take k):Nat)):Int)/\H2=H'') ys.length ?_ ?_
          . exact ⟨0,by simp,by simp [SS,eq_self,reduceIte,reduceCtorEq,Nat.reduceEqDiff,Nat.reduceAdd,h0],by simp [SS,eq_self,reduceIte,reduceCtorEq,Nat.reduceEqDiff,Nat.reduceAdd,h1],by simp [SS,eq_self,reduceIte,reduceCtorEq,Nat.reduceEqDiff,Nat.reduceAdd,h2],by simp [SS,eq_self,reduceIte,reduceCtorEq,Nat.reduceEqDiff,Nat.reduceAdd,h9],by simp [SS,eq_self,reduceIte,reduceCtorEq,Nat.reduceEqDiff,Nat.reduceAdd],by simp [SS,eq_self,reduceIte,reduceCtorEq,Nat.reduceEqDiff,Nat.reduceAdd,h8,crsRow],rfl⟩
          . rintro m' s' H'' ⟨k,hm',g0,g1,g2,g9,g10,g8,rfl⟩
            simp (maxSteps:=1000000) (disch:=omega) only [g0,g1,g2,g9,g10,g8,hrb.len Tryz.underlying27,SS,eq_self,reduceIte,reduceCtorEq,Nat.reduceEqDiff,Nat.reduceAdd]
            refine brD.intro (fun q=>?_) (fun q=>?_) <;> simp (maxSteps:=1000000) (disch:=omega) only [g0,g1,g2,g9,g10,g8,hra.ix Tryz.underlying27 cs3,hra.cell,hrb.ix Tryz.underlying27 cs3,hrb.cell,Int.toNat_natCast,wrap64,SS,eq_self,reduceIte,reduceCtorEq,Nat.reduceEqDiff,Nat.reduceAdd]
            . have hk:k<ys.length:=by omega
              have hy:ys.getD k 0=ys[k]:=by simp [hk]
              have b2:=crsRow_le (xs.getD i 0) (ys.take k)
              have b3:(ys.take k).length<=6:=by simp;omega
              have st:=crsRow_step (xs.getD i 0) ys k hk
              refine CallH.by (l8Cross_c _ _ _ (by rw [hx];exact hxs _ (List.getElem_mem hi)) (by rw [hy];exact hys _ (List.getElem_mem hk))) ?_
              rintro _ _ ⟨rfl,rfl⟩
              simp (maxSteps:=1000000) (disch:=omega) only [SS,eq_self,reduceIte,reduceCtorEq,Nat.reduceEqDiff,Nat.reduceAdd]
              refine brD.intro (fun e=>?_) (fun e=>?_) <;> simp (maxSteps:=1000000) (disch:=omega) only [g0,g1,g2,g9,g10,g8,wrap64,SS,eq_self,reduceIte,reduceCtorEq,Nat.reduceEqDiff,Nat.reduceAdd]
              . rw [if_pos e] at st
                refine ⟨m' - 1,by omega,k+1,by omega,?_⟩
                (repeat' apply And.intro) <;> first | rfl | trivial | assumption | omega | (simp only [Value.int.injEq,true_and];omega) | (simp;done) | (simp;omega)
              . rw [if_neg e] at st
                refine ⟨m' - 1,by omega,k+1,by omega,?_⟩
                (repeat' apply And.intro) <;> first | rfl | trivial | assumption | omega | (simp only [Value.int.injEq,true_and];omega) | (simp;done) | (simp;omega)
            . have st:=crsAll_step xs ys i hi
              refine ⟨m - 1,by omega,i+1,by omega,?_⟩
              rw [List.take_of_length_le (show ys.length<=k by omega)]
              (repeat' apply And.intro) <;> first | rfl | trivial | assumption | omega | (simp only [Value.int.injEq,true_and];omega) | (simp;done) | (simp;omega)
        . refine hQ _ _ _ ?_
          simp (maxSteps:=1000000) (disch:=omega) only [h8,SS,eq_self,reduceIte,reduceCtorEq,Nat.reduceEqDiff,Nat.reduceAdd]
          rw [if_pos ⟨hv.1,hv.2,hw.2⟩,List.take_of_length_le (by omega)]
          exact ⟨rfl,hp⟩
    . simp (maxSteps:=1000000) (disch:=omega) only [hv,hw,SS,eq_self,reduceIte,reduceCtorEq,Nat.reduceEqDiff,Nat.reduceAdd]
      refine hQ _ _ _ ?_
      simp (maxSteps:=1000000) (disch:=omega) only [SS,eq_self,reduceIte,reduceCtorEq,Nat.reduceEqDiff,Nat.reduceAdd]
      rw [if_neg]
      . exact ⟨rfl,hp1.trans hp2⟩
      . rintro ⟨c1,c2,c3⟩
        exact hw (by simp [c1,c3])
  . simp (maxSteps:=1000000) (disch:=omega) only [hv,SS,eq_self,reduceIte,reduceCtorEq,Nat.reduceEqDiff,Nat.reduceAdd]
    refine hQ _ _ _ ?_
    simp (maxSteps:=1000000) (disch:=omega) only [SS,eq_self,reduceIte,reduceCtorEq,Nat.reduceEqDiff,Nat.reduceAdd]
    rw [if_neg]
    . exact ⟨rfl,hp1⟩
    . rintro ⟨c1,c2,c3⟩
      exact hv (by simp [c1,c2])
theorem crossI_c (n:Int)(v w:Value)(xs ys:List Int)(H:AH)(hr:Row 3 H v xs)(hlen:xs.length<=1099511627776)(hxs:∀ y ∈ xs,I64 y)(hr2:Row 3 H w ys)(hlen2:ys.length<=1099511627776)(hys:∀ y ∈ ys,I64 y) :
    ACalls Tryz.prog 31 [.int .i64 n,v,w] H fun r H'=>r=(if (3<=n/\n<=8)/\triI n xs=true/\triI n ys=true then .tuple (List.toArray [.int .i64 (crsAll xs ys:Int),.bool true]) else .tuple (List.toArray [.int .i64 0,.bool false]))/\H<+:H':=by
  refine in31 rfl ?_
  intro Q hQ
  obtain ⟨pv,ev⟩:=hr.shape
  obtain ⟨pw,ew⟩:=hr2.shape
  subst ev
  subst ew
  simp (maxSteps:=1000000) (disch:=omega) only [cd31,SS,eq_self,reduceIte,reduceCtorEq,Nat.reduceEqDiff,Nat.reduceAdd]
  generalize hv:Value.slice pv xs.length xs.length=v at *
  generalize hw:Value.slice pw ys.length ys.length=w at *
  have hnew:=RowV.new 27 H [v,w]
  have hp0:H<+:H ++ [AObj.cells [v,w] 27 false]:=List.prefix_append _ _
  refine CallH.by (areTri_c n _ [v,w] [xs,ys] _ hnew (by simp) rfl ?_) ?_
  . intro i hi
    match i,hi with
    | 0,_=>exact ⟨hr.pre hp0,hlen,hxs⟩
    | 1,_=>exact ⟨hr2.pre hp0,hlen2,hys⟩
  rintro _ H2 ⟨rfl,hp1⟩
  simp (maxSteps:=1000000) (disch:=omega) only [SS,eq_self,reduceIte,reduceCtorEq,Nat.reduceEqDiff,Nat.reduceAdd]
  have hp:=hp0.trans hp1
  have hra:=hr.pre hp
  have hrb:=hr2.pre hp
  by_cases hc:(decide (3<=n/\n<=8) && [xs,ys].all (triI n))=true
  . simp (maxSteps:=1000000) (disch:=omega) only [hc,hra.len Tryz.underlying27,SS,eq_self,reduceIte,reduceCtorEq,Nat.reduceEqDiff,Nat.reduceAdd]
    simp only [Bool.and_eq_true,decide_eq_true_eq,List.all_cons,List.all_nil,Bool.and_true] at hc
    obtain ⟨hn,hx1,hy1⟩:=hc
    have la:(xs.length:Int)=n - 3:=by rw [tri_same n xs hn] at hx1;exact triS_len hx1
    have lb:(ys.length:Int)=n - 3:=by rw [tri_same n ys hn] at hy1;exact triS_len hy1
    refine LoopH.by (fun m s H'=>∃ i,m+i=xs.length/\s 2=w/\s 19=v/\s 20=.int .i64 (xs.length:Int)/\s 21=.int .i64 ((i:Nat):Int)/\s 8=.int .i64 ((crsAll (xs.take i) ys:Nat):Int)/\H2=H') xs.length ?_ ?_
    . exact ⟨0,by simp,rfl,rfl,rfl,rfl,by simp [SS,eq_self,reduceIte,reduceCtorEq,Nat.reduceEqDiff,Nat.reduceAdd,crsAll],rfl⟩
    . rintro m s H' ⟨i,hm,h2,h19,h20,h21,h8,rfl⟩
      simp (maxSteps:=1000000) (disch:=omega) only [h2,h19,h20,h21,h8,SS,eq_self,reduceIte,reduceCtorEq,Nat.reduceEqDiff,Nat.reduceAdd]
      refine brD.intro (fun g=>?_) (fun g=>?_) <;> simp (maxSteps:=1000000) (disch:=omega) only [h2,h19,h20,h21,h8,wrap64,hra.ix Tryz.underlying27 cs3,hra.cell,hrb.len Tryz.underlying27,Int.toNat_natCast,SS,eq_self,reduceIte,reduceCtorEq,Nat.reduceEqDiff,Nat.reduceAdd]
      . have hi:i<xs.length:=by omega
        have hx:xs.getD i 0=xs[i]:=by simp [hi]
        have b0:=crsAll_le (xs.take i) ys
        have b1:(xs.take i).length * ys.length<=6 * 6:=Nat.mul_le_mul (by simp;omega) (by omega)
        refine LoopH.by (fun m' s' H''=>∃ k,m'+k=ys.length/\s' 2=w/\s' 19=v/\s' 20=.int .i64 (xs.length:Int)/\s' 21=.int .i64 ((i:Nat):Int)/\s' 10=.int .i64 (xs.getD i 0)/\s' 25=w/\s' 26=.int .i64 (ys.length:Int)/\s' 27=.int .i64 ((k:Nat):Int)/\s' 8=.int .i64 (((crsAll (xs.take i) ys+crsRow (xs.getD i 0) (ys.take k):Nat)):Int)/\H2=H'') ys.length ?_ ?_
        . exact ⟨0,by simp,by simp only [SS,eq_self,reduceIte,reduceCtorEq,Nat.reduceEqDiff,Nat.reduceAdd,h2],by simp only [SS,eq_self,reduceIte,reduceCtorEq,Nat.reduceEqDiff,Nat.reduceAdd,h19],by simp only [SS,eq_self,reduceIte,reduceCtorEq,Nat.reduceEqDiff,Nat.reduceAdd,h20],by simp only [SS,eq_self,reduceIte,reduceCtorEq,Nat.reduceEqDiff,Nat.reduceAdd,h21],by simp only [SS,eq_self,reduceIte,reduceCtorEq,Nat.reduceEqDiff,Nat.reduceAdd],by simp only [SS,eq_self,reduceIte,reduceCtorEq,Nat.reduceEqDiff,Nat.reduceAdd,h2],by simp only [SS,eq_self,reduceIte,reduceCtorEq,Nat.reduceEqDiff,Nat.reduceAdd],by simp [SS,eq_self,reduceIte,reduceCtorEq,Nat.reduceEqDiff,Nat.reduceAdd],by simp [SS,eq_self,reduceIte,reduceCtorEq,Nat.reduceEqDiff,Nat.reduceAdd,h8,crsRow],rfl⟩
        . rintro m' s' H'' ⟨k,hm',g2,g19,g20,g21,g10,g25,g26,g27,g8,rfl⟩
          simp (maxSteps:=1000000) (disch:=omega) only [g2,g19,g20,g21,g10,g25,g26,g27,g8,SS,eq_self,reduceIte,reduceCtorEq,Nat.reduceEqDiff,Nat.reduceAdd]
          refine brD.intro (fun q=>?_) (fun q=>?_) <;> simp (maxSteps:=1000000) (disch:=omega) only [g2,g19,g20,g21,g10,g25,g26,g27,g8,hrb.ix Tryz.underlying27 cs3,hrb.cell,Int.toNat_natCast,wrap64,SS,eq_self,reduceIte,reduceCtorEq,Nat.reduceEqDiff,Nat.reduceAdd]
          . have hk:k<ys.length:=by omega
            have hy:ys.getD k 0=ys[k]:=by simp [hk]
            have b2:=crsRow_le (xs.getD i 0) (ys.take k)
            have b3:(ys.take k).length<=6:=by simp;omega
            have st:=crsRow_step (xs.getD i 0) ys k hk
            refine CallH.by (cross_c _ _ _ (by rw [hx];exact hxs _ (List.getElem_mem hi)) (by rw [hy];exact hys _ (List.getElem_mem hk))) ?_
            rintro _ _ ⟨rfl,rfl⟩
            simp (maxSteps:=1000000) (disch:=omega) only [SS,eq_self,reduceIte,reduceCtorEq,Nat.reduceEqDiff,Nat.reduceAdd]
            refine brD.intro (fun e=>?_) (fun e=>?_) <;> simp (maxSteps:=1000000) (disch:=omega) only [g2,g19,g20,g21,g10,g25,g26,g27,g8,wrap64,SS,eq_self,reduceIte,reduceCtorEq,Nat.reduceEqDiff,Nat.reduceAdd]
            . rw [if_pos e] at st
              refine ⟨m' - 1,by omega,k+1,by omega,?_⟩
              (repeat' apply And.intro) <;> first | rfl | trivial | assumption | omega | (simp only [Value.int.injEq,true_and];omega) | (simp;done) | (simp;omega)
            . rw [if_neg e] at st
              refine ⟨m' - 1,by omega,k+1,by omega,?_⟩
              (repeat' apply And.intro) <;> first | rfl | trivial | assumption | omega | (simp only [Value.int.injEq,true_and];omega) | (simp;done) | (simp;omega)
          . have st:=crsAll_step xs ys i hi
            refine ⟨m - 1,by omega,i+1,by omega,?_⟩
            rw [List.take_of_length_le (show ys.length<=k by omega)]
            (repeat' apply And.intro) <;> first | rfl | trivial | assumption | omega | (simp only [Value.int.injEq,true_and];omega) | (simp;done) | (simp;omega)
      . refine hQ _ _ _ ?_
        simp (maxSteps:=1000000) (disch:=omega) only [h8,SS,eq_self,reduceIte,reduceCtorEq,Nat.reduceEqDiff,Nat.reduceAdd]
        rw [if_pos ⟨hn,hx1,hy1⟩,List.take_of_length_le (by omega)]
        exact ⟨rfl,hp⟩
  . simp (maxSteps:=1000000) (disch:=omega) only [hc,SS,eq_self,reduceIte,reduceCtorEq,Nat.reduceEqDiff,Nat.reduceAdd]
    refine hQ _ _ _ ?_
    simp (maxSteps:=1000000) (disch:=omega) only [SS,eq_self,reduceIte,reduceCtorEq,Nat.reduceEqDiff,Nat.reduceAdd]
    rw [if_neg]
    . exact ⟨rfl,hp⟩
    . rintro ⟨c1,c2,c3⟩
      exact hc (by simp [c1,c2,c3])
def cd116:Cd:=(.seq (.reg [⟨⟨some 3,.assign (.const (.bool false)),none⟩,[]⟩]) (.seq (.reg [⟨⟨some 4,.move (.tmp 0),none⟩,[]⟩,
  ⟨⟨some 5,.load 3 (.tmp 1),none⟩,[]⟩,
  ⟨⟨some 6,.call ⟨(.value (.func 117)),#[.tmp 4,.tmp 5],#[3,3]⟩,none⟩,[]⟩,
  ⟨⟨some 7,.unOp .not 4 (.tmp 6),none⟩,[]⟩,
  ⟨⟨some 3,.assign (.tmp 7),none⟩,[]⟩]) .ret))
theorem in116:InT Tryz.prog 116 2 [.tmp 3] cd116:=InT.mk (by kernel_rfl) [] Tryz.func116 rfl (by kernel_rfl) (by kernel_rfl) (of_decide_eq_true (by kernel_rfl)) (by kernel_rfl)
def cd114:Cd:=(.seq (.reg [⟨⟨some 4,.assign (.const (.slice none 0 0)),none⟩,[]⟩]) (.seq (.reg [⟨⟨some 8,.move (.tmp 0),none⟩,[]⟩,⟨⟨some 9,.move (.tmp 1),none⟩,[]⟩,⟨⟨some 10,.call ⟨(.value (.func 185)),#[.tmp 8,.tmp 9],#[27,98]⟩,none⟩,[]⟩,⟨⟨some 5,.assign (.tmp 10),none⟩,[]⟩]) (.seq (.seq (.reg [⟨⟨some 11,.move (.tmp 5),none⟩,[]⟩,⟨⟨some 12,.binOp .eql 3 (.tmp 11) (.const (.int .i64 (-1))) 3,none⟩,[]⟩]) (.cond (.tmp 12) (.seq (.reg [⟨⟨some 13,.move (.tmp 0),none⟩,[]⟩,⟨⟨some 4,.assign (.tmp 13),none⟩,[]⟩]) .ret) .skip)) (.seq (.seq (.reg [⟨⟨some 14,.move (.tmp 5),none⟩,[]⟩,⟨⟨some 15,.binOp .add 3 (.tmp 14) (.const (.int .i64 1)) 3,none⟩,[]⟩,⟨⟨some 6,.assign (.tmp 15),none⟩,[]⟩]) (.block 0 (.loop (.seq (.seq (.reg [⟨⟨some 16,.move (.tmp 6),none⟩,[]⟩,⟨⟨some 17,.move (.tmp 0),none⟩,[]⟩,⟨⟨some 18,.call ⟨(.builtin .len),#[.tmp 17],#[27]⟩,none⟩,[]⟩,⟨⟨some 19,.binOp .lss 3 (.tmp 16) (.tmp 18) 3,none⟩,[]⟩]) (.cond (.tmp 19) .skip (.exit 0))) (.seq (.block 1 (.seq (.reg [⟨⟨some 22,.move (.tmp 0),none⟩,[]⟩,⟨⟨some 23,.move (.tmp 6),none⟩,[]⟩,
 ⟨⟨some 24,.indexAddr 27 (.tmp 22) (.tmp 23),none⟩,[]⟩,⟨⟨some 25,.load 3 (.tmp 24),none⟩,[]⟩,⟨⟨some 7,.assign (.tmp 25),none⟩,[]⟩]) (.seq (.reg [⟨⟨some 26,.move (.tmp 1),none⟩,[]⟩,⟨⟨some 27,.move (.tmp 7),none⟩,[]⟩,⟨⟨some 28,.call ⟨(.value (.tmp 26)),#[.tmp 27],#[3]⟩,none⟩,[]⟩,⟨⟨some 29,.unOp .not 4 (.tmp 28),none⟩,[]⟩]) (.cond (.tmp 29) (.seq (.reg [⟨⟨some 30,.move (.tmp 0),none⟩,[]⟩,⟨⟨some 31,.move (.tmp 5),none⟩,[]⟩,⟨⟨some 32,.move (.tmp 7),none⟩,[]⟩,⟨⟨some 33,.indexAddr 27 (.tmp 30) (.tmp 31),none⟩,[]⟩,⟨⟨none,.store 3 (.tmp 33) (.tmp 32),none⟩,[]⟩]) (.reg [⟨⟨some 34,.move (.tmp 5),none⟩,[]⟩,⟨⟨some 35,.binOp .add 3 (.tmp 34) (.const (.int .i64 1)) 3,none⟩,[]⟩,⟨⟨some 5,.assign (.tmp 35),none⟩,[]⟩])) .skip)))) (.reg [⟨⟨some 20,.move (.tmp 6),none⟩,[]⟩,
 ⟨⟨some 21,.binOp .add 3 (.tmp 20) (.const (.int .i64 1)) 3,none⟩,[]⟩,
  ⟨⟨some 6,.assign (.tmp 21),none⟩,[]⟩])))))) (.seq (.reg [⟨⟨some 36,.move (.tmp 0),none⟩,[]⟩,
  ⟨⟨some 37,.move (.tmp 5),none⟩,[]⟩,
  ⟨⟨some 38,.slice 27 (.tmp 36) (some (.tmp 37)) none none,none⟩,[]⟩,
  ⟨⟨none,.call ⟨(.builtin .clear),#[.tmp 38],#[27]⟩,none⟩,[]⟩]) (.seq (.reg [⟨⟨some 39,.move (.tmp 0),none⟩,[]⟩,
  ⟨⟨some 40,.move (.tmp 5),none⟩,[]⟩,
  ⟨⟨some 41,.slice 27 (.tmp 39) none (some (.tmp 40)) none,none⟩,[]⟩,
  ⟨⟨some 4,.assign (.tmp 41),none⟩,[]⟩]) .ret))))))
theorem in114:InT Tryz.prog 114 2 [.tmp 4] cd114:=InT.mk (by kernel_rfl) [] Tryz.func114 rfl (by kernel_rfl) (by kernel_rfl) (of_decide_eq_true (by kernel_rfl)) (by kernel_rfl)
def cd38:Cd:=(.seq (.reg [⟨⟨some 4,.assign (.const (.slice none 0 0)),none⟩,[]⟩,⟨⟨some 5,.assign (.const (.bool false)),none⟩,[]⟩]) (.seq (.reg [⟨⟨some 9,.buildSlice 27 0 #[],none⟩,[]⟩,⟨⟨some 6,.assign (.tmp 9),none⟩,[]⟩]) (.seq (.seq (.reg [⟨⟨some 10,.move (.tmp 0),none⟩,[]⟩,⟨⟨some 11,.call ⟨(.value (.func 118)),#[.tmp 10],#[3]⟩,none⟩,[]⟩,⟨⟨some 12,.unOp .not 4 (.tmp 11),none⟩,[]⟩,⟨⟨some 13,.move (.tmp 12),none⟩,[]⟩,⟨⟨some 14,.move (.tmp 1),some (13,false)⟩,[]⟩,⟨⟨some 15,.move (.tmp 0),some (13,false)⟩,[]⟩,⟨⟨some 16,.binOp .sub 3 (.tmp 15) (.const (.int .i64 1)) 3,some (13,false)⟩,[]⟩,⟨⟨some 17,.call ⟨(.value (.func 119)),#[.tmp 14,(.const (.int .i64 0)),.tmp 16],#[3,3,3]⟩,some (13,false)⟩,[]⟩,⟨⟨some 18,.unOp .not 4 (.tmp 17),some (13,false)⟩,[]⟩,⟨⟨some 19,.pick (.tmp 13) (.const (.bool true)) (.tmp 18),none⟩,[]⟩]) (.cond (.tmp 19) (.seq (.reg [⟨⟨some 20,.move (.tmp 6),none⟩,[]⟩,
 ⟨⟨some 4,.assign (.tmp 20),none⟩,[]⟩,⟨⟨some 5,.assign (.const (.bool false)),none⟩,[]⟩]) .ret) .skip)) (.seq (.reg [⟨⟨some 21,.move (.tmp 0),none⟩,[]⟩,⟨⟨some 22,.call ⟨(.value (.func 120)),#[.tmp 21],#[3]⟩,none⟩,[]⟩,⟨⟨some 7,.assign (.tmp 22),none⟩,[]⟩]) (.seq (.seq (.reg [⟨⟨some 8,.assign (.const (.int .i64 0)),none⟩,[]⟩]) (.block 0 (.loop (.seq (.seq (.reg [⟨⟨some 23,.move (.tmp 8),none⟩,[]⟩,⟨⟨some 24,.move (.tmp 7),none⟩,[]⟩,⟨⟨some 25,.call ⟨(.builtin .len),#[.tmp 24],#[27]⟩,none⟩,[]⟩,⟨⟨some 26,.binOp .lss 3 (.tmp 23) (.tmp 25) 3,none⟩,[]⟩]) (.cond (.tmp 26) .skip (.exit 0))) (.seq (.block 1 (.seq (.reg [⟨⟨some 29,.move (.tmp 7),none⟩,[]⟩,⟨⟨some 30,.move (.tmp 8),none⟩,[]⟩,⟨⟨some 31,.indexAddr 27 (.tmp 29) (.tmp 30),none⟩,[]⟩,⟨⟨some 32,.load 3 (.tmp 31),none⟩,[]⟩,⟨⟨some 33,.binOp .quo 3 (.tmp 32) (.const (.int .i64 10)) 3,none⟩,[]⟩,⟨⟨some 34,.move (.tmp 1),none⟩,[]⟩,
 ⟨⟨some 35,.binOp .eql 3 (.tmp 33) (.tmp 34) 3,none⟩,[]⟩,⟨⟨some 36,.move (.tmp 35),none⟩,[]⟩,⟨⟨some 37,.move (.tmp 7),some (36,false)⟩,[]⟩,⟨⟨some 38,.move (.tmp 8),some (36,false)⟩,[]⟩,⟨⟨some 39,.indexAddr 27 (.tmp 37) (.tmp 38),some (36,false)⟩,[]⟩,⟨⟨some 40,.load 3 (.tmp 39),some (36,false)⟩,[]⟩,⟨⟨some 41,.binOp .rem 3 (.tmp 40) (.const (.int .i64 10)) 3,some (36,false)⟩,[]⟩,⟨⟨some 42,.move (.tmp 1),some (36,false)⟩,[]⟩,⟨⟨some 43,.binOp .eql 3 (.tmp 41) (.tmp 42) 3,some (36,false)⟩,[]⟩,⟨⟨some 44,.pick (.tmp 36) (.const (.bool true)) (.tmp 43),none⟩,[]⟩]) (.cond (.tmp 44) (.reg [⟨⟨some 45,.move (.tmp 6),none⟩,[]⟩,⟨⟨some 46,.move (.tmp 7),none⟩,[]⟩,⟨⟨some 47,.move (.tmp 8),none⟩,[]⟩,
 ⟨⟨some 48,.indexAddr 27 (.tmp 46) (.tmp 47),none⟩,[]⟩,
  ⟨⟨some 49,.load 3 (.tmp 48),none⟩,[]⟩,
  ⟨⟨some 50,.buildSlice 27 1 #[(0,.tmp 49)],none⟩,[]⟩,
  ⟨⟨some 51,.call ⟨(.builtin .append),#[.tmp 45,.tmp 50],#[27,27]⟩,none⟩,[]⟩,
  ⟨⟨some 6,.assign (.tmp 51),none⟩,[]⟩]) .skip))) (.reg [⟨⟨some 27,.move (.tmp 8),none⟩,[]⟩,
  ⟨⟨some 28,.binOp .add 3 (.tmp 27) (.const (.int .i64 1)) 3,none⟩,[]⟩,
  ⟨⟨some 8,.assign (.tmp 28),none⟩,[]⟩])))))) (.seq (.reg [⟨⟨some 52,.move (.tmp 6),none⟩,[]⟩,
  ⟨⟨some 4,.assign (.tmp 52),none⟩,[]⟩,
  ⟨⟨some 5,.assign (.const (.bool true)),none⟩,[]⟩]) .ret))))))
theorem in38:InT Tryz.prog 38 2 [.tmp 4,.tmp 5] cd38:=InT.mk (by kernel_rfl) [] Tryz.func38 rfl (by kernel_rfl) (by kernel_rfl) (of_decide_eq_true (by kernel_rfl)) (by kernel_rfl)
def cd37:Cd:=(.seq (.reg [⟨⟨some 3,.box 3 (.tmp 1),none⟩,[]⟩,⟨⟨some 4,.assign (.const (.slice none 0 0)),none⟩,[]⟩,⟨⟨some 5,.assign (.const (.bool false)),none⟩,[]⟩]) (.seq (.seq (.reg [⟨⟨some 6,.move (.tmp 0),none⟩,[]⟩,⟨⟨some 7,.call ⟨(.value (.func 112)),#[.tmp 6],#[3]⟩,none⟩,[]⟩,⟨⟨some 8,.unOp .not 4 (.tmp 7),none⟩,[]⟩,⟨⟨some 9,.move (.tmp 8),none⟩,[]⟩,⟨⟨some 10,.load 3 (.tmp 3),some (9,false)⟩,[]⟩,⟨⟨some 11,.move (.tmp 0),some (9,false)⟩,[]⟩,⟨⟨some 12,.binOp .sub 3 (.tmp 11) (.const (.int .i64 1)) 3,some (9,false)⟩,[]⟩,⟨⟨some 13,.call ⟨(.value (.func 113)),#[.tmp 10,(.const (.int .i64 0)),.tmp 12],#[3,3,3]⟩,some (9,false)⟩,[]⟩,⟨⟨some 14,.unOp .not 4 (.tmp 13),some (9,false)⟩,[]⟩,⟨⟨some 15,.pick (.tmp 9) (.const (.bool true)) (.tmp 14),none⟩,[]⟩]) (.cond (.tmp 15) (.seq (.reg [⟨⟨some 4,.assign (.const (.slice none 0 0)),none⟩,[]⟩,
 ⟨⟨some 5,.assign (.const (.bool false)),none⟩,[]⟩]) .ret) .skip)) (.seq (.reg [⟨⟨some 16,.move (.tmp 0),none⟩,[]⟩,
  ⟨⟨some 17,.call ⟨(.value (.func 115)),#[.tmp 16],#[3]⟩,none⟩,[]⟩,
  ⟨⟨some 18,.makeFunc (Fn.func 116) #[] #[.tmp 3],none⟩,[]⟩,
  ⟨⟨some 19,.call ⟨(.value (.func 114)),#[.tmp 17,.tmp 18],#[27,98]⟩,none⟩,[]⟩,
  ⟨⟨some 4,.assign (.tmp 19),none⟩,[]⟩,
  ⟨⟨some 5,.assign (.const (.bool true)),none⟩,[]⟩]) .ret)))
theorem in37:InT Tryz.prog 37 2 [.tmp 4,.tmp 5] cd37:=InT.mk (by kernel_rfl) [] Tryz.func37 rfl (by kernel_rfl) (by kernel_rfl) (of_decide_eq_true (by kernel_rfl)) (by kernel_rfl)
end Go.Proofs.YtjnefjchconebaaGreat.Ai
namespace Go.Proofs.YtjnefjchconebaaGreat.Ai
open Go Go.RowKit
theorem fanClos_c (d c:Int)(o:Nat)(H:AH)(hd:I64 d)(ho:cellA H o 0=some (.int .i64 c)) :
    ACalls Tryz.prog 116 [.int .i64 d,.pointer (some ⟨o,0,none⟩)] H fun r H'=>r=.bool (!decide (At d c))/\H=H':=by
  refine in116 rfl ?_
  intro Q hQ
  simp (maxSteps:=1000000) (disch:=omega) only [cd116,ho,SS,eq_self,reduceIte,reduceCtorEq,Nat.reduceEqDiff,Nat.reduceAdd]
  refine CallH.by (isAt_c d c H hd) ?_
  rintro _ _ ⟨rfl,rfl⟩
  simp (maxSteps:=1000000) (disch:=omega) only [SS,eq_self,reduceIte,reduceCtorEq,Nat.reduceEqDiff,Nat.reduceAdd]
  refine hQ _ _ _ ?_
  simp (maxSteps:=1000000) (disch:=omega) only [SS,eq_self,reduceIte,reduceCtorEq,Nat.reduceEqDiff,Nat.reduceAdd]
theorem idxP_lt (p:Int->Bool):∀ (xs:List Int) (k:Nat),idxP p xs k = -1∨∃ i,idxP p xs k=((k+i:Nat):Int)/\i<xs.length/\(xs.take i).filter (fun x=>!p x)=xs.take i/\p (xs.getD i 0)=true
  | [],k=>.inl rfl
  | x :: xs,k=>by
    simp only [idxP]
    cases h:p x with
    | true=>exact .inr ⟨0,by simp,by simp,by simp,by simp [h]⟩
    | false =>
      rcases idxP_lt p xs (k+1) with e | ⟨i,e1,e2,e3,e4⟩
      . exact .inl (by simpa using e)
      . exact .inr ⟨i+1,by simp only [Bool.false_eq_true,if_false];rw [e1];congr 1;omega,by simp;omega,by simp [h,e3],by simpa using e4⟩
theorem idxP_none (p:Int->Bool):∀ (xs:List Int) (k:Nat),idxP p xs k = -1->xs.filter (fun x=>!p x)=xs
  | [],k,_=>rfl
  | x :: xs,k,e=>by
    simp only [idxP] at e
    cases h:p x with
    | true=>rw [h,if_pos rfl] at e;omega
    | false =>
      rw [h,if_neg (by decide)] at e
      simp [h,idxP_none p xs (k+1) e]
theorem DeleteFunc_c (o:Nat)(xs:List Int)(p:Int->Bool)(g:FuncId)(caps:List Value)(H:AH)(ho:H[o]?=some (.cells (ints xs) 3 false))(hlen:xs.length<=1099511627776)
    (hp:∀ ys x,x ∈ xs->ACalls Tryz.prog g (.int .i64 x :: caps) (H.set o (.cells (ints ys) 3 false)) fun r H'=>r=.bool (p x)/\H.set o (.cells (ints ys) 3 false)=H') :
    ACalls Tryz.prog 114 [.slice (some ⟨o,0,none⟩) xs.length xs.length,.func (.func g) #[] (List.toArray caps)] H fun r H'=>∃ zs,r=.slice (some ⟨o,0,none⟩) (xs.filter fun x=>!p x).length (xs.filter fun x=>!p x).length/\H'=H.set o (.cells (ints zs) 3 false)/\zs.take (xs.filter fun x=>!p x).length=xs.filter fun x=>!p x:=by
  have hset:H.set o (.cells (ints xs) 3 false)=H:=by
    apply List.ext_getElem?
    intro j
    rw [List.getElem?_set]
    by_cases hj:o=j
    . subst hj;rw [if_pos rfl,if_pos (at_lt ho),ho]
    . rw [if_neg hj]
  have rowOf:∀ ys:List Int,ys.length=xs.length->Row 3 (H.set o (.cells (ints ys) 3 false)) (.slice (some ⟨o,0,none⟩) xs.length xs.length) ys:=by
    intro ys hy
    refine .inr ⟨o,0,ints ys,false,by rw [hy],at_set ho,by rw [ints_len];omega,?_⟩
    rw [List.drop_zero,List.take_of_length_le (by rw [ints_len];omega)]
  refine in114 rfl ?_
  intro Q hQ
  simp (maxSteps:=1000000) (disch:=omega) only [cd114,SS,eq_self,reduceIte,reduceCtorEq,Nat.reduceEqDiff,Nat.reduceAdd]
  have hr0:=rowOf xs rfl
  rw [hset] at hr0
  refine CallH.by (IndexFunc_c _ xs p g caps H hr0 hlen (fun x hx=>by have:=hp xs x hx;rwa [hset] at this)) ?_
  rintro _ _ ⟨rfl,rfl⟩
  simp (maxSteps:=1000000) (disch:=omega) only [SS,eq_self,reduceIte,reduceCtorEq,Nat.reduceEqDiff,Nat.reduceAdd]
  refine brD.intro (fun gg=>?_) (fun gg=>?_) <;> simp (maxSteps:=1000000) (disch:=omega) only [SS,eq_self,reduceIte,reduceCtorEq,Nat.reduceEqDiff,Nat.reduceAdd]
  . refine hQ _ _ _ ?_
    simp (maxSteps:=1000000) (disch:=omega) only [SS,eq_self,reduceIte,reduceCtorEq,Nat.reduceEqDiff,Nat.reduceAdd]
    refine ⟨xs,?_,hset.symm,?_⟩
    . rw [idxP_none p xs 0 gg]
    . rw [idxP_none p xs 0 gg,List.take_length]
  . rcases idxP_lt p xs 0 with e | ⟨i0,e1,e2,e3,e4⟩
    . exact absurd e gg
    rw [Nat.zero_add] at e1
    rw [e1]
    simp (maxSteps:=1000000) (disch:=omega) only [wrap64,SS,eq_self,reduceIte,reduceCtorEq,Nat.reduceEqDiff,Nat.reduceAdd]
    refine LoopH.by (fun m s H'=>∃ j i ys,m+j=xs.length/\s 0=.slice (some ⟨o,0,none⟩) xs.length xs.length/\s 1=.func (.func g) #[] (List.toArray caps)/\s 5=.int .i64 ((i:Nat):Int)/\s 6=.int .i64 ((j:Nat):Int)/\H'=H.set o (.cells (ints ys) 3 false)/\ys.length=xs.length/\i<j/\ys.take i=(xs.take j).filter (fun x=>!p x)/\ys.drop j=xs.drop j) (xs.length - i0 - 1) ?_ ?_
    . refine ⟨i0+1,i0,xs,by omega,rfl,rfl,by simp [SS,eq_self,reduceIte,reduceCtorEq,Nat.reduceEqDiff,Nat.reduceAdd],by simp [SS,eq_self,reduceIte,reduceCtorEq,Nat.reduceEqDiff,Nat.reduceAdd],hset.symm,rfl,by omega,?_,rfl⟩
      rw [List.take_add_one,List.getElem?_eq_getElem e2,List.filter_append,e3]
      have:xs.getD i0 0=xs[i0]:=by simp [e2]
      rw [this] at e4
      simp [e4]
    . rintro m s H' ⟨j,i,ys,hm,h0,h1,h5,h6,rfl,hyl,hij,hyt,hyd⟩
      have hr:=rowOf ys hyl
      have hc':(H.set o (.cells (ints ys) 3 false))[o]?=some (.cells (ints ys) 3 false):=at_set ho
      have hi:i<=xs.length:=by have:=congrArg List.length hyt;simp at this;have:=List.length_filter_le (fun x=>!p x) (xs.take j);simp at this;omega
      simp (maxSteps:=1000000) (disch:=omega) only [h0,h1,h5,h6,SS,eq_self,reduceIte,reduceCtorEq,Nat.reduceEqDiff,Nat.reduceAdd]
      refine brD.intro (fun gg=>?_) (fun gg=>?_)
      . have hj:j<xs.length:=by omega
        have hy:ys.getD j 0=xs.getD j 0:=by
          have:=congrArg (·[0]?) hyd
          simp only [List.getElem?_drop,Nat.add_zero] at this
          rw [List.getD_eq_getElem?_getD,List.getD_eq_getElem?_getD,this]
        have hx:xs.getD j 0=xs[j]:=by simp [hj]
        have hcell:cellA (H.set o (.cells (ints ys) 3 false)) o j=some (.int .i64 (xs.getD j 0)):=by rw [cell_ints hc' (by omega),hy]
        simp (maxSteps:=1000000) (disch:=omega) only [h0,h1,h5,h6,Int.toNat_natCast,hcell,SS,eq_self,reduceIte,reduceCtorEq,Nat.reduceEqDiff,Nat.reduceAdd]
        refine CallH.by (hp ys (xs.getD j 0) (by rw [hx];exact List.getElem_mem hj)) ?_
        rintro _ _ ⟨rfl,rfl⟩
        simp (maxSteps:=1000000) (disch:=omega) only [SS,eq_self,reduceIte,reduceCtorEq,Nat.reduceEqDiff,Nat.reduceAdd]
        have hstep:(xs.take (j+1)).filter (fun x=>!p x)=(xs.take j).filter (fun x=>!p x) ++ if p (xs.getD j 0)=true then [] else [xs.getD j 0]:=by
          rw [List.take_add_one,List.getElem?_eq_getElem hj,List.filter_append,hx]
          cases hh:p xs[j] <;> simp [hh]
        refine brH.intro (fun q=>?_) (fun q=>?_)
        . simp (maxSteps:=1000000) (disch:=omega) only [q,h0,h1,h5,h6,Int.toNat_natCast,hcell,wrap64,SS,eq_self,reduceIte,reduceCtorEq,Nat.reduceEqDiff,Nat.reduceAdd]
          rw [q,if_pos rfl,List.append_nil] at hstep
          have f1:ys.take i=(xs.take (j+1)).filter (fun x=>!p x):=by rw [hyt,hstep]
          have f2:ys.drop (j+1)=xs.drop (j+1):=by rw [<- List.drop_drop,hyd,List.drop_drop]
          refine ⟨m - 1,by omega,j+1,i,ys,?_⟩
          (repeat' apply And.intro) <;> first | rfl | trivial | assumption | omega | (simp only [Value.int.injEq,true_and];omega) | (simp;done) | (simp;omega) | exact f1 | exact f2
        . simp (maxSteps:=1000000) (disch:=omega) only [q,h0,h1,h5,h6,Int.toNat_natCast,Nat.zero_add,hcell,st_ints cs3 hc',wrap64,SS,eq_self,reduceIte,reduceCtorEq,Nat.reduceEqDiff,Nat.reduceAdd]
          rw [q,if_neg (by decide)] at hstep
          have f1:(ys.set i (xs.getD j 0)).take (i+1)=(xs.take (j+1)).filter (fun x=>!p x):=by rw [take_set_succ ys i _ (by omega),hyt,hstep]
          have f2:(ys.set i (xs.getD j 0)).drop (j+1)=xs.drop (j+1):=by rw [List.drop_set_of_lt (by omega),<- List.drop_drop,hyd,List.drop_drop]
          have f3:(ys.set i (xs.getD j 0)).length=xs.length:=by simp [hyl]
          have f4:(H.set o (.cells (ints ys) 3 false)).set o (.cells (ints (ys.set i (xs.getD j 0))) 3 false)=H.set o (.cells (ints (ys.set i (xs.getD j 0))) 3 false):=List.set_set ..
          refine ⟨m - 1,by omega,j+1,i+1,ys.set i (xs.getD j 0),?_⟩
          (repeat' apply And.intro) <;> first | rfl | trivial | assumption | omega | (simp only [Value.int.injEq,true_and];omega) | (simp;done) | (simp;omega) | exact f1 | exact f2 | exact f3 | exact f4
      . have hj:xs.take j=xs:=List.take_of_length_le (by omega)
        rw [hj] at hyt
        have hk:(xs.filter fun x=>!p x).length=i:=by rw [<- hyt];simp;omega
        have hs1:=hr.slice Tryz.underlying27 cs3 (lo:=some (.int .i64 ((i:Nat):Int))) (hi:=none) (bound_some (by omega) _) (hi_none _) (by omega) (Nat.le_refl _)
        obtain ⟨zs,hz1,hz2,hz3⟩:=clear_ints (P:=Tryz.prog) (k:=i) (n:=ys.length - i) (c:=ys.length - i) Tryz.underlying27 cs3 ze3 hc' (by omega)
        have hs1':=hs1.1
        simp only [subV,Int.toNat_natCast,Nat.zero_add] at hs1'
        simp (maxSteps:=1000000) (disch:=omega) only [h0,h1,h5,h6,hs1',hz1,SS,eq_self,reduceIte,reduceCtorEq,Nat.reduceEqDiff,Nat.reduceAdd]
        have hr2:=rowOf zs (by omega)
        rw [List.set_set]
        have hs2:=hr2.slice Tryz.underlying27 cs3 (lo:=none) (hi:=some (.int .i64 ((i:Nat):Int))) lo_none (bound_some (by omega) _) (by omega) (by simp;omega)
        have hs2':=hs2.1
        simp only [subV,Int.toNat_natCast,Nat.zero_add,Nat.sub_zero] at hs2'
        simp (maxSteps:=1000000) (disch:=omega) only [h0,h1,h5,h6,hs2',SS,eq_self,reduceIte,reduceCtorEq,Nat.reduceEqDiff,Nat.reduceAdd]
        refine hQ _ _ _ ?_
        simp (maxSteps:=1000000) (disch:=omega) only [SS,eq_self,reduceIte,reduceCtorEq,Nat.reduceEqDiff,Nat.reduceAdd]
        refine ⟨zs,by rw [hk],rfl,?_⟩
        rw [hk,hz2,hyt]
def fan (n c:Int):List Int:=(dgs n n.toNat).filter fun d=>decide (At d c)
def fanR (n c:Int):List Int × Bool:=if (3<=n/\n<=8)/\0<=c/\c<=n - 1 then (fan n c,true) else ([],false)
theorem dgs_I64 {n d:Int}(hn:3<=n/\n<=8)(h:d ∈ dgs n n.toNat):I64 d:=by
  have:=diag_range ((diag_iff n d hn).2 h)
  exact ⟨by omega,by omega⟩
theorem fanS_c (n c:Int)(H:AH):ACalls Tryz.prog 38 [.int .i64 n,.int .i64 c] H fun r H'=>∃ g,r=.tuple (List.toArray [g,.bool (fanR n c).2])/\Mine 3 H H' g (fanR n c).1/\H<+:H':=by
  refine in38 rfl ?_
  intro Q hQ
  simp (maxSteps:=1000000) (disch:=omega) only [cd38,SS,eq_self,reduceIte,reduceCtorEq,Nat.reduceEqDiff,Nat.reduceAdd]
  have bad:¬ ((3<=n/\n<=8)/\0<=c/\c<=n - 1)->fanR n c=([],false):=fun h=>if_neg h
  have hemp:Mine 3 H (H ++ [.cells [] 3 false]) (.slice (some ⟨H.length,0,none⟩) 0 0) []:=.inr ⟨H.length,[],rfl,Nat.le_refl _,at_new ..,rfl⟩
  refine CallH.by (l8Corners_c ..) ?_
  rintro _ _ ⟨rfl,rfl⟩
  simp (maxSteps:=1000000) (disch:=omega) only [SS,eq_self,reduceIte,reduceCtorEq,Nat.reduceEqDiff,Nat.reduceAdd]
  refine brD.intro (fun h=>?_) (fun h=>?_) <;> simp (maxSteps:=1000000) (disch:=omega) only [h,wrap64,SS,eq_self,reduceIte,reduceCtorEq,Nat.reduceEqDiff,Nat.reduceAdd]
  . refine CallH.by (l1In_c ..) ?_
    rintro _ _ ⟨rfl,rfl⟩
    simp (maxSteps:=1000000) (disch:=omega) only [h,SS,eq_self,reduceIte,reduceCtorEq,Nat.reduceEqDiff,Nat.reduceAdd]
    refine brD.intro (fun q=>?_) (fun q=>?_) <;> simp (maxSteps:=1000000) (disch:=omega) only [h,q,SS,eq_self,reduceIte,reduceCtorEq,Nat.reduceEqDiff,Nat.reduceAdd]
    . refine CallH.by (l8Diagonals_c n _ (by omega)) ?_
      rintro all H1 ⟨hall,hp⟩
      have hr:=hall.row
      have hl:=dgs_len n n.toNat (by omega) (by omega)
      have hI:=@dgs_I64 n
      have good:fanR n c=(fan n c,true):=if_pos ⟨h,q⟩
      have hfan:fan n c=(dgs n n.toNat).filter fun d=>decide (At d c):=rfl
      rw [good] at hQ
      generalize hL:dgs n n.toNat=L at *
      have hown0:Own 3 H H1 (.slice (some ⟨H.length,0,none⟩) 0 0) []:=.inr ⟨H.length,rfl,Nat.le_refl _,pre_at hp (at_new ..)⟩
      have hap0:Apart all (.slice (some ⟨H.length,0,none⟩) 0 0):=by
        rcases hall with hh | ⟨o,e1,e2,e3⟩
        . exact .inr (.inl hh.1)
        . refine .inr (.inr ?_)
          rw [e1]
          simp only [rowO]
          simp only [List.length_append,List.length_cons,List.length_nil] at e2
          omega
      simp (maxSteps:=1000000) (disch:=omega) only [SS,eq_self,reduceIte,reduceCtorEq,Nat.reduceEqDiff,Nat.reduceAdd]
      refine LoopH.by (fun m s H'=>∃ i,m+i=L.length/\s 1=.int .i64 c/\s 7=all/\s 8=.int .i64 ((i:Nat):Int)/\Own 3 H H' (s 6) ((L.take i).filter fun d=>decide (At d c))/\Apart all (s 6)/\H<+:H'/\Row 3 H' all L) L.length ?_ ?_
      . refine ⟨0,by simp,rfl,rfl,rfl,?_,?_,(List.prefix_append _ _).trans hp,hr⟩
        . simp (maxSteps:=1000000) (disch:=omega) only [SS,eq_self,reduceIte,reduceCtorEq,Nat.reduceEqDiff,Nat.reduceAdd];exact hown0
        . simp (maxSteps:=1000000) (disch:=omega) only [SS,eq_self,reduceIte,reduceCtorEq,Nat.reduceEqDiff,Nat.reduceAdd];exact hap0
      . rintro m s H' ⟨i,hm,h1,h7,h8,hown,hap,hpp,hr'⟩
        have hfl:=List.length_filter_le (fun d=>decide (At d c)) (L.take i)
        have htl:(L.take i).length<=i:=by simp;omega
        generalize hF:(L.take i).filter (fun d=>decide (At d c))=F at *
        generalize hw:s 6=w at *
        simp (maxSteps:=1000000) (disch:=omega) only [h1,h7,h8,hr'.len Tryz.underlying27,SS,eq_self,reduceIte,reduceCtorEq,Nat.reduceEqDiff,Nat.reduceAdd]
        refine brD.intro (fun g=>?_) (fun g=>?_)
        . have hi:i<L.length:=by omega
          have hx:L.getD i 0=L[i]:=by simp [hi]
          have hd:I64 (L.getD i 0):=by rw [hx];exact hI h (List.getElem_mem hi)
          have hst:(L.take (i+1)).filter (fun d=>decide (At d c))=F ++ if At (L.getD i 0) c then [L.getD i 0] else []:=by
            rw [List.take_add_one,List.getElem?_eq_getElem hi,List.filter_append,hF,hx]
            by_cases e:At L[i] c <;> simp [e]
          obtain ⟨w',H2,k1,k2,k3,k4,k5,k6⟩:=own1_27 hown hpp (by omega) (L.getD i 0)
          have kr:=hr'.kept hap k4
          have ka:=Apart.new hr' k5
          simp (maxSteps:=1000000) (disch:=omega) only [h1,h7,h8,hw,hr'.ix Tryz.underlying27 cs3,hr'.cell,Int.toNat_natCast,hd.tdiv,wrap64,SS,eq_self,reduceIte,reduceCtorEq,Nat.reduceEqDiff,Nat.reduceAdd]
          refine brD.intro (fun e=>?_) (fun e=>?_)
          . rw [if_pos (.inl e)] at hst
            simp (maxSteps:=1000000) (disch:=omega) only [e,h1,h7,h8,hw,hr'.ix Tryz.underlying27 cs3,hr'.cell,Int.toNat_natCast,hd.tdiv,wrap64,k1,SS,eq_self,reduceIte,reduceCtorEq,Nat.reduceEqDiff,Nat.reduceAdd]
            refine ⟨m - 1,by omega,i+1,by omega,?_⟩
            rw [hst]
            (repeat' apply And.intro) <;> first | rfl | trivial | assumption | omega | (simp only [Value.int.injEq,true_and];omega) | (simp;done) | (simp;omega) | exact k2 | exact k3 | exact kr | exact ka
          . simp (maxSteps:=1000000) (disch:=omega) only [e,h1,h7,h8,hw,hr'.ix Tryz.underlying27 cs3,hr'.cell,Int.toNat_natCast,hd.tdiv,wrap64,SS,eq_self,reduceIte,reduceCtorEq,Nat.reduceEqDiff,Nat.reduceAdd]
            refine brD.intro (fun e2=>?_) (fun e2=>?_)
            . rw [if_pos (.inr e2)] at hst
              simp (maxSteps:=1000000) (disch:=omega) only [e,e2,h1,h7,h8,hw,hr'.ix Tryz.underlying27 cs3,hr'.cell,Int.toNat_natCast,hd.tdiv,wrap64,k1,SS,eq_self,reduceIte,reduceCtorEq,Nat.reduceEqDiff,Nat.reduceAdd]
              refine ⟨m - 1,by omega,i+1,by omega,?_⟩
              rw [hst]
              (repeat' apply And.intro) <;> first | rfl | trivial | assumption | omega | (simp only [Value.int.injEq,true_and];omega) | (simp;done) | (simp;omega) | exact k2 | exact k3 | exact kr | exact ka
            . rw [if_neg (fun hh=>hh.elim e e2),List.append_nil] at hst
              simp (maxSteps:=1000000) (disch:=omega) only [e,e2,h1,h7,h8,hw,hr'.ix Tryz.underlying27 cs3,hr'.cell,Int.toNat_natCast,hd.tdiv,wrap64,SS,eq_self,reduceIte,reduceCtorEq,Nat.reduceEqDiff,Nat.reduceAdd]
              refine ⟨m - 1,by omega,i+1,by omega,?_⟩
              rw [hst]
              (repeat' apply And.intro) <;> first | rfl | trivial | assumption | omega | (simp only [Value.int.injEq,true_and];omega) | (simp;done) | (simp;omega)
        . simp (maxSteps:=1000000) (disch:=omega) only [h1,h7,h8,hw,SS,eq_self,reduceIte,reduceCtorEq,Nat.reduceEqDiff,Nat.reduceAdd]
          refine hQ _ _ _ ?_
          simp (maxSteps:=1000000) (disch:=omega) only [hw,hown.row.tup,SS,eq_self,reduceIte,reduceCtorEq,Nat.reduceEqDiff,Nat.reduceAdd]
          have:L.take i=L:=List.take_of_length_le (by omega)
          rw [this] at hF
          rw [hfan,hF]
          exact ⟨_,rfl,hown.mine,hpp⟩
    . refine hQ _ _ _ ?_
      simp (maxSteps:=1000000) (disch:=omega) only [bad (by omega),SS,eq_self,reduceIte,reduceCtorEq,Nat.reduceEqDiff,Nat.reduceAdd]
      exact ⟨_,rfl,hemp,List.prefix_append _ _⟩
  . refine hQ _ _ _ ?_
    simp (maxSteps:=1000000) (disch:=omega) only [bad (by omega),SS,eq_self,reduceIte,reduceCtorEq,Nat.reduceEqDiff,Nat.reduceAdd]
    exact ⟨_,rfl,hemp,List.prefix_append _ _⟩
theorem fanI_c (n c:Int)(H:AH):ACalls Tryz.prog 37 [.int .i64 n,.int .i64 c] H fun r H'=>∃ g,r=.tuple (List.toArray [g,.bool (fanR n c).2])/\Mine 3 H H' g (fanR n c).1/\H<+:H':=by
  refine in37 rfl ?_
  intro Q hQ
  have bad:¬ ((3<=n/\n<=8)/\0<=c/\c<=n - 1)->fanR n c=([],false):=fun h=>if_neg h
  simp (maxSteps:=1000000) (disch:=omega) only [cd37,box_int,cell_new,SS,eq_self,reduceIte,reduceCtorEq,Nat.reduceEqDiff,Nat.reduceAdd]
  have hp0:H<+:H ++ [AObj.cells [.int .i64 c] 3 false]:=List.prefix_append _ _
  refine CallH.by (isPolygon_c ..) ?_
  rintro _ _ ⟨rfl,rfl⟩
  simp (maxSteps:=1000000) (disch:=omega) only [SS,eq_self,reduceIte,reduceCtorEq,Nat.reduceEqDiff,Nat.reduceAdd]
  refine brD.intro (fun h=>?_) (fun h=>?_) <;> simp (maxSteps:=1000000) (disch:=omega) only [h,wrap64,cell_new,SS,eq_self,reduceIte,reduceCtorEq,Nat.reduceEqDiff,Nat.reduceAdd]
  . refine CallH.by (between_c ..) ?_
    rintro _ _ ⟨rfl,rfl⟩
    simp (maxSteps:=1000000) (disch:=omega) only [h,SS,eq_self,reduceIte,reduceCtorEq,Nat.reduceEqDiff,Nat.reduceAdd]
    refine brD.intro (fun q=>?_) (fun q=>?_) <;> simp (maxSteps:=1000000) (disch:=omega) only [h,q,mkf_p,SS,eq_self,reduceIte,reduceCtorEq,Nat.reduceEqDiff,Nat.reduceAdd]
    . refine CallH.by (diagonals_c n _ (by omega)) ?_
      rintro _ H1 ⟨⟨o,rfl,ho,hc⟩,hp⟩
      have good:fanR n c=(fan n c,true):=if_pos ⟨h,q⟩
      have hL:dgI n 100=dgs n n.toNat:=by
        have:=dgI_eq ⟨n.toNat,by omega⟩ (by show 3<=n.toNat;omega)
        simpa [show ((n.toNat:Nat):Int)=n by omega] using this
      have hI:=@dgs_I64 n
      have hl:=dgs_len n n.toNat (by omega) (by omega)
      have hfan:fan n c=(dgs n n.toNat).filter fun d=>decide (At d c):=rfl
      rw [hL] at hc
      rw [good] at hQ
      rw [hL]
      generalize dgs n n.toNat=L at *
      simp (maxSteps:=1000000) (disch:=omega) only [SS,eq_self,reduceIte,reduceCtorEq,Nat.reduceEqDiff,Nat.reduceAdd]
      refine CallH.by (DeleteFunc_c o L (fun d=>!decide (At d c)) 116 [.pointer (some ⟨H.length,0,none⟩)] H1 hc (by omega) ?_) ?_
      . intro ys x hx
        refine fanClos_c x c H.length _ (hI h hx) ?_
        have:(H ++ [AObj.cells [.int .i64 c] 3 false])[H.length]?=some (.cells [.int .i64 c] 3 false):=at_new ..
        have h2:=pre_at hp this
        have hne:o ≠ H.length:=by
          simp only [List.length_append,List.length_cons,List.length_nil] at ho
          omega
        unfold cellA
        rw [List.getElem?_set_ne hne,h2];rfl
      rintro _ H2 ⟨zs,rfl,rfl,hz⟩
      simp (maxSteps:=1000000) (disch:=omega) only [SS,eq_self,reduceIte,reduceCtorEq,Nat.reduceEqDiff,Nat.reduceAdd]
      refine hQ _ _ _ ?_
      simp (maxSteps:=1000000) (disch:=omega) only [SS,eq_self,reduceIte,reduceCtorEq,Nat.reduceEqDiff,Nat.reduceAdd]
      simp only [Bool.not_not] at hz ⊢
      rw [<- hfan] at hz ⊢
      simp only [List.length_append,List.length_cons,List.length_nil] at ho
      exact ⟨_,rfl,.inr ⟨o,zs,rfl,by omega,at_set hc,hz⟩,pre_set (hp0.trans hp) (by omega) _⟩
    . refine hQ _ _ _ ?_
      simp (maxSteps:=1000000) (disch:=omega) only [bad (by omega),SS,eq_self,reduceIte,reduceCtorEq,Nat.reduceEqDiff,Nat.reduceAdd]
      exact ⟨_,rfl,.inl ⟨rfl,rfl⟩,hp0⟩
  . refine hQ _ _ _ ?_
    simp (maxSteps:=1000000) (disch:=omega) only [bad (by omega),SS,eq_self,reduceIte,reduceCtorEq,Nat.reduceEqDiff,Nat.reduceAdd]
    exact ⟨_,rfl,.inl ⟨rfl,rfl⟩,hp0⟩
def trnC (n b:Int)(mir:Bool)(x:Int):Int:=((if mir=true then n - 1 - x else x)+b).tmod n
def trnD (n b:Int)(mir:Bool)(d:Int):Int :=
  10 * (if trnC n b mir (d.tdiv 10)<trnC n b mir (d.tmod 10) then trnC n b mir (d.tdiv 10) else trnC n b mir (d.tmod 10))+(if trnC n b mir (d.tmod 10)<trnC n b mir (d.tdiv 10) then trnC n b mir (d.tdiv 10) else trnC n b mir (d.tmod 10))
theorem dgs_bd:∀ n:Fin 9,3<=n.val->∀ d ∈ dgs (n.val:Int) n.val,(0<=d.tdiv 10/\d.tdiv 10<=n.val - 1)/\(0<=d.tmod 10/\d.tmod 10<=n.val - 1):=by decide +kernel
theorem trn_nodup:∀ n:Fin 9,3<=n.val->∀ b:Fin 9,b.val<n.val->∀ mir:Bool,((dgs (n.val:Int) n.val).map (trnD n.val b.val mir)).Nodup:=by decide +kernel
theorem inj_of_nodup {L:List Int}{f:Int->Int}(h:(L.map f).Nodup){a b:Int}(ha:a ∈ L)(hb:b ∈ L)(e:f a=f b):a=b:=by
  obtain ⟨i,hi,ei⟩:=List.getElem_of_mem ha
  obtain ⟨j,hj,ej⟩:=List.getElem_of_mem hb
  rw [List.Nodup,List.pairwise_iff_getElem] at h
  rcases Nat.lt_trichotomy i j with hij | hij | hij
  . have:=h i j (by simpa using hi) (by simpa using hj) hij
    simp only [List.getElem_map,ei,ej] at this
    exact absurd e this
  . subst hij;rw [<- ei,<- ej]
  . have:=h j i (by simpa using hj) (by simpa using hi) hij
    simp only [List.getElem_map,ei,ej] at this
    exact absurd e.symm this
theorem Tri1.nodup {n:Int}{xs:List Int}(h:Tri1 n xs):xs.Nodup:=by
  have h2:=h.2
  unfold triS triOkS at h2
  simp only [Bool.and_eq_true,List.all_eq_true,decide_eq_true_eq,Bool.or_eq_true] at h2
  have step:∀ i,0<i->i<xs.length->xs.getD (i - 1) 0<xs.getD i 0:=by
    intro i h0 hi
    rcases (h2.1 i (List.mem_range.2 hi)).1.2 with e | e
    . omega
    . exact e
  have lt:∀ d i,i+d+1<xs.length->xs.getD i 0<xs.getD (i+d+1) 0:=by
    intro d
    induction d with
    | zero=>intro i hi;have:=step (i+1) (by omega) hi;simpa using this
    | succ d ih =>
      intro i hi
      have h1:=ih i (by omega)
      have h2:=step (i+(d+1)+1) (by omega) hi
      rw [show i+(d+1)+1 - 1=i+d+1 from by omega] at h2
      omega
  rw [List.Nodup,List.pairwise_iff_getElem]
  intro i j hi hj hij
  have:=lt (j - i - 1) i (by omega)
  rw [show i+(j - i - 1)+1=j from by omega] at this
  simp only [List.getD_eq_getElem?_getD,List.getElem?_eq_getElem hi,List.getElem?_eq_getElem hj,Option.getD_some] at this
  omega
theorem trn_list {n b:Int}{mir:Bool}{xs:List Int}(h:Tri1 n xs)(hb:0<=b/\b<=n - 1):(xs.map (trnD n b mir)).Nodup:=by
  have hn:=h.1
  obtain ⟨N,rfl⟩:∃ N:Nat,n=N:=⟨n.toNat,by omega⟩
  obtain ⟨B,rfl⟩:∃ B:Nat,b=B:=⟨b.toNat,by omega⟩
  have key:=trn_nodup ⟨N,by omega⟩ (by show 3<=N;omega) ⟨B,by omega⟩ (by show B<N;omega) mir
  have hx:=h.nodup
  rw [List.Nodup,List.pairwise_iff_getElem] at hx ⊢
  intro i j hi hj hij
  simp only [List.length_map] at hi hj
  have hne:=hx i j hi hj hij
  simp only [List.getElem_map]
  intro e
  have m1:=h.mem (List.getElem_mem hi)
  have m2:=h.mem (List.getElem_mem hj)
  simp only [Int.toNat_natCast] at m1 m2
  exact hne (inj_of_nodup key m1 m2 e)
theorem corner_bd {n d:Int}{xs:List Int}(h:Tri1 n xs)(hd:d ∈ xs):(0<=d.tdiv 10/\d.tdiv 10<=n - 1)/\(0<=d.tmod 10/\d.tmod 10<=n - 1):=by
  have hn:=h.1
  obtain ⟨N,rfl⟩:∃ N:Nat,n=N:=⟨n.toNat,by omega⟩
  have m:=h.mem hd
  simp only [Int.toNat_natCast] at m
  have:=dgs_bd ⟨N,by omega⟩ (by show 3<=N;omega) d m
  simpa using this
theorem trnC_bd {n b x:Int}{mir:Bool}(hn:3<=n/\n<=8)(hb:0<=b/\b<=n - 1)(hx:0<=x/\x<=n - 1):0<=trnC n b mir x/\trnC n b mir x<=n - 1:=by
  unfold trnC
  have h1:=Int.tmod_nonneg n (show 0<=(if mir=true then n - 1 - x else x)+b by split <;> omega)
  have h2:=Int.tmod_lt_of_pos ((if mir=true then n - 1 - x else x)+b) (show 0<n by omega)
  omega
def turnOk (n:Int)(xs:List Int)(b:Int):Prop:=Tri1 n xs/\0<=b/\b<=n - 1
instance (n:Int) (xs:List Int) (b:Int):Decidable (turnOk n xs b):=inferInstanceAs (Decidable (_/\_))
def turnR (n:Int)(xs:List Int)(b:Int)(mir:Bool):List Int:=if turnOk n xs b then puts (xs.map (trnD n b mir)) else []
structure FdE where
  k:Nat
  d:Nat
  b:Nat
  cs:List Nat
  nb:List (Nat × Nat)
  f:Nat
  t:Nat
  td:Nat
instance:Inhabited FdE:=⟨⟨0,0,0,[],[],0,0,0⟩⟩
def fdI (l:List Nat):List Int:=l.map Int.ofNat
def fld (d k:Nat):Nat:=(d >>> (4 * k)) % 16
def fdB (l:List Nat):Nat:=l.foldl (fun a d=>a ||| (1 <<< d)) 0
def fdC (l:List Nat)(b:Nat):Nat:=l.countP fun d=>Nat.beq ((b >>> d) % 2) 0
def fdX (l:List Nat)(b:Nat):Bool:=Nat.beq (fdC l b) 1
def fdP (e g:FdE):Bool :=
  (!fdX e.cs g.b || ((e.nb.any fun c=>Nat.beq c.1 g.k) && g.nb.any fun c=>Nat.beq c.1 e.k)) &&
  ((e.nb.all fun c=>Nat.ble (fld g.d c.1) (fld g.d e.k+1)) &&
  ((Nat.beq e.k g.k || e.nb.any fun c=>Nat.beq (fld g.d c.1+1) (fld g.d e.k) && Nat.beq ((e.b &&& g.b) &&& c.2) (e.b &&& g.b)) &&
  (Nat.ble (fld g.d e.k) (e.cs.foldl (fun a y=>a+fld g.f y) 0) &&
  (Nat.ble (fdC e.cs g.b) (fld g.d e.k) && Nat.beq (fld g.td e.t) (fld g.d e.k)))))
def fdPs (T:List FdE):Bool:=T.all fun e=>T.all (fdP e)
def fdS (N:Nat)(T:List FdE)(W:List Nat)(e:FdE):Bool :=
  (e.nb.all fun c=>Nat.blt c.1 T.length && (Nat.beq (T.getD c.1 default).b c.2 && (fdX e.cs c.2 && fdX (T.getD c.1 default).cs e.b))) &&
  (Nat.beq (fdB e.cs) e.b &&
  ((triS (N:Int) (fdI e.cs) && e.cs.all fun y=>decide ((y:Int) ∈ dgs (N:Int) N)) &&
  (Nat.beq (fld e.d e.k) 0 &&
  (((dgs (N:Int) N).all fun y=>Nat.beq (fld e.f y.toNat) ((fdI e.cs).filter fun x=>decide (Crs x y)).length) &&
  (((List.range N).all fun c=>Nat.beq (fld e.d (W.getD c 0)+atN (fdI e.cs) (c:Int)+3) N) &&
  (Nat.blt e.t T.length && (Nat.beq (T.getD e.t default).d e.td && (decide (puts ((fdI e.cs).map (trnD N 1 true))=fdI (T.getD e.t default).cs) &&
  Nat.beq (atN (fdI e.cs) 0) ((fdI e.cs).filter fun x=>decide (x<10)).length))))))))
def fdG (N:Nat)(T:List FdE)(W:List Nat):Bool :=
  decide (triA (N:Int)=T.map fun e=>fdI e.cs) && (decide (T.map (·.k)=List.range T.length) && (List.range N).all fun c=>Nat.blt (W.getD c 0) T.length && decide (fan (N:Int) (c:Int)=fdI (T.getD (W.getD c 0) default).cs))
def fdT3:List FdE:=[
  ⟨0,0,0,[],[],0,0,0⟩]
def fdW3:List Nat:=[0,0,0]
set_option maxRecDepth 100000 in
theorem fdP3:fdPs fdT3=true:=by decide +kernel
set_option maxRecDepth 100000 in
theorem fdS3:(fdT3.all (fdS 3 fdT3 fdW3))=true:=by decide +kernel
set_option maxRecDepth 100000 in
theorem fdG3:fdG 3 fdT3 fdW3=true:=by decide +kernel
def fdT4:List FdE:=[
  ⟨0,16,4,[2],[(1,8192)],4503599627370496,0,16⟩,
  ⟨1,1,8192,[13],[(0,4)],256,1,1⟩]
def fdW4:List Nat:=[0,1,0,1]
set_option maxRecDepth 100000 in
theorem fdP4:fdPs fdT4=true:=by decide +kernel
set_option maxRecDepth 100000 in
theorem fdS4:(fdT4.all (fdS 4 fdT4 fdW4))=true:=by decide +kernel
set_option maxRecDepth 100000 in
theorem fdG4:fdG 4 fdT4 fdW4=true:=by decide +kernel
def fdT5:List FdE:=[
  ⟨0,139536,12,[2,3],[(1,16777220),(2,8200)],79228162514412956381247176704,0,139536⟩,
  ⟨1,74241,16777220,[2,24],[(0,12),(4,16793600)],81064793292673024,2,135201⟩,
  ⟨2,135201,8200,[3,13],[(0,12),(3,24576)],158456325028600732781125828864,1,74241⟩,
  ⟨3,65826,24576,[13,14],[(2,8200),(4,16793600)],79228162514264337593543954944,4,4626⟩,
  ⟨4,4626,16793600,[14,24],[(1,16777220),(3,24576)],4503599627378944,3,65826⟩]
def fdW5:List Nat:=[0,3,1,2,4]
set_option maxRecDepth 100000 in
theorem fdP5:fdPs fdT5=true:=by decide +kernel
set_option maxRecDepth 100000 in
theorem fdS5:(fdT5.all (fdS 5 fdT5 fdW5))=true:=by decide +kernel
set_option maxRecDepth 100000 in
theorem fdG5:fdG 5 fdT5 fdW5=true:=by decide +kernel
def fdT6:List FdE:=[
  ⟨0,14411514225238288,28,[2,3,4],[(1,34359738380),(2,16777236),(5,8216)],1393796574910778475708956722564411068252160,0,14411514225238288⟩,
  ⟨1,9924411819893249,34359738380,[2,3,35],[(0,28),(4,34393292804),(6,34359746568)],1426106925259284596074746019840,5,14691820684653089⟩,
  ⟨2,14113542296965153,16777236,[2,4,24],[(0,28),(3,50331652),(8,16793616)],2787593149817595543292195400390344397819904,2,14113542296965153⟩,
  ⟨3,9327372745638178,50331652,[2,24,25],[(2,16777236),(4,34393292804),(12,50364416)],1393796574908163946345983702588014159011840,8,14094777316483378⟩,
  ⟨4,5121745315959314,34393292804,[2,25,35],[(1,34359738380),(3,50331652),(13,34393325568)],79228162515642439079519457280,7,14392680256909874⟩,
  ⟨5,14691820684653089,8216,[3,4,13],[(0,28),(6,34359746568),(7,24592)],1393796574912125354471697986820803043262720,1,9924411819893249⟩,
  ⟨6,9905651116552978,34359746568,[3,13,35],[(1,34359738380),(5,8216),(10,34359779328)],2772985688000548852466721030400,6,9905651116552978⟩,
  ⟨7,14392680256909874,24592,[4,13,14],[(5,8216),(8,16793616),(9,57344)],2787593149820210072655164889544633448665600,4,5121745315959314⟩,
  ⟨8,14094777316483378,16793616,[4,14,24],[(2,16777236),(7,24592),(11,16826368)],4181389724727027140238404792349665423008000,3,9327372745638178⟩,
  ⟨9,9588849800065843,57344,[13,14,15],[(7,24592),(10,34359779328),(11,16826368)],1393796574910778475708953115181109544559360,13,317910026363683⟩,
  ⟨10,5101816113148963,34359779328,[13,15,35],[(6,34359746568),(9,57344),(13,34393325568)],1426106925256830134277829169664,10,5101816113148963⟩,
  ⟨11,9290946859704899,16826368,[14,15,24],[(8,16793616),(9,57344),(12,50364416)],2787593149817595543292193017986141518901760,12,4523537725526579⟩,
  ⟨12,4523537725526579,50364416,[15,24,25],[(3,50331652),(11,16826368),(13,34393325568)],1393796574908163946345982473105315886936320,11,9290946859704899⟩,
  ⟨13,317910026363683,34393325568,[15,25,35],[(4,34393292804),(10,34359779328),(12,50364416)],79228162514412956381247381760,9,9588849800065843⟩]
def fdW6:List Nat:=[0,9,3,6,8,13]
set_option maxRecDepth 100000 in
theorem fdP6:fdPs fdT6=true:=by decide +kernel
set_option maxRecDepth 100000 in
theorem fdS6:(fdT6.all (fdS 6 fdT6 fdW6))=true:=by decide +kernel
set_option maxRecDepth 100000 in
theorem fdG6:fdG 6 fdT6 fdW6=true:=by decide +kernel
def fdT7:List FdE:=[
  ⟨0,99771845108456305536551759393272985118497433592080,60,[2,3,4,5],[(1,70368744177692),(2,34359738412),(5,16777268),(14,8248)],24519928653900217020705585306392538359965935225609912320,0,99771845108456305536551759393272985118497433592080⟩,
  ⟨1,76473477379814668075660716595157439949116343919105,70368744177692,[2,3,4,46],[(0,60),(4,70437463654412),(6,70368760954900),(15,70368744185880)],25088338348391398033398245450656412110684160,14,99869256156917094714900266888869986554075261645345⟩,
  ⟨2,98224686401352136174848289807393531563954296459297,34359738412,[2,3,5,35],[(0,60),(3,103079215116),(8,34393292836),(16,34359746600)],49039857307730744212665677482877562212037976461758496768,5,101227279457102708635979877405637471793296227643937⟩,
  ⟨3,73373473270136103419198063778830410365090302853410,103079215116,[2,3,35,36],[(2,34359738412),(4,70437463654412),(12,103146323972),(17,103079223304)],24519928653854221733733575489800238629467052313247088640,20,101318980028460562890527131110524496225408960971570⟩,
  ⟨4,51536605785050061615011666236998380474827126346258,70437463654412,[2,3,36,46],[(1,70368744177692),(3,103079215116),(13,70437530763268),(18,70437463662600)],1393796574932407764075389005194694632734720,19,101325047317144974440251131660278493273418872668978⟩,
  ⟨5,101227279457102708635979877405637471793296227643937,16777268,[2,4,5,24],[(0,60),(6,70368760954900),(7,50331684),(20,16793648)],24519928653923911562479002464192053646799241499484622848,2,98224686401352136174848289807393531563954296459297⟩,
  ⟨6,76376066238795657596501634556887971809403266544402,70368760954900,[2,4,24,46],[(1,70368744177692),(5,16777268),(10,70368828063748),(22,70368760971280)],48782880121808555832913532283962685985394688,16,98316387059801008713223542193836449434111753527602⟩,
  ⟨7,99674053548084713792265446798113994343467317473842,50331684,[2,5,24,25],[(5,16777268),(8,34393292836),(9,117440516),(26,50364448)],49039857307776739499637625184590450702884097103222611968,8,98127253046700212772228861171395317677337551774002⟩,
  ⟨8,98127253046700212772228861171395317677337551774002,34393292836,[2,5,25,35],[(2,34359738412),(7,50331684),(11,34460401668),(27,34393325600)],73559785961607266691597738911135678454451125762014711808,7,99674053548084713792265446798113994343467317473842⟩,
  ⟨9,74731115970958263743709891367984326778192417469235,117440516,[2,24,25,26],[(7,50331684),(10,70368828063748),(11,34460401668),(37,117506048)],24519928653900217020705521844634364377823937464091422720,27,98127229259238667672897820898935330197683735638595⟩,
  ⟨10,51433105054239802772789111856877388584526605857827,70368828063748,[2,24,26,46],[(6,70368760954900),(9,117440516),(13,70437530763268),(38,70368828129280)],25088338348348218684827933349265477887664128,24,98224662608444655706388023588677331064779090178627⟩,
  ⟨11,73184315469573845800423042303231226004378171417155,34460401668,[2,25,26,35],[(8,34393292836),(9,117440516),(12,103146323972),(39,34460467200)],49039857307730744212665635571179592129390966122883522560,26,99674029760963451059855364407489584010325033042755⟩,
  ⟨12,48430511998829512677390059631919491137154331054643,103146323972,[2,26,35,36],[(3,103079215116),(11,34460401668),(13,70437530763268),(40,103146389504)],24519928653854221733733553860511872216860648801667584000,25,101227255664195311244269367167257896523636232508483⟩,
  ⟨13,26593644508298952982181284101938835968306571191075,70437530763268,[2,26,36,46],[(4,70437463654412),(10,70368828063748),(12,103146323972),(41,70437530828800)],1393796574910778475708976398791183053230080,23,99771821315548819875789682884295606030794103276355⟩,
  ⟨14,99869256156917094714900266888869986554075261645345,8248,[3,4,5,13],[(0,60),(15,70368744185880),(16,34359746600),(19,24624)],24519928653900217020705606935680904734453871491126657280,1,76473477379814668075660716595157439949116343919105⟩,
  ⟨15,76479543182145700913457547442727281655443082064658,70368744185880,[3,4,13,46],[(1,70368744177692),(14,8248),(18,70437463662600),(21,70368744202256)],25088338348413027321764619938592677627429120,15,76479543182145700913457547442727281655443082064658⟩,
  ⟨16,98316387059801008713223542193836449434111753527602,34359746600,[3,5,13,35],[(2,34359738412),(14,8248),(17,103079223304),(24,34359779360)],49039857307730744212665699112165928586525912727275241728,6,76376066238795657596501634556887971809403266544402⟩,
  ⟨17,73373449482674558664667986763411633981318406214195,103079223304,[3,13,35,36],[(3,103079215116),(16,34359746600),(18,70437463662600),(31,103079288832)],24519928653854221733733597119088605003954988578763833600,22,76376042451334112841971246852570740577154822784035⟩,
  ⟨18,51536583391385091769913186167790225533074527036195,70437463662600,[3,13,36,46],[(4,70437463654412),(15,70368744185880),(17,103079223304),(32,70437463728128)],1393796574954037052441763493130960149479680,21,76473453592351705824082977704369505595368206976035⟩,
  ⟨19,101325047317144974440251131660278493273418872668978,24624,[4,5,13,14],[(14,8248),(20,16793648),(21,70368744202256),(23,57376)],24519928653923911562479045643540623901182499609328488960,4,51536605785050061615011666236998380474827126346258⟩,
  ⟨20,101318980028460562890527131110524496225408960971570,16793648,[4,5,14,24],[(5,16777268),(19,24624),(22,70368760971280),(25,16826400)],24519928653947606104252462801340139207687529055557525760,3,73373473270136103419198063778830410365090302853410⟩,
  ⟨21,76473453592351705824082977704369505595368206976035,70368744202256,[4,13,14,46],[(15,70368744185880),(19,24624),(22,70368760971280),(29,70368744267776)],48782880121851735181483786667220795829260800,18,51536583391385091769913186167790225533074527036195⟩,
  ⟨22,76376042451334112841971246852570740577154822784035,70368760971280,[4,14,24,46],[(6,70368760954900),(20,16793648),(21,70368744202256),(34,70368761036800)],72477421895268892980999093172250242058297600,17,73373449482674558664667986763411633981318406214195⟩,
  ⟨23,99771821315548819875789682884295606030794103276355,57376,[5,13,14,15],[(19,24624),(24,34359779360),(25,16826400),(28,122880)],49039857307776739499637688646348624608861217966652465920,13,26593644508298952982181284101938835968306571191075⟩,
  ⟨24,98224662608444655706388023588677331064779090178627,34359779360,[5,13,15,35],[(16,34359746600),(23,57376),(27,34393325600),(30,34359844864)],73559785961607266691597780822833648480532924781117444608,10,51433105054239802772789111856877388584526605857827⟩,
  ⟨25,101227255664195311244269367167257896523636232508483,16826400,[5,14,15,24],[(20,16793648),(23,57376),(26,50364448),(33,16891904)],49039857307800434041411105804148139915366247412881502720,12,48430511998829512677390059631919491137154331054643⟩,
  ⟨26,99674029760963451059855364407489584010325033042755,50364448,[5,15,24,25],[(7,50331684),(25,16826400),(27,34393325600),(35,50429952)],73559785961653261978569728524546536991050768594935886080,11,73184315469573845800423042303231226004378171417155⟩,
  ⟨27,98127229259238667672897820898935330197683735638595,34393325600,[5,15,25,35],[(8,34393292836),(24,34359779360),(26,50364448),(36,34393391104)],98079714615483789170529842251091764742617797253727985920,9,74731115970958263743709891367984326778192417469235⟩,
  ⟨28,74828860038434744097419380706350747737831107740740,122880,[13,14,15,16],[(23,57376),(29,70368744267776),(30,34359844864),(33,16891904)],24519928653900217020705585306392538282571575629249131520,41,1650683231184876856306336917965506318547051230260⟩,
  ⟨29,51530492315237629699560210573993069419717101569332,70368744267776,[13,14,16,46],[(21,70368744202256),(28,122880),(32,70437463728128),(34,70368761036800)],25088338348391398033398186503040889459385088,32,26593622114271015644117486569739319088275732444212⟩,
  ⟨30,73281701331330579928017721415455992177289858397012,34359844864,[13,15,16,35],[(24,34359779360),(28,122880),(31,103079288832),(36,34393391104)],49039857307730744212665677482877562154243282443714110208,38,26490143777125726646993412253790525811440393340212⟩,
  ⟨31,48430488205560482540144890810229781799659677885252,103079288832,[13,16,35,36],[(17,103079223304),(30,34359844864),(32,70437463728128),(40,103146389504)],24519928653854221733733575489800238590119102368912183808,34,51433081174220036717448479722194309186582616495412⟩,
  ⟨32,26593622114271015644117486569739319088275732444212,70437463728128,[13,16,36,46],[(18,70437463662600),(29,70368744267776),(31,103079288832),(41,70437530828800)],1393796574932407764075349657244750297829888,29,51530492315237629699560210573993069419717101569332⟩,
  ⟨33,76284294387081235465899064989313038512148213749060,16891904,[14,15,16,24],[(25,16826400),(28,122880),(34,70368761036800),(35,50429952)],24519928653923911562479002464192053589076605075478168320,40,23487550721715436552782763123732254614805837718340⟩,
  ⟨34,51433081174220036717448479722194309186582616495412,70368761036800,[14,16,24,46],[(22,70368760971280),(29,70368744267776),(33,16891904),(38,70368828129280)],48782880121808555832913493008070335688421888,31,48430488205560482540144890810229781799659677885252⟩,
  ⟨35,74731068483849375281485062234267096986405815276628,50429952,[15,16,24,25],[(26,50364448),(33,16891904),(36,34393391104),(37,117506048)],49039857307776739499637625184590450664761126257532551680,39,48241354192459769675899946269472847591086536012628⟩,
  ⟨36,73184267982124591894527518725713996095269124784980,34393391104,[15,16,25,35],[(27,34393325600),(30,34359844864),(35,50429952),(39,34460467200)],73559785961607266691597738911135678416328154916324651520,37,49788154693844187619186795409784965012319712330820⟩,
  ⟨37,49788154693844187619186795409784965012319712330820,117506048,[16,24,25,26],[(9,117440516),(35,50429952),(38,70368828129280),(39,34460467200)],24519928653900217020705521844634364358147710692110844160,36,73184267982124591894527518725713996095269124784980⟩,
  ⟨38,26490143777125726646993412253790525811440393340212,70368828129280,[16,24,26,46],[(10,70368828063748),(34,70368761036800),(37,117506048),(41,70437530828800)],25088338348348218684827913673038705907085568,30,73281701331330579928017721415455992177289858397012⟩,
  ⟨39,48241354192459769675899946269472847591086536012628,34460467200,[16,25,26,35],[(11,34460401668),(36,34393391104),(37,117506048),(40,103146389504)],49039857307730744212665635571179592109714739350902944000,35,74731068483849375281485062234267096986405815276628⟩,
  ⟨40,23487550721715436552782763123732254614805837718340,103146389504,[16,26,35,36],[(12,103146323972),(31,103079288832),(39,34460467200),(41,70437530828800)],24519928653854221733733553860511872197184422029687005440,33,76284294387081235465899064989313038512148213749060⟩,
  ⟨41,1650683231184876856306336917965506318547051230260,70437530828800,[16,26,36,46],[(13,70437530763268),(32,70437463728128),(38,70368828129280),(40,103146389504)],1393796574910778475708956722564411072651520,28,74828860038434744097419380706350747737831107740740⟩]
def fdW7:List Nat:=[0,28,9,17,22,27,41]
set_option maxRecDepth 100000 in
theorem fdP7:fdPs fdT7=true:=by decide +kernel
set_option maxRecDepth 100000 in
theorem fdS7:(fdT7.all (fdS 7 fdT7 fdW7))=true:=by decide +kernel
set_option maxRecDepth 100000 in
theorem fdG7:fdG 7 fdT7 fdW7=true:=by decide +kernel
def fdT8:List FdE:=[
  ⟨0,292898033498906014505894434094139443936829239472780874231324922669701316524188027425874776950840459948604262088773490792692264495323317539739139143606069240080,124,[2,3,4,5,6],[(1,144115188075855932),(2,70368744177756),(5,34359738476),(14,16777332),(42,8312)],431359146675219394360250547140583800809386669950681653843314511708160,0,292898033498906014505894434094139443936829239472780874231324922669701316524188027425874776950840459948604262088773490792692264495323317539739139143606069240080⟩,
  ⟨1,238180824779067456806774592729300864087997091490748338019243383566349748618753028192170360288683290154244753142338403256353674464432064781173119373956563935745,144115188075855932,[2,3,4,5,57],[(0,124),(4,144255925564211228),(6,144115222435594284),(15,144115188092633140),(43,144115188075864120)],441358715770157911085728481093017895138149510595697704960,42,292898089364772388456935207827048288053957548096536774237374012286848904963719865381463511313281107071314021757137536813791937165638966550260341358451316961825⟩,
  ⟨2,289264465392962564033818340862115110375351009827384018853946626108572285573187758634016167968378675881112191368490310198945011505695133438404999304050733355041,70368744177756,[2,3,4,6,46],[(0,124),(3,211106232533020),(8,70437463654476),(16,70368760954964),(44,70368744185944)],862718293349212792287806889044552620740233324189995663984760305221632,14,293126807494248823354633207494062061194163782809172907077517303554061550849214740458521286967173788066967517853958740754042325153046201626693896882893315322401⟩,
  ⟨3,230900333120713463191768634810277249050825793498405445339900454866249518156405217562740388267885922999769859563797218888861954288887751783606957135836528836898,211106232533020,[2,3,4,46,47],[(2,70368744177756),(4,144255925564211228),(12,211243671486476),(17,211106249310228),(45,211106232541208)],431359146674410236714672646987117389768936864133726034189610458808320,57,293127701347261703112120638386476648431527873347218353814282713992100603856707116657644030525252292164805530072317556543754556604672440518345375295764868383538⟩,
  ⟨4,179615519957599550427814166034667640309638207987026584183756028293832320458351688475418900887458957415668808601451473130751314171252942972544691465402461458962,144255925564211228,[2,3,4,47,57],[(1,144115188075855932),(3,211106232533020),(13,144256063003164684),(18,144255925580988436),(46,144255925564219416)],24519928654280723485656184650912513191389770766210826240,56,293126863372905208419944900239889142818232925544338100779522037347616022429637978832093898909302799695656816039778411853532947513764659397829032754532530275122⟩,
  ⟨5,296316183043133789706032418899693608457647214460944146403008796372190567181660259681850534031948235953180310629926502658532813801853947840241105941034019533345,34359738476,[2,3,5,6,35],[(0,124),(6,144115222435594284),(7,103079215180),(20,34393292900),(47,34359746664)],431359146675636233147365688403592320926024815895325886037710193360896,5,296316183043133789706032418899693608457647214460944146403008796372190567181660259681850534031948235953180310629926502658532813801853947840241105941034019533345⟩,
  ⟨6,237952050566347723847278126743111656162538918969164367306443667493836883452627584370160217572497778944530987836381097245658692041564726983024775120786482672402,144115222435594284,[2,3,5,35,57],[(1,144115188075855932),(5,34359738476),(10,144115359874547724),(22,144115222469148708),(48,144115222435602472)],858197502885299174094248597731163839782381704991379357696,47,296316238908200996028006182303075082505228860107949936567035109390763199594257458388954787263703934114931773515157759629903252131687035190063597317986893185842⟩,
  ⟨7,292668365855137433192495675910557537818012579359225977119492671205457460245148389551150633087549587214009725589319834806205895357017692415977743592942514483762,103079215180,[2,3,6,35,36],[(5,34359738476),(8,70437463654476),(9,240518168588),(26,103146324036),(49,103079223368)],862718293350021949933383696461504302787737231102178237749099976851456,20,296531545739832400932119669365304458066622638781294798216463455463524736839859148767906769235801472170034452376845790428323055474832130602632680505004094931762⟩,
  ⟨8,289035639010580016967229883765663473893428538131537645710132426611791974464576069938667737782304246755529937121189820192773118355201594924094213386639394414898,70437463654476,[2,3,6,36,46],[(2,70368744177756),(7,103079215180),(11,70574902607884),(27,70437530763332),(50,70437463662664)],1294077440024015347860940417478141498083899026548580538373860124327936,19,296545795025669723285846290513472017063208707958224928763658546530168113041259157960528238034436796350315043100491444828608794293062096494006613978558079714098⟩,
  ⟨9,234088814815786382156613402143616193571481833112435121746368749427487770499367986196126072275238052553785546859351854349234855201485126435727729016673801548595,240518168588,[2,3,35,36,37],[(7,103079215180),(10,144115359874547724),(11,70574902607884),(37,240652386308),(51,240518176776)],431359146675219394360249430709527298377732911326722279660253612277760,70,296531601400262551171505579139398280638292680801354784834761622284367611960303887488417859525295808665932669976942711002534512912333326311687162987256043885635⟩,
  ⟨10,179372444083943445866823523321036466054255223710111329700315906670545126769523477145162290043773368182711259353159823560467902140578045787558375908047950328867,144115359874547724,[2,3,35,37,57],[(6,144115222435594284),(9,240518168588),(13,144256063003164684),(38,144115360008765444),(52,144115359874555912)],441358715769398291952402862581198738649293671465374318592,67,296531601618488590888135292326020341072840367274299914675901340692222345069536484550156957344795692967717458235093253899174121891497752309399711981876162155587⟩,
  ⟨11,230456087971229161040632004936780837882188229267271947872548196790022311333963005785778490719581450409123263428167464248732028406712650558006289764703492317763,70574902607884,[2,3,36,37,46],[(8,70437463654476),(9,240518168588),(12,211243671486476),(39,70575036825604),(53,70574902616072)],862718293349212792287806151726164493673894706773124580285013759754240,69,296760375612978955078825384687537144410879976188846483264280493362906198679557991105545719397750823258273058310910299191539085605408138318399677779937231983683⟩,
  ⟨12,172320726434571387823490339305785212554845504404953224914896058747327777872677023230898184528301016365335519896353012514713287822662029505622632627047468503603,211243671486476,[2,3,37,46,47],[(3,211106232533020),(11,70574902607884),(13,144256063003164684),(40,211243805704196),(54,211243671494664)],431359146674410236714672266480652439515740186184325468833794489384960,68,296774624899668929394227031319929491079047622226983871031920044267718641315549290932177725662821720594568909251149825337530303294292809062357352294568220251203⟩,
  ⟨13,121035913258670792946830332122834022133962440838726669794096654443858417271826883588486132578091293158122465597182275663729726622091066781049711768416300376867,144256063003164684,[2,3,37,47,57],[(4,144255925564211228),(10,144115359874547724),(12,211243671486476),(41,144256063137382404),(55,144256063003172872)],24519928653900217020705931454234563790824414950241402880,66,296545850904326120545488257920006873821713078726416968936922851587190192055318260859291507748460921666867492738947203164209565040718580433458172714923433743427⟩,
  ⟨14,293126807494248823354633207494062061194163782809172907077517303554061550849214740458521286967173788066967517853958740754042325153046201626693896882893315322401,16777332,[2,4,5,6,24],[(0,124),(15,144115188092633140),(16,70368760954964),(19,50331748),(57,16793712)],431359146675219394360250927647048750391996180378738974835037108703232,2,289264465392962564033818340862115110375351009827384018853946626108572285573187758634016167968378675881112191368490310198945011505695133438404999304050733355041⟩,
  ⟨15,238195070574140576205778311716062490979692812757368846528327397984319066623164768068513485432975855491860811246814640067200247710261024529096181392280095175442,144115188092633140,[2,4,5,24,57],[(1,144115188075855932),(14,16777332),(18,144255925580988436),(21,144115188126187556),(59,144115188092649520)],441358715770538417550678063702528323195470502318294700032,44,289264521258828937981881983002858288245057137121012143928742440691995636463351638088420104962768421440523978834429505735686509055160479161383082863331315491122⟩,
  ⟨16,289479828294198140276610131993959103702995594539484226513203948153311361993873630662750530008002413115316273403187690454068415458469791481783382376746201588018,70368760954964,[2,4,6,24,46],[(2,70368744177756),(14,16777332),(17,211106249310228),(24,70368828063812),(61,70368760971344)],862718293349212792287807269551017570322842834618052984976482902216704,16,289479828294198140276610131993959103702995594539484226513203948153311361993873630662750530008002413115316273403187690454068415458469791481783382376746201588018⟩,
  ⟨17,230900277254847089240727858226324592074412033244569736815392457149780941210670172345008349889486834959866991999699295750253546865828790112727164629386589770291,211106249310228,[2,4,24,46,47],[(3,211106232533020),(16,70368760954964),(18,144255925580988436),(31,211106383527940),(64,211106249326608)],431359146674410236714673027493582339351546374561783355181333055803392,61,289479883954628290515996814033504322933456641501195490590284094792243022473702403443768229746270106336441811120519470097737136398005871700447236563046760723011⟩,
  ⟨18,179615467365123784372915262303118446940538646590228189149872582850069856353178772747638124127714928307062299587575256048844613569508260798223689339276347122467,144255925580988436,[2,4,24,47,57],[(4,144255925564211228),(15,144115188092633140),(17,211106249310228),(32,144255925715206148),(65,144255925581004816)],24519928654661229950605767260422941248710762488807821312,60,289479884172854330232625797554018367060959638489328419603888244223947516840511715171561941650922355255140697015028375616701211183382902236541609190568122135107⟩,
  ⟨19,296545795025669723285846290513472017063208707958224928763658546530168113041259157960528238034436796350315043100491444828608794293062096494006613978558079714098,50331748,[2,5,6,24,25],[(14,16777332),(20,34393292900),(21,144115188126187556),(23,117440580),(69,50364512)],431359146675636233147366448022725645529148504268079582217584475447296,8,289035639010580016967229883765663473893428538131537645710132426611791974464576069938667737782304246755529937121189820192773118355201594924094213386639394414898⟩,
  ⟨20,296531545739832400932119669365304458066622638781294798216463455463524736839859148767906769235801472170034452376845790428323055474832130602632680505004094931762,34393292900,[2,5,6,25,35],[(5,34359738476),(19,50331748),(22,144115222469148708),(25,34460401732),(70,34393325664)],431359146676053071934481589285734165991855264075345184087738174017536,7,292668365855137433192495675910557537818012579359225977119492671205457460245148389551150633087549587214009725589319834806205895357017692415977743592942514483762⟩,
  ⟨21,238180768913197753803556428880357402313883898497994547306828617027349395929222429815047956001840731133221428598131909326669637556956645534386647567296544064547,144115188126187556,[2,5,24,25,57],[(15,144115188092633140),(19,50331748),(22,144115222469148708),(29,144115188260405252),(74,144115188126220320)],858197502886058793227573200854852212536077884865661444096,50,289035694671010362315900960743957861055984672665598817921022499873558155809570264347833841628704439909618127428813244893075125193439535603201643622589437063747⟩,
  ⟨22,237951994700481349896236623332218549779248072544729031059869984641905522213758018993413622339653951252900689453796577816767428575306501464660194969516354257955,144115222469148708,[2,5,25,35,57],[(6,144115222435594284),(20,34393292900),(21,144115188126187556),(34,144115222603366404),(75,144115222469181472)],1275036290001200056236093663561612019801679755019360014336,49,292668421515567583431882357950795924430526441369060875521260387069949851762400219147135447491043611743253388234203614660539049517293782097740862140898299167555⟩,
  ⟨23,292897977620249616433297887309609182901070691768814159681920102538642288501340129151946609986711912274576893488516946551128971571996902046215738285417559311171,117440580,[2,6,24,25,26],[(19,50331748),(24,70368828063812),(25,34460401732),(28,251658244),(85,117506112)],862718293350021949933384812892560803879484305283681807067267734843392,27,289035583144713642206409362391067479073339994777189533732382577356123836305088326229843295212670645683952885612939983377062486051882661311945462508690095747651⟩,
  ⟨24,289264409514306178155563698169015525198957265325600510483366620204680248058313627072228938271044275433568119672035718589026228005256270631419012451266726212163,70368828063812,[2,6,24,26,46],[(16,70368760954964),(23,117440580),(27,70437530763332),(30,70368962281476),(86,70368828129344)],1294077440024015347860941154796529624155131922785387732503876197228544,24,289264409514306178155563698169015525198957265325600510483366620204680248058313627072228938271044275433568119672035718589026228005256270631419012451266726212163⟩,
  ⟨25,296316127164477598937062216560982321215491307236110131831688293716237102343224613778120844854047222385510239965272668885502457829567577770082067642741032309827,34460401732,[2,6,25,26,35],[(20,34393292900),(23,117440580),(26,103146324036),(33,34594619396),(87,34460467264)],862718293350438788720499954155569324342191065090947408937421433413632,26,292668309990070226060556093974618377279757921227704224706634978885317344913583748528438976928014916718226811205972496576574071029818379592660257112864711852867⟩,
  ⟨26,292668309990070226060556093974618377279757921227704224706634978885317344913583748528438976928014916718226811205972496576574071029818379592660257112864711852867,103146324036,[2,6,26,35,36],[(7,103079215180),(25,34460401732),(27,70437530763332),(35,103280541700),(88,103146389568)],1294077440024824505506517962213481306548704443560191675943973885775872,25,296316127164477598937062216560982321215491307236110131831688293716237102343224613778120844854047222385510239965272668885502457829567577770082067642741032309827⟩,
  ⟨27,289035583144713642206409362391067479073339994777189533732382577356123836305088326229843295212670645683952885612939983377062486051882661311945462508690095747651,70437530763332,[2,6,26,36,46],[(8,70437463654476),(24,70368828063812),(26,103146324036),(36,70437664980996),(89,70437530828864)],1725436586698817903434074683230118501844866239006593976568734033252352,23,292897977620249616433297887309609182901070691768814159681920102538642288501340129151946609986711912274576893488516946551128971571996902046215738285417559311171⟩,
  ⟨28,234318370920468414345073579857639808453068471586884837021020567183249473406194004160211001355002483009900087577799367710178344392700379139453400313850411369540,251658244,[2,24,25,26,27],[(23,117440580),(29,144115188260405252),(30,70368962281476),(33,34594619396),(118,251789312)],431359146675219394360250547140583799447850697141831689318983499202560,89,289035583144713641393454010746277835484382382851885808277018477703789763454971811052019799704929013469140233553357896854096449449336671149204654356480345326420⟩,
  ⟨29,179601162213416550902378317344384904691833311672754440631756244698860570448894222929798244287130756461680885076243493849265692765220482833827953947508501333300,144115188260405252,[2,24,25,27,57],[(21,144115188126187556),(28,251658244),(32,144255925715206148),(34,144115222603366404),(119,144115188260536320)],441358715770157911085727444075598745008830191901785337856,80,289035639010580016154274529281613863645198937729362372018777538283869440206656138339060906792382911187755771270575574739983950608419692950873565345691807859540⟩,
  ⟨30,230684802814524976067339390717048858436203210001970071548893168411112801798297555028716081185662519059800723657509433141472941847919714864117242301734387462996,70368962281476,[2,24,26,27,46],[(24,70368828063812),(28,251658244),(31,211106383527940),(36,70437664980996),(120,70368962412544)],862718293349212792287806889044552619723498314643537614755591961587712,86,289264409514306177342608346524225892847951122834522967210562757109453852788400432989061421006537466421646030131651180441659036628517235438492077865911740351316⟩,
  ⟨31,172320670555065886339548974435991376570063787993112003528348152339532460010036654711472349694961606198960423340807100124312814283037748519375757812632919417668,211106383527940,[2,24,27,46,47],[(17,211106249310228),(30,70368962281476),(32,144255925715206148),(40,211243805704196),(121,211106383659008)],431359146674410236714672646987117389076720408245988630166079215312896,82,289479828294198139463654777332458633031033843287824162160390509126958035810921796059625664710002358760148613071782284301399872331243449716353646890276793697108⟩,
  ⟨32,121035860665342581471736375496120604232743203685356680627871379312471686061259988857231332731510556726931446728981698181531472334257689556335363202754240721972,144255925715206148,[2,24,27,47,57],[(18,144255925580988436),(29,144115188260405252),(31,211106383527940),(41,144256063137382404),(122,144255925715337216)],24519928654280723485655492434456625453985747234967330816,77,289264465392962563220862986200614639703389255948923697977673424510267038836989689163812336828535921022171217982787391110261657024226497688781105672331325686612⟩,
  ⟨33,237736520464696396848837909109012946767489087054180809170788758360844287248078488786385236222443105412526511169906862293969234635024354905658178889858109756740,34594619396,[2,25,26,27,35],[(25,34460401732),(28,251658244),(34,144115222603366404),(35,103280541700),(123,34594750464)],431359146675636233147365688403592319910557456949097291189137197772800,88,292668309990070225247600742329828733690800309302400499251270879232983280020646604457562019589278827458335557353840772076931644019447026205624071399680886854740⟩,
  ⟨34,179372388000700146995058511796246052157207572796608918495183511072604127624140656849725399122898211956120462532240526265399854516075973970907028397068618323252,144115222603366404,[2,25,27,35,57],[(22,144115222469148708),(29,144115188260405252),(33,34594619396),(38,144115360008765444),(124,144115222603497472)],858197502885299174094247906782358552274432062055483908096,79,292668365855137432379540321249057067146050828097946282347637611277668821537747430476203997653751134040118695755308210001294135982461265614238071322263969748052⟩,
  ⟨35,234088703290289023972331786522649002831755740457438305540580658042046174176049184332921885680791622832672486773989767509004177299281132694962964219995492799572,103280541700,[2,26,27,35,36],[(26,103146324036),(33,34594619396),(36,70437664980996),(37,240652386308),(125,103280672768)],862718293350021949933383696461504302117070835418341558195689650135040,87,296316127164477598124106864927283366982494705271184554933197376573988435409001811849516402127438126457599572999266144382605943404604537095022107923565008807252⟩,
  ⟨36,230455976444932440118185054939100812310585979019099008316095893165996803135403877431904900974821385969413907613590765033384737456196085934943229744527842820948,70437664980996,[2,26,27,36,46],[(27,70437530763332),(30,70368962281476),(35,103280541700),(39,70575036825604),(126,70437665112064)],1294077440024015347860940417478141497413232630864743858820449797611520,85,292897977620249615620342535675910229329130058748051268440010427852129661786708001613716125000398552792158009362258354357228462323150909099734700647179914466388⟩,
  ⟨37,175509208116005179255434518341499143149131232686853188170280151763848521370154784904933521926299395304317600860180939330252779174960816682963123061622117254212,240652386308,[2,27,35,36,37],[(9,240518168588),(35,103280541700),(38,144115360008765444),(39,70575036825604),(127,240652517376)],431359146675219394360249430709527298031585069301606245312480385699840,84,296531545739832400119164314703806695079909091780320183565513691376601575596787861440439237816249832603260685920014619458013715052577714077861734813767178806612⟩,
  ⟨38,120792837384162242965644636502211465464487418331033850479310571061331596517536029472949226936771873578620395406592391272649356981664581287563680093911198680372,144115360008765444,[2,27,35,37,57],[(10,144115359874547724),(34,144115222603366404),(37,240652386308),(41,144256063137382404),(128,144115360008896512)],441358715769398291952402516433356713533259323692147740672,78,296316183043133788893077064238192968555357450278880070517741085540352781359933396206042339279913486121089187145053224171625595871458219572036384446257972012372⟩,
  ⟨39,171876481271447958139453120957210219350857312970410199466200505700479377500433386861689540082133736832504947028962421251565335214811162002506019583896620118868,70575036825604,[2,27,36,37,46],[(11,70574902607884),(36,70437664980996),(37,240652386308),(40,211243805704196),(129,70575036956672)],862718293349212792287806151726164493327746864748008545937240533176320,83,296545795025669722472890935851974264653400748524433804749073677439269574263156105341657048415285381466350614229966206400772508581892218055640016695471177622868⟩,
  ⟨40,113741119734790184922311452486957335049501523863973107496000153646144883692891175724615614565100394925528945786918273984206870526035016270894001376342140199748,211243805704196,[2,27,37,46,47],[(12,211243671486476),(31,211106383527940),(39,70575036825604),(41,144256063137382404),(130,211243805835264)],431359146674410236714672266480652439169592344159209434486021262807040,81,293126807494248822541677852832561421291874018791243775217147249353485266185842691597720608491268410904180326422179322019123557177123838209531166931349876921428⟩,
  ⟨41,62456306558889590045651445304006144628618460297746551801826061161021371095586992478440022343312283031957806150680772386664400741941410182200734053261423817780,144256063137382404,[2,27,37,47,57],[(13,144256063003164684),(32,144255925715206148),(38,144115360008765444),(40,211243805704196),(131,144256063137513472)],24519928653900217020705585306392538674790067177014824960,76,292898033498906013692939079432638804034539475290676873122150056672956816925611661524834390576907611976478909908509487823904517237375335654403839365837673092180⟩,
  ⟨42,292898089364772388456935207827048288053957548096536774237374012286848904963719865381463511313281107071314021757137536813791937165638966550260341358451316961825,8312,[3,4,5,6,13],[(0,124),(43,144115188075864120),(44,70368744185944),(47,34359746664),(56,24688)],431359146675219394360250547140583801155534511975187720657556696203520,1,238180824779067456806774592729300864087997091490748338019243383566349748618753028192170360288683290154244753142338403256353674464432064781173119373956563935745⟩,
  ⟨43,238180877371543222858696365034305205553836217580752925409515168686830714187238085887240641243741367057106277116092189585356392837031190980993170807202478437138,144115188075864120,[3,4,5,13,57],[(1,144115188075855932),(42,8312),(46,144255925564219416),(48,144115222435602472),(58,144115188075880496)],441358715770157911085728827240859919644216324837882200320,43,238180877371543222858696365034305205553836217580752925409515168686830714187238085887240641243741367057106277116092189585356392837031190980993170807202478437138⟩,
  ⟨44,289264521258828937981881983002858288245057137121012143928742440691995636463351638088420104962768421440523978834429505735686509055160479161383082863331315491122,70368744185944,[3,4,6,13,46],[(2,70368744177756),(42,8312),(45,211106232541208),(50,70437463662664),(60,70368744202320)],862718293349212792287806889044552621086381166214501730799002489716992,15,238195070574140576205778311716062490979692812757368846528327397984319066623164768068513485432975855491860811246814640067200247710261024529096181392280095175442⟩,
  ⟨45,230900333134352589911713871451328784470246894478799005008757999019410342251674689960499059340785147732966395797063761348415437318320552875904221912273986392627,211106232541208,[3,4,13,46,47],[(3,211106232533020),(44,70368744185944),(46,144255925564219416),(54,211243671494664),(62,211106232557584)],431359146674410236714672646987117390115084706158232101003852643303680,59,238195074064904986461138022194344623937602259222946866561903127504119094174331235164291788570809597499602887447671414482612079478583337506657672071998169367587⟩,
  ⟨46,179615519958451995038042628119345756786749220094547953905308383980169533472591287189657622057130455577139735855158280444685642063510028723929194209627573658403,144255925564219416,[3,4,13,47,57],[(4,144255925564211228),(43,144115188075864120),(45,211106232541208),(55,144256063003172872),(63,144255925564235792)],24519928654280723485656530798754537697456585008395321600,58,238195126440007157409822520820178739999003420084608614085009228266963451590421455074512448838512797575131598642953837592396127091952998369560911296428970820643⟩,
  ⟨47,296316238908200996028006182303075082505228860107949936567035109390763199594257458388954787263703934114931773515157759629903252131687035190063597317986893185842,34359746664,[3,5,6,13,35],[(5,34359738476),(42,8312),(48,144115222435602472),(49,103079223368),(67,34359779424)],431359146675636233147365688403592321272172657919831952851952377856256,6,237952050566347723847278126743111656162538918969164367306443667493836883452627584370160217572497778944530987836381097245658692041564726983024775120786482672402⟩,
  ⟨48,237952050783724647955046283212219320087348829042147009801196510800030065526416003416958094042570586949611002784105171435928748038985387623850749765882795476003,144115222435602472,[3,5,13,35,57],[(6,144115222435594284),(43,144115188075864120),(47,34359746664),(52,144115359874555912),(72,144115222435635232)],858197502885299174094248943879005864288448519233563853056,48,237952050783724647955046283212219320087348829042147009801196510800030065526416003416958094042570586949611002784105171435928748038985387623850749765882795476003⟩,
  ⟨49,292668421515567583431882357950795924430526441369060875521260387069949851762400219147135447491043611743253388234203614660539049517293782097740862140898299167555,103079223368,[3,6,13,35,36],[(7,103079215180),(47,34359746664),(50,70437463662664),(51,240518176776),(79,103079288896)],862718293350021949933383696461504303133885073126684304563342161346816,22,237951994700481349896236623332218549779248072544729031059869984641905522213758018993413622339653951252900689453796577816767428575306501464660194969516354257955⟩,
  ⟨50,289035694671010362315900960743957861055984672665598817921022499873558155809570264347833841628704439909618127428813244893075125193439535603201643622589437063747,70437463662664,[3,6,13,36,46],[(8,70437463654476),(44,70368744185944),(49,103079223368),(53,70574902616072),(80,70437463728192)],1294077440024015347860940417478141498430046868573086605188102308823296,21,238180768913197753803556428880357402313883898497994547306828617027349395929222429815047956001840731133221428598131909326669637556956645534386647567296544064547⟩,
  ⟨51,234088814815786381343658050498826549982524221187131552860360851714557036667254094155399838859327574749338589355473030971452341207190434640083280052880487498820,240518176776,[3,13,35,36,37],[(9,240518168588),(49,103079223368),(52,144115359874555912),(53,70574902616072),(99,240518307840)],431359146675219394360249430709527298723880753351228346474495796773120,75,237951994700481349083281271687428906190290460619425462173862086928972624028855185863230891564144939985967668554476766843912947681353908436681969620721178268980⟩,
  ⟨52,179372444083943445056856932510550357999236431282843235459718915282045889612144402954910843633429198160282337895492948365507120439073878078355820122189067404596,144115359874555912,[3,13,35,37,57],[(10,144115359874547724),(48,144115222435602472),(51,240518176776),(55,144256063003172872),(100,144115359874686976)],441358715769398291952403208729040763155360485707558813952,72,237952050566347723034322775098275812694023734775285374747103226552780614772362321804437422399236393828123128377792640573330121739569690587983330584438857028916⟩,
  ⟨53,230456087971229160227676653291991194293230617341968378986549048079990709549554192304320984543315664430473408144763415855090201644419646158280277448482353328980,70574902616072,[3,13,36,37,46],[(11,70574902607884),(50,70437463662664),(51,240518176776),(54,211243671494664),(101,70574902747136)],862718293349212792287806151726164494020042548797630647099255944249600,74,238180768913197752990601077235567769962877756006917160603380958007511210748109289480358751436599954578308056888535698885250701806816450745439252383605838861620⟩,
  ⟨54,172320726434571387010732733221424242515547967888133186262525078578461948002879153485009721699581190363140589014200766201448401425170810798320902532428895298372,211243671494664,[3,13,37,46,47],[(12,211243671486476),(45,211106232541208),(53,70574902616072),(55,144256063003172872),(102,211243671625728)],431359146674410236714672266480652439861888028208831535648036673880320,73,238195070574140575392822960071226647511177628727023571092694512368184592068476249838790031805008311431492404875362209678244343700737465556596638852809449821492⟩,
  ⟨55,121035913258670792137049857630638718342087085652034405501975240921071157240028805806344826698557657077794640626033735745334201498867222078703268450505244947508,144256063003172872,[3,13,37,47,57],[(13,144256063003164684),(46,144255925564219416),(52,144115359874555912),(54,211243671494664),(103,144256063003303936)],24519928653900217020706277602076588296891229192425898240,71,238180824779067455993819241084465020619481907296228193334805686154047059128860192922207198762688275284538186022316132884634808620895205893196347249774771328308⟩,
  ⟨56,293126863372905208419944900239889142818232925544338100779522037347616022429637978832093898909302799695656816039778411853532947513764659397829032754532530275122,24688,[4,5,6,13,14],[(42,8312),(57,16793712),(58,144115188075880496),(60,70368744202320),(66,57440)],431359146675219394360250927647048751084212636265551663754279640896000,4,179615519957599550427814166034667640309638207987026584183756028293832320458351688475418900887458957415668808601451473130751314171252942972544691465402461458962⟩,
  ⟨57,293127701347261703112120638386476648431527873347218353814282713992100603856707116657644030525252292164805530072317556543754556604672440518345375295764868383538,16793712,[4,5,6,14,24],[(14,16777332),(56,24688),(59,144115188092649520),(61,70368760971344),(68,16826464)],431359146675219394360251308153513700666822146693923804374353945043200,3,230900333120713463191768634810277249050825793498405445339900454866249518156405217562740388267885922999769859563797218888861954288887751783606957135836528836898⟩,
  ⟨58,238195126440007157409822520820178739999003420084608614085009228266963451590421455074512448838512797575131598642953837592396127091952998369560911296428970820643,144115188075880496,[4,5,13,14,57],[(43,144115188075864120),(56,24688),(59,144115188092649520),(63,144255925564235792),(71,144115188075913248)],441358715770538417550678755918984210008159421560826892800,46,179615519958451995038042628119345756786749220094547953905308383980169533472591287189657622057130455577139735855158280444685642063510028723929194209627573658403⟩,
  ⟨59,238195074064904986461138022194344623937602259222946866561903127504119094174331235164291788570809597499602887447671414482612079478583337506657672071998169367587,144115188092649520,[4,5,14,24,57],[(15,144115188092633140),(57,16793712),(58,144115188075880496),(65,144255925581004816),(73,144115188092682272)],441358715770918924015628338528494638380300041635131040000,45,230900333134352589911713871451328784470246894478799005008757999019410342251674689960499059340785147732966395797063761348415437318320552875904221912273986392627⟩,
  ⟨60,289479884172854330232625797554018367060959638489328419603888244223947516840511715171561941650922355255140697015028375616701211183382902236541609190568122135107,70368744202320,[4,6,13,14,46],[(44,70368744185944),(56,24688),(61,70368760971344),(62,211106232557584),(77,70368744267840)],862718293349212792287807269551017571015059290504865673895725434409472,18,179615467365123784372915262303118446940538646590228189149872582850069856353178772747638124127714928307062299587575256048844613569508260798223689339276347122467⟩,
  ⟨61,289479883954628290515996814033504322933456641501195490590284094792243022473702403443768229746270106336441811120519470097737136398005871700447236563046760723011,70368760971344,[4,6,14,24,46],[(16,70368760954964),(57,16793712),(60,70368744202320),(64,211106249326608),(82,70368761036864)],862718293349212792287807650057482520597668800933237814515799738556672,17,230900277254847089240727858226324592074412033244569736815392457149780941210670172345008349889486834959866991999699295750253546865828790112727164629386589770291⟩,
  ⟨62,230900333120713462378813280326273838682143005990313879675090130084507959379640128943049363948905033718888721005057190426335595922684609428967792093701959000900,211106232557584,[4,13,14,46,47],[(45,211106232541208),(60,70368744202320),(63,144255925564235792),(64,211106249326608),(93,211106232688640)],431359146674410236714673027493582340043762830448596044100575587996160,65,179615467365123783562948671492632338885519854162960094909275591461570619195799696588892780272455616389032507179470862556006755054726217511223025384907225576500⟩,
  ⟨63,179615519957599549614870443809466726430919256300256494039203857612561748325836766935635471785316864628253828944534839215651440621438081390205059199926814258228,144255925564235792,[4,13,14,47,57],[(46,144255925564219416),(58,144115188075880496),(62,211106232557584),(65,144255925581004816),(94,144255925564366848)],24519928654661229950606459476878828061399681731340014080,63,179615519957599549614870443809466726430919256300256494039203857612561748325836766935635471785316864628253828944534839215651440621438081390205059199926814258228⟩,
  ⟨64,230900277254847088427772506581534948485454421319266167929384559436850207378556278335788219028661215259819163545382954074593956058256222739284607497083037098820,211106249326608,[4,14,24,46,47],[(17,211106249310228),(61,70368760971344),(62,211106232557584),(65,144255925581004816),(107,211106249457664)],431359146674410236714673408000047289626372340876968184720649892143360,64,230900277254847088427772506581534948485454421319266167929384559436850207378556278335788219028661215259819163545382954074593956058256222739284607497083037098820⟩,
  ⟨65,179615467365123783562948671492632338885519854162960094909275591461570619195799696588892780272455616389032507179470862556006755054726217511223025384907225576500,144255925581004816,[4,14,24,47,57],[(18,144255925580988436),(59,144115188092649520),(63,144255925564235792),(64,211106249326608),(108,144255925581135872)],24519928655041736415556042086389256433540301805644161280,62,230900333120713462378813280326273838682143005990313879675090130084507959379640128943049363948905033718888721005057190426335595922684609428967792093701959000900⟩,
  ⟨66,296545850904326120545488257920006873821713078726416968936922851587190192055318260859291507748460921666867492738947203164209565040718580433458172714923433743427,57440,[5,6,13,14,15],[(56,24688),(67,34359779424),(68,16826464),(71,144115188075913248),(76,122944)],431359146675636233147366448022725646566165923416970591782736614204160,13,121035913258670792946830332122834022133962440838726669794096654443858417271826883588486132578091293158122465597182275663729726622091066781049711768416300376867⟩,
  ⟨67,296531601618488590888135292326020341072840367274299914675901340692222345069536484550156957344795692967717458235093253899174121891497752309399711981876162155587,34359779424,[5,6,13,15,35],[(47,34359746664),(66,57440),(70,34393325664),(72,144115222435635232),(78,34359844928)],431359146676053071934481589285734166682804069361929571547889965076992,10,179372444083943445866823523321036466054255223710111329700315906670545126769523477145162290043773368182711259353159823560467902140578045787558375908047950328867⟩,
  ⟨68,296774624899668929394227031319929491079047622226983871031920044267718641315549290932177725662821720594568909251149825337530303294292809062357352294568220251203,16826464,[5,6,14,15,24],[(57,16793712),(66,57440),(69,50364512),(73,144115188092682272),(81,16891968)],431359146675636233147366828529190596148775433845342732402810918351360,12,172320726434571387823490339305785212554845504404953224914896058747327777872677023230898184528301016365335519896353012514713287822662029505622632627047468503603⟩,
  ⟨69,296760375612978955078825384687537144410879976188846483264280493362906198679557991105545719397750823258273058310910299191539085605408138318399677779937231983683,50364512,[5,6,15,24,25],[(19,50331748),(68,16826464),(70,34393325664),(74,144115188126220320),(83,50430016)],431359146676053071934482348904867491285927757734998087356115954315520,11,230456087971229161040632004936780837882188229267271947872548196790022311333963005785778490719581450409123263428167464248732028406712650558006289764703492317763⟩,
  ⟨70,296531601400262551171505579139398280638292680801354784834761622284367611960303887488417859525295808665932669976942711002534512912333326311687162987256043885635,34393325664,[5,6,15,25,35],[(20,34393292900),(67,34359779424),(69,50364512),(75,144115222469181472),(84,34393391168)],431359146676469910721597490167876011748634517542263689226269652885760,9,234088814815786382156613402143616193571481833112435121746368749427487770499367986196126072275238052553785546859351854349234855201485126435727729016673801548595⟩,
  ⟨71,238180824779067455993819241084465020619481907296228193334805686154047059128860192922207198762688275284538186022316132884634808620895205893196347249774771328308,144115188075913248,[5,13,14,15,57],[(58,144115188075880496),(66,57440),(72,144115222435635232),(73,144115188092682272),(91,144115188076044288)],858197502886058793227574237872271361427087450017800200960,55,121035913258670792137049857630638718342087085652034405501975240921071157240028805806344826698557657077794640626033735745334201498867222078703268450505244947508⟩,
  ⟨72,237952050566347723034322775098275812694023734775285374747103226552780614772362321804437422399236393828123128377792640573330121739569690587983330584438857028916,144115222435635232,[5,13,15,35,57],[(48,144115222435602472),(67,34359779424),(71,144115188075913248),(75,144115222469181472),(96,144115222435766272)],1275036290001200056236094354510417306386067215171151073792,52,179372444083943445056856932510550357999236431282843235459718915282045889612144402954910843633429198160282337895492948365507120439073878078355820122189067404596⟩,
  ⟨73,238195070574140575392822960071226647511177628727023571092694512368184592068476249838790031805008311431492404875362209678244343700737465556596638852809449821492,144115188092682272,[5,14,15,24,57],[(59,144115188092649520),(68,16826464),(71,144115188075913248),(74,144115188126220320),(105,144115188092813312)],858197502886439299692523820481781789799228070092104348160,54,172320726434571387010732733221424242515547967888133186262525078578461948002879153485009721699581190363140589014200766201448401425170810798320902532428895298372⟩,
  ⟨74,238180768913197752990601077235567769962877756006917160603380958007511210748109289480358751436599954578308056888535698885250701806816450745439252383605838861620,144115188126220320,[5,15,24,25,57],[(21,144115188126187556),(69,50364512),(73,144115188092682272),(75,144115222469181472),(111,144115188126351360)],1275036290001959675369418957634105679454583023397140312320,53,230456087971229160227676653291991194293230617341968378986549048079990709549554192304320984543315664430473408144763415855090201644419646158280277448482353328980⟩,
  ⟨75,237951994700481349083281271687428906190290460619425462173862086928972624028855185863230891564144939985967668554476766843912947681353908436681969620721178268980,144115222469181472,[5,15,25,35,57],[(22,144115222469148708),(70,34393325664),(72,144115222435635232),(74,144115188126220320),(112,144115222469312512)],1691875077117100938377939420340865486720184893550838882560,51,234088814815786381343658050498826549982524221187131552860360851714557036667254094155399838859327574749338589355473030971452341207190434640083280052880487498820⟩,
  ⟨76,292898033498906013692939079432638804034539475290676873122150056672956816925611661524834390576907611976478909908509487823904517237375335654403839365837673092180,122944,[6,13,14,15,16],[(66,57440),(77,70368744267840),(78,34359844928),(81,16891968),(90,253952)],862718293350021949933384812892560805241020278090998313932877622031360,41,62456306558889590045651445304006144628618460297746551801826061161021371095586992478440022343312283031957806150680772386664400741941410182200734053261423817780⟩,
  ⟨77,289264465392962563220862986200614639703389255948923697977673424510267038836989689163812336828535921022171217982787391110261657024226497688781105672331325686612,70368744267840,[6,13,14,16,46],[(60,70368744202320),(76,122944),(80,70437463728192),(82,70368761036864),(92,70368744398848)],1294077440024015347860941154796529625171866932330625918723576477852416,32,121035860665342581471736375496120604232743203685356680627871379312471686061259988857231332731510556726931446728981698181531472334257689556335363202754240721972⟩,
  ⟨78,296316183043133788893077064238192968555357450278880070517741085540352781359933396206042339279913486121089187145053224171625595871458219572036384446257972012372,34359844928,[6,13,15,16,35],[(67,34359779424),(76,122944),(79,103079288896),(84,34393391168),(95,34359975936)],862718293350438788720499954155569325357658424035957293698030972904192,38,120792837384162242965644636502211465464487418331033850479310571061331596517536029472949226936771873578620395406592391272649356981664581287563680093911198680372⟩,
  ⟨79,292668365855137432379540321249057067146050828097946282347637611277668821537747430476203997653751134040118695755308210001294135982461265614238071322263969748052,103079288896,[6,13,16,35,36],[(49,103079223368),(78,34359844928),(80,70437463728192),(88,103146389568),(97,103079419904)],1294077440024824505506517962213481307219370839243123240058673818702336,34,179372388000700146995058511796246052157207572796608918495183511072604127624140656849725399122898211956120462532240526265399854516075973970907028397068618323252⟩,
  ⟨80,289035639010580016154274529281613863645198937729362372018777538283869440206656138339060906792382911187755771270575574739983950608419692950873565345691807859540,70437463728192,[6,13,16,36,46],[(50,70437463662664),(77,70368744267840),(79,103079288896),(89,70437530828864),(98,70437463859200)],1725436586698817903434074683230118502515532634689525540683433966178816,29,179601162213416550902378317344384904691833311672754440631756244698860570448894222929798244287130756461680885076243493849265692765220482833827953947508501333300⟩,
  ⟨81,293126807494248822541677852832561421291874018791243775217147249353485266185842691597720608491268410904180326422179322019123557177123838209531166931349876921428,16891968,[6,14,15,16,24],[(68,16826464),(76,122944),(82,70368761036864),(83,50430016),(104,17022976)],862718293350021949933385193399025754823629788519370454552951926178560,40,113741119734790184922311452486957335049501523863973107496000153646144883692891175724615614565100394925528945786918273984206870526035016270894001376342140199748⟩,
  ⟨82,289479828294198139463654777332458633031033843287824162160390509126958035810921796059625664710002358760148613071782284301399872331243449716353646890276793697108,70368761036864,[6,14,16,24,46],[(61,70368760971344),(77,70368744267840),(81,16891968),(86,70368828129344),(106,70368761167872)],1294077440024015347860941535302994574754476442758998059343650781999616,31,172320670555065886339548974435991376570063787993112003528348152339532460010036654711472349694961606198960423340807100124312814283037748519375757812632919417668⟩,
  ⟨83,296545795025669722472890935851974264653400748524433804749073677439269574263156105341657048415285381466350614229966206400772508581892218055640016695471177622868,50430016,[6,15,16,24,25],[(69,50364512),(81,16891968),(84,34393391168),(85,117506112),(109,50561024)],862718293350438788720500713774702649960782112409025809506256962142720,39,171876481271447958139453120957210219350857312970410199466200505700479377500433386861689540082133736832504947028962421251565335214811162002506019583896620118868⟩,
  ⟨84,296531545739832400119164314703806695079909091780320183565513691376601575596787861440439237816249832603260685920014619458013715052577714077861734813767178806612,34393391168,[6,15,16,25,35],[(70,34393325664),(78,34359844928),(83,50430016),(87,34460467264),(110,34393522176)],862718293350855627507615855037711170423488872216291411376410660712960,37,175509208116005179255434518341499143149131232686853188170280151763848521370154784904933521926299395304317600860180939330252779174960816682963123061622117254212⟩,
  ⟨85,292897977620249615620342535675910229329130058748051268440010427852129661786708001613716125000398552792158009362258354357228462323150909099734700647179914466388,117506112,[6,16,24,25,26],[(23,117440580),(83,50430016),(86,70368828129344),(87,34460467264),(113,117637120)],1294077440024824505506519078644537808311117913424941629005193283846400,36,230455976444932440118185054939100812310585979019099008316095893165996803135403877431904900974821385969413907613590765033384737456196085934943229744527842820948⟩,
  ⟨86,289264409514306177342608346524225892847951122834522967210562757109453852788400432989061421006537466421646030131651180441659036628517235438492077865911740351316,70368828129344,[6,16,24,26,46],[(24,70368828063812),(82,70368761036864),(85,117506112),(89,70437530828864),(114,70368828260352)],1725436586698817903434075420548506628586765530926647554441801746231552,30,230684802814524976067339390717048858436203210001970071548893168411112801798297555028716081185662519059800723657509433141472941847919714864117242301734387462996⟩,
  ⟨87,296316127164477598124106864927283366982494705271184554933197376573988435409001811849516402127438126457599572999266144382605943404604537095022107923565008807252,34460467264,[6,16,25,26,35],[(25,34460401732),(84,34393391168),(85,117506112),(88,103146389568),(115,34460598272)],1294077440025241344293634219907546328773824673232207230875346982416640,35,234088703290289023972331786522649002831755740457438305540580658042046174176049184332921885680791622832672486773989767509004177299281132694962964219995492799572⟩,
  ⟨88,292668309990070225247600742329828733690800309302400499251270879232983280020646604457562019589278827458335557353840772076931644019447026205624071399680886854740,103146389568,[6,16,26,35,36],[(26,103146324036),(79,103079288896),(87,34460467264),(89,70437530828864),(116,103146520576)],1725436586699627061079652227965458310980338051701451497881899434778880,33,237736520464696396848837909109012946767489087054180809170788758360844287248078488786385236222443105412526511169906862293969234635024354905658178889858109756740⟩,
  ⟨89,289035583144713641393454010746277835484382382851885808277018477703789763454971811052019799704929013469140233553357896854096449449336671149204654356480345326420,70437530828864,[6,16,26,36,46],[(27,70437530763332),(80,70437463728192),(86,70368828129344),(88,103146389568),(117,70437530959872)],2156795733373620459007208948982095506276499847147853798506659582255360,28,234318370920468414345073579857639808453068471586884837021020567183249473406194004160211001355002483009900087577799367710178344392700379139453400313850411369540⟩,
  ⟨90,234318426799124810791760192613810915247173627396120980100995004999001727521728654655475570233224659942240173950541739505386317639951494283381861913426348299605,253952,[13,14,15,16,17],[(76,122944),(91,144115188076044288),(92,70368744398848),(95,34359975936),(104,17022976)],431359146675219394360250547140583800809386669949128519957821404693760,131,3876699859108387144472558485178255841252612403190502211016174915376905968051893695375170313202019709177677090413852905190608003815032888190038344477577528645⟩,
  ⟨91,179601218079286253092640354265637131832116059401672143744145116224547789434281402042233699086069604207969472662875530203424423087975011572451750358866279552581,144115188076044288,[13,14,15,17,57],[(71,144115188075913248),(90,253952),(94,144255925564366848),(96,144115222435766272),(105,144115188092813312)],441358715770157911085728481093017893880163530281942397952,103,62456306558889589235870970811810829554721237757478355908925612202735114065226937989297343601477503338929416574185793137848509747753752209467826020093867017541⟩,
  ⟨92,230684858693181360319684099381786750916023408054367804956518372836311949433106684154364067188932664794789671334193920865733086716610205096883141734971952415845,70368744398848,[13,14,16,17,46],[(77,70368744267840),(90,253952),(93,211106232688640),(98,70437463859200),(106,70368761167872)],862718293349212792287806889044552620740233324188756124748520260514816,122,62456253965561378570557488677292715445377355790800631037061495202814257351958683171063437275157711544847951527272217994481555168998150603728486658390154757445⟩,
  ⟨93,172320726420932259477634393507445949894777158095757830084429560155006516848758763405779457734613980041276130974392484018867760033313584450886354777344831665237,211106232688640,[13,14,17,46,47],[(62,211106232557584),(92,70368744398848),(94,144255925564366848),(102,211243671625728),(107,211106249457664)],431359146674410236714672646987117389768936864132781642858549765808896,108,121035860665342580661769784673804450098154006268404045318466254298615065182740097617573273729629659643169279201874993401120198092630044181164922132653341361477⟩,
  ⟨94,121035913257818346713691556990638837643553408405700443875019866452088316410071944138794230043349660590320320007598821330585058012910615567054143281773477578053,144255925564366848,[13,14,17,47,57],[(63,144255925564235792),(91,144115188076044288),(93,211106232688640),(103,144256063003303936),(108,144255925581135872)],24519928654280723485656184650912512246998439705517826816,94,121035913257818346713691556990638837643553408405700443875019866452088316410071944138794230043349660590320320007598821330585058012910615567054143281773477578053⟩,
  ⟨95,237736576343352585991898177419365079767991602384324177496586033866397691956050389336683518936335846378543528302437248102524800258787678243352856212530872608341,34359975936,[13,15,16,17,35],[(78,34359844928),(90,253952),(96,144115222435766272),(97,103079419904),(110,34393522176)],431359146675636233147365688403592320926024815894087499722974755566592,128,62213230684381040064465749683383576677121570436477800888500684815687139347180301796830913075667153210761664553775833814499173835712840769257606824153277814341⟩,
  ⟨96,179372443866566520133143888279447923906657886880729325156442656623281345077783530924463922724408033316883983875401662316403066342250737483034958224153811183173,144115222435766272,[13,15,17,35,57],[(72,144115222435635232),(91,144115188076044288),(95,34359975936),(100,144115359874686976),(112,144115222469312512)],858197502885299174094248597731163838839143295435293270784,100,120792837384162242155678045691722469211870583388287185868909578119090335599084802007406465232008486241939361199031900691794921334630233111609356483816958744133⟩,
  ⟨97,234088759155356229478361434430229178358684980203390389326482559603713732133864425466755610686250291337796869120657234257782972705341284773454343897474065130853,103079419904,[13,16,17,35,36],[(79,103079288896),(95,34359975936),(98,70437463859200),(99,240518307840),(116,103146520576)],862718293350021949933383696461504302787737231101253446083617601364736,124,120792781300918944093879624977418163369841724902052868904374173909127092401139427464136291694741075999693362829761021189625237898031336361133737884587793933893⟩,
  ⟨98,230456032310798813253095642462785974857833089834806478997622486609914350802773133329612637154569963925042850955428111927979494919507601759875663951267209040997,70437463859200,[13,16,17,36,46],[(80,70437463728192),(92,70368744398848),(97,103079419904),(101,70574902747136),(117,70437530959872)],1294077440024015347860940417478141498083899026547655746708377748841216,119,121021555513635348001199430525557015904467463778198391040946907535905016435834621982293865883912716379161485195150341470253195467580841208045717623308417259077⟩,
  ⟨99,175509208116005178442479163679998661195158373292575503269700281785055594136372726641975097186542998332415538922211820928207831346542303810643825277618551608661,240518307840,[13,17,35,36,37],[(51,240518176776),(97,103079419904),(100,144115359874686976),(101,70574902747136),(127,240652517376)],431359146675219394360249430709527298377732911326092635899950588498432,112,179372388000700146182102384868601017402924612724869412583201516999473354334276394983257391889316579474728524077028726076638424000180788772421253036632399242821⟩,
  ⟨100,120792837384162242155678045691722469211870583388287185868909578119090335599084802007406465232008486241939361199031900691794921334630233111609356483816958744133,144115359874686976,[13,17,35,37,57],[(52,144115359874555912),(96,144115222435766272),(99,240518307840),(103,144256063003303936),(128,144115360008896512)],441358715769398291952402862581198738019649911162350539264,96,179372443866566520133143888279447923906657886880729325156442656623281345077783530924463922724408033316883983875401662316403066342250737483034958224153811183173⟩,
  ⟨101,171876481271447957326497766473163305505864769447412329395888478150489267018665206597761024033713884991720279725819064763581878290929704438902336289683342181477,70574902747136,[13,17,36,37,46],[(53,70574902616072),(98,70437463859200),(99,240518307840),(102,211243671625728),(129,70575036956672)],862718293349212792287806151726164493673894706772494936524710735974912,111,179601162213416550089422190416739881175511908112361111012720388078011941053530498600385251761771594067042859986892938007384086226181775825057012449365334517317⟩,
  ⟨102,113741119734790184109553846402596353728182119993577136671855178657033521160868241293556865694859405494999686228473219235173491642998742406536411335182092874837,211243671625728,[13,17,37,46,47],[(54,211243671494664),(93,211106232688640),(101,70574902747136),(103,144256063003303936),(130,211243805835264)],431359146674410236714672266480652439515740186183695825073491465605632,105,179615463874359372491644073252398758723811780832467521502033942438685322373897458958816532128389640354923691515927695100473157048217320090592150173618241033797⟩,
  ⟨103,62456306558889589235870970811810829554721237757478355908925612202735114065226937989297343601477503338929416574185793137848509747753752209467826020093867017541,144256063003303936,[13,17,37,47,57],[(55,144256063003172872),(94,144255925564366848),(100,144115359874686976),(102,211243671625728),(131,144256063137513472)],24519928653900217020705931454234563161180654647217623552,91,179601218079286253092640354265637131832116059401672143744145116224547789434281402042233699086069604207969472662875530203424423087975011572451750358866279552581⟩,
  ⟨104,234547200794467619640498966013733532504508170896687882195992197679530176781959684728361788147585458869941590464302917552938539012087727140553957449142024623445,17022976,[14,15,16,17,24],[(81,16891968),(90,253952),(105,144115188092813312),(106,70368761167872),(109,50561024)],431359146675219394360250927647048750391996180377500660577895708840960,130,55161513035008982021132565668129446262135675969417057905199016403399550613061155500819489774634823428545918947126129486873765019910326372801742315130468971605⟩,
  ⟨105,179615463874359372491644073252398758723811780832467521502033942438685322373897458958816532128389640354923691515927695100473157048217320090592150173618241033797,144115188092813312,[14,15,17,24,57],[(73,144115188092682272),(91,144115188076044288),(104,17022976),(108,144255925581135872),(111,144115188126351360)],441358715770538417550678063702528322252304150356246545152,102,113741119734790184109553846402596353728182119993577136671855178657033521160868241293556865694859405494999686228473219235173491642998742406536411335182092874837⟩,
  ⟨106,230900221594416936562475890513630744243667995393268269139235457453002946407038791050177395070399102532767066423280514808239945877745398644616717303037294888037,70368761167872,[14,16,17,24,46],[(82,70368761036864),(92,70368744398848),(104,17022976),(107,211106249457664),(114,70368828260352)],862718293349212792287807269551017570322842834617128265368594564662016,121,113741063855284683438370087617163487782697940098555953937687001412659465856657177519572410634179091283484709685360520346759733073552263135211560376645804373077⟩,
  ⟨107,172320670555065885526593619762707059698088573424710118338723989507348764847674912798518312814370161582206573539661185156778651885031340681883132913941903324245,211106249457664,[14,17,24,46,47],[(64,211106249326608),(93,211106232688640),(106,70368761167872),(108,144255925581135872),(121,211106383659008)],431359146674410236714673027493582339351546374561153783478624069956096,107,172320670555065885526593619762707059698088573424710118338723989507348764847674912798518312814370161582206573539661185156778651885031340681883132913941903324245⟩,
  ⟨108,121035860665342580661769784673804450098154006268404045318466254298615065182740097617573273729629659643169279201874993401120198092630044181164922132653341361477,144255925581135872,[14,17,24,47,57],[(65,144255925581004816),(94,144255925564366848),(105,144115188092813312),(107,211106249457664),(122,144255925715337216)],24519928654661229950605767260422940619139059779821974016,93,172320726420932259477634393507445949894777158095757830084429560155006516848758763405779457734613980041276130974392484018867760033313584450886354777344831665237⟩,
  ⟨109,237966188325888519571712049033146375866034900629877911727918625765314484859273098472298228071602429432111878273551660383862837472962615049560280021229182019157,50561024,[15,16,17,24,25],[(83,50430016),(104,17022976),(110,34393522176),(111,144115188126351360),(113,117637120)],431359146675636233147366448022725645529148504267156015531200744805120,129,113296874571666755238274234138382330563491465075854149875539933492593927671427509316496412165319586482140455404158427095193201685763208433101143629011304662117⟩,
  ⟨110,237951939040051197217985427884978806292543243885764290544358639702646486192904854571080417472672192860715027077490344053190545010197726281404168543085940602453,34393522176,[15,16,17,25,35],[(84,34393391168),(95,34359975936),(109,50561024),(112,144115222469312512),(115,34460598272)],431359146676053071934481589285734165991855264074421617401354443375360,127,116929601416223976354255631522671254361765384792297138579619545380170504763637984432990113801886437189783909578098402457793258451030319670429938307995269420373⟩,
  ⟨111,179601162213416550089422190416739881175511908112361111012720388078011941053530498600385251761771594067042859986892938007384086226181775825057012449365334517317,144115188126351360,[15,17,24,25,57],[(74,144115188126220320),(105,144115188092813312),(109,50561024),(112,144115222469312512),(119,144115188260536320)],858197502886058793227573200854852211907659103661282509312,101,171876481271447957326497766473163305505864769447412329395888478150489267018665206597761024033713884991720279725819064763581878290929704438902336289683342181477⟩,
  ⟨112,179372388000700146182102384868601017402924612724869412583201516999473354334276394983257391889316579474728524077028726076638424000180788772421253036632399242821,144115222469312512,[15,17,25,35,57],[(75,144115222469181472),(96,144115222435766272),(110,34393522176),(111,144115188126351360),(124,144115222603497472)],1275036290001200056236093663561612019173260973814981079552,99,175509208116005178442479163679998661195158373292575503269700281785055594136372726641975097186542998332415538922211820928207831346542303810643825277618551608661⟩,
  ⟨113,234318370920468412719163648857082340541764210853495375418855376178174572382824996604267738031212713416860633534456081008077238096959927472429410345351338419557,117637120,[16,17,24,25,26],[(85,117506112),(109,50561024),(114,70368828260352),(115,34460598272),(118,251789312)],862718293350021949933384812892560803879484305283071835030137066508800,126,171876369745151237217006168120272923523220131124542958725435323236495360573431715165333992407549707953203708432502966159293984395577661965972699016420708996197⟩,
  ⟨114,230684802814524974441429459705398004060585274939967074189407705435498763384517427979613151368724519158907057417251935008715020411488768654991733035497135952997,70368828260352,[16,17,24,26,46],[(86,70368828129344),(106,70368761167872),(113,117637120),(117,70437530959872),(120,70368962412544)],1294077440024015347860941154796529624155131922784777760466745528893952,120,172105196114743773166160503898220969648837362107414021958232598481611359267408569322156120674263411557304799820119869566036951071283836782955844645935653405797⟩,
  ⟨115,237736520464696395222927978108455478195128857376628661912042324900033346005118806832831009582605021535027452104817724617044077438647417244947874911208302147173,34460598272,[16,17,25,26,35],[(87,34460467264),(110,34393522176),(113,117637120),(116,103146520576),(123,34594750464)],862718293350438788720499954155569324342191065090337436900290765079040,125,175509096590507821071152899703821114044389892562882255949920088112544731645167312885086003879983847575910165671316660732681846886181686264404552220332702197093⟩,
  ⟨116,234088703290289022346421855511000844903434461407844606230115827559028190616763599448113743049719533405034329700226530255820533698336737560920794930938846340453,103146520576,[16,17,26,35,36],[(88,103146389568),(97,103079419904),(115,34460598272),(117,70437530959872),(125,103280672768)],1294077440024824505506517962213481306548704443559581703906843217441280,123,179156913764915193947659022290185057980123239159624759580128188431342844717197121272960487646114854141272357954790723268037871347686910597110812629117289522773⟩,
  ⟨117,230455976444932438492275123927449946697016534957329915255863426029834674051088806042571530067116066206427313263153371531744525131769759621825832876217466246245,70437530959872,[16,17,26,36,46],[(89,70437530828864),(98,70437463859200),(114,70368828260352),(116,103146520576),(126,70437665112064)],1725436586698817903434074683230118501844866239005984004531603364917760,118,175738764220687211443894693038811919665702623692328787430359997253748030875312636646786259680420578529234241726092945183006167108906311948230489041588752569685⟩,
  ⟨118,175738764220687211443894693038811919665702623692328787430359997253748030875312636646786259680420578529234241726092945183006167108906311948230489041588752569685,251789312,[17,24,25,26,27],[(28,251658244),(113,117637120),(119,144115188260536320),(120,70368962412544),(123,34594750464)],431359146675219394360250547140583799447850697141516865187032182575360,117,230455976444932438492275123927449946697016534957329915255863426029834674051088806042571530067116066206427313263153371531744525131769759621825832876217466246245⟩,
  ⟨119,121021555513635348001199430525557015904467463778198391040946907535905016435834621982293865883912716379161485195150341470253195467580841208045717623308417259077,144115188260536320,[17,24,25,27,57],[(29,144115188260405252),(111,144115188126351360),(118,251789312),(122,144255925715337216),(124,144115222603497472)],441358715770157911085727444075598744694006059950468710656,98,230456032310798813253095642462785974857833089834806478997622486609914350802773133329612637154569963925042850955428111927979494919507601759875663951267209040997⟩,
  ⟨120,172105196114743773166160503898220969648837362107414021958232598481611359267408569322156120674263411557304799820119869566036951071283836782955844645935653405797,70368962412544,[17,24,26,27,46],[(30,70368962281476),(114,70368828260352),(118,251789312),(121,211106383659008),(126,70437665112064)],862718293349212792287806889044552619723498314643222790623640644960512,114,230684802814524974441429459705398004060585274939967074189407705435498763384517427979613151368724519158907057417251935008715020411488768654991733035497135952997⟩,
  ⟨121,113741063855284683438370087617163487782697940098555953937687001412659465856657177519572410634179091283484709685360520346759733073552263135211560376645804373077,211106383659008,[17,24,27,46,47],[(31,211106383527940),(107,211106249457664),(120,70368962412544),(122,144255925715337216),(130,211243805835264)],431359146674410236714672646987117389076720408245673806034127898685696,106,230900221594416936562475890513630744243667995393268269139235457453002946407038791050177395070399102532767066423280514808239945877745398644616717303037294888037⟩,
  ⟨122,62456253965561378570557488677292715445377355790800631037061495202814257351958683171063437275157711544847951527272217994481555168998150603728486658390154757445,144255925715337216,[17,24,27,47,57],[(32,144255925715206148),(108,144255925581135872),(119,144115188260536320),(121,211106383659008),(131,144256063137513472)],24519928654280723485655492434456625139161615283650703616,92,230684858693181360319684099381786750916023408054367804956518372836311949433106684154364067188932664794789671334193920865733086716610205096883141734971952415845⟩,
  ⟨123,179156913764915193947659022290185057980123239159624759580128188431342844717197121272960487646114854141272357954790723268037871347686910597110812629117289522773,34594750464,[17,25,26,27,35],[(33,34594619396),(115,34460598272),(118,251789312),(124,144115222603497472),(125,103280672768)],431359146675636233147365688403592319910557456948782467057185881145600,116,234088703290289022346421855511000844903434461407844606230115827559028190616763599448113743049719533405034329700226530255820533698336737560920794930938846340453⟩,
  ⟨124,120792781300918944093879624977418163369841724902052868904374173909127092401139427464136291694741075999693362829761021189625237898031336361133737884587793933893,144115222603497472,[17,25,27,35,57],[(34,144115222603366404),(112,144115222469312512),(119,144115188260536320),(123,34594750464),(128,144115360008896512)],858197502885299174094247906782358551959607930104167280896,97,234088759155356229478361434430229178358684980203390389326482559603713732133864425466755610686250291337796869120657234257782972705341284773454343897474065130853⟩,
  ⟨125,175509096590507821071152899703821114044389892562882255949920088112544731645167312885086003879983847575910165671316660732681846886181686264404552220332702197093,103280672768,[17,26,27,35,36],[(35,103280541700),(116,103146520576),(123,34594750464),(126,70437665112064),(127,240652517376)],862718293350021949933383696461504302117070835418026734063738333507840,115,237736520464696395222927978108455478195128857376628661912042324900033346005118806832831009582605021535027452104817724617044077438647417244947874911208302147173⟩,
  ⟨126,171876369745151237217006168120272923523220131124542958725435323236495360573431715165333992407549707953203708432502966159293984395577661965972699016420708996197,70437665112064,[17,26,27,36,46],[(36,70437664980996),(117,70437530959872),(120,70368962412544),(125,103280672768),(129,70575036956672)],1294077440024015347860940417478141497413232630864429034688498480984320,113,234318370920468412719163648857082340541764210853495375418855376178174572382824996604267738031212713416860633534456081008077238096959927472429410345351338419557⟩,
  ⟨127,116929601416223976354255631522671254361765384792297138579619545380170504763637984432990113801886437189783909578098402457793258451030319670429938307995269420373,240652517376,[17,27,35,36,37],[(37,240652386308),(99,240518307840),(125,103280672768),(128,144115360008896512),(129,70575036956672)],431359146675219394360249430709527298031585069301291421180529069072640,110,237951939040051197217985427884978806292543243885764290544358639702646486192904854571080417472672192860715027077490344053190545010197726281404168543085940602453⟩,
  ⟨128,62213230684381040064465749683383576677121570436477800888500684815687139347180301796830913075667153210761664553775833814499173835712840769257606824153277814341,144115360008896512,[17,27,35,37,57],[(38,144115360008765444),(100,144115359874686976),(124,144115222603497472),(127,240652517376),(131,144256063137513472)],441358715769398291952402516433356713218435191740831113472,95,237736576343352585991898177419365079767991602384324177496586033866397691956050389336683518936335846378543528302437248102524800258787678243352856212530872608341⟩,
  ⟨129,113296874571666755238274234138382330563491465075854149875539933492593927671427509316496412165319586482140455404158427095193201685763208433101143629011304662117,70575036956672,[17,27,36,37,46],[(39,70575036825604),(101,70574902747136),(126,70437665112064),(127,240652517376),(130,211243805835264)],862718293349212792287806151726164493327746864747693721805289216549120,109,237966188325888519571712049033146375866034900629877911727918625765314484859273098472298228071602429432111878273551660383862837472962615049560280021229182019157⟩,
  ⟨130,55161513035008982021132565668129446262135675969417057905199016403399550613061155500819489774634823428545918947126129486873765019910326372801742315130468971605,211243805835264,[17,27,37,46,47],[(40,211243805704196),(102,211243671625728),(121,211106383659008),(129,70575036956672),(131,144256063137513472)],431359146674410236714672266480652439169592344158894610354069946179840,104,234547200794467619640498966013733532504508170896687882195992197679530176781959684728361788147585458869941590464302917552938539012087727140553957449142024623445⟩,
  ⟨131,3876699859108387144472558485178255841252612403190502211016174915376905968051893695375170313202019709177677090413852905190608003815032888190038344477577528645,144256063137513472,[17,27,37,47,57],[(41,144256063137382404),(103,144256063003303936),(122,144255925715337216),(128,144115360008896512),(130,211243805835264)],24519928653900217020705585306392538359965935225698197760,90,234318426799124810791760192613810915247173627396120980100995004999001727521728654655475570233224659942240173950541739505386317639951494283381861913426348299605⟩]
def fdW8:List Nat:=[0,90,28,51,64,75,89,131]
set_option maxRecDepth 100000 in
theorem fdP8:fdPs fdT8=true:=by decide +kernel
set_option maxRecDepth 100000 in
theorem fdS8:(fdT8.all (fdS 8 fdT8 fdW8))=true:=by decide +kernel
set_option maxRecDepth 100000 in
theorem fdG8:fdG 8 fdT8 fdW8=true:=by decide +kernel
theorem fd_ok {N:Nat}(h:3<=N/\N<=8):∃ T W,fdPs T=true/\T.all (fdS N T W)=true/\fdG N T W=true:=by
  have:N=3∨N=4∨N=5∨N=6∨N=7∨N=8:=by omega
  rcases this with rfl | rfl | rfl | rfl | rfl | rfl
  . exact ⟨_,_,fdP3,fdS3,fdG3⟩
  . exact ⟨_,_,fdP4,fdS4,fdG4⟩
  . exact ⟨_,_,fdP5,fdS5,fdG5⟩
  . exact ⟨_,_,fdP6,fdS6,fdG6⟩
  . exact ⟨_,_,fdP7,fdS7,fdG7⟩
  . exact ⟨_,_,fdP8,fdS8,fdG8⟩
theorem bfs_pot {L:List (List Int)}(hL:LOk L.length L){i:Nat}(hi:i<L.length)(f:Nat->Nat)(f0:f i=0)
    (lip:∀ u v:Nat,u<L.length->v<L.length->(v:Int) ∈ L.getD u []->f v<=f u+1)
    (desc:∀ u:Nat,u<L.length->u ≠ i->∃ v,v<L.length/\(u:Int) ∈ L.getD v []/\f v+1=f u) :
    ∀ u,u<L.length->(bfs L i).getD u 0=(f u:Int):=by
  have A:∀ m u:Nat,u<L.length->f u=m->0<=(bfs L i).getD u 0/\(bfs L i).getD u 0<=(m:Int):=by
    intro m
    induction m with
    | zero =>
      intro u hu h
      by_cases e:u=i
      . subst e;rw [bfs_zero hL hi];omega
      . obtain ⟨v,_,_,h3⟩:=desc u hu e
        omega
    | succ m ih =>
      intro u hu h
      by_cases e:u=i
      . subst e;omega
      . obtain ⟨v,h1,h2,h3⟩:=desc u hu e
        obtain ⟨i1,i2⟩:=ih v h1 (by omega)
        have:=bfs_edge hL hi h1 i1 h2
        rw [Int.toNat_natCast] at this
        omega
  obtain ⟨q,hDI⟩:=bfs_DI hL hi
  have B:∀ d v:Nat,v<L.length->(bfs L i).getD v 0=(d:Int)->f v<=d:=by
    intro d
    induction d with
    | zero =>
      intro v hv h
      rcases hDI.src v hv (show 0<=(bfs L i).getD v 0 by omega) with ⟨e,_⟩ | ⟨u,u1,u2,u3,u4⟩
      . subst e;omega
      . have u2':0<=(bfs L i).getD u 0:=u2
        have u4':(bfs L i).getD v 0=(bfs L i).getD u 0+1:=u4
        omega
    | succ d ih =>
      intro v hv h
      rcases hDI.src v hv (show 0<=(bfs L i).getD v 0 by omega) with ⟨e,_⟩ | ⟨u,u1,u2,u3,u4⟩
      . subst e;omega
      . have u2':0<=(bfs L i).getD u 0:=u2
        have u4':(bfs L i).getD v 0=(bfs L i).getD u 0+1:=u4
        have h1:=ih u u1 (by omega)
        have h2:=lip u v u1 hv u3
        omega
  intro u hu
  obtain ⟨a1,a2⟩:=A (f u) u hu rfl
  have:=B ((bfs L i).getD u 0).toNat u hu (by omega)
  omega
structure LSt (HB:AH) (fx:List (Nat × AObj)) (pe:Nat) (F:Nat->Prop) (H:AH) (ed:List Int):Prop where
  fix:∀ q ∈ fx,H[q.1]?=some q.2/\¬ F q.1/\q.1 ≠ pe
  e:∃ oe zs,H[pe]?=some (.cells [.slice (some ⟨oe,0,none⟩) ed.length ed.length] 27 false)/\H[oe]?=some (.cells (ints zs) 3 false)/\zs.take ed.length=ed/\¬ F oe/\oe ≠ pe/\(∀ q ∈ fx,q.1 ≠ oe)/\HB.length<=oe
  out:¬ F pe
  lo:HB.length<=pe
  pre:HB<+:H
section
variable {HB:AH} {fx:List (Nat × AObj)} {pe:Nat} {F F':Nat->Prop} {H H':AH} {ed:List Int}
theorem LSt.cb (h:LSt HB fx pe F H ed)(hlive:∀ o,F o->HB.length<=o)(hF:∀ o,F' o->F o∨H.length<=o)(hk:∀ o y,¬ F o->H[o]?=some y->H'[o]?=some y):LSt HB fx pe F' H' ed:=by
  obtain ⟨oe,zs,e1,e2,e3,e4,e5⟩:=h.e
  have no:∀ {o x},¬ F o->H[o]?=some x->¬ F' o:=fun ho hx hf=>by
    rcases hF _ hf with g | g
    . exact ho g
    . have:=at_lt hx;omega
  refine ⟨fun q hq=>?_,⟨oe,zs,hk _ _ h.out e1,hk _ _ e4 e2,e3,no e4 e2,e5⟩,no h.out e1,h.lo,?_⟩
  . obtain ⟨q1,q2,q3⟩:=h.fix q hq
    exact ⟨hk _ _ q2 q1,no q2 q1,q3⟩
  . exact prefix_of fun o x hx=>hk o x (fun hf=>by have:=hlive o hf;have:=at_lt hx;omega) (pre_at h.pre hx)
theorem LSt.grow (h:LSt HB fx pe F H ed)(hlive:∀ o,F o->HB.length<=o)(hp:H<+:H'):LSt HB fx pe F H' ed:=h.cb hlive (fun o ho=>.inl ho) fun o y _ hy=>pre_at hp hy
theorem LSt.row (h:LSt HB fx pe F H ed):∃ w,cellA H pe 0=some w/\Row 3 H w ed/\¬ F (rowO w)/\isTup w=false:=by
  obtain ⟨oe,zs,e1,e2,e3,e4,e5⟩:=h.e
  refine ⟨_,cell_of e1 0,?_,e4,rfl⟩
  have hzl:ed.length<=zs.length:=by
    have:=congrArg List.length e3
    rw [List.length_take] at this;omega
  refine .inr ⟨oe,0,ints zs,false,rfl,e2,by rw [ints_len];omega,?_⟩
  rw [List.drop_zero]
  have:(ints zs).take ed.length=ints (zs.take ed.length):=by simp [ints,List.map_take]
  rw [this,e3]
theorem LSt.push (h:LSt HB fx pe F H ed)(hlive:∀ o,F o->o<H.length)(hb:ed.length<=1048576)(x:Int) :
    ∃ w H2 H3,cellA H pe 0=some (.slice (some w) ed.length ed.length)/\appendA Tryz.prog 27 27 (.slice (some w) ed.length ed.length) (.slice (some ⟨H.length,0,none⟩) 1 1) (H ++ [.cells [.int .i64 x] 3 false])=some (.slice (some ⟨H.length+1,0,none⟩) (ed.length+1) (ed.length+1),H2) /\
      storeA Tryz.prog 27 (.pointer (some ⟨pe,0,none⟩)) (.slice (some ⟨H.length+1,0,none⟩) (ed.length+1) (ed.length+1)) H2=some H3/\LSt HB fx pe F H3 (ed ++ [x])/\(∀ o y,F o->H[o]?=some y->H3[o]?=some y)/\H.length<=H3.length /\
      ∀ o y,o ≠ pe->(∀ w',cellA H pe 0=some w'->o ≠ rowO w')->H[o]?=some y->H3[o]?=some y:=by
  obtain ⟨oe,zs,e1,e2,e3,e4,e8,e5,e9⟩:=h.e
  have hzl:ed.length<=zs.length:=by
    have:=congrArg List.length e3
    rw [List.length_take] at this;omega
  have k1:=app_q (P:=Tryz.prog) (t:=27) (k:=0) (n:=ed.length) (c:=ed.length) (x:=x) Tryz.underlying27 cs3 (by rw [by3];decide) zk3 e2 (by omega) (by omega)
  rw [List.drop_zero,e3] at k1
  have at_:∀ {o y},o ≠ oe->H[o]?=some y->(H.set oe .dead ++ [AObj.cells [.int .i64 x] 3 false,.cells (ints (ed ++ [x])) 3 false])[o]?=some y:=by
    intro o y ho hy
    rw [List.getElem?_append_left (by simpa using at_lt hy),List.getElem?_set_ne (fun e=>ho e.symm)]
    exact hy
  have a1:=at_ (fun e=>e8 e.symm) e1
  have hst:=st_at (P:=Tryz.prog) (t:=27) (i:=0) (y:=.slice (some ⟨H.length+1,0,none⟩) (ed.length+1) (ed.length+1)) cs27 a1 (by show 0<1;decide) rfl rfl
  have l1:=at_lt e1
  have l2:=at_lt e2
  have aw:∀ {o y},o ≠ oe->o ≠ pe->H[o]?=some y->((H.set oe .dead ++ [AObj.cells [.int .i64 x] 3 false,.cells (ints (ed ++ [x])) 3 false]).set pe (.cells ([Value.slice (some ⟨oe,0,none⟩) ed.length ed.length].set 0 (.slice (some ⟨H.length+1,0,none⟩) (ed.length+1) (ed.length+1))) 27 false))[o]?=some y:=by
    intro o y ho1 ho2 hy
    rw [List.getElem?_set_ne (fun e=>ho2 e.symm)]
    exact at_ ho1 hy
  have lo:=h.lo
  refine ⟨_,_,_,cell_of e1 0,k1,hst,⟨fun q hq=>?_,⟨H.length+1,ed ++ [x],?_,?_,?_,?_,by omega,fun q hq=>?_,by have:=h.pre.length_le;omega⟩,h.out,h.lo,?_⟩,?_,by simp,?_⟩
  . obtain ⟨q1,q2,q3⟩:=h.fix q hq
    exact ⟨aw (e5 q hq) q3 q1,q2,q3⟩
  . rw [List.getElem?_set_self (by simp;omega)]
    simp
  . rw [List.getElem?_set_ne (by omega),List.getElem?_append_right (by simp)]
    simp
  . rw [List.take_of_length_le (Nat.le_refl _)]
  . intro hf;have:=hlive _ hf;omega
  . have:=at_lt (h.fix q hq).1;omega
  . exact prefix_of fun o y hy=>aw (by have:=at_lt hy;omega) (by have:=at_lt hy;omega) (pre_at h.pre hy)
  . intro o y hf hy
    exact aw (fun e=>e4 (e ▸ hf)) (fun e=>h.out (e ▸ hf)) hy
  . intro o y ho1 ho2 hy
    exact aw (ho2 _ (cell_of e1 0)) ho1 hy
theorem LSt.pop {x:Int}(h:LSt HB fx pe F H (ed ++ [x])) :
    ∃ w c,cellA H pe 0=some (.slice (some w) (ed.length+1) c)/\sliceA Tryz.prog 27 (.slice (some w) (ed.length+1) c) none (some (.int .i64 (ed.length:Int))) none H=some (.slice (some w) ed.length ed.length) /\
      ∃ H3,storeA Tryz.prog 27 (.pointer (some ⟨pe,0,none⟩)) (.slice (some w) ed.length ed.length) H=some H3/\LSt HB fx pe F H3 ed/\(∀ o y,F o->H[o]?=some y->H3[o]?=some y)/\H3.length=H.length:=by
  obtain ⟨oe,zs,e1,e2,e3,e4,e8,e5,e9⟩:=h.e
  have hl:(ed ++ [x]).length=ed.length+1:=by simp
  rw [hl] at e1 e3
  have hz:zs.take ed.length=ed:=by
    have:=congrArg (List.take ed.length) e3
    rw [List.take_take,Nat.min_eq_left (by omega)] at this
    simpa using this
  have hsl:=sl_own (P:=Tryz.prog) (t:=27) (k:=0) (n:=ed.length+1) (c:=ed.length+1) Tryz.underlying27 cs3 e2 lo_none (bound_some (k:=.i64) (i:=(ed.length:Int)) (by omega) (ed.length+1)) (Nat.zero_le _) (by omega)
  simp only [Int.toNat_natCast,Nat.add_zero,Nat.sub_zero] at hsl
  have hst:=st_at (P:=Tryz.prog) (t:=27) (i:=0) (y:=.slice (some ⟨oe,0,none⟩) ed.length ed.length) cs27 e1 (by show 0<1;decide) rfl rfl
  have aw:∀ {o y},o ≠ pe->H[o]?=some y->(H.set pe (.cells ([Value.slice (some ⟨oe,0,none⟩) (ed.length+1) (ed.length+1)].set 0 (.slice (some ⟨oe,0,none⟩) ed.length ed.length)) 27 false))[o]?=some y:=by
    intro o y ho hy
    rw [List.getElem?_set_ne (fun e=>ho e.symm)];exact hy
  have lo:=h.lo
  refine ⟨_,_,cell_of e1 0,hsl,_,hst,⟨fun q hq=>?_,⟨oe,zs,?_,aw e8 e2,hz,e4,e8,e5,e9⟩,h.out,h.lo,?_⟩,fun o y hf hy=>aw (fun e=>h.out (e ▸ hf)) hy,by simp⟩
  . obtain ⟨q1,q2,q3⟩:=h.fix q hq
    exact ⟨aw q3 q1,q2,q3⟩
  . rw [List.getElem?_set_self (at_lt e1)];rfl
  . exact prefix_of fun o y hy=>aw (by have:=at_lt hy;omega) (pre_at h.pre hy)
end
def Obs (o:Nat)(us:List Value)(ls:List (List Int))(j:Nat):Prop:=j=o∨∃ i,i<ls.length/\us.getD i undef ≠ .slice none 0 0/\j=rowO (us.getD i undef)
theorem InU.refit2 {lo hi:Nat}{e2 e:TypeId}{H H':AH}{o:Nat}{us:List Value}{ls:List (List Int)}(h:InU lo hi e2 e H o us ls)(hk:∀ j y,Obs o us ls j->H[j]?=some y->H'[j]?=some y):InU lo H'.length e2 e H' o us ls:=by
  obtain ⟨h1,h2,h3,h4,h5,h6⟩:=h
  have k3:=hk _ _ (.inl rfl) h3
  refine ⟨h1,at_lt k3,k3,h4,fun i hi=>⟨?_,(h5 i hi).2⟩,h6⟩
  rcases (h5 i hi).1 with g | ⟨oo,zs,g1,g2,g3,g4,g5⟩
  . exact .inl g
  . have:=hk oo _ (.inr ⟨i,hi,(by rw [g1];intro e;cases e),(by rw [g1];rfl)⟩) g4
    exact .inr ⟨oo,zs,g1,g2,at_lt this,this,g5⟩
theorem InU.obs {lo hi:Nat}{e2 e:TypeId}{H:AH}{o:Nat}{us:List Value}{ls:List (List Int)}(h:InU lo hi e2 e H o us ls){j:Nat}(hj:Obs o us ls j):lo<=j/\j<hi:=by
  obtain ⟨h1,h2,h3,h4,h5,h6⟩:=h
  rcases hj with rfl | ⟨i,hi,hn,rfl⟩
  . exact ⟨h1,h2⟩
  . rcases (h5 i hi).1.at_ with g | g
    . exact absurd g hn
    . exact g
theorem getD_snoc {us:List Value}{n i:Nat}{c:Value}(hn:n<=us.length):(us.take n ++ [c]).getD i undef=if i<n then us.getD i undef else if i=n then c else undef:=by
  rw [List.getD_eq_getElem?_getD,List.getElem?_append]
  have hl:(us.take n).length=n:=by simp;omega
  rw [hl]
  split
  . rw [List.getElem?_take,if_pos (by assumption),List.getD_eq_getElem?_getD]
  . split
    . rename_i h;subst h;simp
    . rw [List.getElem?_eq_none (by simp;omega)];rfl
def IOut (HB:AH)(po:Nat)(out:List (List Int))(F:Nat->Prop)(H:AH):Prop :=
  ∃ o us,H[po]?=some (.cells [.slice (some ⟨o,0,none⟩) out.length out.length] 36 false)/\InU HB.length H.length 27 3 H o us out/\HB.length<=po/\¬ Obs o us out po/\F=fun j=>j=po∨Obs o us out j
theorem IOut.live {HB H:AH}{po:Nat}{out:List (List Int)}{F:Nat->Prop}(h:IOut HB po out F H){o:Nat}(ho:F o):o<H.length/\HB.length<=o:=by
  obtain ⟨oo,us,h1,h2,h3,h4,rfl⟩:=h
  have ho':o=po∨Obs oo us out o:=ho
  rcases ho' with rfl | hj
  . exact ⟨at_lt h1,h3⟩
  . have:=h2.obs hj
    exact ⟨this.2,this.1⟩
theorem IOut.keep {HB H H':AH}{po:Nat}{out:List (List Int)}{F:Nat->Prop}(h:IOut HB po out F H)(hk:∀ o y,F o->H[o]?=some y->H'[o]?=some y):IOut HB po out F H':=by
  obtain ⟨oo,us,h1,h2,h3,h4,rfl⟩:=h
  exact ⟨oo,us,hk _ _ (.inl rfl) h1,h2.refit2 fun j y hj hy=>hk _ _ (.inr hj) hy,h3,h4,rfl⟩
theorem IOut.push {HB H C:AH}{po:Nat}{out:List (List Int)}{F:Nat->Prop}(h:IOut HB po out F H)(hp:HB<+:H){c:Value}{xs:List Int}(pC:H<+:C)(hc:Own 3 H C c xs)(hb:out.length<=1000000000) :
    ∃ w H3 H4,cellA H po 0=some (.slice (some w) out.length out.length)/\cellA C po 0=some (.slice (some w) out.length out.length)/\buildSliceA Tryz.prog 36 1 [(0,c)] C=some (.slice (some ⟨C.length,0,none⟩) 1 1,C ++ [.cells [c] 27 false]) /\
      appendA Tryz.prog 36 36 (.slice (some w) out.length out.length) (.slice (some ⟨C.length,0,none⟩) 1 1) (C ++ [.cells [c] 27 false])=some (.slice (some ⟨C.length+1,0,none⟩) (out.length+1) (out.length+1),H3) /\
      storeA Tryz.prog 36 (.pointer (some ⟨po,0,none⟩)) (.slice (some ⟨C.length+1,0,none⟩) (out.length+1) (out.length+1)) H3=some H4 /\
      ∃ F',IOut HB po (out ++ [xs]) F' H4/\(∀ o,F' o->F o∨H.length<=o)/\∀ o y,¬ F o->H[o]?=some y->H4[o]?=some y:=by
  obtain ⟨o,us,h2,h3,h4,h7,rfl⟩:=h
  have c2:=pre_at pC h2
  have hinw:=InI.of hc.mine
  obtain ⟨H3,k1,k2,k3,k4⟩:=(h3.pre pC).app1 (P:=Tryz.prog) (t2:=36) Tryz.underlying36 cs27 (by rw [by27];decide) zk27 hinw hp.length_le pC.length_le (Nat.le_refl _) (by omega)
  have hbs:buildSliceA Tryz.prog 36 1 [(0,c)] C=some (.slice (some ⟨C.length,0,none⟩) 1 1,C ++ [.cells [c] 27 false]):=by
    obtain ⟨q,eq⟩:=hc.row.shape
    rw [eq]
    exact bs1 Tryz.underlying36 cs27 ze27 ⟨by kernel_rfl,by kernel_rfl⟩ C rfl
  have lC:=pC.length_le
  have l2:=at_lt h2
  have d2:=k4 po _ (fun e=>h7 (.inl e)) c2
  have hst:=st_at (P:=Tryz.prog) (t:=36) (i:=0) (y:=.slice (some ⟨C.length+1,0,none⟩) (out.length+1) (out.length+1)) cs36 d2 (by show 0<1;decide) rfl rfl
  have e2:(H3.set po (.cells ([Value.slice (some ⟨o,0,none⟩) out.length out.length].set 0 (.slice (some ⟨C.length+1,0,none⟩) (out.length+1) (out.length+1))) 36 false))[po]?=some (.cells [.slice (some ⟨C.length+1,0,none⟩) (out.length+1) (out.length+1)] 36 false):=by
    rw [List.getElem?_set_self (by omega)];rfl
  have hal:(out ++ [xs]).length=out.length+1:=by simp
  have hcO:c=.slice none 0 0∨H.length<=rowO c:=by
    rcases hc with ⟨q,_⟩ | ⟨oc,q,hoc,_⟩
    . exact .inl q
    . exact .inr (by rw [q];exact hoc)
  have hul:=h3.2.2.2.1
  have aw2:Away po (C.length+1) (us.take out.length ++ [c]) (out ++ [xs]):=by
    refine ⟨by omega,fun i hi=>?_⟩
    rw [hal] at hi
    rw [getD_snoc hul]
    split
    . rename_i hi2
      by_cases hn:us.getD i undef=.slice none 0 0
      . exact .inl hn
      . exact .inr fun e=>h7 (.inr ⟨i,hi2,hn,e.symm⟩)
    . rw [if_pos (by omega)]
      exact hcO.imp id fun q=>by omega
  have k2':=(k2.wide (Nat.le_refl _) (Nat.le_of_eq k3.symm):InU HB.length H3.length 27 3 H3 _ _ _)
  refine ⟨_,H3,_,cell_of h2 0,cell_of c2 0,hbs,k1,hst,fun j=>j=po∨Obs (C.length+1) (us.take out.length ++ [c]) (out ++ [xs]) j,⟨C.length+1,us.take out.length ++ [c],by rw [hal];exact e2,?_,h4,?_,rfl⟩,?_,?_⟩
  . have:=k2'.moveq aw2 (H':=H3.set po (.cells ([Value.slice (some ⟨o,0,none⟩) out.length out.length].set 0 (.slice (some ⟨C.length+1,0,none⟩) (out.length+1) (out.length+1))) 36 false)) (fun j y hj hy=>by rw [List.getElem?_set_ne (fun e=>hj e.symm)];exact hy)
    simpa using this
  . rintro (e | ⟨i,hi,hn,e⟩)
    . omega
    . rcases aw2.2 i hi with q | q
      . exact hn q
      . exact q e.symm
  . rintro j (e | e | ⟨i,hi,hn,e⟩)
    . exact .inl (.inl e)
    . exact .inr (by omega)
    . rw [getD_snoc hul] at hn e
      rw [hal] at hi
      by_cases hi2:i<out.length
      . rw [if_pos hi2] at hn e
        exact .inl (.inr (.inr ⟨i,hi2,hn,e⟩))
      . rw [if_neg hi2,if_pos (by omega)] at hn e
        rcases hcO with q | q
        . exact absurd q hn
        . exact .inr (by omega)
  . intro j y hj hy
    rw [List.getElem?_set_ne (fun e=>hj (.inl e.symm))]
    exact k4 j y (fun e=>hj (.inr (.inl e))) (pre_at pC hy)
def cd191:Cd:=(.seq (.reg [⟨⟨some 3,.assign (.const (.bool false)),none⟩,[]⟩]) (.seq (.reg [⟨⟨some 4,.load 3 (.tmp 1),none⟩,[]⟩,
  ⟨⟨some 5,.move (.tmp 0),none⟩,[]⟩,
  ⟨⟨some 6,.call ⟨(.value (.func 107)),#[.tmp 4,.tmp 5],#[3,3]⟩,none⟩,[]⟩,
  ⟨⟨some 3,.assign (.tmp 6),none⟩,[]⟩]) .ret))
theorem in191:InT Tryz.prog 191 2 [.tmp 3] cd191:=InT.mk (by kernel_rfl) [] Tryz.func191 rfl (by kernel_rfl) (by kernel_rfl) (of_decide_eq_true (by kernel_rfl)) (by kernel_rfl)
def cd189:Cd:=(.seq (.seq (.reg [⟨⟨some 8,.load 27 (.tmp 1),none⟩,[]⟩,⟨⟨some 9,.call ⟨(.builtin .len),#[.tmp 8],#[27]⟩,none⟩,[]⟩,⟨⟨some 10,.load 3 (.tmp 2),none⟩,[]⟩,⟨⟨some 11,.binOp .sub 3 (.tmp 10) (.const (.int .i64 3)) 3,none⟩,[]⟩,⟨⟨some 12,.binOp .eql 3 (.tmp 9) (.tmp 11) 3,none⟩,[]⟩]) (.cond (.tmp 12) (.seq (.reg [⟨⟨some 13,.load 36 (.tmp 3),none⟩,[]⟩,⟨⟨some 14,.load 27 (.tmp 1),none⟩,[]⟩,⟨⟨some 15,.call ⟨(.value (.func 93)),#[.tmp 14],#[27]⟩,none⟩,[⟨some 13,.load 36 (.tmp 3),none⟩]⟩,⟨⟨some 16,.buildSlice 36 1 #[(0,.tmp 15)],none⟩,[]⟩,⟨⟨some 17,.call ⟨(.builtin .append),#[.tmp 13,.tmp 16],#[36,36]⟩,none⟩,[]⟩,⟨⟨none,.store 36 (.tmp 3) (.tmp 17),none⟩,[]⟩]) .ret) .skip)) (.block 0 (.loop (.seq (.seq (.reg [⟨⟨some 18,.move (.tmp 0),none⟩,[]⟩,⟨⟨some 19,.load 27 (.tmp 4),none⟩,[]⟩,⟨⟨some 20,.call ⟨(.builtin .len),#[.tmp 19],#[27]⟩,none⟩,[]⟩,
 ⟨⟨some 21,.binOp .lss 3 (.tmp 18) (.tmp 20) 3,none⟩,[]⟩]) (.cond (.tmp 21) .skip (.exit 0))) (.seq (.block 1 (.seq (.reg [⟨⟨some 24,.load 27 (.tmp 4),none⟩,[]⟩,⟨⟨some 25,.move (.tmp 0),none⟩,[]⟩,⟨⟨some 26,.indexAddr 27 (.tmp 24) (.tmp 25),none⟩,[]⟩,⟨⟨some 27,.load 3 (.tmp 26),none⟩,[]⟩,⟨⟨some 7,.alloc 3,none⟩,[]⟩,⟨⟨none,.store 3 (.tmp 7) (.tmp 27),none⟩,[]⟩]) (.seq (.reg [⟨⟨some 28,.load 27 (.tmp 1),none⟩,[]⟩,⟨⟨some 29,.makeFunc (Fn.func 191) #[] #[.tmp 7],none⟩,[]⟩,⟨⟨some 30,.call ⟨(.value (.func 190)),#[.tmp 28,.tmp 29],#[27,98]⟩,none⟩,[]⟩,⟨⟨some 31,.unOp .not 4 (.tmp 30),none⟩,[]⟩]) (.cond (.tmp 31) (.seq (.reg [⟨⟨some 32,.load 27 (.tmp 1),none⟩,[]⟩,⟨⟨some 33,.load 3 (.tmp 7),none⟩,[]⟩,⟨⟨some 34,.buildSlice 27 1 #[(0,.tmp 33)],none⟩,[]⟩,⟨⟨some 35,.call ⟨(.builtin .append),#[.tmp 32,.tmp 34],#[27,27]⟩,none⟩,[]⟩,
 ⟨⟨none,.store 27 (.tmp 1) (.tmp 35),none⟩,[]⟩]) (.seq (.reg [⟨⟨some 36,.load 144 (.tmp 5),none⟩,[]⟩,
  ⟨⟨some 37,.move (.tmp 0),none⟩,[]⟩,
  ⟨⟨some 38,.binOp .add 3 (.tmp 37) (.const (.int .i64 1)) 3,none⟩,[]⟩,
  ⟨⟨some 39,.call ⟨(.value (.tmp 36)),#[.tmp 38],#[3]⟩,none⟩,[]⟩]) (.reg [⟨⟨some 40,.load 27 (.tmp 1),none⟩,[]⟩,
  ⟨⟨some 41,.load 27 (.tmp 1),none⟩,[]⟩,
  ⟨⟨some 42,.call ⟨(.builtin .len),#[.tmp 41],#[27]⟩,none⟩,[]⟩,
  ⟨⟨some 43,.binOp .sub 3 (.tmp 42) (.const (.int .i64 1)) 3,none⟩,[]⟩,
  ⟨⟨some 44,.slice 27 (.tmp 40) none (some (.tmp 43)) none,none⟩,[]⟩,
  ⟨⟨none,.store 27 (.tmp 1) (.tmp 44),none⟩,[]⟩]))) .skip)))) (.reg [⟨⟨some 22,.move (.tmp 0),none⟩,[]⟩,
  ⟨⟨some 23,.binOp .add 3 (.tmp 22) (.const (.int .i64 1)) 3,none⟩,[]⟩,
  ⟨⟨some 0,.assign (.tmp 23),none⟩,[]⟩]))))))
theorem in189:InT Tryz.prog 189 6 [] cd189:=InT.mk (by kernel_rfl) [(1,[(0,false),(1,false),(2,true),(3,false),(4,true),(5,true)])] Tryz.func189 rfl (by kernel_rfl) (by kernel_rfl) (of_decide_eq_true (by kernel_rfl)) (by kernel_rfl)
def cd124:Cd:=(.seq (.reg [⟨⟨some 1,.box 3 (.tmp 0),none⟩,[]⟩,⟨⟨some 2,.assign (.const (.slice none 0 0)),none⟩,[]⟩]) (.seq (.reg [⟨⟨some 7,.buildSlice 36 0 #[],none⟩,[]⟩,⟨⟨some 8,.load 3 (.tmp 1),none⟩,[]⟩,⟨⟨some 9,.call ⟨(.value (.func 115)),#[.tmp 8],#[3]⟩,none⟩,[]⟩,⟨⟨some 10,.buildSlice 27 0 #[],none⟩,[]⟩,⟨⟨some 3,.alloc 36,none⟩,[]⟩,⟨⟨some 4,.alloc 27,none⟩,[]⟩,⟨⟨some 5,.alloc 27,none⟩,[]⟩,⟨⟨none,.store 36 (.tmp 3) (.tmp 7),none⟩,[]⟩,⟨⟨none,.store 27 (.tmp 4) (.tmp 9),none⟩,[]⟩,⟨⟨none,.store 27 (.tmp 5) (.tmp 10),none⟩,[]⟩]) (.seq (.reg [⟨⟨some 6,.alloc 144,none⟩,[]⟩]) (.seq (.reg [⟨⟨some 11,.makeFunc (Fn.func 189) #[] #[.tmp 5,.tmp 1,.tmp 3,.tmp 4,.tmp 6],none⟩,[]⟩,⟨⟨none,.store 144 (.tmp 6) (.tmp 11),none⟩,[]⟩]) (.seq (.reg [⟨⟨some 12,.load 144 (.tmp 6),none⟩,[]⟩,
 ⟨⟨some 13,.call ⟨(.value (.tmp 12)),#[(.const (.int .i64 0))],#[3]⟩,none⟩,[]⟩]) (.seq (.reg [⟨⟨some 14,.load 36 (.tmp 3),none⟩,[]⟩,
  ⟨⟨some 2,.assign (.tmp 14),none⟩,[]⟩]) .ret))))))
theorem in124:InT Tryz.prog 124 1 [.tmp 2] cd124:=InT.mk (by kernel_rfl) [] Tryz.func124 rfl (by kernel_rfl) (by kernel_rfl) (of_decide_eq_true (by kernel_rfl)) (by kernel_rfl)
end Go.Proofs.YtjnefjchconebaaGreat.Ai
namespace Go.Proofs.YtjnefjchconebaaGreat.Ai
open Go Go.RowKit
theorem agT:isAggA Tryz.prog 144=some false:=by kernel_rfl
theorem csT:Tryz.prog.cellsOf 144=1:=by kernel_rfl
theorem alloc_iT (H:AH):allocA Tryz.prog 3 H=some (.pointer (some ⟨H.length,0,none⟩),H ++ [.cells [.int .i64 0] 3 false]):=by kernel_rfl
theorem alloc_slT (H:AH):allocA Tryz.prog 27 H=some (.pointer (some ⟨H.length,0,none⟩),H ++ [.cells [.slice none 0 0] 27 false]):=by kernel_rfl
theorem alloc_llT (H:AH):allocA Tryz.prog 36 H=some (.pointer (some ⟨H.length,0,none⟩),H ++ [.cells [.slice none 0 0] 36 false]):=by kernel_rfl
theorem alloc_fT (H:AH):allocA Tryz.prog 144 H=some (.pointer (some ⟨H.length,0,none⟩),H ++ [.cells [.nilFunc] 144 false]):=by kernel_rfl
theorem box_iT (H:AH)(k:Int):boxA Tryz.prog 3 (.int .i64 k) H=some (.pointer (some ⟨H.length,0,none⟩),H ++ [.cells [.int .i64 k] 3 false]):=by kernel_rfl
theorem mkf_1T (f:Fn)(p:Option Addr):makeFuncA f [] [.pointer p]=some (.func f #[] (List.toArray [.pointer p])):=rfl
theorem mkf_5T (f:Fn)(p q r t u:Option Addr):makeFuncA f [] [.pointer p,.pointer q,.pointer r,.pointer t,.pointer u]=some (.func f #[] (List.toArray [.pointer p,.pointer q,.pointer r,.pointer t,.pointer u])):=rfl
theorem crsClos_c (d e:Int)(o:Nat)(H:AH)(hd:I64 d)(he:I64 e)(ho:cellA H o 0=some (.int .i64 d)):ACalls Tryz.prog 191 [.int .i64 e,.pointer (some ⟨o,0,none⟩)] H fun r H'=>r=.bool (decide (Crs d e))/\H=H':=by
  refine in191 rfl ?_
  intro Q hQ
  simp (maxSteps:=1000000) (disch:=omega) only [cd191,ho,SS,eq_self,reduceIte,reduceCtorEq,Nat.reduceEqDiff,Nat.reduceAdd]
  refine CallH.by (cross_c d e H hd he) ?_
  rintro _ _ ⟨rfl,rfl⟩
  simp (maxSteps:=1000000) (disch:=omega) only [SS,eq_self,reduceIte,reduceCtorEq,Nat.reduceEqDiff,Nat.reduceAdd]
  refine hQ _ _ _ ?_
  simp (maxSteps:=1000000) (disch:=omega) only [SS,eq_self,reduceIte,reduceCtorEq,Nat.reduceEqDiff,Nat.reduceAdd]
abbrev trgFx (n:Int)(all:List Int)(pn pa oa pf pl po:Nat):List (Nat × AObj) :=
  [(pn,.cells [.int .i64 n] 3 false),(pa,.cells [.slice (some ⟨oa,0,none⟩) all.length all.length] 27 false),(oa,.cells (ints all) 3 false),
   (pf,.cells [.func (.func 189) #[] (List.toArray [.pointer (some ⟨pl,0,none⟩),.pointer (some ⟨pn,0,none⟩),.pointer (some ⟨po,0,none⟩),.pointer (some ⟨pa,0,none⟩),.pointer (some ⟨pf,0,none⟩)])] 144 false)]
theorem trg_c {HB:AH}(n:Int)(h:Nat)(hn:n - 3=(h:Int))(hh:h<=100)(all:List Int)(hN:all.length<=28)(hall:∀ y ∈ all,0<=y/\y<=100)(pn pa oa pf pl po:Nat) :
    ∀ (k:Nat) (ed:List Int) (out:List (List Int)) (F:Nat->Prop) (H:AH),k<=all.length->ed.length+k<=all.length->(∀ y ∈ ed,0<=y/\y<=100)->out.length+2 ^ k<=1000000000->IOut HB po out F H->LSt HB (trgFx n all pn pa oa pf pl po) pl F H ed ->
      ACalls Tryz.prog 189 [.int .i64 ((all.length - k:Nat):Int),.pointer (some ⟨pl,0,none⟩),.pointer (some ⟨pn,0,none⟩),.pointer (some ⟨po,0,none⟩),.pointer (some ⟨pa,0,none⟩),.pointer (some ⟨pf,0,none⟩)] H fun r H' =>
        ∃ F',IOut HB po (out ++ tex all h k ed) F' H'/\LSt HB (trgFx n all pn pa oa pf pl po) pl F' H' ed:=by
  intro k
  induction k using Nat.strongRecOn with
  | ind k ih =>
  intro ed out F H hk hek hed hout hO hL
  refine in189 rfl ?_
  intro Q hQ
  have f1:∀ {F H},LSt HB (trgFx n all pn pa oa pf pl po) pl F H ed->cellA H pn 0=some (.int .i64 n):=fun h=>cell_of (h.fix (pn,_) (.head _)).1 0
  obtain ⟨w,hw1,hw2,hw3,hw4⟩:=hL.row
  have hpos:1<=2 ^ k:=Nat.one_le_two_pow
  simp (maxSteps:=1000000) (disch:=omega) only [cd189,hw1,hw2.len Tryz.underlying27,f1 hL,wrap64,SS,eq_self,reduceIte,reduceCtorEq,Nat.reduceEqDiff,Nat.reduceAdd]
  refine brD.intro (fun g=>?_) (fun g=>?_)
  . have hel:ed.length=h:=by omega
    have ht:tex all h k ed=[ed]:=by unfold tex;rw [if_pos hel]
    rw [ht] at hQ
    have hO1:=hO
    obtain ⟨o,us,hpo,_⟩:=hO1
    simp (maxSteps:=1000000) (disch:=omega) only [cell_of hpo,hw1,SS,eq_self,reduceIte,reduceCtorEq,Nat.reduceEqDiff,Nat.reduceAdd]
    refine CallH.by (Clone_c w ed H hw2 (by omega)) ?_
    rintro c C ⟨hc,pC⟩
    obtain ⟨w2,H3,H4,p0,p1,p2,p3,p4,F',hO4,hF4,hk4⟩:=hO.push hL.pre pC hc (by omega)
    have hww:=p0.symm.trans (cell_of hpo 0)
    simp only [List.getElem?_cons_zero,Option.some.injEq,Value.slice.injEq] at hww
    obtain ⟨hww,_,_⟩:=hww
    subst hww
    simp (maxSteps:=1000000) (disch:=omega) only [p1,p2,p3,p4,SS,eq_self,reduceIte,reduceCtorEq,Nat.reduceEqDiff,Nat.reduceAdd]
    refine hQ _ _ _ ?_
    simp (maxSteps:=1000000) (disch:=omega) only [SS,eq_self,reduceIte,reduceCtorEq,Nat.reduceEqDiff,Nat.reduceAdd]
    exact ⟨F',hO4,hL.cb (fun o ho=>(hO.live ho).2) hF4 hk4⟩
  have hel:ed.length ≠ h:=by omega
  have ht:tex all h k ed=tlp all h k ed:=by unfold tex;rw [if_neg hel]
  rw [ht] at hQ
  simp (maxSteps:=1000000) (disch:=omega) only [g,SS,eq_self,reduceIte,reduceCtorEq,Nat.reduceEqDiff,Nat.reduceAdd]
  refine LoopH.by (fun m s H'=>∃ out' F',m<=k/\s 0=.int .i64 ((all.length - m:Nat):Int)/\s 1=.pointer (some ⟨pl,0,none⟩)/\s 2=.pointer (some ⟨pn,0,none⟩)/\s 3=.pointer (some ⟨po,0,none⟩)/\s 4=.pointer (some ⟨pa,0,none⟩)/\s 5=.pointer (some ⟨pf,0,none⟩)/\out'.length+2 ^ m<=1000000000/\out' ++ tlp all h m ed=out ++ tlp all h k ed/\IOut HB po out' F' H'/\LSt HB (trgFx n all pn pa oa pf pl po) pl F' H' ed) k ?_ ?_
  . exact ⟨out,F,Nat.le_refl _,rfl,rfl,rfl,rfl,rfl,rfl,hout,rfl,hO,hL⟩
  rintro m s H' ⟨out',F',hmk,h0,h1,h2,h3,h4,h5,hcnt,hout',hO',hL'⟩
  have fa:∀ {F H},LSt HB (trgFx n all pn pa oa pf pl po) pl F H ed->H[pa]?=some (.cells [.slice (some ⟨oa,0,none⟩) all.length all.length] 27 false):=fun h=>(h.fix (pa,_) (.tail _ (.head _))).1
  have foa:∀ {F H},LSt HB (trgFx n all pn pa oa pf pl po) pl F H ed->H[oa]?=some (.cells (ints all) 3 false):=fun h=>(h.fix (oa,_) (.tail _ (.tail _ (.head _)))).1
  simp (maxSteps:=1000000) (disch:=omega) only [h0,h1,h2,h3,h4,h5,cell_of (fa hL'),SS,eq_self,reduceIte,reduceCtorEq,Nat.reduceEqDiff,Nat.reduceAdd]
  refine brD.intro (fun g2=>?_) (fun g2=>?_)
  rotate_left
  . have hm0:m=0:=by omega
    subst hm0
    simp (maxSteps:=1000000) (disch:=omega) only [SS,eq_self,reduceIte,reduceCtorEq,Nat.reduceEqDiff,Nat.reduceAdd]
    refine hQ _ _ _ ?_
    simp (maxSteps:=1000000) (disch:=omega) only [SS,eq_self,reduceIte,reduceCtorEq,Nat.reduceEqDiff,Nat.reduceAdd]
    rw [<- hout']
    simp only [tlp,List.append_nil]
    exact ⟨F',hO',hL'⟩
  obtain ⟨i,rfl⟩:∃ i,m=i+1:=⟨m - 1,by omega⟩
  have hei:all.length - (i+1)<all.length:=by omega
  have he1:((all.length - (i+1):Nat):Int)+1=((all.length - i:Nat):Int):=by omega
  have hstep:=tlp_step all h i ed
  have hP:2 ^ (i+1)=2 ^ i+2 ^ i:=by rw [Nat.pow_succ];omega
  have hpi:1<=2 ^ i:=Nat.one_le_two_pow
  generalize he:all.length - (i+1)=e at *
  have hdm:all.getD e 0 ∈ all:=by simp [hei]
  have hdr:=hall _ hdm
  generalize hd:all.getD e 0=d at *
  have hca:=cell_ints (foa hL') hei
  rw [hd] at hca
  have st0:=st_at (P:=Tryz.prog) (t:=3) (i:=0) (y:=.int .i64 d) cs3 (at_new H' (.cells [.int .i64 0] 3 false)) (by show 0<1;decide) rfl rfl
  rw [set_new,List.set_cons_zero] at st0
  simp (maxSteps:=1000000) (disch:=omega) only [h0,h1,h2,h3,h4,h5,cell_of (fa hL'),Int.toNat_natCast,Nat.zero_add,hca,alloc_iT,st0,SS,eq_self,reduceIte,reduceCtorEq,Nat.reduceEqDiff,Nat.reduceAdd]
  generalize hG:H' ++ [AObj.cells [.int .i64 d] 3 false]=G
  have pG:H'<+:G:=by rw [<- hG];exact List.prefix_append _ _
  have cG:G[H'.length]?=some (.cells [.int .i64 d] 3 false):=by rw [<- hG];exact at_new ..
  have hlv:∀ o,F' o->HB.length<=o:=fun o ho=>(hO'.live ho).2
  have hLG:=hL'.grow hlv pG
  have hOG:=hO'.keep (fun o y _ hy=>pre_at pG hy)
  obtain ⟨w',hw1',hw2',hw3',hw4'⟩:=hLG.row
  simp (maxSteps:=1000000) (disch:=omega) only [h0,h1,h2,h3,h4,h5,hw1',mkf_1T,SS,eq_self,reduceIte,reduceCtorEq,Nat.reduceEqDiff,Nat.reduceAdd]
  refine CallH.by (ContainsFunc_c w' ed (fun y=>decide (Crs d y)) 191 [.pointer (some ⟨H'.length,0,none⟩)] G hw2' (by omega) (fun y hy=>crsClos_c d y H'.length G ⟨by omega,by omega⟩ (by have:=hed y hy;exact ⟨by omega,by omega⟩) (cell_of cG 0))) ?_
  rintro _ _ ⟨rfl,rfl⟩
  have hap:=apB_comm ed d
  simp (maxSteps:=1000000) (disch:=omega) only [SS,eq_self,reduceIte,reduceCtorEq,Nat.reduceEqDiff,Nat.reduceAdd]
  refine brH.intro (fun q=>?_) (fun q=>?_)
  . have hno:¬ apB ed d=true:=by rw [<- hap,q];decide
    rw [if_neg hno,List.nil_append] at hstep
    rw [hstep] at hout'
    have f2:out'.length+2 ^ i<=1000000000:=by omega
    simp (maxSteps:=1000000) (disch:=omega) only [q,h0,h1,h2,h3,h4,h5,he1,wrap64,SS,eq_self,reduceIte,reduceCtorEq,Nat.reduceEqDiff,Nat.reduceAdd]
    refine ⟨i,by omega,out',F',by omega,?_⟩
    (repeat' first | exact f2 | exact hout' | exact hOG | exact hLG | apply And.intro) <;> first | (simp only [Value.int.injEq,true_and];omega) | omega | rfl | assumption | (simp;done) | (simp;omega)
  . have hyes:apB ed d=true:=by rw [<- hap,q];rfl
    rw [if_pos hyes] at hstep
    obtain ⟨w3,H2,H3,p1,p2,p3,hL3,hk3,hl3,_⟩:=hLG.push (fun o ho=>(hOG.live ho).1) (by omega) d
    have hO3:=hOG.keep hk3
    have hff:H3[pf]?=some (.cells [.func (.func 189) #[] (List.toArray [.pointer (some ⟨pl,0,none⟩),.pointer (some ⟨pn,0,none⟩),.pointer (some ⟨po,0,none⟩),.pointer (some ⟨pa,0,none⟩),.pointer (some ⟨pf,0,none⟩)])] 144 false):=(hL3.fix (pf,_) (.tail _ (.tail _ (.tail _ (.head _))))).1
    simp (maxSteps:=1000000) (disch:=omega) only [q,h0,h1,h2,h3,h4,h5,p1,cell_of cG,p2,p3,ld_one agT,cell_of hff,he1,wrap64,SS,eq_self,reduceIte,reduceCtorEq,Nat.reduceEqDiff,Nat.reduceAdd]
    refine CallH.by (ih i (by omega) (ed ++ [d]) out' F' H3 (by omega) (by simp;omega) (fun y hy=>by
      rcases List.mem_append.1 hy with hy | hy
      . exact hed y hy
      . simp at hy;rw [hy];exact hdr) (by omega) hO3 hL3) ?_
    rintro _ H4 ⟨F4,hO4,hL4⟩
    obtain ⟨w4,c4,r1,r2,H5,r3,hL5,hk5,hl5⟩:=hL4.pop
    have hO5:=hO4.keep hk5
    have htl:(tex all h i (ed ++ [d])).length<=2 ^ i:=by
      unfold tex
      split
      . simp;exact hpi
      . have:=tex_len all h i (ed ++ [d]);omega
    have f2:(out' ++ tex all h i (ed ++ [d])).length+2 ^ i<=1000000000:=by rw [List.length_append];omega
    have f3:(out' ++ tex all h i (ed ++ [d])) ++ tlp all h i ed=out ++ tlp all h k ed:=by rw [<- hout',hstep,List.append_assoc]
    have hcl:((ed.length+1:Nat):Int) - 1=(ed.length:Int):=by omega
    simp (maxSteps:=1000000) (disch:=omega) only [h0,h1,h2,h3,h4,h5,r1,hcl,r2,r3,he1,wrap64,SS,eq_self,reduceIte,reduceCtorEq,Nat.reduceEqDiff,Nat.reduceAdd]
    refine ⟨i,by omega,out' ++ tex all h i (ed ++ [d]),F4,by omega,?_⟩
    (repeat' first | exact f2 | exact f3 | exact hO5 | exact hL5 | apply And.intro) <;> first | (simp only [Value.int.injEq,true_and];omega) | omega | rfl | assumption | (simp;done) | (simp;omega)
theorem triangulations_c (n:Int)(H:AH)(hn:3<=n/\n<=8)(hdg:dgI n 100=dgs n n.toNat) :
    ACalls Tryz.prog 124 [.int .i64 n] H fun r H'=>InL H.length H'.length 27 3 H' r (triA n)/\H<+:H':=by
  obtain ⟨hk1,hk2,hk3,hk4,hk5,hk6⟩:=triA_ok hn
  refine in124 rfl ?_
  intro Q hQ
  simp (maxSteps:=1000000) (disch:=omega) only [cd124,box_iT,SS,eq_self,reduceIte,reduceCtorEq,Nat.reduceEqDiff,Nat.reduceAdd]
  generalize hA:H ++ [AObj.cells [.int .i64 n] 3 false]=A
  have pA:H<+:A:=by rw [<- hA];exact List.prefix_append _ _
  have cA:A[H.length]?=some (.cells [.int .i64 n] 3 false):=by rw [<- hA];exact at_new ..
  generalize hB:A ++ [AObj.cells [] 27 false]=B
  have pB:A<+:B:=by rw [<- hB];exact List.prefix_append _ _
  have cB:B[A.length]?=some (.cells [] 27 false):=by rw [<- hB];exact at_new ..
  have cBA:=pre_at pB cA
  simp (maxSteps:=1000000) (disch:=omega) only [cell_of cBA,SS,eq_self,reduceIte,reduceCtorEq,Nat.reduceEqDiff,Nat.reduceAdd]
  refine CallH.by (diagonals_c n B (by omega)) ?_
  rintro _ C ⟨⟨oa,rfl,hoa,hca⟩,pC⟩
  rw [hdg] at hca ⊢
  generalize hall:dgs n n.toNat=all at *
  simp (maxSteps:=1000000) (disch:=omega) only [alloc_llT,alloc_slT,SS,eq_self,reduceIte,reduceCtorEq,Nat.reduceEqDiff,Nat.reduceAdd]
  generalize hD:C ++ [AObj.cells [] 3 false]=D
  have pD:C<+:D:=by rw [<- hD];exact List.prefix_append _ _
  have cD:D[C.length]?=some (.cells (ints []) 3 false):=by rw [<- hD];exact at_new ..
  generalize hE1:D ++ [AObj.cells [.slice none 0 0] 36 false]=E1
  have pE1:D<+:E1:=by rw [<- hE1];exact List.prefix_append _ _
  have cE1:E1[D.length]?=some (.cells [.slice none 0 0] 36 false):=by rw [<- hE1];exact at_new ..
  generalize hE2:E1 ++ [AObj.cells [.slice none 0 0] 27 false]=E2
  have pE2:E1<+:E2:=by rw [<- hE2];exact List.prefix_append _ _
  have cE2:E2[E1.length]?=some (.cells [.slice none 0 0] 27 false):=by rw [<- hE2];exact at_new ..
  generalize hE3:E2 ++ [AObj.cells [.slice none 0 0] 27 false]=E3
  have pE3:E2<+:E3:=by rw [<- hE3];exact List.prefix_append _ _
  have cE3:E3[E2.length]?=some (.cells [.slice none 0 0] 27 false):=by rw [<- hE3];exact at_new ..
  have lA:A.length=H.length+1:=by rw [<- hA];simp
  have lB:B.length=A.length+1:=by rw [<- hB];simp
  have lC:=pC.length_le
  have lD:D.length=C.length+1:=by rw [<- hD];simp
  have lE1:E1.length=D.length+1:=by rw [<- hE1];simp
  have lE2:E2.length=E1.length+1:=by rw [<- hE2];simp
  have lE3:E3.length=E2.length+1:=by rw [<- hE3];simp
  have loa:=at_lt hca
  have s1:=st_at (P:=Tryz.prog) (t:=36) (i:=0) (y:=.slice (some ⟨A.length,0,none⟩) 0 0) cs36 (pre_at (pE2.trans pE3) cE1) (by show 0<1;decide) rfl rfl
  rw [List.set_cons_zero] at s1
  generalize hE4:E3.set D.length (.cells [.slice (some ⟨A.length,0,none⟩) 0 0] 36 false)=E4 at *
  have at4:∀ {o y},o ≠ D.length->E3[o]?=some y->E4[o]?=some y:=fun ho hy=>by rw [<- hE4,List.getElem?_set_ne (fun e=>ho e.symm)];exact hy
  have l4:E4.length=E3.length:=by rw [<- hE4];simp
  have c4:E4[D.length]?=some (.cells [.slice (some ⟨A.length,0,none⟩) 0 0] 36 false):=by rw [<- hE4,List.getElem?_set_self (by omega)]
  have s2:=st_at (P:=Tryz.prog) (t:=27) (i:=0) (y:=.slice (some ⟨oa,0,none⟩) all.length all.length) cs27 (at4 (by omega) (pre_at pE3 cE2)) (by show 0<1;decide) rfl rfl
  rw [List.set_cons_zero] at s2
  generalize hE5:E4.set E1.length (.cells [.slice (some ⟨oa,0,none⟩) all.length all.length] 27 false)=E5 at *
  have at5:∀ {o y},o ≠ E1.length->E4[o]?=some y->E5[o]?=some y:=fun ho hy=>by rw [<- hE5,List.getElem?_set_ne (fun e=>ho e.symm)];exact hy
  have l5:E5.length=E4.length:=by rw [<- hE5];simp
  have c5:E5[E1.length]?=some (.cells [.slice (some ⟨oa,0,none⟩) all.length all.length] 27 false):=by rw [<- hE5,List.getElem?_set_self (by omega)]
  have s3:=st_at (P:=Tryz.prog) (t:=27) (i:=0) (y:=.slice (some ⟨C.length,0,none⟩) 0 0) cs27 (at5 (by omega) (at4 (by omega) cE3)) (by show 0<1;decide) rfl rfl
  rw [List.set_cons_zero] at s3
  generalize hE6:E5.set E2.length (.cells [.slice (some ⟨C.length,0,none⟩) 0 0] 27 false)=E6 at *
  have at6:∀ {o y},o ≠ E2.length->E5[o]?=some y->E6[o]?=some y:=fun ho hy=>by rw [<- hE6,List.getElem?_set_ne (fun e=>ho e.symm)];exact hy
  have l6:E6.length=E5.length:=by rw [<- hE6];simp
  have c6:E6[E2.length]?=some (.cells [.slice (some ⟨C.length,0,none⟩) 0 0] 27 false):=by rw [<- hE6,List.getElem?_set_self (by omega)]
  have old:∀ {o y},o<D.length->D[o]?=some y->E6[o]?=some y:=fun ho hy=>at6 (by omega) (at5 (by omega) (at4 (by omega) (pre_at (pE1.trans (pE2.trans pE3)) hy)))
  have st7:=st_at (P:=Tryz.prog) (t:=144) (i:=0) (y:=.func (.func 189) #[] (List.toArray [.pointer (some ⟨E2.length,0,none⟩),.pointer (some ⟨H.length,0,none⟩),.pointer (some ⟨D.length,0,none⟩),.pointer (some ⟨E1.length,0,none⟩),.pointer (some ⟨E6.length,0,none⟩)])) csT (at_new E6 (.cells [.nilFunc] 144 false)) (by show 0<1;decide) rfl rfl
  rw [set_new,List.set_cons_zero] at st7
  simp (maxSteps:=1000000) (disch:=omega) only [s1,s2,s3,alloc_fT,mkf_5T,st7,ld_one agT,cell_new,SS,eq_self,reduceIte,reduceCtorEq,Nat.reduceEqDiff,Nat.reduceAdd]
  generalize hG:E6 ++ [AObj.cells [.func (.func 189) #[] (List.toArray [.pointer (some ⟨E2.length,0,none⟩),.pointer (some ⟨H.length,0,none⟩),.pointer (some ⟨D.length,0,none⟩),.pointer (some ⟨E1.length,0,none⟩),.pointer (some ⟨E6.length,0,none⟩)])] 144 false]=G
  have pG:E6<+:G:=by rw [<- hG];exact List.prefix_append _ _
  have cG:G[E6.length]?=some (.cells [.func (.func 189) #[] (List.toArray [.pointer (some ⟨E2.length,0,none⟩),.pointer (some ⟨H.length,0,none⟩),.pointer (some ⟨D.length,0,none⟩),.pointer (some ⟨E1.length,0,none⟩),.pointer (some ⟨E6.length,0,none⟩)])] 144 false):=by rw [<- hG];exact at_new ..
  have lG:G.length=E6.length+1:=by rw [<- hG];simp
  have oldG:∀ {o y},o<D.length->D[o]?=some y->G[o]?=some y:=fun ho hy=>pre_at pG (old ho hy)
  have pHD:=pA.trans (pB.trans (pC.trans pD))
  have pHG:H<+:G:=prefix_of fun o y hy=>oldG (by have:=at_lt hy;omega) (pre_at pHD hy)
  have gA:=oldG (by omega) (pre_at (pB.trans (pC.trans pD)) cA)
  have gB:=oldG (by omega) (pre_at (pC.trans pD) cB)
  have ga:=oldG (by omega) (pre_at pD hca)
  have gD:=oldG (by omega) cD
  have g4:=pre_at pG (at6 (by omega) (at5 (by omega) c4))
  have g5:=pre_at pG (at6 (by omega) c5)
  have g6:=pre_at pG c6
  have nob:∀ j,j ≠ A.length->¬ Obs A.length [] [] j:=by
    rintro j hj (e | ⟨i,hi,_⟩)
    . exact hj e
    . simp at hi
  have hO:IOut H D.length [] (fun j=>j=D.length∨Obs A.length [] [] j) G :=
    ⟨A.length,[],g4,⟨by omega,by omega,gB,Nat.le_refl _,fun i hi=>absurd hi (by simp),fun i j _ hi _=>absurd hi (by simp)⟩,by omega,nob _ (by omega),rfl⟩
  have nF:∀ {j},j ≠ D.length->j ≠ A.length->¬ ((fun j=>j=D.length∨Obs A.length [] [] j) j):=fun h1 h2 h=>h.elim h1 (nob _ h2)
  have hL:LSt H (trgFx n all H.length E1.length oa E6.length E2.length D.length) E2.length (fun j=>j=D.length∨Obs A.length [] [] j) G []:=by
    refine ⟨?_,⟨C.length,[],g6,gD,rfl,nF (by omega) (by omega),by omega,?_,by omega⟩,nF (by omega) (by omega),by omega,pHG⟩
    . intro q hq
      simp only [List.mem_cons,List.not_mem_nil,or_false] at hq
      rcases hq with rfl | rfl | rfl | rfl
      . exact ⟨gA,nF (by show H.length ≠ _;omega) (by show H.length ≠ _;omega),by show H.length ≠ _;omega⟩
      . exact ⟨g5,nF (by show E1.length ≠ _;omega) (by show E1.length ≠ _;omega),by show E1.length ≠ _;omega⟩
      . exact ⟨ga,nF (by show oa ≠ _;omega) (by show oa ≠ _;omega),by show oa ≠ _;omega⟩
      . exact ⟨cG,nF (by show E6.length ≠ _;omega) (by show E6.length ≠ _;omega),by show E6.length ≠ _;omega⟩
    . intro q hq
      simp only [List.mem_cons,List.not_mem_nil,or_false] at hq
      rcases hq with rfl | rfl | rfl | rfl
      . show H.length ≠ _;omega
      . show E1.length ≠ _;omega
      . show oa ≠ _;omega
      . show E6.length ≠ _;omega
  have hpw:2 ^ all.length<=2 ^ 28:=Nat.pow_le_pow_right (by decide) hk4
  have hf:=trg_c n (n - 3).toNat (by omega) (by omega) all hk4 hk5 H.length E1.length oa E6.length E2.length D.length all.length [] [] _ G (Nat.le_refl _) (by simp) (fun y hy=>absurd hy (by simp)) (by simp;omega) hO hL
  have z0:((0:Nat):Int)=0:=rfl
  rw [Nat.sub_self,z0] at hf
  refine CallH.by hf ?_
  rintro _ H' ⟨F',hO',hL'⟩
  have htri:triA n=[] ++ tex all (n - 3).toNat all.length []:=by unfold triA;rw [hall,List.nil_append]
  obtain ⟨o,us,h1,h2,_⟩:=hO'
  simp (maxSteps:=1000000) (disch:=omega) only [cell_of h1,SS,eq_self,reduceIte,reduceCtorEq,Nat.reduceEqDiff,Nat.reduceAdd]
  refine hQ _ _ _ ?_
  simp (maxSteps:=1000000) (disch:=omega) only [SS,eq_self,reduceIte,reduceCtorEq,Nat.reduceEqDiff,Nat.reduceAdd]
  rw [htri]
  exact ⟨h2.inl,hL'.pre⟩
theorem prm_range {p:List Int}(h:Prm p):(∀ i,i<p.length->0<=p.getD i 0/\p.getD i 0<p.length)/\∀ i j,i<p.length->j<p.length->p.getD i 0=p.getD j 0->i=j:=by
  have hm:=List.mergeSort_perm p (fun x y=>decide (x<=y))
  have hs:(p.mergeSort (fun x y=>decide (x<=y))).Pairwise (fun x y=>decide (x<=y)=true):=List.pairwise_mergeSort (fun a b c h1 h2=>by simp at *;omega) (fun a b=>by simp;omega) p
  have ha:Asc (p.mergeSort (fun x y=>decide (x<=y))):=by
    intro i j hij hj
    rw [List.pairwise_iff_getElem] at hs
    have:=hs i j (by omega) hj hij
    simp only [decide_eq_true_eq] at this
    rw [List.getD_eq_getElem?_getD,List.getD_eq_getElem?_getD,List.getElem?_eq_getElem hj,List.getElem?_eq_getElem (show i<(p.mergeSort (fun x y=>decide (x<=y))).length by omega)]
    exact this
  have hat:=prm_at h hm ha
  have hl:=hm.length_eq
  generalize p.mergeSort (fun x y=>decide (x<=y))=ys at *
  have mem:∀ y ∈ p,0<=y/\y<p.length:=by
    intro y hy
    obtain ⟨i,hi,e⟩:=pos_ex (hm.mem_iff.2 hy)
    rw [hat i hi] at e
    omega
  have nd:ys.Nodup:=by
    rw [List.Nodup,List.pairwise_iff_getElem]
    intro i j hi hj hij e
    have h1:=hat i hi
    have h2:=hat j hj
    simp only [List.getD_eq_getElem?_getD,List.getElem?_eq_getElem hi,List.getElem?_eq_getElem hj,Option.getD_some] at h1 h2
    omega
  have pd:p.Nodup:=hm.nodup_iff.1 nd
  refine ⟨fun i hi=>mem _ (by simp [hi]),fun i j hi hj e=>?_⟩
  rw [List.Nodup,List.pairwise_iff_getElem] at pd
  simp only [List.getD_eq_getElem?_getD,List.getElem?_eq_getElem hi,List.getElem?_eq_getElem hj,Option.getD_some] at e
  rcases Nat.lt_trichotomy i j with g | g | g
  . exact absurd e (pd i j hi hj g)
  . exact g
  . exact absurd e.symm (pd j i hj hi g)
def orb (p:List Int)(x y:Int):Nat->List Int
  | 0=>[]
  | n+1=>if y=x then [] else y :: orb p x (p.getD y.toNat 0) n
def cycC (p:List Int)(x:Int):List Int:=x :: orb p x (p.getD x.toNat 0) p.length
theorem orb_self (p:List Int)(x:Int)(n:Nat):orb p x x n=[]:=by cases n <;> simp [orb]
structure Way (p:List Int) (x:Int) (c:List Int) (y:Int):Prop where
  rng:∀ z ∈ c,0<=z/\z<p.length
  nd:c.Nodup
  ne:c ≠ []
  head:c.getD 0 0=x
  step:∀ i,i+1<c.length->c.getD (i+1) 0=p.getD (c.getD i 0).toNat 0
  last:y=p.getD (c.getD (c.length - 1) 0).toNat 0
  tail:cycC p x=c ++ orb p x y (p.length+1 - c.length)
theorem nodup_len (n:Nat):∀ (c:List Int),c.Nodup->(∀ z ∈ c,0<=z/\z<(n:Int))->c.length<=n:=by
  induction n with
  | zero =>
    intro c _ h
    cases c with
    | nil=>simp
    | cons z c=>have:=h z (by simp);omega
  | succ n ih =>
    intro c hn h
    have hn':=hn.erase (n:Int)
    have hl:c.length<=(c.erase (n:Int)).length+1:=by
      rw [List.length_erase];split <;> omega
    have:=ih (c.erase (n:Int)) hn' (fun z hz=>by
      have h1:=h z (List.mem_of_mem_erase hz)
      have h2:z ≠ n:=fun e=>by
        subst e
        exact (hn.not_mem_erase) hz
      omega)
    omega
theorem Way.len {p:List Int}{x y:Int}{c:List Int}(h:Way p x c y):1<=c.length/\c.length<=p.length:=by
  refine ⟨?_,nodup_len _ c h.nd h.rng⟩
  have:=h.ne
  cases c with
  | nil=>exact absurd rfl this
  | cons _ _=>simp
theorem getD_mem {c:List Int}{i:Nat}(h:i<c.length):c.getD i 0 ∈ c:=by simp [h]
theorem Way.yrng {p:List Int}{x y:Int}{c:List Int}(hp:Prm p)(h:Way p x c y):0<=y/\y<p.length:=by
  have hl:=h.len
  have:=h.rng _ (getD_mem (show c.length - 1<c.length by omega))
  rw [h.last]
  exact (prm_range hp).1 _ (by omega)
theorem Way.back {p:List Int}{x y:Int}{c:List Int}(hp:Prm p)(h:Way p x c y)(hy:y ∈ c):y=x:=by
  have hl:=h.len
  obtain ⟨i,hi,e⟩:=pos_ex hy
  by_cases h0:i=0
  . subst h0;rw [<- e,h.head]
  . have h1:=h.step (i - 1) (by omega)
    rw [show i - 1+1=i from by omega,e,h.last] at h1
    have r1:=h.rng _ (getD_mem (show c.length - 1<c.length by omega))
    have r2:=h.rng _ (getD_mem (show i - 1<c.length by omega))
    have:=(prm_range hp).2 _ _ (by omega) (by omega) h1
    have e2:c.getD (c.length - 1) 0=c.getD (i - 1) 0:=by omega
    have nd:=h.nd
    rw [List.Nodup,List.pairwise_iff_getElem] at nd
    simp only [List.getD_eq_getElem?_getD,List.getElem?_eq_getElem (show c.length - 1<c.length by omega),List.getElem?_eq_getElem (show i - 1<c.length by omega),Option.getD_some] at e2
    exact absurd e2.symm (nd (i - 1) (c.length - 1) (by omega) (by omega) (by omega))
set_option linter.unusedVariables false in
theorem Way.first {p:List Int}(hp:Prm p){x:Nat}(hx:x<p.length):Way p (x:Int) [(x:Int)] (p.getD x 0) :=
  ⟨fun z hz=>by simp at hz;omega,by simp,by simp,rfl,fun i hi=>by simp at hi,by simp,by simp [cycC]⟩
set_option linter.unusedVariables false in
theorem Way.next {p:List Int}{x y:Int}{c:List Int}(hp:Prm p)(h:Way p x c y)(hy:y ≠ x):Way p x (c ++ [y]) (p.getD y.toNat 0):=by
  have hl:=h.len
  have hyr:=h.yrng hp
  have hni:y ∉ c:=fun hm=>hy (h.back hp hm)
  have hnd:(c ++ [y]).Nodup:=List.nodup_append.2 ⟨h.nd,by simp,fun a ha b hb e=>by simp at hb;subst hb;exact hni (e ▸ ha)⟩
  have hlen:=nodup_len p.length (c ++ [y]) hnd (fun z hz=>by
    rcases List.mem_append.1 hz with g | g
    . exact h.rng z g
    . simp at g;rw [g];exact hyr)
  simp only [List.length_append,List.length_cons,List.length_nil] at hlen
  have at1:∀ i,i<c.length->(c ++ [y]).getD i 0=c.getD i 0:=fun i hi=>by
    rw [List.getD_eq_getElem?_getD,List.getD_eq_getElem?_getD,List.getElem?_append_left hi]
  have at2:(c ++ [y]).getD c.length 0=y:=by
    rw [List.getD_eq_getElem?_getD,List.getElem?_append_right (Nat.le_refl _)];simp
  refine ⟨fun z hz=>?_,hnd,by simp,by rw [at1 0 (by omega)];exact h.head,fun i hi=>?_,?_,?_⟩
  . rcases List.mem_append.1 hz with g | g
    . exact h.rng z g
    . simp at g;rw [g];exact hyr
  . simp only [List.length_append,List.length_cons,List.length_nil] at hi
    by_cases c1:i+1<c.length
    . rw [at1 _ c1,at1 _ (by omega)];exact h.step i c1
    . have:i=c.length - 1:=by omega
      subst this
      rw [show c.length - 1+1=c.length from by omega,at2,at1 _ (by omega)]
      exact h.last
  . simp only [List.length_append,List.length_cons,List.length_nil,Nat.add_sub_cancel]
    rw [at2]
  . have:=h.tail
    obtain ⟨n,hn⟩:∃ n,p.length+1 - c.length=n+1:=⟨p.length - c.length,by omega⟩
    rw [hn] at this
    simp only [orb,if_neg hy] at this
    rw [this]
    simp only [List.length_append,List.length_cons,List.length_nil,List.append_assoc,List.cons_append,List.nil_append]
    rw [show p.length+1 - (c.length+(0+1))=n from by omega]
theorem Way.done {p:List Int}{x:Int}{c:List Int}(h:Way p x c x):c=cycC p x:=by
  rw [h.tail,orb_self,List.append_nil]
def Shut (p s:List Int):Prop:=(∀ z ∈ s,0<=z/\z<p.length)/\∀ z:Nat,z<p.length->p.getD z 0 ∈ s->(z:Int) ∈ s
theorem Way.out {p s:List Int}{x y:Int}{c:List Int}(h:Way p x c y)(hs:Shut p s)(hd:∀ z ∈ c,z ∉ s):y ∉ s:=by
  have hl:=h.len
  have hm:=getD_mem (show c.length - 1<c.length by omega)
  have r:=h.rng _ hm
  intro hy
  rw [h.last] at hy
  have:=hs.2 (c.getD (c.length - 1) 0).toNat (by omega) hy
  rw [show (((c.getD (c.length - 1) 0).toNat:Nat):Int)=c.getD (c.length - 1) 0 from by omega] at this
  exact hd _ hm this
def ax (q:List Int)(x:Int):Int:=idxP (fun y=>decide (x=y)) q 0
theorem idxP_at (p:Int->Bool):∀ (xs:List Int) (k:Nat),xs.any p=true->∃ i:Nat,i<xs.length/\idxP p xs k=((k+i:Nat):Int)/\p (xs.getD i 0)=true
  | [],k,h=>by simp at h
  | x :: xs,k,h=>by
    by_cases hx:p x=true
    . exact ⟨0,by simp,by simp [idxP,hx],by simpa using hx⟩
    . have:xs.any p=true:=by simpa [hx] using h
      obtain ⟨i,h1,h2,h3⟩:=idxP_at p xs (k+1) this
      refine ⟨i+1,by simpa using h1,?_,by simpa using h3⟩
      rw [idxP,if_neg hx,h2]
      congr 1;omega
theorem ax_at {q:List Int}{x:Int}(h:x ∈ q):∃ i:Nat,i<q.length/\ax q x=(i:Int)/\q.getD i 0=x:=by
  obtain ⟨i,h1,h2,h3⟩:=idxP_at (fun y=>decide (x=y)) q 0 (by simpa using h)
  refine ⟨i,h1,by rw [ax,h2];congr 1;omega,?_⟩
  have:=of_decide_eq_true h3
  exact this.symm
def swp (p:List Int)(a b:Nat):List Int:=(p.set a (p.getD b 0)).set b (p.getD a 0)
theorem swp_len (p:List Int)(a b:Nat):(swp p a b).length=p.length:=by simp [swp]
theorem swp_at (p:List Int)(a b k:Nat)(ha:a<p.length)(hb:b<p.length)(hk:k<p.length):(swp p a b).getD k 0=if k=b then p.getD a 0 else if k=a then p.getD b 0 else p.getD k 0:=by
  unfold swp
  rw [List.getD_eq_getElem?_getD,List.getElem?_set]
  by_cases h1:b=k
  . subst h1
    rw [if_pos rfl,if_pos (by simpa using hb),if_pos rfl];rfl
  . rw [if_neg h1,if_neg (fun e=>h1 e.symm),List.getElem?_set]
    by_cases h2:a=k
    . subst h2
      rw [if_pos rfl,if_pos ha,if_pos rfl];rfl
    . rw [if_neg h2,if_neg (fun e=>h2 e.symm),<- List.getD_eq_getElem?_getD]
theorem mem_getD {q:List Int}{k:Nat}(h:k<q.length):q.getD k 0 ∈ q:=by simp [h]
theorem swp_prm {p:List Int}(h:Prm p){a b:Nat}(ha:a<p.length)(hb:b<p.length):Prm (swp p a b):=by
  refine ⟨by rw [swp_len];exact h.1,fun x hx=>?_⟩
  rw [swp_len] at hx
  obtain ⟨i,hi,e⟩:=pos_ex (h.2 x hx)
  have mk:∀ k,k<p.length->(swp p a b).getD k 0=x->(x:Int) ∈ swp p a b:=fun k hk e=>by
    rw [<- e];exact mem_getD (by rw [swp_len];exact hk)
  by_cases h1:i=a
  . subst h1;exact mk b hb (by rw [swp_at p _ b b ha hb hb,if_pos rfl];exact e)
  . by_cases h2:i=b
    . subst h2
      by_cases h3:a=i
      . exact absurd h3.symm h1
      . exact mk a ha (by rw [swp_at p a _ a ha hb ha,if_neg h3,if_pos rfl];exact e)
    . exact mk i hi (by rw [swp_at p a b i ha hb hi,if_neg h2,if_neg h1];exact e)
structure SrtOk (p:List Int) (x:Nat) (o:List (Int × Int)) (q:List Int):Prop where
  prm:Prm q
  len:q.length=p.length
  fix:∀ y,y<x->q.getD y 0=y
  few:o.length<=x
theorem SrtOk.place {p:List Int}{x:Nat}{o:List (Int × Int)}{q:List Int}(h:SrtOk p x o q)(hx:x<p.length):∃ i:Nat,x<=i/\i<p.length/\ax q x=(i:Int)/\q.getD i 0=x/\(q.getD x 0=x↔i=x):=by
  obtain ⟨i,h1,h2,h3⟩:=ax_at (h.prm.2 x (by rw [h.len];exact hx))
  have hl:=h.len
  refine ⟨i,?_,by omega,h2,h3,fun e=>?_,fun e=>by rw [<- e];rw [h3];rw [e]⟩
  . by_cases hlt:i<x
    . have:=h.fix i hlt
      omega
    . omega
  . exact (prm_range h.prm).2 i x h1 (by omega) (by rw [h3,e])
theorem SrtOk.next {p:List Int}{x i:Nat}{o:List (Int × Int)}{q:List Int}(h:SrtOk p x o q)(hx:x<p.length)(h1:x<=i)(h2:i<p.length)(h3:q.getD i 0=x)(hne:i ≠ x):SrtOk p (x+1) (o ++ [((x:Int),(i:Int))]) (swp q x i):=by
  have hl:=h.len
  refine ⟨swp_prm h.prm (by omega) (by omega),by rw [swp_len];exact hl,fun y hy=>?_,by have:=h.few;simp;omega⟩
  rw [swp_at q x i y (by omega) (by omega) (by omega),if_neg (by omega)]
  by_cases hc:y=x
  . rw [if_pos hc,h3,hc]
  . rw [if_neg hc];exact h.fix y (by omega)
def swOk (n:Nat)(s:Int × Int):Prop:=0<=s.1/\s.1<s.2/\s.2<n
instance (n:Nat) (s:Int × Int):Decidable (swOk n s):=inferInstanceAs (Decidable (_/\_))
def plcOk (p:List Int)(ss:List (Int × Int)):Prop:=Prm p/\∀ s ∈ ss,swOk p.length s
instance (p:List Int) (ss:List (Int × Int)):Decidable (plcOk p ss):=inferInstanceAs (Decidable (_/\_))
def cd151:Cd:=(.seq (.reg [⟨⟨some 2,.assign (.const (.slice none 0 0)),none⟩,[]⟩]) (.seq (.reg [⟨⟨some 3,.buildSlice 27 0 #[],none⟩,[]⟩,
  ⟨⟨some 4,.move (.tmp 0),none⟩,[]⟩,
  ⟨⟨some 5,.call ⟨(.builtin .append),#[.tmp 3,.tmp 4],#[27,27]⟩,none⟩,[]⟩,
  ⟨⟨some 2,.assign (.tmp 5),none⟩,[]⟩]) .ret))
theorem in151:InT Tryz.prog 151 1 [.tmp 2] cd151:=InT.mk (by kernel_rfl) [] Tryz.func151 rfl (by kernel_rfl) (by kernel_rfl) (of_decide_eq_true (by kernel_rfl)) (by kernel_rfl)
end Go.Proofs.YtjnefjchconebaaGreat.Ai
namespace Go.Proofs.YtjnefjchconebaaGreat.Ai
open Go Go.RowKit
theorem l1Own_c (v:Value)(xs:List Int)(H:AH)(hr:Row 3 H v xs)(hlen:xs.length<=1099511627776):ACalls Tryz.prog 151 [v] H fun r H'=>Own 3 H H' r xs/\H<+:H':=by
  refine in151 rfl ?_
  intro Q hQ
  simp (maxSteps:=1000000) (disch:=omega) only [cd151,SS,eq_self,reduceIte,reduceCtorEq,Nat.reduceEqDiff,Nat.reduceAdd]
  have hp:=List.prefix_append H [AObj.cells [] 3 false]
  have ho:Own 3 H (H ++ [AObj.cells [] 3 false]) (.slice (some ⟨H.length,0,none⟩) 0 0) []:=.inr ⟨H.length,rfl,Nat.le_refl _,at_new ..⟩
  obtain ⟨v',H2,k1,k2,k3,_⟩:=ho.app (P:=Tryz.prog) (t:=27) Tryz.underlying27 cs3 (by rw [by3];decide) zk3 (hr.pre hp) hp (by simp;omega)
  simp (maxSteps:=1000000) (disch:=omega) only [k1,SS,eq_self,reduceIte,reduceCtorEq,Nat.reduceEqDiff,Nat.reduceAdd]
  refine hQ _ _ _ ?_
  simp (maxSteps:=1000000) (disch:=omega) only [k2.row.tup,SS,eq_self,reduceIte,reduceCtorEq,Nat.reduceEqDiff,Nat.reduceAdd]
  exact ⟨k2,k3⟩
def cd180:Cd:=(.seq (.reg [⟨⟨some 6,.assign (.const (.slice none 0 0)),none⟩,[]⟩]) (.seq (.seq (.reg [⟨⟨some 9,.move (.tmp 2),none⟩,[]⟩,⟨⟨some 10,.call ⟨(.builtin .len),#[.tmp 9],#[27]⟩,none⟩,[]⟩,⟨⟨some 11,.move (.tmp 0),none⟩,[]⟩,⟨⟨some 12,.binOp .sub 3 (.tmp 11) (.const (.int .i64 3)) 3,none⟩,[]⟩,⟨⟨some 13,.binOp .eql 3 (.tmp 10) (.tmp 12) 3,none⟩,[]⟩]) (.cond (.tmp 13) (.seq (.reg [⟨⟨some 14,.move (.tmp 2),none⟩,[]⟩,⟨⟨some 15,.buildSlice 36 1 #[(0,.tmp 14)],none⟩,[]⟩,⟨⟨some 6,.assign (.tmp 15),none⟩,[]⟩]) .ret) .skip)) (.seq (.reg [⟨⟨some 16,.buildSlice 36 0 #[],none⟩,[]⟩,⟨⟨some 7,.assign (.tmp 16),none⟩,[]⟩]) (.seq (.seq (.reg [⟨⟨some 8,.assign (.const (.int .i64 0)),none⟩,[]⟩]) (.block 0 (.loop (.seq (.seq (.reg [⟨⟨some 17,.move (.tmp 8),none⟩,[]⟩,⟨⟨some 18,.move (.tmp 1),none⟩,[]⟩,⟨⟨some 19,.call ⟨(.builtin .len),#[.tmp 18],#[27]⟩,none⟩,[]⟩,⟨⟨some 20,.binOp .lss 3 (.tmp 17) (.tmp 19) 3,none⟩,[]⟩]) (.cond (.tmp 20) .skip (.exit 0))) (.seq (.block 1 (.seq (.seq (.reg [⟨⟨some 23,.move (.tmp 2),none⟩,[]⟩,⟨⟨some 24,.call ⟨(.builtin .len),#[.tmp 23],#[27]⟩,none⟩,[]⟩,
 ⟨⟨some 25,.binOp .gtr 3 (.tmp 24) (.const (.int .i64 0)) 3,none⟩,[]⟩,⟨⟨some 26,.move (.tmp 25),none⟩,[]⟩,⟨⟨some 27,.move (.tmp 1),some (26,true)⟩,[]⟩,⟨⟨some 28,.move (.tmp 8),some (26,true)⟩,[]⟩,⟨⟨some 29,.indexAddr 27 (.tmp 27) (.tmp 28),some (26,true)⟩,[]⟩,⟨⟨some 30,.load 3 (.tmp 29),some (26,true)⟩,[]⟩,⟨⟨some 31,.move (.tmp 2),some (26,true)⟩,[]⟩,⟨⟨some 32,.move (.tmp 2),some (26,true)⟩,[]⟩,⟨⟨some 33,.call ⟨(.builtin .len),#[.tmp 32],#[27]⟩,some (26,true)⟩,[]⟩,⟨⟨some 34,.binOp .sub 3 (.tmp 33) (.const (.int .i64 1)) 3,some (26,true)⟩,[]⟩,⟨⟨some 35,.indexAddr 27 (.tmp 31) (.tmp 34),some (26,true)⟩,[]⟩,⟨⟨some 36,.load 3 (.tmp 35),some (26,true)⟩,[]⟩,
 ⟨⟨some 37,.binOp .leq 3 (.tmp 30) (.tmp 36) 3,some (26,true)⟩,[]⟩,⟨⟨some 38,.pick (.tmp 26) (.tmp 37) (.const (.bool false)),none⟩,[]⟩,⟨⟨some 39,.move (.tmp 38),none⟩,[]⟩,⟨⟨some 40,.move (.tmp 2),some (39,false)⟩,[]⟩,⟨⟨some 41,.move (.tmp 1),some (39,false)⟩,[]⟩,⟨⟨some 42,.move (.tmp 8),some (39,false)⟩,[]⟩,⟨⟨some 43,.indexAddr 27 (.tmp 41) (.tmp 42),some (39,false)⟩,[]⟩,⟨⟨some 44,.load 3 (.tmp 43),some (39,false)⟩,[]⟩,⟨⟨some 45,.call ⟨(.value (.func 173)),#[.tmp 40,.tmp 44],#[27,3]⟩,some (39,false)⟩,[]⟩,⟨⟨some 46,.unOp .not 4 (.tmp 45),some (39,false)⟩,[]⟩,⟨⟨some 47,.pick (.tmp 39) (.const (.bool true)) (.tmp 46),none⟩,[]⟩]) (.cond (.tmp 47) (.exit 1) .skip)) (.reg [⟨⟨some 48,.move (.tmp 7),none⟩,[]⟩,⟨⟨some 49,.move (.tmp 0),none⟩,[]⟩,
 ⟨⟨some 50,.move (.tmp 1),none⟩,[]⟩,⟨⟨some 51,.move (.tmp 2),none⟩,[]⟩,⟨⟨some 53,.move (.tmp 1),none⟩,[]⟩,⟨⟨some 54,.move (.tmp 8),none⟩,[]⟩,⟨⟨some 55,.indexAddr 27 (.tmp 53) (.tmp 54),none⟩,[]⟩,⟨⟨some 56,.load 3 (.tmp 55),none⟩,[]⟩,⟨⟨some 57,.buildSlice 27 1 #[(0,.tmp 56)],none⟩,[]⟩,⟨⟨some 52,.call ⟨(.value (.func 151)),#[.tmp 51],#[27]⟩,none⟩,[⟨some 57,.buildSlice 27 1 #[(0,.tmp 56)],none⟩,⟨some 56,.load 3 (.tmp 55),none⟩]⟩,⟨⟨some 58,.call ⟨(.builtin .append),#[.tmp 52,.tmp 57],#[27,27]⟩,none⟩,[]⟩,⟨⟨some 59,.call ⟨(.value (.func 180)),#[.tmp 49,.tmp 50,.tmp 58],#[3,27,27]⟩,none⟩,[]⟩,⟨⟨some 60,.call ⟨(.builtin .append),#[.tmp 48,.tmp 59],#[36,36]⟩,none⟩,[]⟩,⟨⟨some 7,.assign (.tmp 60),none⟩,[]⟩]))) (.reg [⟨⟨some 21,.move (.tmp 8),none⟩,[]⟩,
 ⟨⟨some 22,.binOp .add 3 (.tmp 21) (.const (.int .i64 1)) 3,none⟩,[]⟩,
  ⟨⟨some 8,.assign (.tmp 22),none⟩,[]⟩])))))) (.seq (.reg [⟨⟨some 61,.move (.tmp 7),none⟩,[]⟩,
  ⟨⟨some 6,.assign (.tmp 61),none⟩,[]⟩]) .ret)))))
theorem in180:InT Tryz.prog 180 3 [.tmp 6] cd180:=InT.mk (by kernel_rfl) [(7,[(0,false),(1,false),(2,false),(3,false),(4,false),(5,false),(6,false),(7,false),(8,false),(9,false),(10,false),(11,false),(12,false),(13,false),(14,false),(15,false),(16,false),(17,false),(18,false),(19,false),(20,false),(21,false),(22,true),(23,false),(24,false)]),(8,[(0,false),(1,false),(2,false),(3,false),(5,false),(6,false),(7,false),(8,false),(9,false),(4,true),(10,true),(11,true),(12,true),(13,true)])] Tryz.func180 rfl (by kernel_rfl) (by kernel_rfl) (of_decide_eq_true (by kernel_rfl)) (by kernel_rfl)
end Go.Proofs.YtjnefjchconebaaGreat.Ai
namespace Go.Proofs.YtjnefjchconebaaGreat.Ai
open Go Go.RowKit
theorem tlp_zero (all:List Int)(h:Nat)(ed:List Int):tlp all h 0 ed=[]:=rfl
theorem l8Fill_c (n:Int)(h:Nat)(hn:n - 3=(h:Int))(hh:h<=100)(va:Value)(all:List Int)(hN:all.length<=28)(hall:∀ y ∈ all,0<=y/\y<=100)(hasc:∀ i j,i<j->j<all.length->all.getD i 0<all.getD j 0) :
    ∀ (r:Nat) (ed:List Int) (w:Value) (lo:Nat) (H:AH),Row 3 H va all->InI lo H.length 3 H w ed->lo<=H.length->r<=all.length->ed.length+r<=all.length->(∀ y ∈ ed,0<=y/\y<=100)->(ed.length=0->r=all.length)->(0<ed.length->0<all.length - r/\ed.getD (ed.length - 1) 0=all.getD (all.length - r - 1) 0) ->
      ACalls Tryz.prog 180 [.int .i64 n,va,w] H fun g H'=>InL lo H'.length 27 3 H' g (tex all h r ed)/\H<+:H':=by
  intro r
  induction r using Nat.strongRecOn with
  | ind r ih =>
  intro ed w lo H hr hw hlo hrl hel hed hz hlast
  have hrow:=hw.row.1
  refine in180 rfl ?_
  intro Q hQ
  simp (maxSteps:=1000000) (disch:=omega) only [cd180,hrow.len Tryz.underlying27,wrap64,SS,eq_self,reduceIte,reduceCtorEq,Nat.reduceEqDiff,Nat.reduceAdd]
  refine brD.intro (fun e=>?_) (fun e=>?_)
  . have hek:ed.length=h:=by omega
    have ht:tex all h r ed=[ed]:=by unfold tex;rw [if_pos hek]
    rw [ht] at hQ
    have hbs:buildSliceA Tryz.prog 36 1 [(0,w)] H=some (.slice (some ⟨H.length,0,none⟩) 1 1,H ++ [.cells [w] 27 false]):=by
      obtain ⟨q,eq⟩:=hrow.shape
      rw [eq]
      exact bs1 Tryz.underlying36 cs27 ze27 ⟨by kernel_rfl,by kernel_rfl⟩ H rfl
    simp (maxSteps:=1000000) (disch:=omega) only [hbs,SS,eq_self,reduceIte,reduceCtorEq,Nat.reduceEqDiff,Nat.reduceAdd]
    refine hQ _ _ _ ?_
    simp (maxSteps:=1000000) (disch:=omega) only [SS,eq_self,reduceIte,reduceCtorEq,Nat.reduceEqDiff,Nat.reduceAdd]
    refine ⟨.inr ⟨H.length,[w],rfl,?_⟩,List.prefix_append _ _⟩
    refine ⟨by omega,by simp,at_new ..,by simp,?_,?_⟩
    . intro i hi
      have hi0:i=0:=by simpa using hi
      subst hi0
      refine ⟨(hw.pre (List.prefix_append H _)).wide (Nat.le_refl _) (by simp),?_⟩
      rcases hw.at_ with q | q
      . exact .inl q
      . refine .inr ?_
        show rowO w ≠ H.length
        omega
    . intro i j hij hi hj
      simp at hi hj;omega
  have hek:ed.length ≠ h:=by omega
  have ht:tex all h r ed=tlp all h r ed:=by unfold tex;rw [if_neg hek]
  rw [ht] at hQ
  have u0:=InU.new lo 27 3 H hlo
  have hPr:2 ^ r<=2 ^ 28:=Nat.pow_le_pow_right (by decide) (by omega)
  have etd:((ed.length:Int) - 1).toNat=ed.length - 1:=by omega
  simp (maxSteps:=1000000) (disch:=omega) only [e,SS,eq_self,reduceIte,reduceCtorEq,Nat.reduceEqDiff,Nat.reduceAdd]
  refine LoopH.by (fun m s H'=>∃ i o us L,m+i=all.length/\s 0=.int .i64 n/\s 1=va/\s 2=w/\s 7=.slice (some ⟨o,0,none⟩) L.length L.length/\s 8=.int .i64 ((i:Nat):Int)/\H.length<=o/\InU lo H'.length 27 3 H' o us L/\L ++ tlp all h (min r m) ed=tlp all h r ed/\L.length+2 ^ (min r m)<=2 ^ r/\H<+:H') all.length ?_ ?_
  . refine ⟨0,H.length,[],[],by simp,rfl,rfl,rfl,rfl,rfl,Nat.le_refl _,?_,?_,?_,List.prefix_append _ _⟩
    . simpa using u0
    . rw [Nat.min_eq_left hrl];rfl
    . rw [Nat.min_eq_left hrl];simp
  rintro m s H' ⟨i,o,us,L,hm,h0,h1,h2,h7,h8,hoA,hin,hL,hcnt,hp⟩
  have hrH:=hr.pre hp
  have wH:=hrow.pre hp
  simp (maxSteps:=1000000) (disch:=omega) only [h0,h1,h2,h7,h8,hrH.len Tryz.underlying27,SS,eq_self,reduceIte,reduceCtorEq,Nat.reduceEqDiff,Nat.reduceAdd]
  refine brD.intro (fun g=>?_) (fun g=>?_)
  rotate_left
  . have hm0:m=0:=by omega
    subst hm0
    rw [Nat.min_eq_right (Nat.zero_le _),tlp_zero,List.append_nil] at hL
    simp (maxSteps:=1000000) (disch:=omega) only [h7,SS,eq_self,reduceIte,reduceCtorEq,Nat.reduceEqDiff,Nat.reduceAdd]
    refine hQ _ _ _ ?_
    simp (maxSteps:=1000000) (disch:=omega) only [h7,SS,eq_self,reduceIte,reduceCtorEq,Nat.reduceEqDiff,Nat.reduceAdd]
    rw [<- hL]
    exact ⟨hin.inl,hp⟩
  have hi:i<all.length:=by omega
  have hdm:all.getD i 0 ∈ all:=by simp [hi]
  have hdr:=hall _ hdm
  simp (maxSteps:=1000000) (disch:=omega) only [h0,h1,h2,h7,h8,wH.len Tryz.underlying27,SS,eq_self,reduceIte,reduceCtorEq,Nat.reduceEqDiff,Nat.reduceAdd]
  refine brD.intro (fun g3=>?_) (fun g3=>?_)
  . obtain ⟨hl1,hl2⟩:=hlast (by omega)
    have hlc:=wH.cell (show ed.length - 1<ed.length by omega)
    rw [hl2] at hlc
    have hdc0:=hrH.cell hi
    simp (maxSteps:=1000000) (disch:=omega) only [g3,h0,h1,h2,h7,h8,etd,wH.len Tryz.underlying27,wH.ix Tryz.underlying27 cs3,hrH.ix Tryz.underlying27 cs3,hlc,hdc0,Int.toNat_natCast,wrap64,SS,eq_self,reduceIte,reduceCtorEq,Nat.reduceEqDiff,Nat.reduceAdd]
    refine brD.intro (fun g4=>?_) (fun g4=>?_)
    . have hlt:i<all.length - r:=by
        apply Decidable.byContradiction
        intro hc
        have:=hasc (all.length - r - 1) i (by omega) hi
        omega
      have hm1:min r m=r:=Nat.min_eq_left (by omega)
      have hm2:min r (m - 1)=r:=Nat.min_eq_left (by omega)
      rw [hm1] at hL hcnt
      simp (maxSteps:=1000000) (disch:=omega) only [g3,g4,h0,h1,h2,h7,h8,wrap64,SS,eq_self,reduceIte,reduceCtorEq,Nat.reduceEqDiff,Nat.reduceAdd]
      refine ⟨m - 1,by omega,i+1,o,us,L,by omega,?_⟩
      rw [hm2]
      (repeat' first | exact hin | exact hL | exact hcnt | exact hp | apply And.intro) <;> first | (simp only [Value.int.injEq,true_and];omega) | omega | rfl | assumption | (simp;done) | (simp;omega)
    . have hB0:all.length - r<=i:=by
        apply Decidable.byContradiction
        intro hc
        by_cases he:i=all.length - r - 1
        . rw [he] at g4;omega
        . have:=hasc i (all.length - r - 1) (by omega) (by omega)
          omega
      obtain ⟨j,rfl⟩:∃ j,m=j+1:=⟨m - 1,by omega⟩
      have hmr:min r (j+1)=j+1:=Nat.min_eq_right (by omega)
      have hmr2:min r j=j:=Nat.min_eq_right (by omega)
      rw [hmr] at hL hcnt
      have hNi:all.length - (j+1)=i:=by omega
      have hstep:=tlp_step all h j ed
      rw [hNi] at hstep
      have hP:2 ^ (j+1)=2 ^ j+2 ^ j:=by rw [Nat.pow_succ];omega
      have hpi:1<=2 ^ j:=Nat.one_le_two_pow
      generalize hd:all.getD i 0=d at *
      have hdc:=hrH.cell hi
      rw [hd] at hdc
      simp (maxSteps:=1000000) (disch:=omega) only [g3,g4,h0,h1,h2,h7,h8,hrH.ix Tryz.underlying27 cs3,hdc,Int.toNat_natCast,SS,eq_self,reduceIte,reduceCtorEq,Nat.reduceEqDiff,Nat.reduceAdd]
      refine CallH.by (l8Apart_c w ed d H' wH (by omega) (fun y hy=>by have:=hed y hy;exact ⟨by omega,by omega⟩) ⟨by omega,by omega⟩) ?_
      rintro _ _ ⟨rfl,rfl⟩
      have hap:(!ed.any fun y=>decide (Crs y d))=apB ed d:=rfl
      rw [hap]
      cases hq:apB ed d
      . rw [hq] at hstep
        simp only [Bool.false_eq_true,if_false,List.nil_append] at hstep
        rw [hstep] at hL
        simp (maxSteps:=1000000) (disch:=omega) only [g3,g4,h0,h1,h2,h7,h8,wrap64,SS,eq_self,reduceIte,reduceCtorEq,Nat.reduceEqDiff,Nat.reduceAdd]
        refine ⟨j,by omega,i+1,o,us,L,by omega,?_⟩
        rw [hmr2]
        have f1:L.length+2 ^ j<=2 ^ r:=by omega
        (repeat' first | exact hin | exact hL | exact f1 | exact hp | apply And.intro) <;> first | (simp only [Value.int.injEq,true_and];omega) | omega | rfl | assumption | (simp;done) | (simp;omega)
      . rw [hq,if_pos rfl] at hstep
        simp (maxSteps:=1000000) (disch:=omega) only [g3,g4,h0,h1,h2,h7,h8,hrH.ix Tryz.underlying27 cs3,hdc,Int.toNat_natCast,SS,eq_self,reduceIte,reduceCtorEq,Nat.reduceEqDiff,Nat.reduceAdd]
        generalize hB:H' ++ [AObj.cells [.int .i64 d] 3 false]=B
        have pB:H'<+:B:=by rw [<- hB];exact List.prefix_append _ _
        have cB:B[H'.length]?=some (.cells [.int .i64 d] 3 false):=by rw [<- hB];exact at_new ..
        have lB:B.length=H'.length+1:=by rw [<- hB];simp
        refine CallH.by (l1Own_c w ed B (wH.pre pB) (by omega)) ?_
        rintro c C ⟨hc,pC⟩
        have cC:=pre_at pC cB
        have hrC:=hrH.pre (pB.trans pC)
        have hdC:=hrC.cell hi
        rw [hd] at hdC
        have hx:Row 3 C (.slice (some ⟨H'.length,0,none⟩) 1 1) [d]:=.inr ⟨H'.length,0,[.int .i64 d],false,rfl,cC,by simp,rfl⟩
        obtain ⟨v',H2,k1,k2,k3,k4,k5⟩:=hc.app (P:=Tryz.prog) Tryz.underlying27 cs3 (by rw [by3];decide) zk3 hx pC (by simp;omega)
        have pH2:=pB.trans k3
        simp (maxSteps:=1000000) (disch:=omega) only [g3,g4,h0,h1,h2,h7,h8,hdC,cC,cB,k1,SS,eq_self,reduceIte,reduceCtorEq,Nat.reduceEqDiff,Nat.reduceAdd]
        have hrec:=ih j (by omega) (ed ++ [d]) v' B.length H2 (hrH.pre pH2) (InI.of k2.mine) k3.length_le (by omega) (by simp;omega) (fun y hy=>by
          rcases List.mem_append.1 hy with hy | hy
          . exact hed y hy
          . simp at hy;rw [hy];exact hdr) (fun h0=>by simp at h0) (fun _=>⟨by omega,by
            have e1:(ed ++ [d]).getD ((ed ++ [d]).length - 1) 0=d:=by
              rw [List.length_append,List.getD_eq_getElem?_getD,List.getElem?_append_right (by simp)];simp
            have e2:all.length - j - 1=i:=by omega
            rw [e1,e2,hd]⟩)
        refine CallH.by hrec ?_
        rintro gL H3 ⟨hgL,p3⟩
        have htl:(tex all h j (ed ++ [d])).length<=2 ^ j:=by
          unfold tex
          split
          . simp;exact hpi
          . have:=tex_len all h j (ed ++ [d]);omega
        have pH3:=pH2.trans p3
        have l3:=pH3.length_le
        obtain ⟨v2,H5,o',us',q1,q2,q3,q4,q5,q6⟩:=(hin.pre pH3).appL (P:=Tryz.prog) (t2:=36) Tryz.underlying36 cs27 (by rw [by27];decide) zk27 (hgL.wide (lo':=H'.length) (by omega) (Nat.le_refl _)) (by have:=hp.length_le;omega) l3 (Nat.le_refl _) (by omega)
        have f1:H<+:H5:=prefix_of fun j' x hx'=>q5 j' x (by have:=at_lt hx';omega) (pre_at (hp.trans pH3) hx')
        have f2:(L ++ tex all h j (ed ++ [d])) ++ tlp all h j ed=tlp all h r ed:=by rw [<- hL,hstep,List.append_assoc]
        have f3:(L ++ tex all h j (ed ++ [d])).length+2 ^ j<=2 ^ r:=by rw [List.length_append];omega
        have f4:H.length<=o':=by have:=(hp.trans pH3).length_le;omega
        simp (maxSteps:=1000000) (disch:=omega) only [h0,h1,h2,h7,h8,q1,q2,wrap64,SS,eq_self,reduceIte,reduceCtorEq,Nat.reduceEqDiff,Nat.reduceAdd]
        refine ⟨j,by omega,i+1,o',us',L ++ tex all h j (ed ++ [d]),by omega,?_⟩
        rw [hmr2]
        (repeat' first | exact f1 | exact f2 | exact f3 | exact f4 | exact q3 | apply And.intro) <;> first | (simp only [Value.int.injEq,true_and];omega) | omega | rfl | assumption | (simp;done) | (simp;omega)
  . have hz':=hz (by omega)
    have hB0:all.length - r<=i:=by omega
    obtain ⟨j,rfl⟩:∃ j,m=j+1:=⟨m - 1,by omega⟩
    have hmr:min r (j+1)=j+1:=Nat.min_eq_right (by omega)
    have hmr2:min r j=j:=Nat.min_eq_right (by omega)
    rw [hmr] at hL hcnt
    have hNi:all.length - (j+1)=i:=by omega
    have hstep:=tlp_step all h j ed
    rw [hNi] at hstep
    have hP:2 ^ (j+1)=2 ^ j+2 ^ j:=by rw [Nat.pow_succ];omega
    have hpi:1<=2 ^ j:=Nat.one_le_two_pow
    generalize hd:all.getD i 0=d at *
    have hdc:=hrH.cell hi
    rw [hd] at hdc
    simp (maxSteps:=1000000) (disch:=omega) only [g3,h0,h1,h2,h7,h8,hrH.ix Tryz.underlying27 cs3,hdc,Int.toNat_natCast,SS,eq_self,reduceIte,reduceCtorEq,Nat.reduceEqDiff,Nat.reduceAdd]
    refine CallH.by (l8Apart_c w ed d H' wH (by omega) (fun y hy=>by have:=hed y hy;exact ⟨by omega,by omega⟩) ⟨by omega,by omega⟩) ?_
    rintro _ _ ⟨rfl,rfl⟩
    have hap:(!ed.any fun y=>decide (Crs y d))=apB ed d:=rfl
    rw [hap]
    cases hq:apB ed d
    . rw [hq] at hstep
      simp only [Bool.false_eq_true,if_false,List.nil_append] at hstep
      rw [hstep] at hL
      simp (maxSteps:=1000000) (disch:=omega) only [g3,h0,h1,h2,h7,h8,wrap64,SS,eq_self,reduceIte,reduceCtorEq,Nat.reduceEqDiff,Nat.reduceAdd]
      refine ⟨j,by omega,i+1,o,us,L,by omega,?_⟩
      rw [hmr2]
      have f1:L.length+2 ^ j<=2 ^ r:=by omega
      (repeat' first | exact hin | exact hL | exact f1 | exact hp | apply And.intro) <;> first | (simp only [Value.int.injEq,true_and];omega) | omega | rfl | assumption | (simp;done) | (simp;omega)
    . rw [hq,if_pos rfl] at hstep
      simp (maxSteps:=1000000) (disch:=omega) only [g3,h0,h1,h2,h7,h8,hrH.ix Tryz.underlying27 cs3,hdc,Int.toNat_natCast,SS,eq_self,reduceIte,reduceCtorEq,Nat.reduceEqDiff,Nat.reduceAdd]
      generalize hB:H' ++ [AObj.cells [.int .i64 d] 3 false]=B
      have pB:H'<+:B:=by rw [<- hB];exact List.prefix_append _ _
      have cB:B[H'.length]?=some (.cells [.int .i64 d] 3 false):=by rw [<- hB];exact at_new ..
      have lB:B.length=H'.length+1:=by rw [<- hB];simp
      refine CallH.by (l1Own_c w ed B (wH.pre pB) (by omega)) ?_
      rintro c C ⟨hc,pC⟩
      have cC:=pre_at pC cB
      have hrC:=hrH.pre (pB.trans pC)
      have hdC:=hrC.cell hi
      rw [hd] at hdC
      have hx:Row 3 C (.slice (some ⟨H'.length,0,none⟩) 1 1) [d]:=.inr ⟨H'.length,0,[.int .i64 d],false,rfl,cC,by simp,rfl⟩
      obtain ⟨v',H2,k1,k2,k3,k4,k5⟩:=hc.app (P:=Tryz.prog) Tryz.underlying27 cs3 (by rw [by3];decide) zk3 hx pC (by simp;omega)
      have pH2:=pB.trans k3
      simp (maxSteps:=1000000) (disch:=omega) only [g3,h0,h1,h2,h7,h8,hdC,cC,cB,k1,SS,eq_self,reduceIte,reduceCtorEq,Nat.reduceEqDiff,Nat.reduceAdd]
      have hrec:=ih j (by omega) (ed ++ [d]) v' B.length H2 (hrH.pre pH2) (InI.of k2.mine) k3.length_le (by omega) (by simp;omega) (fun y hy=>by
        rcases List.mem_append.1 hy with hy | hy
        . exact hed y hy
        . simp at hy;rw [hy];exact hdr) (fun h0=>by simp at h0) (fun _=>⟨by omega,by
          have e1:(ed ++ [d]).getD ((ed ++ [d]).length - 1) 0=d:=by
            rw [List.length_append,List.getD_eq_getElem?_getD,List.getElem?_append_right (by simp)];simp
          have e2:all.length - j - 1=i:=by omega
          rw [e1,e2,hd]⟩)
      refine CallH.by hrec ?_
      rintro gL H3 ⟨hgL,p3⟩
      have htl:(tex all h j (ed ++ [d])).length<=2 ^ j:=by
        unfold tex
        split
        . simp;exact hpi
        . have:=tex_len all h j (ed ++ [d]);omega
      have pH3:=pH2.trans p3
      have l3:=pH3.length_le
      obtain ⟨v2,H5,o',us',q1,q2,q3,q4,q5,q6⟩:=(hin.pre pH3).appL (P:=Tryz.prog) (t2:=36) Tryz.underlying36 cs27 (by rw [by27];decide) zk27 (hgL.wide (lo':=H'.length) (by omega) (Nat.le_refl _)) (by have:=hp.length_le;omega) l3 (Nat.le_refl _) (by omega)
      have f1:H<+:H5:=prefix_of fun j' x hx'=>q5 j' x (by have:=at_lt hx';omega) (pre_at (hp.trans pH3) hx')
      have f2:(L ++ tex all h j (ed ++ [d])) ++ tlp all h j ed=tlp all h r ed:=by rw [<- hL,hstep,List.append_assoc]
      have f3:(L ++ tex all h j (ed ++ [d])).length+2 ^ j<=2 ^ r:=by rw [List.length_append];omega
      have f4:H.length<=o':=by have:=(hp.trans pH3).length_le;omega
      simp (maxSteps:=1000000) (disch:=omega) only [h0,h1,h2,h7,h8,q1,q2,wrap64,SS,eq_self,reduceIte,reduceCtorEq,Nat.reduceEqDiff,Nat.reduceAdd]
      refine ⟨j,by omega,i+1,o',us',L ++ tex all h j (ed ++ [d]),by omega,?_⟩
      rw [hmr2]
      (repeat' first | exact f1 | exact f2 | exact f3 | exact f4 | exact q3 | apply And.intro) <;> first | (simp only [Value.int.injEq,true_and];omega) | omega | rfl | assumption | (simp;done) | (simp;omega)
def cd34:Cd:=(.seq (.reg [⟨⟨some 6,.assign (.const (.slice none 0 0)),none⟩,[]⟩,⟨⟨some 7,.assign (.const (.bool false)),none⟩,[]⟩]) (.seq (.reg [⟨⟨some 10,.buildSlice 27 0 #[],none⟩,[]⟩,⟨⟨some 8,.assign (.tmp 10),none⟩,[]⟩]) (.seq (.seq (.reg [⟨⟨some 11,.move (.tmp 0),none⟩,[]⟩,⟨⟨some 12,.move (.tmp 1),none⟩,[]⟩,⟨⟨some 13,.call ⟨(.value (.func 100)),#[.tmp 11,.tmp 12],#[3,27]⟩,none⟩,[]⟩,⟨⟨some 14,.unOp .not 4 (.tmp 13),none⟩,[]⟩,⟨⟨some 15,.move (.tmp 14),none⟩,[]⟩,⟨⟨some 16,.move (.tmp 0),some (15,false)⟩,[]⟩,⟨⟨some 17,.move (.tmp 2),some (15,false)⟩,[]⟩,⟨⟨some 18,.call ⟨(.value (.func 100)),#[.tmp 16,.tmp 17],#[3,27]⟩,some (15,false)⟩,[]⟩,⟨⟨some 19,.unOp .not 4 (.tmp 18),some (15,false)⟩,[]⟩,⟨⟨some 20,.pick (.tmp 15) (.const (.bool true)) (.tmp 19),none⟩,[]⟩]) (.cond (.tmp 20) (.seq (.reg [⟨⟨some 21,.move (.tmp 8),none⟩,[]⟩,
 ⟨⟨some 6,.assign (.tmp 21),none⟩,[]⟩,⟨⟨some 7,.assign (.const (.bool false)),none⟩,[]⟩]) .ret) .skip)) (.seq (.seq (.reg [⟨⟨some 9,.assign (.const (.int .i64 0)),none⟩,[]⟩]) (.block 0 (.loop (.seq (.seq (.reg [⟨⟨some 22,.move (.tmp 9),none⟩,[]⟩,⟨⟨some 23,.move (.tmp 1),none⟩,[]⟩,⟨⟨some 24,.call ⟨(.builtin .len),#[.tmp 23],#[27]⟩,none⟩,[]⟩,⟨⟨some 25,.binOp .lss 3 (.tmp 22) (.tmp 24) 3,none⟩,[]⟩]) (.cond (.tmp 25) .skip (.exit 0))) (.seq (.block 1 (.seq (.reg [⟨⟨some 28,.move (.tmp 2),none⟩,[]⟩,⟨⟨some 29,.move (.tmp 1),none⟩,[]⟩,⟨⟨some 30,.move (.tmp 9),none⟩,[]⟩,⟨⟨some 31,.indexAddr 27 (.tmp 29) (.tmp 30),none⟩,[]⟩,⟨⟨some 32,.load 3 (.tmp 31),none⟩,[]⟩,⟨⟨some 33,.call ⟨(.value (.func 110)),#[.tmp 28,.tmp 32],#[27,3]⟩,none⟩,[]⟩]) (.cond (.tmp 33) (.reg [⟨⟨some 34,.move (.tmp 8),none⟩,[]⟩,⟨⟨some 35,.move (.tmp 1),none⟩,[]⟩,⟨⟨some 36,.move (.tmp 9),none⟩,[]⟩,
 ⟨⟨some 37,.indexAddr 27 (.tmp 35) (.tmp 36),none⟩,[]⟩,
  ⟨⟨some 38,.load 3 (.tmp 37),none⟩,[]⟩,
  ⟨⟨some 39,.buildSlice 27 1 #[(0,.tmp 38)],none⟩,[]⟩,
  ⟨⟨some 40,.call ⟨(.builtin .append),#[.tmp 34,.tmp 39],#[27,27]⟩,none⟩,[]⟩,
  ⟨⟨some 8,.assign (.tmp 40),none⟩,[]⟩]) .skip))) (.reg [⟨⟨some 26,.move (.tmp 9),none⟩,[]⟩,
  ⟨⟨some 27,.binOp .add 3 (.tmp 26) (.const (.int .i64 1)) 3,none⟩,[]⟩,
  ⟨⟨some 9,.assign (.tmp 27),none⟩,[]⟩])))))) (.seq (.reg [⟨⟨some 41,.move (.tmp 8),none⟩,[]⟩,
  ⟨⟨some 6,.assign (.tmp 41),none⟩,[]⟩,
  ⟨⟨some 7,.assign (.const (.bool true)),none⟩,[]⟩]) .ret)))))
theorem in34:InT Tryz.prog 34 3 [.tmp 6,.tmp 7] cd34:=InT.mk (by kernel_rfl) [] Tryz.func34 rfl (by kernel_rfl) (by kernel_rfl) (of_decide_eq_true (by kernel_rfl)) (by kernel_rfl)
def cd33:Cd:=(.seq (.reg [⟨⟨some 6,.assign (.const (.slice none 0 0)),none⟩,[]⟩,⟨⟨some 7,.assign (.const (.bool false)),none⟩,[]⟩]) (.seq (.seq (.reg [⟨⟨some 8,.move (.tmp 0),none⟩,[]⟩,⟨⟨some 9,.move (.tmp 1),none⟩,[]⟩,⟨⟨some 10,.move (.tmp 2),none⟩,[]⟩,⟨⟨some 11,.buildSlice 36 2 #[(0,.tmp 9),(1,.tmp 10)],none⟩,[]⟩,⟨⟨some 12,.call ⟨(.value (.func 98)),#[.tmp 8,.tmp 11],#[3,36]⟩,none⟩,[]⟩,⟨⟨some 13,.unOp .not 4 (.tmp 12),none⟩,[]⟩]) (.cond (.tmp 13) (.seq (.reg [⟨⟨some 6,.assign (.const (.slice none 0 0)),none⟩,[]⟩,⟨⟨some 7,.assign (.const (.bool false)),none⟩,[]⟩]) .ret) .skip)) (.seq (.reg [⟨⟨some 14,.move (.tmp 1),none⟩,[]⟩,⟨⟨some 15,.move (.tmp 1),none⟩,[]⟩,⟨⟨some 16,.move (.tmp 2),none⟩,[]⟩,⟨⟨some 17,.call ⟨(.value (.func 109)),#[.tmp 15,.tmp 16],#[27,27]⟩,none⟩,[]⟩,⟨⟨some 18,.call ⟨(.value (.func 109)),#[.tmp 14,.tmp 17],#[27,27]⟩,none⟩,[]⟩,
 ⟨⟨some 6,.assign (.tmp 18),none⟩,[]⟩,
  ⟨⟨some 7,.assign (.const (.bool true)),none⟩,[]⟩]) .ret)))
theorem in33:InT Tryz.prog 33 3 [.tmp 6,.tmp 7] cd33:=InT.mk (by kernel_rfl) [] Tryz.func33 rfl (by kernel_rfl) (by kernel_rfl) (of_decide_eq_true (by kernel_rfl)) (by kernel_rfl)
end Go.Proofs.YtjnefjchconebaaGreat.Ai
namespace Go.Proofs.YtjnefjchconebaaGreat.Ai
open Go Go.RowKit
def comR (n:Int)(xs ys:List Int):List Int:=if Tri2 n xs ys then xs.filter fun x=>decide (x ∈ ys) else []
theorem without2 (xs ys:List Int):without xs (without xs ys)=xs.filter fun x=>decide (x ∈ ys):=by
  unfold without
  apply List.filter_congr
  intro x hx
  simp only [List.mem_filter,hx,true_and,decide_eq_true_eq,Decidable.not_not]
theorem CommonS_c (n:Int)(v w:Value)(xs ys:List Int)(H:AH)(hr:Row 3 H v xs)(hlen:xs.length<=1099511627776)(hxs:∀ y ∈ xs,I64 y)(hr2:Row 3 H w ys)(hlen2:ys.length<=1099511627776)(hys:∀ y ∈ ys,I64 y) :
    ACalls Tryz.prog 34 [.int .i64 n,v,w] H fun r H'=>∃ g,r=.tuple (List.toArray [g,.bool (decide (Tri2 n xs ys))])/\Mine 3 H H' g (comR n xs ys)/\H<+:H':=by
  refine in34 rfl ?_
  intro Q hQ
  have hp0:=List.prefix_append H [AObj.cells [] 3 false]
  have hown0:Own 3 H (H ++ [AObj.cells [] 3 false]) (.slice (some ⟨H.length,0,none⟩) 0 0) []:=.inr ⟨H.length,rfl,Nat.le_refl _,at_new ..⟩
  simp (maxSteps:=1000000) (disch:=omega) only [cd34,SS,eq_self,reduceIte,reduceCtorEq,Nat.reduceEqDiff,Nat.reduceAdd]
  refine CallH.by (valid_c n v xs _ (hr.pre hp0) hlen hxs) ?_
  rintro _ H1 ⟨rfl,hp1⟩
  have hq1:=hp0.trans hp1
  have no:¬ Tri2 n xs ys->comR n xs ys=[]:=fun h=>if_neg h
  simp (maxSteps:=1000000) (disch:=omega) only [SS,eq_self,reduceIte,reduceCtorEq,Nat.reduceEqDiff,Nat.reduceAdd]
  refine brD.intro (fun ha=>?_) (fun ha=>?_) <;> simp (maxSteps:=1000000) (disch:=omega) only [ha,SS,eq_self,reduceIte,reduceCtorEq,Nat.reduceEqDiff,Nat.reduceAdd]
  . refine CallH.by (valid_c n w ys H1 (hr2.pre hq1) hlen2 hys) ?_
    rintro _ H2 ⟨rfl,hp2⟩
    have hp:=hq1.trans hp2
    simp (maxSteps:=1000000) (disch:=omega) only [ha,SS,eq_self,reduceIte,reduceCtorEq,Nat.reduceEqDiff,Nat.reduceAdd]
    refine brD.intro (fun hb=>?_) (fun hb=>?_) <;> simp (maxSteps:=1000000) (disch:=omega) only [ha,hb,SS,eq_self,reduceIte,reduceCtorEq,Nat.reduceEqDiff,Nat.reduceAdd]
    . have ht:Tri2 n xs ys:=⟨ha.1,ha.2,hb.2⟩
      refine LoopH.by (fun m s H'=>∃ i,m+i=xs.length/\s 1=v/\s 2=w/\s 9=.int .i64 ((i:Nat):Int)/\Own 3 H H' (s 8) ((xs.take i).filter fun x=>decide (x ∈ ys))/\H<+:H') xs.length ?_ ?_
      . refine ⟨0,by simp,rfl,rfl,rfl,?_,hp⟩
        simp (maxSteps:=1000000) (disch:=omega) only [SS,eq_self,reduceIte,reduceCtorEq,Nat.reduceEqDiff,Nat.reduceAdd];exact hown0.pre (hp1.trans hp2)
      . rintro m s H' ⟨i,hm,h1,h2,h9,hown,hpp⟩
        have hr':=hr.pre hpp
        have hr2':=hr2.pre hpp
        have wl:=List.length_filter_le (fun x=>decide (x ∈ ys)) (xs.take i)
        have wl2:(xs.take i).length<=i:=by simp;omega
        have st0:∀ hi:i<xs.length,(xs.take (i+1)).filter (fun x=>decide (x ∈ ys))=(xs.take i).filter (fun x=>decide (x ∈ ys)) ++ if xs.getD i 0 ∈ ys then [xs.getD i 0] else []:=by
          intro hi
          have hx:xs.getD i 0=xs[i]:=by simp [hi]
          rw [List.take_add_one,List.getElem?_eq_getElem hi,List.filter_append,hx]
          by_cases h:xs[i] ∈ ys <;> simp [h]
        have we:xs.length<=i->xs.filter (fun x=>decide (x ∈ ys))=(xs.take i).filter (fun x=>decide (x ∈ ys)):=fun h=>by rw [List.take_of_length_le h]
        generalize hW:(xs.take i).filter (fun x=>decide (x ∈ ys))=W at *
        generalize hw:s 8=u at *
        simp (maxSteps:=1000000) (disch:=omega) only [h1,h2,h9,hw,hr'.len Tryz.underlying27,SS,eq_self,reduceIte,reduceCtorEq,Nat.reduceEqDiff,Nat.reduceAdd]
        refine brD.intro (fun g=>?_) (fun g=>?_) <;> simp (maxSteps:=1000000) (disch:=omega) only [h1,h2,h9,hw,hr'.ix Tryz.underlying27 cs3,hr'.cell,Int.toNat_natCast,SS,eq_self,reduceIte,reduceCtorEq,Nat.reduceEqDiff,Nat.reduceAdd]
        . have hi:i<xs.length:=by omega
          have st:=st0 hi
          refine CallH.by (l1Has_c w ys _ H' hr2' hlen2) ?_
          rintro _ _ ⟨rfl,rfl⟩
          simp (maxSteps:=1000000) (disch:=omega) only [SS,eq_self,reduceIte,reduceCtorEq,Nat.reduceEqDiff,Nat.reduceAdd]
          refine brD.intro (fun e=>?_) (fun e=>?_)
          . rw [if_pos e] at st
            obtain ⟨w',H3,k1,k2,k3,k4,k5,k6⟩:=own1_27 hown hpp (by omega) (xs.getD i 0)
            rw [<- st] at k2
            simp (maxSteps:=1000000) (disch:=omega) only [h1,h2,h9,hw,hr'.ix Tryz.underlying27 cs3,hr'.cell,Int.toNat_natCast,k1,wrap64,SS,eq_self,reduceIte,reduceCtorEq,Nat.reduceEqDiff,Nat.reduceAdd]
            refine ⟨m - 1,by omega,i+1,by omega,?_⟩
            (repeat' apply And.intro) <;> first | exact k2 | exact k3 | (simp only [Value.int.injEq,true_and];omega) | omega | rfl | assumption | (simp;done) | (simp;omega)
          . rw [if_neg e,List.append_nil] at st
            simp (maxSteps:=1000000) (disch:=omega) only [h1,h2,h9,hw,wrap64,SS,eq_self,reduceIte,reduceCtorEq,Nat.reduceEqDiff,Nat.reduceAdd]
            refine ⟨m - 1,by omega,i+1,by omega,?_⟩
            rw [st]
            (repeat' apply And.intro) <;> first | (simp only [Value.int.injEq,true_and];omega) | omega | rfl | assumption | (simp;done) | (simp;omega)
        . refine hQ _ _ _ ?_
          simp (maxSteps:=1000000) (disch:=omega) only [hw,hown.row.tup,SS,eq_self,reduceIte,reduceCtorEq,Nat.reduceEqDiff,Nat.reduceAdd]
          have e:comR n xs ys=xs.filter fun x=>decide (x ∈ ys):=if_pos ht
          rw [e,we (by omega)]
          exact ⟨u,by simp [ht],hown.mine,hpp⟩
    . refine hQ _ _ _ ?_
      simp (maxSteps:=1000000) (disch:=omega) only [SS,eq_self,reduceIte,reduceCtorEq,Nat.reduceEqDiff,Nat.reduceAdd]
      have hh:¬ Tri2 n xs ys:=fun h=>hb h.b
      rw [no hh]
      exact ⟨_,by simp [hh],(hown0.pre (hp1.trans hp2)).mine,hp⟩
  . refine hQ _ _ _ ?_
    simp (maxSteps:=1000000) (disch:=omega) only [SS,eq_self,reduceIte,reduceCtorEq,Nat.reduceEqDiff,Nat.reduceAdd]
    have hh:¬ Tri2 n xs ys:=fun h=>ha h.a
    rw [no hh]
    exact ⟨_,by simp [hh],(hown0.pre hp1).mine,hq1⟩
theorem CommonI_c (n:Int)(v w:Value)(xs ys:List Int)(H:AH)(hr:Row 3 H v xs)(hlen:xs.length<=1099511627776)(hxs:∀ y ∈ xs,I64 y)(hr2:Row 3 H w ys)(hlen2:ys.length<=1099511627776)(hys:∀ y ∈ ys,I64 y) :
    ACalls Tryz.prog 33 [.int .i64 n,v,w] H fun r H'=>∃ g,r=.tuple (List.toArray [g,.bool (decide (Tri2 n xs ys))])/\Mine 3 H H' g (comR n xs ys)/\H<+:H':=by
  refine in33 rfl ?_
  intro Q hQ
  obtain ⟨pv,ev⟩:=hr.shape
  obtain ⟨pw,ew⟩:=hr2.shape
  subst ev
  subst ew
  simp (maxSteps:=1000000) (disch:=omega) only [cd33,SS,eq_self,reduceIte,reduceCtorEq,Nat.reduceEqDiff,Nat.reduceAdd]
  generalize hv:Value.slice pv xs.length xs.length=v at *
  generalize hw:Value.slice pw ys.length ys.length=w at *
  have hp0:H<+:H ++ [AObj.cells [v,w] 27 false]:=List.prefix_append _ _
  refine CallH.by (are2_c n v w xs ys _ _ H rfl rfl hr hlen hxs hr2 hlen2 hys) ?_
  rintro _ H2 ⟨rfl,hp1⟩
  have hp:=hp0.trans hp1
  have hra:=hr.pre hp
  have hrb:=hr2.pre hp
  simp (maxSteps:=1000000) (disch:=omega) only [SS,eq_self,reduceIte,reduceCtorEq,Nat.reduceEqDiff,Nat.reduceAdd]
  refine brD.intro (fun ht=>?_) (fun ht=>?_) <;> simp (maxSteps:=1000000) (disch:=omega) only [ht,SS,eq_self,reduceIte,reduceCtorEq,Nat.reduceEqDiff,Nat.reduceAdd]
  . refine CallH.by (without_c v w xs ys H2 hra hlen hrb hlen2) ?_
    rintro u H3 ⟨hown,hp3⟩
    simp (maxSteps:=1000000) (disch:=omega) only [SS,eq_self,reduceIte,reduceCtorEq,Nat.reduceEqDiff,Nat.reduceAdd]
    have wl:=without_len xs ys
    refine CallH.by (without_c v u xs _ H3 (hra.pre hp3) hlen hown.row (by omega)) ?_
    rintro u2 H4 ⟨hown2,hp4⟩
    simp (maxSteps:=1000000) (disch:=omega) only [SS,eq_self,reduceIte,reduceCtorEq,Nat.reduceEqDiff,Nat.reduceAdd]
    refine hQ _ _ _ ?_
    simp (maxSteps:=1000000) (disch:=omega) only [hown2.row.tup,SS,eq_self,reduceIte,reduceCtorEq,Nat.reduceEqDiff,Nat.reduceAdd]
    have e:comR n xs ys=xs.filter fun x=>decide (x ∈ ys):=if_pos ht
    rw [e,<- without2]
    have hq:=hp.trans hp3
    exact ⟨u2,by simp [ht],(hown2.base hq).mine,hq.trans hp4⟩
  . refine hQ _ _ _ ?_
    simp (maxSteps:=1000000) (disch:=omega) only [SS,eq_self,reduceIte,reduceCtorEq,Nat.reduceEqDiff,Nat.reduceAdd]
    have e:comR n xs ys=[]:=if_neg ht
    rw [e]
    exact ⟨_,by simp [ht],.inl ⟨rfl,rfl⟩,hp⟩
def cd181:Cd:=(.seq (.reg [⟨⟨some 4,.assign (.const (.slice none 0 0)),none⟩,[]⟩]) (.seq (.reg [⟨⟨some 7,.buildSlice 27 0 #[],none⟩,[]⟩,⟨⟨some 5,.assign (.tmp 7),none⟩,[]⟩]) (.seq (.seq (.reg [⟨⟨some 6,.assign (.const (.int .i64 0)),none⟩,[]⟩]) (.block 0 (.loop (.seq (.seq (.reg [⟨⟨some 8,.move (.tmp 6),none⟩,[]⟩,⟨⟨some 9,.move (.tmp 0),none⟩,[]⟩,⟨⟨some 10,.call ⟨(.builtin .len),#[.tmp 9],#[27]⟩,none⟩,[]⟩,⟨⟨some 11,.binOp .lss 3 (.tmp 8) (.tmp 10) 3,none⟩,[]⟩]) (.cond (.tmp 11) .skip (.exit 0))) (.seq (.block 1 (.seq (.reg [⟨⟨some 14,.move (.tmp 1),none⟩,[]⟩,⟨⟨some 15,.move (.tmp 0),none⟩,[]⟩,⟨⟨some 16,.move (.tmp 6),none⟩,[]⟩,⟨⟨some 17,.indexAddr 27 (.tmp 15) (.tmp 16),none⟩,[]⟩,⟨⟨some 18,.load 3 (.tmp 17),none⟩,[]⟩,⟨⟨some 19,.call ⟨(.value (.func 110)),#[.tmp 14,.tmp 18],#[27,3]⟩,none⟩,[]⟩,⟨⟨some 20,.unOp .not 4 (.tmp 19),none⟩,[]⟩]) (.cond (.tmp 20) (.reg [⟨⟨some 21,.move (.tmp 5),none⟩,[]⟩,⟨⟨some 22,.move (.tmp 0),none⟩,[]⟩,
 ⟨⟨some 23,.move (.tmp 6),none⟩,[]⟩,
  ⟨⟨some 24,.indexAddr 27 (.tmp 22) (.tmp 23),none⟩,[]⟩,
  ⟨⟨some 25,.load 3 (.tmp 24),none⟩,[]⟩,
  ⟨⟨some 26,.buildSlice 27 1 #[(0,.tmp 25)],none⟩,[]⟩,
  ⟨⟨some 27,.call ⟨(.builtin .append),#[.tmp 21,.tmp 26],#[27,27]⟩,none⟩,[]⟩,
  ⟨⟨some 5,.assign (.tmp 27),none⟩,[]⟩]) .skip))) (.reg [⟨⟨some 12,.move (.tmp 6),none⟩,[]⟩,
  ⟨⟨some 13,.binOp .add 3 (.tmp 12) (.const (.int .i64 1)) 3,none⟩,[]⟩,
  ⟨⟨some 6,.assign (.tmp 13),none⟩,[]⟩])))))) (.seq (.reg [⟨⟨some 28,.move (.tmp 5),none⟩,[]⟩,
  ⟨⟨some 4,.assign (.tmp 28),none⟩,[]⟩]) .ret))))
theorem in181:InT Tryz.prog 181 2 [.tmp 4] cd181:=InT.mk (by kernel_rfl) [] Tryz.func181 rfl (by kernel_rfl) (by kernel_rfl) (of_decide_eq_true (by kernel_rfl)) (by kernel_rfl)
end Go.Proofs.YtjnefjchconebaaGreat.Ai
namespace Go.Proofs.YtjnefjchconebaaGreat.Ai
open Go Go.RowKit
theorem l4Lone_c (v w:Value)(xs ys:List Int)(H:AH)(hr:Row 3 H v xs)(hr2:Row 3 H w ys)(hl:xs.length<=1000000)(hl2:ys.length<=1099511627776) :
    ACalls Tryz.prog 181 [v,w] H fun r H'=>Own 3 H H' r (without xs ys)/\H<+:H':=by
  refine in181 rfl ?_
  intro Q hQ
  simp (maxSteps:=1000000) (disch:=omega) only [cd181,SS,eq_self,reduceIte,reduceCtorEq,Nat.reduceEqDiff,Nat.reduceAdd]
  refine LoopH.by (fun m s H'=>∃ i,m+i=xs.length/\s 0=v/\s 1=w/\s 6=.int .i64 ((i:Nat):Int)/\Own 3 H H' (s 5) (without (xs.take i) ys)/\H<+:H') xs.length ?_ ?_
  . exact ⟨0,by simp,rfl,rfl,rfl,.inr ⟨H.length,rfl,Nat.le_refl _,at_new ..⟩,List.prefix_append _ _⟩
  . rintro m s H' ⟨i,hm,h0,h1,h6,ho,hp⟩
    have hr':=hr.pre hp
    have hr2':=hr2.pre hp
    have hle:=without_len (xs.take i) ys
    have htl:(xs.take i).length<=i:=by simp;omega
    generalize hu:s 5=u at *
    simp (maxSteps:=1000000) (disch:=omega) only [h0,h1,h6,hu,hr'.len Tryz.underlying27,SS,eq_self,reduceIte,reduceCtorEq,Nat.reduceEqDiff,Nat.reduceAdd]
    refine brD.intro (fun g=>?_) (fun g=>?_)
    . have hi:i<xs.length:=by omega
      have hst:=without_step xs ys i hi
      simp (maxSteps:=1000000) (disch:=omega) only [h0,h1,h6,hu,hr'.ix Tryz.underlying27 cs3,hr'.cell,Int.toNat_natCast,SS,eq_self,reduceIte,reduceCtorEq,Nat.reduceEqDiff,Nat.reduceAdd]
      refine CallH.by (l1Has_c w ys (xs.getD i 0) H' hr2' hl2) ?_
      rintro _ _ ⟨rfl,rfl⟩
      simp (maxSteps:=1000000) (disch:=omega) only [SS,eq_self,reduceIte,reduceCtorEq,Nat.reduceEqDiff,Nat.reduceAdd]
      refine brD.intro (fun e=>?_) (fun e=>?_)
      . rw [if_pos e,List.append_nil] at hst
        rw [<- hst] at ho
        simp (maxSteps:=1000000) (disch:=omega) only [h0,h1,h6,hu,wrap64,SS,eq_self,reduceIte,reduceCtorEq,Nat.reduceEqDiff,Nat.reduceAdd]
        refine ⟨m - 1,by omega,i+1,?_⟩
        (repeat' first | exact ho | exact hp | apply And.intro) <;> first | (simp only [Value.int.injEq,true_and];omega) | omega | rfl | assumption | (simp;done) | (simp;omega)
      . rw [if_neg e] at hst
        obtain ⟨u',H2,k1,k2,k3,k4,k5,k6⟩:=own1_27 ho hp (by omega) (xs.getD i 0)
        rw [<- hst] at k2
        simp (maxSteps:=1000000) (disch:=omega) only [h0,h1,h6,hu,hr'.ix Tryz.underlying27 cs3,hr'.cell,Int.toNat_natCast,k1,wrap64,SS,eq_self,reduceIte,reduceCtorEq,Nat.reduceEqDiff,Nat.reduceAdd]
        refine ⟨m - 1,by omega,i+1,?_⟩
        (repeat' first | exact k2 | exact k3 | apply And.intro) <;> first | (simp only [Value.int.injEq,true_and];omega) | omega | rfl | assumption | (simp;done) | (simp;omega)
    . simp (maxSteps:=1000000) (disch:=omega) only [hu,SS,eq_self,reduceIte,reduceCtorEq,Nat.reduceEqDiff,Nat.reduceAdd]
      refine hQ _ _ _ ?_
      simp (maxSteps:=1000000) (disch:=omega) only [hu,ho.row.tup,SS,eq_self,reduceIte,reduceCtorEq,Nat.reduceEqDiff,Nat.reduceAdd]
      rw [List.take_of_length_le (by omega)] at ho
      exact ⟨ho,hp⟩
end Go.Proofs.YtjnefjchconebaaGreat.Ai
