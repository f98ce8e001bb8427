/- Texts of this claim, joined: EqI, Rep, Bfs, Clone, SpW, Isp, Ivs, Seq, Perm, StpP, Index, Wout, PdP, IdxL, Valid, At, Bound. -/
import Derived.Test.YtjnefjchconebaaGreatProg
import Derived.KernelRfl
import Derived.RangeFuncBox
import Derived.RangeFuncLeaves
import Derived.Shelf.Abstract
import Derived.WalkKit
import Derived.OwnWalkIn
import Derived.TacticsInMore
import Derived.LoopNIn
import Derived.LoopIn
import Derived.Maps.AppendAt
import Derived.Test.YtjnefjchconebaaGreatMgLawFdw4
set_option linter.unusedVariables false
set_option linter.unusedSimpArgs false
set_option maxHeartbeats 8000000
set_option maxRecDepth 20000
namespace Go.Proofs.YtjnefjchconebaaGreat.Ai
open Go Go.RowKit
def cd183:Cd:=(.seq (.reg [⟨⟨some 4,.assign (.const (.bool false)),none⟩,[]⟩]) (.seq (.seq (.reg [⟨⟨some 6,.move (.tmp 0),none⟩,[]⟩,⟨⟨some 7,.call ⟨(.builtin .len),#[.tmp 6],#[27]⟩,none⟩,[]⟩,⟨⟨some 8,.move (.tmp 1),none⟩,[]⟩,⟨⟨some 9,.call ⟨(.builtin .len),#[.tmp 8],#[27]⟩,none⟩,[]⟩,⟨⟨some 10,.binOp .neq 3 (.tmp 7) (.tmp 9) 3,none⟩,[]⟩]) (.cond (.tmp 10) (.seq (.reg [⟨⟨some 4,.assign (.const (.bool false)),none⟩,[]⟩]) .ret) .skip)) (.seq (.seq (.reg [⟨⟨some 5,.assign (.const (.int .i64 0)),none⟩,[]⟩]) (.block 0 (.loop (.seq (.seq (.reg [⟨⟨some 11,.move (.tmp 5),none⟩,[]⟩,⟨⟨some 12,.move (.tmp 0),none⟩,[]⟩,⟨⟨some 13,.call ⟨(.builtin .len),#[.tmp 12],#[27]⟩,none⟩,[]⟩,⟨⟨some 14,.binOp .lss 3 (.tmp 11) (.tmp 13) 3,none⟩,[]⟩]) (.cond (.tmp 14) .skip (.exit 0))) (.seq (.block 1 (.seq (.reg [⟨⟨some 17,.move (.tmp 0),none⟩,[]⟩,⟨⟨some 18,.move (.tmp 5),none⟩,[]⟩,⟨⟨some 19,.indexAddr 27 (.tmp 17) (.tmp 18),none⟩,[]⟩,⟨⟨some 20,.load 3 (.tmp 19),none⟩,[]⟩,⟨⟨some 21,.move (.tmp 1),none⟩,[]⟩,
 ⟨⟨some 22,.move (.tmp 5),none⟩,[]⟩,
  ⟨⟨some 23,.indexAddr 27 (.tmp 21) (.tmp 22),none⟩,[]⟩,
  ⟨⟨some 24,.load 3 (.tmp 23),none⟩,[]⟩,
  ⟨⟨some 25,.binOp .neq 3 (.tmp 20) (.tmp 24) 3,none⟩,[]⟩]) (.cond (.tmp 25) (.seq (.reg [⟨⟨some 4,.assign (.const (.bool false)),none⟩,[]⟩]) .ret) .skip))) (.reg [⟨⟨some 15,.move (.tmp 5),none⟩,[]⟩,
  ⟨⟨some 16,.binOp .add 3 (.tmp 15) (.const (.int .i64 1)) 3,none⟩,[]⟩,
  ⟨⟨some 5,.assign (.tmp 16),none⟩,[]⟩])))))) (.seq (.reg [⟨⟨some 4,.assign (.const (.bool true)),none⟩,[]⟩]) .ret))))
theorem in183:InT Tryz.prog 183 2 [.tmp 4] cd183:=InT.mk (by kernel_rfl) [(6,[(0,false),(1,false),(2,false),(3,false),(4,false),(5,false),(6,false),(7,false),(8,false)])] Tryz.func183 rfl (by kernel_rfl) (by kernel_rfl) (of_decide_eq_true (by kernel_rfl)) (by kernel_rfl)
end Go.Proofs.YtjnefjchconebaaGreat.Ai
namespace Go.Proofs.YtjnefjchconebaaGreat.Ai
open Go Go.RowKit
theorem l1Same_c (v w:Value)(xs ys:List Int)(H:AH)(hr:Row 3 H v xs)(hr2:Row 3 H w ys)(hlen:xs.length<=1099511627776):ACalls Tryz.prog 183 [v,w] H fun r H'=>r=.bool (decide (xs=ys))/\H=H':=by
  refine in183 rfl ?_
  intro Q hQ
  simp (maxSteps:=1000000) (disch:=omega) only [cd183,hr.len Tryz.underlying27,hr2.len Tryz.underlying27,SS,eq_self,reduceIte,reduceCtorEq,Nat.reduceEqDiff,Nat.reduceAdd]
  refine brD.intro (fun g=>?_) (fun g=>?_) <;> simp (maxSteps:=1000000) (disch:=omega) only [hr.len Tryz.underlying27,SS,eq_self,reduceIte,reduceCtorEq,Nat.reduceEqDiff,Nat.reduceAdd]
  . refine hQ _ _ _ ?_
    simp (maxSteps:=1000000) (disch:=omega) only [SS,eq_self,reduceIte,reduceCtorEq,Nat.reduceEqDiff,Nat.reduceAdd]
    have:xs ≠ ys:=fun e=>g (by rw [e])
    simp [this]
  . have hl:xs.length=ys.length:=by omega
    refine LoopH.by (fun m s H'=>∃ i,m+i=xs.length/\s 0=v/\s 1=w/\s 5=.int .i64 ((i:Nat):Int)/\H=H'/\xs.take i=ys.take i) xs.length ?_ ?_
    . exact ⟨0,by simp,rfl,rfl,rfl,rfl,by simp⟩
    . rintro m s H' ⟨i,hm,h0,h1,h5,rfl,hn⟩
      simp (maxSteps:=1000000) (disch:=omega) only [h0,h1,h5,hr.len Tryz.underlying27,SS,eq_self,reduceIte,reduceCtorEq,Nat.reduceEqDiff,Nat.reduceAdd]
      refine brD.intro (fun g=>?_) (fun g=>?_) <;> simp (maxSteps:=1000000) (disch:=omega) only [h0,h1,h5,hr.ix Tryz.underlying27 cs3,hr.cell,hr2.ix Tryz.underlying27 cs3,hr2.cell,Int.toNat_natCast,SS,eq_self,reduceIte,reduceCtorEq,Nat.reduceEqDiff,Nat.reduceAdd]
      . have hi:i<xs.length:=by omega
        have hg:xs.getD i 0=xs[i]:=by simp [hi]
        have hg2:ys.getD i 0=ys[i]:=by simp [hl ▸ hi]
        refine brD.intro (fun e=>?_) (fun e=>?_) <;> simp (maxSteps:=1000000) (disch:=omega) only [h0,h1,h5,wrap64,SS,eq_self,reduceIte,reduceCtorEq,Nat.reduceEqDiff,Nat.reduceAdd]
        . refine hQ _ _ _ ?_
          simp (maxSteps:=1000000) (disch:=omega) only [SS,eq_self,reduceIte,reduceCtorEq,Nat.reduceEqDiff,Nat.reduceAdd]
          have:xs ≠ ys:=by
            intro e'
            subst e'
            exact e rfl
          simp [this]
        . refine ⟨m - 1,by omega,i+1,by omega,by simp,?_⟩
          rw [List.take_add_one,List.take_add_one,hn,List.getElem?_eq_getElem hi,List.getElem?_eq_getElem (hl ▸ hi)]
          rw [hg,hg2] at e
          rw [Decidable.not_not.1 e]
      . refine hQ _ _ _ ?_
        simp (maxSteps:=1000000) (disch:=omega) only [SS,eq_self,reduceIte,reduceCtorEq,Nat.reduceEqDiff,Nat.reduceAdd]
        rw [List.take_of_length_le (by omega),List.take_of_length_le (by omega)] at hn
        simp [hn]
def cd227:Cd:=(.seq (.reg [⟨⟨some 4,.assign (.const (.int .u64 0)),none⟩,[]⟩,⟨⟨some 5,.assign (.const (.int .u64 0)),none⟩,[]⟩]) (.seq (.reg [⟨⟨some 14,.move (.tmp 0),none⟩,[]⟩,⟨⟨some 15,.binOp .and 87 (.tmp 14) (.const (.int .u64 4294967295)) 87,none⟩,[]⟩,⟨⟨some 6,.assign (.tmp 15),none⟩,[]⟩]) (.seq (.reg [⟨⟨some 16,.move (.tmp 0),none⟩,[]⟩,⟨⟨some 17,.binOp .shr 87 (.tmp 16) (.const (.int .u64 32)) 122,none⟩,[]⟩,⟨⟨some 7,.assign (.tmp 17),none⟩,[]⟩]) (.seq (.reg [⟨⟨some 18,.move (.tmp 1),none⟩,[]⟩,⟨⟨some 19,.binOp .and 87 (.tmp 18) (.const (.int .u64 4294967295)) 87,none⟩,[]⟩,⟨⟨some 8,.assign (.tmp 19),none⟩,[]⟩]) (.seq (.reg [⟨⟨some 20,.move (.tmp 1),none⟩,[]⟩,⟨⟨some 21,.binOp .shr 87 (.tmp 20) (.const (.int .u64 32)) 122,none⟩,[]⟩,⟨⟨some 9,.assign (.tmp 21),none⟩,[]⟩]) (.seq (.reg [⟨⟨some 22,.move (.tmp 6),none⟩,[]⟩,⟨⟨some 23,.move (.tmp 8),none⟩,[]⟩,⟨⟨some 24,.binOp .mul 87 (.tmp 22) (.tmp 23) 87,none⟩,[]⟩,
 ⟨⟨some 10,.assign (.tmp 24),none⟩,[]⟩]) (.seq (.reg [⟨⟨some 25,.move (.tmp 7),none⟩,[]⟩,⟨⟨some 26,.move (.tmp 8),none⟩,[]⟩,⟨⟨some 27,.binOp .mul 87 (.tmp 25) (.tmp 26) 87,none⟩,[]⟩,⟨⟨some 28,.move (.tmp 10),none⟩,[]⟩,⟨⟨some 29,.binOp .shr 87 (.tmp 28) (.const (.int .u64 32)) 122,none⟩,[]⟩,⟨⟨some 30,.binOp .add 87 (.tmp 27) (.tmp 29) 87,none⟩,[]⟩,⟨⟨some 11,.assign (.tmp 30),none⟩,[]⟩]) (.seq (.reg [⟨⟨some 31,.move (.tmp 11),none⟩,[]⟩,⟨⟨some 32,.binOp .and 87 (.tmp 31) (.const (.int .u64 4294967295)) 87,none⟩,[]⟩,⟨⟨some 12,.assign (.tmp 32),none⟩,[]⟩]) (.seq (.reg [⟨⟨some 33,.move (.tmp 11),none⟩,[]⟩,⟨⟨some 34,.binOp .shr 87 (.tmp 33) (.const (.int .u64 32)) 122,none⟩,[]⟩,⟨⟨some 13,.assign (.tmp 34),none⟩,[]⟩]) (.seq (.reg [⟨⟨some 35,.move (.tmp 12),none⟩,[]⟩,⟨⟨some 36,.move (.tmp 6),none⟩,[]⟩,
 ⟨⟨some 37,.move (.tmp 9),none⟩,[]⟩,⟨⟨some 38,.binOp .mul 87 (.tmp 36) (.tmp 37) 87,none⟩,[]⟩,⟨⟨some 39,.binOp .add 87 (.tmp 35) (.tmp 38) 87,none⟩,[]⟩,⟨⟨some 12,.assign (.tmp 39),none⟩,[]⟩]) (.seq (.reg [⟨⟨some 40,.move (.tmp 7),none⟩,[]⟩,⟨⟨some 41,.move (.tmp 9),none⟩,[]⟩,⟨⟨some 42,.binOp .mul 87 (.tmp 40) (.tmp 41) 87,none⟩,[]⟩,⟨⟨some 43,.move (.tmp 13),none⟩,[]⟩,⟨⟨some 44,.binOp .add 87 (.tmp 42) (.tmp 43) 87,none⟩,[]⟩,⟨⟨some 45,.move (.tmp 12),none⟩,[]⟩,⟨⟨some 46,.binOp .shr 87 (.tmp 45) (.const (.int .u64 32)) 122,none⟩,[]⟩,⟨⟨some 47,.binOp .add 87 (.tmp 44) (.tmp 46) 87,none⟩,[]⟩,⟨⟨some 4,.assign (.tmp 47),none⟩,[]⟩]) (.seq (.reg [⟨⟨some 48,.move (.tmp 0),none⟩,[]⟩,
 ⟨⟨some 49,.move (.tmp 1),none⟩,[]⟩,
  ⟨⟨some 50,.binOp .mul 87 (.tmp 48) (.tmp 49) 87,none⟩,[]⟩,
  ⟨⟨some 5,.assign (.tmp 50),none⟩,[]⟩]) .ret))))))))))))
theorem in227:InT Tryz.prog 227 2 [.tmp 4,.tmp 5] cd227:=InT.mk (by kernel_rfl) [] Tryz.func227 rfl (by kernel_rfl) (by kernel_rfl) (of_decide_eq_true (by kernel_rfl)) (by kernel_rfl)
def cd202:Cd:=(.seq (.reg [⟨⟨some 4,.assign (.const (.int .u64 0)),none⟩,[]⟩,⟨⟨some 5,.assign (.const (.int .u64 0)),none⟩,[]⟩]) (.seq (.cond (.const (.bool false)) (.seq (.reg [⟨⟨some 11,.move (.tmp 0),none⟩,[]⟩,⟨⟨some 12,.convert 122 172 (.tmp 11),none⟩,[]⟩,⟨⟨some 13,.move (.tmp 1),none⟩,[]⟩,⟨⟨some 14,.convert 122 172 (.tmp 13),none⟩,[]⟩,⟨⟨some 15,.call ⟨(.value (.func 226)),#[.tmp 12,.tmp 14],#[172,172]⟩,none⟩,[]⟩,⟨⟨some 10,.move (.tmp 15),none⟩,[]⟩,⟨⟨some 16,.extract (.tmp 10) 0,none⟩,[]⟩,⟨⟨some 17,.extract (.tmp 10) 1,none⟩,[]⟩,⟨⟨some 6,.assign (.tmp 16),none⟩,[]⟩,⟨⟨some 7,.assign (.tmp 17),none⟩,[]⟩]) (.seq (.reg [⟨⟨some 18,.move (.tmp 6),none⟩,[]⟩,⟨⟨some 19,.convert 172 122 (.tmp 18),none⟩,[]⟩,
 ⟨⟨some 20,.move (.tmp 7),none⟩,[]⟩,⟨⟨some 21,.convert 172 122 (.tmp 20),none⟩,[]⟩,⟨⟨some 4,.assign (.tmp 19),none⟩,[]⟩,⟨⟨some 5,.assign (.tmp 21),none⟩,[]⟩]) .ret)) .skip) (.seq (.reg [⟨⟨some 23,.move (.tmp 0),none⟩,[]⟩,⟨⟨some 24,.move (.tmp 1),none⟩,[]⟩,⟨⟨some 25,.call ⟨(.value (.func 227)),#[.tmp 23,.tmp 24],#[87,87]⟩,none⟩,[]⟩,⟨⟨some 22,.move (.tmp 25),none⟩,[]⟩,⟨⟨some 26,.extract (.tmp 22) 0,none⟩,[]⟩,⟨⟨some 27,.extract (.tmp 22) 1,none⟩,[]⟩,⟨⟨some 8,.assign (.tmp 26),none⟩,[]⟩,⟨⟨some 9,.assign (.tmp 27),none⟩,[]⟩]) (.seq (.reg [⟨⟨some 28,.move (.tmp 8),none⟩,[]⟩,⟨⟨some 29,.move (.tmp 9),none⟩,[]⟩,
 ⟨⟨some 4,.assign (.tmp 28),none⟩,[]⟩,
  ⟨⟨some 5,.assign (.tmp 29),none⟩,[]⟩]) .ret))))
theorem in202:InT Tryz.prog 202 2 [.tmp 4,.tmp 5] cd202:=InT.mk (by kernel_rfl) [] Tryz.func202 rfl (by kernel_rfl) (by kernel_rfl) (of_decide_eq_true (by kernel_rfl)) (by kernel_rfl)
def cd157:Cd:=(.seq (.reg [⟨⟨some 4,.assign (.const (.slice none 0 0)),none⟩,[]⟩]) (.seq (.seq (.reg [⟨⟨some 9,.move (.tmp 1),none⟩,[]⟩,⟨⟨some 10,.binOp .lss 3 (.tmp 9) (.const (.int .i64 0)) 3,none⟩,[]⟩]) (.cond (.tmp 10) (.reg [⟨⟨some 11,.makeInterface 9 (.const (.string { data:=#[99,97,110,110,111,116,32,98,101,32,110,101,103,97,116,105,118,101] })),none⟩,[]⟩,⟨⟨none,.panic (.tmp 11),none⟩,[]⟩]) .skip)) (.seq (.reg [⟨⟨some 13,.move (.tmp 0),none⟩,[]⟩,⟨⟨some 14,.call ⟨(.builtin .len),#[.tmp 13],#[27]⟩,none⟩,[]⟩,⟨⟨some 15,.convert 3 122 (.tmp 14),none⟩,[]⟩,⟨⟨some 16,.move (.tmp 1),none⟩,[]⟩,⟨⟨some 17,.convert 3 122 (.tmp 16),none⟩,[]⟩,⟨⟨some 18,.call ⟨(.value (.func 202)),#[.tmp 15,.tmp 17],#[122,122]⟩,none⟩,[]⟩,⟨⟨some 12,.move (.tmp 18),none⟩,[]⟩,⟨⟨some 19,.extract (.tmp 12) 0,none⟩,[]⟩,⟨⟨some 20,.extract (.tmp 12) 1,none⟩,[]⟩,⟨⟨some 5,.assign (.tmp 19),none⟩,[]⟩,
 ⟨⟨some 6,.assign (.tmp 20),none⟩,[]⟩]) (.seq (.seq (.reg [⟨⟨some 21,.move (.tmp 5),none⟩,[]⟩,⟨⟨some 22,.binOp .gtr 122 (.tmp 21) (.const (.int .u64 0)) 122,none⟩,[]⟩,⟨⟨some 23,.move (.tmp 22),none⟩,[]⟩,⟨⟨some 24,.move (.tmp 6),some (23,false)⟩,[]⟩,⟨⟨some 25,.binOp .gtr 122 (.tmp 24) (.const (.int .u64 9223372036854775807)) 122,some (23,false)⟩,[]⟩,⟨⟨some 26,.pick (.tmp 23) (.const (.bool true)) (.tmp 25),none⟩,[]⟩]) (.cond (.tmp 26) (.reg [⟨⟨some 27,.makeInterface 9 (.const (.string { data:=#[116,104,101,32,114,101,115,117,108,116,32,111,102,32,40,108,101,110,40,120,41,32,42,32,99,111,117,110,116,41,32,111,118,101,114,102,108,111,119,115] })),none⟩,[]⟩,⟨⟨none,.panic (.tmp 27),none⟩,[]⟩]) .skip)) (.seq (.reg [⟨⟨some 28,.move (.tmp 6),none⟩,[]⟩,⟨⟨some 29,.convert 122 3 (.tmp 28),none⟩,[]⟩,⟨⟨some 30,.makeSlice 27 (.tmp 29) (.tmp 29),none⟩,[]⟩,⟨⟨some 7,.assign (.tmp 30),none⟩,[]⟩]) (.seq (.reg [⟨⟨some 31,.move (.tmp 7),none⟩,[]⟩,⟨⟨some 32,.move (.tmp 0),none⟩,[]⟩,⟨⟨some 33,.call ⟨(.builtin .copy),#[.tmp 31,.tmp 32],#[27,27]⟩,none⟩,[]⟩,
 ⟨⟨some 8,.assign (.tmp 33),none⟩,[]⟩]) (.seq (.block 0 (.loop (.seq (.seq (.reg [⟨⟨some 34,.move (.tmp 8),none⟩,[]⟩,⟨⟨some 35,.move (.tmp 7),none⟩,[]⟩,⟨⟨some 36,.call ⟨(.builtin .len),#[.tmp 35],#[27]⟩,none⟩,[]⟩,⟨⟨some 37,.binOp .lss 3 (.tmp 34) (.tmp 36) 3,none⟩,[]⟩]) (.cond (.tmp 37) .skip (.exit 0))) (.block 1 (.reg [⟨⟨some 38,.move (.tmp 8),none⟩,[]⟩,⟨⟨some 39,.move (.tmp 7),none⟩,[]⟩,⟨⟨some 40,.move (.tmp 8),none⟩,[]⟩,⟨⟨some 41,.slice 27 (.tmp 39) (some (.tmp 40)) none none,none⟩,[]⟩,⟨⟨some 42,.move (.tmp 7),none⟩,[]⟩,⟨⟨some 43,.move (.tmp 8),none⟩,[]⟩,⟨⟨some 44,.slice 27 (.tmp 42) none (some (.tmp 43)) none,none⟩,[]⟩,⟨⟨some 45,.call ⟨(.builtin .copy),#[.tmp 41,.tmp 44],#[27,27]⟩,none⟩,[]⟩,⟨⟨some 46,.binOp .add 3 (.tmp 38) (.tmp 45) 3,none⟩,[]⟩,
 ⟨⟨some 8,.assign (.tmp 46),none⟩,[]⟩]))))) (.seq (.reg [⟨⟨some 47,.move (.tmp 7),none⟩,[]⟩,
  ⟨⟨some 4,.assign (.tmp 47),none⟩,[]⟩]) .ret))))))))
theorem in157:InT Tryz.prog 157 2 [.tmp 4] cd157:=InT.mk (by kernel_rfl) [(9,[(0,false),(1,false),(2,false),(3,false),(4,false),(5,false),(6,false),(7,true),(8,false),(9,true)])] Tryz.func157 rfl (by kernel_rfl) (by kernel_rfl) (of_decide_eq_true (by kernel_rfl)) (by kernel_rfl)
end Go.Proofs.YtjnefjchconebaaGreat.Ai
namespace Go.Proofs.YtjnefjchconebaaGreat.Ai
open Go Go.RowKit
theorem sl_own {P:Program}{t e:TypeId}(hu:P.underlying t=some (.slice e))(hc:P.cellsOf e=1){H:AH}{o k n c:Nat}{vs:List Value}{ro:Bool}(ho:H[o]?=some (.cells vs e ro)){lo hi:Option Value}{l r:Nat}(h1:boundA lo 0=some l)(h2:boundA hi n=some r)(hl:l<=r)(hr:r<=n) :
    sliceA P t (.slice (some ⟨o,k,none⟩) n c) lo hi none H=some (.slice (some ⟨o,k+l,none⟩) (r - l) (r - l)):=by
  simp only [sliceA,hu,h1,h2,ho,hc,Nat.mul_one]
  rw [if_pos ⟨hl,hr,trivial,Nat.one_pos⟩]
theorem cp_ints {P:Program}{t e:TypeId}(hu:P.underlying t=some (.slice e))(hc:P.cellsOf e=1){H:AH}{o k n c:Nat}{xs ys:List Int}{x:Value}(ho:H[o]?=some (.cells (ints xs) e false))(hr:Row e H x ys)(hm:0<ys.length)(hn:0<n)(hb:k+n<=xs.length) :
    copyA P t (.slice (some ⟨o,k,none⟩) n c) x H=some (.int .i64 ((min ys.length n:Nat):Int),H.set o (.cells (ints (xs.take k ++ ys.take (min ys.length n) ++ xs.drop (k+min ys.length n))) e false)):=by
  have hs:=hr.cells (P:=P) hc
  simp only [copyA,hu,ho,hs,hc,Nat.mul_one]
  rw [if_pos ⟨trivial,Nat.one_pos,hm,hn,by rw [ints_len];exact hb⟩]
  have:putAt (ints xs) k ((ints ys).take (min ys.length n))=ints (xs.take k ++ ys.take (min ys.length n) ++ xs.drop (k+min ys.length n)):=by
    unfold putAt
    have e1:((ints ys).take (min ys.length n)).length=min ys.length n:=by rw [List.length_take,ints_len];omega
    rw [e1]
    simp [ints,List.map_take,List.map_drop]
  rw [this]
theorem mul_one_u (P:Program)(t:TypeId)(n:Nat)(h:n<18446744073709551616):binA P .mul t (.int .u64 1) (.int .u64 (n:Int))=some (.int .u64 (n:Int)):=by
  simp only [binA,intA,Int.one_mul,IntKind.wrap_u64]
  simp
  omega
theorem mul_zero_u (P:Program)(t:TypeId)(n:Nat):binA P .mul t (.int .u64 0) (.int .u64 (n:Int))=some (.int .u64 0):=by
  simp only [binA,intA,Int.zero_mul,IntKind.wrap_u64]
  simp
theorem shr32 (P:Program)(t:TypeId)(n:Nat)(h:n<4294967296):binA P .shr t (.int .u64 (n:Int)) (.int .u64 32)=some (.int .u64 0):=by
  simp only [binA,shiftA]
  rw [if_pos (.inr trivial),if_neg (by decide)]
  congr 2
  have:(2 ^ min (32:Int).toNat IntKind.u64.bits:Int)=4294967296:=by decide
  rw [this,Int.fdiv_eq_ediv_of_nonneg _ (by decide)]
  omega
theorem and32 (P:Program)(t:TypeId)(n:Nat)(h:n<4294967296):binA P .and t (.int .u64 (n:Int)) (.int .u64 4294967295)=some (.int .u64 (n:Int)):=by
  have:=bin_and P t n 4294967295 (by omega) (by decide)
  have e:n &&& 4294967295=n:=by
    rw [show 4294967295=2 ^ 32 - 1 from rfl,Nat.and_two_pow_sub_one_eq_mod]
    exact Nat.mod_eq_of_lt h
  rw [e] at this
  exact this
theorem Mul64_c (n:Nat)(H:AH)(hn:n<4294967296):ACalls Tryz.prog 227 [.int .u64 1,.int .u64 (n:Int)] H fun r H'=>r=.tuple (List.toArray [.int .u64 0,.int .u64 (n:Int)])/\H=H':=by
  refine in227 rfl ?_
  intro Q hQ
  have k1:binA Tryz.prog .and 87 (.int .u64 1) (.int .u64 4294967295)=some (.int .u64 1):=by kernel_rfl
  have k2:binA Tryz.prog .shr 87 (.int .u64 1) (.int .u64 32)=some (.int .u64 0):=by kernel_rfl
  have k3:=and32 Tryz.prog 87 n hn
  have k4:=shr32 Tryz.prog 87 n hn
  have k5:=mul_one_u Tryz.prog 87 n (by omega)
  have k6:=mul_zero_u Tryz.prog 87 n
  have k7:binA Tryz.prog .add 87 (.int .u64 0) (.int .u64 0)=some (.int .u64 0):=by kernel_rfl
  have k8:binA Tryz.prog .and 87 (.int .u64 0) (.int .u64 4294967295)=some (.int .u64 0):=by kernel_rfl
  have k9:binA Tryz.prog .shr 87 (.int .u64 0) (.int .u64 32)=some (.int .u64 0):=by kernel_rfl
  have k10:binA Tryz.prog .mul 87 (.int .u64 1) (.int .u64 0)=some (.int .u64 0):=by kernel_rfl
  have k11:binA Tryz.prog .mul 87 (.int .u64 0) (.int .u64 0)=some (.int .u64 0):=by kernel_rfl
  simp (maxSteps:=1000000) (disch:=omega) only [cd227,k1,k2,k3,k4,k5,k6,k7,k8,k9,k10,k11,SS,eq_self,reduceIte,reduceCtorEq,Nat.reduceEqDiff,Nat.reduceAdd]
  refine hQ _ _ _ ?_
  simp (maxSteps:=1000000) (disch:=omega) only [SS,eq_self,reduceIte,reduceCtorEq,Nat.reduceEqDiff,Nat.reduceAdd]
theorem Mul_c (n:Nat)(H:AH)(hn:n<4294967296):ACalls Tryz.prog 202 [.int .u64 1,.int .u64 (n:Int)] H fun r H'=>r=.tuple (List.toArray [.int .u64 0,.int .u64 (n:Int)])/\H=H':=by
  refine in202 rfl ?_
  intro Q hQ
  simp (maxSteps:=1000000) (disch:=omega) only [cd202,SS,eq_self,reduceIte,reduceCtorEq,Nat.reduceEqDiff,Nat.reduceAdd]
  refine CallH.by (Mul64_c n H hn) ?_
  rintro _ _ ⟨rfl,rfl⟩
  simp (maxSteps:=1000000) (disch:=omega) only [SS,eq_self,reduceIte,reduceCtorEq,Nat.reduceEqDiff,Nat.reduceAdd]
  refine hQ _ _ _ ?_
  simp (maxSteps:=1000000) (disch:=omega) only [SS,eq_self,reduceIte,reduceCtorEq,Nat.reduceEqDiff,Nat.reduceAdd]
def rpN (N k:Nat):List Int:=List.replicate k (-1) ++ List.replicate (N - k) 0
theorem rpN_step (N k:Nat)(hk:k<=N):(rpN N k).take k ++ (List.replicate k (-1:Int)).take (min k (N - k)) ++ (rpN N k).drop (k+min k (N - k))=rpN N (k+min k (N - k)):=by
  unfold rpN
  rw [List.take_left' (by simp),List.take_replicate,<- List.drop_drop,List.drop_left' (by simp),List.drop_replicate,List.replicate_append_replicate]
  congr 2 <;> omega
theorem rpN_take (N k:Nat):(rpN N k).take k=List.replicate k (-1):=by
  unfold rpN
  rw [List.take_left' (by simp)]
theorem rpN_len (N k:Nat)(h:k<=N):(rpN N k).length=N:=by simp [rpN];omega
theorem Repeat_c (v:Value)(N:Nat)(H:AH)(hr:Row 3 H v [-1])(hN:1<=N/\N<=1000000000):ACalls Tryz.prog 157 [v,.int .i64 (N:Int)] H fun r H'=>Own 3 H H' r (List.replicate N (-1))/\H<+:H':=by
  refine in157 rfl ?_
  intro Q hQ
  have hU:IntKind.u64.wrap (N:Int)=(N:Int):=by rw [IntKind.wrap_u64];omega
  have hU1:IntKind.u64.wrap 1=1:=by decide
  simp (maxSteps:=1000000) (disch:=omega) only [cd157,hr.len Tryz.underlying27,SS,eq_self,reduceIte,reduceCtorEq,Nat.reduceEqDiff,Nat.reduceAdd]
  refine brD.intro (fun g=>absurd g (by omega)) (fun g=>?_)
  have hl1:(([-1]:List Int).length:Int)=1:=rfl
  simp (maxSteps:=1000000) (disch:=omega) only [hr.len Tryz.underlying27,hU,hl1,hU1,SS,eq_self,reduceIte,reduceCtorEq,Nat.reduceEqDiff,Nat.reduceAdd]
  refine CallH.by (Mul_c N H (by omega)) ?_
  rintro _ _ ⟨rfl,rfl⟩
  have d0:¬ ((0:Int) > 0):=by decide
  simp (maxSteps:=1000000) (disch:=omega) only [d0,SS,eq_self,reduceIte,reduceCtorEq,Nat.reduceEqDiff,Nat.reduceAdd]
  refine brD.intro (fun g=>absurd g (by omega)) (fun g2=>?_)
  simp (maxSteps:=1000000) (disch:=omega) only [wrap64,mks27,Int.toNat_natCast,SS,eq_self,reduceIte,reduceCtorEq,Nat.reduceEqDiff,Nat.reduceAdd]
  generalize hz:H ++ [AObj.cells (ints (List.replicate N 0)) 3 false]=Z
  have pZ:H<+:Z:=by rw [<- hz];exact List.prefix_append _ _
  have cZ:Z[H.length]?=some (.cells (ints (List.replicate N 0)) 3 false):=by rw [<- hz];exact at_new ..
  have c1:=cp_ints (P:=Tryz.prog) (t:=27) (k:=0) (n:=N) (c:=N) Tryz.underlying27 cs3 cZ (hr.pre pZ) (by decide) (by omega) (by simp)
  have e1:min ([-1]:List Int).length N=1:=by simp;omega
  have e2:(List.replicate N (0:Int)).take 0 ++ ([-1]:List Int).take 1 ++ (List.replicate N (0:Int)).drop (0+1)=rpN N 1:=by simp [rpN,List.drop_replicate]
  rw [e1,e2] at c1
  simp (maxSteps:=1000000) (disch:=omega) only [c1,SS,eq_self,reduceIte,reduceCtorEq,Nat.reduceEqDiff,Nat.reduceAdd]
  refine LoopH.by (fun m s H'=>∃ k,m+k=N/\1<=k/\s 7=.slice (some ⟨H.length,0,none⟩) N N/\s 8=.int .i64 ((k:Nat):Int)/\H'=Z.set H.length (.cells (ints (rpN N k)) 3 false)) (N - 1) ?_ ?_
  . exact ⟨1,by omega,by omega,rfl,rfl,rfl⟩
  . rintro m s H' ⟨k,hm,hk1,h7,h8,rfl⟩
    have cK:(Z.set H.length (.cells (ints (rpN N k)) 3 false))[H.length]?=some (.cells (ints (rpN N k)) 3 false):=at_set cZ
    simp (maxSteps:=1000000) (disch:=omega) only [h7,h8,SS,eq_self,reduceIte,reduceCtorEq,Nat.reduceEqDiff,Nat.reduceAdd]
    refine brD.intro (fun g=>?_) (fun g=>?_)
    . have hk:k<N:=by omega
      have s1:=sl_own (P:=Tryz.prog) (t:=27) (k:=0) (n:=N) (c:=N) Tryz.underlying27 cs3 cK (bound_some (k:=.i64) (i:=(k:Int)) (by omega) 0) (hi_none N) (show ((k:Int)).toNat<=N by omega) (Nat.le_refl _)
      have s2:=sl_own (P:=Tryz.prog) (t:=27) (k:=0) (n:=N) (c:=N) Tryz.underlying27 cs3 cK lo_none (bound_some (k:=.i64) (i:=(k:Int)) (by omega) N) (Nat.zero_le _) (show ((k:Int)).toNat<=N by omega)
      simp only [Int.toNat_natCast,Nat.zero_add,Nat.sub_zero] at s1 s2
      have hrk:Row 3 (Z.set H.length (.cells (ints (rpN N k)) 3 false)) (.slice (some ⟨H.length,0,none⟩) k k) (List.replicate k (-1)):=by
        refine .inr ⟨H.length,0,ints (rpN N k),false,by simp,cK,by rw [ints_len,rpN_len N k (by omega)];simp;omega,?_⟩
        rw [List.length_replicate,List.drop_zero]
        have:(ints (rpN N k)).take k=ints ((rpN N k).take k):=by simp [ints,List.map_take]
        rw [this,rpN_take]
      have c2:=cp_ints (P:=Tryz.prog) (t:=27) (k:=k) (n:=N - k) (c:=N - k) Tryz.underlying27 cs3 cK hrk (by simp;omega) (by omega) (by rw [rpN_len N k (by omega)];omega)
      rw [List.length_replicate,rpN_step N k (by omega),List.set_set] at c2
      simp (maxSteps:=1000000) (disch:=omega) only [h7,h8,s1,s2,c2,wrap64,SS,eq_self,reduceIte,reduceCtorEq,Nat.reduceEqDiff,Nat.reduceAdd]
      refine ⟨m - min k (N - k),by omega,k+min k (N - k),?_⟩
      (repeat' apply And.intro) <;> first | (simp only [Value.int.injEq,true_and];omega) | omega | rfl | assumption | (simp;done) | (simp;omega)
    . simp (maxSteps:=1000000) (disch:=omega) only [h7,SS,eq_self,reduceIte,reduceCtorEq,Nat.reduceEqDiff,Nat.reduceAdd]
      refine hQ _ _ _ ?_
      simp (maxSteps:=1000000) (disch:=omega) only [h7,SS,eq_self,reduceIte,reduceCtorEq,Nat.reduceEqDiff,Nat.reduceAdd]
      have:k=N:=by omega
      subst this
      have e3:rpN k k=List.replicate k (-1):=by simp [rpN]
      rw [e3]
      have hZ:=at_set (d:=.cells (ints (List.replicate k (-1))) 3 false) cZ
      exact ⟨.inr ⟨H.length,by rw [List.length_replicate],Nat.le_refl _,hZ⟩,pre_set pZ (Nat.le_refl _) _⟩
theorem rpN_set (N j:Nat)(hj:j<N):(rpN N j).set j (-1)=rpN N (j+1):=by
  unfold rpN
  rw [List.set_append_right _ _ (by simp)]
  obtain ⟨n,hn⟩:∃ n,N - j=n+1:=⟨N - j - 1,by omega⟩
  rw [hn,List.length_replicate,Nat.sub_self,List.replicate_succ,List.set_cons_zero,List.replicate_succ',List.append_assoc]
  have:N - (j+1)=n:=by omega
  rw [this];rfl
def cd74:Cd:=(.seq (.reg [⟨⟨some 4,.assign (.const (.slice none 0 0)),none⟩,[]⟩]) (.seq (.reg [⟨⟨some 10,.buildSlice 27 1 #[(0,(.const (.int .i64 (-1))))],none⟩,[]⟩,⟨⟨some 11,.move (.tmp 0),none⟩,[]⟩,⟨⟨some 12,.call ⟨(.builtin .len),#[.tmp 11],#[36]⟩,none⟩,[]⟩,⟨⟨some 13,.call ⟨(.value (.func 157)),#[.tmp 10,.tmp 12],#[27,3]⟩,none⟩,[]⟩,⟨⟨some 5,.assign (.tmp 13),none⟩,[]⟩]) (.seq (.reg [⟨⟨some 14,.move (.tmp 5),none⟩,[]⟩,⟨⟨some 15,.move (.tmp 1),none⟩,[]⟩,⟨⟨some 16,.indexAddr 27 (.tmp 14) (.tmp 15),none⟩,[]⟩,⟨⟨none,.store 3 (.tmp 16) (.const (.int .i64 0)),none⟩,[]⟩]) (.seq (.reg [⟨⟨some 17,.move (.tmp 1),none⟩,[]⟩,⟨⟨some 18,.buildSlice 27 1 #[(0,.tmp 17)],none⟩,[]⟩,⟨⟨some 6,.assign (.tmp 18),none⟩,[]⟩]) (.seq (.block 0 (.loop (.seq (.seq (.reg [⟨⟨some 19,.move (.tmp 6),none⟩,[]⟩,⟨⟨some 20,.call ⟨(.builtin .len),#[.tmp 19],#[27]⟩,none⟩,[]⟩,⟨⟨some 21,.binOp .gtr 3 (.tmp 20) (.const (.int .i64 0)) 3,none⟩,[]⟩]) (.cond (.tmp 21) .skip (.exit 0))) (.block 1 (.seq (.reg [⟨⟨some 22,.move (.tmp 6),none⟩,[]⟩,
 ⟨⟨some 23,.indexAddr 27 (.tmp 22) (.const (.int .i64 0)),none⟩,[]⟩,⟨⟨some 24,.load 3 (.tmp 23),none⟩,[]⟩,⟨⟨some 7,.assign (.tmp 24),none⟩,[]⟩]) (.seq (.reg [⟨⟨some 25,.move (.tmp 6),none⟩,[]⟩,⟨⟨some 26,.slice 27 (.tmp 25) (some (.const (.int .i64 1))) none none,none⟩,[]⟩,⟨⟨some 6,.assign (.tmp 26),none⟩,[]⟩]) (.seq (.reg [⟨⟨some 27,.move (.tmp 0),none⟩,[]⟩,⟨⟨some 28,.move (.tmp 7),none⟩,[]⟩,⟨⟨some 29,.indexAddr 36 (.tmp 27) (.tmp 28),none⟩,[]⟩,⟨⟨some 30,.load 27 (.tmp 29),none⟩,[]⟩,⟨⟨some 31,.call ⟨(.builtin .len),#[.tmp 30],#[27]⟩,none⟩,[]⟩,⟨⟨some 32,.move (.const (.int .i64 0)),none⟩,[]⟩]) (.block 2 (.loop (.seq (.reg [⟨⟨some 33,.binOp .lss 3 (.tmp 32) (.tmp 31) 3,none⟩,[]⟩]) (.seq (.cond (.tmp 33) .skip (.exit 2)) (.seq (.block 3 (.seq (.reg [⟨⟨some 34,.indexAddr 27 (.tmp 30) (.tmp 32),none⟩,[]⟩,⟨⟨some 35,.load 3 (.tmp 34),none⟩,[]⟩,⟨⟨some 9,.assign (.tmp 35),none⟩,[]⟩]) (.seq (.reg [⟨⟨some 36,.move (.tmp 5),none⟩,[]⟩,
 ⟨⟨some 37,.move (.tmp 9),none⟩,[]⟩,⟨⟨some 38,.indexAddr 27 (.tmp 36) (.tmp 37),none⟩,[]⟩,⟨⟨some 39,.load 3 (.tmp 38),none⟩,[]⟩,⟨⟨some 40,.binOp .lss 3 (.tmp 39) (.const (.int .i64 0)) 3,none⟩,[]⟩]) (.cond (.tmp 40) (.seq (.reg [⟨⟨some 41,.move (.tmp 5),none⟩,[]⟩,⟨⟨some 42,.move (.tmp 9),none⟩,[]⟩,⟨⟨some 43,.move (.tmp 5),none⟩,[]⟩,⟨⟨some 44,.move (.tmp 7),none⟩,[]⟩,⟨⟨some 45,.indexAddr 27 (.tmp 43) (.tmp 44),none⟩,[]⟩,⟨⟨some 46,.load 3 (.tmp 45),none⟩,[]⟩,⟨⟨some 47,.binOp .add 3 (.tmp 46) (.const (.int .i64 1)) 3,none⟩,[]⟩,⟨⟨some 48,.indexAddr 27 (.tmp 41) (.tmp 42),none⟩,[]⟩,⟨⟨none,.store 3 (.tmp 48) (.tmp 47),none⟩,[]⟩]) (.reg [⟨⟨some 49,.move (.tmp 6),none⟩,[]⟩,
 ⟨⟨some 50,.move (.tmp 9),none⟩,[]⟩,
  ⟨⟨some 51,.buildSlice 27 1 #[(0,.tmp 50)],none⟩,[]⟩,
  ⟨⟨some 52,.call ⟨(.builtin .append),#[.tmp 49,.tmp 51],#[27,27]⟩,none⟩,[]⟩,
  ⟨⟨some 6,.assign (.tmp 52),none⟩,[]⟩])) .skip)))) (.reg [⟨⟨some 53,.binOp .add 3 (.tmp 32) (.const (.int .i64 1)) 3,none⟩,[]⟩,
  ⟨⟨some 32,.move (.tmp 53),none⟩,[]⟩]))))))))))))) (.seq (.reg [⟨⟨some 54,.move (.tmp 5),none⟩,[]⟩,
  ⟨⟨some 4,.assign (.tmp 54),none⟩,[]⟩]) .ret))))))
theorem in74:InT Tryz.prog 74 2 [.tmp 4] cd74:=InT.mk (by kernel_rfl) [] Tryz.func74 rfl (by kernel_rfl) (by kernel_rfl) (of_decide_eq_true (by kernel_rfl)) (by kernel_rfl)
def cd160:Cd:=(.seq (.reg [⟨⟨some 4,.assign (.const (.slice none 0 0)),none⟩,[]⟩]) (.seq (.reg [⟨⟨some 11,.move (.tmp 0),none⟩,[]⟩,⟨⟨some 12,.call ⟨(.builtin .len),#[.tmp 11],#[36]⟩,none⟩,[]⟩,⟨⟨some 13,.makeSlice 27 (.tmp 12) (.tmp 12),none⟩,[]⟩,⟨⟨some 5,.assign (.tmp 13),none⟩,[]⟩]) (.seq (.seq (.reg [⟨⟨some 6,.assign (.const (.int .i64 0)),none⟩,[]⟩]) (.block 0 (.loop (.seq (.seq (.reg [⟨⟨some 14,.move (.tmp 6),none⟩,[]⟩,⟨⟨some 15,.move (.tmp 5),none⟩,[]⟩,⟨⟨some 16,.call ⟨(.builtin .len),#[.tmp 15],#[27]⟩,none⟩,[]⟩,⟨⟨some 17,.binOp .lss 3 (.tmp 14) (.tmp 16) 3,none⟩,[]⟩]) (.cond (.tmp 17) .skip (.exit 0))) (.seq (.block 1 (.reg [⟨⟨some 20,.move (.tmp 5),none⟩,[]⟩,⟨⟨some 21,.move (.tmp 6),none⟩,[]⟩,⟨⟨some 22,.indexAddr 27 (.tmp 20) (.tmp 21),none⟩,[]⟩,⟨⟨none,.store 3 (.tmp 22) (.const (.int .i64 (-1))),none⟩,[]⟩])) (.reg [⟨⟨some 18,.move (.tmp 6),none⟩,[]⟩,⟨⟨some 19,.binOp .add 3 (.tmp 18) (.const (.int .i64 1)) 3,none⟩,[]⟩,⟨⟨some 6,.assign (.tmp 19),none⟩,[]⟩])))))) (.seq (.reg [⟨⟨some 23,.move (.tmp 1),none⟩,[]⟩,
 ⟨⟨some 24,.buildSlice 27 1 #[(0,.tmp 23)],none⟩,[]⟩,⟨⟨some 7,.assign (.tmp 24),none⟩,[]⟩]) (.seq (.reg [⟨⟨some 25,.move (.tmp 5),none⟩,[]⟩,⟨⟨some 26,.move (.tmp 1),none⟩,[]⟩,⟨⟨some 27,.indexAddr 27 (.tmp 25) (.tmp 26),none⟩,[]⟩,⟨⟨none,.store 3 (.tmp 27) (.const (.int .i64 0)),none⟩,[]⟩]) (.seq (.seq (.reg [⟨⟨some 8,.assign (.const (.int .i64 0)),none⟩,[]⟩]) (.block 2 (.loop (.seq (.seq (.reg [⟨⟨some 28,.move (.tmp 8),none⟩,[]⟩,⟨⟨some 29,.move (.tmp 7),none⟩,[]⟩,⟨⟨some 30,.call ⟨(.builtin .len),#[.tmp 29],#[27]⟩,none⟩,[]⟩,⟨⟨some 31,.binOp .lss 3 (.tmp 28) (.tmp 30) 3,none⟩,[]⟩]) (.cond (.tmp 31) .skip (.exit 2))) (.seq (.block 3 (.seq (.reg [⟨⟨some 34,.move (.tmp 0),none⟩,[]⟩,⟨⟨some 35,.move (.tmp 7),none⟩,[]⟩,⟨⟨some 36,.move (.tmp 8),none⟩,[]⟩,⟨⟨some 37,.indexAddr 27 (.tmp 35) (.tmp 36),none⟩,[]⟩,⟨⟨some 38,.load 3 (.tmp 37),none⟩,[]⟩,
 ⟨⟨some 39,.indexAddr 36 (.tmp 34) (.tmp 38),none⟩,[]⟩,⟨⟨some 40,.load 27 (.tmp 39),none⟩,[]⟩,⟨⟨some 9,.assign (.tmp 40),none⟩,[]⟩]) (.seq (.reg [⟨⟨some 10,.assign (.const (.int .i64 0)),none⟩,[]⟩]) (.block 4 (.loop (.seq (.seq (.reg [⟨⟨some 41,.move (.tmp 10),none⟩,[]⟩,⟨⟨some 42,.move (.tmp 9),none⟩,[]⟩,⟨⟨some 43,.call ⟨(.builtin .len),#[.tmp 42],#[27]⟩,none⟩,[]⟩,⟨⟨some 44,.binOp .lss 3 (.tmp 41) (.tmp 43) 3,none⟩,[]⟩]) (.cond (.tmp 44) .skip (.exit 4))) (.seq (.block 5 (.seq (.reg [⟨⟨some 47,.move (.tmp 5),none⟩,[]⟩,⟨⟨some 48,.move (.tmp 9),none⟩,[]⟩,⟨⟨some 49,.move (.tmp 10),none⟩,[]⟩,⟨⟨some 50,.indexAddr 27 (.tmp 48) (.tmp 49),none⟩,[]⟩,⟨⟨some 51,.load 3 (.tmp 50),none⟩,[]⟩,⟨⟨some 52,.indexAddr 27 (.tmp 47) (.tmp 51),none⟩,[]⟩,⟨⟨some 53,.load 3 (.tmp 52),none⟩,[]⟩,
 ⟨⟨some 54,.binOp .lss 3 (.tmp 53) (.const (.int .i64 0)) 3,none⟩,[]⟩]) (.cond (.tmp 54) (.seq (.reg [⟨⟨some 55,.move (.tmp 5),none⟩,[]⟩,⟨⟨some 56,.move (.tmp 9),none⟩,[]⟩,⟨⟨some 57,.move (.tmp 10),none⟩,[]⟩,⟨⟨some 58,.indexAddr 27 (.tmp 56) (.tmp 57),none⟩,[]⟩,⟨⟨some 59,.load 3 (.tmp 58),none⟩,[]⟩,⟨⟨some 60,.move (.tmp 5),none⟩,[]⟩,⟨⟨some 61,.move (.tmp 7),none⟩,[]⟩,⟨⟨some 62,.move (.tmp 8),none⟩,[]⟩,⟨⟨some 63,.indexAddr 27 (.tmp 61) (.tmp 62),none⟩,[]⟩,⟨⟨some 64,.load 3 (.tmp 63),none⟩,[]⟩,⟨⟨some 65,.indexAddr 27 (.tmp 60) (.tmp 64),none⟩,[]⟩,⟨⟨some 66,.load 3 (.tmp 65),none⟩,[]⟩,
 ⟨⟨some 67,.binOp .add 3 (.tmp 66) (.const (.int .i64 1)) 3,none⟩,[]⟩,⟨⟨some 68,.indexAddr 27 (.tmp 55) (.tmp 59),none⟩,[]⟩,⟨⟨none,.store 3 (.tmp 68) (.tmp 67),none⟩,[]⟩]) (.reg [⟨⟨some 69,.move (.tmp 7),none⟩,[]⟩,⟨⟨some 70,.move (.tmp 9),none⟩,[]⟩,⟨⟨some 71,.move (.tmp 10),none⟩,[]⟩,⟨⟨some 72,.indexAddr 27 (.tmp 70) (.tmp 71),none⟩,[]⟩,⟨⟨some 73,.load 3 (.tmp 72),none⟩,[]⟩,⟨⟨some 74,.buildSlice 27 1 #[(0,.tmp 73)],none⟩,[]⟩,⟨⟨some 75,.call ⟨(.builtin .append),#[.tmp 69,.tmp 74],#[27,27]⟩,none⟩,[]⟩,⟨⟨some 7,.assign (.tmp 75),none⟩,[]⟩])) .skip))) (.reg [⟨⟨some 45,.move (.tmp 10),none⟩,[]⟩,⟨⟨some 46,.binOp .add 3 (.tmp 45) (.const (.int .i64 1)) 3,none⟩,[]⟩,⟨⟨some 10,.assign (.tmp 46),none⟩,[]⟩])))))))) (.reg [⟨⟨some 32,.move (.tmp 8),none⟩,[]⟩,
 ⟨⟨some 33,.binOp .add 3 (.tmp 32) (.const (.int .i64 1)) 3,none⟩,[]⟩,
  ⟨⟨some 8,.assign (.tmp 33),none⟩,[]⟩])))))) (.seq (.reg [⟨⟨some 76,.move (.tmp 5),none⟩,[]⟩,
  ⟨⟨some 4,.assign (.tmp 76),none⟩,[]⟩]) .ret)))))))
theorem in160:InT Tryz.prog 160 2 [.tmp 4] cd160:=InT.mk (by kernel_rfl) [(16,[(0,false),(1,false),(2,false),(3,false),(4,false),(5,false),(6,false),(7,false),(8,false),(9,false),(10,false),(11,false),(12,false),(13,false),(14,true)])] Tryz.func160 rfl (by kernel_rfl) (by kernel_rfl) (of_decide_eq_true (by kernel_rfl)) (by kernel_rfl)
end Go.Proofs.YtjnefjchconebaaGreat.Ai
namespace Go.Proofs.YtjnefjchconebaaGreat.Ai
open Go Go.RowKit
def QH (H0 H:AH)(oo:Nat)(out:List Int)(oq kq nq:Nat)(q:List Int):Prop :=
  (∃ zs,H[oq]?=some (.cells (ints zs) 3 false)/\(zs.drop kq).take nq=q/\kq+nq<=zs.length)/\H[oo]?=some (.cells (ints out) 3 false)/\H0.length<=oo/\H0.length<=oq/\oq ≠ oo/\H0<+:H
theorem app_q {P:Program}{t e:TypeId}(hu:P.underlying t=some (.slice e))(hc:P.cellsOf e=1)(hby:P.bytesOf e<=64)(hz:zeroOk P e=true){H:AH}{o k n c:Nat}{zs:List Int}{x:Int}(ho:H[o]?=some (.cells (ints zs) e false))(hn:k+n<=zs.length)(hb:n<=1099511627775) :
    appendA P t t (.slice (some ⟨o,k,none⟩) n c) (.slice (some ⟨H.length,0,none⟩) 1 1) (H ++ [.cells [.int .i64 x] e false])=some (.slice (some ⟨H.length+1,0,none⟩) (n+1) (n+1),H.set o .dead ++ [.cells [.int .i64 x] e false,.cells (ints ((zs.drop k).take n ++ [x])) e false]):=by
  have hlt:o<H.length:=at_lt ho
  have hb2:(n+1) * P.bytesOf e<=140737488355328:=by
    refine Nat.le_trans (Nat.mul_le_mul_left _ hby) ?_
    omega
  have ho2:(H ++ [AObj.cells [.int .i64 x] e false])[o]?=some (.cells (ints zs) e false):=at_app ho _
  have hsc:sliceCells P e (.slice (some ⟨H.length,0,none⟩) 1 1) (H ++ [.cells [.int .i64 x] e false])=some (1,[.int .i64 x]):=by
    simp only [sliceCells,at_new,hc];simp
  simp only [appendA,hu,hc,hsc,ho2,hz]
  rw [if_pos (by simp),if_neg (by simp),if_pos ⟨trivial,by rw [ints_len];omega,hb2,by omega,trivial⟩]
  have:List.take (n * 1) (List.drop k (ints zs)) ++ [Value.int .i64 x]=ints ((zs.drop k).take n ++ [x]):=by
    simp [ints,List.map_take,List.map_drop]
  rw [this,List.length_append,List.set_append_left _ _ hlt]
  simp
theorem QH.push {H0 H:AH}{oo:Nat}{out:List Int}{oq kq nq:Nat}{q:List Int}(h:QH H0 H oo out oq kq nq q)(y:Nat)(d x:Int)(hb:nq<=1099511627775) :
    ∃ H2,appendA Tryz.prog 27 27 (.slice (some ⟨oq,kq,none⟩) nq nq) (.slice (some ⟨(H.set oo (.cells (ints (out.set y d)) 3 false)).length,0,none⟩) 1 1) (H.set oo (.cells (ints (out.set y d)) 3 false) ++ [.cells [.int .i64 x] 3 false])=some (.slice (some ⟨(H.set oo (.cells (ints (out.set y d)) 3 false)).length+1,0,none⟩) (nq+1) (nq+1),H2) /\
      QH H0 H2 oo (out.set y d) ((H.set oo (.cells (ints (out.set y d)) 3 false)).length+1) 0 (nq+1) (q ++ [x]):=by
  obtain ⟨⟨zs,h1,h2,h3⟩,h4,h5,h6,h7,h8⟩:=h
  have hlt:=at_lt h4
  generalize hH1:H.set oo (.cells (ints (out.set y d)) 3 false)=H1
  have l1:H1.length=H.length:=by rw [<- hH1];simp
  have k1:H1[oq]?=some (.cells (ints zs) 3 false):=by rw [<- hH1,List.getElem?_set_ne (fun e=>h7 e.symm)];exact h1
  have k4:H1[oo]?=some (.cells (ints (out.set y d)) 3 false):=by rw [<- hH1];exact at_set h4
  have hp1:H0<+:H1:=by rw [<- hH1];exact pre_set h8 h5 _
  refine ⟨_,app_q Tryz.underlying27 cs3 (by rw [by3];decide) zk3 k1 h3 hb,⟨(zs.drop kq).take nq ++ [x],?_,?_,?_⟩,?_,h5,?_,?_,?_⟩
  . rw [List.getElem?_append_right (by simp)]
    simp
  . rw [List.drop_zero,h2,List.take_of_length_le]
    rw [<- h2];simp;omega
  . simp;omega
  . rw [List.getElem?_append_left (by simp;omega),List.getElem?_set_ne h7]
    exact k4
  . have:=h8.length_le;omega
  . omega
  . exact pre_app (pre_set hp1 h6 _) _
theorem QH.tail {H0 H:AH}{oo:Nat}{out:List Int}{oq kq nq:Nat}{x:Int}{q:List Int}(h:QH H0 H oo out oq kq nq (x :: q)):QH H0 H oo out oq (kq+1) (nq - 1) q/\cellA H oq kq=some (.int .i64 x)/\0<nq:=by
  obtain ⟨⟨zs,h1,h2,h3⟩,h4⟩:=h
  have hl:=congrArg List.length h2
  simp only [List.length_take,List.length_drop,List.length_cons] at hl
  have hk:kq<zs.length:=by omega
  obtain ⟨n,rfl⟩:∃ n,nq=n+1:=⟨nq - 1,by omega⟩
  rw [List.drop_eq_getElem_cons hk,List.take_succ_cons] at h2
  injection h2 with e1 e2
  refine ⟨⟨⟨zs,h1,by simpa using e2,by omega⟩,h4⟩,?_,by omega⟩
  rw [cell_of h1,ints_at zs hk]
  congr 2
  simp [hk,e1]
theorem bfsIn_drop (d:Int)(l:List Int)(j:Nat)(hj:j<l.length)(st:List Int × List Int):bfsIn d (l.drop j) st=if st.1.getD (l.getD j 0).toNat 0<0 then bfsIn d (l.drop (j+1)) (st.1.set (l.getD j 0).toNat d,st.2 ++ [l.getD j 0]) else bfsIn d (l.drop (j+1)) st:=by
  have e:l.getD j 0=l[j]:=by simp [hj]
  rw [List.drop_eq_getElem_cons hj,e]
  rfl
theorem spread_c (v:Value)(L:List (List Int))(i:Nat)(H:AH){b:Nat}(hr:RowLB b 27 3 H v L)(hL:LOk L.length L)(hN:L.length<=1000000)(hi:i<L.length)(hls:∀ x,(L.getD x []).length<=1000000000) :
    ACalls Tryz.prog 74 [v,.int .i64 (i:Int)] H fun r H'=>Own 3 H H' r (bfs L i)/\H<+:H':=by
  refine in74 rfl ?_
  intro Q hQ
  obtain ⟨us,hus,hvb,hul,hin⟩:=hr
  simp (maxSteps:=1000000) (disch:=omega) only [cd74,hus.len Tryz.underlying36,SS,eq_self,reduceIte,reduceCtorEq,Nat.reduceEqDiff,Nat.reduceAdd]
  generalize hA:H ++ [AObj.cells [.int .i64 (-1)] 3 false]=A
  have pA:H<+:A:=by rw [<- hA];exact List.prefix_append _ _
  have rA:Row 3 A (.slice (some ⟨H.length,0,none⟩) 1 1) [-1]:=.inr ⟨H.length,0,ints [-1],false,rfl,by rw [<- hA];exact at_new ..,by decide,rfl⟩
  rw [hul]
  refine CallH.by (Repeat_c _ L.length A rA (by omega)) ?_
  rintro u B ⟨hu,pB⟩
  rcases hu with ⟨_,h0⟩ | ⟨oo,hu,hol,hoc⟩
  . have:L.length=0:=by simpa using congrArg List.length h0
    omega
  rw [List.length_replicate] at hu
  subst hu
  have hlr:i<(List.replicate L.length (-1:Int)).length:=by simpa using hi
  simp (maxSteps:=1000000) (disch:=omega) only [Int.toNat_natCast,Nat.zero_add,st_ints cs3 hoc hlr,SS,eq_self,reduceIte,reduceCtorEq,Nat.reduceEqDiff,Nat.reduceAdd]
  have hb0:(List.replicate L.length (-1:Int)).set i 0=bfs0 L.length i:=rfl
  rw [hb0]
  generalize hC:B.set oo (.cells (ints (bfs0 L.length i)) 3 false)=C
  have c0:C[oo]?=some (.cells (ints (bfs0 L.length i)) 3 false):=by rw [<- hC];exact at_set hoc
  have lAH:=pA.length_le
  have pC:H<+:C:=by rw [<- hC];exact pre_set (pA.trans pB) (by omega) _
  have hlt:=at_lt c0
  have q0:QH H (C ++ [AObj.cells [.int .i64 (i:Int)] 3 false]) oo (bfs0 L.length i) C.length 0 1 [(i:Int)] :=
    ⟨⟨[(i:Int)],at_new ..,rfl,by simp⟩,at_app c0 _,by omega,pC.length_le,by omega,pre_app pC _⟩
  refine LoopH.by (fun m s H'=>∃ st k oq kq nq,m+k=L.length/\s 0=v/\s 5=.slice (some ⟨oo,0,none⟩) L.length L.length/\s 6=.slice (some ⟨oq,kq,none⟩) nq nq/\nq+k=st.2.length/\QH H H' oo st.1 oq kq nq (st.2.drop k)/\BI L.length st/\bfsF L (m+1) st k=bfs L i) L.length ?_ ?_
  . exact ⟨(bfs0 L.length i,[(i:Int)]),0,C.length,0,1,by omega,rfl,rfl,rfl,rfl,q0,bfs0_BI _ i hi,rfl⟩
  . rintro m s H' ⟨st,k,oq,kq,nq,hm,h0,h5,h6,hnq,hq,hb,hF⟩
    have hle:=hb.len_le
    simp (maxSteps:=1000000) (disch:=omega) only [h0,h5,h6,SS,eq_self,reduceIte,reduceCtorEq,Nat.reduceEqDiff,Nat.reduceAdd]
    refine brD.intro (fun g=>?_) (fun g=>?_)
    . have hk:k<st.2.length:=by omega
      rw [bfsF_step L m st k hk] at hF
      have hqm:st.2.getD k 0 ∈ st.2:=by simp [hk]
      obtain ⟨hxr,hx0⟩:=hb.q _ hqm
      have hxl:=hb.lo (st.2.getD k 0).toNat (by omega)
      rw [List.drop_eq_getElem_cons hk] at hq
      have hge:st.2[k]=st.2.getD k 0:=by simp [hk]
      rw [hge] at hq
      obtain ⟨x,hx⟩:∃ x:Nat,st.2.getD k 0=x:=⟨(st.2.getD k 0).toNat,by omega⟩
      rw [hx] at hq hF hxr hx0 hxl
      rw [Int.toNat_natCast] at hF hx0 hxl
      obtain ⟨hq2,hcell,hnq0⟩:=hq.tail
      have hqo:∃ zs ro,H'[oq]?=some (.cells (ints zs) 3 ro):=by obtain ⟨⟨zs,g1,_⟩,_⟩:=hq;exact ⟨zs,false,g1⟩
      obtain ⟨zs,ro,hqo⟩:=hqo
      have hsl:=sl_own (P:=Tryz.prog) (t:=27) (k:=kq) (n:=nq) (c:=nq) Tryz.underlying27 cs3 hqo (bound_some (k:=.i64) (i:=1) (by decide) 0) (hi_none nq) (show (1:Int).toNat<=nq from hnq0) (Nat.le_refl _)
      have hpp:H<+:H':=hq.2.2.2.2.2
      have hus':=hus.pre hpp
      have hxu:x<us.length:=by omega
      have hinH:=(hin x (by omega)).1
      have hin':=hinH.pre hpp
      have hlb:=hls x
      have hLx:=hL x
      have hz0:(0:Int).toNat=0:=rfl
      simp (maxSteps:=1000000) (disch:=omega) only [h0,h5,h6,hz0,hcell,hsl,hus'.ix Tryz.underlying36 cs27,hus'.cell,Int.toNat_natCast,SS,eq_self,reduceIte,reduceCtorEq,Nat.reduceEqDiff,Nat.reduceAdd]
      generalize hw:us.getD x undef=w at *
      generalize hl:L.getD x []=l at *
      simp (maxSteps:=1000000) (disch:=omega) only [hin'.len Tryz.underlying27,SS,eq_self,reduceIte,reduceCtorEq,Nat.reduceEqDiff,Nat.reduceAdd]
      generalize hd:st.1.getD x 0+1=d at *
      have hone:(1:Int).toNat=1:=rfl
      simp only [hone]
      refine LoopH.by (fun m' s' H''=>∃ j st' oq' kq' nq',m'+j=l.length/\s' 0=v/\s' 5=.slice (some ⟨oo,0,none⟩) L.length L.length/\s' 6=.slice (some ⟨oq',kq',none⟩) nq' nq'/\s' 7=.int .i64 (x:Int)/\s' 30=w/\s' 31=.int .i64 (l.length:Int)/\s' 32=.int .i64 ((j:Nat):Int)/\nq'+(k+1)=st'.2.length/\QH H H'' oo st'.1 oq' kq' nq' (st'.2.drop (k+1))/\BI L.length st'/\st.2<+:st'.2/\st'.1.getD x 0+1=d/\bfsIn d (l.drop j) st'=bfsIn d l st) l.length ?_ ?_
      . have hd1:st.2.drop (k+1)=st.2.drop (k+1):=rfl
        refine ⟨0,st,oq,kq+1,nq - 1,by simp,?_⟩
        simp only [SS,eq_self,reduceIte,reduceCtorEq,Nat.reduceEqDiff,Nat.reduceAdd,h0,h5,h6]
        have hd2:bfsIn d (l.drop 0) st=bfsIn d l st:=by rw [List.drop_zero]
        have hpr:=List.prefix_refl st.2
        (repeat' first | exact hq2 | exact hb | exact hd | exact hd2 | exact hpr | apply And.intro) <;> first | (simp only [Value.int.injEq,true_and];omega) | omega | rfl | assumption | (simp;done) | (simp;omega)
      . rintro m' s' H'' ⟨j,st',oq',kq',nq',hm',g0,g5,g6,g7,g30,g31,g32,hnq',hq',hb',hpre,hd',hB⟩
        have hpp':H<+:H'':=hq'.2.2.2.2.2
        have hw':=hinH.pre hpp'
        have hle':=hb'.len_le
        simp (maxSteps:=1000000) (disch:=omega) only [g0,g5,g6,g7,g30,g31,g32,SS,eq_self,reduceIte,reduceCtorEq,Nat.reduceEqDiff,Nat.reduceAdd]
        refine brD.intro (fun q=>?_) (fun q=>?_)
        . have hj:j<l.length:=by omega
          rw [bfsIn_drop d l j hj] at hB
          have hym:l.getD j 0 ∈ l:=by simp [hj]
          obtain ⟨y,hy⟩:∃ y:Nat,l.getD j 0=y:=⟨(l.getD j 0).toNat,by have:=hLx _ hym;omega⟩
          have hyr:=hLx _ hym
          rw [hy] at hB hyr
          rw [Int.toNat_natCast] at hB
          have hoc':=hq'.2.1
          have hlen':=hb'.len
          have hyl:y<st'.1.length:=by omega
          have hxl':x<st'.1.length:=by omega
          have hcw:=hw'.cell hj
          rw [hy] at hcw
          simp (maxSteps:=1000000) (disch:=omega) only [g0,g5,g6,g7,g30,g31,g32,hw'.ix Tryz.underlying27 cs3,hcw,Int.toNat_natCast,Nat.zero_add,cell_ints hoc' hyl,SS,eq_self,reduceIte,reduceCtorEq,Nat.reduceEqDiff,Nat.reduceAdd]
          refine brD.intro (fun e=>?_) (fun e=>?_)
          . rw [if_pos e] at hB
            have hd0:0<=d:=by omega
            have hdl:d<=st'.2.length:=by
              have:=hb'.lo x (by omega)
              omega
            have hb2:=hb'.put (j:=(y:Int)) (d:=d) hyr (by rw [Int.toNat_natCast];exact e) ⟨hd0,hdl⟩
            rw [Int.toNat_natCast] at hb2
            obtain ⟨H2,k1,k2⟩:=hq'.push y d (y:Int) (by omega)
            have hk1:k+1<=st'.2.length:=by have:=hpre.length_le;omega
            rw [<- List.drop_append_of_le_length hk1] at k2
            simp (maxSteps:=1000000) (disch:=omega) only [g0,g5,g6,g7,g30,g31,g32,hw'.ix Tryz.underlying27 cs3,hcw,Int.toNat_natCast,Nat.zero_add,cell_ints hoc' hxl',hd',st_ints cs3 hoc' hyl,k1,wrap64,SS,eq_self,reduceIte,reduceCtorEq,Nat.reduceEqDiff,Nat.reduceAdd]
            have f1:st.2<+:st'.2 ++ [(y:Int)]:=hpre.trans (List.prefix_append _ _)
            have f2:(st'.1.set y d).getD x 0+1=d:=by
              rw [getD_setB _ _ _ _ hxl']
              split
              . rename_i e2
                subst e2
                have:=hb'.lo y (by omega)
                omega
              . exact hd'
            refine ⟨m' - 1,by omega,j+1,(st'.1.set y d,st'.2 ++ [(y:Int)]),(H''.set oo (AObj.cells (ints (st'.1.set y d)) 3 false)).length+1,0,nq'+1,?_⟩
            have f3:(st'.2 ++ [(y:Int)]).length=st'.2.length+1:=by simp
            (repeat' first | exact k2 | exact hb2 | exact f1 | exact f2 | exact hB | apply And.intro) <;> first | (simp only [Value.int.injEq,true_and];omega) | omega | rfl | assumption | (simp;done) | (simp;omega)
          . rw [if_neg e] at hB
            simp (maxSteps:=1000000) (disch:=omega) only [g0,g5,g6,g7,g30,g31,g32,wrap64,SS,eq_self,reduceIte,reduceCtorEq,Nat.reduceEqDiff,Nat.reduceAdd]
            refine ⟨m' - 1,by omega,j+1,st',oq',kq',nq',?_⟩
            (repeat' first | exact hq' | exact hb' | exact hpre | exact hd' | exact hB | apply And.intro) <;> first | (simp only [Value.int.injEq,true_and];omega) | omega | rfl | assumption | (simp;done) | (simp;omega)
        . simp (maxSteps:=1000000) (disch:=omega) only [g0,g5,g6,g7,g30,g31,g32,SS,eq_self,reduceIte,reduceCtorEq,Nat.reduceEqDiff,Nat.reduceAdd]
          rw [List.drop_of_length_le (by omega)] at hB
          have hB':st'=bfsIn d l st:=hB
          rw [<- hB'] at hF
          have hm1:m - 1+1=m:=by omega
          rw [<- hm1] at hF
          refine ⟨m - 1,by omega,st',k+1,oq',kq',nq',?_⟩
          (repeat' first | exact hq' | exact hb' | exact hF | apply And.intro) <;> first | (simp only [Value.int.injEq,true_and];omega) | omega | rfl | assumption | (simp;done) | (simp;omega)
    . simp (maxSteps:=1000000) (disch:=omega) only [h5,SS,eq_self,reduceIte,reduceCtorEq,Nat.reduceEqDiff,Nat.reduceAdd]
      refine hQ _ _ _ ?_
      simp (maxSteps:=1000000) (disch:=omega) only [h5,SS,eq_self,reduceIte,reduceCtorEq,Nat.reduceEqDiff,Nat.reduceAdd]
      rw [bfsF_done L _ st k (by omega)] at hF
      rw [hF] at hq
      have hbl:(bfs L i).length=L.length:=by rw [<- hF];exact hb.len
      exact ⟨.inr ⟨oo,by rw [hbl],hq.2.2.1,hq.2.1⟩,hq.2.2.2.2.2⟩
theorem QH.at {H0 H:AH}{oo:Nat}{out:List Int}{oq kq nq:Nat}{q:List Int}(h:QH H0 H oo out oq kq nq q){j:Nat}(hj:j<q.length):cellA H oq (kq+j)=some (.int .i64 (q.getD j 0)):=by
  obtain ⟨⟨zs,h1,h2,h3⟩,_⟩:=h
  have hl:=congrArg List.length h2
  simp only [List.length_take,List.length_drop] at hl
  have hk:kq+j<zs.length:=by omega
  rw [cell_of h1,ints_at zs hk]
  congr 2
  rw [<- h2,List.getD_eq_getElem?_getD,List.getD_eq_getElem?_getD,List.getElem?_take,if_pos (by omega),List.getElem?_drop]
theorem l2Spread_c (v:Value)(L:List (List Int))(i:Nat)(H:AH){b:Nat}(hr:RowLB b 27 3 H v L)(hL:LOk L.length L)(hN:L.length<=1000000)(hi:i<L.length)(hls:∀ x,(L.getD x []).length<=1000000000) :
    ACalls Tryz.prog 160 [v,.int .i64 (i:Int)] H fun r H'=>Own 3 H H' r (bfs L i)/\H<+:H':=by
  refine in160 rfl ?_
  intro Q hQ
  obtain ⟨us,hus,hvb,hul,hin⟩:=hr
  simp (maxSteps:=1000000) (disch:=omega) only [cd160,hus.len Tryz.underlying36,hul,mks27,Int.toNat_natCast,SS,eq_self,reduceIte,reduceCtorEq,Nat.reduceEqDiff,Nat.reduceAdd]
  generalize hZ:H ++ [AObj.cells (ints (List.replicate L.length 0)) 3 false]=Z
  have pZ:H<+:Z:=by rw [<- hZ];exact List.prefix_append _ _
  have cZ:Z[H.length]?=some (.cells (ints (List.replicate L.length 0)) 3 false):=by rw [<- hZ];exact at_new ..
  refine LoopH.by (fun m s H'=>∃ j,m+j=L.length/\s 0=v/\s 1=.int .i64 (i:Int)/\s 5=.slice (some ⟨H.length,0,none⟩) L.length L.length/\s 6=.int .i64 ((j:Nat):Int)/\H'=Z.set H.length (.cells (ints (rpN L.length j)) 3 false)) L.length ?_ ?_
  . refine ⟨0,by omega,rfl,rfl,rfl,rfl,?_⟩
    have:rpN L.length 0=List.replicate L.length 0:=by simp [rpN]
    rw [this]
    apply List.ext_getElem?
    intro j
    rw [List.getElem?_set]
    by_cases hj:H.length=j
    . subst hj;rw [if_pos rfl,if_pos (at_lt cZ),cZ]
    . rw [if_neg hj]
  rintro m s H' ⟨j,hm,h0,h1,h5,h6,rfl⟩
  have cJ:(Z.set H.length (.cells (ints (rpN L.length j)) 3 false))[H.length]?=some (.cells (ints (rpN L.length j)) 3 false):=at_set cZ
  simp (maxSteps:=1000000) (disch:=omega) only [h0,h1,h5,h6,SS,eq_self,reduceIte,reduceCtorEq,Nat.reduceEqDiff,Nat.reduceAdd]
  refine brD.intro (fun g=>?_) (fun g=>?_)
  . have hj:j<(rpN L.length j).length:=by rw [rpN_len _ _ (by omega)];omega
    simp (maxSteps:=1000000) (disch:=omega) only [h0,h1,h5,h6,Int.toNat_natCast,Nat.zero_add,st_ints cs3 cJ hj,wrap64,SS,eq_self,reduceIte,reduceCtorEq,Nat.reduceEqDiff,Nat.reduceAdd]
    rw [List.set_set,rpN_set _ _ (by omega)]
    refine ⟨m - 1,by omega,j+1,?_⟩
    (repeat' apply And.intro) <;> first | (simp only [Value.int.injEq,true_and];omega) | omega | rfl | assumption | (simp;done) | (simp;omega)
  have hjN:j=L.length:=by omega
  subst hjN
  have e3:rpN L.length L.length=List.replicate L.length (-1):=by simp [rpN]
  rw [e3] at cJ
  rw [e3]
  have pA:H<+:Z.set H.length (.cells (ints (List.replicate L.length (-1))) 3 false):=pre_set pZ (Nat.le_refl _) _
  simp (maxSteps:=1000000) (disch:=omega) only [h0,h1,h5,h6,SS,eq_self,reduceIte,reduceCtorEq,Nat.reduceEqDiff,Nat.reduceAdd]
  have hlr:i<(List.replicate L.length (-1:Int)).length:=by simpa using hi
  generalize hoo:H.length=oo at *
  generalize hA:Z.set oo (.cells (ints (List.replicate L.length (-1))) 3 false)=A at *
  have cA:=at_app cJ [AObj.cells [.int .i64 (i:Int)] 3 false]
  simp (maxSteps:=1000000) (disch:=omega) only [h0,h1,h5,h6,Int.toNat_natCast,Nat.zero_add,st_ints cs3 cA hlr,SS,eq_self,reduceIte,reduceCtorEq,Nat.reduceEqDiff,Nat.reduceAdd]
  have hb0:(List.replicate L.length (-1:Int)).set i 0=bfs0 L.length i:=rfl
  rw [hb0]
  have hltA:=at_lt cJ
  have q0:QH H ((A ++ [AObj.cells [.int .i64 (i:Int)] 3 false]).set oo (.cells (ints (bfs0 L.length i)) 3 false)) oo (bfs0 L.length i) A.length 0 1 [(i:Int)]:=by
    refine ⟨⟨[(i:Int)],?_,rfl,by simp⟩,at_set cA,by omega,pA.length_le,by omega,pre_set (pre_app pA _) (by omega) _⟩
    rw [List.getElem?_set_ne (by omega)]
    exact at_new ..
  refine LoopH.by (fun m s H'=>∃ st k oq,m+k=L.length/\s 0=v/\s 5=.slice (some ⟨oo,0,none⟩) L.length L.length/\s 7=.slice (some ⟨oq,0,none⟩) st.2.length st.2.length/\s 8=.int .i64 ((k:Nat):Int)/\k<=st.2.length/\QH H H' oo st.1 oq 0 st.2.length st.2/\BI L.length st/\bfsF L (m+1) st k=bfs L i) L.length ?_ ?_
  . refine ⟨(bfs0 L.length i,[(i:Int)]),0,A.length,by omega,?_⟩
    simp only [SS,eq_self,reduceIte,reduceCtorEq,Nat.reduceEqDiff,Nat.reduceAdd,h0,h5]
    have hb0:=bfs0_BI _ i hi
    have hF0:bfsF L (L.length+1) (bfs0 L.length i,[(i:Int)]) 0=bfs L i:=rfl
    (repeat' first | exact q0 | exact hb0 | exact hF0 | apply And.intro) <;> first | (simp only [Value.int.injEq,true_and];omega) | omega | rfl | assumption | (simp;done) | (simp;omega)
  . rintro m s H' ⟨st,k,oq,hm,h0,h5,h7,h8,hkl,hq,hb,hF⟩
    have hle:=hb.len_le
    simp (maxSteps:=1000000) (disch:=omega) only [h0,h5,h7,h8,SS,eq_self,reduceIte,reduceCtorEq,Nat.reduceEqDiff,Nat.reduceAdd]
    refine brD.intro (fun g=>?_) (fun g=>?_)
    . have hk:k<st.2.length:=by omega
      rw [bfsF_step L m st k hk] at hF
      have hqm:st.2.getD k 0 ∈ st.2:=by simp [hk]
      obtain ⟨hxr,hx0⟩:=hb.q _ hqm
      have hxl:=hb.lo (st.2.getD k 0).toNat (by omega)
      have hcell:=hq.at hk
      obtain ⟨x,hx⟩:∃ x:Nat,st.2.getD k 0=x:=⟨(st.2.getD k 0).toNat,by omega⟩
      rw [hx] at hF hxr hx0 hxl hcell
      rw [Int.toNat_natCast] at hF hx0 hxl
      rw [Nat.zero_add] at hcell
      have hpp:H<+:H':=hq.2.2.2.2.2
      have hus':=hus.pre hpp
      have hxu:x<us.length:=by omega
      have hinH:=(hin x (by omega)).1
      have hlb:=hls x
      have hLx:=hL x
      simp (maxSteps:=1000000) (disch:=omega) only [h0,h5,h7,h8,hcell,hus'.ix Tryz.underlying36 cs27,hus'.cell,Int.toNat_natCast,Nat.zero_add,SS,eq_self,reduceIte,reduceCtorEq,Nat.reduceEqDiff,Nat.reduceAdd]
      generalize hw:us.getD x undef=w at *
      generalize hl:L.getD x []=l at *
      generalize hd:st.1.getD x 0+1=d at *
      refine LoopH.by (fun m' s' H''=>∃ j st' oq',m'+j=l.length/\s' 0=v/\s' 5=.slice (some ⟨oo,0,none⟩) L.length L.length/\s' 7=.slice (some ⟨oq',0,none⟩) st'.2.length st'.2.length/\s' 8=.int .i64 ((k:Nat):Int)/\s' 9=w/\s' 10=.int .i64 ((j:Nat):Int)/\QH H H'' oo st'.1 oq' 0 st'.2.length st'.2/\BI L.length st'/\st.2<+:st'.2/\st'.1.getD x 0+1=d/\bfsIn d (l.drop j) st'=bfsIn d l st) l.length ?_ ?_
      . refine ⟨0,st,oq,by simp,?_⟩
        simp only [SS,eq_self,reduceIte,reduceCtorEq,Nat.reduceEqDiff,Nat.reduceAdd,h0,h5,h7,h8]
        have hd2:bfsIn d (l.drop 0) st=bfsIn d l st:=by rw [List.drop_zero]
        have hpr:=List.prefix_refl st.2
        (repeat' first | exact hq | exact hb | exact hd | exact hd2 | exact hpr | apply And.intro) <;> first | (simp only [Value.int.injEq,true_and];omega) | omega | rfl | assumption | (simp;done) | (simp;omega)
      . rintro m' s' H'' ⟨j,st',oq',hm',g0,g5,g7,g8,g9,g10,hq',hb',hpre,hd',hB⟩
        have hpp':H<+:H'':=hq'.2.2.2.2.2
        have hw':=hinH.pre hpp'
        have hle':=hb'.len_le
        simp (maxSteps:=1000000) (disch:=omega) only [g0,g5,g7,g8,g9,g10,hw'.len Tryz.underlying27,SS,eq_self,reduceIte,reduceCtorEq,Nat.reduceEqDiff,Nat.reduceAdd]
        refine brD.intro (fun q=>?_) (fun q=>?_)
        . have hj:j<l.length:=by omega
          rw [bfsIn_drop d l j hj] at hB
          have hym:l.getD j 0 ∈ l:=by simp [hj]
          obtain ⟨y,hy⟩:∃ y:Nat,l.getD j 0=y:=⟨(l.getD j 0).toNat,by have:=hLx _ hym;omega⟩
          have hyr:=hLx _ hym
          rw [hy] at hB hyr
          rw [Int.toNat_natCast] at hB
          have hoc':=hq'.2.1
          have hlen':=hb'.len
          have hyl:y<st'.1.length:=by omega
          have hxl':x<st'.1.length:=by omega
          have hcw:=hw'.cell hj
          rw [hy] at hcw
          have hkl':k<st'.2.length:=by have:=hpre.length_le;omega
          have hck:=hq'.at hkl'
          have hqk:st'.2.getD k 0=(x:Int):=by
            obtain ⟨t,ht⟩:=hpre
            rw [<- ht,List.getD_eq_getElem?_getD,List.getElem?_append_left hk,<- List.getD_eq_getElem?_getD];exact hx
          rw [hqk,Nat.zero_add] at hck
          simp (maxSteps:=1000000) (disch:=omega) only [g0,g5,g7,g8,g9,g10,hw'.ix Tryz.underlying27 cs3,hcw,Int.toNat_natCast,Nat.zero_add,cell_ints hoc' hyl,SS,eq_self,reduceIte,reduceCtorEq,Nat.reduceEqDiff,Nat.reduceAdd]
          refine brD.intro (fun e=>?_) (fun e=>?_)
          . rw [if_pos e] at hB
            have hd0:0<=d:=by omega
            have hdl:d<=st'.2.length:=by
              have:=hb'.lo x (by omega)
              omega
            have hb2:=hb'.put (j:=(y:Int)) (d:=d) hyr (by rw [Int.toNat_natCast];exact e) ⟨hd0,hdl⟩
            rw [Int.toNat_natCast] at hb2
            obtain ⟨H2,k1,k2⟩:=hq'.push y d (y:Int) (by omega)
            have hp2:H<+:H''.set oo (AObj.cells (ints (st'.1.set y d)) 3 false):=pre_set hpp' (by omega) _
            have hw2:=hinH.pre hp2
            have hcw2:=hw2.cell hj
            rw [hy] at hcw2
            simp (maxSteps:=1000000) (disch:=omega) only [g0,g5,g7,g8,g9,g10,hw'.ix Tryz.underlying27 cs3,hw2.ix Tryz.underlying27 cs3,hcw,hcw2,hck,Int.toNat_natCast,Nat.zero_add,cell_ints hoc' hxl',hd',st_ints cs3 hoc' hyl,k1,wrap64,SS,eq_self,reduceIte,reduceCtorEq,Nat.reduceEqDiff,Nat.reduceAdd]
            have f1:st.2<+:st'.2 ++ [(y:Int)]:=hpre.trans (List.prefix_append _ _)
            have f2:(st'.1.set y d).getD x 0+1=d:=by
              rw [getD_setB _ _ _ _ hxl']
              split
              . rename_i e2
                subst e2
                have:=hb'.lo y (by omega)
                omega
              . exact hd'
            have f3:(st'.2 ++ [(y:Int)]).length=st'.2.length+1:=by simp
            rw [<- f3] at k2
            refine ⟨m' - 1,by omega,j+1,(st'.1.set y d,st'.2 ++ [(y:Int)]),(H''.set oo (AObj.cells (ints (st'.1.set y d)) 3 false)).length+1,?_⟩
            simp only [f3]
            rw [f3] at k2
            (repeat' first | exact k2 | exact hb2 | exact f1 | exact f2 | exact hB | apply And.intro) <;> first | (simp only [Value.int.injEq,true_and];omega) | omega | rfl | assumption | (simp;done) | (simp;omega)
          . rw [if_neg e] at hB
            simp (maxSteps:=1000000) (disch:=omega) only [g0,g5,g7,g8,g9,g10,wrap64,SS,eq_self,reduceIte,reduceCtorEq,Nat.reduceEqDiff,Nat.reduceAdd]
            refine ⟨m' - 1,by omega,j+1,st',oq',?_⟩
            (repeat' first | exact hq' | exact hb' | exact hpre | exact hd' | exact hB | apply And.intro) <;> first | (simp only [Value.int.injEq,true_and];omega) | omega | rfl | assumption | (simp;done) | (simp;omega)
        . simp (maxSteps:=1000000) (disch:=omega) only [g0,g5,g7,g8,g9,g10,wrap64,SS,eq_self,reduceIte,reduceCtorEq,Nat.reduceEqDiff,Nat.reduceAdd]
          rw [List.drop_of_length_le (by omega)] at hB
          have hB':st'=bfsIn d l st:=hB
          rw [<- hB'] at hF
          have hm1:m - 1+1=m:=by omega
          rw [<- hm1] at hF
          have hkl':k+1<=st'.2.length:=by have:=hpre.length_le;omega
          refine ⟨m - 1,by omega,st',k+1,oq',?_⟩
          (repeat' first | exact hq' | exact hb' | exact hF | exact hkl' | apply And.intro) <;> first | (simp only [Value.int.injEq,true_and];omega) | omega | rfl | assumption | (simp;done) | (simp;omega)
    . simp (maxSteps:=1000000) (disch:=omega) only [h5,SS,eq_self,reduceIte,reduceCtorEq,Nat.reduceEqDiff,Nat.reduceAdd]
      refine hQ _ _ _ ?_
      simp (maxSteps:=1000000) (disch:=omega) only [h5,SS,eq_self,reduceIte,reduceCtorEq,Nat.reduceEqDiff,Nat.reduceAdd]
      rw [bfsF_done L _ st k (by omega)] at hF
      rw [hF] at hq
      have hbl:(bfs L i).length=L.length:=by rw [<- hF];exact hb.len
      exact ⟨.inr ⟨oo,by rw [hbl],hq.2.2.1,hq.2.1⟩,hq.2.2.2.2.2⟩
def cd93:Cd:=(.seq (.reg [⟨⟨some 2,.assign (.const (.slice none 0 0)),none⟩,[]⟩]) (.seq (.seq (.reg [⟨⟨some 3,.move (.tmp 0),none⟩,[]⟩,
  ⟨⟨some 4,.binOp .eql 27 (.tmp 3) (.const (.slice none 0 0)) 27,none⟩,[]⟩]) (.cond (.tmp 4) (.seq (.reg [⟨⟨some 2,.assign (.const (.slice none 0 0)),none⟩,[]⟩]) .ret) .skip)) (.seq (.reg [⟨⟨some 5,.buildSlice 27 0 #[],none⟩,[]⟩,
  ⟨⟨some 6,.move (.tmp 0),none⟩,[]⟩,
  ⟨⟨some 7,.call ⟨(.builtin .append),#[.tmp 5,.tmp 6],#[27,27]⟩,none⟩,[]⟩,
  ⟨⟨some 2,.assign (.tmp 7),none⟩,[]⟩]) .ret)))
theorem in93:InT Tryz.prog 93 1 [.tmp 2] cd93:=InT.mk (by kernel_rfl) [] Tryz.func93 rfl (by kernel_rfl) (by kernel_rfl) (of_decide_eq_true (by kernel_rfl)) (by kernel_rfl)
end Go.Proofs.YtjnefjchconebaaGreat.Ai
namespace Go.Proofs.YtjnefjchconebaaGreat.Ai
open Go Go.RowKit
theorem Clone_c (v:Value)(xs:List Int)(H:AH)(hr:Row 3 H v xs)(hlen:xs.length<=1099511627776):ACalls Tryz.prog 93 [v] H fun r H'=>Own 3 H H' r xs/\H<+:H':=by
  refine in93 rfl ?_
  intro Q hQ
  obtain ⟨p,e⟩:=hr.shape
  subst e
  simp (maxSteps:=1000000) (disch:=omega) only [cd93,SS,eq_self,reduceIte,reduceCtorEq,Nat.reduceEqDiff,Nat.reduceAdd]
  refine brH.intro (fun g=>?_) (fun g=>?_) <;> simp (maxSteps:=1000000) (disch:=omega) only [SS,eq_self,reduceIte,reduceCtorEq,Nat.reduceEqDiff,Nat.reduceAdd]
  . refine hQ _ _ _ ?_
    simp (maxSteps:=1000000) (disch:=omega) only [SS,eq_self,reduceIte,reduceCtorEq,Nat.reduceEqDiff,Nat.reduceAdd]
    have:xs=[]:=by
      rcases hr with h | ⟨o,k,vs,ro,h1,_⟩
      . exact h.2
      . cases p with
        | none=>cases h1
        | some p=>cases g
    exact ⟨.inl ⟨rfl,this⟩,List.prefix_refl _⟩
  . have hp:=List.prefix_append H [AObj.cells [] 3 false]
    have ho:Own 3 H (H ++ [AObj.cells [] 3 false]) (.slice (some ⟨H.length,0,none⟩) 0 0) []:=.inr ⟨H.length,rfl,Nat.le_refl _,at_new ..⟩
    obtain ⟨v',H2,k1,k2,k3,_⟩:=ho.app (P:=Tryz.prog) (t:=27) Tryz.underlying27 cs3 (by rw [by3];decide) zk3 (hr.pre hp) hp (by simp;omega)
    simp (maxSteps:=1000000) (disch:=omega) only [k1,SS,eq_self,reduceIte,reduceCtorEq,Nat.reduceEqDiff,Nat.reduceAdd]
    refine hQ _ _ _ ?_
    simp (maxSteps:=1000000) (disch:=omega) only [k2.row.tup,SS,eq_self,reduceIte,reduceCtorEq,Nat.reduceEqDiff,Nat.reduceAdd]
    exact ⟨k2,k3⟩
def cd194:Cd:=(.seq (.reg [⟨⟨some 6,.assign (.const (.int .i64 0)),none⟩,[]⟩,⟨⟨some 7,.assign (.const (.bool false)),none⟩,[]⟩]) (.seq (.reg [⟨⟨some 12,.move (.tmp 0),none⟩,[]⟩,⟨⟨some 13,.call ⟨(.builtin .len),#[.tmp 12],#[36]⟩,none⟩,[]⟩,⟨⟨some 8,.assign (.tmp 13),none⟩,[]⟩]) (.seq (.reg [⟨⟨some 14,.move (.tmp 8),none⟩,[]⟩,⟨⟨some 9,.assign (.const (.int .i64 0)),none⟩,[]⟩,⟨⟨some 10,.assign (.tmp 14),none⟩,[]⟩]) (.seq (.block 0 (.loop (.seq (.seq (.reg [⟨⟨some 15,.move (.tmp 9),none⟩,[]⟩,⟨⟨some 16,.move (.tmp 10),none⟩,[]⟩,⟨⟨some 17,.binOp .lss 3 (.tmp 15) (.tmp 16) 3,none⟩,[]⟩]) (.cond (.tmp 17) .skip (.exit 0))) (.block 1 (.seq (.reg [⟨⟨some 18,.move (.tmp 9),none⟩,[]⟩,⟨⟨some 19,.move (.tmp 10),none⟩,[]⟩,⟨⟨some 20,.binOp .add 3 (.tmp 18) (.tmp 19) 3,none⟩,[]⟩,⟨⟨some 21,.convert 3 122 (.tmp 20),none⟩,[]⟩,⟨⟨some 22,.binOp .shr 122 (.tmp 21) (.const (.int .u64 1)) 122,none⟩,[]⟩,
 ⟨⟨some 23,.convert 122 3 (.tmp 22),none⟩,[]⟩,⟨⟨some 11,.assign (.tmp 23),none⟩,[]⟩]) (.seq (.reg [⟨⟨some 24,.move (.tmp 2),none⟩,[]⟩,⟨⟨some 25,.move (.tmp 0),none⟩,[]⟩,⟨⟨some 26,.move (.tmp 11),none⟩,[]⟩,⟨⟨some 27,.indexAddr 36 (.tmp 25) (.tmp 26),none⟩,[]⟩,⟨⟨some 28,.load 27 (.tmp 27),none⟩,[]⟩,⟨⟨some 29,.move (.tmp 1),none⟩,[]⟩,⟨⟨some 30,.call ⟨(.value (.tmp 24)),#[.tmp 28,.tmp 29],#[27,27]⟩,none⟩,[]⟩,⟨⟨some 31,.binOp .lss 3 (.tmp 30) (.const (.int .i64 0)) 3,none⟩,[]⟩]) (.cond (.tmp 31) (.reg [⟨⟨some 32,.move (.tmp 11),none⟩,[]⟩,⟨⟨some 33,.binOp .add 3 (.tmp 32) (.const (.int .i64 1)) 3,none⟩,[]⟩,⟨⟨some 9,.assign (.tmp 33),none⟩,[]⟩]) (.reg [⟨⟨some 34,.move (.tmp 11),none⟩,[]⟩,⟨⟨some 10,.assign (.tmp 34),none⟩,[]⟩])))))))) (.seq (.reg [⟨⟨some 35,.move (.tmp 9),none⟩,[]⟩,
 ⟨⟨some 36,.move (.tmp 9),none⟩,[]⟩,⟨⟨some 37,.move (.tmp 8),none⟩,[]⟩,⟨⟨some 38,.binOp .lss 3 (.tmp 36) (.tmp 37) 3,none⟩,[]⟩,⟨⟨some 39,.move (.tmp 38),none⟩,[]⟩,⟨⟨some 40,.move (.tmp 2),some (39,true)⟩,[]⟩,⟨⟨some 41,.move (.tmp 0),some (39,true)⟩,[]⟩,⟨⟨some 42,.move (.tmp 9),some (39,true)⟩,[]⟩,⟨⟨some 43,.indexAddr 36 (.tmp 41) (.tmp 42),some (39,true)⟩,[]⟩,⟨⟨some 44,.load 27 (.tmp 43),some (39,true)⟩,[]⟩,⟨⟨some 45,.move (.tmp 1),some (39,true)⟩,[]⟩,⟨⟨some 46,.call ⟨(.value (.tmp 40)),#[.tmp 44,.tmp 45],#[27,27]⟩,some (39,true)⟩,[]⟩,⟨⟨some 47,.binOp .eql 3 (.tmp 46) (.const (.int .i64 0)) 3,some (39,true)⟩,[]⟩,
 ⟨⟨some 48,.pick (.tmp 39) (.tmp 47) (.const (.bool false)),none⟩,[]⟩,
  ⟨⟨some 6,.assign (.tmp 35),none⟩,[]⟩,
  ⟨⟨some 7,.assign (.tmp 48),none⟩,[]⟩]) .ret)))))
theorem in194:InT Tryz.prog 194 3 [.tmp 6,.tmp 7] cd194:=InT.mk (by kernel_rfl) [] Tryz.func194 rfl (by kernel_rfl) (by kernel_rfl) (of_decide_eq_true (by kernel_rfl)) (by kernel_rfl)
def cd130:Cd:=(.seq (.reg [⟨⟨some 2,.box 38 (.tmp 0),none⟩,[]⟩,
  ⟨⟨some 4,.assign (.const (.int .i64 0)),none⟩,[]⟩,
  ⟨⟨some 5,.assign (.const (.bool false)),none⟩,[]⟩]) (.seq (.reg [⟨⟨some 6,.fieldAddr 38 (.tmp 2) 0,none⟩,[]⟩,
  ⟨⟨some 7,.load 36 (.tmp 6),none⟩,[]⟩,
  ⟨⟨some 8,.move (.tmp 1),none⟩,[]⟩,
  ⟨⟨some 9,.call ⟨(.value (.func 194)),#[.tmp 7,.tmp 8,(.func 166)],#[36,27,136]⟩,none⟩,[]⟩,
  ⟨⟨some 10,.extract (.tmp 9) 0,none⟩,[]⟩,
  ⟨⟨some 11,.extract (.tmp 9) 1,none⟩,[]⟩,
  ⟨⟨some 4,.assign (.tmp 10),none⟩,[]⟩,
  ⟨⟨some 5,.assign (.tmp 11),none⟩,[]⟩]) .ret))
theorem in130:InT Tryz.prog 130 2 [.tmp 4,.tmp 5] cd130:=InT.mk (by kernel_rfl) [] Tryz.func130 rfl (by kernel_rfl) (by kernel_rfl) (of_decide_eq_true (by kernel_rfl)) (by kernel_rfl)
def cd103:Cd:=(.seq (.reg [⟨⟨some 2,.box 38 (.tmp 0),none⟩,[]⟩,⟨⟨some 4,.assign (.const (.int .i64 0)),none⟩,[]⟩]) (.seq (.seq (.reg [⟨⟨some 5,.assign (.const (.int .i64 0)),none⟩,[]⟩]) (.block 0 (.loop (.seq (.seq (.reg [⟨⟨some 6,.move (.tmp 5),none⟩,[]⟩,⟨⟨some 7,.fieldAddr 38 (.tmp 2) 0,none⟩,[]⟩,⟨⟨some 8,.load 36 (.tmp 7),none⟩,[]⟩,⟨⟨some 9,.call ⟨(.builtin .len),#[.tmp 8],#[36]⟩,none⟩,[]⟩,⟨⟨some 10,.binOp .lss 3 (.tmp 6) (.tmp 9) 3,none⟩,[]⟩]) (.cond (.tmp 10) .skip (.exit 0))) (.seq (.block 1 (.seq (.reg [⟨⟨some 13,.fieldAddr 38 (.tmp 2) 0,none⟩,[]⟩,⟨⟨some 14,.load 36 (.tmp 13),none⟩,[]⟩,⟨⟨some 15,.move (.tmp 5),none⟩,[]⟩,⟨⟨some 16,.indexAddr 36 (.tmp 14) (.tmp 15),none⟩,[]⟩,⟨⟨some 17,.load 27 (.tmp 16),none⟩,[]⟩,⟨⟨some 18,.move (.tmp 1),none⟩,[]⟩,⟨⟨some 19,.call ⟨(.value (.func 183)),#[.tmp 17,.tmp 18],#[27,27]⟩,none⟩,[]⟩]) (.cond (.tmp 19) (.seq (.reg [⟨⟨some 20,.move (.tmp 5),none⟩,[]⟩,
 ⟨⟨some 4,.assign (.tmp 20),none⟩,[]⟩]) .ret) .skip))) (.reg [⟨⟨some 11,.move (.tmp 5),none⟩,[]⟩,
  ⟨⟨some 12,.binOp .add 3 (.tmp 11) (.const (.int .i64 1)) 3,none⟩,[]⟩,
  ⟨⟨some 5,.assign (.tmp 12),none⟩,[]⟩])))))) (.seq (.reg [⟨⟨some 4,.assign (.const (.int .i64 (-1))),none⟩,[]⟩]) .ret)))
theorem in103:InT Tryz.prog 103 2 [.tmp 4] cd103:=InT.mk (by kernel_rfl) [] Tryz.func103 rfl (by kernel_rfl) (by kernel_rfl) (of_decide_eq_true (by kernel_rfl)) (by kernel_rfl)
def cd102:Cd:=(.seq (.reg [⟨⟨some 2,.box 38 (.tmp 0),none⟩,[]⟩,
  ⟨⟨some 4,.assign (.const (.slice none 0 0)),none⟩,[]⟩]) (.seq (.reg [⟨⟨some 5,.load 38 (.tmp 2),none⟩,[]⟩,
  ⟨⟨some 6,.call ⟨(.value (.func 182)),#[.tmp 5],#[38]⟩,none⟩,[]⟩,
  ⟨⟨some 7,.move (.tmp 1),none⟩,[]⟩,
  ⟨⟨some 8,.call ⟨(.value (.func 160)),#[.tmp 6,.tmp 7],#[36,3]⟩,none⟩,[]⟩,
  ⟨⟨some 4,.assign (.tmp 8),none⟩,[]⟩]) .ret))
theorem in102:InT Tryz.prog 102 2 [.tmp 4] cd102:=InT.mk (by kernel_rfl) [] Tryz.func102 rfl (by kernel_rfl) (by kernel_rfl) (of_decide_eq_true (by kernel_rfl)) (by kernel_rfl)
def cd178:Cd:=(.seq (.reg [⟨⟨some 3,.box 38 (.tmp 0),none⟩,[]⟩,⟨⟨some 6,.assign (.const (.slice none 0 0)),none⟩,[]⟩,⟨⟨some 7,.assign (.const (.bool false)),none⟩,[]⟩]) (.seq (.reg [⟨⟨some 13,.load 38 (.tmp 3),none⟩,[]⟩,⟨⟨some 14,.call ⟨(.value (.func 91)),#[.tmp 13],#[38]⟩,none⟩,[]⟩,⟨⟨some 8,.assign (.tmp 14),none⟩,[]⟩]) (.seq (.reg [⟨⟨some 15,.move (.tmp 8),none⟩,[]⟩,⟨⟨some 16,.move (.tmp 2),none⟩,[]⟩,⟨⟨some 17,.call ⟨(.value (.func 74)),#[.tmp 15,.tmp 16],#[36,3]⟩,none⟩,[]⟩,⟨⟨some 9,.assign (.tmp 17),none⟩,[]⟩]) (.seq (.seq (.reg [⟨⟨some 18,.move (.tmp 9),none⟩,[]⟩,⟨⟨some 19,.move (.tmp 1),none⟩,[]⟩,⟨⟨some 20,.indexAddr 27 (.tmp 18) (.tmp 19),none⟩,[]⟩,⟨⟨some 21,.load 3 (.tmp 20),none⟩,[]⟩,⟨⟨some 22,.binOp .lss 3 (.tmp 21) (.const (.int .i64 0)) 3,none⟩,[]⟩]) (.cond (.tmp 22) (.seq (.reg [⟨⟨some 6,.assign (.const (.slice none 0 0)),none⟩,[]⟩,
 ⟨⟨some 7,.assign (.const (.bool false)),none⟩,[]⟩]) .ret) .skip)) (.seq (.reg [⟨⟨some 23,.move (.tmp 1),none⟩,[]⟩,⟨⟨some 24,.buildSlice 27 1 #[(0,.tmp 23)],none⟩,[]⟩,⟨⟨some 10,.assign (.tmp 24),none⟩,[]⟩]) (.seq (.block 0 (.loop (.seq (.seq (.reg [⟨⟨some 25,.move (.tmp 1),none⟩,[]⟩,⟨⟨some 26,.move (.tmp 2),none⟩,[]⟩,⟨⟨some 27,.binOp .neq 3 (.tmp 25) (.tmp 26) 3,none⟩,[]⟩]) (.cond (.tmp 27) .skip (.exit 0))) (.block 1 (.seq (.seq (.reg [⟨⟨some 28,.move (.tmp 8),none⟩,[]⟩,⟨⟨some 29,.move (.tmp 1),none⟩,[]⟩,⟨⟨some 30,.indexAddr 36 (.tmp 28) (.tmp 29),none⟩,[]⟩,⟨⟨some 31,.load 27 (.tmp 30),none⟩,[]⟩,⟨⟨some 32,.call ⟨(.builtin .len),#[.tmp 31],#[27]⟩,none⟩,[]⟩,⟨⟨some 33,.move (.const (.int .i64 0)),none⟩,[]⟩]) (.block 2 (.loop (.seq (.reg [⟨⟨some 34,.binOp .lss 3 (.tmp 33) (.tmp 32) 3,none⟩,[]⟩]) (.seq (.cond (.tmp 34) .skip (.exit 2)) (.seq (.block 3 (.seq (.reg [⟨⟨some 35,.indexAddr 27 (.tmp 31) (.tmp 33),none⟩,[]⟩,⟨⟨some 36,.load 3 (.tmp 35),none⟩,[]⟩,⟨⟨some 12,.assign (.tmp 36),none⟩,[]⟩]) (.seq (.reg [⟨⟨some 37,.move (.tmp 9),none⟩,[]⟩,
 ⟨⟨some 38,.move (.tmp 12),none⟩,[]⟩,⟨⟨some 39,.indexAddr 27 (.tmp 37) (.tmp 38),none⟩,[]⟩,⟨⟨some 40,.load 3 (.tmp 39),none⟩,[]⟩,⟨⟨some 41,.move (.tmp 9),none⟩,[]⟩,⟨⟨some 42,.move (.tmp 1),none⟩,[]⟩,⟨⟨some 43,.indexAddr 27 (.tmp 41) (.tmp 42),none⟩,[]⟩,⟨⟨some 44,.load 3 (.tmp 43),none⟩,[]⟩,⟨⟨some 45,.binOp .sub 3 (.tmp 44) (.const (.int .i64 1)) 3,none⟩,[]⟩,⟨⟨some 46,.binOp .eql 3 (.tmp 40) (.tmp 45) 3,none⟩,[]⟩]) (.cond (.tmp 46) (.seq (.reg [⟨⟨some 47,.move (.tmp 12),none⟩,[]⟩,⟨⟨some 1,.assign (.tmp 47),none⟩,[]⟩]) (.exit 2)) .skip)))) (.reg [⟨⟨some 48,.binOp .add 3 (.tmp 33) (.const (.int .i64 1)) 3,none⟩,[]⟩,⟨⟨some 33,.move (.tmp 48),none⟩,[]⟩]))))))) (.reg [⟨⟨some 49,.move (.tmp 10),none⟩,[]⟩,⟨⟨some 50,.move (.tmp 1),none⟩,[]⟩,
 ⟨⟨some 51,.buildSlice 27 1 #[(0,.tmp 50)],none⟩,[]⟩,
  ⟨⟨some 52,.call ⟨(.builtin .append),#[.tmp 49,.tmp 51],#[27,27]⟩,none⟩,[]⟩,
  ⟨⟨some 10,.assign (.tmp 52),none⟩,[]⟩])))))) (.seq (.reg [⟨⟨some 53,.move (.tmp 10),none⟩,[]⟩,
  ⟨⟨some 6,.assign (.tmp 53),none⟩,[]⟩,
  ⟨⟨some 7,.assign (.const (.bool true)),none⟩,[]⟩]) .ret)))))))
theorem in178:InT Tryz.prog 178 3 [.tmp 6,.tmp 7] cd178:=InT.mk (by kernel_rfl) [(10,[(0,false),(1,false),(2,false),(3,false),(4,false),(5,false),(6,false),(7,false),(8,false),(9,false)])] Tryz.func178 rfl (by kernel_rfl) (by kernel_rfl) (of_decide_eq_true (by kernel_rfl)) (by kernel_rfl)
def cd99:Cd:=(.seq (.reg [⟨⟨some 3,.box 38 (.tmp 0),none⟩,[]⟩,⟨⟨some 6,.assign (.const (.slice none 0 0)),none⟩,[]⟩,⟨⟨some 7,.assign (.const (.bool false)),none⟩,[]⟩]) (.seq (.reg [⟨⟨some 18,.load 38 (.tmp 3),none⟩,[]⟩,⟨⟨some 19,.move (.tmp 1),none⟩,[]⟩,⟨⟨some 20,.call ⟨(.value (.func 130)),#[.tmp 18,.tmp 19],#[38,27]⟩,none⟩,[]⟩,⟨⟨some 17,.move (.tmp 20),none⟩,[]⟩,⟨⟨some 21,.extract (.tmp 17) 0,none⟩,[]⟩,⟨⟨some 22,.extract (.tmp 17) 1,none⟩,[]⟩,⟨⟨some 8,.assign (.tmp 21),none⟩,[]⟩,⟨⟨some 9,.assign (.tmp 22),none⟩,[]⟩]) (.seq (.reg [⟨⟨some 24,.load 38 (.tmp 3),none⟩,[]⟩,⟨⟨some 25,.move (.tmp 2),none⟩,[]⟩,⟨⟨some 26,.call ⟨(.value (.func 130)),#[.tmp 24,.tmp 25],#[38,27]⟩,none⟩,[]⟩,
 ⟨⟨some 23,.move (.tmp 26),none⟩,[]⟩,⟨⟨some 27,.extract (.tmp 23) 0,none⟩,[]⟩,⟨⟨some 28,.extract (.tmp 23) 1,none⟩,[]⟩,⟨⟨some 10,.assign (.tmp 27),none⟩,[]⟩,⟨⟨some 11,.assign (.tmp 28),none⟩,[]⟩]) (.seq (.seq (.reg [⟨⟨some 29,.move (.tmp 9),none⟩,[]⟩,⟨⟨some 30,.unOp .not 4 (.tmp 29),none⟩,[]⟩,⟨⟨some 31,.move (.tmp 30),none⟩,[]⟩,⟨⟨some 32,.move (.tmp 11),some (31,false)⟩,[]⟩,⟨⟨some 33,.unOp .not 4 (.tmp 32),some (31,false)⟩,[]⟩,⟨⟨some 34,.pick (.tmp 31) (.const (.bool true)) (.tmp 33),none⟩,[]⟩]) (.cond (.tmp 34) (.seq (.reg [⟨⟨some 6,.assign (.const (.slice none 0 0)),none⟩,[]⟩,⟨⟨some 7,.assign (.const (.bool false)),none⟩,[]⟩]) .ret) .skip)) (.seq (.reg [⟨⟨some 36,.load 38 (.tmp 3),none⟩,[]⟩,⟨⟨some 37,.move (.tmp 8),none⟩,[]⟩,
 ⟨⟨some 38,.move (.tmp 10),none⟩,[]⟩,⟨⟨some 39,.call ⟨(.value (.func 178)),#[.tmp 36,.tmp 37,.tmp 38],#[38,3,3]⟩,none⟩,[]⟩,⟨⟨some 35,.move (.tmp 39),none⟩,[]⟩,⟨⟨some 40,.extract (.tmp 35) 0,none⟩,[]⟩,⟨⟨some 41,.extract (.tmp 35) 1,none⟩,[]⟩,⟨⟨some 12,.assign (.tmp 40),none⟩,[]⟩,⟨⟨some 13,.assign (.tmp 41),none⟩,[]⟩]) (.seq (.reg [⟨⟨some 42,.buildSlice 36 0 #[],none⟩,[]⟩,⟨⟨some 14,.assign (.tmp 42),none⟩,[]⟩]) (.seq (.seq (.reg [⟨⟨some 43,.move (.tmp 12),none⟩,[]⟩,⟨⟨some 44,.call ⟨(.builtin .len),#[.tmp 43],#[27]⟩,none⟩,[]⟩,⟨⟨some 45,.move (.const (.int .i64 0)),none⟩,[]⟩]) (.block 0 (.loop (.seq (.reg [⟨⟨some 46,.binOp .lss 3 (.tmp 45) (.tmp 44) 3,none⟩,[]⟩]) (.seq (.cond (.tmp 46) .skip (.exit 0)) (.seq (.block 1 (.seq (.reg [⟨⟨some 47,.indexAddr 27 (.tmp 43) (.tmp 45),none⟩,[]⟩,⟨⟨some 48,.load 3 (.tmp 47),none⟩,[]⟩,⟨⟨some 16,.assign (.tmp 48),none⟩,[]⟩]) (.reg [⟨⟨some 49,.move (.tmp 14),none⟩,[]⟩,
 ⟨⟨some 50,.fieldAddr 38 (.tmp 3) 0,none⟩,[]⟩,⟨⟨some 51,.load 36 (.tmp 50),none⟩,[]⟩,⟨⟨some 52,.move (.tmp 16),none⟩,[]⟩,⟨⟨some 53,.indexAddr 36 (.tmp 51) (.tmp 52),none⟩,[]⟩,⟨⟨some 54,.load 27 (.tmp 53),none⟩,[]⟩,⟨⟨some 55,.call ⟨(.value (.func 93)),#[.tmp 54],#[27]⟩,none⟩,[]⟩,⟨⟨some 56,.buildSlice 36 1 #[(0,.tmp 55)],none⟩,[]⟩,⟨⟨some 57,.call ⟨(.builtin .append),#[.tmp 49,.tmp 56],#[36,36]⟩,none⟩,[]⟩,⟨⟨some 14,.assign (.tmp 57),none⟩,[]⟩]))) (.reg [⟨⟨some 58,.binOp .add 3 (.tmp 45) (.const (.int .i64 1)) 3,none⟩,[]⟩,⟨⟨some 45,.move (.tmp 58),none⟩,[]⟩]))))))) (.seq (.reg [⟨⟨some 59,.move (.tmp 14),none⟩,[]⟩,⟨⟨some 60,.move (.tmp 13),none⟩,[]⟩,⟨⟨some 6,.assign (.tmp 59),none⟩,[]⟩,
 ⟨⟨some 7,.assign (.tmp 60),none⟩,[]⟩]) .ret))))))))
theorem in99:InT Tryz.prog 99 3 [.tmp 6,.tmp 7] cd99:=InT.mk (by kernel_rfl) [] Tryz.func99 rfl (by kernel_rfl) (by kernel_rfl) (of_decide_eq_true (by kernel_rfl)) (by kernel_rfl)
end Go.Proofs.YtjnefjchconebaaGreat.Ai
namespace Go.Proofs.YtjnefjchconebaaGreat.Ai
open Go Go.RowKit
theorem shr_one (P:Program)(t:TypeId)(b:Nat):binA P .shr t (.int .u64 (b:Int)) (.int .u64 1)=some (.int .u64 ((b / 2:Nat):Int)):=by
  simp only [binA,shiftA]
  rw [if_pos (.inr trivial),if_neg (by decide)]
  congr 2
  have:(2 ^ min (1:Int).toNat IntKind.u64.bits:Int)=2:=by decide
  rw [this,Int.fdiv_eq_ediv_of_nonneg _ (by decide)]
  omega
theorem conv_iu {n:Nat}(h:n<2 ^ 62):convA Tryz.prog 3 122 (.int .i64 (n:Int))=some (.int .u64 (n:Int)):=by
  simp only [convA,Tryz.underlying122,Tryz.underlying3]
  rw [IntKind.wrap_u64]
  congr 2;omega
theorem conv_ui {n:Nat}(h:n<2 ^ 62):convA Tryz.prog 122 3 (.int .u64 (n:Int))=some (.int .i64 (n:Int)):=by
  simp only [convA,Tryz.underlying122,Tryz.underlying3]
  rw [wrap64 (by omega) (by omega)]
theorem BSearch_c {v w:Value}{us:List Value}{ls:List (List Int)}{t:List Int}{H:AH}(h:Sts H v us ls)(hw:Row 3 H w t)(hl:t.length<=1099511627776) :
    ACalls Tryz.prog 194 [v,w,fnCmp] H fun r H'=>(∃ i:Nat,r=.tuple (List.toArray [.int .i64 (i:Int),.bool (decide (t ∈ ls))])/\(t ∈ ls->i<ls.length/\ls.getD i []=t))/\H=H':=by
  refine in194 rfl ?_
  intro Q hQ
  have hul:=h.len
  have hb:=h.bnd
  have cmp:∀ i,i<ls.length->ACalls Tryz.prog 166 [us.getD i undef,w] H fun r H'=>r=.int .i64 (cmpL (ls.getD i []) t)/\H=H':=fun i hi=>CmpL_c _ _ _ _ H (h.each i hi) hw (h.small i hi) hl
  simp (maxSteps:=1000000) (disch:=omega) only [cd194,h.row.len Tryz.underlying36,hul,SS,eq_self,reduceIte,reduceCtorEq,Nat.reduceEqDiff,Nat.reduceAdd]
  refine LoopH.by (fun m s H'=>∃ (i j:Nat),m+i=j/\j<=ls.length/\s 0=v/\s 1=w/\s 2=fnCmp/\s 8=.int .i64 (ls.length:Int)/\s 9=.int .i64 ((i:Nat):Int)/\s 10=.int .i64 ((j:Nat):Int)/\H=H'/\(∀ k,k<i->cmpL (ls.getD k []) t<0)/\∀ k,j<=k->k<ls.length->¬ cmpL (ls.getD k []) t<0) ls.length ?_ ?_
  . refine ⟨0,ls.length,by simp,Nat.le_refl _,rfl,rfl,rfl,rfl,rfl,rfl,rfl,fun k hk=>absurd hk (Nat.not_lt_zero k),fun k h1 h2=>by omega⟩
  rintro m s H' ⟨i,j,hm,hj,h0,h1,h2,h8,h9,h10,rfl,lo,hi⟩
  simp (maxSteps:=1000000) (disch:=omega) only [h0,h1,h2,h8,h9,h10,SS,eq_self,reduceIte,reduceCtorEq,Nat.reduceEqDiff,Nat.reduceAdd]
  refine brD.intro (fun g=>?_) (fun g=>?_)
  . have hij:i<j:=by omega
    have hmid:(i+j) / 2<ls.length:=by omega
    have c1:=conv_iu (n:=i+j) (by omega)
    have c2:=shr_one Tryz.prog 122 (i+j)
    have c3:=conv_ui (n:=(i+j) / 2) (by omega)
    have hw1:IntKind.i64.wrap ((i:Int)+(j:Int))=((i+j:Nat):Int):=by rw [wrap64 (by omega) (by omega)];omega
    have hci:=h.cell hmid
    simp (maxSteps:=1000000) (disch:=omega) only [h0,h1,h2,h8,h9,h10,hw1,c1,c2,c3,h.row.ix Tryz.underlying36 cs27,Int.toNat_natCast,hci,SS,eq_self,reduceIte,reduceCtorEq,Nat.reduceEqDiff,Nat.reduceAdd]
    refine CallH.by (cmp _ hmid) ?_
    rintro _ _ ⟨rfl,rfl⟩
    simp (maxSteps:=1000000) (disch:=omega) only [SS,eq_self,reduceIte,reduceCtorEq,Nat.reduceEqDiff,Nat.reduceAdd]
    refine brD.intro (fun e=>?_) (fun e=>?_)
    . have f1:∀ k,k<(i+j) / 2+1->cmpL (ls.getD k []) t<0:=fun k hk=>srt_dn h.srt (j:=(i+j) / 2) (by omega) hmid e
      simp (maxSteps:=1000000) (disch:=omega) only [h0,h1,h2,h8,h9,h10,wrap64,SS,eq_self,reduceIte,reduceCtorEq,Nat.reduceEqDiff,Nat.reduceAdd]
      refine ⟨j - ((i+j) / 2+1),by omega,(i+j) / 2+1,j,?_⟩
      (repeat' first | exact f1 | exact hi | apply And.intro) <;> first | (simp only [Value.int.injEq,true_and];omega) | omega | rfl | assumption | (simp;done) | (simp;omega)
    . have f1:∀ k,(i+j) / 2<=k->k<ls.length->¬ cmpL (ls.getD k []) t<0:=fun k h1 h2 q=>e (srt_dn h.srt h1 h2 q)
      simp (maxSteps:=1000000) (disch:=omega) only [h0,h1,h2,h8,h9,h10,SS,eq_self,reduceIte,reduceCtorEq,Nat.reduceEqDiff,Nat.reduceAdd]
      refine ⟨(i+j) / 2 - i,by omega,i,(i+j) / 2,?_⟩
      (repeat' first | exact lo | exact f1 | apply And.intro) <;> first | (simp only [Value.int.injEq,true_and];omega) | omega | rfl | assumption | (simp;done) | (simp;omega)
  . have hij:i=j:=by omega
    subst hij
    by_cases e:i<ls.length
    . have e':(i:Int)<(ls.length:Int):=by omega
      have hci:=h.cell e
      simp (maxSteps:=1000000) (disch:=omega) only [h0,h1,h2,h8,h9,h10,decide_eq_true e',h.row.ix Tryz.underlying36 cs27,Int.toNat_natCast,hci,SS,eq_self,reduceIte,reduceCtorEq,Nat.reduceEqDiff,Nat.reduceAdd]
      refine CallH.by (cmp _ e) ?_
      rintro _ _ ⟨rfl,rfl⟩
      simp (maxSteps:=1000000) (disch:=omega) only [SS,eq_self,reduceIte,reduceCtorEq,Nat.reduceEqDiff,Nat.reduceAdd]
      refine hQ _ _ _ ?_
      simp (maxSteps:=1000000) (disch:=omega) only [SS,eq_self,reduceIte,reduceCtorEq,Nat.reduceEqDiff,Nat.reduceAdd]
      have hmem:t ∈ ls↔cmpL (ls.getD i []) t=0:=by
        constructor
        . intro ht
          obtain ⟨k,k1,k2⟩:=mem_at ht
          have hk0:i<=k:=Nat.le_of_not_lt fun q=>by have:=lo k q;rw [k2,cmpL_self] at this;omega
          by_cases q:k=i
          . subst q;rw [k2,cmpL_self]
          . have:=srt_lt h.srt (show i<k by omega) k1
            rw [k2] at this
            exact absurd this (hi i (Nat.le_refl _) e)
        . intro q
          have:=cmpL_zero q
          rw [<- this];simp [e]
      refine ⟨i,?_,fun ht=>⟨e,cmpL_zero (hmem.1 ht)⟩⟩
      rw [decide_eq_decide.2 hmem]
    . have e':¬ (i:Int)<(ls.length:Int):=by omega
      simp (maxSteps:=1000000) (disch:=omega) only [h0,h1,h2,h8,h9,h10,decide_eq_false e',SS,eq_self,reduceIte,reduceCtorEq,Nat.reduceEqDiff,Nat.reduceAdd]
      refine hQ _ _ _ ?_
      simp (maxSteps:=1000000) (disch:=omega) only [SS,eq_self,reduceIte,reduceCtorEq,Nat.reduceEqDiff,Nat.reduceAdd]
      have hno:t ∉ ls:=fun ht=>by
        obtain ⟨k,k1,k2⟩:=mem_at ht
        have:=lo k (by omega)
        rw [k2,cmpL_self] at this;omega
      exact ⟨i,by rw [decide_eq_false hno],fun ht=>absurd ht hno⟩
theorem place_c {a b w:Value}{us:List Value}{ls:List (List Int)}{ps:List (Int × Int)}{t:List Int}{H:AH}(hr:SpRow H a b ls ps)(h:Sts H a us ls)(hw:Row 3 H w t)(hl:t.length<=1099511627776) :
    ACalls Tryz.prog 130 [.agg (List.toArray [a,b]),w] H fun r H'=>(∃ i:Nat,r=.tuple (List.toArray [.int .i64 (i:Int),.bool (decide (t ∈ ls))])/\(t ∈ ls->i<ls.length/\ls.getD i []=t))/\H<+:H':=by
  refine in130 rfl ?_
  intro Q hQ
  simp (maxSteps:=1000000) (disch:=omega) only [cd130,hr.box,SS,eq_self,reduceIte,reduceCtorEq,Nat.reduceEqDiff,Nat.reduceAdd]
  generalize hA:H ++ [AObj.cells [a,b] 38 false]=A
  have pA:H<+:A:=by rw [<- hA];exact List.prefix_append _ _
  have cA:A[H.length]?=some (.cells [a,b] 38 false):=by rw [<- hA];exact at_new ..
  simp (maxSteps:=1000000) (disch:=omega) only [cell_of cA,SS,eq_self,reduceIte,reduceCtorEq,Nat.reduceEqDiff,Nat.reduceAdd]
  refine CallH.by (BSearch_c (h.pre pA) (hw.pre pA) hl) ?_
  rintro _ _ ⟨⟨i,rfl,hi⟩,rfl⟩
  simp (maxSteps:=1000000) (disch:=omega) only [SS,eq_self,reduceIte,reduceCtorEq,Nat.reduceEqDiff,Nat.reduceAdd]
  refine hQ _ _ _ ?_
  simp (maxSteps:=1000000) (disch:=omega) only [SS,eq_self,reduceIte,reduceCtorEq,Nat.reduceEqDiff,Nat.reduceAdd]
  exact ⟨⟨i,rfl,hi⟩,pA⟩
theorem l2Index_c {a b w:Value}{us:List Value}{ls:List (List Int)}{ps:List (Int × Int)}{t:List Int}{H:AH}(hr:SpRow H a b ls ps)(h:Sts H a us ls)(hw:Row 3 H w t)(hl:t.length<=1099511627776) :
    ACalls Tryz.prog 103 [.agg (List.toArray [a,b]),w] H fun r H'=>(∃ i:Int,r=.int .i64 i/\(t ∉ ls->i = -1)/\(t ∈ ls->(0<=i/\i<ls.length)/\ls.getD i.toNat []=t))/\H<+:H':=by
  refine in103 rfl ?_
  intro Q hQ
  have hul:=h.len
  have hb:=h.bnd
  simp (maxSteps:=1000000) (disch:=omega) only [cd103,hr.box,SS,eq_self,reduceIte,reduceCtorEq,Nat.reduceEqDiff,Nat.reduceAdd]
  generalize hA:H ++ [AObj.cells [a,b] 38 false]=A
  have pA:H<+:A:=by rw [<- hA];exact List.prefix_append _ _
  have cA:A[H.length]?=some (.cells [a,b] 38 false):=by rw [<- hA];exact at_new ..
  have hA2:=h.pre pA
  refine LoopH.by (fun m s H'=>∃ (i:Nat),m+i=ls.length/\s 1=w/\s 2=.pointer (some ⟨H.length,0,none⟩)/\s 5=.int .i64 ((i:Nat):Int)/\A=H'/\∀ k,k<i->ls.getD k [] ≠ t) ls.length ?_ ?_
  . exact ⟨0,by simp,rfl,rfl,rfl,rfl,fun k hk=>absurd hk (Nat.not_lt_zero k)⟩
  rintro m s H' ⟨i,hm,h1,h2,h5,rfl,hno⟩
  simp (maxSteps:=1000000) (disch:=omega) only [h1,h2,h5,cell_of cA,hA2.row.len Tryz.underlying36,hul,SS,eq_self,reduceIte,reduceCtorEq,Nat.reduceEqDiff,Nat.reduceAdd]
  refine brD.intro (fun g=>?_) (fun g=>?_)
  . have hi:i<ls.length:=by omega
    have hci:=hA2.cell hi
    simp (maxSteps:=1000000) (disch:=omega) only [h1,h2,h5,cell_of cA,hA2.row.ix Tryz.underlying36 cs27,Int.toNat_natCast,hci,SS,eq_self,reduceIte,reduceCtorEq,Nat.reduceEqDiff,Nat.reduceAdd]
    refine CallH.by (l1Same_c _ _ _ _ A (hA2.each i hi) (hw.pre pA) (h.small i hi)) ?_
    rintro _ _ ⟨rfl,rfl⟩
    by_cases e:ls.getD i []=t
    . simp (maxSteps:=1000000) (disch:=omega) only [decide_eq_true e,h5,SS,eq_self,reduceIte,reduceCtorEq,Nat.reduceEqDiff,Nat.reduceAdd]
      refine hQ _ _ _ ?_
      simp (maxSteps:=1000000) (disch:=omega) only [SS,eq_self,reduceIte,reduceCtorEq,Nat.reduceEqDiff,Nat.reduceAdd]
      have hm:t ∈ ls:=by rw [<- e];simp [hi]
      exact ⟨⟨(i:Int),rfl,fun q=>absurd hm q,fun _=>⟨by omega,by rw [Int.toNat_natCast];exact e⟩⟩,pA⟩
    . simp (maxSteps:=1000000) (disch:=omega) only [decide_eq_false e,h1,h2,h5,wrap64,SS,eq_self,reduceIte,reduceCtorEq,Nat.reduceEqDiff,Nat.reduceAdd]
      have f1:∀ k,k<i+1->ls.getD k [] ≠ t:=fun k hk=>by
        by_cases q:k=i
        . subst q;exact e
        . exact hno k (by omega)
      refine ⟨m - 1,by omega,i+1,?_⟩
      (repeat' first | exact f1 | apply And.intro) <;> first | (simp only [Value.int.injEq,true_and];omega) | omega | rfl | assumption | (simp;done) | (simp;omega)
  . simp (maxSteps:=1000000) (disch:=omega) only [SS,eq_self,reduceIte,reduceCtorEq,Nat.reduceEqDiff,Nat.reduceAdd]
    refine hQ _ _ _ ?_
    simp (maxSteps:=1000000) (disch:=omega) only [SS,eq_self,reduceIte,reduceCtorEq,Nat.reduceEqDiff,Nat.reduceAdd]
    have hm:t ∉ ls:=fun q=>by
      obtain ⟨k,k1,k2⟩:=mem_at q
      exact hno k (by omega) k2
    exact ⟨⟨-1,rfl,fun _=>rfl,fun q=>absurd q hm⟩,pA⟩
theorem l2Dist_c {a b:Value}{ls:List (List Int)}{ps:List (Int × Int)}{H:AH}(hr:SpRow H a b ls ps)(hn:ls.length<=1000)(hp:ps.length<=1000000)(hps:StpOk ls.length ps)(hdeg:∀ x,(nbS ps x).length<=12){i:Nat}(hi:i<ls.length) :
    ACalls Tryz.prog 102 [.agg (List.toArray [a,b]),.int .i64 (i:Int)] H fun r H'=>Own 3 H H' r (bfs (rdS ls.length ps) i)/\H<+:H':=by
  refine in102 rfl ?_
  intro Q hQ
  simp (maxSteps:=1000000) (disch:=omega) only [cd102,hr.box,SS,eq_self,reduceIte,reduceCtorEq,Nat.reduceEqDiff,Nat.reduceAdd]
  generalize hA:H ++ [AObj.cells [a,b] 38 false]=A
  have pA:H<+:A:=by rw [<- hA];exact List.prefix_append _ _
  have cA:A[H.length]?=some (.cells [a,b] 38 false):=by rw [<- hA];exact at_new ..
  simp (maxSteps:=1000000) (disch:=omega) only [ld_agg ag38 cs38 cA,SS,eq_self,reduceIte,reduceCtorEq,Nat.reduceEqDiff,Nat.reduceAdd]
  refine CallH.by (l2Lists_c a b ls ps A (hr.pre pA) hn hp hps hdeg) ?_
  rintro v B ⟨⟨bd,hv⟩,pB⟩
  have hrl:=rdS_len ls.length ps
  simp (maxSteps:=1000000) (disch:=omega) only [SS,eq_self,reduceIte,reduceCtorEq,Nat.reduceEqDiff,Nat.reduceAdd]
  refine CallH.by (l2Spread_c v (rdS ls.length ps) i B hv (rdS_ok hps) (by omega) (by omega) (fun x=>by
    by_cases hx:x<ls.length
    . rw [rdS_at _ _ hx];have:=hdeg (x:Int);omega
    . rw [List.getD_eq_getElem?_getD,List.getElem?_eq_none (by omega)];simp)) ?_
  rintro d C ⟨hd,pC⟩
  simp (maxSteps:=1000000) (disch:=omega) only [SS,eq_self,reduceIte,reduceCtorEq,Nat.reduceEqDiff,Nat.reduceAdd]
  refine hQ _ _ _ ?_
  simp (maxSteps:=1000000) (disch:=omega) only [hd.row.tup,SS,eq_self,reduceIte,reduceCtorEq,Nat.reduceEqDiff,Nat.reduceAdd]
  exact ⟨own_base hd (by have:=pA.length_le;have:=pB.length_le;omega),pA.trans (pB.trans pC)⟩
theorem rdS_sym {n:Nat}(ps:List (Int × Int)):Sym (rdS n ps):=by
  intro u v hu hv h
  rw [rdS_len] at hu hv
  rw [rdS_at _ _ hu,nbS_mem] at h
  rw [rdS_at _ _ hv,nbS_mem]
  exact h.symm
theorem firstWay_c {a b:Value}{ls:List (List Int)}{ps:List (Int × Int)}{H:AH}(hr:SpRow H a b ls ps)(hn:ls.length<=1000)(hp:ps.length<=1000000)(hps:StpOk ls.length ps)(hdeg:∀ x,(nbS ps x).length<=12){i j:Nat}(hi:i<ls.length)(hj:j<ls.length) :
    ACalls Tryz.prog 178 [.agg (List.toArray [a,b]),.int .i64 (i:Int),.int .i64 (j:Int)] H fun r H'=>(∃ g,r=.tuple (List.toArray [g,.bool (decide (0<=(bfs (rdS ls.length ps) j).getD i 0))]) /\
      Row 3 H' g (if 0<=(bfs (rdS ls.length ps) j).getD i 0 then wyS (rdS ls.length ps) (bfs (rdS ls.length ps) j) (j:Int) ((bfs (rdS ls.length ps) j).getD i 0).toNat (i:Int) else []))/\H<+:H':=by
  refine in178 rfl ?_
  intro Q hQ
  simp (maxSteps:=1000000) (disch:=omega) only [cd178,hr.box,SS,eq_self,reduceIte,reduceCtorEq,Nat.reduceEqDiff,Nat.reduceAdd]
  generalize hA:H ++ [AObj.cells [a,b] 38 false]=A
  have pA:H<+:A:=by rw [<- hA];exact List.prefix_append _ _
  have cA:A[H.length]?=some (.cells [a,b] 38 false):=by rw [<- hA];exact at_new ..
  simp (maxSteps:=1000000) (disch:=omega) only [ld_agg ag38 cs38 cA,SS,eq_self,reduceIte,reduceCtorEq,Nat.reduceEqDiff,Nat.reduceAdd]
  refine CallH.by (spRoads_c a b ls ps A (hr.pre pA) hn hp hps hdeg) ?_
  rintro v B ⟨⟨bd,hv⟩,pB⟩
  have hrl:=rdS_len ls.length ps
  have hLk:=rdS_ok hps
  have hsy:=rdS_sym (n:=ls.length) ps
  have hsm:∀ x,((rdS ls.length ps).getD x []).length<=12:=fun x=>by
    by_cases hx:x<ls.length
    . rw [rdS_at _ _ hx];exact hdeg (x:Int)
    . rw [List.getD_eq_getElem?_getD,List.getElem?_eq_none (by omega)];simp
  generalize rdS ls.length ps=L at *
  generalize ls.length=N at *
  simp (maxSteps:=1000000) (disch:=omega) only [SS,eq_self,reduceIte,reduceCtorEq,Nat.reduceEqDiff,Nat.reduceAdd]
  refine CallH.by (spread_c v L j B hv hLk (by omega) (by omega) (fun x=>by have:=hsm x;omega)) ?_
  rintro fv C ⟨hf,pC⟩
  have hfl:(bfs L j).length=N:=by
    obtain ⟨q,h⟩:=bfs_DI hLk (show j<L.length by omega)
    have:=h.bi.len
    rw [hrl] at this;exact this
  have hf0:=hf.row
  have hci:=hf0.cell (show i<(bfs L j).length by omega)
  have hzero:=bfs_zero hLk (show j<L.length by omega)
  simp (maxSteps:=1000000) (disch:=omega) only [hf0.ix Tryz.underlying27 cs3,Int.toNat_natCast,hci,SS,eq_self,reduceIte,reduceCtorEq,Nat.reduceEqDiff,Nat.reduceAdd]
  refine brD.intro (fun e=>?_) (fun e=>?_)
  . simp (maxSteps:=1000000) (disch:=omega) only [SS,eq_self,reduceIte,reduceCtorEq,Nat.reduceEqDiff,Nat.reduceAdd]
    refine hQ _ _ _ ?_
    simp (maxSteps:=1000000) (disch:=omega) only [SS,eq_self,reduceIte,reduceCtorEq,Nat.reduceEqDiff,Nat.reduceAdd]
    rw [decide_eq_false (show ¬ 0<=(bfs L j).getD i 0 by omega),if_neg (by omega)]
    exact ⟨⟨_,rfl,.inl ⟨rfl,rfl⟩⟩,pA.trans (pB.trans pC)⟩
  have e0:0<=(bfs L j).getD i 0:=by omega
  rw [decide_eq_true e0,if_pos e0] at hQ
  obtain ⟨d,hd⟩:∃ d:Nat,(bfs L j).getD i 0=d:=⟨((bfs L j).getD i 0).toNat,by omega⟩
  rw [hd,Int.toNat_natCast] at hQ
  simp (maxSteps:=1000000) (disch:=omega) only [SS,eq_self,reduceIte,reduceCtorEq,Nat.reduceEqDiff,Nat.reduceAdd]
  generalize hD:C ++ [AObj.cells [.int .i64 (i:Int)] 3 false]=D
  have pD:C<+:D:=by rw [<- hD];exact List.prefix_append _ _
  have cD:D[C.length]?=some (.cells (ints [(i:Int)]) 3 false):=by rw [<- hD];exact at_new ..
  have lD:D.length=C.length+1:=by rw [<- hD];simp
  have own0:Own 3 C D (.slice (some ⟨C.length,0,none⟩) 1 1) [(i:Int)]:=.inr ⟨C.length,rfl,Nat.le_refl _,cD⟩
  have hW:[(i:Int)] ++ (wyS L (bfs L j) (j:Int) d (i:Int)).tail=wyS L (bfs L j) (j:Int) d (i:Int):=(wyS_head _ _ _ _ _).symm
  generalize hWW:wyS L (bfs L j) (j:Int) d (i:Int)=W at hW hQ
  have hWl:W.length=d+1:=by rw [<- hWW];exact (wy_len hLk hsy (by omega) d i (by omega) hd).1
  have hbN:∀ x,x<N->(bfs L j).getD x 0<N:=by
    intro x hx
    obtain ⟨q,h⟩:=bfs_DI hLk (show j<L.length by omega)
    have h1:=h.bi.lo x (by omega)
    have h2:=h.bi.len_le
    have h1':(bfs L j).getD x 0<(q.length:Nat):=h1.2
    have h2':q.length<=L.length:=h2
    omega
  have hdN:d<N:=by have:=hbN i (by omega);omega
  refine LoopH.by (fun m s H'=>∃ (c:Nat) (O:List Int),c<N/\(bfs L j).getD c 0=(m:Int)/\s 1=.int .i64 (c:Int)/\s 2=.int .i64 (j:Int)/\s 8=v/\s 9=fv/\Own 3 C H' (s 10) O/\O ++ (wyS L (bfs L j) (j:Int) m (c:Int)).tail=W/\C<+:H') d ?_ ?_
  . refine ⟨i,[(i:Int)],?_⟩
    have hW2:(i:Int) :: (wyS L (bfs L j) (j:Int) d (i:Int)).tail=W:=by rw [hWW];exact hW
    simp (maxSteps:=1000000) (disch:=omega) only [SS,eq_self,reduceIte,reduceCtorEq,Nat.reduceEqDiff,Nat.reduceAdd]
    (repeat' first | exact hd | exact own0 | exact hW2 | exact pD | apply And.intro) <;> first | (simp only [Value.int.injEq,true_and];omega) | omega | rfl | assumption | (simp;done) | (simp;omega)
  rintro m s H' ⟨c,O,hc,hm,h1,h2,h8,h9,hO,hT,pH⟩
  generalize hU:s 10=U at *
  simp (maxSteps:=1000000) (disch:=omega) only [h1,h2,h8,h9,hU,SS,eq_self,reduceIte,reduceCtorEq,Nat.reduceEqDiff,Nat.reduceAdd]
  by_cases ec:c=j
  . have ec':¬ ¬ (c:Int)=(j:Int):=by omega
    subst ec
    simp (maxSteps:=1000000) (disch:=omega) only [decide_eq_false ec',h1,h2,h8,h9,hU,SS,eq_self,reduceIte,reduceCtorEq,Nat.reduceEqDiff,Nat.reduceAdd]
    refine hQ _ _ _ ?_
    simp (maxSteps:=1000000) (disch:=omega) only [hO.row.tup,SS,eq_self,reduceIte,reduceCtorEq,Nat.reduceEqDiff,Nat.reduceAdd]
    rw [wyS_end] at hT
    have hOW:O=W:=by simpa using hT
    rw [<- hOW]
    exact ⟨⟨U,rfl,hO.row⟩,pA.trans (pB.trans (pC.trans pH))⟩
  . have ec':¬ (c:Int)=(j:Int):=by omega
    have hcN:=hbN c hc
    have hpos:=far_pos hLk hsy (show j<L.length by omega) (show c<L.length by omega) (by omega) ec
    obtain ⟨k,rfl⟩:∃ k,m=k+1:=⟨m - 1,by omega⟩
    obtain ⟨n1,n2,n3⟩:=nx_ok hLk hsy (show j<L.length by omega) (show c<L.length by omega) hm
    obtain ⟨nx,hnx⟩:∃ nx:Nat,nxS L (bfs L j) (c:Int)=nx:=⟨(nxS L (bfs L j) (c:Int)).toNat,by have:=hLk c _ n1;omega⟩
    have hnr:=hLk c _ n1
    rw [hnx] at n1 n2 n3 hnr
    rw [Int.toNat_natCast] at n2
    have hT2:(O ++ [(nx:Int)]) ++ (wyS L (bfs L j) (j:Int) k (nx:Int)).tail=W:=by
      rw [<- hT]
      have:(wyS L (bfs L j) (j:Int) (k+1) (c:Int)).tail=wyS L (bfs L j) (j:Int) k (nx:Int):=by
        simp only [wyS];rw [if_neg ec',hnx];rfl
      rw [this,List.append_assoc]
      congr 1
      exact (wyS_head _ _ _ _ _).symm
    obtain ⟨us,hus,hvb,hul,hin⟩:=hv.pre (pC.trans pH)
    have hcc:=hus.cell (show c<us.length by omega)
    have hrow:=(hin c (by omega)).1
    have hfH:=hf0.pre pH
    simp (maxSteps:=1000000) (disch:=omega) only [decide_eq_true ec',h1,h2,h8,h9,hU,hus.ix Tryz.underlying36 cs27,Int.toNat_natCast,hcc,hrow.len Tryz.underlying27,SS,eq_self,reduceIte,reduceCtorEq,Nat.reduceEqDiff,Nat.reduceAdd]
    generalize hxs:L.getD c []=xs at *
    have hxl:=hsm c
    rw [hxs] at hxl
    have hxr:∀ z ∈ xs,0<=z/\z<N:=fun z hz=>by have:=hLk c z (by rw [hxs];exact hz);omega
    refine LoopH.by (fun m' s' H''=>∃ (q:Nat),m'+q=xs.length/\s' 1=.int .i64 (c:Int)/\s' 2=.int .i64 (j:Int)/\s' 8=v/\s' 9=fv/\s' 10=U/\s' 31=us.getD c undef/\s' 32=.int .i64 (xs.length:Int)/\s' 33=.int .i64 ((q:Nat):Int)/\H'=H''/\(xs.drop q).find? (fun k=>decide ((bfs L j).getD k.toNat 0=(bfs L j).getD c 0 - 1))=some (nx:Int)) xs.length ?_ ?_
    . refine ⟨0,?_⟩
      simp (maxSteps:=1000000) (disch:=omega) only [h1,h2,h8,h9,hU,SS,eq_self,reduceIte,reduceCtorEq,Nat.reduceEqDiff,Nat.reduceAdd]
      (repeat' first | exact n3 | apply And.intro) <;> first | (simp only [Value.int.injEq,true_and];omega) | omega | rfl | assumption | (simp;done) | (simp;omega)
    rintro m' s' H'' ⟨q,hm',g1,g2,g8,g9,g10,g31,g32,g33,rfl,hfd⟩
    simp (maxSteps:=1000000) (disch:=omega) only [g1,g2,g8,g9,g10,g31,g32,g33,SS,eq_self,reduceIte,reduceCtorEq,Nat.reduceEqDiff,Nat.reduceAdd]
    refine brD.intro (fun g=>?_) (fun g=>?_)
    . have hq:q<xs.length:=by omega
      have hzm:xs.getD q 0 ∈ xs:=by simp [hq]
      have hzr:=hxr _ hzm
      have hcq:=hrow.cell hq
      obtain ⟨z,hz⟩:∃ z:Nat,xs.getD q 0=z:=⟨(xs.getD q 0).toNat,by omega⟩
      rw [hz] at hcq hzr
      have hfz:=hfH.cell (show z<(bfs L j).length by omega)
      have hfc:=hfH.cell (show c<(bfs L j).length by omega)
      have hdrop:xs.drop q=(z:Int) :: xs.drop (q+1):=by
        rw [List.drop_eq_getElem_cons hq]
        congr 1
        rw [<- hz];simp [hq]
      rw [hdrop,List.find?_cons,Int.toNat_natCast] at hfd
      have hwr:IntKind.i64.wrap ((bfs L j).getD c 0 - 1)=(bfs L j).getD c 0 - 1:=wrap64 (by omega) (by omega)
      simp (maxSteps:=1000000) (disch:=omega) only [g1,g2,g8,g9,g10,g31,g32,g33,hrow.ix Tryz.underlying27 cs3,hfH.ix Tryz.underlying27 cs3,Int.toNat_natCast,hcq,hfz,hfc,hwr,SS,eq_self,reduceIte,reduceCtorEq,Nat.reduceEqDiff,Nat.reduceAdd]
      by_cases e5:(bfs L j).getD z 0=(bfs L j).getD c 0 - 1
      . rw [decide_eq_true e5] at hfd
        have hzn:z=nx:=by
          have:=Option.some.inj hfd
          omega
        subst hzn
        obtain ⟨U',H2,j1,j2,j3,j4,j5,j6⟩:=own1_27 hO pH (by
          have:O.length<=W.length:=by rw [<- hT];simp
          omega) (z:Int)
        simp (maxSteps:=1000000) (disch:=omega) only [decide_eq_true e5,g1,g2,g8,g9,g10,g31,g32,g33,j1,SS,eq_self,reduceIte,reduceCtorEq,Nat.reduceEqDiff,Nat.reduceAdd]
        refine ⟨k,by omega,z,O ++ [(z:Int)],?_⟩
        (repeat' first | exact n2 | exact j2 | exact hT2 | exact j3 | apply And.intro) <;> first | (simp only [Value.int.injEq,true_and];omega) | omega | rfl | assumption | (simp;done) | (simp;omega)
      . rw [decide_eq_false e5] at hfd
        simp (maxSteps:=1000000) (disch:=omega) only [decide_eq_false e5,g1,g2,g8,g9,g10,g31,g32,g33,wrap64,SS,eq_self,reduceIte,reduceCtorEq,Nat.reduceEqDiff,Nat.reduceAdd]
        refine ⟨m' - 1,by omega,q+1,?_⟩
        (repeat' first | exact hfd | apply And.intro) <;> first | (simp only [Value.int.injEq,true_and];omega) | omega | rfl | assumption | (simp;done) | (simp;omega)
    . rw [List.drop_of_length_le (by omega)] at hfd
      simp at hfd
theorem bsRowW {H0:AH}{v:Value}{xs:List Int}(h:Row 3 H0 v xs)(K:AH):buildSliceA Tryz.prog 36 1 [(0,v)] K=some (.slice (some ⟨K.length,0,none⟩) 1 1,K ++ [.cells [v] 27 false]):=by
  obtain ⟨q,eq⟩:=h.shape
  rw [eq]
  exact bs1 Tryz.underlying36 cs27 ze27 ⟨by kernel_rfl,by kernel_rfl⟩ K rfl
def wkB (ls:List (List Int))(ps:List (Int × Int))(x y:List Int):Bool:=decide (x ∈ ls/\y ∈ ls/\0<=(bfs (rdS ls.length ps) (ls.idxOf y)).getD (ls.idxOf x) 0)
def wkL (ls:List (List Int))(ps:List (Int × Int))(x y:List Int):List (List Int) :=
  if wkB ls ps x y=true then (wyS (rdS ls.length ps) (bfs (rdS ls.length ps) (ls.idxOf y)) ((ls.idxOf y:Nat):Int) ((bfs (rdS ls.length ps) (ls.idxOf y)).getD (ls.idxOf x) 0).toNat ((ls.idxOf x:Nat):Int)).map fun k=>ls.getD k.toNat [] else []
theorem idx_of {ls:List (List Int)}(h:SrtL ls){t:List Int}{i:Nat}(hi:i<ls.length)(e:ls.getD i []=t):i=ls.idxOf t:=by
  have hm:t ∈ ls:=by rw [<- e];simp [hi]
  have h1:=List.idxOf_lt_length_iff.2 hm
  refine srt_uniq h hi h1 ?_
  rw [e]
  simp [h1]
theorem idx_lt {ls:List (List Int)}{t:List Int}(h:t ∈ ls):ls.idxOf t<ls.length:=List.idxOf_lt_length_iff.2 h
theorem walk_c {a b va vb:Value}{us:List Value}{ls:List (List Int)}{ps:List (Int × Int)}{x y:List Int}{H:AH}(hr:SpRow H a b ls ps)(h:Sts H a us ls)(hn:ls.length<=1000)(hp:ps.length<=1000000)(hps:StpOk ls.length ps)(hdeg:∀ x,(nbS ps x).length<=12)
    (hx:Row 3 H va x)(hy:Row 3 H vb y)(hlx:x.length<=1099511627776)(hly:y.length<=1099511627776) :
    ACalls Tryz.prog 99 [.agg (List.toArray [a,b]),va,vb] H fun r H'=>(∃ g,r=.tuple (List.toArray [g,.bool (wkB ls ps x y)])/\InL H.length H'.length 27 3 H' g (wkL ls ps x y))/\H<+:H':=by
  refine in99 rfl ?_
  intro Q hQ
  have hul:=h.len
  simp (maxSteps:=1000000) (disch:=omega) only [cd99,hr.box,SS,eq_self,reduceIte,reduceCtorEq,Nat.reduceEqDiff,Nat.reduceAdd]
  generalize hA:H ++ [AObj.cells [a,b] 38 false]=A
  have pA:H<+:A:=by rw [<- hA];exact List.prefix_append _ _
  have cA:A[H.length]?=some (.cells [a,b] 38 false):=by rw [<- hA];exact at_new ..
  simp (maxSteps:=1000000) (disch:=omega) only [ld_agg ag38 cs38 cA,SS,eq_self,reduceIte,reduceCtorEq,Nat.reduceEqDiff,Nat.reduceAdd]
  refine CallH.by (place_c (hr.pre pA) (h.pre pA) (hx.pre pA) hlx) ?_
  rintro _ B ⟨⟨i,rfl,hi⟩,pB⟩
  have cB:=pre_at pB cA
  have pHB:=pA.trans pB
  simp (maxSteps:=1000000) (disch:=omega) only [ld_agg ag38 cs38 cB,SS,eq_self,reduceIte,reduceCtorEq,Nat.reduceEqDiff,Nat.reduceAdd]
  refine CallH.by (place_c (hr.pre pHB) (h.pre pHB) (hy.pre pHB) hly) ?_
  rintro _ C ⟨⟨j,rfl,hj⟩,pC⟩
  have cC:=pre_at pC cB
  have pHC:=pHB.trans pC
  simp (maxSteps:=1000000) (disch:=omega) only [SS,eq_self,reduceIte,reduceCtorEq,Nat.reduceEqDiff,Nat.reduceAdd]
  by_cases ex:x ∈ ls
  rotate_left
  . have hb:wkB ls ps x y=false:=by unfold wkB;rw [decide_eq_false (fun q=>ex q.1)]
    simp (maxSteps:=1000000) (disch:=omega) only [decide_eq_false ex,SS,eq_self,reduceIte,reduceCtorEq,Nat.reduceEqDiff,Nat.reduceAdd]
    refine hQ _ _ _ ?_
    simp (maxSteps:=1000000) (disch:=omega) only [SS,eq_self,reduceIte,reduceCtorEq,Nat.reduceEqDiff,Nat.reduceAdd]
    rw [hb,show wkL ls ps x y=[] by unfold wkL;rw [hb];rfl]
    exact ⟨⟨_,rfl,.inl ⟨rfl,rfl⟩⟩,pHC⟩
  by_cases ey:y ∈ ls
  rotate_left
  . have hb:wkB ls ps x y=false:=by unfold wkB;rw [decide_eq_false (fun q=>ey q.2.1)]
    simp (maxSteps:=1000000) (disch:=omega) only [decide_eq_true ex,decide_eq_false ey,SS,eq_self,reduceIte,reduceCtorEq,Nat.reduceEqDiff,Nat.reduceAdd]
    refine hQ _ _ _ ?_
    simp (maxSteps:=1000000) (disch:=omega) only [SS,eq_self,reduceIte,reduceCtorEq,Nat.reduceEqDiff,Nat.reduceAdd]
    rw [hb,show wkL ls ps x y=[] by unfold wkL;rw [hb];rfl]
    exact ⟨⟨_,rfl,.inl ⟨rfl,rfl⟩⟩,pHC⟩
  obtain ⟨i1,i2⟩:=hi ex
  obtain ⟨j1,j2⟩:=hj ey
  have hie:=idx_of h.srt i1 i2
  have hje:=idx_of h.srt j1 j2
  simp (maxSteps:=1000000) (disch:=omega) only [decide_eq_true ex,decide_eq_true ey,ld_agg ag38 cs38 cC,SS,eq_self,reduceIte,reduceCtorEq,Nat.reduceEqDiff,Nat.reduceAdd]
  refine CallH.by (firstWay_c (hr.pre pHC) hn hp hps hdeg i1 j1) ?_
  rintro _ D ⟨⟨g,rfl,hg⟩,pD⟩
  have hb:wkB ls ps x y=decide (0<=(bfs (rdS ls.length ps) j).getD i 0):=by
    unfold wkB
    rw [<- hie,<- hje]
    exact decide_eq_decide.2 ⟨fun q=>q.2.2,fun q=>⟨ex,ey,q⟩⟩
  have hwl:wkL ls ps x y=(if 0<=(bfs (rdS ls.length ps) j).getD i 0 then wyS (rdS ls.length ps) (bfs (rdS ls.length ps) j) (j:Int) ((bfs (rdS ls.length ps) j).getD i 0).toNat (i:Int) else []).map fun k=>ls.getD k.toNat []:=by
    unfold wkL
    rw [hb,<- hie,<- hje]
    by_cases q:0<=(bfs (rdS ls.length ps) j).getD i 0
    . rw [if_pos (decide_eq_true q),if_pos q]
    . rw [if_neg (by simpa using q),if_neg q];rfl
  have hrng:∀ z ∈ (if 0<=(bfs (rdS ls.length ps) j).getD i 0 then wyS (rdS ls.length ps) (bfs (rdS ls.length ps) j) (j:Int) ((bfs (rdS ls.length ps) j).getD i 0).toNat (i:Int) else []),0<=z/\z<ls.length:=by
    intro z hz
    split at hz
    . rename_i q
      have:=(wy_len (rdS_ok hps) (rdS_sym ps) (by rw [rdS_len];exact j1) ((bfs (rdS ls.length ps) j).getD i 0).toNat i (by rw [rdS_len];exact i1) (by omega)).2 z hz
      rwa [rdS_len] at this
    . simp at hz
  have hwy:(if 0<=(bfs (rdS ls.length ps) j).getD i 0 then wyS (rdS ls.length ps) (bfs (rdS ls.length ps) j) (j:Int) ((bfs (rdS ls.length ps) j).getD i 0).toNat (i:Int) else []).length<=1000000:=by
    split
    . rename_i q
      have hL:=rdS_ok hps
      have hlt:j<(rdS ls.length ps).length:=by rw [rdS_len];exact j1
      have:=(wy_len hL (rdS_sym ps) hlt ((bfs (rdS ls.length ps) j).getD i 0).toNat i (by rw [rdS_len];exact i1) (by omega)).1
      obtain ⟨q',h'⟩:=bfs_DI hL hlt
      have h1:=h'.bi.lo i (by rw [rdS_len];exact i1)
      have h2:=h'.bi.len_le
      have h1':(bfs (rdS ls.length ps) j).getD i 0<(q'.length:Nat):=h1.2
      have h2':q'.length<=(rdS ls.length ps).length:=h2
      rw [rdS_len] at h2'
      omega
    . simp
  rw [hwl,hb] at hQ
  generalize (if 0<=(bfs (rdS ls.length ps) j).getD i 0 then wyS (rdS ls.length ps) (bfs (rdS ls.length ps) j) (j:Int) ((bfs (rdS ls.length ps) j).getD i 0).toNat (i:Int) else [])=W at *
  generalize decide (0<=(bfs (rdS ls.length ps) j).getD i 0)=ok at *
  have u0:=InU.new H.length 27 3 D (pHC.trans pD).length_le
  simp (maxSteps:=1000000) (disch:=omega) only [SS,eq_self,reduceIte,reduceCtorEq,Nat.reduceEqDiff,Nat.reduceAdd]
  generalize hE:D ++ [AObj.cells [] 27 false]=E at *
  have pE:D<+:E:=by rw [<- hE];exact List.prefix_append _ _
  have lE:E.length=D.length+1:=by rw [<- hE];simp
  have cE:=pre_at (pD.trans pE) cC
  have hgE:=hg.pre pE
  have hlD:=(pHC.trans pD).length_le
  have hHC:A.length<=D.length:=(pB.trans (pC.trans pD)).length_le
  have lA:A.length=H.length+1:=by rw [<- hA];simp
  have u0':InU A.length E.length 27 3 E D.length [] ((W.take 0).map fun k=>ls.getD k.toNat []):=by
    rw [lE]
    have:=InU.new A.length 27 3 D hHC
    rw [hE] at this
    exact this
  simp (maxSteps:=1000000) (disch:=omega) only [hgE.len Tryz.underlying27,SS,eq_self,reduceIte,reduceCtorEq,Nat.reduceEqDiff,Nat.reduceAdd]
  have pDE:=pE
  refine LoopH.by (fun m s H'=>∃ (i o:Nat) (vs:List Value),m+i=W.length/\s 3=.pointer (some ⟨H.length,0,none⟩)/\s 13=.bool ok/\s 14=.slice (some ⟨o,0,none⟩) ((W.take i).map fun k=>ls.getD k.toNat []).length ((W.take i).map fun k=>ls.getD k.toNat []).length/\s 43=g/\s 44=.int .i64 (W.length:Int)/\s 45=.int .i64 ((i:Nat):Int)/\D.length<=o/\InU A.length H'.length 27 3 H' o vs ((W.take i).map fun k=>ls.getD k.toNat [])/\D<+:H') W.length ?_ ?_
  . exact ⟨0,D.length,[],by simp,rfl,rfl,rfl,rfl,rfl,rfl,Nat.le_refl _,u0',pDE⟩
  rintro m s H' ⟨i,o,vs,hm,h3,h13,h14,h43,h44,h45,hoD,hin,hpp⟩
  have hgH:=hg.pre hpp
  have cH:=pre_at (pD.trans hpp) cC
  have hH:=h.pre (pHC.trans (pD.trans hpp))
  have hml:((W.take i).map fun k=>ls.getD k.toNat []).length=i:=by rw [List.length_map,List.length_take];omega
  simp (maxSteps:=1000000) (disch:=omega) only [h3,h13,h14,h43,h44,h45,SS,eq_self,reduceIte,reduceCtorEq,Nat.reduceEqDiff,Nat.reduceAdd]
  refine brD.intro (fun q=>?_) (fun q=>?_)
  . have hi:i<W.length:=by omega
    have hzm:W.getD i 0 ∈ W:=by simp [hi]
    have hzr:=hrng _ hzm
    have hst:(W.take (i+1)).map (fun k=>ls.getD k.toNat [])=(W.take i).map (fun k=>ls.getD k.toNat []) ++ [ls.getD (W.getD i 0).toNat []]:=by
      rw [List.take_add_one,List.getElem?_eq_getElem hi,List.map_append]
      have:W.getD i 0=W[i]:=by simp [hi]
      rw [this];rfl
    have hci:=hgH.cell hi
    obtain ⟨z,hz⟩:∃ z:Nat,W.getD i 0=z:=⟨(W.getD i 0).toNat,by omega⟩
    rw [hz,Int.toNat_natCast] at hst
    rw [hz] at hci hzr
    have hcz:=hH.cell (show z<ls.length by omega)
    simp (maxSteps:=1000000) (disch:=omega) only [h3,h13,h14,h43,h44,h45,hgH.ix Tryz.underlying27 cs3,Int.toNat_natCast,hci,cell_of cH,hH.row.ix Tryz.underlying36 cs27,hcz,SS,eq_self,reduceIte,reduceCtorEq,Nat.reduceEqDiff,Nat.reduceAdd]
    refine CallH.by (Clone_c _ _ H' (hH.each z (by omega)) (hH.small z (by omega))) ?_
    rintro c F ⟨hc,pF⟩
    have hinw:=InI.of hc.mine
    obtain ⟨H3,k1,k2,k3,k4⟩:=(hin.pre pF).app1 (P:=Tryz.prog) (t2:=36) Tryz.underlying36 cs27 (by rw [by27];decide) zk27 hinw (by have:=hpp.length_le;omega) pF.length_le (Nat.le_refl _) (by omega)
    rw [hml] at k1 k2
    rw [<- hst] at k2
    have hml2:((W.take (i+1)).map fun k=>ls.getD k.toNat []).length=i+1:=by rw [List.length_map,List.length_take];omega
    have f1:D<+:H3:=prefix_of fun j x hx'=>k4 j x (by have:=at_lt hx';omega) (pre_at (hpp.trans pF) hx')
    have f2:InU A.length H3.length 27 3 H3 (F.length+1) (vs.take i ++ [c]) ((W.take (i+1)).map fun k=>ls.getD k.toNat []):=by rw [k3];exact k2
    have hlF:=(hpp.trans pF).length_le
    simp (maxSteps:=1000000) (disch:=omega) only [h3,h13,h14,h43,h44,h45,hml,bsRowW hc.row,k1,wrap64,SS,eq_self,reduceIte,reduceCtorEq,Nat.reduceEqDiff,Nat.reduceAdd]
    refine ⟨m - 1,by omega,i+1,F.length+1,vs.take i ++ [c],?_⟩
    rw [hml2]
    (repeat' first | exact f1 | exact f2 | apply And.intro) <;> first | (simp only [Value.int.injEq,true_and];omega) | omega | rfl | assumption | (simp;done) | (simp;omega)
  . have hi:i=W.length:=by omega
    subst hi
    simp (maxSteps:=1000000) (disch:=omega) only [h13,h14,SS,eq_self,reduceIte,reduceCtorEq,Nat.reduceEqDiff,Nat.reduceAdd]
    refine hQ _ _ _ ?_
    simp (maxSteps:=1000000) (disch:=omega) only [SS,eq_self,reduceIte,reduceCtorEq,Nat.reduceEqDiff,Nat.reduceAdd]
    have e1:W.take W.length=W:=List.take_length
    rw [e1] at hin ⊢
    exact ⟨⟨_,rfl,hin.inl.wide (by omega) (Nat.le_refl _)⟩,pHC.trans (pD.trans hpp)⟩
def cd209:Cd:=(.seq (.reg [⟨⟨some 2,.assign (.const (.bool false)),none⟩,[]⟩]) (.seq (.reg [⟨⟨some 3,.move (.tmp 0),none⟩,[]⟩,
  ⟨⟨some 4,.call ⟨(.value (.func 113)),#[.tmp 3,(.const (.int .i64 (-99))),(.const (.int .i64 99))],#[3,3,3]⟩,none⟩,[]⟩,
  ⟨⟨some 5,.unOp .not 4 (.tmp 4),none⟩,[]⟩,
  ⟨⟨some 2,.assign (.tmp 5),none⟩,[]⟩]) .ret))
theorem in209:InT Tryz.prog 209 1 [.tmp 2] cd209:=InT.mk (by kernel_rfl) [] Tryz.func209 rfl (by kernel_rfl) (by kernel_rfl) (of_decide_eq_true (by kernel_rfl)) (by kernel_rfl)
def cd170:Cd:=(.seq (.reg [⟨⟨some 2,.assign (.const (.bool false)),none⟩,[]⟩]) (.seq (.reg [⟨⟨some 3,.move (.tmp 0),none⟩,[]⟩,
  ⟨⟨some 4,.call ⟨(.builtin .len),#[.tmp 3],#[27]⟩,none⟩,[]⟩,
  ⟨⟨some 5,.binOp .leq 3 (.tmp 4) (.const (.int .i64 24)) 3,none⟩,[]⟩,
  ⟨⟨some 6,.move (.tmp 5),none⟩,[]⟩,
  ⟨⟨some 7,.move (.tmp 0),some (6,true)⟩,[]⟩,
  ⟨⟨some 8,.call ⟨(.value (.func 190)),#[.tmp 7,(.func 209)],#[27,98]⟩,some (6,true)⟩,[]⟩,
  ⟨⟨some 9,.unOp .not 4 (.tmp 8),some (6,true)⟩,[]⟩,
  ⟨⟨some 10,.pick (.tmp 6) (.tmp 9) (.const (.bool false)),none⟩,[]⟩,
  ⟨⟨some 2,.assign (.tmp 10),none⟩,[]⟩]) .ret))
theorem in170:InT Tryz.prog 170 1 [.tmp 2] cd170:=InT.mk (by kernel_rfl) [] Tryz.func170 rfl (by kernel_rfl) (by kernel_rfl) (of_decide_eq_true (by kernel_rfl)) (by kernel_rfl)
def cd89:Cd:=(.seq (.reg [⟨⟨some 1,.box 38 (.tmp 0),none⟩,[]⟩,⟨⟨some 2,.assign (.const (.bool false)),none⟩,[]⟩]) (.seq (.seq (.reg [⟨⟨some 5,.fieldAddr 38 (.tmp 1) 0,none⟩,[]⟩,⟨⟨some 6,.load 36 (.tmp 5),none⟩,[]⟩,⟨⟨some 7,.call ⟨(.builtin .len),#[.tmp 6],#[36]⟩,none⟩,[]⟩,⟨⟨some 8,.binOp .gtr 3 (.tmp 7) (.const (.int .i64 300)) 3,none⟩,[]⟩,⟨⟨some 9,.move (.tmp 8),none⟩,[]⟩,⟨⟨some 10,.fieldAddr 38 (.tmp 1) 1,some (9,false)⟩,[]⟩,⟨⟨some 11,.load 24 (.tmp 10),some (9,false)⟩,[]⟩,⟨⟨some 12,.call ⟨(.builtin .len),#[.tmp 11],#[24]⟩,some (9,false)⟩,[]⟩,⟨⟨some 13,.binOp .gtr 3 (.tmp 12) (.const (.int .i64 6000)) 3,some (9,false)⟩,[]⟩,⟨⟨some 14,.pick (.tmp 9) (.const (.bool true)) (.tmp 13),none⟩,[]⟩]) (.cond (.tmp 14) (.seq (.reg [⟨⟨some 2,.assign (.const (.bool false)),none⟩,[]⟩]) .ret) .skip)) (.seq (.seq (.reg [⟨⟨some 15,.fieldAddr 38 (.tmp 1) 0,none⟩,[]⟩,⟨⟨some 16,.load 36 (.tmp 15),none⟩,[]⟩,
 ⟨⟨some 17,.call ⟨(.builtin .len),#[.tmp 16],#[36]⟩,none⟩,[]⟩,⟨⟨some 18,.move (.const (.int .i64 0)),none⟩,[]⟩]) (.block 0 (.loop (.seq (.reg [⟨⟨some 19,.binOp .lss 3 (.tmp 18) (.tmp 17) 3,none⟩,[]⟩]) (.seq (.cond (.tmp 19) .skip (.exit 0)) (.seq (.block 1 (.seq (.reg [⟨⟨some 20,.move (.tmp 18),none⟩,[]⟩,⟨⟨some 21,.indexAddr 36 (.tmp 16) (.tmp 18),none⟩,[]⟩,⟨⟨some 22,.load 27 (.tmp 21),none⟩,[]⟩,⟨⟨some 3,.assign (.tmp 20),none⟩,[]⟩,⟨⟨some 4,.assign (.tmp 22),none⟩,[]⟩]) (.seq (.reg [⟨⟨some 23,.move (.tmp 4),none⟩,[]⟩,⟨⟨some 24,.call ⟨(.value (.func 170)),#[.tmp 23],#[27]⟩,none⟩,[]⟩,⟨⟨some 25,.unOp .not 4 (.tmp 24),none⟩,[]⟩,⟨⟨some 26,.move (.tmp 25),none⟩,[]⟩,⟨⟨some 27,.move (.tmp 3),some (26,false)⟩,[]⟩,⟨⟨some 28,.binOp .gtr 3 (.tmp 27) (.const (.int .i64 0)) 3,some (26,false)⟩,[]⟩,⟨⟨some 29,.move (.tmp 28),some (26,false)⟩,[]⟩,
 ⟨⟨some 30,.fieldAddr 38 (.tmp 1) 0,some (29,true)⟩,[]⟩,⟨⟨some 31,.load 36 (.tmp 30),some (29,true)⟩,[]⟩,⟨⟨some 32,.move (.tmp 3),some (29,true)⟩,[]⟩,⟨⟨some 33,.binOp .sub 3 (.tmp 32) (.const (.int .i64 1)) 3,some (29,true)⟩,[]⟩,⟨⟨some 34,.indexAddr 36 (.tmp 31) (.tmp 33),some (29,true)⟩,[]⟩,⟨⟨some 35,.load 27 (.tmp 34),some (29,true)⟩,[]⟩,⟨⟨some 36,.move (.tmp 4),some (29,true)⟩,[]⟩,⟨⟨some 37,.call ⟨(.value (.func 166)),#[.tmp 35,.tmp 36],#[27,27]⟩,some (29,true)⟩,[]⟩,⟨⟨some 38,.binOp .geq 3 (.tmp 37) (.const (.int .i64 0)) 3,some (29,true)⟩,[]⟩,⟨⟨some 39,.pick (.tmp 29) (.tmp 38) (.const (.bool false)),some (26,false)⟩,[]⟩,⟨⟨some 40,.pick (.tmp 26) (.const (.bool true)) (.tmp 39),none⟩,[]⟩]) (.cond (.tmp 40) (.seq (.reg [⟨⟨some 2,.assign (.const (.bool false)),none⟩,[]⟩]) .ret) .skip)))) (.reg [⟨⟨some 41,.binOp .add 3 (.tmp 18) (.const (.int .i64 1)) 3,none⟩,[]⟩,⟨⟨some 18,.move (.tmp 41),none⟩,[]⟩]))))))) (.seq (.reg [⟨⟨some 42,.fieldAddr 38 (.tmp 1) 1,none⟩,[]⟩,
 ⟨⟨some 43,.load 24 (.tmp 42),none⟩,[]⟩,
  ⟨⟨some 44,.fieldAddr 38 (.tmp 1) 0,none⟩,[]⟩,
  ⟨⟨some 45,.load 36 (.tmp 44),none⟩,[]⟩,
  ⟨⟨some 46,.call ⟨(.builtin .len),#[.tmp 45],#[36]⟩,none⟩,[]⟩,
  ⟨⟨some 47,.call ⟨(.value (.func 164)),#[.tmp 43,.tmp 46],#[24,3]⟩,none⟩,[]⟩,
  ⟨⟨some 2,.assign (.tmp 47),none⟩,[]⟩]) .ret))))
theorem in89:InT Tryz.prog 89 1 [.tmp 2] cd89:=InT.mk (by kernel_rfl) [] Tryz.func89 rfl (by kernel_rfl) (by kernel_rfl) (of_decide_eq_true (by kernel_rfl)) (by kernel_rfl)
def cd90:Cd:=(.seq (.reg [⟨⟨some 2,.box 38 (.tmp 0),none⟩,[]⟩,
  ⟨⟨some 4,.assign (.const (.bool false)),none⟩,[]⟩]) (.seq (.reg [⟨⟨some 5,.move (.tmp 1),none⟩,[]⟩,
  ⟨⟨some 6,.fieldAddr 38 (.tmp 2) 0,none⟩,[]⟩,
  ⟨⟨some 7,.load 36 (.tmp 6),none⟩,[]⟩,
  ⟨⟨some 8,.call ⟨(.builtin .len),#[.tmp 7],#[36]⟩,none⟩,[]⟩,
  ⟨⟨some 9,.binOp .sub 3 (.tmp 8) (.const (.int .i64 1)) 3,none⟩,[]⟩,
  ⟨⟨some 10,.call ⟨(.value (.func 113)),#[.tmp 5,(.const (.int .i64 0)),.tmp 9],#[3,3,3]⟩,none⟩,[]⟩,
  ⟨⟨some 4,.assign (.tmp 10),none⟩,[]⟩]) .ret))
theorem in90:InT Tryz.prog 90 2 [.tmp 4] cd90:=InT.mk (by kernel_rfl) [] Tryz.func90 rfl (by kernel_rfl) (by kernel_rfl) (of_decide_eq_true (by kernel_rfl)) (by kernel_rfl)
def cd20:Cd:=(.seq (.reg [⟨⟨some 2,.box 38 (.tmp 0),none⟩,[]⟩,⟨⟨some 4,.assign (.const (.slice none 0 0)),none⟩,[]⟩,⟨⟨some 5,.assign (.const (.bool false)),none⟩,[]⟩]) (.seq (.seq (.reg [⟨⟨some 6,.load 38 (.tmp 2),none⟩,[]⟩,⟨⟨some 7,.call ⟨(.value (.func 89)),#[.tmp 6],#[38]⟩,none⟩,[]⟩,⟨⟨some 8,.unOp .not 4 (.tmp 7),none⟩,[]⟩,⟨⟨some 9,.move (.tmp 8),none⟩,[]⟩,⟨⟨some 10,.load 38 (.tmp 2),some (9,false)⟩,[]⟩,⟨⟨some 11,.move (.tmp 1),some (9,false)⟩,[]⟩,⟨⟨some 12,.call ⟨(.value (.func 90)),#[.tmp 10,.tmp 11],#[38,3]⟩,some (9,false)⟩,[]⟩,⟨⟨some 13,.unOp .not 4 (.tmp 12),some (9,false)⟩,[]⟩,⟨⟨some 14,.pick (.tmp 9) (.const (.bool true)) (.tmp 13),none⟩,[]⟩]) (.cond (.tmp 14) (.seq (.reg [⟨⟨some 4,.assign (.const (.slice none 0 0)),none⟩,[]⟩,⟨⟨some 5,.assign (.const (.bool false)),none⟩,[]⟩]) .ret) .skip)) (.seq (.reg [⟨⟨some 15,.load 38 (.tmp 2),none⟩,[]⟩,
 ⟨⟨some 16,.call ⟨(.value (.func 91)),#[.tmp 15],#[38]⟩,none⟩,[]⟩,
  ⟨⟨some 17,.move (.tmp 1),none⟩,[]⟩,
  ⟨⟨some 18,.call ⟨(.value (.func 74)),#[.tmp 16,.tmp 17],#[36,3]⟩,none⟩,[]⟩,
  ⟨⟨some 4,.assign (.tmp 18),none⟩,[]⟩,
  ⟨⟨some 5,.assign (.const (.bool true)),none⟩,[]⟩]) .ret)))
theorem in20:InT Tryz.prog 20 2 [.tmp 4,.tmp 5] cd20:=InT.mk (by kernel_rfl) [] Tryz.func20 rfl (by kernel_rfl) (by kernel_rfl) (of_decide_eq_true (by kernel_rfl)) (by kernel_rfl)
end Go.Proofs.YtjnefjchconebaaGreat.Ai
namespace Go.Proofs.YtjnefjchconebaaGreat.Ai
open Go Go.RowKit
theorem isState1_c (y:Int)(H:AH):ACalls Tryz.prog 209 [.int .i64 y] H fun r H'=>r=.bool (!decide (-99<=y/\y<=99))/\H=H':=by
  refine in209 rfl ?_
  intro Q hQ
  simp (maxSteps:=1000000) (disch:=omega) only [cd209,SS,eq_self,reduceIte,reduceCtorEq,Nat.reduceEqDiff,Nat.reduceAdd]
  refine CallH.by (between_c y (-99) 99 H) ?_
  rintro _ _ ⟨rfl,rfl⟩
  simp (maxSteps:=1000000) (disch:=omega) only [SS,eq_self,reduceIte,reduceCtorEq,Nat.reduceEqDiff,Nat.reduceAdd]
  refine hQ _ _ _ ?_
  simp (maxSteps:=1000000) (disch:=omega) only [SS,eq_self,reduceIte,reduceCtorEq,Nat.reduceEqDiff,Nat.reduceAdd]
theorem isState_c (v:Value)(xs:List Int)(H:AH)(hr:Row 3 H v xs)(hl:xs.length<=24)(hx:∀ y ∈ xs,-99<=y/\y<=99) :
    ACalls Tryz.prog 170 [v] H fun r H'=>r=.bool true/\H=H':=by
  refine in170 rfl ?_
  intro Q hQ
  have e1:((xs.length:Nat):Int)<=24:=by omega
  simp (maxSteps:=1000000) (disch:=omega) only [cd170,hr.len Tryz.underlying27,decide_eq_true e1,SS,eq_self,reduceIte,reduceCtorEq,Nat.reduceEqDiff,Nat.reduceAdd]
  refine CallH.by (ContainsFunc_c v xs (fun y=>!decide (-99<=y/\y<=99)) 209 [] H hr (by omega) fun y _=>isState1_c y H) ?_
  rintro _ _ ⟨rfl,rfl⟩
  have:xs.any (fun y=>!decide (-99<=y/\y<=99))=false:=by
    rw [List.any_eq_false]
    intro y hy
    simp [hx y hy]
  rw [this]
  simp (maxSteps:=1000000) (disch:=omega) only [SS,eq_self,reduceIte,reduceCtorEq,Nat.reduceEqDiff,Nat.reduceAdd]
  refine hQ _ _ _ ?_
  simp (maxSteps:=1000000) (disch:=omega) only [SS,eq_self,reduceIte,reduceCtorEq,Nat.reduceEqDiff,Nat.reduceAdd]
theorem isSpaceT_c {a b:Value}{us:List Value}{ls:List (List Int)}{ps:List (Int × Int)}{H:AH}(hr:SpRow H a b ls ps)(h:Sts H a us ls)(hn:ls.length<=300)(hp:ps.length<=6000)(hst:∀ l ∈ ls,l.length<=24/\∀ y ∈ l,-99<=y/\y<=99)(hps:PrU ls.length ps ps.length) :
    ACalls Tryz.prog 89 [.agg (List.toArray [a,b])] H fun r H'=>r=.bool true/\H<+:H':=by
  refine in89 rfl ?_
  intro Q hQ
  simp (maxSteps:=1000000) (disch:=omega) only [cd89,hr.box,SS,eq_self,reduceIte,reduceCtorEq,Nat.reduceEqDiff,Nat.reduceAdd]
  generalize hA:H ++ [AObj.cells [a,b] 38 false]=A
  have pA:H<+:A:=by rw [<- hA];exact List.prefix_append _ _
  have cA:A[H.length]?=some (.cells [a,b] 38 false):=by rw [<- hA];exact at_new ..
  have hA2:=h.pre pA
  have rb:=hr.2.pre pA
  have hul:=h.len
  have e1:¬ (300:Int)<(ls.length:Int):=by omega
  have e2:¬ (6000:Int)<(ps.length:Int):=by omega
  simp (maxSteps:=1000000) (disch:=omega) only [cell_of cA,hA2.row.len Tryz.underlying36,hul,rb.len Tryz.underlying24,decide_eq_false e1,decide_eq_false e2,SS,eq_self,reduceIte,reduceCtorEq,Nat.reduceEqDiff,Nat.reduceAdd]
  refine LoopH.by (fun m s H'=>∃ i:Nat,m+i=ls.length/\s 1=.pointer (some ⟨H.length,0,none⟩)/\s 16=a/\s 17=.int .i64 (ls.length:Int)/\s 18=.int .i64 (i:Int)/\A=H') ls.length ?_ ?_
  . exact ⟨0,by simp,rfl,rfl,rfl,rfl,rfl⟩
  rintro m s _ ⟨i,hm,s1,s16,s17,s18,rfl⟩
  simp (maxSteps:=1000000) (disch:=omega) only [s1,s16,s17,s18,SS,eq_self,reduceIte,reduceCtorEq,Nat.reduceEqDiff,Nat.reduceAdd]
  refine brD.intro (fun g=>?_) (fun g=>?_)
  rotate_left
  . simp (maxSteps:=1000000) (disch:=omega) only [s1,s16,s17,s18,cell_of cA,hA2.row.len Tryz.underlying36,hul,SS,eq_self,reduceIte,reduceCtorEq,Nat.reduceEqDiff,Nat.reduceAdd]
    refine CallH.by (isPairsN_c b (ls.length:Int) ps A rb (by omega)) ?_
    rintro _ B ⟨rfl,pB⟩
    simp (maxSteps:=1000000) (disch:=omega) only [decide_eq_true hps,SS,eq_self,reduceIte,reduceCtorEq,Nat.reduceEqDiff,Nat.reduceAdd]
    refine hQ _ _ _ ?_
    simp (maxSteps:=1000000) (disch:=omega) only [decide_eq_true hps,SS,eq_self,reduceIte,reduceCtorEq,Nat.reduceEqDiff,Nat.reduceAdd]
    exact pA.trans pB
  have hi:i<ls.length:=by omega
  have hmem:ls.getD i [] ∈ ls:=by simp [hi]
  have hci:=hA2.row.cell (show i<us.length by omega)
  simp (maxSteps:=1000000) (disch:=omega) only [s1,s16,s17,s18,hA2.row.ix Tryz.underlying36 cs27,hul,Int.toNat_natCast,hci,SS,eq_self,reduceIte,reduceCtorEq,Nat.reduceEqDiff,Nat.reduceAdd]
  have hti:=(hA2.each i hi).tup
  refine CallH.by (isState_c _ _ A (hA2.each i hi) (hst _ hmem).1 (hst _ hmem).2) ?_
  rintro _ _ ⟨rfl,rfl⟩
  simp (maxSteps:=1000000) (disch:=omega) only [s1,s16,s17,s18,SS,eq_self,reduceIte,reduceCtorEq,Nat.reduceEqDiff,Nat.reduceAdd]
  by_cases h0:(0:Int)<(i:Int)
  rotate_left
  . simp (maxSteps:=1000000) (disch:=omega) only [s1,s16,s17,s18,decide_eq_false h0,wrap64,SS,eq_self,reduceIte,reduceCtorEq,Nat.reduceEqDiff,Nat.reduceAdd]
    refine ⟨m - 1,by omega,i+1,?_⟩
    (repeat' first | exact s1 | apply And.intro) <;> first | (simp only [Value.int.injEq,true_and];omega) | omega | rfl | assumption | (simp;done) | (simp;omega)
  have hcj:=hA2.row.cell (show i - 1<us.length by omega)
  have hw:IntKind.i64.wrap ((i:Int) - 1)=((i - 1:Nat):Int):=by rw [wrap64 (by omega) (by omega)];omega
  simp (maxSteps:=1000000) (disch:=omega) only [s1,s16,s17,s18,decide_eq_true h0,cell_of cA,hw,hA2.row.ix Tryz.underlying36 cs27,hul,Int.toNat_natCast,hcj,SS,eq_self,reduceIte,reduceCtorEq,Nat.reduceEqDiff,Nat.reduceAdd]
  refine CallH.by (CmpL_c _ _ _ _ A (hA2.each (i - 1) (by omega)) (hA2.each i hi) (h.small (i - 1) (by omega)) (h.small i hi)) ?_
  rintro _ _ ⟨rfl,rfl⟩
  have hc:¬ (0:Int)<=cmpL (ls.getD (i - 1) []) (ls.getD i []):=by
    have:=h.srt (i - 1) i (by omega) hi
    rw [cmpL_swap] at this
    omega
  simp (maxSteps:=1000000) (disch:=omega) only [s1,s16,s17,s18,decide_eq_false hc,wrap64,SS,eq_self,reduceIte,reduceCtorEq,Nat.reduceEqDiff,Nat.reduceAdd]
  refine ⟨m - 1,by omega,i+1,?_⟩
  (repeat' first | exact s1 | apply And.intro) <;> first | (simp only [Value.int.injEq,true_and];omega) | omega | rfl | assumption | (simp;done) | (simp;omega)
theorem isPlace_c {a b:Value}{us:List Value}{ls:List (List Int)}{ps:List (Int × Int)}{H:AH}(hr:SpRow H a b ls ps)(h:Sts H a us ls)(i:Int) :
    ACalls Tryz.prog 90 [.agg (List.toArray [a,b]),.int .i64 i] H fun r H'=>r=.bool (decide (0<=i/\i<=(ls.length:Int) - 1))/\H<+:H':=by
  refine in90 rfl ?_
  intro Q hQ
  have hb:=h.bnd
  simp (maxSteps:=1000000) (disch:=omega) only [cd90,hr.box,SS,eq_self,reduceIte,reduceCtorEq,Nat.reduceEqDiff,Nat.reduceAdd]
  generalize hA:H ++ [AObj.cells [a,b] 38 false]=A
  have pA:H<+:A:=by rw [<- hA];exact List.prefix_append _ _
  have cA:A[H.length]?=some (.cells [a,b] 38 false):=by rw [<- hA];exact at_new ..
  have hul:=h.len
  simp (maxSteps:=1000000) (disch:=omega) only [cell_of cA,(h.pre pA).row.len Tryz.underlying36,hul,wrap64,SS,eq_self,reduceIte,reduceCtorEq,Nat.reduceEqDiff,Nat.reduceAdd]
  refine CallH.by (between_c i 0 ((ls.length:Int) - 1) A) ?_
  rintro _ _ ⟨rfl,rfl⟩
  simp (maxSteps:=1000000) (disch:=omega) only [SS,eq_self,reduceIte,reduceCtorEq,Nat.reduceEqDiff,Nat.reduceAdd]
  refine hQ _ _ _ ?_
  simp (maxSteps:=1000000) (disch:=omega) only [SS,eq_self,reduceIte,reduceCtorEq,Nat.reduceEqDiff,Nat.reduceAdd]
  exact pA
theorem DistI_c {a b:Value}{us:List Value}{ls:List (List Int)}{ps:List (Int × Int)}{H:AH}(hr:SpRow H a b ls ps)(h:Sts H a us ls)(hn:ls.length<=300)(hp:ps.length<=6000)(hst:∀ l ∈ ls,l.length<=24/\∀ y ∈ l,-99<=y/\y<=99)(hpu:PrU ls.length ps ps.length)(hps:StpOk ls.length ps)(hdeg:∀ x,(nbS ps x).length<=12){i:Nat}(hi:i<ls.length) :
    ACalls Tryz.prog 20 [.agg (List.toArray [a,b]),.int .i64 (i:Int)] H fun r H'=>∃ g,r=.tuple (List.toArray [g,.bool true])/\Own 3 H H' g (bfs (rdS ls.length ps) i)/\H<+:H':=by
  refine in20 rfl ?_
  intro Q hQ
  simp (maxSteps:=1000000) (disch:=omega) only [cd20,hr.box,SS,eq_self,reduceIte,reduceCtorEq,Nat.reduceEqDiff,Nat.reduceAdd]
  generalize hA:H ++ [AObj.cells [a,b] 38 false]=A
  have pA:H<+:A:=by rw [<- hA];exact List.prefix_append _ _
  have cA:A[H.length]?=some (.cells [a,b] 38 false):=by rw [<- hA];exact at_new ..
  simp (maxSteps:=1000000) (disch:=omega) only [ld_agg ag38 cs38 cA,SS,eq_self,reduceIte,reduceCtorEq,Nat.reduceEqDiff,Nat.reduceAdd]
  refine CallH.by (isSpaceT_c (hr.pre pA) (h.pre pA) hn hp hst hpu) ?_
  rintro _ B ⟨rfl,pB⟩
  have cB:=pre_at pB cA
  simp (maxSteps:=1000000) (disch:=omega) only [ld_agg ag38 cs38 cB,SS,eq_self,reduceIte,reduceCtorEq,Nat.reduceEqDiff,Nat.reduceAdd]
  refine CallH.by (isPlace_c ((hr.pre pA).pre pB) ((h.pre pA).pre pB) (i:Int)) ?_
  rintro _ C ⟨rfl,pC⟩
  have cC:=pre_at pC cB
  simp (maxSteps:=1000000) (disch:=omega) only [decide_eq_true (show (0:Int)<=i/\(i:Int)<=(ls.length:Int) - 1 by omega),ld_agg ag38 cs38 cC,SS,eq_self,reduceIte,reduceCtorEq,Nat.reduceEqDiff,Nat.reduceAdd]
  refine CallH.by (spRoads_c a b ls ps C (((hr.pre pA).pre pB).pre pC) (by omega) (by omega) hps hdeg) ?_
  rintro rv D ⟨⟨bd,hD⟩,pD⟩
  try simp (maxSteps:=1000000) (disch:=omega) only [SS,eq_self,reduceIte,reduceCtorEq,Nat.reduceEqDiff,Nat.reduceAdd]
  refine CallH.by (spread_c rv (rdS ls.length ps) i D hD (rdS_ok hps) (by rw [rdS_len];omega) (by rw [rdS_len];exact hi) (fun x=>?_)) ?_
  . by_cases hx:x<ls.length
    . have e:(rdS ls.length ps).getD x []=nbS ps (x:Int):=by unfold rdS;simp [hx]
      rw [e]
      have:=hdeg (x:Int)
      omega
    . have e:(rdS ls.length ps).getD x []=[]:=by unfold rdS;simp [hx]
      rw [e]
      simp
  rintro g E ⟨hg,pE⟩
  have hgt:=hg.row.tup
  try simp (maxSteps:=1000000) (disch:=omega) only [hgt,SS,eq_self,reduceIte,reduceCtorEq,Nat.reduceEqDiff,Nat.reduceAdd]
  refine hQ _ _ _ ?_
  try simp (maxSteps:=1000000) (disch:=omega) only [hgt,SS,eq_self,reduceIte,reduceCtorEq,Nat.reduceEqDiff,Nat.reduceAdd]
  have pp:=pA.trans (pB.trans (pC.trans pD))
  exact ⟨g,rfl,own_base hg pp.length_le,pp.trans pE⟩
def cd244:Cd:=(.seq (.reg [⟨⟨some 2,.assign (.const (.bool false)),none⟩,[]⟩]) (.seq (.seq (.reg [⟨⟨some 3,.assign (.const (.int .i64 0)),none⟩,[]⟩]) (.block 0 (.loop (.seq (.seq (.reg [⟨⟨some 4,.move (.tmp 3),none⟩,[]⟩,⟨⟨some 5,.move (.tmp 0),none⟩,[]⟩,⟨⟨some 6,.call ⟨(.builtin .len),#[.tmp 5],#[27]⟩,none⟩,[]⟩,⟨⟨some 7,.binOp .lss 3 (.tmp 4) (.tmp 6) 3,none⟩,[]⟩]) (.cond (.tmp 7) .skip (.exit 0))) (.seq (.block 1 (.seq (.reg [⟨⟨some 10,.move (.tmp 0),none⟩,[]⟩,⟨⟨some 11,.move (.tmp 3),none⟩,[]⟩,⟨⟨some 12,.indexAddr 27 (.tmp 10) (.tmp 11),none⟩,[]⟩,⟨⟨some 13,.load 3 (.tmp 12),none⟩,[]⟩,⟨⟨some 14,.call ⟨(.value (.func 119)),#[.tmp 13,(.const (.int .i64 (-99))),(.const (.int .i64 99))],#[3,3,3]⟩,none⟩,[]⟩,⟨⟨some 15,.unOp .not 4 (.tmp 14),none⟩,[]⟩]) (.cond (.tmp 15) (.seq (.reg [⟨⟨some 2,.assign (.const (.bool false)),none⟩,[]⟩]) .ret) .skip))) (.reg [⟨⟨some 8,.move (.tmp 3),none⟩,[]⟩,⟨⟨some 9,.binOp .add 3 (.tmp 8) (.const (.int .i64 1)) 3,none⟩,[]⟩,⟨⟨some 3,.assign (.tmp 9),none⟩,[]⟩])))))) (.seq (.reg [⟨⟨some 16,.move (.tmp 0),none⟩,[]⟩,⟨⟨some 17,.call ⟨(.builtin .len),#[.tmp 16],#[27]⟩,none⟩,[]⟩,
 ⟨⟨some 18,.binOp .leq 3 (.tmp 17) (.const (.int .i64 24)) 3,none⟩,[]⟩,
  ⟨⟨some 2,.assign (.tmp 18),none⟩,[]⟩]) .ret)))
theorem in244:InT Tryz.prog 244 1 [.tmp 2] cd244:=InT.mk (by kernel_rfl) [] Tryz.func244 rfl (by kernel_rfl) (by kernel_rfl) (of_decide_eq_true (by kernel_rfl)) (by kernel_rfl)
def cd245:Cd:=(.seq (.reg [⟨⟨some 4,.assign (.const (.bool false)),none⟩,[]⟩]) (.seq (.seq (.reg [⟨⟨some 5,.assign (.const (.int .i64 0)),none⟩,[]⟩]) (.block 0 (.loop (.seq (.seq (.reg [⟨⟨some 6,.move (.tmp 5),none⟩,[]⟩,⟨⟨some 7,.move (.tmp 0),none⟩,[]⟩,⟨⟨some 8,.call ⟨(.builtin .len),#[.tmp 7],#[27]⟩,none⟩,[]⟩,⟨⟨some 9,.binOp .lss 3 (.tmp 6) (.tmp 8) 3,none⟩,[]⟩,⟨⟨some 10,.move (.tmp 9),none⟩,[]⟩,⟨⟨some 11,.move (.tmp 5),some (10,true)⟩,[]⟩,⟨⟨some 12,.move (.tmp 1),some (10,true)⟩,[]⟩,⟨⟨some 13,.call ⟨(.builtin .len),#[.tmp 12],#[27]⟩,some (10,true)⟩,[]⟩,⟨⟨some 14,.binOp .lss 3 (.tmp 11) (.tmp 13) 3,some (10,true)⟩,[]⟩,⟨⟨some 15,.pick (.tmp 10) (.tmp 14) (.const (.bool false)),none⟩,[]⟩]) (.cond (.tmp 15) .skip (.exit 0))) (.seq (.block 1 (.seq (.reg [⟨⟨some 18,.move (.tmp 0),none⟩,[]⟩,⟨⟨some 19,.move (.tmp 5),none⟩,[]⟩,⟨⟨some 20,.indexAddr 27 (.tmp 18) (.tmp 19),none⟩,[]⟩,
 ⟨⟨some 21,.load 3 (.tmp 20),none⟩,[]⟩,⟨⟨some 22,.move (.tmp 1),none⟩,[]⟩,⟨⟨some 23,.move (.tmp 5),none⟩,[]⟩,⟨⟨some 24,.indexAddr 27 (.tmp 22) (.tmp 23),none⟩,[]⟩,⟨⟨some 25,.load 3 (.tmp 24),none⟩,[]⟩,⟨⟨some 26,.binOp .neq 3 (.tmp 21) (.tmp 25) 3,none⟩,[]⟩]) (.cond (.tmp 26) (.seq (.reg [⟨⟨some 27,.move (.tmp 0),none⟩,[]⟩,⟨⟨some 28,.move (.tmp 5),none⟩,[]⟩,⟨⟨some 29,.indexAddr 27 (.tmp 27) (.tmp 28),none⟩,[]⟩,⟨⟨some 30,.load 3 (.tmp 29),none⟩,[]⟩,⟨⟨some 31,.move (.tmp 1),none⟩,[]⟩,⟨⟨some 32,.move (.tmp 5),none⟩,[]⟩,⟨⟨some 33,.indexAddr 27 (.tmp 31) (.tmp 32),none⟩,[]⟩,
 ⟨⟨some 34,.load 3 (.tmp 33),none⟩,[]⟩,
  ⟨⟨some 35,.binOp .lss 3 (.tmp 30) (.tmp 34) 3,none⟩,[]⟩,
  ⟨⟨some 4,.assign (.tmp 35),none⟩,[]⟩]) .ret) .skip))) (.reg [⟨⟨some 16,.move (.tmp 5),none⟩,[]⟩,
  ⟨⟨some 17,.binOp .add 3 (.tmp 16) (.const (.int .i64 1)) 3,none⟩,[]⟩,
  ⟨⟨some 5,.assign (.tmp 17),none⟩,[]⟩])))))) (.seq (.reg [⟨⟨some 36,.move (.tmp 0),none⟩,[]⟩,
  ⟨⟨some 37,.call ⟨(.builtin .len),#[.tmp 36],#[27]⟩,none⟩,[]⟩,
  ⟨⟨some 38,.move (.tmp 1),none⟩,[]⟩,
  ⟨⟨some 39,.call ⟨(.builtin .len),#[.tmp 38],#[27]⟩,none⟩,[]⟩,
  ⟨⟨some 40,.binOp .lss 3 (.tmp 37) (.tmp 39) 3,none⟩,[]⟩,
  ⟨⟨some 4,.assign (.tmp 40),none⟩,[]⟩]) .ret)))
theorem in245:InT Tryz.prog 245 2 [.tmp 4] cd245:=InT.mk (by kernel_rfl) [(4,[(0,false),(1,false),(2,false),(3,false),(4,false),(5,false),(6,false),(7,false),(8,false)]),(5,[(0,false),(1,false),(2,false),(3,false),(4,false),(5,false),(6,false),(7,false),(8,false),(9,false)])] Tryz.func245 rfl (by kernel_rfl) (by kernel_rfl) (of_decide_eq_true (by kernel_rfl)) (by kernel_rfl)
def cd225:Cd:=(.seq (.reg [⟨⟨some 1,.box 38 (.tmp 0),none⟩,[]⟩,⟨⟨some 2,.assign (.const (.bool false)),none⟩,[]⟩]) (.seq (.seq (.reg [⟨⟨some 4,.fieldAddr 38 (.tmp 1) 0,none⟩,[]⟩,⟨⟨some 5,.load 36 (.tmp 4),none⟩,[]⟩,⟨⟨some 6,.call ⟨(.builtin .len),#[.tmp 5],#[36]⟩,none⟩,[]⟩,⟨⟨some 7,.binOp .gtr 3 (.tmp 6) (.const (.int .i64 300)) 3,none⟩,[]⟩,⟨⟨some 8,.move (.tmp 7),none⟩,[]⟩,⟨⟨some 9,.fieldAddr 38 (.tmp 1) 1,some (8,false)⟩,[]⟩,⟨⟨some 10,.load 24 (.tmp 9),some (8,false)⟩,[]⟩,⟨⟨some 11,.call ⟨(.builtin .len),#[.tmp 10],#[24]⟩,some (8,false)⟩,[]⟩,⟨⟨some 12,.binOp .gtr 3 (.tmp 11) (.const (.int .i64 6000)) 3,some (8,false)⟩,[]⟩,⟨⟨some 13,.pick (.tmp 8) (.const (.bool true)) (.tmp 12),none⟩,[]⟩]) (.cond (.tmp 13) (.seq (.reg [⟨⟨some 2,.assign (.const (.bool false)),none⟩,[]⟩]) .ret) .skip)) (.seq (.seq (.reg [⟨⟨some 3,.assign (.const (.int .i64 0)),none⟩,[]⟩]) (.block 0 (.loop (.seq (.seq (.reg [⟨⟨some 14,.move (.tmp 3),none⟩,[]⟩,⟨⟨some 15,.fieldAddr 38 (.tmp 1) 0,none⟩,[]⟩,
 ⟨⟨some 16,.load 36 (.tmp 15),none⟩,[]⟩,⟨⟨some 17,.call ⟨(.builtin .len),#[.tmp 16],#[36]⟩,none⟩,[]⟩,⟨⟨some 18,.binOp .lss 3 (.tmp 14) (.tmp 17) 3,none⟩,[]⟩]) (.cond (.tmp 18) .skip (.exit 0))) (.seq (.block 1 (.seq (.reg [⟨⟨some 21,.fieldAddr 38 (.tmp 1) 0,none⟩,[]⟩,⟨⟨some 22,.load 36 (.tmp 21),none⟩,[]⟩,⟨⟨some 23,.move (.tmp 3),none⟩,[]⟩,⟨⟨some 24,.indexAddr 36 (.tmp 22) (.tmp 23),none⟩,[]⟩,⟨⟨some 25,.load 27 (.tmp 24),none⟩,[]⟩,⟨⟨some 26,.call ⟨(.value (.func 244)),#[.tmp 25],#[27]⟩,none⟩,[]⟩,⟨⟨some 27,.unOp .not 4 (.tmp 26),none⟩,[]⟩,⟨⟨some 28,.move (.tmp 27),none⟩,[]⟩,⟨⟨some 29,.move (.tmp 3),some (28,false)⟩,[]⟩,⟨⟨some 30,.binOp .gtr 3 (.tmp 29) (.const (.int .i64 0)) 3,some (28,false)⟩,[]⟩,
 ⟨⟨some 31,.move (.tmp 30),some (28,false)⟩,[]⟩,⟨⟨some 32,.fieldAddr 38 (.tmp 1) 0,some (31,true)⟩,[]⟩,⟨⟨some 33,.load 36 (.tmp 32),some (31,true)⟩,[]⟩,⟨⟨some 34,.move (.tmp 3),some (31,true)⟩,[]⟩,⟨⟨some 35,.binOp .sub 3 (.tmp 34) (.const (.int .i64 1)) 3,some (31,true)⟩,[]⟩,⟨⟨some 36,.indexAddr 36 (.tmp 33) (.tmp 35),some (31,true)⟩,[]⟩,⟨⟨some 37,.load 27 (.tmp 36),some (31,true)⟩,[]⟩,⟨⟨some 38,.fieldAddr 38 (.tmp 1) 0,some (31,true)⟩,[]⟩,⟨⟨some 39,.load 36 (.tmp 38),some (31,true)⟩,[]⟩,⟨⟨some 40,.move (.tmp 3),some (31,true)⟩,[]⟩,⟨⟨some 41,.indexAddr 36 (.tmp 39) (.tmp 40),some (31,true)⟩,[]⟩,⟨⟨some 42,.load 27 (.tmp 41),some (31,true)⟩,[]⟩,
 ⟨⟨some 43,.call ⟨(.value (.func 245)),#[.tmp 37,.tmp 42],#[27,27]⟩,some (31,true)⟩,[]⟩,
  ⟨⟨some 44,.unOp .not 4 (.tmp 43),some (31,true)⟩,[]⟩,
  ⟨⟨some 45,.pick (.tmp 31) (.tmp 44) (.const (.bool false)),some (28,false)⟩,[]⟩,
  ⟨⟨some 46,.pick (.tmp 28) (.const (.bool true)) (.tmp 45),none⟩,[]⟩]) (.cond (.tmp 46) (.seq (.reg [⟨⟨some 2,.assign (.const (.bool false)),none⟩,[]⟩]) .ret) .skip))) (.reg [⟨⟨some 19,.move (.tmp 3),none⟩,[]⟩,
  ⟨⟨some 20,.binOp .add 3 (.tmp 19) (.const (.int .i64 1)) 3,none⟩,[]⟩,
  ⟨⟨some 3,.assign (.tmp 20),none⟩,[]⟩])))))) (.seq (.reg [⟨⟨some 47,.fieldAddr 38 (.tmp 1) 1,none⟩,[]⟩,
  ⟨⟨some 48,.load 24 (.tmp 47),none⟩,[]⟩,
  ⟨⟨some 49,.fieldAddr 38 (.tmp 1) 0,none⟩,[]⟩,
  ⟨⟨some 50,.load 36 (.tmp 49),none⟩,[]⟩,
  ⟨⟨some 51,.call ⟨(.builtin .len),#[.tmp 50],#[36]⟩,none⟩,[]⟩,
  ⟨⟨some 52,.call ⟨(.value (.func 158)),#[.tmp 48,.tmp 51],#[24,3]⟩,none⟩,[]⟩,
  ⟨⟨some 2,.assign (.tmp 52),none⟩,[]⟩]) .ret))))
theorem in225:InT Tryz.prog 225 1 [.tmp 2] cd225:=InT.mk (by kernel_rfl) [(6,[(0,false),(1,false),(2,false),(3,false),(4,false),(5,true),(6,false),(7,false),(8,false),(9,false),(10,false),(11,false),(12,false),(13,false),(14,false),(15,false),(16,false),(17,false),(18,false),(19,false),(20,false),(21,false),(22,true),(23,false),(24,false),(25,false)])] Tryz.func225 rfl (by kernel_rfl) (by kernel_rfl) (of_decide_eq_true (by kernel_rfl)) (by kernel_rfl)
def cd195:Cd:=(.seq (.reg [⟨⟨some 2,.box 38 (.tmp 0),none⟩,[]⟩,
  ⟨⟨some 4,.assign (.const (.bool false)),none⟩,[]⟩]) (.seq (.reg [⟨⟨some 5,.load 38 (.tmp 2),none⟩,[]⟩,
  ⟨⟨some 6,.call ⟨(.value (.func 225)),#[.tmp 5],#[38]⟩,none⟩,[]⟩,
  ⟨⟨some 7,.move (.tmp 6),none⟩,[]⟩,
  ⟨⟨some 8,.move (.tmp 1),some (7,true)⟩,[]⟩,
  ⟨⟨some 9,.fieldAddr 38 (.tmp 2) 0,some (7,true)⟩,[]⟩,
  ⟨⟨some 10,.load 36 (.tmp 9),some (7,true)⟩,[]⟩,
  ⟨⟨some 11,.call ⟨(.builtin .len),#[.tmp 10],#[36]⟩,some (7,true)⟩,[]⟩,
  ⟨⟨some 12,.binOp .sub 3 (.tmp 11) (.const (.int .i64 1)) 3,some (7,true)⟩,[]⟩,
  ⟨⟨some 13,.call ⟨(.value (.func 119)),#[.tmp 8,(.const (.int .i64 0)),.tmp 12],#[3,3,3]⟩,some (7,true)⟩,[]⟩,
  ⟨⟨some 14,.pick (.tmp 7) (.tmp 13) (.const (.bool false)),none⟩,[]⟩,
  ⟨⟨some 4,.assign (.tmp 14),none⟩,[]⟩]) .ret))
theorem in195:InT Tryz.prog 195 2 [.tmp 4] cd195:=InT.mk (by kernel_rfl) [] Tryz.func195 rfl (by kernel_rfl) (by kernel_rfl) (of_decide_eq_true (by kernel_rfl)) (by kernel_rfl)
def cd131:Cd:=(.seq (.reg [⟨⟨some 2,.box 38 (.tmp 0),none⟩,[]⟩,
  ⟨⟨some 4,.assign (.const (.slice none 0 0)),none⟩,[]⟩,
  ⟨⟨some 5,.assign (.const (.bool false)),none⟩,[]⟩]) (.seq (.seq (.reg [⟨⟨some 6,.load 38 (.tmp 2),none⟩,[]⟩,
  ⟨⟨some 7,.move (.tmp 1),none⟩,[]⟩,
  ⟨⟨some 8,.call ⟨(.value (.func 195)),#[.tmp 6,.tmp 7],#[38,3]⟩,none⟩,[]⟩,
  ⟨⟨some 9,.unOp .not 4 (.tmp 8),none⟩,[]⟩]) (.cond (.tmp 9) (.seq (.reg [⟨⟨some 10,.buildSlice 27 0 #[],none⟩,[]⟩,
  ⟨⟨some 4,.assign (.tmp 10),none⟩,[]⟩,
  ⟨⟨some 5,.assign (.const (.bool false)),none⟩,[]⟩]) .ret) .skip)) (.seq (.reg [⟨⟨some 11,.load 38 (.tmp 2),none⟩,[]⟩,
  ⟨⟨some 12,.move (.tmp 1),none⟩,[]⟩,
  ⟨⟨some 13,.call ⟨(.value (.func 102)),#[.tmp 11,.tmp 12],#[38,3]⟩,none⟩,[]⟩,
  ⟨⟨some 4,.assign (.tmp 13),none⟩,[]⟩,
  ⟨⟨some 5,.assign (.const (.bool true)),none⟩,[]⟩]) .ret)))
theorem in131:InT Tryz.prog 131 2 [.tmp 4,.tmp 5] cd131:=InT.mk (by kernel_rfl) [] Tryz.func131 rfl (by kernel_rfl) (by kernel_rfl) (of_decide_eq_true (by kernel_rfl)) (by kernel_rfl)
def cd46:Cd:=(.seq (.reg [⟨⟨some 2,.box 38 (.tmp 0),none⟩,[]⟩,⟨⟨some 4,.assign (.const (.slice none 0 0)),none⟩,[]⟩,⟨⟨some 5,.assign (.const (.bool false)),none⟩,[]⟩]) (.seq (.reg [⟨⟨some 11,.load 38 (.tmp 2),none⟩,[]⟩,⟨⟨some 12,.move (.tmp 1),none⟩,[]⟩,⟨⟨some 13,.call ⟨(.value (.func 20)),#[.tmp 11,.tmp 12],#[38,3]⟩,none⟩,[]⟩,⟨⟨some 10,.move (.tmp 13),none⟩,[]⟩,⟨⟨some 14,.extract (.tmp 10) 0,none⟩,[]⟩,⟨⟨some 15,.extract (.tmp 10) 1,none⟩,[]⟩,⟨⟨some 6,.assign (.tmp 14),none⟩,[]⟩,⟨⟨some 7,.assign (.tmp 15),none⟩,[]⟩]) (.seq (.reg [⟨⟨some 17,.load 38 (.tmp 2),none⟩,[]⟩,⟨⟨some 18,.move (.tmp 1),none⟩,[]⟩,⟨⟨some 19,.call ⟨(.value (.func 131)),#[.tmp 17,.tmp 18],#[38,3]⟩,none⟩,[]⟩,
 ⟨⟨some 16,.move (.tmp 19),none⟩,[]⟩,⟨⟨some 20,.extract (.tmp 16) 0,none⟩,[]⟩,⟨⟨some 21,.extract (.tmp 16) 1,none⟩,[]⟩,⟨⟨some 8,.assign (.tmp 20),none⟩,[]⟩,⟨⟨some 9,.assign (.tmp 21),none⟩,[]⟩]) (.seq (.reg [⟨⟨some 22,.move (.tmp 6),none⟩,[]⟩,⟨⟨some 23,.move (.tmp 7),none⟩,[]⟩,⟨⟨some 24,.move (.tmp 23),none⟩,[]⟩,⟨⟨some 25,.move (.tmp 9),some (24,true)⟩,[]⟩,⟨⟨some 26,.pick (.tmp 24) (.tmp 25) (.const (.bool false)),none⟩,[]⟩,⟨⟨some 27,.move (.tmp 26),none⟩,[]⟩,⟨⟨some 28,.move (.tmp 6),some (27,true)⟩,[]⟩,⟨⟨some 29,.move (.tmp 8),some (27,true)⟩,[]⟩,
 ⟨⟨some 30,.call ⟨(.value (.func 35)),#[.tmp 28,.tmp 29],#[27,27]⟩,some (27,true)⟩,[]⟩,
  ⟨⟨some 31,.pick (.tmp 27) (.tmp 30) (.const (.bool false)),none⟩,[]⟩,
  ⟨⟨some 4,.assign (.tmp 22),none⟩,[]⟩,
  ⟨⟨some 5,.assign (.tmp 31),none⟩,[]⟩]) .ret))))
theorem in46:InT Tryz.prog 46 2 [.tmp 4,.tmp 5] cd46:=InT.mk (by kernel_rfl) [] Tryz.func46 rfl (by kernel_rfl) (by kernel_rfl) (of_decide_eq_true (by kernel_rfl)) (by kernel_rfl)
def cd43:Cd:=(.seq (.reg [⟨⟨some 4,.assign (.const (.bool false)),none⟩,[]⟩]) (.seq (.seq (.reg [⟨⟨some 5,.assign (.const (.int .i64 0)),none⟩,[]⟩]) (.block 0 (.loop (.seq (.seq (.reg [⟨⟨some 6,.move (.tmp 5),none⟩,[]⟩,
  ⟨⟨some 7,.move (.tmp 0),none⟩,[]⟩,
  ⟨⟨some 8,.call ⟨(.builtin .len),#[.tmp 7],#[27]⟩,none⟩,[]⟩,
  ⟨⟨some 9,.binOp .lss 3 (.tmp 6) (.tmp 8) 3,none⟩,[]⟩]) (.cond (.tmp 9) .skip (.exit 0))) (.seq (.block 1 (.seq (.reg [⟨⟨some 12,.move (.tmp 0),none⟩,[]⟩,
  ⟨⟨some 13,.move (.tmp 5),none⟩,[]⟩,
  ⟨⟨some 14,.indexAddr 27 (.tmp 12) (.tmp 13),none⟩,[]⟩,
  ⟨⟨some 15,.load 3 (.tmp 14),none⟩,[]⟩,
  ⟨⟨some 16,.move (.tmp 1),none⟩,[]⟩,
  ⟨⟨some 17,.binOp .eql 3 (.tmp 15) (.tmp 16) 3,none⟩,[]⟩]) (.cond (.tmp 17) (.seq (.reg [⟨⟨some 4,.assign (.const (.bool true)),none⟩,[]⟩]) .ret) .skip))) (.reg [⟨⟨some 10,.move (.tmp 5),none⟩,[]⟩,
  ⟨⟨some 11,.binOp .add 3 (.tmp 10) (.const (.int .i64 1)) 3,none⟩,[]⟩,
  ⟨⟨some 5,.assign (.tmp 11),none⟩,[]⟩])))))) (.seq (.reg [⟨⟨some 4,.assign (.const (.bool false)),none⟩,[]⟩]) .ret)))
theorem in43:InT Tryz.prog 43 2 [.tmp 4] cd43:=InT.mk (by kernel_rfl) [] Tryz.func43 rfl (by kernel_rfl) (by kernel_rfl) (of_decide_eq_true (by kernel_rfl)) (by kernel_rfl)
end Go.Proofs.YtjnefjchconebaaGreat.Ai
namespace Go.Proofs.YtjnefjchconebaaGreat.Ai
open Go Go.RowKit
theorem l2PairsN_c (v:Value)(n:Int)(ps:List (Int × Int))(H:AH)(hr:RowP 47 H v ps)(hlen:ps.length<=1099511627776)(hn:0<=n/\n<=1000000) :
    ACalls Tryz.prog 158 [v,.int .i64 n] H fun r H'=>r=.bool (decide (PrU n ps ps.length))/\H<+:H':=by
  refine in158 rfl ?_
  intro Q hQ
  simp (maxSteps:=1000000) (disch:=omega) only [cd158,SS,eq_self,reduceIte,reduceCtorEq,Nat.reduceEqDiff,Nat.reduceAdd]
  refine LoopH.by (fun m s H'=>∃ i,m+i=ps.length/\s 0=v/\s 1=.int .i64 n/\s 5=.int .i64 ((i:Nat):Int)/\H<+:H'/\PrU n ps i) ps.length ?_ ?_
  . exact ⟨0,by simp,rfl,rfl,rfl,List.prefix_refl _,PrU.zero _ _⟩
  . rintro m s H' ⟨i,hm,h0,h1,h5,hp,hu⟩
    have hr':=hr.pre hp
    simp (maxSteps:=1000000) (disch:=omega) only [h0,h1,h5,hr'.len Tryz.underlying24,SS,eq_self,reduceIte,reduceCtorEq,Nat.reduceEqDiff,Nat.reduceAdd]
    refine brD.intro (fun g=>?_) (fun g=>?_)
    . have hi:i<ps.length:=by omega
      have hst0:=store_a2 H' [.int .i64 0,.int .i64 0] rfl
      simp (maxSteps:=1000000) (disch:=omega) only [h0,h1,h5,hr'.ix Tryz.underlying24 cs47,Int.toNat_natCast,hr'.ld ag47 cs47 hi,alloc_a2,hst0,cell_new,wrap64,SS,eq_self,reduceIte,reduceCtorEq,Nat.reduceEqDiff,Nat.reduceAdd]
      generalize hB:H' ++ [AObj.cells [.int .i64 (ps.getD i (0,0)).1,.int .i64 (ps.getD i (0,0)).2] 47 false]=B
      have pB:H'<+:B:=by rw [<- hB];exact List.prefix_append _ _
      have b0:B[H'.length]?=some (.cells [.int .i64 (ps.getD i (0,0)).1,.int .i64 (ps.getD i (0,0)).2] 47 false):=by rw [<- hB];exact at_new ..
      have hrB:=hr'.pre pB
      refine CallH.by (l1In_c _ _ _ B) ?_
      rintro _ _ ⟨rfl,rfl⟩
      simp (maxSteps:=1000000) (disch:=omega) only [cell_of b0,wrap64,SS,eq_self,reduceIte,reduceCtorEq,Nat.reduceEqDiff,Nat.reduceAdd]
      have hBp:=hp.trans pB
      have e0:((i:Int) - 1).toNat=i - 1:=by omega
      have ok2:prOk n ps i->PrU n ps (i+1):=fun h=>hu.succ h
      have bad:¬ prOk n ps i->∀ G,H<+:G->decide (PrU n ps ps.length)=false/\H<+:G:=fun h G hG=>⟨decide_eq_false (PrU.no hi h),hG⟩
      have hld1:0<i->loadA Tryz.prog 47 (.pointer (some ⟨rowO v,rowK v+2 * (i - 1),none⟩)) B=some (.agg (List.toArray [.int .i64 (ps.getD (i - 1) (0,0)).1,.int .i64 (ps.getD (i - 1) (0,0)).2])):=fun h=>hrB.ld ag47 cs47 (by omega)
      unfold prOk at ok2 bad
      generalize hx:ps.getD i (0,0)=x at *
      generalize hy:ps.getD (i - 1) (0,0)=y at *
      refine brD.intro (fun e1=>?_) (fun e1=>?_)
      . simp (maxSteps:=1000000) (disch:=omega) only [e1,cell_of b0,h0,h1,h5,wrap64,SS,eq_self,reduceIte,reduceCtorEq,Nat.reduceEqDiff,Nat.reduceAdd]
        refine CallH.by (l1In_c _ _ _ B) ?_
        rintro _ _ ⟨rfl,rfl⟩
        simp (maxSteps:=1000000) (disch:=omega) only [e1,cell_of b0,h0,h1,h5,wrap64,SS,eq_self,reduceIte,reduceCtorEq,Nat.reduceEqDiff,Nat.reduceAdd]
        refine brD.intro (fun e2=>?_) (fun e2=>?_)
        . simp (maxSteps:=1000000) (disch:=omega) only [e1,e2,cell_of b0,h0,h1,h5,wrap64,SS,eq_self,reduceIte,reduceCtorEq,Nat.reduceEqDiff,Nat.reduceAdd]
          refine brD.intro (fun e3=>?_) (fun e3=>?_) <;> simp (maxSteps:=1000000) (disch:=omega) only [e1,e2,e3,cell_of b0,h0,h1,h5,wrap64,SS,eq_self,reduceIte,reduceCtorEq,Nat.reduceEqDiff,Nat.reduceAdd]
          . refine hQ _ _ _ ?_
            simp (maxSteps:=1000000) (disch:=omega) only [SS,eq_self,reduceIte,reduceCtorEq,Nat.reduceEqDiff,Nat.reduceAdd]
            obtain ⟨q1,q2⟩:=bad (by omega) _ hBp
            rw [q1]
            exact ⟨rfl,q2⟩
          . refine brD.intro (fun e4=>?_) (fun e4=>?_) <;> simp (maxSteps:=1000000) (disch:=omega) only [e1,e2,e3,e4,h0,h1,h5,wrap64,SS,eq_self,reduceIte,reduceCtorEq,Nat.reduceEqDiff,Nat.reduceAdd]
            . have hi1:0<i:=by omega
              simp (maxSteps:=1000000) (disch:=omega) only [e1,e2,e3,e4,e0,h0,h1,h5,hrB.ix Tryz.underlying24 cs47,hld1 hi1,ld_a2 b0,wrap64,SS,eq_self,reduceIte,reduceCtorEq,Nat.reduceEqDiff,Nat.reduceAdd]
              refine CallH.by (l2Edge_c y x B) ?_
              rintro _ C ⟨rfl,pC⟩
              have hCp:=hBp.trans pC
              simp (maxSteps:=1000000) (disch:=omega) only [e1,e2,e3,e4,SS,eq_self,reduceIte,reduceCtorEq,Nat.reduceEqDiff,Nat.reduceAdd]
              refine brD.intro (fun e5=>?_) (fun e5=>?_) <;> simp (maxSteps:=1000000) (disch:=omega) only [e1,e2,e3,e4,e5,h0,h1,h5,wrap64,SS,eq_self,reduceIte,reduceCtorEq,Nat.reduceEqDiff,Nat.reduceAdd]
              . have f1:=ok2 ⟨e1.1,by omega,by omega,fun _=>e5⟩
                refine ⟨m - 1,by omega,i+1,?_⟩
                (repeat' first | exact f1 | exact hCp | apply And.intro) <;> first | (simp only [Value.int.injEq,true_and];omega) | omega | rfl | assumption | (simp;done) | (simp;omega)
              . refine hQ _ _ _ ?_
                simp (maxSteps:=1000000) (disch:=omega) only [SS,eq_self,reduceIte,reduceCtorEq,Nat.reduceEqDiff,Nat.reduceAdd]
                obtain ⟨q1,q2⟩:=bad (fun h=>e5 (h.2.2.2 hi1)) _ hCp
                rw [q1]
                exact ⟨rfl,q2⟩
            . have f1:=ok2 ⟨e1.1,by omega,by omega,fun h=>absurd h (by omega)⟩
              refine ⟨m - 1,by omega,i+1,?_⟩
              (repeat' first | exact f1 | exact hBp | apply And.intro) <;> first | (simp only [Value.int.injEq,true_and];omega) | omega | rfl | assumption | (simp;done) | (simp;omega)
        . simp (maxSteps:=1000000) (disch:=omega) only [e1,e2,SS,eq_self,reduceIte,reduceCtorEq,Nat.reduceEqDiff,Nat.reduceAdd]
          refine hQ _ _ _ ?_
          simp (maxSteps:=1000000) (disch:=omega) only [SS,eq_self,reduceIte,reduceCtorEq,Nat.reduceEqDiff,Nat.reduceAdd]
          obtain ⟨q1,q2⟩:=bad (by omega) _ hBp
          rw [q1]
          exact ⟨rfl,q2⟩
      . simp (maxSteps:=1000000) (disch:=omega) only [e1,SS,eq_self,reduceIte,reduceCtorEq,Nat.reduceEqDiff,Nat.reduceAdd]
        refine hQ _ _ _ ?_
        simp (maxSteps:=1000000) (disch:=omega) only [SS,eq_self,reduceIte,reduceCtorEq,Nat.reduceEqDiff,Nat.reduceAdd]
        obtain ⟨q1,q2⟩:=bad (by omega) _ hBp
        rw [q1]
        exact ⟨rfl,q2⟩
    . simp (maxSteps:=1000000) (disch:=omega) only [h0,h1,h5,SS,eq_self,reduceIte,reduceCtorEq,Nat.reduceEqDiff,Nat.reduceAdd]
      refine hQ _ _ _ ?_
      simp (maxSteps:=1000000) (disch:=omega) only [SS,eq_self,reduceIte,reduceCtorEq,Nat.reduceEqDiff,Nat.reduceAdd]
      have:i=ps.length:=by omega
      subst this
      simp [hu,hp]
theorem l2State_c (v:Value)(xs:List Int)(H:AH)(hr:Row 3 H v xs)(hl:xs.length<=24)(hx:∀ y ∈ xs,-99<=y/\y<=99) :
    ACalls Tryz.prog 244 [v] H fun r H'=>r=.bool true/\H=H':=by
  refine in244 rfl ?_
  intro Q hQ
  simp (maxSteps:=1000000) (disch:=omega) only [cd244,SS,eq_self,reduceIte,reduceCtorEq,Nat.reduceEqDiff,Nat.reduceAdd]
  refine LoopH.by (fun m s H'=>∃ i:Nat,m+i=xs.length/\s 0=v/\s 3=.int .i64 ((i:Nat):Int)/\H=H') xs.length ?_ ?_
  . exact ⟨0,by simp,rfl,rfl,rfl⟩
  rintro m s _ ⟨i,hm,h0,h3,rfl⟩
  simp (maxSteps:=1000000) (disch:=omega) only [h0,h3,hr.len Tryz.underlying27,SS,eq_self,reduceIte,reduceCtorEq,Nat.reduceEqDiff,Nat.reduceAdd]
  refine brD.intro (fun g=>?_) (fun g=>?_)
  . have hi:i<xs.length:=by omega
    have c1:=hr.cell hi
    have hb:=hx (xs.getD i 0) (by simp [hi])
    simp (maxSteps:=1000000) (disch:=omega) only [h0,h3,hr.ix Tryz.underlying27 cs3,Int.toNat_natCast,c1,SS,eq_self,reduceIte,reduceCtorEq,Nat.reduceEqDiff,Nat.reduceAdd]
    refine CallH.by (l1In_c _ (-99) 99 H) ?_
    rintro _ _ ⟨rfl,rfl⟩
    simp (maxSteps:=1000000) (disch:=omega) only [decide_eq_true hb,h0,h3,wrap64,SS,eq_self,reduceIte,reduceCtorEq,Nat.reduceEqDiff,Nat.reduceAdd]
    refine ⟨m - 1,by omega,i+1,?_⟩
    (repeat' first | exact h0 | apply And.intro) <;> first | (simp only [Value.int.injEq,true_and];omega) | omega | rfl | assumption | (simp;done) | (simp;omega)
  . have e1:((xs.length:Nat):Int)<=24:=by omega
    simp (maxSteps:=1000000) (disch:=omega) only [h0,hr.len Tryz.underlying27,decide_eq_true e1,SS,eq_self,reduceIte,reduceCtorEq,Nat.reduceEqDiff,Nat.reduceAdd]
    refine hQ _ _ _ ?_
    simp (maxSteps:=1000000) (disch:=omega) only [decide_eq_true e1,SS,eq_self,reduceIte,reduceCtorEq,Nat.reduceEqDiff,Nat.reduceAdd]
theorem cmpL_take:∀ (xs ys:List Int) (i:Nat),(∀ j,j<i->xs.getD j 0=ys.getD j 0)->i<=xs.length->i<=ys.length->cmpL xs ys=cmpL (xs.drop i) (ys.drop i)
  | _,_,0,_,_,_=>by simp
  | [],ys,i+1,_,h1,_=>by simp at h1
  | x :: xs,[],i+1,_,_,h2=>by simp at h2
  | x :: xs,y :: ys,i+1,h,h1,h2=>by
    have e:x=y:=by have:=h 0 (by omega);simpa using this
    subst e
    have ih:=cmpL_take xs ys i (fun j hj=>by have:=h (j+1) (by omega);simpa using this) (by simpa using h1) (by simpa using h2)
    rw [List.drop_succ_cons,List.drop_succ_cons,<- ih]
    have e0:cmpI x x=0:=by unfold cmpI;rw [if_neg (by omega),if_neg (by omega)]
    simp [cmpL,e0]
theorem l2Before_c (v w:Value)(xs ys:List Int)(H:AH)(hr:Row 3 H v xs)(hs:Row 3 H w ys)(hl:xs.length<=1099511627776)(hl2:ys.length<=1099511627776)(hc:cmpL xs ys<0) :
    ACalls Tryz.prog 245 [v,w] H fun r H'=>r=.bool true/\H=H':=by
  refine in245 rfl ?_
  intro Q hQ
  simp (maxSteps:=1000000) (disch:=omega) only [cd245,SS,eq_self,reduceIte,reduceCtorEq,Nat.reduceEqDiff,Nat.reduceAdd]
  refine LoopH.by (fun m s H'=>∃ i:Nat,m+i=xs.length/\i<=ys.length/\s 0=v/\s 1=w/\s 5=.int .i64 ((i:Nat):Int)/\(∀ j,j<i->xs.getD j 0=ys.getD j 0)/\H=H') xs.length ?_ ?_
  . refine ⟨0,by simp,by omega,rfl,rfl,rfl,fun j hj=>by omega,rfl⟩
  rintro m s _ ⟨i,hm,hy,h0,h1,h5,hj,rfl⟩
  have ct:=cmpL_take xs ys i hj (by omega) hy
  by_cases g:(i:Int)<xs.length
  . by_cases g2:(i:Int)<ys.length
    . have hi:i<xs.length:=by omega
      have hi2:i<ys.length:=by omega
      have c1:=hr.cell hi
      have c2:=hs.cell hi2
      simp (maxSteps:=1000000) (disch:=omega) only [h0,h1,h5,hr.len Tryz.underlying27,hs.len Tryz.underlying27,decide_eq_true g,decide_eq_true g2,hr.ix Tryz.underlying27 cs3,hs.ix Tryz.underlying27 cs3,Int.toNat_natCast,c1,c2,SS,eq_self,reduceIte,reduceCtorEq,Nat.reduceEqDiff,Nat.reduceAdd]
      by_cases e:xs.getD i 0=ys.getD i 0
      . simp (maxSteps:=1000000) (disch:=omega) only [decide_eq_false (show ¬ ¬ xs.getD i 0=ys.getD i 0 from fun q=>q e),h0,h1,h5,wrap64,SS,eq_self,reduceIte,reduceCtorEq,Nat.reduceEqDiff,Nat.reduceAdd]
        refine ⟨m - 1,by omega,i+1,by omega,by omega,?_⟩
        have f:∀ j,j<i+1->xs.getD j 0=ys.getD j 0:=fun j hj'=>by
          by_cases q:j=i
          . rw [q];exact e
          . exact hj j (by omega)
        (repeat' first | exact f | apply And.intro) <;> first | (simp only [Value.int.injEq,true_and];omega) | omega | rfl | assumption | (simp;done) | (simp;omega)
      . have hlt:xs.getD i 0<ys.getD i 0:=by
          rw [ct,List.drop_eq_getElem_cons hi,List.drop_eq_getElem_cons hi2] at hc
          have e1:xs.getD i 0=xs[i]:=by simp [hi]
          have e2:ys.getD i 0=ys[i]:=by simp [hi2]
          rw [e1,e2] at e ⊢
          refine Int.not_le.1 fun q=>?_
          have q2:ys[i]<xs[i]:=by omega
          simp only [cmpL,cmpI] at hc
          repeat' split at hc
          all_goals omega
        simp (maxSteps:=1000000) (disch:=omega) only [decide_eq_true (show ¬ xs.getD i 0=ys.getD i 0 from e),h0,h1,h5,hr.ix Tryz.underlying27 cs3,hs.ix Tryz.underlying27 cs3,Int.toNat_natCast,c1,c2,decide_eq_true hlt,SS,eq_self,reduceIte,reduceCtorEq,Nat.reduceEqDiff,Nat.reduceAdd]
        refine hQ _ _ _ ?_
        simp (maxSteps:=1000000) (disch:=omega) only [decide_eq_true hlt,SS,eq_self,reduceIte,reduceCtorEq,Nat.reduceEqDiff,Nat.reduceAdd]
    . exfalso
      have hi2:i=ys.length:=by omega
      rw [ct,List.drop_eq_getElem_cons (show i<xs.length by omega),List.drop_of_length_le (show ys.length<=i by omega)] at hc
      simp [cmpL] at hc
  . have hi:i=xs.length:=by omega
    have hlt:(xs.length:Int)<ys.length:=by
      refine Int.not_le.1 fun q=>?_
      have:i=ys.length:=by omega
      rw [ct,List.drop_of_length_le (show xs.length<=i by omega),List.drop_of_length_le (show ys.length<=i by omega)] at hc
      simp [cmpL] at hc
    simp (maxSteps:=1000000) (disch:=omega) only [h0,h1,h5,hr.len Tryz.underlying27,hs.len Tryz.underlying27,decide_eq_false g,decide_eq_true hlt,SS,eq_self,reduceIte,reduceCtorEq,Nat.reduceEqDiff,Nat.reduceAdd]
    refine hQ _ _ _ ?_
    simp (maxSteps:=1000000) (disch:=omega) only [decide_eq_true hlt,SS,eq_self,reduceIte,reduceCtorEq,Nat.reduceEqDiff,Nat.reduceAdd]
theorem l2Space_c {a b:Value}{us:List Value}{ls:List (List Int)}{ps:List (Int × Int)}{H:AH}(hr:SpRow H a b ls ps)(h:Sts H a us ls)(hn:ls.length<=300)(hp:ps.length<=6000)(hst:∀ l ∈ ls,l.length<=24/\∀ y ∈ l,-99<=y/\y<=99)(hps:PrU ls.length ps ps.length) :
    ACalls Tryz.prog 225 [.agg (List.toArray [a,b])] H fun r H'=>r=.bool true/\H<+:H':=by
  refine in225 rfl ?_
  intro Q hQ
  simp (maxSteps:=1000000) (disch:=omega) only [cd225,hr.box,SS,eq_self,reduceIte,reduceCtorEq,Nat.reduceEqDiff,Nat.reduceAdd]
  generalize hA:H ++ [AObj.cells [a,b] 38 false]=A
  have pA:H<+:A:=by rw [<- hA];exact List.prefix_append _ _
  have cA:A[H.length]?=some (.cells [a,b] 38 false):=by rw [<- hA];exact at_new ..
  have hA2:=h.pre pA
  have rb:=hr.2.pre pA
  have hul:=h.len
  have e1:¬ (300:Int)<(ls.length:Int):=by omega
  have e2:¬ (6000:Int)<(ps.length:Int):=by omega
  simp (maxSteps:=1000000) (disch:=omega) only [cell_of cA,hA2.row.len Tryz.underlying36,hul,rb.len Tryz.underlying24,decide_eq_false e1,decide_eq_false e2,SS,eq_self,reduceIte,reduceCtorEq,Nat.reduceEqDiff,Nat.reduceAdd]
  refine LoopH.by (fun m s H'=>∃ i:Nat,m+i=ls.length/\s 1=.pointer (some ⟨H.length,0,none⟩)/\s 3=.int .i64 (i:Int)/\A=H') ls.length ?_ ?_
  . exact ⟨0,by simp,rfl,rfl,rfl⟩
  rintro m s _ ⟨i,hm,s1,s3,rfl⟩
  simp (maxSteps:=1000000) (disch:=omega) only [s1,s3,cell_of cA,hA2.row.len Tryz.underlying36,hul,SS,eq_self,reduceIte,reduceCtorEq,Nat.reduceEqDiff,Nat.reduceAdd]
  refine brD.intro (fun g=>?_) (fun g=>?_)
  rotate_left
  . simp (maxSteps:=1000000) (disch:=omega) only [s1,s3,cell_of cA,hA2.row.len Tryz.underlying36,hul,SS,eq_self,reduceIte,reduceCtorEq,Nat.reduceEqDiff,Nat.reduceAdd]
    refine CallH.by (l2PairsN_c b (ls.length:Int) ps A rb (by omega) (by omega)) ?_
    rintro _ B ⟨rfl,pB⟩
    simp (maxSteps:=1000000) (disch:=omega) only [decide_eq_true hps,SS,eq_self,reduceIte,reduceCtorEq,Nat.reduceEqDiff,Nat.reduceAdd]
    refine hQ _ _ _ ?_
    simp (maxSteps:=1000000) (disch:=omega) only [decide_eq_true hps,SS,eq_self,reduceIte,reduceCtorEq,Nat.reduceEqDiff,Nat.reduceAdd]
    exact pA.trans pB
  have hi:i<ls.length:=by omega
  have hmem:ls.getD i [] ∈ ls:=by simp [hi]
  have hci:=hA2.row.cell (show i<us.length by omega)
  simp (maxSteps:=1000000) (disch:=omega) only [s1,s3,cell_of cA,hA2.row.ix Tryz.underlying36 cs27,hul,Int.toNat_natCast,hci,SS,eq_self,reduceIte,reduceCtorEq,Nat.reduceEqDiff,Nat.reduceAdd]
  refine CallH.by (l2State_c _ _ A (hA2.each i hi) (hst _ hmem).1 (hst _ hmem).2) ?_
  rintro _ _ ⟨rfl,rfl⟩
  simp (maxSteps:=1000000) (disch:=omega) only [s1,s3,SS,eq_self,reduceIte,reduceCtorEq,Nat.reduceEqDiff,Nat.reduceAdd]
  by_cases h0:(0:Int)<(i:Int)
  rotate_left
  . simp (maxSteps:=1000000) (disch:=omega) only [s1,s3,decide_eq_false h0,wrap64,SS,eq_self,reduceIte,reduceCtorEq,Nat.reduceEqDiff,Nat.reduceAdd]
    refine ⟨m - 1,by omega,i+1,?_⟩
    (repeat' first | exact s1 | apply And.intro) <;> first | (simp only [Value.int.injEq,true_and];omega) | omega | rfl | assumption | (simp;done) | (simp;omega)
  have hcj:=hA2.row.cell (show i - 1<us.length by omega)
  have hw:IntKind.i64.wrap ((i:Int) - 1)=((i - 1:Nat):Int):=by rw [wrap64 (by omega) (by omega)];omega
  simp (maxSteps:=1000000) (disch:=omega) only [s1,s3,decide_eq_true h0,cell_of cA,hw,hA2.row.ix Tryz.underlying36 cs27,hul,Int.toNat_natCast,hcj,hci,SS,eq_self,reduceIte,reduceCtorEq,Nat.reduceEqDiff,Nat.reduceAdd]
  have hc:cmpL (ls.getD (i - 1) []) (ls.getD i [])<0:=by
    have:=h.srt (i - 1) i (by omega) hi
    rw [cmpL_swap] at this
    omega
  refine CallH.by (l2Before_c _ _ _ _ A (hA2.each (i - 1) (by omega)) (hA2.each i hi) (h.small (i - 1) (by omega)) (h.small i hi) hc) ?_
  rintro _ _ ⟨rfl,rfl⟩
  simp (maxSteps:=1000000) (disch:=omega) only [s1,s3,wrap64,SS,eq_self,reduceIte,reduceCtorEq,Nat.reduceEqDiff,Nat.reduceAdd]
  refine ⟨m - 1,by omega,i+1,?_⟩
  (repeat' first | exact s1 | apply And.intro) <;> first | (simp only [Value.int.injEq,true_and];omega) | omega | rfl | assumption | (simp;done) | (simp;omega)
theorem l2Place_c {a b:Value}{us:List Value}{ls:List (List Int)}{ps:List (Int × Int)}{H:AH}(hr:SpRow H a b ls ps)(h:Sts H a us ls)(hn:ls.length<=300)(hp:ps.length<=6000)(hst:∀ l ∈ ls,l.length<=24/\∀ y ∈ l,-99<=y/\y<=99)(hps:PrU ls.length ps ps.length)(i:Int) :
    ACalls Tryz.prog 195 [.agg (List.toArray [a,b]),.int .i64 i] H fun r H'=>r=.bool (decide (0<=i/\i<=(ls.length:Int) - 1))/\H<+:H':=by
  refine in195 rfl ?_
  intro Q hQ
  simp (maxSteps:=1000000) (disch:=omega) only [cd195,hr.box,SS,eq_self,reduceIte,reduceCtorEq,Nat.reduceEqDiff,Nat.reduceAdd]
  generalize hA:H ++ [AObj.cells [a,b] 38 false]=A
  have pA:H<+:A:=by rw [<- hA];exact List.prefix_append _ _
  have cA:A[H.length]?=some (.cells [a,b] 38 false):=by rw [<- hA];exact at_new ..
  simp (maxSteps:=1000000) (disch:=omega) only [ld_agg ag38 cs38 cA,SS,eq_self,reduceIte,reduceCtorEq,Nat.reduceEqDiff,Nat.reduceAdd]
  refine CallH.by (l2Space_c (hr.pre pA) (h.pre pA) hn hp hst hps) ?_
  rintro _ B ⟨rfl,pB⟩
  have cB:=pre_at pB cA
  have hul:=h.len
  simp (maxSteps:=1000000) (disch:=omega) only [cell_of cB,((h.pre pA).pre pB).row.len Tryz.underlying36,hul,wrap64,SS,eq_self,reduceIte,reduceCtorEq,Nat.reduceEqDiff,Nat.reduceAdd]
  refine CallH.by (l1In_c i 0 ((ls.length:Int) - 1) B) ?_
  rintro _ _ ⟨rfl,rfl⟩
  simp (maxSteps:=1000000) (disch:=omega) only [SS,eq_self,reduceIte,reduceCtorEq,Nat.reduceEqDiff,Nat.reduceAdd]
  refine hQ _ _ _ ?_
  simp (maxSteps:=1000000) (disch:=omega) only [SS,eq_self,reduceIte,reduceCtorEq,Nat.reduceEqDiff,Nat.reduceAdd]
  exact pA.trans pB
theorem DistS_c {a b:Value}{us:List Value}{ls:List (List Int)}{ps:List (Int × Int)}{H:AH}(hr:SpRow H a b ls ps)(h:Sts H a us ls)(hn:ls.length<=300)(hp:ps.length<=6000)(hst:∀ l ∈ ls,l.length<=24/\∀ y ∈ l,-99<=y/\y<=99)(hpu:PrU ls.length ps ps.length)(hps:StpOk ls.length ps)(hdeg:∀ x,(nbS ps x).length<=12){i:Nat}(hi:i<ls.length) :
    ACalls Tryz.prog 131 [.agg (List.toArray [a,b]),.int .i64 (i:Int)] H fun r H'=>∃ g,r=.tuple (List.toArray [g,.bool true])/\Row 3 H' g (bfs (rdS ls.length ps) i)/\H<+:H':=by
  refine in131 rfl ?_
  intro Q hQ
  simp (maxSteps:=1000000) (disch:=omega) only [cd131,hr.box,SS,eq_self,reduceIte,reduceCtorEq,Nat.reduceEqDiff,Nat.reduceAdd]
  generalize hA:H ++ [AObj.cells [a,b] 38 false]=A
  have pA:H<+:A:=by rw [<- hA];exact List.prefix_append _ _
  have cA:A[H.length]?=some (.cells [a,b] 38 false):=by rw [<- hA];exact at_new ..
  simp (maxSteps:=1000000) (disch:=omega) only [ld_agg ag38 cs38 cA,SS,eq_self,reduceIte,reduceCtorEq,Nat.reduceEqDiff,Nat.reduceAdd]
  refine CallH.by (l2Place_c (hr.pre pA) (h.pre pA) hn hp hst hpu (i:Int)) ?_
  rintro _ B ⟨rfl,pB⟩
  have cB:=pre_at pB cA
  simp (maxSteps:=1000000) (disch:=omega) only [decide_eq_true (show (0:Int)<=i/\(i:Int)<=(ls.length:Int) - 1 by omega),ld_agg ag38 cs38 cB,SS,eq_self,reduceIte,reduceCtorEq,Nat.reduceEqDiff,Nat.reduceAdd]
  refine CallH.by (l2Dist_c ((hr.pre pA).pre pB) (by omega) (by omega) hps hdeg hi) ?_
  rintro g C ⟨hg,pC⟩
  have hgt:=hg.row.tup
  simp (maxSteps:=1000000) (disch:=omega) only [hgt,SS,eq_self,reduceIte,reduceCtorEq,Nat.reduceEqDiff,Nat.reduceAdd]
  refine hQ _ _ _ ?_
  simp (maxSteps:=1000000) (disch:=omega) only [hgt,SS,eq_self,reduceIte,reduceCtorEq,Nat.reduceEqDiff,Nat.reduceAdd]
  exact ⟨_,rfl,hg.row,pA.trans (pB.trans pC)⟩
theorem rDist_c {a b:Value}{us:List Value}{ls:List (List Int)}{ps:List (Int × Int)}{H:AH}(hr:SpRow H a b ls ps)(h:Sts H a us ls)(hn:ls.length<=300)(hp:ps.length<=6000)(hst:∀ l ∈ ls,l.length<=24/\∀ y ∈ l,-99<=y/\y<=99)(hpu:PrU ls.length ps ps.length)(hps:StpOk ls.length ps)(hdeg:∀ x,(nbS ps x).length<=12){i:Nat}(hi:i<ls.length) :
    ACalls Tryz.prog 46 [.agg (List.toArray [a,b]),.int .i64 (i:Int)] H fun r H'=>∃ g,r=.tuple (List.toArray [g,.bool true])/\Row 3 H' g (bfs (rdS ls.length ps) i)/\H<+:H':=by
  refine in46 rfl ?_
  intro Q hQ
  simp (maxSteps:=1000000) (disch:=omega) only [cd46,hr.box,SS,eq_self,reduceIte,reduceCtorEq,Nat.reduceEqDiff,Nat.reduceAdd]
  generalize hA:H ++ [AObj.cells [a,b] 38 false]=A
  have pA:H<+:A:=by rw [<- hA];exact List.prefix_append _ _
  have cA:A[H.length]?=some (.cells [a,b] 38 false):=by rw [<- hA];exact at_new ..
  simp (maxSteps:=1000000) (disch:=omega) only [ld_agg ag38 cs38 cA,SS,eq_self,reduceIte,reduceCtorEq,Nat.reduceEqDiff,Nat.reduceAdd]
  refine CallH.by (DistI_c (hr.pre pA) (h.pre pA) hn hp hst hpu hps hdeg hi) ?_
  rintro _ B ⟨g,rfl,hg,pB⟩
  have cB:=pre_at pB cA
  simp (maxSteps:=1000000) (disch:=omega) only [ld_agg ag38 cs38 cB,SS,eq_self,reduceIte,reduceCtorEq,Nat.reduceEqDiff,Nat.reduceAdd]
  refine CallH.by (DistS_c ((hr.pre pA).pre pB) ((h.pre pA).pre pB) hn hp hst hpu hps hdeg hi) ?_
  rintro _ C ⟨g2,rfl,hg2,pC⟩
  have hgC:=hg.row.pre pC
  have hlen:(bfs (rdS ls.length ps) i).length<=1000000:=by
    have:=(bfs_rng _ (rdS_ok hps) i (by rw [rdS_len];exact hi)).1
    rw [rdS_len] at this
    omega
  simp (maxSteps:=1000000) (disch:=omega) only [SS,eq_self,reduceIte,reduceCtorEq,Nat.reduceEqDiff,Nat.reduceAdd]
  refine CallH.by (rInts_c g g2 _ C hgC hg2 hlen) ?_
  rintro _ _ ⟨rfl,rfl⟩
  have hgt:=hgC.tup
  simp (maxSteps:=1000000) (disch:=omega) only [hgt,SS,eq_self,reduceIte,reduceCtorEq,Nat.reduceEqDiff,Nat.reduceAdd]
  refine hQ _ _ _ ?_
  simp (maxSteps:=1000000) (disch:=omega) only [hgt,SS,eq_self,reduceIte,reduceCtorEq,Nat.reduceEqDiff,Nat.reduceAdd]
  exact ⟨_,rfl,hgC,pA.trans (pB.trans pC)⟩
theorem rHas_c (v:Value)(xs:List Int)(x:Int)(H:AH)(hr:Row 3 H v xs)(hl:xs.length<=1000000):ACalls Tryz.prog 43 [v,.int .i64 x] H fun r H'=>r=.bool (decide (x ∈ xs))/\H=H':=by
  refine in43 rfl ?_
  intro Q hQ
  simp (maxSteps:=1000000) (disch:=omega) only [cd43,SS,eq_self,reduceIte,reduceCtorEq,Nat.reduceEqDiff,Nat.reduceAdd]
  refine LoopH.by (fun m s H'=>∃ i:Nat,m+i=xs.length/\s 0=v/\s 1=.int .i64 x/\s 5=.int .i64 ((i:Nat):Int)/\(∀ j,j<i->xs.getD j 0 ≠ x)/\H=H') xs.length ?_ ?_
  . exact ⟨0,by simp,rfl,rfl,rfl,fun j hj=>by omega,rfl⟩
  rintro m s _ ⟨i,hm,h0,h1,h5,hj,rfl⟩
  simp (maxSteps:=1000000) (disch:=omega) only [h0,h1,h5,hr.len Tryz.underlying27,SS,eq_self,reduceIte,reduceCtorEq,Nat.reduceEqDiff,Nat.reduceAdd]
  refine brD.intro (fun g=>?_) (fun g=>?_)
  . have hi:i<xs.length:=by omega
    have c1:=hr.cell hi
    simp (maxSteps:=1000000) (disch:=omega) only [h0,h1,h5,hr.ix Tryz.underlying27 cs3,Int.toNat_natCast,c1,SS,eq_self,reduceIte,reduceCtorEq,Nat.reduceEqDiff,Nat.reduceAdd]
    by_cases e:xs.getD i 0=x
    . have hm:x ∈ xs:=by rw [<- e];simp [hi]
      simp (maxSteps:=1000000) (disch:=omega) only [decide_eq_true e,SS,eq_self,reduceIte,reduceCtorEq,Nat.reduceEqDiff,Nat.reduceAdd]
      refine hQ _ _ _ ?_
      simp (maxSteps:=1000000) (disch:=omega) only [decide_eq_true hm,SS,eq_self,reduceIte,reduceCtorEq,Nat.reduceEqDiff,Nat.reduceAdd]
    . simp (maxSteps:=1000000) (disch:=omega) only [decide_eq_false e,h0,h1,h5,wrap64,SS,eq_self,reduceIte,reduceCtorEq,Nat.reduceEqDiff,Nat.reduceAdd]
      refine ⟨m - 1,by omega,i+1,?_⟩
      have f:∀ j,j<i+1->xs.getD j 0 ≠ x:=fun j hj'=>by
        by_cases q:j=i
        . rw [q];exact e
        . exact hj j (by omega)
      (repeat' first | exact f | apply And.intro) <;> first | (simp only [Value.int.injEq,true_and];omega) | omega | rfl | assumption | (simp;done) | (simp;omega)
  . have hno:¬ x ∈ xs:=fun hx=>by
      obtain ⟨j,h1,h2⟩:=List.mem_iff_getElem.1 hx
      exact hj j (by omega) (by rw [<- h2];simp [h1])
    simp (maxSteps:=1000000) (disch:=omega) only [SS,eq_self,reduceIte,reduceCtorEq,Nat.reduceEqDiff,Nat.reduceAdd]
    refine hQ _ _ _ ?_
    simp (maxSteps:=1000000) (disch:=omega) only [decide_eq_false hno,SS,eq_self,reduceIte,reduceCtorEq,Nat.reduceEqDiff,Nat.reduceAdd]
end Go.Proofs.YtjnefjchconebaaGreat.Ai
namespace Go.Proofs.YtjnefjchconebaaGreat.Ai
open Go Go.RowKit Go.Shelf
attribute [local go_sem] Oper.semAt_some
def SlInts (n₀:Nat)(W:World)(sv:Value)(zs:List Int):Prop :=
  (∃ a c,sv=.slice a 0 c/\zs=[])∨∃ b off cap,sv=.slice (some ⟨b,off,none⟩) zs.length cap/\b<n₀/\∀ j,j<zs.length->W.cell? ⟨b,off+j,none⟩=some (.int .i64 (zs[j]?.getD 0))
theorem SlInts.below {n₀:Nat}{A B:World}(h:Below n₀ A B){sv:Value}{zs:List Int}:SlInts n₀ A sv zs->SlInts n₀ B sv zs
  | .inl e=>.inl e
  | .inr ⟨b,off,cap,e,hb,hc⟩=>.inr ⟨b,off,cap,e,hb,fun j hj=>(h.cell (p:=⟨b,off+j,none⟩) hb).trans (hc j hj)⟩
end Go.Proofs.YtjnefjchconebaaGreat.Ai
namespace Go.Proofs.YtjnefjchconebaaGreat.Ai
open Go Go.RowKit
def cd128:Cd:=(.seq (.reg [⟨⟨some 4,.assign (.const (.bool false)),none⟩,[]⟩]) (.seq (.seq (.reg [⟨⟨some 7,.move (.tmp 0),none⟩,[]⟩,⟨⟨some 8,.call ⟨(.builtin .len),#[.tmp 7],#[27]⟩,none⟩,[]⟩,⟨⟨some 9,.move (.const (.int .i64 0)),none⟩,[]⟩]) (.block 0 (.loop (.seq (.reg [⟨⟨some 10,.binOp .lss 3 (.tmp 9) (.tmp 8) 3,none⟩,[]⟩]) (.seq (.cond (.tmp 10) .skip (.exit 0)) (.seq (.block 1 (.seq (.reg [⟨⟨some 11,.move (.tmp 9),none⟩,[]⟩,⟨⟨some 12,.indexAddr 27 (.tmp 7) (.tmp 9),none⟩,[]⟩,⟨⟨some 13,.load 3 (.tmp 12),none⟩,[]⟩,⟨⟨some 5,.assign (.tmp 11),none⟩,[]⟩,⟨⟨some 6,.assign (.tmp 13),none⟩,[]⟩]) (.seq (.reg [⟨⟨some 14,.move (.tmp 6),none⟩,[]⟩,⟨⟨some 15,.move (.tmp 1),none⟩,[]⟩,⟨⟨some 16,.binOp .sub 3 (.tmp 15) (.const (.int .i64 1)) 3,none⟩,[]⟩,⟨⟨some 17,.call ⟨(.value (.func 113)),#[.tmp 14,(.const (.int .i64 0)),.tmp 16],#[3,3,3]⟩,none⟩,[]⟩,⟨⟨some 18,.unOp .not 4 (.tmp 17),none⟩,[]⟩,⟨⟨some 19,.move (.tmp 18),none⟩,[]⟩,
 ⟨⟨some 20,.move (.tmp 5),some (19,false)⟩,[]⟩,⟨⟨some 21,.binOp .gtr 3 (.tmp 20) (.const (.int .i64 0)) 3,some (19,false)⟩,[]⟩,⟨⟨some 22,.move (.tmp 21),some (19,false)⟩,[]⟩,⟨⟨some 23,.move (.tmp 6),some (22,true)⟩,[]⟩,⟨⟨some 24,.move (.tmp 0),some (22,true)⟩,[]⟩,⟨⟨some 25,.move (.tmp 5),some (22,true)⟩,[]⟩,⟨⟨some 26,.binOp .sub 3 (.tmp 25) (.const (.int .i64 1)) 3,some (22,true)⟩,[]⟩,⟨⟨some 27,.indexAddr 27 (.tmp 24) (.tmp 26),some (22,true)⟩,[]⟩,⟨⟨some 28,.load 3 (.tmp 27),some (22,true)⟩,[]⟩,⟨⟨some 29,.binOp .leq 3 (.tmp 23) (.tmp 28) 3,some (22,true)⟩,[]⟩,⟨⟨some 30,.pick (.tmp 22) (.tmp 29) (.const (.bool false)),some (19,false)⟩,[]⟩,⟨⟨some 31,.pick (.tmp 19) (.const (.bool true)) (.tmp 30),none⟩,[]⟩]) (.cond (.tmp 31) (.seq (.reg [⟨⟨some 4,.assign (.const (.bool false)),none⟩,[]⟩]) .ret) .skip)))) (.reg [⟨⟨some 32,.binOp .add 3 (.tmp 9) (.const (.int .i64 1)) 3,none⟩,[]⟩,
 ⟨⟨some 9,.move (.tmp 32),none⟩,[]⟩]))))))) (.seq (.reg [⟨⟨some 4,.assign (.const (.bool true)),none⟩,[]⟩]) .ret)))
theorem in128:InT Tryz.prog 128 2 [.tmp 4] cd128:=InT.mk (by kernel_rfl) [] Tryz.func128 rfl (by kernel_rfl) (by kernel_rfl) (of_decide_eq_true (by kernel_rfl)) (by kernel_rfl)
end Go.Proofs.YtjnefjchconebaaGreat.Ai
namespace Go.Proofs.YtjnefjchconebaaGreat.Ai
open Go Go.RowKit
instance (n:Int) (ys:List Int):Decidable (Rsg n ys):=by unfold Rsg;infer_instance
theorem isRising_c (v:Value)(ys:List Int)(n:Int)(H:AH)(hn:0<=n/\n<=1099511627776)(hr:Row 3 H v ys)(hlen:ys.length<=1099511627776) :
    ACalls Tryz.prog 128 [v,.int .i64 n] H fun r H'=>r=.bool (decide (Rsg n ys))/\H=H':=by
  refine in128 rfl ?_
  intro Q hQ
  simp (maxSteps:=1000000) (disch:=omega) only [cd128,hr.len Tryz.underlying27,SS,eq_self,reduceIte,reduceCtorEq,Nat.reduceEqDiff,Nat.reduceAdd]
  refine LoopH.by (fun m s H'=>∃ i,m+i=ys.length/\s 0=v/\s 1=.int .i64 n/\s 7=v/\s 8=.int .i64 (ys.length:Int)/\s 9=.int .i64 ((i:Nat):Int)/\H=H'/\∀ j,j<i->(0<=ys.getD j 0/\ys.getD j 0<=n - 1)/\(0<j->ys.getD (j - 1) 0<ys.getD j 0)) ys.length ?_ ?_
  . exact ⟨0,by simp,rfl,rfl,rfl,rfl,rfl,rfl,by omega⟩
  . rintro m s H' ⟨i,hm,h0,h1,h7,h8,h9,rfl,hj⟩
    simp (maxSteps:=1000000) (disch:=omega) only [h0,h1,h7,h8,h9,SS,eq_self,reduceIte,reduceCtorEq,Nat.reduceEqDiff,Nat.reduceAdd]
    refine brD.intro (fun g=>?_) (fun g=>?_)
    . have hi:i<ys.length:=by omega
      have hp:((i:Int) - 1).toNat=i - 1:=by omega
      have bad:¬ ((0<=ys.getD i 0/\ys.getD i 0<=n - 1)/\(0<i->ys.getD (i - 1) 0<ys.getD i 0))->decide (Rsg n ys)=false:=fun h=>decide_eq_false fun hh=>h (hh i hi)
      have nxt:((0<=ys.getD i 0/\ys.getD i 0<=n - 1)/\(0<i->ys.getD (i - 1) 0<ys.getD i 0))->∀ j,j<i+1->(0<=ys.getD j 0/\ys.getD j 0<=n - 1)/\(0<j->ys.getD (j - 1) 0<ys.getD j 0):=by
        intro h j hjj
        by_cases e:j=i
        . subst e;exact h
        . exact hj j (by omega)
      simp (maxSteps:=1000000) (disch:=omega) only [h0,h1,h7,h8,h9,hr.ix Tryz.underlying27 cs3,hr.cell,Int.toNat_natCast,wrap64,SS,eq_self,reduceIte,reduceCtorEq,Nat.reduceEqDiff,Nat.reduceAdd]
      refine CallH.by (between_c ..) ?_
      rintro _ _ ⟨rfl,rfl⟩
      simp (maxSteps:=1000000) (disch:=omega) only [SS,eq_self,reduceIte,reduceCtorEq,Nat.reduceEqDiff,Nat.reduceAdd]
      refine brD.intro (fun e=>?_) (fun e=>?_) <;> simp (maxSteps:=1000000) (disch:=omega) only [e,h0,h1,h7,h8,h9,wrap64,SS,eq_self,reduceIte,reduceCtorEq,Nat.reduceEqDiff,Nat.reduceAdd]
      . refine brD.intro (fun q=>?_) (fun q=>?_) <;> simp (maxSteps:=1000000) (disch:=omega) only [e,q,h0,h1,h7,h8,h9,hr.ix Tryz.underlying27 cs3,hr.cell,hp,wrap64,SS,eq_self,reduceIte,reduceCtorEq,Nat.reduceEqDiff,Nat.reduceAdd]
        . refine brD.intro (fun z=>?_) (fun z=>?_) <;> simp (maxSteps:=1000000) (disch:=omega) only [e,q,z,h0,h1,h7,h8,h9,wrap64,SS,eq_self,reduceIte,reduceCtorEq,Nat.reduceEqDiff,Nat.reduceAdd]
          . refine hQ _ _ _ ?_
            simp (maxSteps:=1000000) (disch:=omega) only [SS,eq_self,reduceIte,reduceCtorEq,Nat.reduceEqDiff,Nat.reduceAdd]
            rw [bad (fun h=>by have:=h.2 (by omega);omega)]
          . have fx:=nxt ⟨e,fun _=>by omega⟩
            refine ⟨m - 1,by omega,i+1,?_⟩
            (repeat' apply And.intro) <;> first | exact fx | (simp only [Value.int.injEq,true_and];omega) | omega | rfl | assumption | (simp;done) | (simp;omega)
        . have fx:=nxt ⟨e,fun _=>by omega⟩
          refine ⟨m - 1,by omega,i+1,?_⟩
          (repeat' apply And.intro) <;> first | exact fx | (simp only [Value.int.injEq,true_and];omega) | omega | rfl | assumption | (simp;done) | (simp;omega)
      . refine hQ _ _ _ ?_
        simp (maxSteps:=1000000) (disch:=omega) only [SS,eq_self,reduceIte,reduceCtorEq,Nat.reduceEqDiff,Nat.reduceAdd]
        rw [bad (fun h=>e h.1)]
    . simp (maxSteps:=1000000) (disch:=omega) only [h0,h1,h7,h8,h9,SS,eq_self,reduceIte,reduceCtorEq,Nat.reduceEqDiff,Nat.reduceAdd]
      refine hQ _ _ _ ?_
      simp (maxSteps:=1000000) (disch:=omega) only [SS,eq_self,reduceIte,reduceCtorEq,Nat.reduceEqDiff,Nat.reduceAdd]
      have:Rsg n ys:=fun j hjj=>hj j (by omega)
      simp [this]
theorem stpI_mem {p:List Int->List Int->Bool}{ls:List (List Int)}{i:Nat}{e:Int × Int}:∀ k,e ∈ stpI p ls i k↔e.1=i/\((i:Int)<e.2/\e.2<i+1+k)/\p (ls.getD i []) (ls.getD e.2.toNat [])=true
  | 0=>by simp [stpI];omega
  | k+1=>by
    rw [stpI,List.mem_append,stpI_mem k]
    constructor
    . rintro (⟨h1,h2,h3⟩ | h)
      . exact ⟨h1,by omega,h3⟩
      . split at h
        . rename_i hp
          rw [List.mem_singleton] at h
          subst h
          exact ⟨rfl,by simp only;omega,by rw [Int.toNat_natCast];exact hp⟩
        . simp at h
    . rintro ⟨h1,h2,h3⟩
      by_cases q:e.2=((i+1+k:Nat):Int)
      . right
        rw [q,Int.toNat_natCast] at h3
        rw [if_pos h3,List.mem_singleton]
        exact Prod.ext h1 q
      . exact .inl ⟨h1,by omega,h3⟩
theorem stpI_srt (p:List Int->List Int->Bool)(ls:List (List Int))(i:Nat):∀ k,(stpI p ls i k).Pairwise pairLt
  | 0=>.nil
  | k+1=>by
    rw [stpI,List.pairwise_append]
    refine ⟨stpI_srt p ls i k,by split <;> simp,fun a ha b hb=>?_⟩
    have h1:=(stpI_mem k).1 ha
    split at hb
    . rw [List.mem_singleton] at hb
      subst hb
      unfold pairLt;simp only;omega
    . simp at hb
theorem stpO_mem {p:List Int->List Int->Bool}{ls:List (List Int)}{e:Int × Int}:∀ i,i<=ls.length->(e ∈ stpO p ls i↔(0<=e.1/\e.1<i)/\(e.1<e.2/\e.2<ls.length)/\p (ls.getD e.1.toNat []) (ls.getD e.2.toNat [])=true)
  | 0,_=>by simp [stpO];omega
  | i+1,hi=>by
    rw [stpO,List.mem_append,stpO_mem i (by omega),stpI_mem]
    constructor
    . rintro (⟨h1,h2,h3⟩ | ⟨h1,h2,h3⟩)
      . exact ⟨by omega,h2,h3⟩
      . refine ⟨by omega,by omega,?_⟩
        rw [h1,Int.toNat_natCast];exact h3
    . rintro ⟨h1,h2,h3⟩
      by_cases q:e.1=i
      . right
        rw [q,Int.toNat_natCast] at h3
        exact ⟨q,by omega,h3⟩
      . exact .inl ⟨by omega,h2,h3⟩
theorem stpO_srt (p:List Int->List Int->Bool)(ls:List (List Int)):∀ i,i<=ls.length->(stpO p ls i).Pairwise pairLt
  | 0,_=>.nil
  | i+1,hi=>by
    rw [stpO,List.pairwise_append]
    refine ⟨stpO_srt p ls i (by omega),stpI_srt p ls i _,fun a ha b hb=>?_⟩
    have h1:=(stpO_mem i (by omega)).1 ha
    have h2:=(stpI_mem _).1 hb
    unfold pairLt;omega
theorem steps_ok (p:List Int->List Int->Bool)(ls:List (List Int)):StpOk ls.length (steps p ls) :=
  ⟨fun e he=>by have:=(stpO_mem _ (Nat.le_refl _)).1 he;omega,stpO_srt p ls _ (Nat.le_refl _)⟩
theorem steps_nb (p:List Int->List Int->Bool)(ls:List (List Int)){x y:Nat}(hx:x<ls.length)(hy:y<ls.length):(y:Int) ∈ nbS (steps p ls) x↔(y<x/\p (ls.getD y []) (ls.getD x [])=true)∨(x<y/\p (ls.getD x []) (ls.getD y [])=true):=by
  rw [nbS_mem,stpO_mem _ (Nat.le_refl _),stpO_mem _ (Nat.le_refl _)]
  simp only [Int.toNat_natCast]
  constructor
  . rintro (⟨h1,h2,h3⟩ | ⟨h1,h2,h3⟩)
    . exact .inl ⟨by omega,h3⟩
    . exact .inr ⟨by omega,h3⟩
  . rintro (⟨h1,h2⟩ | ⟨h1,h2⟩)
    . exact .inl ⟨by omega,by omega,h2⟩
    . exact .inr ⟨by omega,by omega,h2⟩
theorem nbS_cnt (p:List Int->List Int->Bool)(ls:List (List Int))(x:Nat):(nbS (steps p ls) x).length<=ls.countP fun m=>p m (ls.getD x []) || p (ls.getD x []) m:=by
  have hok:=steps_ok p ls
  have hasc:=nbS_asc hok (x:Int)
  have hm:(nbS (steps p ls) x).map (fun z=>z.toNat)=((List.range ls.length).filter fun y:Nat=>decide ((y:Int) ∈ nbS (steps p ls) x)):=by
    have hs:((nbS (steps p ls) x).map (fun z=>z.toNat)).Pairwise (· < ·):=by
      rw [List.pairwise_map]
      refine List.Pairwise.imp_of_mem ?_ hasc
      intro a b ha hb hab
      have:=nbS_rng hok ha;omega
    have hs2:=(List.pairwise_lt_range (n:=ls.length)).filter (fun y:Nat=>decide ((y:Int) ∈ nbS (steps p ls) x))
    refine List.Perm.eq_of_pairwise (le:=(· < ·)) (fun a b _ _ h3 h4=>by omega) hs hs2 ?_
    rw [List.perm_ext_iff_of_nodup (hs.imp fun h=>by omega) (hs2.imp fun h=>by omega)]
    intro y
    simp only [List.mem_map,List.mem_filter,List.mem_range,decide_eq_true_eq]
    constructor
    . rintro ⟨z,hz,rfl⟩
      have:=nbS_rng hok hz
      refine ⟨by omega,?_⟩
      rw [Int.toNat_of_nonneg this.1];exact hz
    . rintro ⟨_,h⟩
      exact ⟨_,h,by simp⟩
  have hl:=congrArg List.length hm
  rw [List.length_map] at hl
  rw [hl]
  by_cases hx:x<ls.length
  . have e1:ls=(List.range ls.length).map fun i=>ls.getD i []:=by
      refine List.ext_getElem (by simp) fun i h1 h2=>?_
      simp [h1]
    conv=>rhs;rw [e1]
    rw [List.countP_map,<- List.countP_eq_length_filter]
    refine List.countP_mono_left fun y hy hd=>?_
    have hyl:=List.mem_range.1 hy
    have:=(steps_nb p ls hx hyl).1 (of_decide_eq_true hd)
    have e2:((List.range ls.length).map fun i=>ls.getD i []).getD x []=ls.getD x []:=by rw [<- e1]
    simp only [Function.comp_apply,e2,Bool.or_eq_true]
    rcases this with h | h
    . exact .inl h.2
    . exact .inr h.2
  . have:((List.range ls.length).filter fun y:Nat=>decide ((y:Int) ∈ nbS (steps p ls) x))=[]:=by
      rw [List.filter_eq_nil_iff]
      intro y hy
      rw [decide_eq_true_eq,nbS_mem]
      rintro (h | h)
      . have:=hok.rng _ h;simp only at this;omega
      . have:=hok.rng _ h;simp only at this;omega
    rw [this];simp
def cd207:Cd:=(.seq (.reg [⟨⟨some 4,.assign (.const (.int .i64 0)),none⟩,[]⟩]) (.seq (.seq (.reg [⟨⟨some 6,.move (.tmp 0),none⟩,[]⟩,
  ⟨⟨some 7,.call ⟨(.builtin .len),#[.tmp 6],#[27]⟩,none⟩,[]⟩,
  ⟨⟨some 8,.move (.const (.int .i64 0)),none⟩,[]⟩]) (.block 0 (.loop (.seq (.reg [⟨⟨some 9,.binOp .lss 3 (.tmp 8) (.tmp 7) 3,none⟩,[]⟩]) (.seq (.cond (.tmp 9) .skip (.exit 0)) (.seq (.block 1 (.seq (.reg [⟨⟨some 10,.move (.tmp 8),none⟩,[]⟩,
  ⟨⟨some 5,.assign (.tmp 10),none⟩,[]⟩]) (.seq (.reg [⟨⟨some 11,.move (.tmp 1),none⟩,[]⟩,
  ⟨⟨some 12,.move (.tmp 0),none⟩,[]⟩,
  ⟨⟨some 13,.move (.tmp 5),none⟩,[]⟩,
  ⟨⟨some 14,.indexAddr 27 (.tmp 12) (.tmp 13),none⟩,[]⟩,
  ⟨⟨some 15,.load 3 (.tmp 14),none⟩,[]⟩,
  ⟨⟨some 16,.binOp .eql 3 (.tmp 11) (.tmp 15) 3,none⟩,[]⟩]) (.cond (.tmp 16) (.seq (.reg [⟨⟨some 17,.move (.tmp 5),none⟩,[]⟩,
  ⟨⟨some 4,.assign (.tmp 17),none⟩,[]⟩]) .ret) .skip)))) (.reg [⟨⟨some 18,.binOp .add 3 (.tmp 8) (.const (.int .i64 1)) 3,none⟩,[]⟩,
  ⟨⟨some 8,.move (.tmp 18),none⟩,[]⟩]))))))) (.seq (.reg [⟨⟨some 4,.assign (.const (.int .i64 (-1))),none⟩,[]⟩]) .ret)))
theorem in207:InT Tryz.prog 207 2 [.tmp 4] cd207:=InT.mk (by kernel_rfl) [] Tryz.func207 rfl (by kernel_rfl) (by kernel_rfl) (of_decide_eq_true (by kernel_rfl)) (by kernel_rfl)
def cd168:Cd:=(.seq (.reg [⟨⟨some 4,.assign (.const (.bool false)),none⟩,[]⟩]) (.seq (.reg [⟨⟨some 5,.move (.tmp 0),none⟩,[]⟩,
  ⟨⟨some 6,.move (.tmp 1),none⟩,[]⟩,
  ⟨⟨some 7,.call ⟨(.value (.func 207)),#[.tmp 5,.tmp 6],#[27,3]⟩,none⟩,[]⟩,
  ⟨⟨some 8,.binOp .geq 3 (.tmp 7) (.const (.int .i64 0)) 3,none⟩,[]⟩,
  ⟨⟨some 4,.assign (.tmp 8),none⟩,[]⟩]) .ret))
theorem in168:InT Tryz.prog 168 2 [.tmp 4] cd168:=InT.mk (by kernel_rfl) [] Tryz.func168 rfl (by kernel_rfl) (by kernel_rfl) (of_decide_eq_true (by kernel_rfl)) (by kernel_rfl)
end Go.Proofs.YtjnefjchconebaaGreat.Ai
namespace Go.Proofs.YtjnefjchconebaaGreat.Ai
open Go Go.RowKit
theorem Index_c (v:Value)(xs:List Int)(x:Int)(H:AH)(hr:Row 3 H v xs)(hlen:xs.length<=1099511627776) :
    ACalls Tryz.prog 207 [v,.int .i64 x] H fun r H'=>r=.int .i64 (idxP (fun y=>decide (x=y)) xs 0)/\H=H':=by
  refine in207 rfl ?_
  intro Q hQ
  simp (maxSteps:=1000000) (disch:=omega) only [cd207,hr.len Tryz.underlying27,SS,eq_self,reduceIte,reduceCtorEq,Nat.reduceEqDiff,Nat.reduceAdd]
  refine LoopH.by (fun m s H'=>∃ i,m+i=xs.length/\s 0=v/\s 1=.int .i64 x/\s 7=.int .i64 (xs.length:Int)/\s 8=.int .i64 ((i:Nat):Int)/\H=H'/\idxP (fun y=>decide (x=y)) xs 0=idxP (fun y=>decide (x=y)) (xs.drop i) i) xs.length ?_ ?_
  . exact ⟨0,by simp,rfl,rfl,rfl,rfl,rfl,by simp⟩
  . rintro m s H' ⟨i,hm,h0,h1,h7,h8,rfl,hn⟩
    simp (maxSteps:=1000000) (disch:=omega) only [h0,h1,h7,h8,SS,eq_self,reduceIte,reduceCtorEq,Nat.reduceEqDiff,Nat.reduceAdd]
    refine brD.intro (fun g=>?_) (fun g=>?_) <;> simp (maxSteps:=1000000) (disch:=omega) only [h0,h1,h8,h7,hr.ix Tryz.underlying27 cs3,hr.cell,Int.toNat_natCast,SS,eq_self,reduceIte,reduceCtorEq,Nat.reduceEqDiff,Nat.reduceAdd]
    . have hi:i<xs.length:=by omega
      rw [idxP_step _ xs i hi] at hn
      refine brD.intro (fun e=>?_) (fun e=>?_) <;> simp (maxSteps:=1000000) (disch:=omega) only [h0,h1,h7,h8,wrap64,SS,eq_self,reduceIte,reduceCtorEq,Nat.reduceEqDiff,Nat.reduceAdd]
      . refine hQ _ _ _ ?_
        simp (maxSteps:=1000000) (disch:=omega) only [SS,eq_self,reduceIte,reduceCtorEq,Nat.reduceEqDiff,Nat.reduceAdd]
        rw [hn,if_pos (by simpa using e)]
      . rw [if_neg (by simpa using e)] at hn
        refine ⟨m - 1,by omega,i+1,by omega,?_⟩
        (repeat' apply And.intro) <;> first | exact hn | (simp only [Value.int.injEq,true_and];omega) | omega | rfl | assumption | (simp;done) | (simp;omega)
    . refine hQ _ _ _ ?_
      simp (maxSteps:=1000000) (disch:=omega) only [SS,eq_self,reduceIte,reduceCtorEq,Nat.reduceEqDiff,Nat.reduceAdd]
      rw [hn,List.drop_of_length_le (by omega)];rfl
theorem Contains_c (v:Value)(xs:List Int)(x:Int)(H:AH)(hr:Row 3 H v xs)(hlen:xs.length<=1099511627776) :
    ACalls Tryz.prog 168 [v,.int .i64 x] H fun r H'=>r=.bool (decide (x ∈ xs))/\H=H':=by
  refine in168 rfl ?_
  intro Q hQ
  simp (maxSteps:=1000000) (disch:=omega) only [cd168,SS,eq_self,reduceIte,reduceCtorEq,Nat.reduceEqDiff,Nat.reduceAdd]
  refine CallH.by (Index_c v xs x H hr hlen) ?_
  rintro _ _ ⟨rfl,rfl⟩
  simp (maxSteps:=1000000) (disch:=omega) only [SS,eq_self,reduceIte,reduceCtorEq,Nat.reduceEqDiff,Nat.reduceAdd]
  refine hQ _ _ _ ?_
  simp (maxSteps:=1000000) (disch:=omega) only [SS,eq_self,reduceIte,reduceCtorEq,Nat.reduceEqDiff,Nat.reduceAdd]
  have h1:=idxP_any (fun y=>decide (x=y)) xs 0
  have h2:xs.any (fun y=>decide (x=y))=true↔x ∈ xs:=by simp
  have:(0<=idxP (fun y=>decide (x=y)) xs 0)↔x ∈ xs:=h1.trans h2
  simp only [this]
def cd109:Cd:=(.seq (.reg [⟨⟨some 4,.assign (.const (.slice none 0 0)),none⟩,[]⟩]) (.seq (.reg [⟨⟨some 8,.buildSlice 27 0 #[],none⟩,[]⟩,⟨⟨some 5,.assign (.tmp 8),none⟩,[]⟩]) (.seq (.seq (.reg [⟨⟨some 9,.move (.tmp 0),none⟩,[]⟩,⟨⟨some 10,.call ⟨(.builtin .len),#[.tmp 9],#[27]⟩,none⟩,[]⟩,⟨⟨some 11,.move (.const (.int .i64 0)),none⟩,[]⟩]) (.block 0 (.loop (.seq (.reg [⟨⟨some 12,.binOp .lss 3 (.tmp 11) (.tmp 10) 3,none⟩,[]⟩]) (.seq (.cond (.tmp 12) .skip (.exit 0)) (.seq (.block 1 (.seq (.reg [⟨⟨some 13,.indexAddr 27 (.tmp 9) (.tmp 11),none⟩,[]⟩,⟨⟨some 14,.load 3 (.tmp 13),none⟩,[]⟩,⟨⟨some 7,.assign (.tmp 14),none⟩,[]⟩]) (.seq (.reg [⟨⟨some 15,.move (.tmp 1),none⟩,[]⟩,⟨⟨some 16,.move (.tmp 7),none⟩,[]⟩,⟨⟨some 17,.call ⟨(.value (.func 168)),#[.tmp 15,.tmp 16],#[27,3]⟩,none⟩,[]⟩,⟨⟨some 18,.unOp .not 4 (.tmp 17),none⟩,[]⟩]) (.cond (.tmp 18) (.reg [⟨⟨some 19,.move (.tmp 5),none⟩,[]⟩,⟨⟨some 20,.move (.tmp 7),none⟩,[]⟩,⟨⟨some 21,.buildSlice 27 1 #[(0,.tmp 20)],none⟩,[]⟩,⟨⟨some 22,.call ⟨(.builtin .append),#[.tmp 19,.tmp 21],#[27,27]⟩,none⟩,[]⟩,
 ⟨⟨some 5,.assign (.tmp 22),none⟩,[]⟩]) .skip)))) (.reg [⟨⟨some 23,.binOp .add 3 (.tmp 11) (.const (.int .i64 1)) 3,none⟩,[]⟩,
  ⟨⟨some 11,.move (.tmp 23),none⟩,[]⟩]))))))) (.seq (.reg [⟨⟨some 24,.move (.tmp 5),none⟩,[]⟩,
  ⟨⟨some 4,.assign (.tmp 24),none⟩,[]⟩]) .ret))))
theorem in109:InT Tryz.prog 109 2 [.tmp 4] cd109:=InT.mk (by kernel_rfl) [] Tryz.func109 rfl (by kernel_rfl) (by kernel_rfl) (of_decide_eq_true (by kernel_rfl)) (by kernel_rfl)
end Go.Proofs.YtjnefjchconebaaGreat.Ai
namespace Go.Proofs.YtjnefjchconebaaGreat.Ai
open Go Go.RowKit
def without (xs ys:List Int):List Int:=xs.filter fun x=>decide (¬ x ∈ ys)
theorem without_step (xs ys:List Int)(i:Nat)(hi:i<xs.length):without (xs.take (i+1)) ys=without (xs.take i) ys ++ if xs.getD i 0 ∈ ys then [] else [xs.getD i 0]:=by
  unfold without
  rw [List.take_add_one,List.getElem?_eq_getElem hi,List.filter_append]
  have hx:xs.getD i 0=xs[i]:=by simp [hi]
  rw [hx]
  by_cases h:xs[i] ∈ ys <;> simp [h]
theorem without_len (xs ys:List Int):(without xs ys).length<=xs.length:=List.length_filter_le _ _
theorem without_c (v w:Value)(xs ys:List Int)(H:AH)(hr:Row 3 H v xs)(hlen:xs.length<=1099511627776)(hr2:Row 3 H w ys)(hlen2:ys.length<=1099511627776) :
    ACalls Tryz.prog 109 [v,w] H fun r H'=>Own 3 H H' r (without xs ys)/\H<+:H':=by
  refine in109 rfl ?_
  intro Q hQ
  have hp0:=List.prefix_append H [AObj.cells [] 3 false]
  have hown0:Own 3 H (H ++ [AObj.cells [] 3 false]) (.slice (some ⟨H.length,0,none⟩) 0 0) []:=.inr ⟨H.length,rfl,Nat.le_refl _,at_new ..⟩
  simp (maxSteps:=1000000) (disch:=omega) only [cd109,hr.len Tryz.underlying27,SS,eq_self,reduceIte,reduceCtorEq,Nat.reduceEqDiff,Nat.reduceAdd]
  refine LoopH.by (fun m s H'=>∃ i,m+i=xs.length/\s 1=w/\s 9=v/\s 10=.int .i64 (xs.length:Int)/\s 11=.int .i64 ((i:Nat):Int)/\Own 3 H H' (s 5) (without (xs.take i) ys)/\H<+:H') xs.length ?_ ?_
  . refine ⟨0,by simp,rfl,rfl,rfl,rfl,?_,hp0⟩
    simp (maxSteps:=1000000) (disch:=omega) only [SS,eq_self,reduceIte,reduceCtorEq,Nat.reduceEqDiff,Nat.reduceAdd];exact hown0
  . rintro m s H' ⟨i,hm,h1,hl,hn,hi',hown,hpp⟩
    have hr':=hr.pre hpp
    have hr2':=hr2.pre hpp
    have wl:=without_len (xs.take i) ys
    have wl2:(xs.take i).length<=i:=by simp;omega
    have st0:=fun hi=>without_step xs ys i hi
    have we:xs.length<=i->without xs ys=without (xs.take i) ys:=fun h=>by rw [List.take_of_length_le h]
    generalize hW:without (xs.take i) ys=W at *
    generalize hw:s 5=u at *
    simp (maxSteps:=1000000) (disch:=omega) only [h1,hl,hn,hi',hw,SS,eq_self,reduceIte,reduceCtorEq,Nat.reduceEqDiff,Nat.reduceAdd]
    refine brD.intro (fun g=>?_) (fun g=>?_) <;> simp (maxSteps:=1000000) (disch:=omega) only [h1,hl,hn,hi',hw,hr'.ix Tryz.underlying27 cs3,hr'.cell,Int.toNat_natCast,SS,eq_self,reduceIte,reduceCtorEq,Nat.reduceEqDiff,Nat.reduceAdd]
    . have hi:i<xs.length:=by omega
      have st:=st0 hi
      refine CallH.by (Contains_c w ys _ H' hr2' hlen2) ?_
      rintro _ _ ⟨rfl,rfl⟩
      simp (maxSteps:=1000000) (disch:=omega) only [SS,eq_self,reduceIte,reduceCtorEq,Nat.reduceEqDiff,Nat.reduceAdd]
      refine brD.intro (fun e=>?_) (fun e=>?_)
      . rw [if_pos e,List.append_nil] at st
        simp (maxSteps:=1000000) (disch:=omega) only [h1,hl,hn,hi',hw,wrap64,SS,eq_self,reduceIte,reduceCtorEq,Nat.reduceEqDiff,Nat.reduceAdd]
        refine ⟨m - 1,by omega,i+1,by omega,?_⟩
        rw [st]
        (repeat' apply And.intro) <;> first | (simp only [Value.int.injEq,true_and];omega) | omega | rfl | assumption | (simp;done) | (simp;omega)
      . rw [if_neg e] at st
        obtain ⟨w',H2,k1,k2,k3,k4,k5,k6⟩:=own1_27 hown hpp (by omega) (xs.getD i 0)
        rw [<- st] at k2
        simp (maxSteps:=1000000) (disch:=omega) only [h1,hl,hn,hi',hw,k1,wrap64,SS,eq_self,reduceIte,reduceCtorEq,Nat.reduceEqDiff,Nat.reduceAdd]
        refine ⟨m - 1,by omega,i+1,by omega,?_⟩
        (repeat' apply And.intro) <;> first | exact k2 | exact k3 | (simp only [Value.int.injEq,true_and];omega) | omega | rfl | assumption | (simp;done) | (simp;omega)
    . refine hQ _ _ _ ?_
      simp (maxSteps:=1000000) (disch:=omega) only [hw,hown.row.tup,SS,eq_self,reduceIte,reduceCtorEq,Nat.reduceEqDiff,Nat.reduceAdd]
      rw [we (by omega)]
      exact ⟨hown,hpp⟩
def pdB (x y:List Int):Bool:=decide ((without x y).length=1)
def pdDeg (ls:List (List Int)):Bool:=ls.all fun l=>Nat.ble (ls.countP fun m=>pdB m l || pdB l m) 12
def pdCon (ls:List (List Int)):Bool:=(List.range ls.length).all fun i=>i == 0 || (ls.take i).any fun m=>pdB m (ls.getD i [])
def pdOk (n:Int):Bool:=pdDeg (triA n) && pdCon (triA n)
set_option maxRecDepth 100000 in
theorem pd3:pdOk 3=true:=by decide +kernel
set_option maxRecDepth 100000 in
theorem pd4:pdOk 4=true:=by decide +kernel
set_option maxRecDepth 100000 in
theorem pd5:pdOk 5=true:=by decide +kernel
set_option maxRecDepth 100000 in
theorem pd6:pdOk 6=true:=by decide +kernel
set_option maxRecDepth 100000 in
theorem pd7:pdOk 7=true:=by decide +kernel
set_option maxRecDepth 100000 in
theorem pd8:pdOk 8=true:=by decide +kernel
theorem pd_ok {n:Int}(hn:3<=n/\n<=8):(∀ x,(nbS (steps pdB (triA n)) x).length<=12)/\∀ i,0<i->i<(triA n).length->∃ j,j<i/\pdB ((triA n).getD j []) ((triA n).getD i [])=true:=by
  have h:pdOk n=true:=by
    have:n=3∨n=4∨n=5∨n=6∨n=7∨n=8:=by omega
    rcases this with rfl | rfl | rfl | rfl | rfl | rfl
    . exact pd3
    . exact pd4
    . exact pd5
    . exact pd6
    . exact pd7
    . exact pd8
  unfold pdOk at h
  rw [Bool.and_eq_true] at h
  obtain ⟨h1,h2⟩:=h
  unfold pdDeg at h1
  unfold pdCon at h2
  rw [List.all_eq_true] at h1 h2
  have hok:=steps_ok pdB (triA n)
  refine ⟨fun x=>?_,fun i h0 hi=>?_⟩
  . by_cases hx:0<=x/\x<(triA n).length
    . obtain ⟨y,rfl⟩:∃ y:Nat,x=y:=⟨x.toNat,by omega⟩
      refine Nat.le_trans (nbS_cnt pdB (triA n) y) ?_
      have hm:(triA n).getD y [] ∈ triA n:=by simp [show y<(triA n).length by omega]
      exact Nat.le_of_ble_eq_true (h1 _ hm)
    . have:nbS (steps pdB (triA n)) x=[]:=by
        refine List.eq_nil_iff_forall_not_mem.2 fun z hz=>?_
        rcases (nbS_mem _ _ _).1 hz with q | q
        . have:=hok.rng _ q;simp only at this;omega
        . have:=hok.rng _ q;simp only at this;omega
      rw [this];simp
  . have:=h2 i (List.mem_range.2 hi)
    rw [Bool.or_eq_true] at this
    rcases this with q | q
    . simp only [beq_iff_eq] at q;omega
    . obtain ⟨m,hm,hp⟩:=List.any_eq_true.1 q
      obtain ⟨j,hj,rfl⟩:=List.mem_iff_getElem.1 hm
      rw [List.length_take] at hj
      refine ⟨j,by omega,?_⟩
      have e:(triA n).getD j []=((triA n).take i)[j]:=by
        rw [List.getElem_take];simp [show j<(triA n).length by omega]
      rw [e];exact hp
theorem con_all {p:List Int->List Int->Bool}{ls:List (List Int)}(h:∀ i,0<i->i<ls.length->∃ j,j<i/\p (ls.getD j []) (ls.getD i [])=true){i:Nat}(hi:i<ls.length):∀ j,j<ls.length->0<=(bfs (rdS ls.length (steps p ls)) i).getD j 0:=by
  have hok:=steps_ok p ls
  have hL:=rdS_ok hok
  have hl:=rdS_len ls.length (steps p ls)
  have hz:=bfs_zero hL (show i<(rdS ls.length (steps p ls)).length by omega)
  have clo:∀ u y:Nat,u<ls.length->y<ls.length->0<=(bfs (rdS ls.length (steps p ls)) i).getD u 0->(y:Int) ∈ nbS (steps p ls) u->0<=(bfs (rdS ls.length (steps p ls)) i).getD y 0:=by
    intro u y hu hy h0 hm
    have:=bfs_clo hL (show i<(rdS ls.length (steps p ls)).length by omega) (show u<(rdS ls.length (steps p ls)).length by omega) h0 (y:=(y:Int)) (by rw [rdS_at _ _ hu];exact hm)
    rwa [Int.toNat_natCast] at this
  have down:∀ m,m<ls.length->0<=(bfs (rdS ls.length (steps p ls)) i).getD m 0->0<=(bfs (rdS ls.length (steps p ls)) i).getD 0 0:=by
    intro m
    induction m using Nat.strongRecOn with
    | ind m ih =>
      intro hm h0
      by_cases e:m=0
      . subst e;exact h0
      . obtain ⟨j,j1,j2⟩:=h m (by omega) hm
        exact ih j j1 (by omega) (clo m j hm (by omega) h0 ((steps_nb p ls hm (by omega)).2 (.inl ⟨j1,j2⟩)))
  have h00:=down i hi (by omega)
  intro j
  induction j using Nat.strongRecOn with
  | ind j ih =>
    intro hj
    by_cases e:j=0
    . subst e;exact h00
    . obtain ⟨k,k1,k2⟩:=h j (by omega) hj
      exact clo k j (by omega) hj (ih k k1 (by omega)) ((steps_nb p ls (by omega) hj).2 (.inr ⟨k1,k2⟩))
theorem tex_mem {all:List Int}(hs:all.Pairwise (· < ·)){h:Nat}:∀ (k:Nat) (ed r:List Int),k<=all.length->r.Pairwise (· < ·)->(∀ d ∈ r,d ∈ all.drop (all.length - k))->(∀ i,i<r.length->apB (ed ++ r.take i) (r.getD i 0)=true)->ed.length+r.length=h->ed ++ r ∈ tex all h k ed
  | 0,ed,r,hk,hr,hd,ha,hl=>by
    have:r=[]:=List.eq_nil_iff_forall_not_mem.2 fun d hm=>by
      have:=hd d hm
      rw [Nat.sub_zero,List.drop_length] at this
      simp at this
    subst this
    unfold tex
    rw [if_pos (by simpa using hl)];simp
  | k+1,ed,[],hk,hr,hd,ha,hl=>by
    unfold tex
    rw [if_pos (by simpa using hl)];simp
  | k+1,ed,d :: r,hk,hr,hd,ha,hl=>by
    have hne:ed.length ≠ h:=by rw [List.length_cons] at hl;omega
    unfold tex
    rw [if_neg hne,tlp_step,List.mem_append]
    have hlt:all.length - (k+1)<all.length:=by omega
    have hdr:all.drop (all.length - (k+1))=all.getD (all.length - (k+1)) 0 :: all.drop (all.length - k):=by
      rw [List.drop_eq_getElem_cons hlt]
      have e:all.length - (k+1)+1=all.length - k:=by omega
      rw [e];congr 1;simp [hlt]
    generalize hz:all.getD (all.length - (k+1)) 0=z at *
    have hsd:(z :: all.drop (all.length - k)).Pairwise (· < ·):=by rw [<- hdr];exact hs.sublist (List.drop_sublist _ _)
    have hr':=List.pairwise_cons.1 hr
    have hzl:=(List.pairwise_cons.1 hsd).1
    by_cases e:d=z
    . subst e
      have h0:=ha 0 (by simp)
      have h0':apB ed d=true:=by simpa using h0
      left
      rw [if_pos h0']
      have:=tex_mem hs (h:=h) k (ed ++ [d]) r (by omega) hr'.2 (fun x hx=>by
        have h1:=hd x (by simp [hx])
        rw [hdr] at h1
        rcases List.mem_cons.1 h1 with q | q
        . have:=hr'.1 x hx;omega
        . exact q) (fun i hi=>by
        have h1:=ha (i+1) (by simpa using hi)
        simpa using h1) (by simp only [List.length_append,List.length_cons,List.length_nil] at hl ⊢;omega)
      simpa using this
    . right
      have hd2:∀ x ∈ d :: r,x ∈ all.drop (all.length - k):=by
        intro x hx
        have h1:=hd x hx
        rw [hdr] at h1
        rcases List.mem_cons.1 h1 with q | q
        . have hdz:z<d:=by
            have h2:=hd d (by simp)
            rw [hdr] at h2
            rcases List.mem_cons.1 h2 with q2 | q2
            . exact absurd q2 e
            . exact hzl d q2
          rcases List.mem_cons.1 hx with q3 | q3
          . omega
          . have:=hr'.1 x q3;omega
        . exact q
      have:=tex_mem hs (h:=h) k ed (d :: r) (by omega) hr hd2 ha hl
      unfold tex at this
      rwa [if_neg hne] at this
theorem tri_mem {n:Int}(hn:3<=n/\n<=8){xs:List Int}(h:triS n xs=true):xs ∈ triA n:=by
  obtain ⟨_,_,_,_,_,h6⟩:=triA_ok hn
  unfold triS at h
  rw [Bool.and_eq_true,List.all_eq_true,decide_eq_true_eq] at h
  obtain ⟨h1,h2⟩:=h
  have ok:∀ i,i<xs.length->xs.getD i 0 ∈ dgs n n.toNat/\(i=0∨xs.getD (i - 1) 0<xs.getD i 0)/\apB (xs.take i) (xs.getD i 0)=true:=by
    intro i hi
    have:=h1 i (List.mem_range.2 hi)
    unfold triOkS at this
    rw [Bool.and_eq_true,Bool.and_eq_true,Bool.or_eq_true,decide_eq_true_eq,decide_eq_true_eq,decide_eq_true_eq] at this
    exact ⟨this.1.1,this.1.2,this.2⟩
  have hs:(dgs n n.toNat).Pairwise (· < ·):=by
    rw [List.pairwise_iff_getElem]
    intro i j hi hj hij
    have:=h6 i j hij hj
    have e1:(dgs n n.toNat).getD i 0=(dgs n n.toNat)[i]:=by simp [hi]
    have e2:(dgs n n.toNat).getD j 0=(dgs n n.toNat)[j]:=by simp [hj]
    rwa [e1,e2] at this
  have hup:∀ k i,i+k<xs.length->0<k->xs.getD i 0<xs.getD (i+k) 0:=by
    intro k
    induction k with
    | zero=>intro i _ h0;omega
    | succ k ih =>
      intro i hi _
      have h3:=(ok (i+(k+1)) hi).2.1.resolve_left (by omega)
      have e:i+(k+1) - 1=i+k:=by omega
      rw [e] at h3
      by_cases q:k=0
      . subst q;exact h3
      . have:=ih i (by omega) (by omega);omega
  have hr:xs.Pairwise (· < ·):=by
    rw [List.pairwise_iff_getElem]
    intro i j hi hj hij
    have:=hup (j - i) i (by omega) (by omega)
    have e:i+(j - i)=j:=by omega
    rw [e] at this
    have e1:xs.getD i 0=xs[i]:=by simp [hi]
    have e2:xs.getD j 0=xs[j]:=by simp [hj]
    rwa [e1,e2] at this
  have:=tex_mem hs (h:=(n - 3).toNat) (dgs n n.toNat).length [] xs (Nat.le_refl _) hr (fun d hd=>by
    obtain ⟨i,hi,rfl⟩:=List.mem_iff_getElem.1 hd
    have:=(ok i hi).1
    rw [Nat.sub_self,List.drop_zero]
    simpa [hi] using this) (fun i hi=>by rw [List.nil_append];exact (ok i hi).2.2) (by simp;omega)
  simpa [triA] using this
def cd212:Cd:=(.seq (.reg [⟨⟨some 4,.assign (.const (.int .i64 0)),none⟩,[]⟩]) (.seq (.seq (.reg [⟨⟨some 6,.move (.tmp 0),none⟩,[]⟩,
  ⟨⟨some 7,.call ⟨(.builtin .len),#[.tmp 6],#[36]⟩,none⟩,[]⟩,
  ⟨⟨some 8,.move (.const (.int .i64 0)),none⟩,[]⟩]) (.block 0 (.loop (.seq (.reg [⟨⟨some 9,.binOp .lss 3 (.tmp 8) (.tmp 7) 3,none⟩,[]⟩]) (.seq (.cond (.tmp 9) .skip (.exit 0)) (.seq (.block 1 (.seq (.reg [⟨⟨some 10,.move (.tmp 8),none⟩,[]⟩,
  ⟨⟨some 5,.assign (.tmp 10),none⟩,[]⟩]) (.seq (.reg [⟨⟨some 11,.move (.tmp 1),none⟩,[]⟩,
  ⟨⟨some 12,.move (.tmp 0),none⟩,[]⟩,
  ⟨⟨some 13,.move (.tmp 5),none⟩,[]⟩,
  ⟨⟨some 14,.indexAddr 36 (.tmp 12) (.tmp 13),none⟩,[]⟩,
  ⟨⟨some 15,.load 27 (.tmp 14),none⟩,[]⟩,
  ⟨⟨some 16,.call ⟨(.value (.tmp 11)),#[.tmp 15],#[27]⟩,none⟩,[]⟩]) (.cond (.tmp 16) (.seq (.reg [⟨⟨some 17,.move (.tmp 5),none⟩,[]⟩,
  ⟨⟨some 4,.assign (.tmp 17),none⟩,[]⟩]) .ret) .skip)))) (.reg [⟨⟨some 18,.binOp .add 3 (.tmp 8) (.const (.int .i64 1)) 3,none⟩,[]⟩,
  ⟨⟨some 8,.move (.tmp 18),none⟩,[]⟩]))))))) (.seq (.reg [⟨⟨some 4,.assign (.const (.int .i64 (-1))),none⟩,[]⟩]) .ret)))
theorem in212:InT Tryz.prog 212 2 [.tmp 4] cd212:=InT.mk (by kernel_rfl) [] Tryz.func212 rfl (by kernel_rfl) (by kernel_rfl) (of_decide_eq_true (by kernel_rfl)) (by kernel_rfl)
def cd175:Cd:=(.seq (.reg [⟨⟨some 4,.assign (.const (.bool false)),none⟩,[]⟩]) (.seq (.reg [⟨⟨some 5,.move (.tmp 0),none⟩,[]⟩,
  ⟨⟨some 6,.move (.tmp 1),none⟩,[]⟩,
  ⟨⟨some 7,.call ⟨(.value (.func 212)),#[.tmp 5,.tmp 6],#[36,84]⟩,none⟩,[]⟩,
  ⟨⟨some 8,.binOp .geq 3 (.tmp 7) (.const (.int .i64 0)) 3,none⟩,[]⟩,
  ⟨⟨some 4,.assign (.tmp 8),none⟩,[]⟩]) .ret))
theorem in175:InT Tryz.prog 175 2 [.tmp 4] cd175:=InT.mk (by kernel_rfl) [] Tryz.func175 rfl (by kernel_rfl) (by kernel_rfl) (of_decide_eq_true (by kernel_rfl)) (by kernel_rfl)
end Go.Proofs.YtjnefjchconebaaGreat.Ai
namespace Go.Proofs.YtjnefjchconebaaGreat.Ai
open Go Go.RowKit
def idxB:List Bool->Nat->Int
  | [],_ => -1
  | b :: bs,k=>if b=true then (k:Int) else idxB bs (k+1)
theorem idxB_step (bs:List Bool)(i:Nat)(hi:i<bs.length):idxB (bs.drop i) i=if bs.getD i false=true then (i:Int) else idxB (bs.drop (i+1)) (i+1):=by
  rw [List.drop_eq_getElem_cons hi]
  simp [idxB,hi]
theorem idxB_any:∀ (bs:List Bool) (k:Nat),(0<=idxB bs k)↔bs.any id=true
  | [],k=>by simp [idxB]
  | b :: bs,k=>by
    simp only [idxB,List.any_cons,id]
    cases b with
    | true=>simp
    | false=>simp only [Bool.false_eq_true,if_false,Bool.false_or];exact idxB_any bs (k+1)
theorem IndexFuncL_c (v:Value)(us:List Value)(bs:List Bool)(g:FuncId)(caps:List Value)(H:AH)(hr:RowV 27 H v us)(hlen:us.length<=1099511627776)(hb:bs.length=us.length)
    (hp:∀ i,i<us.length->∀ H1,H<+:H1->ACalls Tryz.prog g (us.getD i undef :: caps) H1 fun r H'=>r=.bool (bs.getD i false)/\H1<+:H') :
    ACalls Tryz.prog 212 [v,.func (.func g) #[] (List.toArray caps)] H fun r H'=>r=.int .i64 (idxB bs 0)/\H<+:H':=by
  refine in212 rfl ?_
  intro Q hQ
  simp (maxSteps:=1000000) (disch:=omega) only [cd212,hr.len Tryz.underlying36,SS,eq_self,reduceIte,reduceCtorEq,Nat.reduceEqDiff,Nat.reduceAdd]
  refine LoopH.by (fun m s H'=>∃ i,m+i=us.length/\s 0=v/\s 1=.func (.func g) #[] (List.toArray caps)/\s 8=.int .i64 ((i:Nat):Int)/\s 7=.int .i64 (us.length:Int)/\H<+:H'/\idxB bs 0=idxB (bs.drop i) i) us.length ?_ ?_
  . exact ⟨0,by simp,rfl,rfl,rfl,rfl,List.prefix_refl _,by simp⟩
  . rintro m s H' ⟨i,hm,h0,h1,h8,h7,hpp,hn⟩
    have hr':=hr.pre hpp
    simp (maxSteps:=1000000) (disch:=omega) only [h0,h1,h8,h7,SS,eq_self,reduceIte,reduceCtorEq,Nat.reduceEqDiff,Nat.reduceAdd]
    refine brD.intro (fun g=>?_) (fun g=>?_) <;> simp (maxSteps:=1000000) (disch:=omega) only [h0,h1,h8,h7,hr'.ix Tryz.underlying36 cs27,hr'.cell,Int.toNat_natCast,SS,eq_self,reduceIte,reduceCtorEq,Nat.reduceEqDiff,Nat.reduceAdd]
    . have hi:i<us.length:=by omega
      rw [idxB_step bs i (by omega)] at hn
      refine CallH.by (hp i hi H' hpp) ?_
      rintro _ H2 ⟨rfl,hp2⟩
      simp (maxSteps:=1000000) (disch:=omega) only [SS,eq_self,reduceIte,reduceCtorEq,Nat.reduceEqDiff,Nat.reduceAdd]
      refine brH.intro (fun e=>?_) (fun e=>?_) <;> simp (maxSteps:=1000000) (disch:=omega) only [h0,h1,h8,h7,wrap64,SS,eq_self,reduceIte,reduceCtorEq,Nat.reduceEqDiff,Nat.reduceAdd]
      . refine hQ _ _ _ ?_
        simp (maxSteps:=1000000) (disch:=omega) only [SS,eq_self,reduceIte,reduceCtorEq,Nat.reduceEqDiff,Nat.reduceAdd]
        rw [hn,if_pos e]
        exact ⟨rfl,hpp.trans hp2⟩
      . rw [if_neg (by rw [e];decide)] at hn
        exact ⟨m - 1,by omega,i+1,by omega,by simp,hpp.trans hp2,hn⟩
    . refine hQ _ _ _ ?_
      simp (maxSteps:=1000000) (disch:=omega) only [SS,eq_self,reduceIte,reduceCtorEq,Nat.reduceEqDiff,Nat.reduceAdd]
      rw [hn,List.drop_of_length_le (by omega)]
      exact ⟨rfl,hpp⟩
theorem ContainsFuncL_c (v:Value)(us:List Value)(bs:List Bool)(g:FuncId)(caps:List Value)(H:AH)(hr:RowV 27 H v us)(hlen:us.length<=1099511627776)(hb:bs.length=us.length)
    (hp:∀ i,i<us.length->∀ H1,H<+:H1->ACalls Tryz.prog g (us.getD i undef :: caps) H1 fun r H'=>r=.bool (bs.getD i false)/\H1<+:H') :
    ACalls Tryz.prog 175 [v,.func (.func g) #[] (List.toArray caps)] H fun r H'=>r=.bool (bs.any id)/\H<+:H':=by
  refine in175 rfl ?_
  intro Q hQ
  simp (maxSteps:=1000000) (disch:=omega) only [cd175,SS,eq_self,reduceIte,reduceCtorEq,Nat.reduceEqDiff,Nat.reduceAdd]
  refine CallH.by (IndexFuncL_c v us bs g caps H hr hlen hb hp) ?_
  rintro _ H1 ⟨rfl,hp1⟩
  simp (maxSteps:=1000000) (disch:=omega) only [SS,eq_self,reduceIte,reduceCtorEq,Nat.reduceEqDiff,Nat.reduceAdd]
  refine hQ _ _ _ ?_
  simp (maxSteps:=1000000) (disch:=omega) only [SS,eq_self,reduceIte,reduceCtorEq,Nat.reduceEqDiff,Nat.reduceAdd]
  refine ⟨?_,hp1⟩
  have:=idxB_any bs 0
  by_cases h:0<=idxB bs 0
  . simp [h,this.1 h]
  . have h2:bs.any id=false:=by cases e:bs.any id <;> first | rfl | exact absurd (this.2 e) h
    simp [h,h2]
def cd100:Cd:=(.seq (.reg [⟨⟨some 4,.assign (.const (.bool false)),none⟩,[]⟩]) (.seq (.reg [⟨⟨some 5,.move (.tmp 0),none⟩,[]⟩,
  ⟨⟨some 6,.call ⟨(.value (.func 118)),#[.tmp 5],#[3]⟩,none⟩,[]⟩,
  ⟨⟨some 7,.move (.tmp 6),none⟩,[]⟩,
  ⟨⟨some 8,.move (.tmp 0),some (7,true)⟩,[]⟩,
  ⟨⟨some 9,.move (.tmp 1),some (7,true)⟩,[]⟩,
  ⟨⟨some 10,.call ⟨(.value (.func 179)),#[.tmp 8,.tmp 9],#[3,27]⟩,some (7,true)⟩,[]⟩,
  ⟨⟨some 11,.pick (.tmp 7) (.tmp 10) (.const (.bool false)),none⟩,[]⟩,
  ⟨⟨some 4,.assign (.tmp 11),none⟩,[]⟩]) .ret))
theorem in100:InT Tryz.prog 100 2 [.tmp 4] cd100:=InT.mk (by kernel_rfl) [] Tryz.func100 rfl (by kernel_rfl) (by kernel_rfl) (of_decide_eq_true (by kernel_rfl)) (by kernel_rfl)
def cd176:Cd:=(.seq (.reg [⟨⟨some 3,.assign (.const (.bool false)),none⟩,[]⟩]) (.seq (.reg [⟨⟨some 4,.load 3 (.tmp 1),none⟩,[]⟩,
  ⟨⟨some 5,.move (.tmp 0),none⟩,[]⟩,
  ⟨⟨some 6,.call ⟨(.value (.func 177)),#[.tmp 4,.tmp 5],#[3,27]⟩,none⟩,[]⟩,
  ⟨⟨some 7,.unOp .not 4 (.tmp 6),none⟩,[]⟩,
  ⟨⟨some 3,.assign (.tmp 7),none⟩,[]⟩]) .ret))
theorem in176:InT Tryz.prog 176 2 [.tmp 3] cd176:=InT.mk (by kernel_rfl) [] Tryz.func176 rfl (by kernel_rfl) (by kernel_rfl) (of_decide_eq_true (by kernel_rfl)) (by kernel_rfl)
def cd98:Cd:=(.seq (.reg [⟨⟨some 2,.box 3 (.tmp 0),none⟩,[]⟩,
  ⟨⟨some 4,.assign (.const (.bool false)),none⟩,[]⟩]) (.seq (.reg [⟨⟨some 5,.load 3 (.tmp 2),none⟩,[]⟩,
  ⟨⟨some 6,.call ⟨(.value (.func 112)),#[.tmp 5],#[3]⟩,none⟩,[]⟩,
  ⟨⟨some 7,.move (.tmp 6),none⟩,[]⟩,
  ⟨⟨some 8,.move (.tmp 1),some (7,true)⟩,[]⟩,
  ⟨⟨some 9,.makeFunc (Fn.func 176) #[] #[.tmp 2],some (7,true)⟩,[]⟩,
  ⟨⟨some 10,.call ⟨(.value (.func 175)),#[.tmp 8,.tmp 9],#[36,84]⟩,some (7,true)⟩,[]⟩,
  ⟨⟨some 11,.unOp .not 4 (.tmp 10),some (7,true)⟩,[]⟩,
  ⟨⟨some 12,.pick (.tmp 7) (.tmp 11) (.const (.bool false)),none⟩,[]⟩,
  ⟨⟨some 4,.assign (.tmp 12),none⟩,[]⟩]) .ret))
theorem in98:InT Tryz.prog 98 2 [.tmp 4] cd98:=InT.mk (by kernel_rfl) [] Tryz.func98 rfl (by kernel_rfl) (by kernel_rfl) (of_decide_eq_true (by kernel_rfl)) (by kernel_rfl)
end Go.Proofs.YtjnefjchconebaaGreat.Ai
namespace Go.Proofs.YtjnefjchconebaaGreat.Ai
open Go Go.RowKit
theorem l8Valid_c (n:Int)(v:Value)(xs:List Int)(H:AH)(hr:Row 3 H v xs)(hlen:xs.length<=1099511627776)(hxs:∀ y ∈ xs,I64 y) :
    ACalls Tryz.prog 100 [.int .i64 n,v] H fun r H'=>r=.bool (decide (3<=n/\n<=8) && triS n xs)/\H<+:H':=by
  refine in100 rfl ?_
  intro Q hQ
  simp (maxSteps:=1000000) (disch:=omega) only [cd100,SS,eq_self,reduceIte,reduceCtorEq,Nat.reduceEqDiff,Nat.reduceAdd]
  refine CallH.by (l8Corners_c ..) ?_
  rintro _ _ ⟨rfl,rfl⟩
  simp (maxSteps:=1000000) (disch:=omega) only [SS,eq_self,reduceIte,reduceCtorEq,Nat.reduceEqDiff,Nat.reduceAdd]
  refine brD.intro (fun h=>?_) (fun h=>?_) <;> simp (maxSteps:=1000000) (disch:=omega) only [h,SS,eq_self,reduceIte,reduceCtorEq,Nat.reduceEqDiff,Nat.reduceAdd]
  . refine CallH.by (l8Triangulates_c n v xs H (by omega) hr hlen hxs) ?_
    rintro _ H1 ⟨rfl,hp⟩
    simp (maxSteps:=1000000) (disch:=omega) only [h,SS,eq_self,reduceIte,reduceCtorEq,Nat.reduceEqDiff,Nat.reduceAdd]
    refine hQ _ _ _ ?_
    simp (maxSteps:=1000000) (disch:=omega) only [h,Bool.true_and,SS,eq_self,reduceIte,reduceCtorEq,Nat.reduceEqDiff,Nat.reduceAdd]
    exact hp
  . refine hQ _ _ _ ?_
    simp (maxSteps:=1000000) (disch:=omega) only [h,Bool.false_and,SS,eq_self,reduceIte,reduceCtorEq,Nat.reduceEqDiff,Nat.reduceAdd]
    exact List.prefix_refl _
theorem areClos_c (n:Int)(v:Value)(xs:List Int)(o:Nat)(H:AH)(hn:0<=n/\n<=100)(ho:cellA H o 0=some (.int .i64 n))(hr:Row 3 H v xs)(hlen:xs.length<=1099511627776)(hxs:∀ y ∈ xs,I64 y) :
    ACalls Tryz.prog 176 [v,.pointer (some ⟨o,0,none⟩)] H fun r H'=>r=.bool (!triI n xs)/\H<+:H':=by
  refine in176 rfl ?_
  intro Q hQ
  simp (maxSteps:=1000000) (disch:=omega) only [cd176,ho,SS,eq_self,reduceIte,reduceCtorEq,Nat.reduceEqDiff,Nat.reduceAdd]
  refine CallH.by (isTriangulation_c n v xs H hn hr hlen hxs) ?_
  rintro _ H1 ⟨rfl,hp1⟩
  simp (maxSteps:=1000000) (disch:=omega) only [SS,eq_self,reduceIte,reduceCtorEq,Nat.reduceEqDiff,Nat.reduceAdd]
  refine hQ _ _ _ ?_
  simp (maxSteps:=1000000) (disch:=omega) only [SS,eq_self,reduceIte,reduceCtorEq,Nat.reduceEqDiff,Nat.reduceAdd]
  exact hp1
theorem none_bad (f:List Int->Bool):∀ ls:List (List Int),(!(ls.map fun l=>!f l).any id)=ls.all f
  | []=>rfl
  | l :: ls=>by
    have:=none_bad f ls
    simp only [List.map_cons,List.any_cons,List.all_cons,id,Bool.not_or,Bool.not_not,this]
theorem box_int (H:AH)(x:Int):boxA Tryz.prog 3 (.int .i64 x) H=some (.pointer (some ⟨H.length,0,none⟩),H ++ [.cells [.int .i64 x] 3 false]):=by kernel_rfl
theorem areTri_c (n:Int)(v:Value)(us:List Value)(ls:List (List Int))(H:AH)(hr:RowV 27 H v us)(hlen:us.length<=1000)(hl:ls.length=us.length)
    (hx:∀ i,i<us.length->Row 3 H (us.getD i undef) (ls.getD i [])/\(ls.getD i []).length<=1099511627776/\∀ y ∈ ls.getD i [],I64 y) :
    ACalls Tryz.prog 98 [.int .i64 n,v] H fun r H'=>r=.bool (decide (3<=n/\n<=8) && ls.all (triI n))/\H<+:H':=by
  refine in98 rfl ?_
  intro Q hQ
  simp (maxSteps:=1000000) (disch:=omega) only [cd98,box_int,cell_new,SS,eq_self,reduceIte,reduceCtorEq,Nat.reduceEqDiff,Nat.reduceAdd]
  have hp0:H<+:H ++ [AObj.cells [.int .i64 n] 3 false]:=List.prefix_append _ _
  have hc0:cellA (H ++ [AObj.cells [.int .i64 n] 3 false]) H.length 0=some (.int .i64 n):=by rw [cell_new];rfl
  refine CallH.by (isPolygon_c ..) ?_
  rintro _ _ ⟨rfl,rfl⟩
  simp (maxSteps:=1000000) (disch:=omega) only [SS,eq_self,reduceIte,reduceCtorEq,Nat.reduceEqDiff,Nat.reduceAdd]
  refine brD.intro (fun h=>?_) (fun h=>?_) <;> simp (maxSteps:=1000000) (disch:=omega) only [h,mkf_p,SS,eq_self,reduceIte,reduceCtorEq,Nat.reduceEqDiff,Nat.reduceAdd]
  . refine CallH.by (ContainsFuncL_c v us (ls.map fun l=>!triI n l) _ _ _ (hr.pre hp0) (by omega) (by simp [hl]) ?_) ?_
    . intro i hi H1 hp1
      obtain ⟨g1,g2,g3⟩:=hx i hi
      have e:(ls.map fun l=>!triI n l).getD i false=!triI n (ls.getD i []):=by simp [hl ▸ hi]
      rw [e]
      refine areClos_c n _ _ _ _ (by omega) ?_ (g1.pre (hp0.trans hp1)) g2 g3
      unfold cellA at hc0 ⊢
      have:(H ++ [AObj.cells [.int .i64 n] 3 false])[H.length]?=some (.cells [.int .i64 n] 3 false):=at_new ..
      rw [pre_at hp1 this];rfl
    rintro _ H2 ⟨rfl,hp2⟩
    simp (maxSteps:=1000000) (disch:=omega) only [h,SS,eq_self,reduceIte,reduceCtorEq,Nat.reduceEqDiff,Nat.reduceAdd]
    refine hQ _ _ _ ?_
    simp (maxSteps:=1000000) (disch:=omega) only [h,Bool.true_and,SS,eq_self,reduceIte,reduceCtorEq,Nat.reduceEqDiff,Nat.reduceAdd]
    refine ⟨?_,hp0.trans hp2⟩
    congr 1
    exact none_bad (triI n) ls
  . refine hQ _ _ _ ?_
    simp (maxSteps:=1000000) (disch:=omega) only [h,Bool.false_and,SS,eq_self,reduceIte,reduceCtorEq,Nat.reduceEqDiff,Nat.reduceAdd]
    exact hp0
def cd117:Cd:=(.seq (.reg [⟨⟨some 4,.assign (.const (.bool false)),none⟩,[]⟩]) (.seq (.reg [⟨⟨some 5,.move (.tmp 0),none⟩,[]⟩,
  ⟨⟨some 6,.binOp .quo 3 (.tmp 5) (.const (.int .i64 10)) 3,none⟩,[]⟩,
  ⟨⟨some 7,.move (.tmp 1),none⟩,[]⟩,
  ⟨⟨some 8,.binOp .eql 3 (.tmp 6) (.tmp 7) 3,none⟩,[]⟩,
  ⟨⟨some 9,.move (.tmp 8),none⟩,[]⟩,
  ⟨⟨some 10,.move (.tmp 0),some (9,false)⟩,[]⟩,
  ⟨⟨some 11,.binOp .rem 3 (.tmp 10) (.const (.int .i64 10)) 3,some (9,false)⟩,[]⟩,
  ⟨⟨some 12,.move (.tmp 1),some (9,false)⟩,[]⟩,
  ⟨⟨some 13,.binOp .eql 3 (.tmp 11) (.tmp 12) 3,some (9,false)⟩,[]⟩,
  ⟨⟨some 14,.pick (.tmp 9) (.const (.bool true)) (.tmp 13),none⟩,[]⟩,
  ⟨⟨some 4,.assign (.tmp 14),none⟩,[]⟩]) .ret))
theorem in117:InT Tryz.prog 117 2 [.tmp 4] cd117:=InT.mk (by kernel_rfl) [] Tryz.func117 rfl (by kernel_rfl) (by kernel_rfl) (of_decide_eq_true (by kernel_rfl)) (by kernel_rfl)
def cd106:Cd:=(.seq (.reg [⟨⟨some 4,.assign (.const (.int .i64 0)),none⟩,[]⟩]) (.seq (.reg [⟨⟨some 5,.assign (.const (.int .i64 0)),none⟩,[]⟩]) (.seq (.seq (.reg [⟨⟨some 6,.assign (.const (.int .i64 0)),none⟩,[]⟩]) (.block 0 (.loop (.seq (.seq (.reg [⟨⟨some 7,.move (.tmp 6),none⟩,[]⟩,⟨⟨some 8,.move (.tmp 0),none⟩,[]⟩,⟨⟨some 9,.call ⟨(.builtin .len),#[.tmp 8],#[27]⟩,none⟩,[]⟩,⟨⟨some 10,.binOp .lss 3 (.tmp 7) (.tmp 9) 3,none⟩,[]⟩]) (.cond (.tmp 10) .skip (.exit 0))) (.seq (.block 1 (.seq (.reg [⟨⟨some 13,.move (.tmp 0),none⟩,[]⟩,⟨⟨some 14,.move (.tmp 6),none⟩,[]⟩,⟨⟨some 15,.indexAddr 27 (.tmp 13) (.tmp 14),none⟩,[]⟩,⟨⟨some 16,.load 3 (.tmp 15),none⟩,[]⟩,⟨⟨some 17,.binOp .quo 3 (.tmp 16) (.const (.int .i64 10)) 3,none⟩,[]⟩,⟨⟨some 18,.move (.tmp 1),none⟩,[]⟩,⟨⟨some 19,.binOp .eql 3 (.tmp 17) (.tmp 18) 3,none⟩,[]⟩,⟨⟨some 20,.move (.tmp 19),none⟩,[]⟩,⟨⟨some 21,.move (.tmp 0),some (20,false)⟩,[]⟩,
 ⟨⟨some 22,.move (.tmp 6),some (20,false)⟩,[]⟩,
  ⟨⟨some 23,.indexAddr 27 (.tmp 21) (.tmp 22),some (20,false)⟩,[]⟩,
  ⟨⟨some 24,.load 3 (.tmp 23),some (20,false)⟩,[]⟩,
  ⟨⟨some 25,.binOp .rem 3 (.tmp 24) (.const (.int .i64 10)) 3,some (20,false)⟩,[]⟩,
  ⟨⟨some 26,.move (.tmp 1),some (20,false)⟩,[]⟩,
  ⟨⟨some 27,.binOp .eql 3 (.tmp 25) (.tmp 26) 3,some (20,false)⟩,[]⟩,
  ⟨⟨some 28,.pick (.tmp 20) (.const (.bool true)) (.tmp 27),none⟩,[]⟩]) (.cond (.tmp 28) (.reg [⟨⟨some 29,.move (.tmp 5),none⟩,[]⟩,
  ⟨⟨some 30,.binOp .add 3 (.tmp 29) (.const (.int .i64 1)) 3,none⟩,[]⟩,
  ⟨⟨some 5,.assign (.tmp 30),none⟩,[]⟩]) .skip))) (.reg [⟨⟨some 11,.move (.tmp 6),none⟩,[]⟩,
  ⟨⟨some 12,.binOp .add 3 (.tmp 11) (.const (.int .i64 1)) 3,none⟩,[]⟩,
  ⟨⟨some 6,.assign (.tmp 12),none⟩,[]⟩])))))) (.seq (.reg [⟨⟨some 31,.move (.tmp 5),none⟩,[]⟩,
  ⟨⟨some 4,.assign (.tmp 31),none⟩,[]⟩]) .ret))))
theorem in106:InT Tryz.prog 106 2 [.tmp 4] cd106:=InT.mk (by kernel_rfl) [] Tryz.func106 rfl (by kernel_rfl) (by kernel_rfl) (of_decide_eq_true (by kernel_rfl)) (by kernel_rfl)
def cd104:Cd:=(.seq (.reg [⟨⟨some 4,.assign (.const (.int .i64 0)),none⟩,[]⟩]) (.seq (.reg [⟨⟨some 5,.assign (.const (.int .i64 0)),none⟩,[]⟩]) (.seq (.seq (.reg [⟨⟨some 8,.move (.tmp 0),none⟩,[]⟩,
  ⟨⟨some 9,.call ⟨(.builtin .len),#[.tmp 8],#[27]⟩,none⟩,[]⟩,
  ⟨⟨some 10,.move (.const (.int .i64 0)),none⟩,[]⟩]) (.block 0 (.loop (.seq (.reg [⟨⟨some 11,.binOp .lss 3 (.tmp 10) (.tmp 9) 3,none⟩,[]⟩]) (.seq (.cond (.tmp 11) .skip (.exit 0)) (.seq (.block 1 (.seq (.reg [⟨⟨some 12,.indexAddr 27 (.tmp 8) (.tmp 10),none⟩,[]⟩,
  ⟨⟨some 13,.load 3 (.tmp 12),none⟩,[]⟩,
  ⟨⟨some 7,.assign (.tmp 13),none⟩,[]⟩]) (.seq (.reg [⟨⟨some 14,.move (.tmp 7),none⟩,[]⟩,
  ⟨⟨some 15,.move (.tmp 1),none⟩,[]⟩,
  ⟨⟨some 16,.call ⟨(.value (.func 117)),#[.tmp 14,.tmp 15],#[3,3]⟩,none⟩,[]⟩]) (.cond (.tmp 16) (.reg [⟨⟨some 17,.move (.tmp 5),none⟩,[]⟩,
  ⟨⟨some 18,.binOp .add 3 (.tmp 17) (.const (.int .i64 1)) 3,none⟩,[]⟩,
  ⟨⟨some 5,.assign (.tmp 18),none⟩,[]⟩]) .skip)))) (.reg [⟨⟨some 19,.binOp .add 3 (.tmp 10) (.const (.int .i64 1)) 3,none⟩,[]⟩,
  ⟨⟨some 10,.move (.tmp 19),none⟩,[]⟩]))))))) (.seq (.reg [⟨⟨some 20,.move (.tmp 5),none⟩,[]⟩,
  ⟨⟨some 4,.assign (.tmp 20),none⟩,[]⟩]) .ret))))
theorem in104:InT Tryz.prog 104 2 [.tmp 4] cd104:=InT.mk (by kernel_rfl) [] Tryz.func104 rfl (by kernel_rfl) (by kernel_rfl) (of_decide_eq_true (by kernel_rfl)) (by kernel_rfl)
end Go.Proofs.YtjnefjchconebaaGreat.Ai
namespace Go.Proofs.YtjnefjchconebaaGreat.Ai
open Go Go.RowKit
def At (d c:Int):Prop:=d.tdiv 10=c∨d.tmod 10=c
instance (d c:Int):Decidable (At d c):=inferInstanceAs (Decidable (_∨_))
theorem isAt_c (d c:Int)(H:AH)(hd:I64 d):ACalls Tryz.prog 117 [.int .i64 d,.int .i64 c] H fun r H'=>r=.bool (decide (At d c))/\H=H':=by
  refine in117 rfl ?_
  intro Q hQ
  simp (maxSteps:=1000000) (disch:=omega) only [cd117,hd.tdiv,SS,eq_self,reduceIte,reduceCtorEq,Nat.reduceEqDiff,Nat.reduceAdd]
  repeat' (first | (refine brD.intro (fun h=>?_) (fun h=>?_) <;> simp (maxSteps:=1000000) (disch:=omega) only [h,SS,eq_self,reduceIte,reduceCtorEq,Nat.reduceEqDiff,Nat.reduceAdd]) | (refine hQ _ _ _ ?_;simp (maxSteps:=1000000) (disch:=omega) only [SS,eq_self,reduceIte,reduceCtorEq,Nat.reduceEqDiff,Nat.reduceAdd]))
  all_goals (by_cases hC:At d c <;> simp [hC] <;> unfold At at hC <;> simp_all)
def atN (xs:List Int)(c:Int):Nat:=(xs.filter fun d=>decide (At d c)).length
theorem atN_step (xs:List Int)(c:Int)(k:Nat)(hk:k<xs.length):atN (xs.take (k+1)) c=atN (xs.take k) c+if At (xs.getD k 0) c then 1 else 0:=by
  unfold atN
  rw [List.take_add_one,List.getElem?_eq_getElem hk,List.filter_append,List.length_append]
  have:xs.getD k 0=xs[k]:=by simp [hk]
  rw [this]
  by_cases h:At xs[k] c <;> simp [h]
theorem atN_le (xs:List Int)(c:Int):atN xs c<=xs.length:=List.length_filter_le _ _
theorem l8At_c (v:Value)(xs:List Int)(c:Int)(H:AH)(hr:Row 3 H v xs)(hlen:xs.length<=1099511627776)(hxs:∀ y ∈ xs,I64 y) :
    ACalls Tryz.prog 106 [v,.int .i64 c] H fun r H'=>r=.int .i64 (atN xs c:Nat)/\H=H':=by
  refine in106 rfl ?_
  intro Q hQ
  simp (maxSteps:=1000000) (disch:=omega) only [cd106,SS,eq_self,reduceIte,reduceCtorEq,Nat.reduceEqDiff,Nat.reduceAdd]
  refine LoopH.by (fun m s H'=>∃ i,m+i=xs.length/\s 0=v/\s 1=.int .i64 c/\s 6=.int .i64 ((i:Nat):Int)/\s 5=.int .i64 ((atN (xs.take i) c:Nat):Int)/\H=H') xs.length ?_ ?_
  . exact ⟨0,by simp,rfl,rfl,by simp [SS,eq_self,reduceIte,reduceCtorEq,Nat.reduceEqDiff,Nat.reduceAdd],by simp [SS,eq_self,reduceIte,reduceCtorEq,Nat.reduceEqDiff,Nat.reduceAdd,atN],rfl⟩
  . rintro m s H' ⟨i,hm,h0,h1,h6,h5,rfl⟩
    simp (maxSteps:=1000000) (disch:=omega) only [h0,h1,h6,h5,hr.len Tryz.underlying27,SS,eq_self,reduceIte,reduceCtorEq,Nat.reduceEqDiff,Nat.reduceAdd]
    refine brD.intro (fun g=>?_) (fun g=>?_)
    . have hi:i<xs.length:=by omega
      have hx:xs.getD i 0=xs[i]:=by simp [hi]
      have hd:I64 (xs.getD i 0):=by rw [hx];exact hxs _ (List.getElem_mem hi)
      have st:=atN_step xs c i hi
      have b0:=atN_le (xs.take i) c
      have b1:(xs.take i).length<=i:=by simp;omega
      simp (maxSteps:=1000000) (disch:=omega) only [h0,h1,h6,h5,hr.ix Tryz.underlying27 cs3,hr.cell,Int.toNat_natCast,hd.tdiv,wrap64,SS,eq_self,reduceIte,reduceCtorEq,Nat.reduceEqDiff,Nat.reduceAdd]
      refine brD.intro (fun e=>?_) (fun e=>?_) <;> simp (maxSteps:=1000000) (disch:=omega) only [e,h0,h1,h6,h5,hr.ix Tryz.underlying27 cs3,hr.cell,Int.toNat_natCast,hd.tdiv,wrap64,SS,eq_self,reduceIte,reduceCtorEq,Nat.reduceEqDiff,Nat.reduceAdd]
      . rw [if_pos (.inl e)] at st
        refine ⟨m - 1,by omega,i+1,by omega,?_⟩
        (repeat' apply And.intro) <;> first | rfl | trivial | assumption | omega | (simp only [Value.int.injEq,true_and];omega) | (simp;done) | (simp;omega)
      . refine brD.intro (fun e2=>?_) (fun e2=>?_) <;> simp (maxSteps:=1000000) (disch:=omega) only [e,e2,h0,h1,h6,h5,wrap64,SS,eq_self,reduceIte,reduceCtorEq,Nat.reduceEqDiff,Nat.reduceAdd]
        . rw [if_pos (.inr e2)] at st
          refine ⟨m - 1,by omega,i+1,by omega,?_⟩
          (repeat' apply And.intro) <;> first | rfl | trivial | assumption | omega | (simp only [Value.int.injEq,true_and];omega) | (simp;done) | (simp;omega)
        . rw [if_neg (fun hh=>hh.elim e e2)] at st
          refine ⟨m - 1,by omega,i+1,by omega,?_⟩
          (repeat' apply And.intro) <;> first | rfl | trivial | assumption | omega | (simp only [Value.int.injEq,true_and];omega) | (simp;done) | (simp;omega)
    . simp (maxSteps:=1000000) (disch:=omega) only [h5,SS,eq_self,reduceIte,reduceCtorEq,Nat.reduceEqDiff,Nat.reduceAdd]
      refine hQ _ _ _ ?_
      simp (maxSteps:=1000000) (disch:=omega) only [h5,SS,eq_self,reduceIte,reduceCtorEq,Nat.reduceEqDiff,Nat.reduceAdd]
      rw [List.take_of_length_le (by omega)]
theorem at_c (v:Value)(xs:List Int)(c:Int)(H:AH)(hr:Row 3 H v xs)(hlen:xs.length<=1099511627776)(hxs:∀ y ∈ xs,I64 y) :
    ACalls Tryz.prog 104 [v,.int .i64 c] H fun r H'=>r=.int .i64 (atN xs c:Nat)/\H=H':=by
  refine in104 rfl ?_
  intro Q hQ
  simp (maxSteps:=1000000) (disch:=omega) only [cd104,hr.len Tryz.underlying27,SS,eq_self,reduceIte,reduceCtorEq,Nat.reduceEqDiff,Nat.reduceAdd]
  refine LoopH.by (fun m s H'=>∃ i,m+i=xs.length/\s 1=.int .i64 c/\s 8=v/\s 9=.int .i64 (xs.length:Int)/\s 10=.int .i64 ((i:Nat):Int)/\s 5=.int .i64 ((atN (xs.take i) c:Nat):Int)/\H=H') xs.length ?_ ?_
  . exact ⟨0,by simp,rfl,rfl,rfl,rfl,by simp [SS,eq_self,reduceIte,reduceCtorEq,Nat.reduceEqDiff,Nat.reduceAdd,atN],rfl⟩
  . rintro m s H' ⟨i,hm,h1,hl,hn,hi',h5,rfl⟩
    simp (maxSteps:=1000000) (disch:=omega) only [h1,hl,hn,hi',h5,SS,eq_self,reduceIte,reduceCtorEq,Nat.reduceEqDiff,Nat.reduceAdd]
    refine brD.intro (fun g=>?_) (fun g=>?_)
    . have hi:i<xs.length:=by omega
      have hx:xs.getD i 0=xs[i]:=by simp [hi]
      have hd:I64 (xs.getD i 0):=by rw [hx];exact hxs _ (List.getElem_mem hi)
      have st:=atN_step xs c i hi
      have b0:=atN_le (xs.take i) c
      have b1:(xs.take i).length<=i:=by simp;omega
      simp (maxSteps:=1000000) (disch:=omega) only [h1,hl,hn,hi',h5,hr.ix Tryz.underlying27 cs3,hr.cell,Int.toNat_natCast,SS,eq_self,reduceIte,reduceCtorEq,Nat.reduceEqDiff,Nat.reduceAdd]
      refine CallH.by (isAt_c _ c _ hd) ?_
      rintro _ _ ⟨rfl,rfl⟩
      simp (maxSteps:=1000000) (disch:=omega) only [SS,eq_self,reduceIte,reduceCtorEq,Nat.reduceEqDiff,Nat.reduceAdd]
      refine brD.intro (fun e=>?_) (fun e=>?_) <;> simp (maxSteps:=1000000) (disch:=omega) only [h1,hl,hn,hi',h5,wrap64,SS,eq_self,reduceIte,reduceCtorEq,Nat.reduceEqDiff,Nat.reduceAdd]
      . rw [if_pos e] at st
        refine ⟨m - 1,by omega,i+1,by omega,?_⟩
        (repeat' apply And.intro) <;> first | rfl | trivial | assumption | omega | (simp only [Value.int.injEq,true_and];omega) | (simp;done) | (simp;omega)
      . rw [if_neg e] at st
        refine ⟨m - 1,by omega,i+1,by omega,?_⟩
        (repeat' apply And.intro) <;> first | rfl | trivial | assumption | omega | (simp only [Value.int.injEq,true_and];omega) | (simp;done) | (simp;omega)
    . simp (maxSteps:=1000000) (disch:=omega) only [h5,SS,eq_self,reduceIte,reduceCtorEq,Nat.reduceEqDiff,Nat.reduceAdd]
      refine hQ _ _ _ ?_
      simp (maxSteps:=1000000) (disch:=omega) only [h5,SS,eq_self,reduceIte,reduceCtorEq,Nat.reduceEqDiff,Nat.reduceAdd]
      rw [List.take_of_length_le (by omega)]
def Tri1 (n:Int)(xs:List Int):Prop:=(3<=n/\n<=8)/\triS n xs=true
instance (n:Int) (xs:List Int):Decidable (Tri1 n xs):=inferInstanceAs (Decidable (_/\_))
def Tri2 (n:Int)(xs ys:List Int):Prop:=(3<=n/\n<=8)/\triS n xs=true/\triS n ys=true
instance (n:Int) (xs ys:List Int):Decidable (Tri2 n xs ys):=inferInstanceAs (Decidable (_/\_))
theorem tri1_S (n:Int)(xs:List Int):(decide (3<=n/\n<=8) && triS n xs)=decide (Tri1 n xs):=by
  unfold Tri1
  by_cases h:3<=n/\n<=8 <;> simp [h]
theorem tri1_I (n:Int)(xs:List Int):(decide (3<=n/\n<=8) && [xs].all (triI n))=decide (Tri1 n xs):=by
  unfold Tri1
  by_cases h:3<=n/\n<=8
  . have:=tri_same n xs h
    simp [h,this]
  . simp [h]
theorem tri2_I (n:Int)(xs ys:List Int):(decide (3<=n/\n<=8) && [xs,ys].all (triI n))=decide (Tri2 n xs ys):=by
  unfold Tri2
  by_cases h:3<=n/\n<=8
  . have h1:=tri_same n xs h
    have h2:=tri_same n ys h
    simp [h,h1,h2]
  . simp [h]
theorem Tri1.len {n:Int}{xs:List Int}(h:Tri1 n xs):(xs.length:Int)=n - 3:=by
  have h:=h.2
  unfold triS at h
  simp only [Bool.and_eq_true,decide_eq_true_eq] at h
  exact h.2
theorem Tri2.a {n:Int}{xs ys:List Int}(h:Tri2 n xs ys):Tri1 n xs:=⟨h.1,h.2.1⟩
theorem Tri2.b {n:Int}{xs ys:List Int}(h:Tri2 n xs ys):Tri1 n ys:=⟨h.1,h.2.2⟩
theorem Tri1.mem {n:Int}{xs:List Int}(h:Tri1 n xs){d:Int}(hd:d ∈ xs):d ∈ dgs n n.toNat:=by
  have h:=h.2
  unfold triS triOkS at h
  simp only [Bool.and_eq_true,List.all_eq_true,decide_eq_true_eq] at h
  obtain ⟨i,hi,e⟩:=List.getElem_of_mem hd
  have:=(h.1 i (List.mem_range.2 hi)).1.1
  rw [List.getD_eq_getElem?_getD,List.getElem?_eq_getElem hi,Option.getD_some,e] at this
  exact this
theorem valid_c (n:Int)(v:Value)(xs:List Int)(H:AH)(hr:Row 3 H v xs)(hlen:xs.length<=1099511627776)(hxs:∀ y ∈ xs,I64 y) :
    ACalls Tryz.prog 100 [.int .i64 n,v] H fun r H'=>r=.bool (decide (Tri1 n xs))/\H<+:H':=by
  refine (l8Valid_c n v xs H hr hlen hxs).mono ?_
  rintro r H' ⟨rfl,hp⟩
  exact ⟨by rw [tri1_S],hp⟩
theorem are1_c (n:Int)(v:Value)(xs:List Int)(o:Nat)(H H0:AH)(hh:H=H0 ++ [.cells [v] 27 false])(ho:o=H0.length)(hr:Row 3 H0 v xs)(hlen:xs.length<=1099511627776)(hxs:∀ y ∈ xs,I64 y) :
    ACalls Tryz.prog 98 [.int .i64 n,.slice (some ⟨o,0,none⟩) 1 1] H fun r H'=>r=.bool (decide (Tri1 n xs))/\H<+:H':=by
  subst hh ho
  refine (areTri_c n _ [v] [xs] _ (RowV.new 27 H0 [v]) (by simp) rfl ?_).mono ?_
  . intro i hi
    match i,hi with
    | 0,_=>exact ⟨hr.pre (List.prefix_append _ _),hlen,hxs⟩
  . rintro r H' ⟨rfl,hp⟩
    exact ⟨by rw [tri1_I],hp⟩
theorem are2_c (n:Int)(v w:Value)(xs ys:List Int)(o:Nat)(H H0:AH)(hh:H=H0 ++ [.cells [v,w] 27 false])(ho:o=H0.length)(hr:Row 3 H0 v xs)(hlen:xs.length<=1099511627776)(hxs:∀ y ∈ xs,I64 y)(hr2:Row 3 H0 w ys)(hlen2:ys.length<=1099511627776)(hys:∀ y ∈ ys,I64 y) :
    ACalls Tryz.prog 98 [.int .i64 n,.slice (some ⟨o,0,none⟩) 2 2] H fun r H'=>r=.bool (decide (Tri2 n xs ys))/\H<+:H':=by
  subst hh ho
  refine (areTri_c n _ [v,w] [xs,ys] _ (RowV.new 27 H0 [v,w]) (by simp) rfl ?_).mono ?_
  . intro i hi
    match i,hi with
    | 0,_=>exact ⟨hr.pre (List.prefix_append _ _),hlen,hxs⟩
    | 1,_=>exact ⟨hr2.pre (List.prefix_append _ _),hlen2,hys⟩
  . rintro r H' ⟨rfl,hp⟩
    exact ⟨by rw [tri2_I],hp⟩
def cd105:Cd:=(.seq (.reg [⟨⟨some 4,.assign (.const (.int .i64 0)),none⟩,[]⟩]) (.seq (.seq (.reg [⟨⟨some 5,.move (.tmp 0),none⟩,[]⟩,
  ⟨⟨some 6,.move (.tmp 1),none⟩,[]⟩,
  ⟨⟨some 7,.binOp .lss 3 (.tmp 5) (.tmp 6) 3,none⟩,[]⟩]) (.cond (.tmp 7) (.seq (.reg [⟨⟨some 8,.move (.tmp 0),none⟩,[]⟩,
  ⟨⟨some 4,.assign (.tmp 8),none⟩,[]⟩]) .ret) .skip)) (.seq (.reg [⟨⟨some 9,.move (.tmp 1),none⟩,[]⟩,
  ⟨⟨some 4,.assign (.tmp 9),none⟩,[]⟩]) .ret)))
theorem in105:InT Tryz.prog 105 2 [.tmp 4] cd105:=InT.mk (by kernel_rfl) [] Tryz.func105 rfl (by kernel_rfl) (by kernel_rfl) (of_decide_eq_true (by kernel_rfl)) (by kernel_rfl)
def cd30:Cd:=(.seq (.reg [⟨⟨some 6,.assign (.const (.int .i64 0)),none⟩,[]⟩,⟨⟨some 7,.assign (.const (.bool false)),none⟩,[]⟩]) (.seq (.seq (.reg [⟨⟨some 10,.move (.tmp 0),none⟩,[]⟩,⟨⟨some 11,.move (.tmp 1),none⟩,[]⟩,⟨⟨some 12,.call ⟨(.value (.func 100)),#[.tmp 10,.tmp 11],#[3,27]⟩,none⟩,[]⟩,⟨⟨some 13,.unOp .not 4 (.tmp 12),none⟩,[]⟩,⟨⟨some 14,.move (.tmp 13),none⟩,[]⟩,⟨⟨some 15,.move (.tmp 0),some (14,false)⟩,[]⟩,⟨⟨some 16,.move (.tmp 2),some (14,false)⟩,[]⟩,⟨⟨some 17,.call ⟨(.value (.func 100)),#[.tmp 15,.tmp 16],#[3,27]⟩,some (14,false)⟩,[]⟩,⟨⟨some 18,.unOp .not 4 (.tmp 17),some (14,false)⟩,[]⟩,⟨⟨some 19,.pick (.tmp 14) (.const (.bool true)) (.tmp 18),none⟩,[]⟩]) (.cond (.tmp 19) (.seq (.reg [⟨⟨some 6,.assign (.const (.int .i64 0)),none⟩,[]⟩,⟨⟨some 7,.assign (.const (.bool false)),none⟩,[]⟩]) .ret) .skip)) (.seq (.reg [⟨⟨some 20,.move (.tmp 0),none⟩,[]⟩,
 ⟨⟨some 21,.binOp .mul 3 (.const (.int .i64 2)) (.tmp 20) 3,none⟩,[]⟩,⟨⟨some 8,.assign (.tmp 21),none⟩,[]⟩]) (.seq (.seq (.reg [⟨⟨some 9,.assign (.const (.int .i64 0)),none⟩,[]⟩]) (.block 0 (.loop (.seq (.seq (.reg [⟨⟨some 22,.move (.tmp 9),none⟩,[]⟩,⟨⟨some 23,.move (.tmp 0),none⟩,[]⟩,⟨⟨some 24,.binOp .lss 3 (.tmp 22) (.tmp 23) 3,none⟩,[]⟩]) (.cond (.tmp 24) .skip (.exit 0))) (.seq (.block 1 (.reg [⟨⟨some 27,.move (.tmp 8),none⟩,[]⟩,⟨⟨some 28,.move (.tmp 0),none⟩,[]⟩,⟨⟨some 29,.binOp .sub 3 (.tmp 28) (.const (.int .i64 3)) 3,none⟩,[]⟩,⟨⟨some 30,.binOp .mul 3 (.const (.int .i64 2)) (.tmp 29) 3,none⟩,[]⟩,⟨⟨some 31,.move (.tmp 1),none⟩,[]⟩,⟨⟨some 32,.move (.tmp 9),none⟩,[]⟩,⟨⟨some 33,.call ⟨(.value (.func 106)),#[.tmp 31,.tmp 32],#[27,3]⟩,none⟩,[]⟩,⟨⟨some 34,.binOp .sub 3 (.tmp 30) (.tmp 33) 3,none⟩,[]⟩,⟨⟨some 35,.move (.tmp 2),none⟩,[]⟩,
 ⟨⟨some 36,.move (.tmp 9),none⟩,[]⟩,
  ⟨⟨some 37,.call ⟨(.value (.func 106)),#[.tmp 35,.tmp 36],#[27,3]⟩,none⟩,[]⟩,
  ⟨⟨some 38,.binOp .sub 3 (.tmp 34) (.tmp 37) 3,none⟩,[]⟩,
  ⟨⟨some 39,.call ⟨(.value (.func 105)),#[.tmp 27,.tmp 38],#[3,3]⟩,none⟩,[]⟩,
  ⟨⟨some 8,.assign (.tmp 39),none⟩,[]⟩])) (.reg [⟨⟨some 25,.move (.tmp 9),none⟩,[]⟩,
  ⟨⟨some 26,.binOp .add 3 (.tmp 25) (.const (.int .i64 1)) 3,none⟩,[]⟩,
  ⟨⟨some 9,.assign (.tmp 26),none⟩,[]⟩])))))) (.seq (.reg [⟨⟨some 40,.move (.tmp 8),none⟩,[]⟩,
  ⟨⟨some 6,.assign (.tmp 40),none⟩,[]⟩,
  ⟨⟨some 7,.assign (.const (.bool true)),none⟩,[]⟩]) .ret)))))
theorem in30:InT Tryz.prog 30 3 [.tmp 6,.tmp 7] cd30:=InT.mk (by kernel_rfl) [] Tryz.func30 rfl (by kernel_rfl) (by kernel_rfl) (of_decide_eq_true (by kernel_rfl)) (by kernel_rfl)
def cd29:Cd:=(.seq (.reg [⟨⟨some 6,.assign (.const (.int .i64 0)),none⟩,[]⟩,⟨⟨some 7,.assign (.const (.bool false)),none⟩,[]⟩]) (.seq (.seq (.reg [⟨⟨some 10,.move (.tmp 0),none⟩,[]⟩,⟨⟨some 11,.move (.tmp 1),none⟩,[]⟩,⟨⟨some 12,.move (.tmp 2),none⟩,[]⟩,⟨⟨some 13,.buildSlice 36 2 #[(0,.tmp 11),(1,.tmp 12)],none⟩,[]⟩,⟨⟨some 14,.call ⟨(.value (.func 98)),#[.tmp 10,.tmp 13],#[3,36]⟩,none⟩,[]⟩,⟨⟨some 15,.unOp .not 4 (.tmp 14),none⟩,[]⟩]) (.cond (.tmp 15) (.seq (.reg [⟨⟨some 6,.assign (.const (.int .i64 0)),none⟩,[]⟩,⟨⟨some 7,.assign (.const (.bool false)),none⟩,[]⟩]) .ret) .skip)) (.seq (.reg [⟨⟨some 16,.move (.tmp 0),none⟩,[]⟩,⟨⟨some 17,.binOp .mul 3 (.const (.int .i64 2)) (.tmp 16) 3,none⟩,[]⟩,⟨⟨some 8,.assign (.tmp 17),none⟩,[]⟩]) (.seq (.seq (.reg [⟨⟨some 18,.move (.tmp 0),none⟩,[]⟩,⟨⟨some 19,.move (.const (.int .i64 0)),none⟩,[]⟩]) (.block 0 (.loop (.seq (.reg [⟨⟨some 20,.binOp .lss 3 (.tmp 19) (.tmp 18) 3,none⟩,[]⟩]) (.seq (.cond (.tmp 20) .skip (.exit 0)) (.seq (.block 1 (.seq (.reg [⟨⟨some 21,.move (.tmp 19),none⟩,[]⟩,⟨⟨some 9,.assign (.tmp 21),none⟩,[]⟩]) (.reg [⟨⟨some 22,.move (.tmp 8),none⟩,[]⟩,
 ⟨⟨some 23,.move (.tmp 0),none⟩,[]⟩,⟨⟨some 24,.binOp .sub 3 (.tmp 23) (.const (.int .i64 3)) 3,none⟩,[]⟩,⟨⟨some 25,.binOp .mul 3 (.const (.int .i64 2)) (.tmp 24) 3,none⟩,[]⟩,⟨⟨some 26,.move (.tmp 1),none⟩,[]⟩,⟨⟨some 27,.move (.tmp 9),none⟩,[]⟩,⟨⟨some 28,.call ⟨(.value (.func 104)),#[.tmp 26,.tmp 27],#[27,3]⟩,none⟩,[]⟩,⟨⟨some 29,.binOp .sub 3 (.tmp 25) (.tmp 28) 3,none⟩,[]⟩,⟨⟨some 30,.move (.tmp 2),none⟩,[]⟩,⟨⟨some 31,.move (.tmp 9),none⟩,[]⟩,⟨⟨some 32,.call ⟨(.value (.func 104)),#[.tmp 30,.tmp 31],#[27,3]⟩,none⟩,[]⟩,⟨⟨some 33,.binOp .sub 3 (.tmp 29) (.tmp 32) 3,none⟩,[]⟩,⟨⟨some 34,.call ⟨(.builtin .min),#[.tmp 22,.tmp 33],#[3,3]⟩,none⟩,[]⟩,
 ⟨⟨some 8,.assign (.tmp 34),none⟩,[]⟩]))) (.reg [⟨⟨some 35,.binOp .add 3 (.tmp 19) (.const (.int .i64 1)) 3,none⟩,[]⟩,
  ⟨⟨some 19,.move (.tmp 35),none⟩,[]⟩]))))))) (.seq (.reg [⟨⟨some 36,.move (.tmp 8),none⟩,[]⟩,
  ⟨⟨some 6,.assign (.tmp 36),none⟩,[]⟩,
  ⟨⟨some 7,.assign (.const (.bool true)),none⟩,[]⟩]) .ret)))))
theorem in29:InT Tryz.prog 29 3 [.tmp 6,.tmp 7] cd29:=InT.mk (by kernel_rfl) [] Tryz.func29 rfl (by kernel_rfl) (by kernel_rfl) (of_decide_eq_true (by kernel_rfl)) (by kernel_rfl)
end Go.Proofs.YtjnefjchconebaaGreat.Ai
namespace Go.Proofs.YtjnefjchconebaaGreat.Ai
open Go Go.RowKit
def fanT (n:Int)(xs ys:List Int)(k:Nat):Int:=2 * (n - 3) - (atN xs (k:Int):Nat) - (atN ys (k:Int):Nat)
def fanB (n:Int)(xs ys:List Int):Nat->Int
  | 0=>2 * n
  | k+1=>if fanB n xs ys k<fanT n xs ys k then fanB n xs ys k else fanT n xs ys k
theorem fanT_bd {n:Int}{xs ys:List Int}(h:Tri2 n xs ys)(k:Nat) : -20<=fanT n xs ys k/\fanT n xs ys k<=20:=by
  have h1:=h.1
  have l1:=h.a.len
  have l2:=h.b.len
  have a1:=atN_le xs (k:Int)
  have a2:=atN_le ys (k:Int)
  unfold fanT;omega
theorem fanB_bd {n:Int}{xs ys:List Int}(h:Tri2 n xs ys)(k:Nat) : -20<=fanB n xs ys k/\fanB n xs ys k<=20:=by
  have h1:=h.1
  induction k with
  | zero=>simp only [fanB];omega
  | succ k ih =>
    have:=fanT_bd h k
    simp only [fanB];split <;> omega
theorem l1Least_c (a b:Int)(H:AH):ACalls Tryz.prog 105 [.int .i64 a,.int .i64 b] H fun r H'=>r=.int .i64 (if a<b then a else b)/\H=H':=by
  refine in105 rfl ?_
  intro Q hQ
  simp (maxSteps:=1000000) (disch:=omega) only [cd105,SS,eq_self,reduceIte,reduceCtorEq,Nat.reduceEqDiff,Nat.reduceAdd]
  refine brD.intro (fun h=>?_) (fun h=>?_) <;> simp (maxSteps:=1000000) (disch:=omega) only [h,SS,eq_self,reduceIte,reduceCtorEq,Nat.reduceEqDiff,Nat.reduceAdd] <;> refine hQ _ _ _ ?_ <;> simp (maxSteps:=1000000) (disch:=omega) only [h,SS,eq_self,reduceIte,reduceCtorEq,Nat.reduceEqDiff,Nat.reduceAdd]
def boundR (n:Int)(xs ys:List Int):Int:=if Tri2 n xs ys then fanB n xs ys n.toNat else 0
theorem BoundS_c (n:Int)(v w:Value)(xs ys:List Int)(H:AH)(hr:Row 3 H v xs)(hlen:xs.length<=1099511627776)(hxs:∀ y ∈ xs,I64 y)(hr2:Row 3 H w ys)(hlen2:ys.length<=1099511627776)(hys:∀ y ∈ ys,I64 y) :
    ACalls Tryz.prog 30 [.int .i64 n,v,w] H fun r H'=>r=.tuple (List.toArray [.int .i64 (boundR n xs ys),.bool (decide (Tri2 n xs ys))])/\H<+:H':=by
  refine in30 rfl ?_
  intro Q hQ
  have no:¬ Tri2 n xs ys->Value.tuple (List.toArray [.int .i64 0,.bool false])=.tuple (List.toArray [.int .i64 (boundR n xs ys),.bool (decide (Tri2 n xs ys))]):=fun h=>by simp [h,boundR]
  simp (maxSteps:=1000000) (disch:=omega) only [cd30,SS,eq_self,reduceIte,reduceCtorEq,Nat.reduceEqDiff,Nat.reduceAdd]
  refine CallH.by (valid_c n v xs H hr hlen hxs) ?_
  rintro _ H1 ⟨rfl,hp1⟩
  simp (maxSteps:=1000000) (disch:=omega) only [SS,eq_self,reduceIte,reduceCtorEq,Nat.reduceEqDiff,Nat.reduceAdd]
  refine brD.intro (fun ha=>?_) (fun ha=>?_) <;> simp (maxSteps:=1000000) (disch:=omega) only [ha,SS,eq_self,reduceIte,reduceCtorEq,Nat.reduceEqDiff,Nat.reduceAdd]
  . refine CallH.by (valid_c n w ys H1 (hr2.pre hp1) hlen2 hys) ?_
    rintro _ H2 ⟨rfl,hp2⟩
    have hp:=hp1.trans hp2
    have hra:=hr.pre hp
    have hrb:=hr2.pre hp
    simp (maxSteps:=1000000) (disch:=omega) only [ha,SS,eq_self,reduceIte,reduceCtorEq,Nat.reduceEqDiff,Nat.reduceAdd]
    refine brD.intro (fun hb=>?_) (fun hb=>?_) <;> simp (maxSteps:=1000000) (disch:=omega) only [ha,hb,SS,eq_self,reduceIte,reduceCtorEq,Nat.reduceEqDiff,Nat.reduceAdd]
    . have ht:Tri2 n xs ys:=⟨ha.1,ha.2,hb.2⟩
      have hn:=ha.1
      simp (maxSteps:=1000000) (disch:=omega) only [wrap64,SS,eq_self,reduceIte,reduceCtorEq,Nat.reduceEqDiff,Nat.reduceAdd]
      refine LoopH.by (fun m s H'=>∃ i,m+i=n.toNat/\s 0=.int .i64 n/\s 1=v/\s 2=w/\s 9=.int .i64 ((i:Nat):Int)/\s 8=.int .i64 (fanB n xs ys i)/\H2=H') n.toNat ?_ ?_
      . exact ⟨0,by simp,rfl,rfl,rfl,by simp [SS,eq_self,reduceIte,reduceCtorEq,Nat.reduceEqDiff,Nat.reduceAdd],by simp [SS,eq_self,reduceIte,reduceCtorEq,Nat.reduceEqDiff,Nat.reduceAdd,fanB],rfl⟩
      . rintro m s H' ⟨i,hm,h0,h1,h2,h9,h8,rfl⟩
        have bt:=fanT_bd ht i
        have bb:=fanB_bd ht i
        simp (maxSteps:=1000000) (disch:=omega) only [h0,h1,h2,h9,h8,SS,eq_self,reduceIte,reduceCtorEq,Nat.reduceEqDiff,Nat.reduceAdd]
        refine brD.intro (fun g=>?_) (fun g=>?_) <;> simp (maxSteps:=1000000) (disch:=omega) only [h0,h1,h2,h9,h8,wrap64,SS,eq_self,reduceIte,reduceCtorEq,Nat.reduceEqDiff,Nat.reduceAdd]
        . refine CallH.by (l8At_c v xs _ H2 hra hlen hxs) ?_
          rintro _ _ ⟨rfl,rfl⟩
          have a1:=atN_le xs (i:Int)
          have a2:=atN_le ys (i:Int)
          have l1:=ha.len
          have l2:=hb.len
          simp (maxSteps:=1000000) (disch:=omega) only [h0,h1,h2,h9,h8,wrap64,SS,eq_self,reduceIte,reduceCtorEq,Nat.reduceEqDiff,Nat.reduceAdd]
          refine CallH.by (l8At_c w ys _ H2 hrb hlen2 hys) ?_
          rintro _ _ ⟨rfl,rfl⟩
          have e:2 * (n - 3) - (atN xs (i:Int):Nat) - (atN ys (i:Int):Nat)=fanT n xs ys i:=rfl
          simp (maxSteps:=1000000) (disch:=omega) only [h0,h1,h2,h9,h8,wrap64,e,SS,eq_self,reduceIte,reduceCtorEq,Nat.reduceEqDiff,Nat.reduceAdd]
          refine CallH.by (l1Least_c ..) ?_
          rintro _ _ ⟨rfl,rfl⟩
          simp (maxSteps:=1000000) (disch:=omega) only [h0,h1,h2,h9,h8,wrap64,SS,eq_self,reduceIte,reduceCtorEq,Nat.reduceEqDiff,Nat.reduceAdd]
          refine ⟨m - 1,by omega,i+1,by omega,?_⟩
          rw [fanB]
          (repeat' apply And.intro) <;> first | rfl | trivial | assumption | omega | (simp only [Value.int.injEq,true_and];omega) | (simp;done) | (simp;omega)
        . refine hQ _ _ _ ?_
          simp (maxSteps:=1000000) (disch:=omega) only [h8,SS,eq_self,reduceIte,reduceCtorEq,Nat.reduceEqDiff,Nat.reduceAdd]
          have:i=n.toNat:=by omega
          subst this
          exact ⟨by simp [boundR,ht],hp⟩
    . refine hQ _ _ _ ?_
      simp (maxSteps:=1000000) (disch:=omega) only [SS,eq_self,reduceIte,reduceCtorEq,Nat.reduceEqDiff,Nat.reduceAdd]
      exact ⟨no fun h=>hb h.b,hp⟩
  . refine hQ _ _ _ ?_
    simp (maxSteps:=1000000) (disch:=omega) only [SS,eq_self,reduceIte,reduceCtorEq,Nat.reduceEqDiff,Nat.reduceAdd]
    exact ⟨no fun h=>ha h.a,hp1⟩
theorem BoundI_c (n:Int)(v w:Value)(xs ys:List Int)(H:AH)(hr:Row 3 H v xs)(hlen:xs.length<=1099511627776)(hxs:∀ y ∈ xs,I64 y)(hr2:Row 3 H w ys)(hlen2:ys.length<=1099511627776)(hys:∀ y ∈ ys,I64 y) :
    ACalls Tryz.prog 29 [.int .i64 n,v,w] H fun r H'=>r=.tuple (List.toArray [.int .i64 (boundR n xs ys),.bool (decide (Tri2 n xs ys))])/\H<+:H':=by
  refine in29 rfl ?_
  intro Q hQ
  have no:¬ Tri2 n xs ys->Value.tuple (List.toArray [.int .i64 0,.bool false])=.tuple (List.toArray [.int .i64 (boundR n xs ys),.bool (decide (Tri2 n xs ys))]):=fun h=>by simp [h,boundR]
  obtain ⟨pv,ev⟩:=hr.shape
  obtain ⟨pw,ew⟩:=hr2.shape
  subst ev
  subst ew
  simp (maxSteps:=1000000) (disch:=omega) only [cd29,SS,eq_self,reduceIte,reduceCtorEq,Nat.reduceEqDiff,Nat.reduceAdd]
  generalize hv:Value.slice pv xs.length xs.length=v at *
  generalize hw:Value.slice pw ys.length ys.length=w at *
  have hp0:H<+:H ++ [AObj.cells [v,w] 27 false]:=List.prefix_append _ _
  refine CallH.by (are2_c n v w xs ys _ _ H rfl rfl hr hlen hxs hr2 hlen2 hys) ?_
  rintro _ H2 ⟨rfl,hp1⟩
  have hp:=hp0.trans hp1
  have hra:=hr.pre hp
  have hrb:=hr2.pre hp
  simp (maxSteps:=1000000) (disch:=omega) only [SS,eq_self,reduceIte,reduceCtorEq,Nat.reduceEqDiff,Nat.reduceAdd]
  refine brD.intro (fun ht=>?_) (fun ht=>?_) <;> simp (maxSteps:=1000000) (disch:=omega) only [ht,SS,eq_self,reduceIte,reduceCtorEq,Nat.reduceEqDiff,Nat.reduceAdd]
  . have hn:=ht.1
    simp (maxSteps:=1000000) (disch:=omega) only [wrap64,SS,eq_self,reduceIte,reduceCtorEq,Nat.reduceEqDiff,Nat.reduceAdd]
    refine LoopH.by (fun m s H'=>∃ i,m+i=n.toNat/\s 0=.int .i64 n/\s 1=v/\s 2=w/\s 19=.int .i64 ((i:Nat):Int)/\s 18=.int .i64 n/\s 8=.int .i64 (fanB n xs ys i)/\H2=H') n.toNat ?_ ?_
    . exact ⟨0,by simp,rfl,rfl,rfl,rfl,rfl,rfl,rfl⟩
    . rintro m s H' ⟨i,hm,h0,h1,h2,h9,h10,h8,rfl⟩
      have bt:=fanT_bd ht i
      have bb:=fanB_bd ht i
      simp (maxSteps:=1000000) (disch:=omega) only [h0,h1,h2,h9,h10,h8,SS,eq_self,reduceIte,reduceCtorEq,Nat.reduceEqDiff,Nat.reduceAdd]
      refine brD.intro (fun g=>?_) (fun g=>?_) <;> simp (maxSteps:=1000000) (disch:=omega) only [h0,h1,h2,h9,h10,h8,wrap64,SS,eq_self,reduceIte,reduceCtorEq,Nat.reduceEqDiff,Nat.reduceAdd]
      . refine CallH.by (at_c v xs _ H2 hra hlen hxs) ?_
        rintro _ _ ⟨rfl,rfl⟩
        have a1:=atN_le xs (i:Int)
        have a2:=atN_le ys (i:Int)
        have l1:=ht.a.len
        have l2:=ht.b.len
        simp (maxSteps:=1000000) (disch:=omega) only [h0,h1,h2,h9,h10,h8,wrap64,SS,eq_self,reduceIte,reduceCtorEq,Nat.reduceEqDiff,Nat.reduceAdd]
        refine CallH.by (at_c w ys _ H2 hrb hlen2 hys) ?_
        rintro _ _ ⟨rfl,rfl⟩
        have e:2 * (n - 3) - (atN xs (i:Int):Nat) - (atN ys (i:Int):Nat)=fanT n xs ys i:=rfl
        have e2:minI (fanB n xs ys i) (fanT n xs ys i)=fanB n xs ys (i+1):=by
          simp only [minI,fanB];split <;> split <;> omega
        simp (maxSteps:=1000000) (disch:=omega) only [h0,h1,h2,h9,h10,h8,wrap64,e,e2,SS,eq_self,reduceIte,reduceCtorEq,Nat.reduceEqDiff,Nat.reduceAdd]
        refine ⟨m - 1,by omega,i+1,by omega,?_⟩
        (repeat' apply And.intro) <;> first | rfl | trivial | assumption | omega | (simp only [Value.int.injEq,true_and];omega) | (simp;done) | (simp;omega)
      . refine hQ _ _ _ ?_
        simp (maxSteps:=1000000) (disch:=omega) only [h8,SS,eq_self,reduceIte,reduceCtorEq,Nat.reduceEqDiff,Nat.reduceAdd]
        have:i=n.toNat:=by omega
        subst this
        exact ⟨by simp [boundR,ht],hp⟩
  . refine hQ _ _ _ ?_
    simp (maxSteps:=1000000) (disch:=omega) only [SS,eq_self,reduceIte,reduceCtorEq,Nat.reduceEqDiff,Nat.reduceAdd]
    exact ⟨no ht,hp⟩
end Go.Proofs.YtjnefjchconebaaGreat.Ai
