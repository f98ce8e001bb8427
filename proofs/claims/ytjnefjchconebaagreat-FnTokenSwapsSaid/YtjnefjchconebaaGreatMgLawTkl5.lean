/- Texts of this claim, joined: Drs, Tks, Stp, PrmC, TreP, BfsP, PartP, ReachP, BfsQ, Bfs, Roads, TreQ, MatP, MatA. -/
import Derived.Test.YtjnefjchconebaaGreatProg
import Derived.KernelRfl
import Derived.Test.YtjnefjchconebaaGreatMgLawTkl4
set_option linter.unusedVariables false
set_option linter.unusedSimpArgs false
set_option maxHeartbeats 8000000
set_option maxRecDepth 20000
namespace Go.Proofs.YtjnefjchconebaaGreat.Ai
open Go Go.RowKit
def cd78:Cd:=(.seq (.reg [⟨⟨some 2,.alloc 26,none⟩,[]⟩]) (.seq (.seq (.reg [⟨⟨some 7,.move (.tmp 0),none⟩,[]⟩,⟨⟨some 8,.call ⟨(.value (.func 144)),#[.tmp 7,(.const (.int .i64 12))],#[86,3]⟩,none⟩,[]⟩]) (.cond (.tmp 8) (.seq (.reg [⟨⟨some 9,.move (.tmp 0),none⟩,[]⟩,⟨⟨some 10,.call ⟨(.value (.func 161)),#[.tmp 9],#[86]⟩,none⟩,[]⟩,⟨⟨none,.store 26 (.tmp 2) (.tmp 10),none⟩,[]⟩]) .ret) .skip)) (.seq (.reg [⟨⟨some 11,.move (.tmp 0),none⟩,[]⟩,⟨⟨some 12,.buildSlice 27 7 #[(0,(.const (.int .i64 4))),(1,(.const (.int .i64 3))),(2,(.const (.int .i64 5))),(3,(.const (.int .i64 4))),(4,(.const (.int .i64 2))),(5,(.const (.int .i64 1))),(6,(.const (.int .i64 0)))],none⟩,[]⟩,⟨⟨some 13,.call ⟨(.value (.func 162)),#[.tmp 11,.tmp 12],#[86,27]⟩,none⟩,[]⟩,⟨⟨some 14,.buildSlice 24 0 #[],none⟩,[]⟩,⟨⟨some 15,.build 26 #[(0,.tmp 13),(1,.tmp 14)],none⟩,[]⟩,⟨⟨some 3,.alloc 26,none⟩,[]⟩,⟨⟨none,.store 26 (.tmp 3) (.tmp 15),none⟩,[]⟩]) (.seq (.seq (.reg [⟨⟨some 4,.assign (.const (.int .i64 1)),none⟩,[]⟩]) (.block 0 (.loop (.seq (.seq (.reg [⟨⟨some 16,.move (.tmp 4),none⟩,[]⟩,⟨⟨some 17,.fieldAddr 26 (.tmp 3) 0,none⟩,[]⟩,⟨⟨some 18,.load 3 (.tmp 17),none⟩,[]⟩,
 ⟨⟨some 19,.binOp .lss 3 (.tmp 16) (.tmp 18) 3,none⟩,[]⟩]) (.cond (.tmp 19) .skip (.exit 0))) (.seq (.block 1 (.seq (.reg [⟨⟨some 22,.move (.tmp 0),none⟩,[]⟩,⟨⟨some 23,.call ⟨(.value (.func 144)),#[.tmp 22,(.const (.int .i64 16))],#[86,3]⟩,none⟩,[]⟩,⟨⟨some 24,.unOp .not 4 (.tmp 23),none⟩,[]⟩]) (.cond (.tmp 24) (.reg [⟨⟨some 25,.fieldAddr 26 (.tmp 3) 1,none⟩,[]⟩,⟨⟨some 26,.load 24 (.tmp 25),none⟩,[]⟩,⟨⟨some 27,.move (.tmp 0),none⟩,[]⟩,⟨⟨some 28,.move (.tmp 4),none⟩,[]⟩,⟨⟨some 30,.move (.tmp 4),none⟩,[]⟩,⟨⟨some 29,.call ⟨(.value (.func 111)),#[.tmp 27,.tmp 28],#[86,3]⟩,none⟩,[⟨some 26,.load 24 (.tmp 25),none⟩]⟩,⟨⟨some 31,.build 47 #[(0,.tmp 29),(1,.tmp 30)],none⟩,[]⟩,⟨⟨some 32,.call ⟨(.value (.func 163)),#[.tmp 26,.tmp 31],#[24,47]⟩,none⟩,[]⟩,⟨⟨some 33,.fieldAddr 26 (.tmp 3) 1,none⟩,[]⟩,⟨⟨none,.store 24 (.tmp 33) (.tmp 32),none⟩,[]⟩]) .skip))) (.reg [⟨⟨some 20,.move (.tmp 4),none⟩,[]⟩,
 ⟨⟨some 21,.binOp .add 3 (.tmp 20) (.const (.int .i64 1)) 3,none⟩,[]⟩,⟨⟨some 4,.assign (.tmp 21),none⟩,[]⟩])))))) (.seq (.seq (.reg [⟨⟨some 34,.move (.tmp 0),none⟩,[]⟩,⟨⟨some 35,.call ⟨(.value (.func 111)),#[.tmp 34,(.const (.int .i64 4))],#[86,3]⟩,none⟩,[]⟩,⟨⟨some 5,.assign (.tmp 35),none⟩,[]⟩]) (.block 2 (.loop (.seq (.seq (.reg [⟨⟨some 36,.move (.tmp 5),none⟩,[]⟩,⟨⟨some 37,.binOp .gtr 3 (.tmp 36) (.const (.int .i64 0)) 3,none⟩,[]⟩,⟨⟨some 38,.move (.tmp 37),none⟩,[]⟩,⟨⟨some 39,.fieldAddr 26 (.tmp 3) 0,some (38,true)⟩,[]⟩,⟨⟨some 40,.load 3 (.tmp 39),some (38,true)⟩,[]⟩,⟨⟨some 41,.binOp .gtr 3 (.tmp 40) (.const (.int .i64 2)) 3,some (38,true)⟩,[]⟩,⟨⟨some 42,.pick (.tmp 38) (.tmp 41) (.const (.bool false)),none⟩,[]⟩]) (.cond (.tmp 42) .skip (.exit 2))) (.seq (.block 3 (.seq (.reg [⟨⟨some 45,.move (.tmp 0),none⟩,[]⟩,⟨⟨some 46,.fieldAddr 26 (.tmp 3) 0,none⟩,[]⟩,⟨⟨some 47,.load 3 (.tmp 46),none⟩,[]⟩,
 ⟨⟨some 48,.binOp .sub 3 (.tmp 47) (.const (.int .i64 1)) 3,none⟩,[]⟩,⟨⟨some 49,.call ⟨(.value (.func 111)),#[.tmp 45,.tmp 48],#[86,3]⟩,none⟩,[]⟩,⟨⟨some 50,.binOp .add 3 (.const (.int .i64 1)) (.tmp 49) 3,none⟩,[]⟩,⟨⟨some 6,.assign (.tmp 50),none⟩,[]⟩]) (.reg [⟨⟨some 51,.fieldAddr 26 (.tmp 3) 1,none⟩,[]⟩,⟨⟨some 52,.load 24 (.tmp 51),none⟩,[]⟩,⟨⟨some 53,.move (.tmp 0),none⟩,[]⟩,⟨⟨some 54,.move (.tmp 6),none⟩,[]⟩,⟨⟨some 56,.move (.tmp 6),none⟩,[]⟩,⟨⟨some 55,.call ⟨(.value (.func 111)),#[.tmp 53,.tmp 54],#[86,3]⟩,none⟩,[⟨some 52,.load 24 (.tmp 51),none⟩]⟩,⟨⟨some 57,.build 47 #[(0,.tmp 55),(1,.tmp 56)],none⟩,[]⟩,⟨⟨some 58,.call ⟨(.value (.func 163)),#[.tmp 52,.tmp 57],#[24,47]⟩,none⟩,[]⟩,⟨⟨some 59,.fieldAddr 26 (.tmp 3) 1,none⟩,[]⟩,
 ⟨⟨none,.store 24 (.tmp 59) (.tmp 58),none⟩,[]⟩]))) (.reg [⟨⟨some 43,.move (.tmp 5),none⟩,[]⟩,
  ⟨⟨some 44,.binOp .sub 3 (.tmp 43) (.const (.int .i64 1)) 3,none⟩,[]⟩,
  ⟨⟨some 5,.assign (.tmp 44),none⟩,[]⟩])))))) (.seq (.reg [⟨⟨some 60,.load 26 (.tmp 3),none⟩,[]⟩,
  ⟨⟨none,.store 26 (.tmp 2) (.tmp 60),none⟩,[]⟩]) .ret))))))
theorem in78:InT Tryz.prog 78 1 [.cell 2 26] cd78:=InT.mk (by kernel_rfl) [(8,[(0,false),(1,false),(2,false),(3,false),(5,false),(4,true),(6,false),(7,true),(8,false),(9,true)]),(13,[(0,false),(1,false),(2,false),(3,false),(5,false),(4,true),(6,false),(7,true),(8,false),(9,true)])] Tryz.func78 rfl (by kernel_rfl) (by kernel_rfl) (of_decide_eq_true (by kernel_rfl)) (by kernel_rfl)
def cd148:Cd:=(.seq (.reg [⟨⟨some 2,.alloc 26,none⟩,[]⟩]) (.seq (.reg [⟨⟨some 8,.move (.tmp 0),none⟩,[]⟩,⟨⟨some 9,.call ⟨(.value (.func 111)),#[.tmp 8,(.const (.int .i64 3))],#[86,3]⟩,none⟩,[]⟩,⟨⟨some 10,.binOp .add 3 (.const (.int .i64 3)) (.tmp 9) 3,none⟩,[]⟩,⟨⟨some 11,.buildSlice 24 0 #[],none⟩,[]⟩,⟨⟨some 12,.build 26 #[(0,.tmp 10),(1,.tmp 11)],none⟩,[]⟩,⟨⟨some 3,.alloc 26,none⟩,[]⟩,⟨⟨none,.store 26 (.tmp 3) (.tmp 12),none⟩,[]⟩]) (.seq (.reg [⟨⟨some 13,.move (.tmp 0),none⟩,[]⟩,⟨⟨some 14,.call ⟨(.value (.func 111)),#[.tmp 13,(.const (.int .i64 6))],#[86,3]⟩,none⟩,[]⟩,⟨⟨some 4,.assign (.tmp 14),none⟩,[]⟩]) (.seq (.seq (.reg [⟨⟨some 15,.move (.tmp 4),none⟩,[]⟩,⟨⟨some 16,.binOp .gtr 3 (.tmp 15) (.const (.int .i64 3)) 3,none⟩,[]⟩]) (.cond (.tmp 16) (.seq (.reg [⟨⟨some 17,.move (.tmp 0),none⟩,[]⟩,⟨⟨some 18,.call ⟨(.value (.func 78)),#[.tmp 17],#[86]⟩,none⟩,[]⟩,⟨⟨none,.store 26 (.tmp 2) (.tmp 18),none⟩,[]⟩]) .ret) .skip)) (.seq (.seq (.reg [⟨⟨some 5,.assign (.const (.int .i64 1)),none⟩,[]⟩]) (.block 0 (.loop (.seq (.seq (.reg [⟨⟨some 19,.move (.tmp 5),none⟩,[]⟩,
 ⟨⟨some 20,.fieldAddr 26 (.tmp 3) 0,none⟩,[]⟩,⟨⟨some 21,.load 3 (.tmp 20),none⟩,[]⟩,⟨⟨some 22,.binOp .lss 3 (.tmp 19) (.tmp 21) 3,none⟩,[]⟩]) (.cond (.tmp 22) .skip (.exit 0))) (.seq (.block 1 (.seq (.reg [⟨⟨some 6,.assign (.const (.int .i64 0)),none⟩,[]⟩]) (.block 2 (.loop (.seq (.seq (.reg [⟨⟨some 25,.move (.tmp 6),none⟩,[]⟩,⟨⟨some 26,.move (.tmp 5),none⟩,[]⟩,⟨⟨some 27,.binOp .lss 3 (.tmp 25) (.tmp 26) 3,none⟩,[]⟩]) (.cond (.tmp 27) .skip (.exit 2))) (.seq (.block 3 (.seq (.reg [⟨⟨some 30,.move (.tmp 6),none⟩,[]⟩,⟨⟨some 31,.binOp .add 3 (.tmp 30) (.const (.int .i64 1)) 3,none⟩,[]⟩,⟨⟨some 32,.move (.tmp 5),none⟩,[]⟩,⟨⟨some 33,.binOp .eql 3 (.tmp 31) (.tmp 32) 3,none⟩,[]⟩,⟨⟨some 34,.move (.tmp 33),none⟩,[]⟩,⟨⟨some 35,.move (.tmp 4),some (34,false)⟩,[]⟩,⟨⟨some 36,.binOp .eql 3 (.tmp 35) (.const (.int .i64 1)) 3,some (34,false)⟩,[]⟩,⟨⟨some 37,.move (.tmp 36),some (34,false)⟩,[]⟩,
 ⟨⟨some 38,.move (.tmp 6),some (37,true)⟩,[]⟩,⟨⟨some 39,.binOp .eql 3 (.tmp 38) (.const (.int .i64 0)) 3,some (37,true)⟩,[]⟩,⟨⟨some 40,.pick (.tmp 37) (.tmp 39) (.const (.bool false)),some (34,false)⟩,[]⟩,⟨⟨some 41,.move (.tmp 40),some (34,false)⟩,[]⟩,⟨⟨some 42,.move (.tmp 5),some (41,true)⟩,[]⟩,⟨⟨some 43,.binOp .add 3 (.tmp 42) (.const (.int .i64 1)) 3,some (41,true)⟩,[]⟩,⟨⟨some 44,.fieldAddr 26 (.tmp 3) 0,some (41,true)⟩,[]⟩,⟨⟨some 45,.load 3 (.tmp 44),some (41,true)⟩,[]⟩,⟨⟨some 46,.binOp .eql 3 (.tmp 43) (.tmp 45) 3,some (41,true)⟩,[]⟩,⟨⟨some 47,.pick (.tmp 41) (.tmp 46) (.const (.bool false)),some (34,false)⟩,[]⟩,⟨⟨some 48,.pick (.tmp 34) (.const (.bool true)) (.tmp 47),none⟩,[]⟩,⟨⟨some 7,.assign (.tmp 48),none⟩,[]⟩]) (.seq (.reg [⟨⟨some 49,.move (.tmp 4),none⟩,[]⟩,
 ⟨⟨some 50,.binOp .eql 3 (.tmp 49) (.const (.int .i64 0)) 3,none⟩,[]⟩,⟨⟨some 51,.move (.tmp 50),none⟩,[]⟩,⟨⟨some 52,.move (.tmp 4),some (51,false)⟩,[]⟩,⟨⟨some 53,.binOp .lss 3 (.tmp 52) (.const (.int .i64 3)) 3,some (51,false)⟩,[]⟩,⟨⟨some 54,.move (.tmp 53),some (51,false)⟩,[]⟩,⟨⟨some 55,.move (.tmp 7),some (54,true)⟩,[]⟩,⟨⟨some 56,.pick (.tmp 54) (.tmp 55) (.const (.bool false)),some (51,false)⟩,[]⟩,⟨⟨some 57,.pick (.tmp 51) (.const (.bool true)) (.tmp 56),none⟩,[]⟩,⟨⟨some 58,.move (.tmp 57),none⟩,[]⟩,⟨⟨some 59,.move (.tmp 4),some (58,false)⟩,[]⟩,⟨⟨some 60,.binOp .eql 3 (.tmp 59) (.const (.int .i64 3)) 3,some (58,false)⟩,[]⟩,⟨⟨some 61,.move (.tmp 60),some (58,false)⟩,[]⟩,
 ⟨⟨some 62,.move (.tmp 6),some (61,true)⟩,[]⟩,⟨⟨some 63,.binOp .eql 3 (.tmp 62) (.const (.int .i64 0)) 3,some (61,true)⟩,[]⟩,⟨⟨some 64,.pick (.tmp 61) (.tmp 63) (.const (.bool false)),some (58,false)⟩,[]⟩,⟨⟨some 65,.pick (.tmp 58) (.const (.bool true)) (.tmp 64),none⟩,[]⟩]) (.cond (.tmp 65) (.reg [⟨⟨some 66,.fieldAddr 26 (.tmp 3) 1,none⟩,[]⟩,⟨⟨some 67,.load 24 (.tmp 66),none⟩,[]⟩,⟨⟨some 68,.move (.tmp 6),none⟩,[]⟩,⟨⟨some 69,.move (.tmp 5),none⟩,[]⟩,⟨⟨some 70,.build 47 #[(0,.tmp 68),(1,.tmp 69)],none⟩,[]⟩,⟨⟨some 71,.call ⟨(.value (.func 163)),#[.tmp 67,.tmp 70],#[24,47]⟩,none⟩,[]⟩,⟨⟨some 72,.fieldAddr 26 (.tmp 3) 1,none⟩,[]⟩,⟨⟨none,.store 24 (.tmp 72) (.tmp 71),none⟩,[]⟩]) .skip)))) (.reg [⟨⟨some 28,.move (.tmp 6),none⟩,[]⟩,⟨⟨some 29,.binOp .add 3 (.tmp 28) (.const (.int .i64 1)) 3,none⟩,[]⟩,
 ⟨⟨some 6,.assign (.tmp 29),none⟩,[]⟩]))))))) (.reg [⟨⟨some 23,.move (.tmp 5),none⟩,[]⟩,
  ⟨⟨some 24,.binOp .add 3 (.tmp 23) (.const (.int .i64 1)) 3,none⟩,[]⟩,
  ⟨⟨some 5,.assign (.tmp 24),none⟩,[]⟩])))))) (.seq (.reg [⟨⟨some 73,.load 26 (.tmp 3),none⟩,[]⟩,
  ⟨⟨none,.store 26 (.tmp 2) (.tmp 73),none⟩,[]⟩]) .ret))))))
theorem in148:InT Tryz.prog 148 1 [.cell 2 26] cd148:=InT.mk (by kernel_rfl) [] Tryz.func148 rfl (by kernel_rfl) (by kernel_rfl) (of_decide_eq_true (by kernel_rfl)) (by kernel_rfl)
end Go.Proofs.YtjnefjchconebaaGreat.Ai
namespace Go.Proofs.YtjnefjchconebaaGreat.Ai
open Go Go.RowKit
theorem retG9 {H K:AH}{o:Nat}{v:Value}{us:List Value}{N M:Nat}(h:Cur H o v us N){n:Int}{w:Value}{ps:List (Int × Int)}(q1:K[H.length]?=some (.cells [.int .i64 0,.slice none 0 0] 26 false))(q3:MineP 47 H K w ps)(q5:rowO w ≠ H.length∨w=.slice none 0 0)(q9:Cur K o v us M)(q10:Keeps o H K) :
    (K.set H.length (.cells [.int .i64 n,w] 26 false))[H.length]?=some (.cells [.int .i64 n,w] 26 false)/\MineP 47 H (K.set H.length (.cells [.int .i64 n,w] 26 false)) w ps/\Cur (K.set H.length (.cells [.int .i64 n,w] 26 false)) o v us M/\Keeps o H (K.set H.length (.cells [.int .i64 n,w] 26 false)):=by
  have ho:o<H.length:=by
    obtain ⟨_,_,g,_⟩:=h.cur
    exact at_lt g
  have at_:∀ {j:Nat} {y:AObj},j ≠ H.length->K[j]?=some y->(K.set H.length (.cells [.int .i64 n,w] 26 false))[j]?=some y:=fun hj hy=>by rw [List.getElem?_set_ne (fun e=>hj e.symm)];exact hy
  obtain ⟨a,sd,c1,c2,c3⟩:=q9.cur
  refine ⟨at_set q1,?_,⟨⟨a,sd,at_ (by omega) c1,c2,c3⟩,q9.row.mono fun y hy=>at_ ?_ hy,q9.byt,q9.ap,q9.le⟩,⟨by have:=q10.1;simp;omega,fun j y hj hy=>at_ (by have:=at_lt hy;omega) (q10.2 j y hj hy)⟩⟩
  . rcases q5 with e | e
    . exact q3.keep fun y hy=>at_ e hy
    . rcases q3 with z | ⟨_,_,z,_⟩
      . exact .inl z
      . rw [z] at e;cases e
  . rcases h.row with q | ⟨o',k',vs',ro',e1,g2,_⟩
    . rw [q.1]
      show (0:Nat) ≠ H.length
      omega
    . rw [e1]
      have:=at_lt g2
      show o' ≠ H.length
      omega
theorem GSt.pickPut {H:AH}{o gp:Nat}{v:Value}{us:List Value}{N0:Nat}(h:Cur H o v us N0)(ho:o<H.length)(hgp:H.length<gp){n:Int}{N1 L1:Nat}{K1:AH}{w1:Value}(x:Nat)(hG:GSt H o gp v us N1 L1 K1)(hc:K1[gp]?=some (.cells [.int .i64 n,w1] 26 false))(hL:L1<=500)(hN1:N1<=95000000)(hx:x<=8) :
    ACalls Tryz.prog 111 [.pointer (some ⟨o,0,none⟩),.int .i64 (x:Int)] K1 fun r K2=>∃ k:Nat,r=.int .i64 (k:Int)/\k<=8/\K2[gp]?=some (.cells [.int .i64 n,w1] 26 false)/\ACalls Tryz.prog 163 [w1,.agg (List.toArray [.int .i64 (k:Int),.int .i64 (x:Int)])] K2 fun r K3=>∃ K4,storeA Tryz.prog 24 (.pointer (some ⟨gp,1,none⟩)) r K3=some K4/\isTup r=false/\GSt H o gp v us (N1+1) (L1+1) K4/\∃ w2,K4[gp]?=some (.cells [.int .i64 n,w2] 26 false):=by
  refine (pick_c hG.cr (by omega) (x:Int) (by omega)).mono fun r K2 hr=>?_
  obtain ⟨⟨k,rfl,hk⟩,hC2,oK⟩:=hr
  have c2:=oK.2 gp _ (by omega) hc
  obtain ⟨n',w',e1,e2,hput⟩:=(hG.cur ho (by omega) oK hC2).putc h ho hgp (k:Int) (x:Int) hL (by omega)
  have e0:=c2.symm.trans e2
  simp only [Option.some.injEq,AObj.cells.injEq,List.cons.injEq,Value.int.injEq,true_and,and_true] at e0
  obtain ⟨e3,e4⟩:=e0
  subst e3
  subst e4
  refine ⟨k,rfl,by omega,c2,hput.mono fun r K3 hr=>?_⟩
  obtain ⟨K4,t1,t2,t3,t4⟩:=hr
  exact ⟨K4,t1,t2,t3,_,t4⟩
theorem small9_c {H:AH}{o:Nat}{v:Value}{us:List Value}{N:Nat}(h:Cur H o v us N)(hN:N<=90000000) :
    ACalls Tryz.prog 78 [.pointer (some ⟨o,0,none⟩)] H fun r H'=>∃ (n:Int) (w:Value) (ps:List (Int × Int)),r=.agg (List.toArray [.int .i64 n,w])/\MineP 47 H H' w ps/\I64 n/\ps.length<=200/\Sml ps/\Cur H' o v us (N+1010)/\Keeps o H H':=by
  have ho:o<H.length:=by
    obtain ⟨_,_,g,_⟩:=h.cur
    exact at_lt g
  refine in78 rfl ?_
  intro Q hQ
  rw [cd78]
  generalize hA:H ++ [AObj.cells [.int .i64 0,.slice none 0 0] 26 false]=A
  have pA:H<+:A:=by rw [<- hA];exact List.prefix_append _ _
  have cA:A[H.length]?=some (.cells [.int .i64 0,.slice none 0 0] 26 false):=by rw [<- hA];exact at_new ..
  have lA:A.length=H.length+1:=by rw [<- hA];simp
  have al:=alloc_G H
  rw [hA] at al
  refine cutC (fun s K=>A=K/\s 0=.pointer (some ⟨o,0,none⟩)/\s 2=.pointer (some ⟨H.length,0,none⟩)) (fun c hc=>?_) ?_
  . simp (disch:=omega) only [al,SS,eq_self,reduceIte,reduceCtorEq,Nat.reduceEqDiff,Nat.reduceAdd]
    exact hc _ _ ⟨rfl,rfl,rfl⟩
  rintro s _ ⟨rfl,s0,s2⟩
  refine cutC (fun s K=>s 0=.pointer (some ⟨o,0,none⟩)/\s 2=.pointer (some ⟨H.length,0,none⟩)/\Cur K o v us (N+1)/\Keeps o A K) (fun c hc=>?_) ?_
  . simp (disch:=omega) only [s0,s2,SS,eq_self,reduceIte,reduceCtorEq,Nat.reduceEqDiff,Nat.reduceAdd]
    refine CallH.by (one_c (h.pre pA) (by omega) 12 (by omega)) ?_
    rintro _ B ⟨⟨b,rfl⟩,hCB,oB⟩
    simp (disch:=omega) only [SS,eq_self,reduceIte,reduceCtorEq,Nat.reduceEqDiff,Nat.reduceAdd]
    cases b with
    | false =>
      refine brH.intro (fun q=>by cases q) (fun _=>?_)
      simp (disch:=omega) only [SS,eq_self,reduceIte,reduceCtorEq,Nat.reduceEqDiff,Nat.reduceAdd]
      exact hc _ _ ⟨s0,s2,hCB,oB.keeps⟩
    | true =>
      refine brH.intro (fun _=>?_) (fun q=>by cases q)
      simp (disch:=omega) only [s0,s2,SS,eq_self,reduceIte,reduceCtorEq,Nat.reduceEqDiff,Nat.reduceAdd]
      refine CallH.by (graph_c hCB (by omega)) ?_
      rintro _ K ⟨n,w,ps,rfl,hm,hn,hl,hs,hC,hK⟩
      have lB:=oB.1
      have c1:=hK.2 _ _ (by omega) (oB.2 _ _ (by omega) cA)
      have hm':MineP 47 H K w ps:=by
        rcases hm with z | ⟨q,zs,z1,z2,z3,z4⟩
        . exact .inl z
        . exact .inr ⟨q,zs,z1,by omega,z3,z4⟩
      have q5:rowO w ≠ H.length∨w=.slice none 0 0:=by
        rcases hm with z | ⟨q,zs,z1,z2,_⟩
        . exact .inr z.1
        . left;rw [z1];show q ≠ H.length;omega
      have hst:=st_G hm.row c1 rfl n
      obtain ⟨d4,t1,t2,t3⟩:=retG9 h (n:=n) c1 hm' q5 hC ((Keeps.of_pre pA).trans (oB.keeps.trans hK))
      simp (disch:=omega) only [s2,hst,SS,eq_self,reduceIte,reduceCtorEq,Nat.reduceEqDiff,Nat.reduceAdd]
      refine hQ _ _ _ (end_cell _ _ _ _ _ _ (.agg (List.toArray [.int .i64 n,w])) ?_ rfl ⟨n,w,ps,rfl,t1,hn,hl,hs,t2.more (by omega),t3⟩)
      simp (disch:=omega) only [s2,ld_agg ag26 cs26 d4,SS,eq_self,reduceIte,reduceCtorEq,Nat.reduceEqDiff,Nat.reduceAdd]
  clear s0 s2 s
  rintro s B ⟨s0,s2,hCB,kB⟩
  have lB:=kB.1
  have cB:=kB.2 _ _ (by omega) cA
  have kHB:Keeps o H B:=(Keeps.of_pre pA).trans kB
  have blK2:∀ H0:AH,buildSliceA Tryz.prog 27 7 [(0,.int .i64 4),(1,.int .i64 3),(2,.int .i64 5),(3,.int .i64 4),(4,.int .i64 2),(5,.int .i64 1),(6,.int .i64 0)] H0=some (.slice (some ⟨H0.length,0,none⟩) 7 7,H0 ++ [.cells [.int .i64 4,.int .i64 3,.int .i64 5,.int .i64 4,.int .i64 2,.int .i64 1,.int .i64 0] 3 false]):=fun H0=>by kernel_rfl
  have blG:∀ (n:Int) (p:Option Addr) (k c:Nat),buildA Tryz.prog 26 [(0,.int .i64 n),(1,.slice p k c)]=some (.agg (List.toArray [.int .i64 n,.slice p k c])):=fun _ _ _ _=>by kernel_rfl
  refine cutC (fun s K=>s 0=.pointer (some ⟨o,0,none⟩)/\s 2=.pointer (some ⟨H.length,0,none⟩)/\∃ (gp n:Nat) (w:Value),s 3=.pointer (some ⟨gp,0,none⟩)/\n<=5/\H.length<gp/\GSt H o gp v us (N+2) 0 K/\K[gp]?=some (.cells [.int .i64 (n:Int),w] 26 false)) (fun c hc=>?_) ?_
  . generalize hD:B ++ [AObj.cells [.int .i64 4,.int .i64 3,.int .i64 5,.int .i64 4,.int .i64 2,.int .i64 1,.int .i64 0] 3 false]=D
    have pD:B<+:D:=by rw [<- hD];exact List.prefix_append _ _
    have aD:D[B.length]?=some (.cells [.int .i64 4,.int .i64 3,.int .i64 5,.int .i64 4,.int .i64 2,.int .i64 1,.int .i64 0] 3 false):=by rw [<- hD];exact at_new ..
    have wD:Row 3 D (.slice (some ⟨B.length,0,none⟩) 7 7) [4,3,5,4,2,1,0]:=.inr ⟨B.length,0,_,false,rfl,aD,by simp,rfl⟩
    have lD:D.length=B.length+1:=by rw [<- hD];simp
    simp (disch:=omega) only [s0,s2,blK2,hD,SS,eq_self,reduceIte,reduceCtorEq,Nat.reduceEqDiff,Nat.reduceAdd]
    refine CallH.by (among_c (hCB.pre pD) (by omega) wD (by show B.length ≠ o;omega) (by simp)) ?_
    rintro _ E ⟨⟨d,rfl,hd⟩,hCE,oE⟩
    obtain ⟨n,rfl,hn⟩:∃ n:Nat,d=n/\n<=5:=⟨d.toNat,by simp at hd;omega,by simp at hd;omega⟩
    have lE:=oE.1
    generalize hF:E ++ [AObj.cells [] 47 false]=F
    have pF:E<+:F:=by rw [<- hF];exact List.prefix_append _ _
    have lF:F.length=E.length+1:=by rw [<- hF];simp
    have mF:MineP 47 H F (.slice (some ⟨E.length,0,none⟩) 0 0) []:=by rw [<- hF];exact MineP.nil0 (P:=Tryz.prog) H E (by omega)
    have st1:=st_G mF.row (at_new F (.cells [.int .i64 0,.slice none 0 0] 26 false)) rfl (n:Int)
    rw [set_new] at st1
    simp (disch:=omega) only [s0,s2,hF,blG,alloc_G,st1,SS,eq_self,reduceIte,reduceCtorEq,Nat.reduceEqDiff,Nat.reduceAdd]
    have pG:F<+:F ++ [AObj.cells [.int .i64 (n:Int),.slice (some ⟨E.length,0,none⟩) 0 0] 26 false]:=List.prefix_append _ _
    have kBE:Keeps o B E:=(Keeps.of_pre pD).trans oE.keeps
    refine hc _ _ ⟨s0,s2,F.length,n,.slice (some ⟨E.length,0,none⟩) 0 0,rfl,hn,by omega,⟨(n:Int),.slice (some ⟨E.length,0,none⟩) 0 0,[],?_,at_new ..,mF.pre pG,?_,.inl ?_,⟨by omega,by omega⟩,Nat.le_refl _,fun y hy=>by simp at hy,(hCE.pre pF).pre pG,kHB.trans (kBE.trans (.of_pre (pF.trans pG)))⟩,at_new ..⟩
    . exact pre_at pG (pre_at pF (kBE.2 _ _ (by omega) cB))
    . show E.length ≠ F.length;omega
    . show E.length ≠ H.length;omega
  clear s0 s2 cB kHB lB hCB kB s B
  rintro s K ⟨s0,s2,gp,n,w1,s3,hn,hgp,hG,cg⟩
  refine cutC (fun s K=>s 0=.pointer (some ⟨o,0,none⟩)/\s 2=.pointer (some ⟨H.length,0,none⟩)/\s 3=.pointer (some ⟨gp,0,none⟩)/\GSt H o gp v us (N+30) 30 K/\∃ w,K[gp]?=some (.cells [.int .i64 (n:Int),w] 26 false)) (fun c hc=>?_) ?_
  . simp (disch:=omega) only [s0,s2,s3,SS,eq_self,reduceIte,reduceCtorEq,Nat.reduceEqDiff,Nat.reduceAdd]
    refine LoopH.by (fun m s K=>∃ (x:Nat) (w:Value),n - x=m/\1<=x/\x<=6/\s 0=.pointer (some ⟨o,0,none⟩)/\s 2=.pointer (some ⟨H.length,0,none⟩)/\s 3=.pointer (some ⟨gp,0,none⟩)/\s 4=.int .i64 (x:Int)/\GSt H o gp v us (N+2+2 * x) x K/\K[gp]?=some (.cells [.int .i64 (n:Int),w] 26 false)) (n - 1) ?_ ?_
    . have f1:=hG.more (show N+2<=N+2+2 * 1 by omega) (show 0<=1 by omega)
      refine ⟨1,w1,rfl,?_⟩
      simp (disch:=omega) only [s0,s2,s3,SS,eq_self,reduceIte,reduceCtorEq,Nat.reduceEqDiff,Nat.reduceAdd]
      (repeat' first | exact f1 | exact cg | apply And.intro) <;> first | (simp only [Value.int.injEq,true_and];omega) | omega | rfl | assumption | (simp;done) | (simp;omega)
    clear s0 s2 s3 hG cg w1 s K
    rintro m s K ⟨x,w1,hm,hx,hx6,s0,s2,s3,s4,hG,cg⟩
    simp (disch:=omega) only [s0,s2,s3,s4,cell_of cg,SS,eq_self,reduceIte,reduceCtorEq,Nat.reduceEqDiff,Nat.reduceAdd]
    refine brD.intro (fun g=>?_) (fun g=>?_)
    rotate_left
    . simp (disch:=omega) only [s0,s2,s3,SS,eq_self,reduceIte,reduceCtorEq,Nat.reduceEqDiff,Nat.reduceAdd]
      exact hc _ _ ⟨s0,s2,s3,hG.more (by omega) (by omega),w1,cg⟩
    simp (disch:=omega) only [s0,s2,s3,s4,SS,eq_self,reduceIte,reduceCtorEq,Nat.reduceEqDiff,Nat.reduceAdd]
    refine CallH.by (one_c hG.cr (by omega) 16 (by omega)) ?_
    rintro _ L ⟨⟨b,rfl⟩,hCL,oL⟩
    have hGL:=hG.cur ho (by omega) oL hCL
    have cL:=oL.2 gp _ (by omega) cg
    cases b with
    | true =>
      simp (disch:=omega) only [s0,s2,s3,s4,wrap64,SS,eq_self,reduceIte,reduceCtorEq,Nat.reduceEqDiff,Nat.reduceAdd]
      have f1:=hGL.more (show N+2+2 * x+1<=N+2+2 * (x+1) by omega) (show x<=x+1 by omega)
      refine ⟨m - 1,by omega,x+1,w1,?_⟩
      (repeat' first | exact f1 | exact cL | apply And.intro) <;> first | (simp only [Value.int.injEq,true_and];omega) | omega | rfl | assumption | (simp;done) | (simp;omega)
    | false =>
      simp (disch:=omega) only [s0,s2,s3,s4,cell_of cL,SS,eq_self,reduceIte,reduceCtorEq,Nat.reduceEqDiff,Nat.reduceAdd]
      refine CallH.by (hGL.pickPut h ho hgp x cL (by omega) (by omega) (by omega)) ?_
      rintro _ P ⟨k,rfl,hk,cP,hput⟩
      simp (disch:=omega) only [s0,s2,s3,s4,cell_of cP,build_a2,SS,eq_self,reduceIte,reduceCtorEq,Nat.reduceEqDiff,Nat.reduceAdd]
      refine CallH.by hput ?_
      rintro r R ⟨K4,t1,t2,t3,w2,t4⟩
      simp (disch:=omega) only [s0,s2,s3,s4,t1,wrap64,SS,eq_self,reduceIte,reduceCtorEq,Nat.reduceEqDiff,Nat.reduceAdd]
      have f1:=t3.more (show N+2+2 * x+1+1<=N+2+2 * (x+1) by omega) (Nat.le_refl (x+1))
      refine ⟨m - 1,by omega,x+1,w2,?_⟩
      (repeat' first | exact f1 | exact t4 | apply And.intro) <;> first | (simp only [Value.int.injEq,true_and];omega) | omega | rfl | assumption | (simp;done) | (simp;omega)
  clear s0 s2 s3 hG cg w1 s K
  rintro s K ⟨s0,s2,s3,hG,w1,cg⟩
  refine cutC (fun s K=>s 2=.pointer (some ⟨H.length,0,none⟩)/\s 3=.pointer (some ⟨gp,0,none⟩)/\GSt H o gp v us (N+60) 60 K) (fun c hc=>?_) ?_
  . simp (disch:=omega) only [s0,s2,s3,SS,eq_self,reduceIte,reduceCtorEq,Nat.reduceEqDiff,Nat.reduceAdd]
    refine CallH.by (pick_c hG.cr (by omega) 4 (by omega)) ?_
    rintro _ L ⟨⟨k0,rfl,hk0⟩,hCL,oL⟩
    have hGL:=hG.cur ho (by omega) oL hCL
    have cL:=oL.2 gp _ (by omega) cg
    simp (disch:=omega) only [s0,s2,s3,SS,eq_self,reduceIte,reduceCtorEq,Nat.reduceEqDiff,Nat.reduceAdd]
    refine LoopH.by (fun m s K=>∃ (j:Nat) (w:Value),m+j=k0/\s 0=.pointer (some ⟨o,0,none⟩)/\s 2=.pointer (some ⟨H.length,0,none⟩)/\s 3=.pointer (some ⟨gp,0,none⟩)/\s 5=.int .i64 (m:Int)/\GSt H o gp v us (N+30+1+j * 2) (30+j) K/\K[gp]?=some (.cells [.int .i64 (n:Int),w] 26 false)) k0 ?_ ?_
    . refine ⟨0,w1,by omega,?_⟩
      simp (disch:=omega) only [s0,s2,s3,SS,eq_self,reduceIte,reduceCtorEq,Nat.reduceEqDiff,Nat.reduceAdd]
      (repeat' first | exact hGL | exact cL | apply And.intro) <;> first | (simp only [Value.int.injEq,true_and];omega) | omega | rfl | assumption | (simp;done) | (simp;omega)
    clear s0 s2 s3 hG cg hGL cL hCL oL w1 s K L
    rintro m s K ⟨j,w1,hm,s0,s2,s3,s5,hG,cg⟩
    simp (disch:=omega) only [s0,s2,s3,s5,SS,eq_self,reduceIte,reduceCtorEq,Nat.reduceEqDiff,Nat.reduceAdd]
    by_cases g:(0:Int)<(m:Int)
    rotate_left
    . simp (disch:=omega) only [decide_eq_false g,SS,eq_self,reduceIte,reduceCtorEq,Nat.reduceEqDiff,Nat.reduceAdd]
      exact hc _ _ ⟨s2,s3,hG.more (by omega) (by omega)⟩
    simp (disch:=omega) only [decide_eq_true g,s3,cell_of cg,SS,eq_self,reduceIte,reduceCtorEq,Nat.reduceEqDiff,Nat.reduceAdd]
    by_cases g2:(2:Int)<(n:Int)
    rotate_left
    . simp (disch:=omega) only [decide_eq_false g2,SS,eq_self,reduceIte,reduceCtorEq,Nat.reduceEqDiff,Nat.reduceAdd]
      exact hc _ _ ⟨s2,s3,hG.more (by omega) (by omega)⟩
    have hw1:IntKind.i64.wrap ((n:Int) - 1)=((n - 1:Nat):Int):=by rw [wrap64 (by omega) (by omega)];omega
    simp (disch:=omega) only [decide_eq_true g2,s0,s2,s3,s5,cell_of cg,hw1,SS,eq_self,reduceIte,reduceCtorEq,Nat.reduceEqDiff,Nat.reduceAdd]
    refine CallH.by (pick_c hG.cr (by omega) ((n - 1:Nat):Int) (by omega)) ?_
    rintro _ L ⟨⟨k,rfl,hk⟩,hCL,oL⟩
    have hGL:=hG.cur ho (by omega) oL hCL
    have cL:=oL.2 gp _ (by omega) cg
    have hw2:IntKind.i64.wrap (1+(k:Int))=((1+k:Nat):Int):=by rw [wrap64 (by omega) (by omega)];omega
    simp (disch:=omega) only [s0,s2,s3,s5,hw2,cell_of cL,SS,eq_self,reduceIte,reduceCtorEq,Nat.reduceEqDiff,Nat.reduceAdd]
    refine CallH.by (hGL.pickPut h ho hgp (1+k) cL (by omega) (by omega) (by omega)) ?_
    rintro _ P ⟨k2,rfl,hk2,cP,hput⟩
    simp (disch:=omega) only [s0,s2,s3,s5,cell_of cP,build_a2,SS,eq_self,reduceIte,reduceCtorEq,Nat.reduceEqDiff,Nat.reduceAdd]
    refine CallH.by hput ?_
    rintro r R ⟨K4,t1,t2,t3,w2,t4⟩
    have hw3:IntKind.i64.wrap ((m:Int) - 1)=((m - 1:Nat):Int):=by rw [wrap64 (by omega) (by omega)];omega
    simp (disch:=omega) only [s0,s2,s3,s5,t1,hw3,SS,eq_self,reduceIte,reduceCtorEq,Nat.reduceEqDiff,Nat.reduceAdd]
    have f1:=t3.more (show N+30+1+j * 2+1+1<=N+30+1+(j+1) * 2 by omega) (show 30+j+1<=30+(j+1) by omega)
    refine ⟨m - 1,by omega,j+1,w2,?_⟩
    (repeat' first | exact f1 | exact t4 | apply And.intro) <;> first | (simp only [Value.int.injEq,true_and];omega) | omega | rfl | assumption | (simp;done) | (simp;omega)
  clear s0 s2 s3 hG cg w1 s K
  rintro s K ⟨s2,s3,n1,w,ps,q1,q2,q3,q4,q5,q6,q7,q8,q9,q10⟩
  have hst:=st_G q3.row q1 rfl n1
  obtain ⟨d4,t1,t2,t3⟩:=retG9 h (n:=n1) q1 q3 q5 q9 q10
  simp (disch:=omega) only [s2,s3,ld_agg ag26 cs26 q2,hst,SS,eq_self,reduceIte,reduceCtorEq,Nat.reduceEqDiff,Nat.reduceAdd]
  refine hQ _ _ _ (end_cell _ _ _ _ _ _ (.agg (List.toArray [.int .i64 n1,w])) ?_ rfl ⟨n1,w,ps,rfl,t1,q6,by omega,q8,t2.more (by omega),t3⟩)
  simp (disch:=omega) only [s2,ld_agg ag26 cs26 d4,SS,eq_self,reduceIte,reduceCtorEq,Nat.reduceEqDiff,Nat.reduceAdd]
theorem GSt.justPut {H:AH}{o gp:Nat}{v:Value}{us:List Value}{N0:Nat}(h:Cur H o v us N0)(ho:o<H.length)(hgp:H.length<gp){n:Int}{N1 L1:Nat}{K1:AH}{w1:Value}(a b:Int)(hG:GSt H o gp v us N1 L1 K1)(hc:K1[gp]?=some (.cells [.int .i64 n,w1] 26 false))(hL:L1<=500)(hab:(-1<=a/\a<=9) /\ -1<=b/\b<=9) :
    ACalls Tryz.prog 163 [w1,.agg (List.toArray [.int .i64 a,.int .i64 b])] K1 fun r K3=>∃ K4,storeA Tryz.prog 24 (.pointer (some ⟨gp,1,none⟩)) r K3=some K4/\isTup r=false/\GSt H o gp v us N1 (L1+1) K4/\∃ w2,K4[gp]?=some (.cells [.int .i64 n,w2] 26 false):=by
  obtain ⟨n',w',e1,e2,hput⟩:=hG.putc h ho hgp a b hL hab
  have e0:=hc.symm.trans e2
  simp only [Option.some.injEq,AObj.cells.injEq,List.cons.injEq,Value.int.injEq,true_and,and_true] at e0
  obtain ⟨e3,e4⟩:=e0
  subst e3
  subst e4
  refine hput.mono fun r K3 hr=>?_
  obtain ⟨K4,t1,t2,t3,t4⟩:=hr
  exact ⟨K4,t1,t2,t3,_,t4⟩
theorem special9_c {H:AH}{o:Nat}{v:Value}{us:List Value}{N:Nat}(h:Cur H o v us N)(hN:N<=80000000) :
    ACalls Tryz.prog 148 [.pointer (some ⟨o,0,none⟩)] H fun r H'=>∃ (n:Int) (w:Value) (ps:List (Int × Int)),r=.agg (List.toArray [.int .i64 n,w])/\MineP 47 H H' w ps/\I64 n/\ps.length<=200/\Sml ps/\Cur H' o v us (N+1020)/\Keeps o H H':=by
  have ho:o<H.length:=by
    obtain ⟨_,_,g,_⟩:=h.cur
    exact at_lt g
  refine in148 rfl ?_
  intro Q hQ
  rw [cd148]
  generalize hA:H ++ [AObj.cells [.int .i64 0,.slice none 0 0] 26 false]=A
  have pA:H<+:A:=by rw [<- hA];exact List.prefix_append _ _
  have cA:A[H.length]?=some (.cells [.int .i64 0,.slice none 0 0] 26 false):=by rw [<- hA];exact at_new ..
  have lA:A.length=H.length+1:=by rw [<- hA];simp
  have al:=alloc_G H
  rw [hA] at al
  have blG:∀ (n:Int) (p:Option Addr) (k c:Nat),buildA Tryz.prog 26 [(0,.int .i64 n),(1,.slice p k c)]=some (.agg (List.toArray [.int .i64 n,.slice p k c])):=fun _ _ _ _=>by kernel_rfl
  refine cutC (fun s K=>A=K/\s 0=.pointer (some ⟨o,0,none⟩)/\s 2=.pointer (some ⟨H.length,0,none⟩)) (fun c hc=>?_) ?_
  . simp (disch:=omega) only [al,SS,eq_self,reduceIte,reduceCtorEq,Nat.reduceEqDiff,Nat.reduceAdd]
    exact hc _ _ ⟨rfl,rfl,rfl⟩
  rintro s _ ⟨rfl,s0,s2⟩
  refine cutC (fun s K=>s 0=.pointer (some ⟨o,0,none⟩)/\s 2=.pointer (some ⟨H.length,0,none⟩)/\∃ (gp n:Nat) (w:Value),s 3=.pointer (some ⟨gp,0,none⟩)/\(3<=n/\n<=5)/\H.length<gp/\GSt H o gp v us (N+1) 0 K/\K[gp]?=some (.cells [.int .i64 (n:Int),w] 26 false)) (fun c hc=>?_) ?_
  . simp (disch:=omega) only [s0,s2,SS,eq_self,reduceIte,reduceCtorEq,Nat.reduceEqDiff,Nat.reduceAdd]
    refine CallH.by (pick_c (h.pre pA) (by omega) 3 (by omega)) ?_
    rintro _ E ⟨⟨d,rfl,hd⟩,hCE,oE⟩
    have lE:=oE.1
    have cE:=oE.2 _ _ (by omega) cA
    have hw1:IntKind.i64.wrap (3+(d:Int))=((3+d:Nat):Int):=by rw [wrap64 (by omega) (by omega)];omega
    generalize hF:E ++ [AObj.cells [] 47 false]=F
    have pF:E<+:F:=by rw [<- hF];exact List.prefix_append _ _
    have lF:F.length=E.length+1:=by rw [<- hF];simp
    have mF:MineP 47 H F (.slice (some ⟨E.length,0,none⟩) 0 0) []:=by rw [<- hF];exact MineP.nil0 (P:=Tryz.prog) H E (by omega)
    have st1:=st_G mF.row (at_new F (.cells [.int .i64 0,.slice none 0 0] 26 false)) rfl ((3+d:Nat):Int)
    rw [set_new] at st1
    simp (disch:=omega) only [s0,s2,hw1,hF,blG,alloc_G,st1,SS,eq_self,reduceIte,reduceCtorEq,Nat.reduceEqDiff,Nat.reduceAdd]
    have pG:F<+:F ++ [AObj.cells [.int .i64 ((3+d:Nat):Int),.slice (some ⟨E.length,0,none⟩) 0 0] 26 false]:=List.prefix_append _ _
    refine hc _ _ ⟨s0,s2,F.length,3+d,.slice (some ⟨E.length,0,none⟩) 0 0,rfl,by omega,by omega,⟨((3+d:Nat):Int),.slice (some ⟨E.length,0,none⟩) 0 0,[],?_,at_new ..,mF.pre pG,?_,.inl ?_,⟨by omega,by omega⟩,Nat.le_refl _,fun y hy=>by simp at hy,(hCE.pre pF).pre pG,(Keeps.of_pre pA).trans (oE.keeps.trans (.of_pre (pF.trans pG)))⟩,at_new ..⟩
    . exact pre_at pG (pre_at pF cE)
    . show E.length ≠ F.length;omega
    . show E.length ≠ H.length;omega
  clear s0 s2 s
  rintro s K ⟨s0,s2,gp,n,w1,s3,hn,hgp,hG,cg⟩
  refine cutC (fun s K=>s 0=.pointer (some ⟨o,0,none⟩)/\s 2=.pointer (some ⟨H.length,0,none⟩)/\s 3=.pointer (some ⟨gp,0,none⟩)/\(∃ kd:Nat,s 4=.int .i64 (kd:Int)/\kd<6)/\GSt H o gp v us (N+2) 0 K/\K[gp]?=some (.cells [.int .i64 (n:Int),w1] 26 false)) (fun c hc=>?_) ?_
  . simp (disch:=omega) only [s0,s2,s3,SS,eq_self,reduceIte,reduceCtorEq,Nat.reduceEqDiff,Nat.reduceAdd]
    refine CallH.by (pick_c hG.cr (by omega) 6 (by omega)) ?_
    rintro _ L ⟨⟨k,rfl,hk⟩,hCL,oL⟩
    simp (disch:=omega) only [s0,s2,s3,SS,eq_self,reduceIte,reduceCtorEq,Nat.reduceEqDiff,Nat.reduceAdd]
    exact hc _ _ ⟨s0,s2,s3,⟨k,rfl,by omega⟩,hG.cur ho (by omega) oL hCL,oL.2 gp _ (by omega) cg⟩
  clear s0 s2 s3 hG cg s K
  rintro s K ⟨s0,s2,s3,⟨kd,s4,hkd⟩,hG,cg⟩
  refine cutC (fun s K'=>s 0=.pointer (some ⟨o,0,none⟩)/\s 2=.pointer (some ⟨H.length,0,none⟩)/\s 3=.pointer (some ⟨gp,0,none⟩)/\s 4=.int .i64 (kd:Int)/\kd<=3/\K=K') (fun c hc=>?_) ?_
  . simp (disch:=omega) only [s0,s2,s3,s4,SS,eq_self,reduceIte,reduceCtorEq,Nat.reduceEqDiff,Nat.reduceAdd]
    refine brD.intro (fun g=>?_) (fun g=>?_)
    rotate_left
    . simp (disch:=omega) only [SS,eq_self,reduceIte,reduceCtorEq,Nat.reduceEqDiff,Nat.reduceAdd]
      exact hc _ _ ⟨s0,s2,s3,s4,by omega,rfl⟩
    simp (disch:=omega) only [s0,s2,SS,eq_self,reduceIte,reduceCtorEq,Nat.reduceEqDiff,Nat.reduceAdd]
    refine CallH.by (small9_c hG.cr (by omega)) ?_
    rintro _ P ⟨n2,w,ps,rfl,hm,hn2,hl,hs,hC,hK⟩
    obtain ⟨_,_,_,q1,q2,_,_,_,_,_,_,_,q10⟩:=hG
    have lK:=q10.1
    have c1:=hK.2 _ _ (by omega) q1
    have lq:=at_lt q2
    have hm':MineP 47 H P w ps:=by
      rcases hm with z | ⟨q,zs,z1,z2,z3,z4⟩
      . exact .inl z
      . exact .inr ⟨q,zs,z1,by omega,z3,z4⟩
    have q5:rowO w ≠ H.length∨w=.slice none 0 0:=by
      rcases hm with z | ⟨q,zs,z1,z2,_⟩
      . exact .inr z.1
      . left;rw [z1];show q ≠ H.length;omega
    have hst:=st_G hm.row c1 rfl n2
    obtain ⟨d4,t1,t2,t3⟩:=retG9 h (n:=n2) c1 hm' q5 hC (q10.trans hK)
    simp (disch:=omega) only [s2,hst,SS,eq_self,reduceIte,reduceCtorEq,Nat.reduceEqDiff,Nat.reduceAdd]
    refine hQ _ _ _ (end_cell _ _ _ _ _ _ (.agg (List.toArray [.int .i64 n2,w])) ?_ rfl ⟨n2,w,ps,rfl,t1,hn2,hl,hs,t2.more (by omega),t3⟩)
    simp (disch:=omega) only [s2,ld_agg ag26 cs26 d4,SS,eq_self,reduceIte,reduceCtorEq,Nat.reduceEqDiff,Nat.reduceAdd]
  clear s0 s2 s3 s4 hkd s
  rintro s _ ⟨s0,s2,s3,s4,hkd,rfl⟩
  refine cutC (fun s K=>s 2=.pointer (some ⟨H.length,0,none⟩)/\s 3=.pointer (some ⟨gp,0,none⟩)/\GSt H o gp v us (N+60) 60 K) (fun c hc=>?_) ?_
  . simp (disch:=omega) only [s0,s2,s3,s4,SS,eq_self,reduceIte,reduceCtorEq,Nat.reduceEqDiff,Nat.reduceAdd]
    refine LoopH.by (fun m s K=>∃ (x:Nat) (w:Value),n - x=m/\1<=x/\x<=n/\s 0=.pointer (some ⟨o,0,none⟩)/\s 2=.pointer (some ⟨H.length,0,none⟩)/\s 3=.pointer (some ⟨gp,0,none⟩)/\s 4=.int .i64 (kd:Int)/\s 5=.int .i64 (x:Int)/\GSt H o gp v us (N+2) (x * 8) K/\K[gp]?=some (.cells [.int .i64 (n:Int),w] 26 false)) (n - 1) ?_ ?_
    . have f1:=hG.more (Nat.le_refl (N+2)) (show 0<=1 * 8 by omega)
      refine ⟨1,w1,rfl,?_⟩
      simp (disch:=omega) only [s0,s2,s3,s4,SS,eq_self,reduceIte,reduceCtorEq,Nat.reduceEqDiff,Nat.reduceAdd]
      (repeat' first | exact f1 | exact cg | apply And.intro) <;> first | (simp only [Value.int.injEq,true_and];omega) | omega | rfl | assumption | (simp;done) | (simp;omega)
    clear s0 s2 s3 s4 hG cg w1 s K
    rintro m s K ⟨x,w1,hm,hx,hxn,s0,s2,s3,s4,s5,hG,cg⟩
    simp (disch:=omega) only [s0,s2,s3,s4,s5,cell_of cg,SS,eq_self,reduceIte,reduceCtorEq,Nat.reduceEqDiff,Nat.reduceAdd]
    refine brD.intro (fun g=>?_) (fun g=>?_)
    rotate_left
    . simp (disch:=omega) only [s2,s3,SS,eq_self,reduceIte,reduceCtorEq,Nat.reduceEqDiff,Nat.reduceAdd]
      exact hc _ _ ⟨s2,s3,hG.more (by omega) (by omega)⟩
    simp (disch:=omega) only [s0,s2,s3,s4,s5,SS,eq_self,reduceIte,reduceCtorEq,Nat.reduceEqDiff,Nat.reduceAdd]
    refine LoopH.by (fun m' s K=>∃ (y:Nat) (w:Value),m'+y=x/\s 0=.pointer (some ⟨o,0,none⟩)/\s 2=.pointer (some ⟨H.length,0,none⟩)/\s 3=.pointer (some ⟨gp,0,none⟩)/\s 4=.int .i64 (kd:Int)/\s 5=.int .i64 (x:Int)/\s 6=.int .i64 (y:Int)/\GSt H o gp v us (N+2) (x * 8+y) K/\K[gp]?=some (.cells [.int .i64 (n:Int),w] 26 false)) x ?_ ?_
    . refine ⟨0,w1,by omega,?_⟩
      simp (disch:=omega) only [s0,s2,s3,s4,s5,SS,eq_self,reduceIte,reduceCtorEq,Nat.reduceEqDiff,Nat.reduceAdd]
      (repeat' first | exact hG | exact cg | apply And.intro) <;> first | (simp only [Value.int.injEq,true_and];omega) | omega | rfl | assumption | (simp;done) | (simp;omega)
    clear s0 s2 s3 s4 s5 hG cg w1 s K
    rintro m' s K ⟨y,w1,hm',s0,s2,s3,s4,s5,s6,hG,cg⟩
    simp (disch:=omega) only [s0,s2,s3,s4,s5,s6,SS,eq_self,reduceIte,reduceCtorEq,Nat.reduceEqDiff,Nat.reduceAdd]
    refine brD.intro (fun g2=>?_) (fun g2=>?_)
    rotate_left
    . have f1:=hG.more (Nat.le_refl (N+2)) (show x * 8+y<=(x+1) * 8 by omega)
      simp (disch:=omega) only [s0,s2,s3,s4,s5,s6,wrap64,SS,eq_self,reduceIte,reduceCtorEq,Nat.reduceEqDiff,Nat.reduceAdd]
      refine ⟨m - 1,by omega,x+1,w1,?_⟩
      (repeat' first | exact f1 | exact cg | apply And.intro) <;> first | (simp only [Value.int.injEq,true_and];omega) | omega | rfl | assumption | (simp;done) | (simp;omega)
    have f0:=hG.more (Nat.le_refl (N+2)) (show x * 8+y<=x * 8+(y+1) by omega)
    have hput:=hG.justPut h ho hgp (y:Int) (x:Int) cg (by omega) (by omega)
    simp (disch:=omega) only [s0,s2,s3,s4,s5,s6,cell_of cg,wrap64,SS,eq_self,reduceIte,reduceCtorEq,Nat.reduceEqDiff,Nat.reduceAdd]
    repeat' (refine brD.intro (fun q=>have e:=decide_eq_true q;?_) (fun q=>have e:=decide_eq_false q;?_) <;> simp (disch:=omega) only [e,s0,s2,s3,s4,s5,s6,cell_of cg,build_a2,wrap64,SS,eq_self,reduceIte,reduceCtorEq,Nat.reduceEqDiff,Nat.reduceAdd])
    all_goals first
      | (refine ⟨m' - 1,by omega,y+1,w1,?_⟩
         (repeat' first | exact f0 | exact cg | apply And.intro) <;> first | (simp only [Value.int.injEq,true_and];omega) | omega | rfl | assumption | (simp;done) | (simp;omega))
      | (refine CallH.by hput ?_
         rintro r R ⟨K4,t1,t2,t3,w2,t4⟩
         simp (disch:=omega) only [s0,s2,s3,s4,s5,s6,t1,wrap64,SS,eq_self,reduceIte,reduceCtorEq,Nat.reduceEqDiff,Nat.reduceAdd]
         refine ⟨m' - 1,by omega,y+1,w2,?_⟩
         (repeat' first | exact t3 | exact t4 | apply And.intro) <;> first | (simp only [Value.int.injEq,true_and];omega) | omega | rfl | assumption | (simp;done) | (simp;omega))
  clear s0 s2 s3 s4 hG cg w1 s K
  rintro s K ⟨s2,s3,n1,w,ps,q1,q2,q3,q4,q5,q6,q7,q8,q9,q10⟩
  have hst:=st_G q3.row q1 rfl n1
  obtain ⟨d4,t1,t2,t3⟩:=retG9 h (n:=n1) q1 q3 q5 q9 q10
  simp (disch:=omega) only [s2,s3,ld_agg ag26 cs26 q2,hst,SS,eq_self,reduceIte,reduceCtorEq,Nat.reduceEqDiff,Nat.reduceAdd]
  refine hQ _ _ _ (end_cell _ _ _ _ _ _ (.agg (List.toArray [.int .i64 n1,w])) ?_ rfl ⟨n1,w,ps,rfl,t1,q6,by omega,q8,t2.more (by omega),t3⟩)
  simp (disch:=omega) only [s2,ld_agg ag26 cs26 d4,SS,eq_self,reduceIte,reduceCtorEq,Nat.reduceEqDiff,Nat.reduceAdd]
def cd8:Cd:=(.seq (.reg [⟨⟨some 2,.box 26 (.tmp 0),none⟩,[]⟩,⟨⟨some 4,.assign (.const (.slice none 0 0)),none⟩,[]⟩,⟨⟨some 5,.assign (.const (.bool false)),none⟩,[]⟩]) (.seq (.seq (.reg [⟨⟨some 13,.load 26 (.tmp 2),none⟩,[]⟩,⟨⟨some 14,.move (.tmp 1),none⟩,[]⟩,⟨⟨some 15,.call ⟨(.value (.func 62)),#[.tmp 13,.tmp 14],#[26,27]⟩,none⟩,[]⟩,⟨⟨some 16,.unOp .not 4 (.tmp 15),none⟩,[]⟩,⟨⟨some 17,.move (.tmp 16),none⟩,[]⟩,⟨⟨some 18,.fieldAddr 26 (.tmp 2) 0,some (17,false)⟩,[]⟩,⟨⟨some 19,.load 3 (.tmp 18),some (17,false)⟩,[]⟩,⟨⟨some 20,.binOp .gtr 3 (.tmp 19) (.const (.int .i64 6)) 3,some (17,false)⟩,[]⟩,⟨⟨some 21,.pick (.tmp 17) (.const (.bool true)) (.tmp 20),none⟩,[]⟩]) (.cond (.tmp 21) (.seq (.reg [⟨⟨some 4,.assign (.const (.slice none 0 0)),none⟩,[]⟩,⟨⟨some 5,.assign (.const (.bool false)),none⟩,[]⟩]) .ret) .skip)) (.seq (.reg [⟨⟨some 22,.fieldAddr 26 (.tmp 2) 0,none⟩,[]⟩,
 ⟨⟨some 23,.load 3 (.tmp 22),none⟩,[]⟩,⟨⟨some 25,.load 26 (.tmp 2),none⟩,[]⟩,⟨⟨some 26,.makeFunc (Fn.func 65) #[.tmp 25] #[],none⟩,[]⟩,⟨⟨some 24,.call ⟨(.value (.func 64)),#[.tmp 23],#[3]⟩,none⟩,[⟨some 25,.load 26 (.tmp 2),none⟩]⟩,⟨⟨some 27,.call ⟨(.value (.func 63)),#[.tmp 24,.tmp 26],#[27,76]⟩,none⟩,[]⟩,⟨⟨some 6,.assign (.tmp 27),none⟩,[]⟩]) (.seq (.reg [⟨⟨some 29,.move (.tmp 6),none⟩,[]⟩,⟨⟨some 30,.move (.tmp 1),none⟩,[]⟩,⟨⟨some 31,.call ⟨(.value (.func 66)),#[.tmp 30],#[27]⟩,none⟩,[]⟩,⟨⟨some 32,.lookup 73 (.tmp 29) (.tmp 31) true,none⟩,[]⟩,⟨⟨some 28,.move (.tmp 32),none⟩,[]⟩,⟨⟨some 33,.extract (.tmp 28) 0,none⟩,[]⟩,⟨⟨some 34,.extract (.tmp 28) 1,none⟩,[]⟩,
 ⟨⟨some 7,.assign (.tmp 33),none⟩,[]⟩,⟨⟨some 8,.assign (.tmp 34),none⟩,[]⟩]) (.seq (.seq (.reg [⟨⟨some 35,.move (.tmp 8),none⟩,[]⟩,⟨⟨some 36,.unOp .not 4 (.tmp 35),none⟩,[]⟩]) (.cond (.tmp 36) (.seq (.reg [⟨⟨some 4,.assign (.const (.slice none 0 0)),none⟩,[]⟩,⟨⟨some 5,.assign (.const (.bool false)),none⟩,[]⟩]) .ret) .skip)) (.seq (.reg [⟨⟨some 37,.buildSlice 24 0 #[],none⟩,[]⟩,⟨⟨some 9,.assign (.tmp 37),none⟩,[]⟩]) (.seq (.seq (.reg [⟨⟨some 38,.move (.tmp 1),none⟩,[]⟩,⟨⟨some 10,.assign (.tmp 38),none⟩,[]⟩]) (.block 0 (.loop (.seq (.seq (.reg [⟨⟨some 39,.move (.tmp 7),none⟩,[]⟩,⟨⟨some 40,.binOp .gtr 3 (.tmp 39) (.const (.int .i64 0)) 3,none⟩,[]⟩]) (.cond (.tmp 40) .skip (.exit 0))) (.seq (.block 1 (.seq (.reg [⟨⟨some 43,.load 26 (.tmp 2),none⟩,[]⟩,⟨⟨some 44,.move (.tmp 10),none⟩,[]⟩,⟨⟨some 45,.call ⟨(.value (.func 65)),#[.tmp 43,.tmp 44],#[26,27]⟩,none⟩,[]⟩,⟨⟨some 46,.call ⟨(.builtin .len),#[.tmp 45],#[36]⟩,none⟩,[]⟩,⟨⟨some 47,.move (.const (.int .i64 0)),none⟩,[]⟩]) (.block 2 (.loop (.seq (.reg [⟨⟨some 48,.binOp .lss 3 (.tmp 47) (.tmp 46) 3,none⟩,[]⟩]) (.seq (.cond (.tmp 48) .skip (.exit 2)) (.seq (.block 3 (.seq (.reg [⟨⟨some 49,.move (.tmp 47),none⟩,[]⟩,⟨⟨some 50,.indexAddr 36 (.tmp 45) (.tmp 47),none⟩,[]⟩,
 ⟨⟨some 51,.load 27 (.tmp 50),none⟩,[]⟩,⟨⟨some 11,.assign (.tmp 49),none⟩,[]⟩,⟨⟨some 12,.assign (.tmp 51),none⟩,[]⟩]) (.seq (.reg [⟨⟨some 52,.move (.tmp 6),none⟩,[]⟩,⟨⟨some 53,.move (.tmp 12),none⟩,[]⟩,⟨⟨some 54,.call ⟨(.value (.func 66)),#[.tmp 53],#[27]⟩,none⟩,[]⟩,⟨⟨some 55,.lookup 73 (.tmp 52) (.tmp 54) false,none⟩,[]⟩,⟨⟨some 56,.move (.tmp 7),none⟩,[]⟩,⟨⟨some 57,.binOp .sub 3 (.tmp 56) (.const (.int .i64 1)) 3,none⟩,[]⟩,⟨⟨some 58,.binOp .eql 3 (.tmp 55) (.tmp 57) 3,none⟩,[]⟩]) (.cond (.tmp 58) (.seq (.reg [⟨⟨some 59,.move (.tmp 9),none⟩,[]⟩,⟨⟨some 60,.fieldAddr 26 (.tmp 2) 1,none⟩,[]⟩,⟨⟨some 61,.load 24 (.tmp 60),none⟩,[]⟩,⟨⟨some 62,.move (.tmp 11),none⟩,[]⟩,
 ⟨⟨some 63,.indexAddr 24 (.tmp 61) (.tmp 62),none⟩,[]⟩,
  ⟨⟨some 64,.load 47 (.tmp 63),none⟩,[]⟩,
  ⟨⟨some 65,.buildSlice 24 1 #[(0,.tmp 64)],none⟩,[]⟩,
  ⟨⟨some 66,.call ⟨(.builtin .append),#[.tmp 59,.tmp 65],#[24,24]⟩,none⟩,[]⟩,
  ⟨⟨some 67,.move (.tmp 12),none⟩,[]⟩,
  ⟨⟨some 9,.assign (.tmp 66),none⟩,[]⟩,
  ⟨⟨some 10,.assign (.tmp 67),none⟩,[]⟩]) (.exit 2)) .skip)))) (.reg [⟨⟨some 68,.binOp .add 3 (.tmp 47) (.const (.int .i64 1)) 3,none⟩,[]⟩,
  ⟨⟨some 47,.move (.tmp 68),none⟩,[]⟩])))))))) (.reg [⟨⟨some 41,.move (.tmp 7),none⟩,[]⟩,
  ⟨⟨some 42,.binOp .sub 3 (.tmp 41) (.const (.int .i64 1)) 3,none⟩,[]⟩,
  ⟨⟨some 7,.assign (.tmp 42),none⟩,[]⟩])))))) (.seq (.reg [⟨⟨some 69,.move (.tmp 9),none⟩,[]⟩,
  ⟨⟨some 4,.assign (.tmp 69),none⟩,[]⟩,
  ⟨⟨some 5,.assign (.const (.bool true)),none⟩,[]⟩]) .ret))))))))
theorem in8:InT Tryz.prog 8 2 [.tmp 4,.tmp 5] cd8:=InT.mk (by kernel_rfl) [(3,[(0,false),(1,false),(3,false),(4,false),(2,true),(5,true),(6,false)])] Tryz.func8 rfl (by kernel_rfl) (by kernel_rfl) (of_decide_eq_true (by kernel_rfl)) (by kernel_rfl)
def cd10:Cd:=(.seq (.reg [⟨⟨some 2,.box 26 (.tmp 0),none⟩,[]⟩,⟨⟨some 4,.assign (.const (.int .i64 0)),none⟩,[]⟩,⟨⟨some 5,.assign (.const (.bool false)),none⟩,[]⟩]) (.seq (.reg [⟨⟨some 9,.load 26 (.tmp 2),none⟩,[]⟩,⟨⟨some 10,.move (.tmp 1),none⟩,[]⟩,⟨⟨some 11,.call ⟨(.value (.func 8)),#[.tmp 9,.tmp 10],#[26,27]⟩,none⟩,[]⟩,⟨⟨some 8,.move (.tmp 11),none⟩,[]⟩,⟨⟨some 12,.extract (.tmp 8) 0,none⟩,[]⟩,⟨⟨some 13,.extract (.tmp 8) 1,none⟩,[]⟩,⟨⟨some 6,.assign (.tmp 12),none⟩,[]⟩,⟨⟨some 7,.assign (.tmp 13),none⟩,[]⟩]) (.seq (.reg [⟨⟨some 14,.move (.tmp 6),none⟩,[]⟩,⟨⟨some 15,.call ⟨(.builtin .len),#[.tmp 14],#[24]⟩,none⟩,[]⟩,⟨⟨some 16,.move (.tmp 7),none⟩,[]⟩,
 ⟨⟨some 4,.assign (.tmp 15),none⟩,[]⟩,
  ⟨⟨some 5,.assign (.tmp 16),none⟩,[]⟩]) .ret)))
theorem in10:InT Tryz.prog 10 2 [.tmp 4,.tmp 5] cd10:=InT.mk (by kernel_rfl) [] Tryz.func10 rfl (by kernel_rfl) (by kernel_rfl) (of_decide_eq_true (by kernel_rfl)) (by kernel_rfl)
end Go.Proofs.YtjnefjchconebaaGreat.Ai
namespace Go.Proofs.YtjnefjchconebaaGreat.Ai
open Go Go.RowKit
theorem fld_bd {n:Int}{es:List (Int × Int)}{p:List Int}(h:Fld n es p):∃ k:Nat,n=k/\Grd (k:Int) es/\Bd k p/\k<=6:=by
  obtain ⟨⟨⟨h1,h2⟩,h3⟩,h4⟩:=h
  exact ⟨p.length,h3.symm,by rw [h3];exact h1,⟨h2,rfl⟩,by omega⟩
def tkS (n:Nat)(es:List (Int × Int)):List (List Int × Int):=bdR es false (hom n)
def tkD (n:Int)(es:List (Int × Int))(p:List Int):Option Int:=if Fld n es p then bdD (tkS n.toNat es) p else none
def tkL (n:Int)(es:List (Int × Int))(p:List Int):List (Int × Int):=match tkD n es p with | some d=>(pthL (tkS n.toNat es) es false d.toNat p).map (·.1) | none=>[]
theorem hom_bd {n:Nat}(hn:n<=8):Bd n (hom n):=⟨hom_prm hn,hom_len n⟩
theorem tkD_rng {n:Int}{es:List (Int × Int)}{p:List Int}{d:Int}(h:tkD n es p=some d):0<=d/\d<720:=by
  unfold tkD at h
  split at h
  . rename_i e
    obtain ⟨k,rfl,hg,hb,h6⟩:=fld_bd e
    have hI:=bdR_I h6 hg false (hom_bd (n:=k) (by omega))
    have hm:=bdD_mem h
    have:=hI.rng _ hm
    have:=hI.len_le h6
    have:=mny_le h6
    simp only at *
    omega
  . cases h
theorem tkL_len (n:Int)(es:List (Int × Int))(p:List Int):(tkL n es p).length=(match tkD n es p with | some d=>d.toNat | none=>0):=by
  unfold tkL
  cases h:tkD n es p with
  | none=>rfl
  | some d =>
    have hr:=tkD_rng h
    unfold tkD at h
    split at h
    . rename_i e
      obtain ⟨k,rfl,hg,hb,h6⟩:=fld_bd e
      simp only [Int.toNat_natCast] at h ⊢
      rw [List.length_map]
      exact pthL_len h6 hg false (hom_bd (by omega)) d.toNat p (by
        rw [Int.toNat_of_nonneg hr.1];exact h)
    . cases h
theorem find_step {α:Type}(q:α->Bool)(l:List α)(i:Nat)(hi:i<l.length):(l.drop i).find? q=if q l[i]=true then some l[i] else (l.drop (i+1)).find? q:=by
  rw [List.drop_eq_getElem_cons hi,List.find?_cons]
  split
  . rename_i h;rw [if_pos h]
  . rename_i h;rw [if_neg (by rw [h];decide)]
theorem TkI_c (n:Int)(v w:Value)(es:List (Int × Int))(p:List Int)(H:AH)(hr:RowP 47 H v es)(hlen:es.length<=1099511627776)(hes:∀ y ∈ es,I64 y.1/\I64 y.2)(hx:Row 3 H w p)(hlp:p.length<=1099511627776)(hxs:∀ y ∈ p,I64 y)(hn:I64 n) :
    ACalls Tryz.prog 8 [.agg (List.toArray [.int .i64 n,v]),w] H fun r H'=>∃ g,r=.tuple (List.toArray [g,.bool (tkD n es p).isSome])/\MineP 47 H H' g (tkL n es p)/\H<+:H':=by
  refine in8 rfl ?_
  intro Q hQ
  simp (maxSteps:=1000000) (disch:=omega) only [cd8,hr.boxG,SS,eq_self,reduceIte,reduceCtorEq,Nat.reduceEqDiff,Nat.reduceAdd]
  generalize hA:H ++ [AObj.cells [.int .i64 n,v] 26 false]=A
  have pA:H<+:A:=by rw [<- hA];exact List.prefix_append _ _
  have cA:A[H.length]?=some (.cells [.int .i64 n,v] 26 false):=by rw [<- hA];exact at_new ..
  have rA:=hr.pre pA
  simp (maxSteps:=1000000) (disch:=omega) only [ld_agg ag26 cs26 cA,SS,eq_self,reduceIte,reduceCtorEq,Nat.reduceEqDiff,Nat.reduceAdd]
  refine CallH.by (isTokens_c n v w es p A rA hlen (hx.pre pA) hlp hxs) ?_
  rintro _ B ⟨rfl,pB⟩
  have cB:=pre_at pB cA
  have pHB:=pA.trans pB
  have rB:=rA.pre pB
  have no:tkD n es p=none->∃ g,(Value.tuple (List.toArray [.slice none 0 0,.bool false]))=.tuple (List.toArray [g,.bool (tkD n es p).isSome])/\∀ H',MineP 47 H H' g (tkL n es p):=fun h=>⟨.slice none 0 0,by rw [h];rfl,fun H'=>.inl ⟨rfl,by unfold tkL;rw [h]⟩⟩
  simp (maxSteps:=1000000) (disch:=omega) only [SS,eq_self,reduceIte,reduceCtorEq,Nat.reduceEqDiff,Nat.reduceAdd]
  refine brD.intro (fun e=>?_) (fun e=>?_) <;> simp (maxSteps:=1000000) (disch:=omega) only [e,SS,eq_self,reduceIte,reduceCtorEq,Nat.reduceEqDiff,Nat.reduceAdd]
  rotate_left
  . refine hQ _ _ _ ?_
    simp (maxSteps:=1000000) (disch:=omega) only [SS,eq_self,reduceIte,reduceCtorEq,Nat.reduceEqDiff,Nat.reduceAdd]
    obtain ⟨g,h1,h2⟩:=no (by unfold tkD;rw [if_neg (fun h=>e h.1)])
    exact ⟨g,h1,h2 B,pHB⟩
  simp (maxSteps:=1000000) (disch:=omega) only [e,cell_of cB,SS,eq_self,reduceIte,reduceCtorEq,Nat.reduceEqDiff,Nat.reduceAdd]
  refine brD.intro (fun e6=>?_) (fun e6=>?_) <;> simp (maxSteps:=1000000) (disch:=omega) only [e6,SS,eq_self,reduceIte,reduceCtorEq,Nat.reduceEqDiff,Nat.reduceAdd]
  . refine hQ _ _ _ ?_
    simp (maxSteps:=1000000) (disch:=omega) only [SS,eq_self,reduceIte,reduceCtorEq,Nat.reduceEqDiff,Nat.reduceAdd]
    obtain ⟨g,h1,h2⟩:=no (by unfold tkD;rw [if_neg (fun h=>by have:=h.2;omega)])
    exact ⟨g,h1,h2 B,pHB⟩
  have hF:Fld n es p:=⟨e,by omega⟩
  have hD0:tkD n es p=bdD (tkS n.toNat es) p:=by unfold tkD;rw [if_pos hF]
  obtain ⟨k,rfl,hg,hb,h6⟩:=fld_bd hF
  rw [Int.toNat_natCast] at hD0
  have hl:=grd_few hg
  have hhb:=hom_bd (n:=k) (by omega)
  simp (maxSteps:=1000000) (disch:=omega) only [cell_of cB,ld_agg ag26 cs26 cB,mkf_G hr,SS,eq_self,reduceIte,reduceCtorEq,Nat.reduceEqDiff,Nat.reduceAdd]
  refine CallH.by (home_c k B (by omega)) ?_
  rintro u C ⟨hu,pC⟩
  have cC:=pre_at pC cB
  have rC:=rB.pre pC
  simp (maxSteps:=1000000) (disch:=omega) only [ld_agg ag26 cs26 cC,SS,eq_self,reduceIte,reduceCtorEq,Nat.reduceEqDiff,Nat.reduceAdd]
  refine CallH.by (reached_c (HB:=C) h6 hu.row hhb 65 [.agg (List.toArray [.int .i64 (k:Int),v])] [] (nxt es false) (swaps_mv rC hlen hg) (fun b hb=>nxt_bd hg false hb) (nxt_le hg (by omega) false) (List.prefix_refl _)) ?_
  rintro _ D ⟨⟨o,rfl,ho,hol⟩,pD⟩
  have pHD:=pHB.trans (pC.trans pD)
  have hxD:=hx.pre pHD
  have cD:=pre_at pD cC
  have hS:bdA (nxt es false) (hom k)=tkS k es:=rfl
  rw [hS] at ho
  have hI:=bdR_I h6 hg false hhb
  have hSI:bdR es false (hom k)=tkS k es:=rfl
  rw [hSI] at hI
  simp (maxSteps:=1000000) (disch:=omega) only [SS,eq_self,reduceIte,reduceCtorEq,Nat.reduceEqDiff,Nat.reduceAdd]
  refine CallH.by (key_c w p D hxD hb.1) ?_
  rintro _ _ ⟨rfl,rfl⟩
  have hlk:=lookI ho (keyL p)
  rw [getI_bd hb _ hI.ok,<- hD0] at hlk
  simp (maxSteps:=1000000) (disch:=omega) only [hlk,SS,eq_self,reduceIte,reduceCtorEq,Nat.reduceEqDiff,Nat.reduceAdd]
  cases hd:tkD (k:Int) es p with
  | none =>
    rw [hd] at hlk no
    simp (maxSteps:=1000000) (disch:=omega) only [Option.isSome_none,SS,eq_self,reduceIte,reduceCtorEq,Nat.reduceEqDiff,Nat.reduceAdd]
    refine hQ _ _ _ ?_
    simp (maxSteps:=1000000) (disch:=omega) only [SS,eq_self,reduceIte,reduceCtorEq,Nat.reduceEqDiff,Nat.reduceAdd]
    obtain ⟨g,h1,h2⟩:=no rfl
    rw [hd]
    exact ⟨g,h1,h2 D,pHD⟩
  | some d =>
  obtain ⟨hd0,hd7⟩:=tkD_rng hd
  have hK:tkL (k:Int) es p=(pthL (tkS k es) es false d.toNat p).map (·.1):=by unfold tkL;rw [hd];simp only [Int.toNat_natCast]
  rw [hd,hK] at hQ
  rw [hd] at hD0
  simp (maxSteps:=1000000) (disch:=omega) only [Option.isSome_some,Option.getD_some,SS,eq_self,reduceIte,reduceCtorEq,Nat.reduceEqDiff,Nat.reduceAdd]
  generalize hE:D ++ [AObj.cells [] 47 false]=E
  have pE:D<+:E:=by rw [<- hE];exact List.prefix_append _ _
  have lE:E.length=D.length+1:=by rw [<- hE];simp
  have hm0:MineP 47 D E (.slice (some ⟨D.length,0,none⟩) 0 0) []:=by rw [<- hE];exact MineP.nil0 (P:=Tryz.prog) D D (Nat.le_refl _)
  refine LoopH.by (fun m s H'=>∃ (q:List Int) (out:List (Int × Int)),s 2=.pointer (some ⟨H.length,0,none⟩)/\s 6=.map (some o)/\s 7=.int .i64 ((m:Nat):Int)/\Row 3 H' (s 10) q/\Bd k q/\bdD (tkS k es) q=some ((m:Nat):Int)/\m<=720/\out.length+m=d.toNat/\out ++ (pthL (tkS k es) es false m q).map (·.1)=(pthL (tkS k es) es false d.toNat p).map (·.1)/\MineP 47 D H' (s 9) out/\D<+:H') d.toNat ?_ ?_
  . refine ⟨p,[],?_⟩
    have f0:((d.toNat:Nat):Int)=d:=by omega
    have f1:=hxD.pre pE
    have f2:bdD (tkS k es) p=some ((d.toNat:Nat):Int):=by rw [f0];exact hD0.symm
    simp (maxSteps:=1000000) (disch:=omega) only [SS,eq_self,reduceIte,reduceCtorEq,Nat.reduceEqDiff,Nat.reduceAdd]
    rw [f0]
    rw [f0] at f2
    (repeat' first | exact f1 | exact hb | exact f2 | exact hm0 | exact pE | apply And.intro) <;> first | (simp only [Value.int.injEq,true_and];omega) | omega | rfl | assumption | (simp;done) | (simp;omega)
  rintro m s H' ⟨q,out,h2,h6',h7,hrq,hbq,hdq,hm7,hol2,hout,hmo,hpp⟩
  generalize hU:s 9=U at *
  generalize hW:s 10=W at *
  simp (maxSteps:=1000000) (disch:=omega) only [h2,h6',h7,hU,hW,SS,eq_self,reduceIte,reduceCtorEq,Nat.reduceEqDiff,Nat.reduceAdd]
  refine brD.intro (fun g=>?_) (fun g=>?_)
  rotate_left
  . have hm0:m=0:=by omega
    subst hm0
    simp (maxSteps:=1000000) (disch:=omega) only [hU,SS,eq_self,reduceIte,reduceCtorEq,Nat.reduceEqDiff,Nat.reduceAdd]
    refine hQ _ _ _ ?_
    simp (maxSteps:=1000000) (disch:=omega) only [hU,hmo.row.tup,SS,eq_self,reduceIte,reduceCtorEq,Nat.reduceEqDiff,Nat.reduceAdd]
    have hout':out=(pthL (tkS k es) es false d.toNat p).map (·.1):=by rw [<- hout];simp [pthL]
    rw [<- hout']
    exact ⟨U,rfl,hmo.base pHD,pHD.trans hpp⟩
  obtain ⟨m1,rfl⟩:∃ m1,m=m1+1:=⟨m - 1,by omega⟩
  obtain ⟨e1,hf1,hf2,hf3⟩:=fst1_some h6 hg false hhb hdq
  rw [hSI] at hf1 hf3
  have hpth:(pthL (tkS k es) es false (m1+1) q).map (·.1)=e1 :: (pthL (tkS k es) es false m1 (swp q e1.1.toNat e1.2.toNat)).map (·.1):=by
    simp only [pthL,hf1,List.map_cons]
  rw [hpth] at hout
  have rH:=hr.pre (pHD.trans hpp)
  have cH:=pre_at hpp cD
  simp (maxSteps:=1000000) (disch:=omega) only [h2,h6',h7,hU,hW,ld_agg ag26 cs26 cH,SS,eq_self,reduceIte,reduceCtorEq,Nat.reduceEqDiff,Nat.reduceAdd]
  refine CallH.by (swaps_c k v W es q H' rH hlen hrq hg hbq) ?_
  rintro r G ⟨hL,pG⟩
  obtain ⟨us,hus,hul,heach⟩:=hL.parts
  have hnl:=nxt_len es false q
  rw [mvs_false] at hnl
  have hoG:=pre_at (hpp.trans pG) ho
  have cGG:=pre_at pG cH
  have rG:=rH.pre pG
  simp (maxSteps:=1000000) (disch:=omega) only [h2,h6',h7,hU,hW,hus.len Tryz.underlying36,hul,SS,eq_self,reduceIte,reduceCtorEq,Nat.reduceEqDiff,Nat.reduceAdd]
  have hfind:es.find? (fun e=>decide (bdD (tkS k es) (swp q e.1.toNat e.2.toNat)=some (m1:Int)))=some e1:=by
    have:=hf1
    unfold fst1 at this
    rw [mvs_false] at this
    exact this
  have hNat:∀ i (hi:i<es.length),(nxt es false q).getD i []=swp q (es.getD i (0,0)).1.toNat (es.getD i (0,0)).2.toNat:=by
    intro i hi
    rw [nxt_false,List.getD_eq_getElem?_getD,List.getElem?_map,List.getElem?_eq_getElem hi]
    simp [hi]
  refine LoopH.by (fun m' s' H2=>∃ i:Nat,m'+i=es.length/\s' 2=.pointer (some ⟨H.length,0,none⟩)/\s' 6=.map (some o)/\s' 7=.int .i64 ((m1+1:Nat):Int)/\s' 9=U/\s' 10=W/\s' 45=r/\s' 46=.int .i64 ((nxt es false q).length:Int)/\s' 47=.int .i64 ((i:Nat):Int)/\(es.drop i).find? (fun e=>decide (bdD (tkS k es) (swp q e.1.toNat e.2.toNat)=some (m1:Int)))=some e1/\G=H2) es.length ?_ ?_
  . refine ⟨0,by simp,?_⟩
    simp (maxSteps:=1000000) (disch:=omega) only [h2,h6',h7,hU,hW,SS,eq_self,reduceIte,reduceCtorEq,Nat.reduceEqDiff,Nat.reduceAdd]
    (repeat' first | exact hfind | apply And.intro) <;> first | (simp only [Value.int.injEq,true_and];omega) | omega | rfl | assumption | (simp;done) | (simp;omega)
  rintro m' s' _ ⟨i,hm',k2,k6,k7,k9,k10,k45,k46,k47,hfi,rfl⟩
  rw [hnl] at k46
  have hi:i<es.length:=by
    apply Decidable.byContradiction
    intro hni
    rw [List.drop_of_length_le (by omega)] at hfi
    simp at hfi
  rw [find_step _ es i hi] at hfi
  have hgi:es.getD i (0,0)=es[i]:=by simp [hi]
  have hrow:=(heach i (by rw [hnl];exact hi)).row.1
  have hcell:=hus.cell (show i<us.length by omega)
  rw [hNat i hi] at hrow
  have hcm:swp q (es.getD i (0,0)).1.toNat (es.getD i (0,0)).2.toNat ∈ nxt es false q:=by
    rw [nxt_false]
    exact List.mem_map.2 ⟨es.getD i (0,0),by simp [hi],rfl⟩
  have hcb:=nxt_bd hg false hbq _ hcm
  obtain ⟨dx,hdx,hdx0⟩:=bdR_known h6 hg false hhb hdq hcm
  rw [hSI] at hdx
  rw [<- hgi] at hfi
  generalize hc:swp q (es.getD i (0,0)).1.toNat (es.getD i (0,0)).2.toNat=c at *
  have hlc:=lookI1 hoG (keyL c)
  rw [getI_bd hcb _ hI.ok,hdx] at hlc
  have hlc':lookupA Tryz.prog 73 (.map (some o)) (.int .i64 (keyL c)) false G=some (.int .i64 dx):=hlc
  simp (maxSteps:=1000000) (disch:=omega) only [k2,k6,k7,k9,k10,k45,k46,k47,SS,eq_self,reduceIte,reduceCtorEq,Nat.reduceEqDiff,Nat.reduceAdd]
  refine brD.intro (fun g1=>?_) (fun g1=>absurd (show (i:Int)<(es.length:Int) by omega) g1)
  simp (maxSteps:=1000000) (disch:=omega) only [k2,k6,k7,k9,k10,k45,k46,k47,hus.ix Tryz.underlying36 cs27,hcell,Int.toNat_natCast,SS,eq_self,reduceIte,reduceCtorEq,Nat.reduceEqDiff,Nat.reduceAdd]
  refine CallH.by (key_c _ c G hrow hcb.1) ?_
  rintro _ _ ⟨rfl,rfl⟩
  have hm11:((m1+1:Nat):Int) - 1=(m1:Int):=by omega
  simp (maxSteps:=1000000) (disch:=omega) only [k2,k6,k7,k9,k10,k45,k46,k47,hlc',hm11,wrap64,SS,eq_self,reduceIte,reduceCtorEq,Nat.reduceEqDiff,Nat.reduceAdd]
  refine brD.intro (fun g2=>?_) (fun g2=>?_)
  . rw [if_pos (by rw [hdx,g2];exact decide_eq_true rfl)] at hfi
    have he1:es.getD i (0,0)=e1:=by simpa using hfi
    have hld:=rG.ld (P:=Tryz.prog) ag47 cs47 hi
    rw [he1] at hld hc
    have hU1:=(hmo.pre pG)
    obtain ⟨U',H4,j1,j2,j3,j4,j5,j6⟩:=own1_24 hU1 (hpp.trans pG) (by omega) e1.1 e1.2
    have hap:Apart (us.getD i undef) U:=by
      rcases (heach i (by rw [hnl];exact hi)).at_ with q1 | q1
      . exact .inr (.inl q1)
      . rcases hmo with q2 | ⟨oo,zs,q2,q3,q4,q5⟩
        . exact .inl q2.1
        . refine .inr (.inr ?_)
          rw [q2]
          show rowO (us.getD i undef) ≠ oo
          have:=at_lt q4
          omega
    have f1:=hrow.kept hap j4
    have f2:bdD (tkS k es) c=some ((m1:Nat):Int):=by rw [hdx,g2]
    have f3:out ++ [e1] ++ (pthL (tkS k es) es false m1 c).map (·.1)=(pthL (tkS k es) es false d.toNat p).map (·.1):=by
      rw [<- hout,hc,List.append_assoc];rfl
    have f4:(out ++ [e1]).length+m1=d.toNat:=by rw [List.length_append];simp;omega
    simp (maxSteps:=1000000) (disch:=omega) only [k2,k6,k7,k9,k10,k45,k46,k47,cell_of cGG,rG.ix Tryz.underlying24 cs47,Int.toNat_natCast,hld,j1,hm11,wrap64,SS,eq_self,reduceIte,reduceCtorEq,Nat.reduceEqDiff,Nat.reduceAdd]
    refine ⟨m1,by omega,c,out ++ [e1],?_⟩
    (repeat' first | exact f1 | exact hcb | exact f2 | exact f4 | exact f3 | exact j2 | exact j3 | apply And.intro) <;> first | (simp only [Value.int.injEq,true_and];omega) | omega | rfl | assumption | (simp;done) | (simp;omega)
  . rw [if_neg (by rw [hdx];simp only [decide_eq_true_eq,Option.some.injEq];exact g2)] at hfi
    simp (maxSteps:=1000000) (disch:=omega) only [k2,k6,k7,k9,k10,k45,k46,k47,wrap64,SS,eq_self,reduceIte,reduceCtorEq,Nat.reduceEqDiff,Nat.reduceAdd]
    refine ⟨m' - 1,by omega,i+1,?_⟩
    (repeat' first | exact hfi | apply And.intro) <;> first | (simp only [Value.int.injEq,true_and];omega) | omega | rfl | assumption | (simp;done) | (simp;omega)
theorem TkDI_c (n:Int)(v w:Value)(es:List (Int × Int))(p:List Int)(H:AH)(hr:RowP 47 H v es)(hlen:es.length<=1099511627776)(hes:∀ y ∈ es,I64 y.1/\I64 y.2)(hx:Row 3 H w p)(hlp:p.length<=1099511627776)(hxs:∀ y ∈ p,I64 y)(hn:I64 n) :
    ACalls Tryz.prog 10 [.agg (List.toArray [.int .i64 n,v]),w] H fun r H'=>r=.tuple (List.toArray [.int .i64 ((tkD n es p).getD 0),.bool (tkD n es p).isSome])/\H<+:H':=by
  refine in10 rfl ?_
  intro Q hQ
  simp (disch:=omega) only [cd10,hr.boxG,SS,eq_self,reduceIte,reduceCtorEq,Nat.reduceEqDiff,Nat.reduceAdd]
  generalize hA:H ++ [AObj.cells [.int .i64 n,v] 26 false]=A
  have pA:H<+:A:=by rw [<- hA];exact List.prefix_append _ _
  have cA:A[H.length]?=some (.cells [.int .i64 n,v] 26 false):=by rw [<- hA];exact at_new ..
  have rA:=hr.pre pA
  simp (disch:=omega) only [ld_agg ag26 cs26 cA,SS,eq_self,reduceIte,reduceCtorEq,Nat.reduceEqDiff,Nat.reduceAdd]
  refine CallH.by (TkI_c n v w es p A rA hlen hes (hx.pre pA) hlp hxs hn) ?_
  rintro _ B ⟨g,rfl,hg,pB⟩
  simp (disch:=omega) only [hg.row.len Tryz.underlying24,SS,eq_self,reduceIte,reduceCtorEq,Nat.reduceEqDiff,Nat.reduceAdd]
  refine hQ _ _ _ ?_
  simp (disch:=omega) only [SS,eq_self,reduceIte,reduceCtorEq,Nat.reduceEqDiff,Nat.reduceAdd]
  refine ⟨?_,pA.trans pB⟩
  have hl:=tkL_len n es p
  cases hd:tkD n es p with
  | none=>rw [hd] at hl;rw [hl];rfl
  | some d =>
    rw [hd] at hl
    have:=tkD_rng hd
    have e:((tkL n es p).length:Int)=d:=by rw [hl];simp only;omega
    rw [e];rfl
def cd201:Cd:=(.seq (.reg [⟨⟨some 3,.box 47 (.tmp 1),none⟩,[]⟩,
  ⟨⟨some 4,.assign (.const (.int .i64 0)),none⟩,[]⟩]) (.seq (.seq (.reg [⟨⟨some 5,.move (.tmp 0),none⟩,[]⟩,
  ⟨⟨some 6,.indexAddr 47 (.tmp 3) (.const (.int .i64 0)),none⟩,[]⟩,
  ⟨⟨some 7,.load 3 (.tmp 6),none⟩,[]⟩,
  ⟨⟨some 8,.indexAddr 27 (.tmp 5) (.tmp 7),none⟩,[]⟩,
  ⟨⟨some 9,.load 3 (.tmp 8),none⟩,[]⟩,
  ⟨⟨some 10,.binOp .eql 3 (.tmp 9) (.const (.int .i64 0)) 3,none⟩,[]⟩]) (.cond (.tmp 10) (.seq (.reg [⟨⟨some 11,.indexAddr 47 (.tmp 3) (.const (.int .i64 1)),none⟩,[]⟩,
  ⟨⟨some 12,.load 3 (.tmp 11),none⟩,[]⟩,
  ⟨⟨some 4,.assign (.tmp 12),none⟩,[]⟩]) .ret) .skip)) (.seq (.reg [⟨⟨some 13,.indexAddr 47 (.tmp 3) (.const (.int .i64 0)),none⟩,[]⟩,
  ⟨⟨some 14,.load 3 (.tmp 13),none⟩,[]⟩,
  ⟨⟨some 4,.assign (.tmp 14),none⟩,[]⟩]) .ret)))
theorem in201:InT Tryz.prog 201 2 [.tmp 4] cd201:=InT.mk (by kernel_rfl) [] Tryz.func201 rfl (by kernel_rfl) (by kernel_rfl) (of_decide_eq_true (by kernel_rfl)) (by kernel_rfl)
def cd154:Cd:=(.seq (.reg [⟨⟨some 5,.box 47 (.tmp 1),none⟩,[]⟩,⟨⟨some 6,.box 47 (.tmp 2),none⟩,[]⟩,⟨⟨some 8,.assign (.const (.bool false)),none⟩,[]⟩]) (.seq (.seq (.reg [⟨⟨some 9,.move (.tmp 3),none⟩,[]⟩]) (.cond (.tmp 9) (.seq (.reg [⟨⟨some 10,.move (.tmp 0),none⟩,[]⟩,⟨⟨some 11,.load 47 (.tmp 5),none⟩,[]⟩,⟨⟨some 13,.move (.tmp 0),none⟩,[]⟩,⟨⟨some 14,.load 47 (.tmp 6),none⟩,[]⟩,⟨⟨some 12,.call ⟨(.value (.func 201)),#[.tmp 10,.tmp 11],#[27,47]⟩,none⟩,[⟨some 14,.load 47 (.tmp 6),none⟩]⟩,⟨⟨some 15,.call ⟨(.value (.func 201)),#[.tmp 13,.tmp 14],#[27,47]⟩,none⟩,[]⟩,⟨⟨some 16,.binOp .lss 3 (.tmp 12) (.tmp 15) 3,none⟩,[]⟩,⟨⟨some 8,.assign (.tmp 16),none⟩,[]⟩]) .ret) .skip)) (.seq (.reg [⟨⟨some 17,.indexAddr 47 (.tmp 5) (.const (.int .i64 0)),none⟩,[]⟩,⟨⟨some 18,.load 3 (.tmp 17),none⟩,[]⟩,⟨⟨some 19,.indexAddr 47 (.tmp 6) (.const (.int .i64 0)),none⟩,[]⟩,
 ⟨⟨some 20,.load 3 (.tmp 19),none⟩,[]⟩,⟨⟨some 21,.binOp .lss 3 (.tmp 18) (.tmp 20) 3,none⟩,[]⟩,⟨⟨some 22,.move (.tmp 21),none⟩,[]⟩,⟨⟨some 23,.indexAddr 47 (.tmp 5) (.const (.int .i64 0)),some (22,false)⟩,[]⟩,⟨⟨some 24,.load 3 (.tmp 23),some (22,false)⟩,[]⟩,⟨⟨some 25,.indexAddr 47 (.tmp 6) (.const (.int .i64 0)),some (22,false)⟩,[]⟩,⟨⟨some 26,.load 3 (.tmp 25),some (22,false)⟩,[]⟩,⟨⟨some 27,.binOp .eql 3 (.tmp 24) (.tmp 26) 3,some (22,false)⟩,[]⟩,⟨⟨some 28,.move (.tmp 27),some (22,false)⟩,[]⟩,⟨⟨some 29,.indexAddr 47 (.tmp 5) (.const (.int .i64 1)),some (28,true)⟩,[]⟩,⟨⟨some 30,.load 3 (.tmp 29),some (28,true)⟩,[]⟩,⟨⟨some 31,.indexAddr 47 (.tmp 6) (.const (.int .i64 1)),some (28,true)⟩,[]⟩,
 ⟨⟨some 32,.load 3 (.tmp 31),some (28,true)⟩,[]⟩,
  ⟨⟨some 33,.binOp .lss 3 (.tmp 30) (.tmp 32) 3,some (28,true)⟩,[]⟩,
  ⟨⟨some 34,.pick (.tmp 28) (.tmp 33) (.const (.bool false)),some (22,false)⟩,[]⟩,
  ⟨⟨some 35,.pick (.tmp 22) (.const (.bool true)) (.tmp 34),none⟩,[]⟩,
  ⟨⟨some 8,.assign (.tmp 35),none⟩,[]⟩]) .ret)))
theorem in154:InT Tryz.prog 154 4 [.tmp 8] cd154:=InT.mk (by kernel_rfl) [(2,[(0,false),(1,false),(3,false),(4,false),(2,true),(5,true),(6,false),(7,false)])] Tryz.func154 rfl (by kernel_rfl) (by kernel_rfl) (of_decide_eq_true (by kernel_rfl)) (by kernel_rfl)
def cd71:Cd:=(.seq (.reg [⟨⟨some 4,.box 26 (.tmp 0),none⟩,[]⟩,⟨⟨some 8,.assign (.const (.slice none 0 0)),none⟩,[]⟩]) (.seq (.reg [⟨⟨some 14,.buildSlice 24 0 #[],none⟩,[]⟩,⟨⟨some 9,.assign (.tmp 14),none⟩,[]⟩]) (.seq (.block 0 (.loop (.seq (.seq (.reg [⟨⟨some 15,.move (.tmp 1),none⟩,[]⟩,⟨⟨some 16,.move (.tmp 2),none⟩,[]⟩,⟨⟨some 17,.call ⟨(.value (.func 70)),#[.tmp 16],#[27]⟩,none⟩,[]⟩,⟨⟨some 18,.indexAddr 27 (.tmp 15) (.tmp 17),none⟩,[]⟩,⟨⟨some 19,.load 3 (.tmp 18),none⟩,[]⟩,⟨⟨some 20,.binOp .gtr 3 (.tmp 19) (.const (.int .i64 0)) 3,none⟩,[]⟩]) (.cond (.tmp 20) .skip (.exit 0))) (.block 1 (.seq (.reg [⟨⟨some 22,.load 26 (.tmp 4),none⟩,[]⟩,⟨⟨some 23,.move (.tmp 2),none⟩,[]⟩,⟨⟨some 24,.move (.tmp 3),none⟩,[]⟩,⟨⟨some 25,.call ⟨(.value (.func 152)),#[.tmp 22,.tmp 23,.tmp 24],#[26,27,4]⟩,none⟩,[]⟩,⟨⟨some 21,.move (.tmp 25),none⟩,[]⟩,
 ⟨⟨some 26,.extract (.tmp 21) 0,none⟩,[]⟩,⟨⟨some 27,.extract (.tmp 21) 1,none⟩,[]⟩,⟨⟨some 10,.assign (.tmp 26),none⟩,[]⟩,⟨⟨some 11,.assign (.tmp 27),none⟩,[]⟩]) (.seq (.reg [⟨⟨some 12,.assign (.const (.int .i64 (-1))),none⟩,[]⟩]) (.seq (.seq (.reg [⟨⟨some 13,.assign (.const (.int .i64 0)),none⟩,[]⟩]) (.block 2 (.loop (.seq (.seq (.reg [⟨⟨some 28,.move (.tmp 13),none⟩,[]⟩,⟨⟨some 29,.move (.tmp 10),none⟩,[]⟩,⟨⟨some 30,.call ⟨(.builtin .len),#[.tmp 29],#[36]⟩,none⟩,[]⟩,⟨⟨some 31,.binOp .lss 3 (.tmp 28) (.tmp 30) 3,none⟩,[]⟩]) (.cond (.tmp 31) .skip (.exit 2))) (.seq (.block 3 (.seq (.reg [⟨⟨some 34,.move (.tmp 1),none⟩,[]⟩,⟨⟨some 35,.move (.tmp 10),none⟩,[]⟩,⟨⟨some 36,.move (.tmp 13),none⟩,[]⟩,⟨⟨some 37,.indexAddr 36 (.tmp 35) (.tmp 36),none⟩,[]⟩,⟨⟨some 38,.load 27 (.tmp 37),none⟩,[]⟩,⟨⟨some 42,.move (.tmp 1),none⟩,[]⟩,
 ⟨⟨some 43,.move (.tmp 2),none⟩,[]⟩,⟨⟨some 39,.call ⟨(.value (.func 70)),#[.tmp 38],#[27]⟩,none⟩,[]⟩,⟨⟨some 40,.indexAddr 27 (.tmp 34) (.tmp 39),none⟩,[]⟩,⟨⟨some 41,.load 3 (.tmp 40),none⟩,[]⟩,⟨⟨some 44,.call ⟨(.value (.func 70)),#[.tmp 43],#[27]⟩,none⟩,[⟨some 41,.load 3 (.tmp 40),none⟩]⟩,⟨⟨some 45,.indexAddr 27 (.tmp 42) (.tmp 44),none⟩,[]⟩,⟨⟨some 46,.load 3 (.tmp 45),none⟩,[]⟩,⟨⟨some 47,.binOp .sub 3 (.tmp 46) (.const (.int .i64 1)) 3,none⟩,[]⟩,⟨⟨some 48,.binOp .eql 3 (.tmp 41) (.tmp 47) 3,none⟩,[]⟩,⟨⟨some 49,.move (.tmp 48),none⟩,[]⟩,⟨⟨some 50,.move (.tmp 12),some (49,true)⟩,[]⟩,⟨⟨some 51,.binOp .lss 3 (.tmp 50) (.const (.int .i64 0)) 3,some (49,true)⟩,[]⟩,
 ⟨⟨some 52,.move (.tmp 51),some (49,true)⟩,[]⟩,⟨⟨some 53,.move (.tmp 2),some (52,false)⟩,[]⟩,⟨⟨some 54,.move (.tmp 11),some (52,false)⟩,[]⟩,⟨⟨some 55,.move (.tmp 13),some (52,false)⟩,[]⟩,⟨⟨some 56,.indexAddr 24 (.tmp 54) (.tmp 55),some (52,false)⟩,[]⟩,⟨⟨some 57,.load 47 (.tmp 56),some (52,false)⟩,[]⟩,⟨⟨some 58,.move (.tmp 11),some (52,false)⟩,[]⟩,⟨⟨some 59,.move (.tmp 12),some (52,false)⟩,[]⟩,⟨⟨some 60,.indexAddr 24 (.tmp 58) (.tmp 59),some (52,false)⟩,[]⟩,⟨⟨some 61,.load 47 (.tmp 60),some (52,false)⟩,[]⟩,⟨⟨some 62,.move (.tmp 3),some (52,false)⟩,[]⟩,⟨⟨some 63,.call ⟨(.value (.func 154)),#[.tmp 53,.tmp 57,.tmp 61,.tmp 62],#[27,47,47,4]⟩,some (52,false)⟩,[]⟩,
 ⟨⟨some 64,.pick (.tmp 52) (.const (.bool true)) (.tmp 63),some (49,true)⟩,[]⟩,⟨⟨some 65,.pick (.tmp 49) (.tmp 64) (.const (.bool false)),none⟩,[]⟩]) (.cond (.tmp 65) (.reg [⟨⟨some 66,.move (.tmp 13),none⟩,[]⟩,⟨⟨some 12,.assign (.tmp 66),none⟩,[]⟩]) .skip))) (.reg [⟨⟨some 32,.move (.tmp 13),none⟩,[]⟩,⟨⟨some 33,.binOp .add 3 (.tmp 32) (.const (.int .i64 1)) 3,none⟩,[]⟩,⟨⟨some 13,.assign (.tmp 33),none⟩,[]⟩])))))) (.seq (.reg [⟨⟨some 67,.move (.tmp 9),none⟩,[]⟩,⟨⟨some 68,.move (.tmp 11),none⟩,[]⟩,⟨⟨some 69,.move (.tmp 12),none⟩,[]⟩,⟨⟨some 70,.indexAddr 24 (.tmp 68) (.tmp 69),none⟩,[]⟩,⟨⟨some 71,.load 47 (.tmp 70),none⟩,[]⟩,⟨⟨some 72,.buildSlice 24 1 #[(0,.tmp 71)],none⟩,[]⟩,⟨⟨some 73,.call ⟨(.builtin .append),#[.tmp 67,.tmp 72],#[24,24]⟩,none⟩,[]⟩,⟨⟨some 9,.assign (.tmp 73),none⟩,[]⟩]) (.reg [⟨⟨some 74,.move (.tmp 10),none⟩,[]⟩,
 ⟨⟨some 75,.move (.tmp 12),none⟩,[]⟩,
  ⟨⟨some 76,.indexAddr 36 (.tmp 74) (.tmp 75),none⟩,[]⟩,
  ⟨⟨some 77,.load 27 (.tmp 76),none⟩,[]⟩,
  ⟨⟨some 2,.assign (.tmp 77),none⟩,[]⟩]))))))))) (.seq (.reg [⟨⟨some 78,.move (.tmp 9),none⟩,[]⟩,
  ⟨⟨some 8,.assign (.tmp 78),none⟩,[]⟩]) .ret))))
theorem in71:InT Tryz.prog 71 4 [.tmp 8] cd71:=InT.mk (by kernel_rfl) [(8,[(0,false),(1,false),(2,false),(3,false),(4,false),(8,false),(9,false),(5,true),(6,false),(7,false),(10,true),(11,false),(12,false),(13,false),(14,false),(15,false),(16,false),(17,false),(18,false),(19,false),(20,false),(21,false),(22,false),(23,false),(24,false),(25,false),(26,false),(27,false),(28,false),(29,true),(30,false),(31,false)])] Tryz.func71 rfl (by kernel_rfl) (by kernel_rfl) (of_decide_eq_true (by kernel_rfl)) (by kernel_rfl)
def cd9:Cd:=(.seq (.reg [⟨⟨some 2,.box 26 (.tmp 0),none⟩,[]⟩,⟨⟨some 4,.assign (.const (.slice none 0 0)),none⟩,[]⟩,⟨⟨some 5,.assign (.const (.bool false)),none⟩,[]⟩]) (.seq (.seq (.reg [⟨⟨some 7,.load 26 (.tmp 2),none⟩,[]⟩,⟨⟨some 8,.move (.tmp 1),none⟩,[]⟩,⟨⟨some 9,.call ⟨(.value (.func 67)),#[.tmp 7,.tmp 8],#[26,27]⟩,none⟩,[]⟩,⟨⟨some 10,.unOp .not 4 (.tmp 9),none⟩,[]⟩]) (.cond (.tmp 10) (.seq (.reg [⟨⟨some 11,.buildSlice 24 0 #[],none⟩,[]⟩,⟨⟨some 4,.assign (.tmp 11),none⟩,[]⟩,⟨⟨some 5,.assign (.const (.bool false)),none⟩,[]⟩]) .ret) .skip)) (.seq (.reg [⟨⟨some 12,.load 26 (.tmp 2),none⟩,[]⟩,⟨⟨some 13,.fieldAddr 26 (.tmp 2) 0,none⟩,[]⟩,⟨⟨some 14,.load 3 (.tmp 13),none⟩,[]⟩,⟨⟨some 15,.call ⟨(.value (.func 69)),#[.tmp 14],#[3]⟩,none⟩,[⟨some 12,.load 26 (.tmp 2),none⟩]⟩,⟨⟨some 16,.call ⟨(.value (.func 68)),#[.tmp 12,.tmp 15,(.const (.bool false))],#[26,27,4]⟩,none⟩,[]⟩,
 ⟨⟨some 6,.assign (.tmp 16),none⟩,[]⟩]) (.seq (.seq (.reg [⟨⟨some 17,.move (.tmp 6),none⟩,[]⟩,⟨⟨some 18,.move (.tmp 1),none⟩,[]⟩,⟨⟨some 19,.call ⟨(.value (.func 70)),#[.tmp 18],#[27]⟩,none⟩,[]⟩,⟨⟨some 20,.indexAddr 27 (.tmp 17) (.tmp 19),none⟩,[]⟩,⟨⟨some 21,.load 3 (.tmp 20),none⟩,[]⟩,⟨⟨some 22,.binOp .lss 3 (.tmp 21) (.const (.int .i64 0)) 3,none⟩,[]⟩]) (.cond (.tmp 22) (.seq (.reg [⟨⟨some 23,.buildSlice 24 0 #[],none⟩,[]⟩,⟨⟨some 4,.assign (.tmp 23),none⟩,[]⟩,⟨⟨some 5,.assign (.const (.bool false)),none⟩,[]⟩]) .ret) .skip)) (.seq (.reg [⟨⟨some 24,.load 26 (.tmp 2),none⟩,[]⟩,⟨⟨some 25,.move (.tmp 6),none⟩,[]⟩,⟨⟨some 26,.move (.tmp 1),none⟩,[]⟩,⟨⟨some 27,.call ⟨(.value (.func 71)),#[.tmp 24,.tmp 25,.tmp 26,(.const (.bool false))],#[26,27,27,4]⟩,none⟩,[]⟩,⟨⟨some 4,.assign (.tmp 27),none⟩,[]⟩,
 ⟨⟨some 5,.assign (.const (.bool true)),none⟩,[]⟩]) .ret)))))
theorem in9:InT Tryz.prog 9 2 [.tmp 4,.tmp 5] cd9:=InT.mk (by kernel_rfl) [(3,[(0,false),(1,false),(2,false),(3,true),(4,true),(5,false)])] Tryz.func9 rfl (by kernel_rfl) (by kernel_rfl) (of_decide_eq_true (by kernel_rfl)) (by kernel_rfl)
def cd11:Cd:=(.seq (.reg [⟨⟨some 2,.box 26 (.tmp 0),none⟩,[]⟩,⟨⟨some 4,.assign (.const (.int .i64 0)),none⟩,[]⟩,⟨⟨some 5,.assign (.const (.bool false)),none⟩,[]⟩]) (.seq (.seq (.reg [⟨⟨some 6,.load 26 (.tmp 2),none⟩,[]⟩,⟨⟨some 7,.move (.tmp 1),none⟩,[]⟩,⟨⟨some 8,.call ⟨(.value (.func 67)),#[.tmp 6,.tmp 7],#[26,27]⟩,none⟩,[]⟩,⟨⟨some 9,.unOp .not 4 (.tmp 8),none⟩,[]⟩]) (.cond (.tmp 9) (.seq (.reg [⟨⟨some 4,.assign (.const (.int .i64 0)),none⟩,[]⟩,⟨⟨some 5,.assign (.const (.bool false)),none⟩,[]⟩]) .ret) .skip)) (.seq (.reg [⟨⟨some 10,.load 26 (.tmp 2),none⟩,[]⟩,⟨⟨some 11,.fieldAddr 26 (.tmp 2) 0,none⟩,[]⟩,⟨⟨some 12,.load 3 (.tmp 11),none⟩,[]⟩,⟨⟨some 15,.move (.tmp 1),none⟩,[]⟩,⟨⟨some 13,.call ⟨(.value (.func 69)),#[.tmp 12],#[3]⟩,none⟩,[⟨some 10,.load 26 (.tmp 2),none⟩]⟩,⟨⟨some 14,.call ⟨(.value (.func 68)),#[.tmp 10,.tmp 13,(.const (.bool false))],#[26,27,4]⟩,none⟩,[]⟩,
 ⟨⟨some 16,.call ⟨(.value (.func 70)),#[.tmp 15],#[27]⟩,none⟩,[]⟩,
  ⟨⟨some 17,.indexAddr 27 (.tmp 14) (.tmp 16),none⟩,[]⟩,
  ⟨⟨some 18,.load 3 (.tmp 17),none⟩,[]⟩,
  ⟨⟨some 19,.call ⟨(.value (.func 72)),#[.tmp 18],#[3]⟩,none⟩,[]⟩,
  ⟨⟨some 20,.extract (.tmp 19) 0,none⟩,[]⟩,
  ⟨⟨some 21,.extract (.tmp 19) 1,none⟩,[]⟩,
  ⟨⟨some 4,.assign (.tmp 20),none⟩,[]⟩,
  ⟨⟨some 5,.assign (.tmp 21),none⟩,[]⟩]) .ret)))
theorem in11:InT Tryz.prog 11 2 [.tmp 4,.tmp 5] cd11:=InT.mk (by kernel_rfl) [(3,[(0,false),(1,false),(2,false),(5,false),(3,true),(4,true),(6,true),(7,false),(8,false),(9,true),(10,false),(11,false),(12,false),(13,false)])] Tryz.func11 rfl (by kernel_rfl) (by kernel_rfl) (of_decide_eq_true (by kernel_rfl)) (by kernel_rfl)
end Go.Proofs.YtjnefjchconebaaGreat.Ai
namespace Go.Proofs.YtjnefjchconebaaGreat.Ai
open Go Go.RowKit
theorem noInt_pr (vs:List Value)(ro:Bool):NoInt (.cells vs 47 ro):=fun ws r h=>by
  simp only [AObj.cells.injEq] at h
  exact absurd h.2.1 (by decide)
theorem Row.keptPr {H0 H H':AH}{x v:Value}{xs:List Int}{ps:List (Int × Int)}(h:Row 3 H x xs)(hm:MineP 47 H0 H v ps)(hk:Kept v H H'):Row 3 H' x xs:=by
  rcases hm with g | ⟨oo,zs,g1,g2,g3,g4⟩
  . exact h.mono fun y hy=>hk _ _ (.inl g.1) hy
  . exact h.but g3 (noInt_pr _ _) fun j y hj hy=>hk j y (.inr (by rw [g1];exact hj)) hy
theorem l9Other_c (w:Value)(p:List Int)(a b:Nat)(H:AH)(hx:Row 3 H w p)(ha:a<p.length) :
    ACalls Tryz.prog 201 [w,.agg (List.toArray [.int .i64 (a:Int),.int .i64 (b:Int)])] H fun r H'=>r=.int .i64 (othB p ((a:Int),(b:Int)))/\H<+:H':=by
  refine in201 rfl ?_
  intro Q hQ
  simp (disch:=omega) only [cd201,box_a2,SS,eq_self,reduceIte,reduceCtorEq,Nat.reduceEqDiff,Nat.reduceAdd]
  generalize hA:H ++ [AObj.cells [.int .i64 (a:Int),.int .i64 (b:Int)] 47 false]=A
  have pA:H<+:A:=by rw [<- hA];exact List.prefix_append _ _
  have cA:A[H.length]?=some (.cells [.int .i64 (a:Int),.int .i64 (b:Int)] 47 false):=by rw [<- hA];exact at_new ..
  have hxA:=hx.pre pA
  have ho:othB p ((a:Int),(b:Int))=if p.getD a 0=0 then (b:Int) else (a:Int):=by unfold othB;simp only [Int.toNat_natCast]
  simp (disch:=omega) only [cell_of cA,hxA.ix Tryz.underlying27 cs3,hxA.cell,Int.toNat_natCast,SS,eq_self,reduceIte,reduceCtorEq,Nat.reduceEqDiff,Nat.reduceAdd]
  refine brD.intro (fun e=>?_) (fun e=>?_) <;> simp (disch:=omega) only [cell_of cA,SS,eq_self,reduceIte,reduceCtorEq,Nat.reduceEqDiff,Nat.reduceAdd] <;> refine hQ _ _ _ ?_ <;> simp (disch:=omega) only [SS,eq_self,reduceIte,reduceCtorEq,Nat.reduceEqDiff,Nat.reduceAdd]
  . rw [ho,if_pos e];exact ⟨rfl,pA⟩
  . rw [ho,if_neg e];exact ⟨rfl,pA⟩
def fstB (sl:Bool)(p:List Int)(x y:Int × Int):Bool:=if sl=true then decide (othB p x<othB p y) else decide (pairLt x y)
theorem l9First_c (sl:Bool)(w:Value)(p:List Int)(a b c d:Nat)(H:AH)(hx:Row 3 H w p)(ha:a<p.length)(hc:c<p.length) :
    ACalls Tryz.prog 154 [w,.agg (List.toArray [.int .i64 (a:Int),.int .i64 (b:Int)]),.agg (List.toArray [.int .i64 (c:Int),.int .i64 (d:Int)]),.bool sl] H fun r H'=>r=.bool (fstB sl p ((a:Int),(b:Int)) ((c:Int),(d:Int)))/\H<+:H':=by
  refine in154 rfl ?_
  intro Q hQ
  simp (disch:=omega) only [cd154,box_a2,SS,eq_self,reduceIte,reduceCtorEq,Nat.reduceEqDiff,Nat.reduceAdd]
  generalize hA:H ++ [AObj.cells [.int .i64 (a:Int),.int .i64 (b:Int)] 47 false]=A
  have pA:H<+:A:=by rw [<- hA];exact List.prefix_append _ _
  have cA:A[H.length]?=some (.cells [.int .i64 (a:Int),.int .i64 (b:Int)] 47 false):=by rw [<- hA];exact at_new ..
  generalize hB:A ++ [AObj.cells [.int .i64 (c:Int),.int .i64 (d:Int)] 47 false]=B
  have pB:A<+:B:=by rw [<- hB];exact List.prefix_append _ _
  have cB:B[A.length]?=some (.cells [.int .i64 (c:Int),.int .i64 (d:Int)] 47 false):=by rw [<- hB];exact at_new ..
  have cBA:=pre_at pB cA
  have hxB:=(hx.pre pA).pre pB
  cases sl with
  | true =>
    simp (disch:=omega) only [ld_a2 cBA,ld_a2 cB,SS,eq_self,reduceIte,reduceCtorEq,Nat.reduceEqDiff,Nat.reduceAdd]
    refine CallH.by (l9Other_c w p a b B hxB ha) ?_
    rintro _ C ⟨rfl,pC⟩
    simp (disch:=omega) only [ld_a2 (pre_at pC cB),SS,eq_self,reduceIte,reduceCtorEq,Nat.reduceEqDiff,Nat.reduceAdd]
    refine CallH.by (l9Other_c w p c d C (hxB.pre pC) hc) ?_
    rintro _ D ⟨rfl,pD⟩
    simp (disch:=omega) only [SS,eq_self,reduceIte,reduceCtorEq,Nat.reduceEqDiff,Nat.reduceAdd]
    refine hQ _ _ _ ?_
    simp (disch:=omega) only [SS,eq_self,reduceIte,reduceCtorEq,Nat.reduceEqDiff,Nat.reduceAdd]
    exact ⟨rfl,pA.trans (pB.trans (pC.trans pD))⟩
  | false =>
    have hp:fstB false p ((a:Int),(b:Int)) ((c:Int),(d:Int))=decide ((a:Int)<c∨(a:Int)=c/\(b:Int)<d):=rfl
    rw [hp] at hQ
    simp (disch:=omega) only [cell_of cBA,cell_of cB,SS,eq_self,reduceIte,reduceCtorEq,Nat.reduceEqDiff,Nat.reduceAdd]
    refine brD.intro (fun e1=>?_) (fun e1=>?_)
    . simp (disch:=omega) only [e1,SS,eq_self,reduceIte,reduceCtorEq,Nat.reduceEqDiff,Nat.reduceAdd]
      refine hQ _ _ _ ?_
      simp (disch:=omega) only [SS,eq_self,reduceIte,reduceCtorEq,Nat.reduceEqDiff,Nat.reduceAdd]
      exact ⟨by rw [decide_eq_true (.inl e1)],pA.trans pB⟩
    simp (disch:=omega) only [e1,cell_of cBA,cell_of cB,SS,eq_self,reduceIte,reduceCtorEq,Nat.reduceEqDiff,Nat.reduceAdd]
    refine brD.intro (fun e2=>?_) (fun e2=>?_)
    . simp (disch:=omega) only [e1,e2,cell_of cBA,cell_of cB,SS,eq_self,reduceIte,reduceCtorEq,Nat.reduceEqDiff,Nat.reduceAdd]
      refine hQ _ _ _ ?_
      simp (disch:=omega) only [SS,eq_self,reduceIte,reduceCtorEq,Nat.reduceEqDiff,Nat.reduceAdd]
      refine ⟨?_,pA.trans pB⟩
      rw [Value.bool.injEq,decide_eq_decide]
      omega
    . simp (disch:=omega) only [e1,e2,SS,eq_self,reduceIte,reduceCtorEq,Nat.reduceEqDiff,Nat.reduceAdd]
      refine hQ _ _ _ ?_
      simp (disch:=omega) only [SS,eq_self,reduceIte,reduceCtorEq,Nat.reduceEqDiff,Nat.reduceAdd]
      refine ⟨?_,pA.trans pB⟩
      rw [Value.bool.injEq,eq_comm,decide_eq_false_iff_not]
      omega
theorem fstB_no {n:Nat}{es:List (Int × Int)}(hg:Grd (n:Int) es){sl:Bool}(hsl:sl=true->1<=n){q:List Int}(hq:Bd n q){i j:Nat}(hij:i<j)(hj:j<(mvs es sl q).length):fstB sl q ((mvs es sl q).getD j (0,0)) ((mvs es sl q).getD i (0,0))=false:=by
  have hi:i<(mvs es sl q).length:=by omega
  have e1:(mvs es sl q).getD j (0,0)=(mvs es sl q)[j]:=by simp [hj]
  have e2:(mvs es sl q).getD i (0,0)=(mvs es sl q)[i]:=by simp [hi]
  rw [e1,e2]
  unfold fstB
  cases sl with
  | true =>
    obtain ⟨h,h1,h2,h3⟩:=hole_of hq (hsl rfl)
    have:=(oth_srt hg hq h1 h3).1
    rw [List.pairwise_map,List.pairwise_iff_getElem] at this
    have:=this i j hi hj hij
    rw [if_pos rfl,decide_eq_false_iff_not]
    omega
  | false =>
    have hp:(mvs es false q).Pairwise pairLt:=(grd_pw hg).filter _
    rw [List.pairwise_iff_getElem] at hp
    have:=hp i j hi hj hij
    rw [if_neg (by decide),decide_eq_false_iff_not]
    unfold pairLt at *
    omega
theorem l9Steps_c (n:Nat)(v fv w:Value)(es:List (Int × Int))(p0 p:List Int)(sl:Bool)(d:Nat)(H:AH)(hr:RowP 47 H v es)(hlen:es.length<=1000000)(hx:Row 3 H w p)(hg:Grd (n:Int) es)(hp0:Bd n p0)(hp:Bd n p)(hn:n<=6)(hsl:sl=true->1<=n)
    (hfv:Row 3 H fv (spL (mny n) (bdR es sl p0)))(hd:bdD (bdR es sl p0) p=some (d:Int))(hd7:d<=720) :
    ACalls Tryz.prog 71 [.agg (List.toArray [.int .i64 (n:Int),v]),fv,w,.bool sl] H fun r H'=>MineP 47 H H' r ((pthL (bdR es sl p0) es sl d p).map (·.1))/\H<+:H':=by
  have hI:=bdR_I hn hg sl hp0
  have hmn:=mny_le hn
  have hslen:=spL_len (mny n) (bdR es sl p0)
  have hat:∀ b,Bd n b->∀ x,bdD (bdR es sl p0) b=some x->∃ z:Nat,cod b=(z:Int)/\z<(spL (mny n) (bdR es sl p0)).length/\(spL (mny n) (bdR es sl p0)).getD z 0=x:=by
    intro b hb x hx
    obtain ⟨z,hz,hzl⟩:=cod_nat hn hb
    have:=spL_at hn hb hI.ok
    rw [hz,Int.toNat_natCast,hx] at this
    exact ⟨z,hz,by rw [hslen];exact hzl,this⟩
  refine in71 rfl ?_
  intro Q hQ
  simp (maxSteps:=1000000) (disch:=omega) only [cd71,hr.boxG,SS,eq_self,reduceIte,reduceCtorEq,Nat.reduceEqDiff,Nat.reduceAdd]
  generalize hA:H ++ [AObj.cells [.int .i64 ↑n,v] 26 false]=A
  have pA:H<+:A:=by rw [<- hA];exact List.prefix_append _ _
  have cA:A[H.length]?=some (.cells [.int .i64 ↑n,v] 26 false):=by rw [<- hA];exact at_new ..
  have rA:=hr.pre pA
  try simp (maxSteps:=1000000) (disch:=omega) only [SS,eq_self,reduceIte,reduceCtorEq,Nat.reduceEqDiff,Nat.reduceAdd]
  generalize hB:A ++ [AObj.cells [] 47 false]=B
  have pB:A<+:B:=by rw [<- hB];exact List.prefix_append _ _
  have lA:A.length=H.length+1:=by rw [<- hA];simp
  have hm0:MineP 47 A B (.slice (some ⟨A.length,0,none⟩) 0 0) []:=by rw [<- hB];exact MineP.nil0 (P:=Tryz.prog) A A (Nat.le_refl _)
  generalize hS:bdR es sl p0=S0 at *
  generalize hF:spL (mny n) S0=F at *
  refine LoopH.by (fun m s H'=>∃ (q:List Int) (out:List (Int × Int)),s 1=fv/\s 3=.bool sl/\s 4=.pointer (some ⟨H.length,0,none⟩)/\Row 3 H' (s 2) q/\Bd n q/\bdD S0 q=some ((m:Nat):Int)/\m<=720/\out.length+m=d/\out ++ (pthL S0 es sl m q).map (·.1)=(pthL S0 es sl d p).map (·.1)/\MineP 47 A H' (s 9) out/\A<+:H') d ?_ ?_
  . refine ⟨p,[],?_⟩
    have f1:=(hx.pre pA).pre pB
    simp (maxSteps:=1000000) (disch:=omega) only [SS,eq_self,reduceIte,reduceCtorEq,Nat.reduceEqDiff,Nat.reduceAdd]
    (repeat' first | exact f1 | exact hp | exact hd | exact hm0 | exact pB | apply And.intro) <;> first | (simp only [Value.int.injEq,true_and];omega) | omega | rfl | assumption | (simp;done) | (simp;omega)
  rintro m s H' ⟨q,out,h1,h3,h4,hrq,hbq,hdq,hm7,hol,hout,hmo,hpA⟩
  generalize hU:s 9=U at *
  generalize hW:s 2=W at *
  have hrH:=hr.pre (pA.trans hpA)
  have cH:=pre_at hpA cA
  have hfH:=hfv.pre (pA.trans hpA)
  obtain ⟨zq,hzq,hzql,hzqv⟩:=hat q hbq _ hdq
  have hcq:=hfH.cell hzql
  rw [hzqv] at hcq
  have hql:=hbq.2
  simp (maxSteps:=1000000) (disch:=omega) only [h1,h3,h4,hU,hW,SS,eq_self,reduceIte,reduceCtorEq,Nat.reduceEqDiff,Nat.reduceAdd]
  refine CallH.by (l9Code_c W q H' hrq (by omega)) ?_
  rintro _ _ ⟨rfl,rfl⟩
  rw [hzq]
  simp (maxSteps:=1000000) (disch:=omega) only [h1,h3,h4,hU,hW,hfH.ix Tryz.underlying27 cs3,Int.toNat_natCast,hcq,SS,eq_self,reduceIte,reduceCtorEq,Nat.reduceEqDiff,Nat.reduceAdd]
  refine brD.intro (fun g=>?_) (fun g=>?_)
  rotate_left
  . have hm0:m=0:=by omega
    subst hm0
    simp (maxSteps:=1000000) (disch:=omega) only [hU,SS,eq_self,reduceIte,reduceCtorEq,Nat.reduceEqDiff,Nat.reduceAdd]
    refine hQ _ _ _ ?_
    simp (maxSteps:=1000000) (disch:=omega) only [hU,hmo.row.tup,SS,eq_self,reduceIte,reduceCtorEq,Nat.reduceEqDiff,Nat.reduceAdd]
    have hout':out=(pthL S0 es sl d p).map (·.1):=by rw [<- hout];simp [pthL]
    rw [<- hout']
    exact ⟨hmo.base pA,pA.trans hpA⟩
  obtain ⟨m1,rfl⟩:∃ m1,m=m1+1:=⟨m - 1,by omega⟩
  have hf0:=fst1_some hn hg sl hp0 (b:=q) (d:=m1) (by rw [hS];exact hdq)
  rw [hS] at hf0
  obtain ⟨e1,hf1,hf2,hf3⟩:=hf0
  have hpth:(pthL S0 es sl (m1+1) q).map (·.1)=e1 :: (pthL S0 es sl m1 (swp q e1.1.toNat e1.2.toNat)).map (·.1):=by
    simp only [pthL,hf1,List.map_cons]
  rw [hpth] at hout
  have hidx:∃ i1,i1<(mvs es sl q).length/\(mvs es sl q).getD i1 (0,0)=e1/\∀ j,j<i1->bdD S0 (swp q ((mvs es sl q).getD j (0,0)).1.toNat ((mvs es sl q).getD j (0,0)).2.toNat) ≠ some (m1:Int):=by
    have hf1':(mvs es sl q).find? (fun e=>decide (bdD S0 (swp q e.1.toNat e.2.toNat)=some (m1:Int)))=some e1:=hf1
    rw [List.find?_eq_some_iff_getElem] at hf1'
    obtain ⟨_,i1,hi1,he1,hb1⟩:=hf1'
    refine ⟨i1,hi1,by simp [hi1,he1],fun j hj=>?_⟩
    have:=hb1 j hj
    have hjl:j<(mvs es sl q).length:=by omega
    have eg:(mvs es sl q).getD j (0,0)=(mvs es sl q)[j]:=by simp [hjl]
    rw [eg]
    simpa using this
  obtain ⟨i1,hi1,he1,hbef⟩:=hidx
  simp (maxSteps:=1000000) (disch:=omega) only [h1,h3,h4,hU,hW,ld_agg ag26 cs26 cH,SS,eq_self,reduceIte,reduceCtorEq,Nat.reduceEqDiff,Nat.reduceAdd]
  refine CallH.by (l9Next_c n v W es q sl H' hrH hlen hrq hg hbq) ?_
  rintro _ G ⟨L,M,rfl,hL,hM,pG⟩
  obtain ⟨us,hus,hul,heach⟩:=hL.parts
  have hnl:=nxt_len es sl q
  have hml:=mvs_len es sl q
  have hrM:=hM.row
  have hfG:=hfH.pre pG
  have hrqG:=hrq.pre pG
  have cGG:=pre_at pG cH
  have hNat:∀ i,i<(mvs es sl q).length->(nxt es sl q).getD i []=swp q ((mvs es sl q).getD i (0,0)).1.toNat ((mvs es sl q).getD i (0,0)).2.toNat:=by
    intro i hi
    unfold nxt
    rw [List.getD_eq_getElem?_getD,List.getElem?_map,List.getElem?_eq_getElem hi]
    simp [hi]
  have hknown:∀ i,i<(mvs es sl q).length->Bd n ((nxt es sl q).getD i [])/\∃ x,bdD S0 ((nxt es sl q).getD i [])=some x:=by
    intro i hi
    have hm:(nxt es sl q).getD i [] ∈ nxt es sl q:=by
      have:i<(nxt es sl q).length:=by omega
      simp [this]
    have hk:=bdR_known hn hg sl hp0 (b:=q) (d:=((m1+1:Nat):Int)) (by rw [hS];exact hdq) hm
    rw [hS] at hk
    obtain ⟨x,hx,_⟩:=hk
    exact ⟨nxt_bd hg sl hbq _ hm,x,hx⟩
  have hends:∀ i,i<(mvs es sl q).length->∃ a b:Nat,(mvs es sl q).getD i (0,0)=((a:Int),(b:Int))/\a<q.length:=by
    intro i hi
    have hm:(mvs es sl q).getD i (0,0) ∈ mvs es sl q:=by simp [hi]
    obtain ⟨q1,q2,q3⟩:=grd_mem hg (mvs_mem hm).1
    generalize (mvs es sl q).getD i (0,0)=e at *
    obtain ⟨x,y⟩:=e
    refine ⟨x.toNat,y.toNat,?_,?_⟩
    . simp only at q1 q2;rw [Int.toNat_of_nonneg q1,Int.toNat_of_nonneg (by omega)]
    . simp only at q1 q2 q3;omega
  simp (maxSteps:=1000000) (disch:=omega) only [h1,h3,h4,hU,hW,SS,eq_self,reduceIte,reduceCtorEq,Nat.reduceEqDiff,Nat.reduceAdd]
  refine LoopH.by (fun m' s' H2=>∃ i:Nat,m'+i=(mvs es sl q).length/\s' 1=fv/\s' 2=W/\s' 3=.bool sl/\s' 4=.pointer (some ⟨H.length,0,none⟩)/\s' 9=U/\s' 10=L/\s' 11=M/\s' 12=.int .i64 (if i<=i1 then -1 else (i1:Int))/\s' 13=.int .i64 ((i:Nat):Int)/\G<+:H2) (mvs es sl q).length ?_ ?_
  . refine ⟨0,by simp,?_⟩
    simp (maxSteps:=1000000) (disch:=omega) only [h1,h3,h4,hU,hW,SS,eq_self,reduceIte,reduceCtorEq,Nat.reduceEqDiff,Nat.reduceAdd]
    rw [if_pos (Nat.zero_le i1)]
    (repeat' first | exact List.prefix_refl _ | apply And.intro) <;> first | (simp only [Value.int.injEq,true_and];omega) | omega | rfl | assumption | (simp;done) | (simp;omega)
  . rintro m' s' H2 ⟨i,hm',k1,k2,k3,k4,k9,k10,k11,k12,k13,pH2⟩
    have hus2:=hus.pre pH2
    have hf2':=hfG.pre pH2
    have hq2:=hrqG.pre pH2
    have hrM2:=hrM.pre pH2
    simp (maxSteps:=1000000) (disch:=omega) only [k1,k2,k3,k4,k9,k10,k11,k12,k13,hus2.len Tryz.underlying36,hul,hnl,SS,eq_self,reduceIte,reduceCtorEq,Nat.reduceEqDiff,Nat.reduceAdd]
    refine brD.intro (fun g1=>?_) (fun g1=>?_)
    . have hi:i<(mvs es sl q).length:=by omega
      have hiN:i<(nxt es sl q).length:=by omega
      have hrow:=((heach i hiN).row.1).pre pH2
      have hcell:=hus2.cell (show i<us.length by omega)
      obtain ⟨hcb,x,hcx⟩:=hknown i hi
      have hni:=hNat i hi
      obtain ⟨a,b,hab,hal⟩:=hends i hi
      obtain ⟨a1,b1,hab1,hal1⟩:=hends i1 hi1
      have hno:=fun hij=>fstB_no hg hsl hbq (i:=i1) (j:=i) hij hi
      rw [hab,hab1] at hno
      have hldi:=hrM2.ld (P:=Tryz.prog) ag47 cs47 hi
      have hld1:=hrM2.ld (P:=Tryz.prog) ag47 cs47 hi1
      rw [hab] at hldi
      rw [hab1] at hld1
      have hbi:=hbef i
      rw [<- hni,hcx] at hbi
      have hx1:i=i1->x=(m1:Int):=fun e=>by
        rw [e] at hcx hni
        rw [hni,he1,hf3] at hcx
        simpa using hcx.symm
      obtain ⟨zc,hzc,hzcl,hzcv⟩:=hat _ hcb x hcx
      have hcc:=hf2'.cell hzcl
      rw [hzcv] at hcc
      have hcq2:=hf2'.cell hzql
      rw [hzqv] at hcq2
      generalize hc:(nxt es sl q).getD i []=c at *
      have hcl:=hcb.2
      have hm11:((m1+1:Nat):Int) - 1=(m1:Int):=by omega
      simp (maxSteps:=1000000) (disch:=omega) only [k1,k2,k3,k4,k9,k10,k11,k12,k13,hus2.ix Tryz.underlying36 cs27,hcell,Int.toNat_natCast,SS,eq_self,reduceIte,reduceCtorEq,Nat.reduceEqDiff,Nat.reduceAdd]
      refine CallH.by (l9Code_c _ c H2 hrow (by omega)) ?_
      rintro _ _ ⟨rfl,rfl⟩
      rw [hzc]
      simp (maxSteps:=1000000) (disch:=omega) only [k1,k2,k3,k4,k9,k10,k11,k12,k13,hf2'.ix Tryz.underlying27 cs3,Int.toNat_natCast,hcc,SS,eq_self,reduceIte,reduceCtorEq,Nat.reduceEqDiff,Nat.reduceAdd]
      refine CallH.by (l9Code_c W q H2 hq2 (by omega)) ?_
      rintro _ _ ⟨rfl,rfl⟩
      rw [hzq]
      simp (maxSteps:=1000000) (disch:=omega) only [k1,k2,k3,k4,k9,k10,k11,k12,k13,hf2'.ix Tryz.underlying27 cs3,Int.toNat_natCast,hcc,hcq2,hm11,wrap64,SS,eq_self,reduceIte,reduceCtorEq,Nat.reduceEqDiff,Nat.reduceAdd]
      by_cases e:x=(m1:Int)
      . simp (maxSteps:=1000000) (disch:=omega) only [decide_eq_true e,k1,k2,k3,k4,k9,k10,k11,k12,k13,SS,eq_self,reduceIte,reduceCtorEq,Nat.reduceEqDiff,Nat.reduceAdd]
        have hge:¬ i<i1:=fun h=>hbi h (by rw [e])
        by_cases e2:i=i1
        . have hif:(if i<=i1 then (-1:Int) else (i1:Int)) = -1:=if_pos (by omega)
          have hlt:((-1:Int)<0):=by decide
          simp (maxSteps:=1000000) (disch:=omega) only [hif,decide_eq_true hlt,k1,k2,k3,k4,k9,k10,k11,k12,k13,wrap64,SS,eq_self,reduceIte,reduceCtorEq,Nat.reduceEqDiff,Nat.reduceAdd]
          refine ⟨m' - 1,by omega,i+1,?_⟩
          have hif2:(if i+1<=i1 then (-1:Int) else (i1:Int))=(i:Int):=by rw [if_neg (by omega)];omega
          rw [hif2]
          (repeat' first | exact pH2 | apply And.intro) <;> first | (simp only [Value.int.injEq,true_and];omega) | omega | rfl | assumption | (simp;done) | (simp;omega)
        . have hif:(if i<=i1 then (-1:Int) else (i1:Int))=(i1:Int):=if_neg (by omega)
          have hlt:¬ ((i1:Int)<0):=by omega
          simp (maxSteps:=1000000) (disch:=omega) only [hif,decide_eq_false hlt,k1,k2,k3,k4,k9,k10,k11,k12,k13,hrM2.ix Tryz.underlying24 cs47,Int.toNat_natCast,hldi,hld1,SS,eq_self,reduceIte,reduceCtorEq,Nat.reduceEqDiff,Nat.reduceAdd]
          refine CallH.by (l9First_c sl W q a b a1 b1 H2 hq2 hal hal1) ?_
          rintro _ H3 ⟨rfl,p3⟩
          rw [hno (by omega)]
          have f1:=pH2.trans p3
          simp (maxSteps:=1000000) (disch:=omega) only [hif,decide_eq_false hlt,k1,k2,k3,k4,k9,k10,k11,k12,k13,wrap64,SS,eq_self,reduceIte,reduceCtorEq,Nat.reduceEqDiff,Nat.reduceAdd]
          refine ⟨m' - 1,by omega,i+1,?_⟩
          have hif2:(if i+1<=i1 then (-1:Int) else (i1:Int))=(i1:Int):=if_neg (by omega)
          rw [hif2]
          (repeat' first | exact f1 | apply And.intro) <;> first | (simp only [Value.int.injEq,true_and];omega) | omega | rfl | assumption | (simp;done) | (simp;omega)
      . have hne:i ≠ i1:=fun h=>e (hx1 h)
        simp (maxSteps:=1000000) (disch:=omega) only [decide_eq_false e,k1,k2,k3,k4,k9,k10,k11,k12,k13,wrap64,SS,eq_self,reduceIte,reduceCtorEq,Nat.reduceEqDiff,Nat.reduceAdd]
        refine ⟨m' - 1,by omega,i+1,?_⟩
        have hif2:(if i+1<=i1 then (-1:Int) else (i1:Int))=(if i<=i1 then (-1:Int) else (i1:Int)):=by
          by_cases h:i<=i1
          . rw [if_pos (by omega),if_pos h]
          . rw [if_neg (by omega),if_neg h]
        rw [hif2]
        (repeat' first | exact pH2 | apply And.intro) <;> first | (simp only [Value.int.injEq,true_and];omega) | omega | rfl | assumption | (simp;done) | (simp;omega)
    . have hi:i=(mvs es sl q).length:=by omega
      have hif:(if i<=i1 then (-1:Int) else (i1:Int))=(i1:Int):=if_neg (by omega)
      rw [hif] at k12
      have hld1:=hrM2.ld (P:=Tryz.prog) ag47 cs47 hi1
      rw [he1] at hld1
      have hi1N:i1<(nxt es sl q).length:=by omega
      have hcell0:=hus2.cell (show i1<us.length by omega)
      have hrow0:=((heach i1 hi1N).row.1).pre pH2
      have hni:=hNat i1 hi1
      rw [he1] at hni
      rw [hni] at hrow0
      have hcb0:=(hknown i1 hi1).1
      rw [hni] at hcb0
      have hmo2:=hmo.pre (pG.trans pH2)
      have hpA2:=hpA.trans (pG.trans pH2)
      obtain ⟨U',H4,j1,j2,j3,j4,j5,j6⟩:=own1_24 hmo2 hpA2 (by omega) e1.1 e1.2
      have hL4:=heach i1 hi1N
      have hus4:RowV 27 H4 L us:=by
        rcases hmo2 with g5 | ⟨oo,zs,g5,g6,g7,g8⟩
        . exact hus2.mono fun y hy=>j4 _ _ (.inl g5.1) hy
        . refine hus2.mono fun y hy=>j4 _ _ (.inr ?_) hy
          rw [g5]
          show rowO L ≠ oo
          intro e
          rcases hus2 with h5 | ⟨o5,k5,vs5,ro5,h5,h6,_⟩
          . have:(nxt es sl q).length=0:=by rw [<- hul,h5.2];rfl
            omega
          . rw [h5] at e
            have e':o5=oo:=e
            rw [e',g7] at h6
            simp only [Option.some.injEq,AObj.cells.injEq] at h6
            exact absurd h6.2.1 (by decide)
      have hcell4:=hus4.cell (show i1<us.length by omega)
      have f1:=hrow0.keptPr hmo2 j4
      have f3:out ++ [e1] ++ (pthL S0 es sl m1 (swp q e1.1.toNat e1.2.toNat)).map (·.1)=(pthL S0 es sl d p).map (·.1):=by
        rw [<- hout,List.append_assoc];rfl
      have f4:(out ++ [e1]).length+m1=d:=by rw [List.length_append];simp;omega
      simp (maxSteps:=1000000) (disch:=omega) only [k1,k2,k3,k4,k9,k10,k11,k12,k13,hrM2.ix Tryz.underlying24 cs47,Int.toNat_natCast,hld1,j1,hus4.ix Tryz.underlying36 cs27,hcell4,SS,eq_self,reduceIte,reduceCtorEq,Nat.reduceEqDiff,Nat.reduceAdd]
      refine ⟨m1,by omega,swp q e1.1.toNat e1.2.toNat,out ++ [e1],?_⟩
      (repeat' first | exact f1 | exact hcb0 | exact hf3 | exact f4 | exact f3 | exact j2 | exact j3 | apply And.intro) <;> first | (simp only [Value.int.injEq,true_and];omega) | omega | rfl | assumption | (simp;done) | (simp;omega)
theorem TkS_c (n:Int)(v w:Value)(es:List (Int × Int))(p:List Int)(H:AH)(hr:RowP 47 H v es)(hlen:es.length<=1099511627776)(hes:∀ y ∈ es,I64 y.1/\I64 y.2)(hx:Row 3 H w p)(hlp:p.length<=1099511627776)(hxs:∀ y ∈ p,I64 y)(hn:I64 n) :
    ACalls Tryz.prog 9 [.agg (List.toArray [.int .i64 n,v]),w] H fun r H'=>∃ g,r=.tuple (List.toArray [g,.bool (tkD n es p).isSome])/\MineP 47 H H' g (tkL n es p)/\H<+:H':=by
  refine in9 rfl ?_
  intro Q hQ
  simp (disch:=omega) only [cd9,hr.boxG,SS,eq_self,reduceIte,reduceCtorEq,Nat.reduceEqDiff,Nat.reduceAdd]
  generalize hA:H ++ [AObj.cells [.int .i64 n,v] 26 false]=A
  have pA:H<+:A:=by rw [<- hA];exact List.prefix_append _ _
  have cA:A[H.length]?=some (.cells [.int .i64 n,v] 26 false):=by rw [<- hA];exact at_new ..
  have rA:=hr.pre pA
  simp (disch:=omega) only [ld_agg ag26 cs26 cA,SS,eq_self,reduceIte,reduceCtorEq,Nat.reduceEqDiff,Nat.reduceAdd]
  refine CallH.by (l9Field_c n v w es p A rA hlen (hx.pre pA) hlp) ?_
  rintro _ B ⟨rfl,pB⟩
  have cB:=pre_at pB cA
  have pHB:=pA.trans pB
  have rB:=rA.pre pB
  have no:tkD n es p=none->∀ K:AH,H<+:K->∃ g,(Value.tuple (List.toArray [.slice (some ⟨K.length,0,none⟩) 0 0,.bool false]))=.tuple (List.toArray [g,.bool (tkD n es p).isSome])/\MineP 47 H (K ++ [.cells [] 47 false]) g (tkL n es p)/\H<+:K ++ [.cells [] 47 false]:=fun h K hK=>⟨_,by rw [h];rfl,by
    have:tkL n es p=[]:=by unfold tkL;rw [h]
    rw [this];exact MineP.nil0 (P:=Tryz.prog) H K hK.length_le,pre_app hK _⟩
  simp (disch:=omega) only [SS,eq_self,reduceIte,reduceCtorEq,Nat.reduceEqDiff,Nat.reduceAdd]
  refine brD.intro (fun e=>?_) (fun e=>?_) <;> simp (disch:=omega) only [e,SS,eq_self,reduceIte,reduceCtorEq,Nat.reduceEqDiff,Nat.reduceAdd]
  rotate_left
  . refine hQ _ _ _ ?_
    simp (disch:=omega) only [SS,eq_self,reduceIte,reduceCtorEq,Nat.reduceEqDiff,Nat.reduceAdd]
    exact no (by unfold tkD;rw [if_neg e]) B pHB
  have hD0:tkD n es p=bdD (tkS n.toNat es) p:=by unfold tkD;rw [if_pos e]
  obtain ⟨k,rfl,hg,hb,h6⟩:=fld_bd e
  rw [Int.toNat_natCast] at hD0
  have hl:=grd_few hg
  have hhb:=hom_bd (n:=k) (by omega)
  simp (disch:=omega) only [cell_of cB,ld_agg ag26 cs26 cB,SS,eq_self,reduceIte,reduceCtorEq,Nat.reduceEqDiff,Nat.reduceAdd]
  refine CallH.by (l9Home_c k B (by omega)) ?_
  rintro u C ⟨hu,pC⟩
  have cC:=pre_at pC cB
  have rC:=rB.pre pC
  simp (disch:=omega) only [ld_agg ag26 cs26 cC,SS,eq_self,reduceIte,reduceCtorEq,Nat.reduceEqDiff,Nat.reduceAdd]
  refine CallH.by (l9Spread_c k v u es (hom k) false C rC (by omega) hu.row hg hhb h6) ?_
  rintro f D ⟨hf,pD⟩
  have pHD:=pHB.trans (pC.trans pD)
  have hxD:=hx.pre pHD
  have cD:=pre_at pD cC
  have rD:=rC.pre pD
  have hI:=bdR_I h6 hg false hhb
  obtain ⟨zp,hzp,hzpl⟩:=cod_nat h6 hb
  have hat:=spL_at h6 hb hI.ok
  have hS:bdR es false (hom k)=tkS k es:=rfl
  rw [hzp,Int.toNat_natCast,hS,<- hD0] at hat
  have hfr:=hf.row
  have hcz:=hfr.cell (show zp<(spL (mny k) (bdR es false (hom k))).length by rw [spL_len];exact hzpl)
  rw [hS,hat] at hcz
  have hslen:=spL_len (mny k) (bdR es false (hom k))
  have hpl:=hb.2
  simp (disch:=omega) only [SS,eq_self,reduceIte,reduceCtorEq,Nat.reduceEqDiff,Nat.reduceAdd]
  refine CallH.by (l9Code_c w p D hxD (by omega)) ?_
  rintro _ _ ⟨rfl,rfl⟩
  rw [hzp]
  simp (disch:=omega) only [hfr.ix Tryz.underlying27 cs3,Int.toNat_natCast,hcz,SS,eq_self,reduceIte,reduceCtorEq,Nat.reduceEqDiff,Nat.reduceAdd]
  cases hd:tkD (k:Int) es p with
  | none =>
    rw [hd] at no
    have hlt:((-1:Int)<0):=by decide
    simp (disch:=omega) only [Option.getD_none,decide_eq_true hlt,SS,eq_self,reduceIte,reduceCtorEq,Nat.reduceEqDiff,Nat.reduceAdd]
    refine hQ _ _ _ ?_
    simp (disch:=omega) only [SS,eq_self,reduceIte,reduceCtorEq,Nat.reduceEqDiff,Nat.reduceAdd]
    rw [hd]
    exact no rfl D pHD
  | some x =>
  obtain ⟨hd0,hd7⟩:=tkD_rng hd
  have hK:tkL (k:Int) es p=(pthL (tkS k es) es false x.toNat p).map (·.1):=by unfold tkL;rw [hd];simp only [Int.toNat_natCast]
  have hnlt:¬ (x<0):=by omega
  rw [hd] at hD0
  simp (disch:=omega) only [Option.getD_some,decide_eq_false hnlt,ld_agg ag26 cs26 cD,SS,eq_self,reduceIte,reduceCtorEq,Nat.reduceEqDiff,Nat.reduceAdd]
  refine CallH.by (l9Steps_c k v f w es (hom k) p false x.toNat D rD (by omega) hxD hg hhb hb h6 (fun h=>by cases h) hfr (by rw [hS,Int.toNat_of_nonneg hd0];exact hD0.symm) (by omega)) ?_
  rintro g E ⟨hgE,pE⟩
  simp (disch:=omega) only [SS,eq_self,reduceIte,reduceCtorEq,Nat.reduceEqDiff,Nat.reduceAdd]
  refine hQ _ _ _ ?_
  simp (disch:=omega) only [hgE.row.tup,SS,eq_self,reduceIte,reduceCtorEq,Nat.reduceEqDiff,Nat.reduceAdd]
  rw [hd,hK]
  exact ⟨g,rfl,hgE.base pHD,pHD.trans pE⟩
theorem TkDS_c (n:Int)(v w:Value)(es:List (Int × Int))(p:List Int)(H:AH)(hr:RowP 47 H v es)(hlen:es.length<=1099511627776)(hes:∀ y ∈ es,I64 y.1/\I64 y.2)(hx:Row 3 H w p)(hlp:p.length<=1099511627776)(hxs:∀ y ∈ p,I64 y)(hn:I64 n) :
    ACalls Tryz.prog 11 [.agg (List.toArray [.int .i64 n,v]),w] H fun r H'=>r=.tuple (List.toArray [.int .i64 ((tkD n es p).getD 0),.bool (tkD n es p).isSome])/\H<+:H':=by
  refine in11 rfl ?_
  intro Q hQ
  simp (disch:=omega) only [cd11,hr.boxG,SS,eq_self,reduceIte,reduceCtorEq,Nat.reduceEqDiff,Nat.reduceAdd]
  generalize hA:H ++ [AObj.cells [.int .i64 n,v] 26 false]=A
  have pA:H<+:A:=by rw [<- hA];exact List.prefix_append _ _
  have cA:A[H.length]?=some (.cells [.int .i64 n,v] 26 false):=by rw [<- hA];exact at_new ..
  have rA:=hr.pre pA
  simp (disch:=omega) only [ld_agg ag26 cs26 cA,SS,eq_self,reduceIte,reduceCtorEq,Nat.reduceEqDiff,Nat.reduceAdd]
  refine CallH.by (l9Field_c n v w es p A rA hlen (hx.pre pA) hlp) ?_
  rintro _ B ⟨rfl,pB⟩
  have cB:=pre_at pB cA
  have pHB:=pA.trans pB
  have rB:=rA.pre pB
  simp (disch:=omega) only [SS,eq_self,reduceIte,reduceCtorEq,Nat.reduceEqDiff,Nat.reduceAdd]
  refine brD.intro (fun e=>?_) (fun e=>?_) <;> simp (disch:=omega) only [e,SS,eq_self,reduceIte,reduceCtorEq,Nat.reduceEqDiff,Nat.reduceAdd]
  rotate_left
  . refine hQ _ _ _ ?_
    simp (disch:=omega) only [SS,eq_self,reduceIte,reduceCtorEq,Nat.reduceEqDiff,Nat.reduceAdd]
    have:tkD n es p=none:=by unfold tkD;rw [if_neg e]
    rw [this]
    exact ⟨rfl,pHB⟩
  have hD0:tkD n es p=bdD (tkS n.toNat es) p:=by unfold tkD;rw [if_pos e]
  obtain ⟨k,rfl,hg,hb,h6⟩:=fld_bd e
  rw [Int.toNat_natCast] at hD0
  have hl:=grd_few hg
  have hhb:=hom_bd (n:=k) (by omega)
  simp (disch:=omega) only [cell_of cB,ld_agg ag26 cs26 cB,SS,eq_self,reduceIte,reduceCtorEq,Nat.reduceEqDiff,Nat.reduceAdd]
  refine CallH.by (l9Home_c k B (by omega)) ?_
  rintro u C ⟨hu,pC⟩
  have cC:=pre_at pC cB
  have rC:=rB.pre pC
  simp (disch:=omega) only [ld_agg ag26 cs26 cC,SS,eq_self,reduceIte,reduceCtorEq,Nat.reduceEqDiff,Nat.reduceAdd]
  refine CallH.by (l9Spread_c k v u es (hom k) false C rC (by omega) hu.row hg hhb h6) ?_
  rintro f D ⟨hf,pD⟩
  have pHD:=pHB.trans (pC.trans pD)
  have hxD:=hx.pre pHD
  have hI:=bdR_I h6 hg false hhb
  obtain ⟨zp,hzp,hzpl⟩:=cod_nat h6 hb
  have hat:=spL_at h6 hb hI.ok
  have hS:bdR es false (hom k)=tkS k es:=rfl
  rw [hzp,Int.toNat_natCast,hS,<- hD0] at hat
  have hfr:=hf.row
  have hcz:=hfr.cell (show zp<(spL (mny k) (bdR es false (hom k))).length by rw [spL_len];exact hzpl)
  rw [hS,hat] at hcz
  have hslen:=spL_len (mny k) (bdR es false (hom k))
  have hpl:=hb.2
  simp (disch:=omega) only [SS,eq_self,reduceIte,reduceCtorEq,Nat.reduceEqDiff,Nat.reduceAdd]
  refine CallH.by (l9Code_c w p D hxD (by omega)) ?_
  rintro _ _ ⟨rfl,rfl⟩
  rw [hzp]
  simp (disch:=omega) only [hfr.ix Tryz.underlying27 cs3,Int.toNat_natCast,hcz,SS,eq_self,reduceIte,reduceCtorEq,Nat.reduceEqDiff,Nat.reduceAdd]
  refine CallH.by (l9Told_c _ D) ?_
  rintro _ _ ⟨rfl,rfl⟩
  simp (disch:=omega) only [SS,eq_self,reduceIte,reduceCtorEq,Nat.reduceEqDiff,Nat.reduceAdd]
  refine hQ _ _ _ ?_
  simp (disch:=omega) only [SS,eq_self,reduceIte,reduceCtorEq,Nat.reduceEqDiff,Nat.reduceAdd]
  refine ⟨?_,pHD⟩
  cases hd:tkD (k:Int) es p with
  | none=>rfl
  | some x =>
    obtain ⟨hd0,hd7⟩:=tkD_rng hd
    simp only [Option.getD_some,Option.isSome_some]
    rw [decide_eq_true hd0]
    by_cases hx0:0<x
    . rw [if_pos hx0]
    . rw [if_neg hx0]
      have:x=0:=by omega
      rw [this]
inductive Eqp (p:List Int):Nat->Nat->Prop
  | refl (x:Nat):Eqp p x x
  | edge (x:Nat) (h:x<p.length):Eqp p x (p.getD x 0).toNat
  | symm {x y:Nat} (h:Eqp p x y):Eqp p y x
  | trans {x y z:Nat} (h1:Eqp p x y) (h2:Eqp p y z):Eqp p x z
def Mn (R:Nat->Nat->Prop)(x:Nat):Prop:=∀ y,R x y->x<=y
open Classical in
noncomputable def cls (R:Nat->Nat->Prop)(n:Nat):Nat:=(List.range n).countP fun x=>decide (Mn R x)
theorem least_of {P:Nat->Prop}:∀ n,P n->∃ m,P m/\∀ k,P k->m<=k:=by
  intro n
  induction n using Nat.strongRecOn with
  | ind n ih =>
    intro h
    by_cases q:∃ k,k<n/\P k
    . obtain ⟨k,k1,k2⟩:=q
      exact ih k k1 k2
    . exact ⟨n,h,fun k hk=>Nat.le_of_not_lt fun g=>q ⟨k,g,hk⟩⟩
theorem eqp_in {p:List Int}(hp:Prm p){x y:Nat}(h:Eqp p x y):x<p.length↔y<p.length:=by
  induction h with
  | refl=>exact Iff.rfl
  | edge x h=>have:=(prm_range hp).1 x h;exact ⟨fun _=>by omega,fun _=>h⟩
  | symm _ ih=>exact ih.symm
  | trans _ _ i1 i2=>exact i1.trans i2
theorem way_ex {p:List Int}(hp:Prm p){x:Nat}(hx:x<p.length):∃ c,Way p (x:Int) c (x:Int):=by
  have key:∀ (m:Nat) (c:List Int) (y:Int),c.length+m=p.length+1->Way p (x:Int) c y->∃ c,Way p (x:Int) c (x:Int):=by
    intro m
    induction m with
    | zero=>intro c y hm hw;have:=hw.len;omega
    | succ m ih =>
      intro c y hm hw
      by_cases e:y=x
      . subst e;exact ⟨c,hw⟩
      . exact ih (c ++ [y]) _ (by simp;omega) (hw.next hp e)
  exact key p.length [(x:Int)] _ (by simp;omega) (Way.first hp hx)
theorem way_cls {p:List Int}(hp:Prm p){x:Nat}(hx:x<p.length){c:List Int}(hw:Way p (x:Int) c (x:Int))(z:Nat):(z:Int) ∈ c↔Eqp p x z:=by
  have hl:=hw.len
  have hsh:=hw.shut hp (s:=[]) ⟨fun z hz=>by simp at hz,fun z _ h=>by simp at h⟩
  rw [List.nil_append] at hsh
  have hfw:∀ z:Nat,(z:Int) ∈ c->p.getD z 0 ∈ c:=by
    intro z hz
    obtain ⟨i,hi,e⟩:=pos_ex hz
    by_cases q:i+1<c.length
    . have:=hw.step i q
      rw [e,Int.toNat_natCast] at this
      rw [<- this];exact getD_mem q
    . have hi':i=c.length - 1:=by omega
      have:=hw.last
      rw [<- hi',e,Int.toNat_natCast] at this
      rw [<- this,<- hw.head];exact getD_mem (by omega)
  have hx0:(x:Int) ∈ c:=by rw [<- hw.head];exact getD_mem (by omega)
  constructor
  . intro hz
    obtain ⟨i,hi,e⟩:=pos_ex hz
    have key:∀ i,i<c.length->∀ z:Nat,c.getD i 0=z->Eqp p x z:=by
      intro i
      induction i with
      | zero =>
        intro _ z e
        rw [hw.head] at e
        have:x=z:=by omega
        subst this;exact .refl _
      | succ i ih =>
        intro hi z e
        have r:=hw.rng _ (getD_mem (show i<c.length by omega))
        have h1:=ih (by omega) (c.getD i 0).toNat (by omega)
        have h2:=hw.step i hi
        rw [e] at h2
        have h3:=Eqp.edge (p:=p) (c.getD i 0).toNat (by omega)
        rw [<- h2,Int.toNat_natCast] at h3
        exact h1.trans h3
    exact key i hi z e
  . intro h
    have both:∀ {u v:Nat},Eqp p u v->u<p.length->((u:Int) ∈ c↔(v:Int) ∈ c):=by
      intro u v h
      induction h with
      | refl=>intro _;exact Iff.rfl
      | edge u hu =>
        intro _
        have r:=(prm_range hp).1 u hu
        have e:(((p.getD u 0).toNat:Nat):Int)=p.getD u 0:=by omega
        rw [e]
        exact ⟨hfw u,hsh.2 u hu⟩
      | symm h ih=>intro hv;exact (ih ((eqp_in hp h).2 hv)).symm
      | trans h1 h2 i1 i2=>intro hu;exact (i1 hu).trans (i2 ((eqp_in hp h1).1 hu))
    exact (both h hx).1 hx0
theorem cyc_cls {p:List Int}(hp:Prm p){x:Nat}(hx:x<p.length)(z:Nat):(z:Int) ∈ cycC p x↔Eqp p x z:=by
  obtain ⟨c,hw⟩:=way_ex hp hx
  rw [<- hw.done]
  exact way_cls hp hx hw z
theorem seen_cls {p:List Int}(hp:Prm p):∀ k,k<=p.length->∀ z:Nat,(z:Int) ∈ (cycSt p k).2↔∃ j,j<k/\Eqp p j z
  | 0,_,z=>by simp [cycSt]
  | k+1,hk,z=>by
    have ih:=seen_cls hp k (by omega)
    simp only [cycSt]
    split
    . rename_i h
      rw [ih z]
      constructor
      . rintro ⟨j,j1,j2⟩;exact ⟨j,by omega,j2⟩
      . rintro ⟨j,j1,j2⟩
        by_cases e:j=k
        . subst e
          obtain ⟨i,i1,i2⟩:=(ih j).1 h
          exact ⟨i,i1,i2.trans j2⟩
        . exact ⟨j,by omega,j2⟩
    . show (z:Int) ∈ (cycSt p k).2 ++ cycC p k↔_
      rw [List.mem_append,ih z,cyc_cls hp (by omega)]
      constructor
      . rintro (⟨j,j1,j2⟩ | h)
        . exact ⟨j,by omega,j2⟩
        . exact ⟨k,by omega,h⟩
      . rintro ⟨j,j1,j2⟩
        by_cases e:j=k
        . subst e;exact .inr j2
        . exact .inl ⟨j,by omega,j2⟩
theorem cyc_cnt {p:List Int}(hp:Prm p):∀ k,k<=p.length->(cycSt p k).1.length=cls (Eqp p) k
  | 0,_=>by simp [cycSt,cls]
  | k+1,hk=>by
    have ih:=cyc_cnt hp k (by omega)
    have hs:=seen_cls hp k (by omega) k
    have hM:Mn (Eqp p) k↔¬ ((k:Int) ∈ (cycSt p k).2):=by
      rw [hs]
      constructor
      . rintro h ⟨j,j1,j2⟩
        have:=h j j2.symm;omega
      . intro h y hy
        exact Nat.le_of_not_lt fun g=>h ⟨y,g,hy.symm⟩
    unfold cls at *
    rw [List.range_succ,List.countP_append,List.countP_cons,List.countP_nil]
    simp only [cycSt]
    split
    . rename_i h
      have hn:¬ Mn (Eqp p) k:=fun q=>(hM.1 q) h
      rw [ih]
      simp [hn]
    . rename_i h
      have hy:Mn (Eqp p) k:=hM.2 h
      simp only [List.length_append,List.length_cons,List.length_nil,ih]
      simp [hy]
theorem cls_join {R R':Nat->Nat->Prop}{n a b:Nat}(h0:∀ x,R x x)(h1:∀ {x y},R x y->R y x)(h2:∀ {x y z},R x y->R y z->R x z)
    (hJ:∀ {u v},R' u v->R u v∨(R u a/\R b v)∨(R u b/\R a v)):cls R n<=cls R' n+1:=by
  obtain ⟨ma,a1,a2⟩:=least_of (P:=fun x=>R a x) a (h0 a)
  obtain ⟨mb,b1,b2⟩:=least_of (P:=fun x=>R b x) b (h0 b)
  have key:∀ x,Mn R x->x ≠ max ma mb->Mn R' x:=by
    intro x hx hne y hy
    rcases hJ hy with g | ⟨g1,g2⟩ | ⟨g1,g2⟩
    . exact hx y g
    . have e:x=ma:=Nat.le_antisymm (hx ma (h2 g1 a1)) (a2 x (h1 g1))
      have:=b2 y g2
      omega
    . have e:x=mb:=Nat.le_antisymm (hx mb (h2 g1 b1)) (b2 x (h1 g1))
      have:=a2 y g2
      omega
  unfold cls
  have:∀ l:List Nat,l.Nodup->l.countP (fun x=>@decide (Mn R x) (Classical.propDecidable _))<=l.countP (fun x=>@decide (Mn R' x) (Classical.propDecidable _))+(if max ma mb ∈ l then 1 else 0):=by
    intro l
    induction l with
    | nil=>intro _;simp
    | cons x l ih =>
      intro hn
      have hn':=List.nodup_cons.1 hn
      have ih:=ih hn'.2
      rw [List.countP_cons,List.countP_cons]
      by_cases e:x=max ma mb
      . have hnot:max ma mb ∉ l:=by rw [<- e];exact hn'.1
        rw [if_neg hnot] at ih
        rw [if_pos (show max ma mb ∈ x :: l by rw [<- e];simp)]
        split <;> split <;> omega
      . have hiff:(max ma mb ∈ x :: l)=(max ma mb ∈ l):=by
          rw [List.mem_cons];exact propext ⟨fun h=>h.resolve_left (fun q=>e q.symm),.inr⟩
        simp only [hiff]
        by_cases hx:Mn R x
        . have hy:=key x hx e
          have d1:@decide (Mn R x) (Classical.propDecidable _)=true:=by simpa using hx
          have d2:@decide (Mn R' x) (Classical.propDecidable _)=true:=by simpa using hy
          rw [if_pos d1,if_pos d2];omega
        . have d1:¬ @decide (Mn R x) (Classical.propDecidable _)=true:=by simpa using hx
          rw [if_neg d1]
          split <;> omega
  have h:=this (List.range n) List.nodup_range
  split at h <;> omega
theorem cls_more {R R':Nat->Nat->Prop}{n m:Nat}(hm:m<n)(h:∀ x,Mn R x->Mn R' x)(h1:Mn R' m)(h2:¬ Mn R m):cls R n+1<=cls R' n:=by
  unfold cls
  have:∀ l:List Nat,l.countP (fun x=>@decide (Mn R x) (Classical.propDecidable _))+(if m ∈ l then 1 else 0)<=l.countP (fun x=>@decide (Mn R' x) (Classical.propDecidable _)):=by
    intro l
    induction l with
    | nil=>simp
    | cons x l ih =>
      rw [List.countP_cons,List.countP_cons]
      by_cases e:x=m
      . subst e
        have d1:¬ @decide (Mn R x) (Classical.propDecidable _)=true:=by simpa using h2
        have d2:@decide (Mn R' x) (Classical.propDecidable _)=true:=by simpa using h1
        rw [if_neg d1,if_pos d2,if_pos (by simp)]
        split at ih <;> omega
      . have hiff:(m ∈ x :: l)=(m ∈ l):=by
          rw [List.mem_cons];exact propext ⟨fun h=>h.resolve_left (fun q=>e q.symm),.inr⟩
        simp only [hiff]
        by_cases hx:Mn R x
        . have hy:=h x hx
          have d1:@decide (Mn R x) (Classical.propDecidable _)=true:=by simpa using hx
          have d2:@decide (Mn R' x) (Classical.propDecidable _)=true:=by simpa using hy
          rw [if_pos d1,if_pos d2];omega
        . have d1:¬ @decide (Mn R x) (Classical.propDecidable _)=true:=by simpa using hx
          rw [if_neg d1]
          omega
  have h:=this (List.range n)
  rw [if_pos (List.mem_range.2 hm)] at h
  exact h
theorem swp_join {p:List Int}{a b:Nat}(ha:a<p.length)(hb:b<p.length){u v:Nat}(h:Eqp (swp p a b) u v):Eqp p u v∨(Eqp p u a/\Eqp p b v)∨(Eqp p u b/\Eqp p a v):=by
  induction h with
  | refl x=>exact .inl (.refl x)
  | edge x hx =>
    rw [swp_len] at hx
    rw [swp_at p a b x ha hb hx]
    by_cases e1:x=b
    . rw [if_pos e1];subst e1;exact .inr (.inr ⟨.refl _,.edge a ha⟩)
    . rw [if_neg e1]
      by_cases e2:x=a
      . rw [if_pos e2];subst e2;exact .inr (.inl ⟨.refl _,.edge b hb⟩)
      . rw [if_neg e2];exact .inl (.edge x hx)
  | symm _ ih =>
    rcases ih with g | ⟨g1,g2⟩ | ⟨g1,g2⟩
    . exact .inl g.symm
    . exact .inr (.inr ⟨g2.symm,g1.symm⟩)
    . exact .inr (.inl ⟨g2.symm,g1.symm⟩)
  | trans _ _ i1 i2 =>
    rcases i1 with g | ⟨g1,g2⟩ | ⟨g1,g2⟩ <;> rcases i2 with k | ⟨k1,k2⟩ | ⟨k1,k2⟩
    . exact .inl (g.trans k)
    . exact .inr (.inl ⟨g.trans k1,k2⟩)
    . exact .inr (.inr ⟨g.trans k1,k2⟩)
    . exact .inr (.inl ⟨g1,g2.trans k⟩)
    . exact .inr (.inl ⟨g1,k2⟩)
    . exact .inl (g1.trans k2)
    . exact .inr (.inr ⟨g1,g2.trans k⟩)
    . exact .inl (g1.trans k2)
    . exact .inr (.inr ⟨g1,k2⟩)
theorem cls_swp {p:List Int}{a b:Nat}(ha:a<p.length)(hb:b<p.length):cls (Eqp p) p.length<=cls (Eqp (swp p a b)) p.length+1 :=
  cls_join (a:=a) (b:=b) .refl .symm .trans (swp_join ha hb)
def cyN (p:List Int):Nat:=(cycSt p p.length).1.length
theorem cyN_cls {p:List Int}(hp:Prm p):cyN p=cls (Eqp p) p.length:=cyc_cnt hp _ (Nat.le_refl _)
theorem cyN_swp {p:List Int}(hp:Prm p){a b:Nat}(ha:a<p.length)(hb:b<p.length):cyN p<=cyN (swp p a b)+1:=by
  rw [cyN_cls hp,cyN_cls (swp_prm hp ha hb),swp_len]
  exact cls_swp ha hb
theorem swp_swp {p:List Int}{a b:Nat}(ha:a<p.length)(hb:b<p.length):swp (swp p a b) a b=p:=by
  refine List.ext_getElem (by rw [swp_len,swp_len]) fun k h1 h2=>?_
  have hk:k<p.length:=h2
  have e1:=swp_at (swp p a b) a b k (by rw [swp_len];exact ha) (by rw [swp_len];exact hb) (by rw [swp_len];exact hk)
  have ea:=swp_at p a b a ha hb ha
  have eb:=swp_at p a b b ha hb hb
  have ek:=swp_at p a b k ha hb hk
  rw [ea,eb,ek] at e1
  have e2:(swp (swp p a b) a b).getD k 0=(swp (swp p a b) a b)[k]:=by simp [h1]
  have e3:p.getD k 0=p[k]:=by simp [hk]
  rw [e2] at e1
  rw [e1,<- e3]
  by_cases q1:k=b <;> by_cases q2:k=a <;> by_cases q3:a=b <;> simp_all
theorem cyN_home {q:List Int}(hq:Prm q){x i:Nat}(hx:x<q.length)(hi:i<q.length)(hxi:x<i)(hfix:∀ y,y<x->q.getD y 0=y)(h:q.getD i 0=x):cyN (swp q x i)=cyN q+1:=by
  have hq':=swp_prm hq hx hi
  have up:cyN (swp q x i)<=cyN q+1:=by
    have:=cyN_swp hq' (a:=x) (b:=i) (by rw [swp_len];exact hx) (by rw [swp_len];exact hi)
    rwa [swp_swp hx hi] at this
  have dn:cyN q+1<=cyN (swp q x i):=by
    rw [cyN_cls hq,cyN_cls hq',swp_len]
    have hinj:=(prm_range hq').2
    rw [swp_len] at hinj
    have hxx:(swp q x i).getD x 0=x:=by rw [swp_at q x i x hx hi hx,if_neg (by omega),if_pos rfl,h]
    have alone:∀ {u v:Nat},Eqp (swp q x i) u v->u<q.length->(u=x↔v=x):=by
      intro u v hu
      induction hu with
      | refl=>intro _;exact Iff.rfl
      | edge u hu =>
        intro hul
        have r:=(prm_range hq').1 u hu
        constructor
        . rintro rfl;rw [hxx];simp
        . intro e
          have e2:(swp q x i).getD u 0=(swp q x i).getD x 0:=by rw [hxx];omega
          exact hinj u x hul hx e2
      | symm h ih =>
        intro hv
        exact (ih (by have:=(eqp_in hq' h).2 (by rw [swp_len];exact hv);rwa [swp_len] at this)).symm
      | trans h1 h2 i1 i2 =>
        intro hu
        exact (i1 hu).trans (i2 (by have:=(eqp_in hq' h1).1 (by rw [swp_len];exact hu);rwa [swp_len] at this))
    have sub:∀ {u v:Nat},Eqp (swp q x i) u v->Eqp q u v:=by
      have hix:Eqp q i x:=by have:=Eqp.edge (p:=q) i hi;rwa [h,Int.toNat_natCast] at this
      intro u v hu
      rcases swp_join hx hi hu with g | ⟨g1,g2⟩ | ⟨g1,g2⟩
      . exact g
      . exact g1.trans (hix.symm.trans g2)
      . exact g1.trans (hix.trans g2)
    have low:∀ {u v:Nat},Eqp q u v->u<q.length->(u<x∨v<x)->u=v:=by
      intro u v hu
      induction hu with
      | refl=>intro _ _;rfl
      | edge u hu =>
        intro _ g
        have r:=(prm_range hq).1 u hu
        rcases g with g | g
        . rw [hfix u g];simp
        . have hf:=hfix (q.getD u 0).toNat g
          have:u=(q.getD u 0).toNat:=(prm_range hq).2 u _ hu (by omega) (by rw [hf];omega)
          exact this
      | symm h ih =>
        intro hv g
        exact (ih ((eqp_in hq h).2 hv) g.symm).symm
      | @trans u w v h1 h2 i1 i2 =>
        intro hu g
        have hw:=(eqp_in hq h1).1 hu
        rcases g with g | g
        . have e:=i1 hu (.inl g)
          subst e
          exact i2 hw (.inl g)
        . have e:=i2 hw (.inr g)
          subst e
          exact i1 hu (.inr g)
    obtain ⟨m,m1,m2⟩:=least_of (P:=fun y=>Eqp (swp q x i) i y) i (.refl i)
    have mx:m ≠ x:=fun e=>by
      have:=(alone m1 hi).2 e
      omega
    have ml:m<q.length:=by have:=(eqp_in hq' m1).1 (by rw [swp_len];exact hi);rwa [swp_len] at this
    have hxm:Eqp q x m:=by
      have hix:Eqp q i x:=by have:=Eqp.edge (p:=q) i hi;rwa [h,Int.toNat_natCast] at this
      exact hix.symm.trans (sub m1)
    refine cls_more ml (fun y hy z hz=>hy z (sub hz)) (fun y hy=>m2 y (m1.trans hy)) fun hmn=>?_
    have hge:x<=m:=Nat.le_of_not_lt fun g=>mx (low hxm hx (.inr g)).symm
    have:=hmn x hxm.symm
    omega
  omega
def ltC (u:Int)(m:List Int):Nat:=m.countP fun y=>decide (y<u)
def gtC (v:Int)(m:List Int):Nat:=m.countP fun y=>decide (v<y)
def invL:List Int->Nat
  | []=>0
  | x :: xs=>ltC x xs+invL xs
def crs2 (l m:List Int):Nat:=(l.map fun x=>ltC x m).sum
theorem ltC_app (u:Int)(l m:List Int):ltC u (l ++ m)=ltC u l+ltC u m:=List.countP_append
theorem invL_app:∀ l m:List Int,invL (l ++ m)=invL l+invL m+crs2 l m
  | [],m=>by simp [invL,crs2]
  | x :: l,m=>by
    have:=invL_app l m
    simp only [List.cons_append,invL,ltC_app,this,crs2,List.map_cons,List.sum_cons]
    omega
theorem crs2_perm {l l' m m':List Int}(h:l.Perm l')(k:m.Perm m'):crs2 l m=crs2 l' m':=by
  have e:(fun x=>ltC x m)=fun x=>ltC x m':=funext fun x=>k.countP_eq _
  unfold crs2
  rw [e]
  exact (h.map _).sum_nat
theorem ltgt {u:Int}:∀ {m:List Int},(∀ y ∈ m,y ≠ u)->ltC u m+gtC u m=m.length
  | [],_=>rfl
  | y :: m,h=>by
    have:=ltgt (u:=u) (m:=m) fun z hz=>h z (by simp [hz])
    have h0:=h y (by simp)
    unfold ltC gtC at *
    rw [List.countP_cons,List.countP_cons,List.length_cons]
    by_cases g:y<u
    . rw [if_pos (by simpa using g),if_neg (by simp;omega)];omega
    . rw [if_neg (by simpa using g),if_pos (by simp;omega)];omega
theorem crs2_one (v:Int):∀ m:List Int,crs2 m [v]=gtC v m
  | []=>rfl
  | y :: m=>by
    have:=crs2_one v m
    unfold crs2 gtC ltC at *
    rw [List.map_cons,List.sum_cons,this,List.countP_cons,List.countP_cons,List.countP_nil]
    omega
theorem invL_mid {u v:Int}{m:List Int}(hne:u ≠ v)(hu:∀ y ∈ m,y ≠ u)(hv:∀ y ∈ m,y ≠ v):invL (u :: (m ++ [v]))+invL (v :: (m ++ [u]))=2 * (invL m+m.length)+1:=by
  have h1:=ltgt hu
  have h2:=ltgt hv
  simp only [invL,invL_app,ltC_app,crs2_one]
  have e1:ltC u [v]+ltC v [u]=1:=by
    unfold ltC
    simp only [List.countP_cons,List.countP_nil,decide_eq_true_eq]
    by_cases g:v<u
    . rw [if_pos g,if_neg (by omega)]
    . rw [if_neg g,if_pos (by omega)]
  have e2:∀ z:Int,ltC z ([]:List Int)=0:=fun _=>rfl
  simp only [e2]
  omega
theorem invL_swp {p:List Int}(hn:p.Nodup){a b:Nat}(hab:a<b)(hb:b<p.length):(invL (swp p a b)+invL p) % 2=1:=by
  have e:p=p.take a ++ (p.getD a 0 :: ((p.drop (a+1)).take (b - a - 1) ++ (p.getD b 0 :: p.drop (b+1)))):=by
    have h1:p.drop a=p.getD a 0 :: p.drop (a+1):=by rw [List.drop_eq_getElem_cons (by omega)];congr 1;simp [show a<p.length by omega]
    have h2:p.drop b=p.getD b 0 :: p.drop (b+1):=by rw [List.drop_eq_getElem_cons hb];congr 1;simp [hb]
    have h3:p.drop (a+1)=(p.drop (a+1)).take (b - a - 1) ++ p.drop b:=by
      have:=(List.take_append_drop (b - a - 1) (p.drop (a+1))).symm
      rw [List.drop_drop,show a+1+(b - a - 1)=b by omega] at this
      exact this
    rw [<- h2,<- h3,<- h1,List.take_append_drop]
  generalize hl1:p.take a=l1 at e
  generalize hm:(p.drop (a+1)).take (b - a - 1)=m at e
  generalize hl3:p.drop (b+1)=l3 at e
  generalize hu:p.getD a 0=u at e
  generalize hv:p.getD b 0=v at e
  have la:l1.length=a:=by rw [<- hl1,List.length_take];omega
  have lm:m.length=b - a - 1:=by rw [<- hm,List.length_take,List.length_drop];omega
  have es:swp p a b=l1 ++ (v :: (m ++ (u :: l3))):=by
    unfold swp
    rw [hu,hv]
    rw [e]
    rw [List.set_append,if_neg (by omega),show a - l1.length=0 by omega,List.set_cons_zero,List.set_append,if_neg (by omega)]
    rw [show b - l1.length=(m.length+1) by omega,List.set_cons_succ,List.set_append,if_neg (by omega),Nat.sub_self,List.set_cons_zero]
  rw [e] at hn
  rw [es]
  conv=>lhs;arg 1;arg 2;rw [e]
  have hn2:=(List.nodup_append.1 hn).2.1
  have hn3:=List.nodup_cons.1 hn2
  have hn4:=List.nodup_append.1 hn3.2
  have hn5:=List.nodup_cons.1 hn4.2.1
  have hne:u ≠ v:=fun q=>hn3.1 (by rw [q];simp)
  have hum:∀ y ∈ m,y ≠ u:=fun y hy q=>hn3.1 (by rw [<- q];simp [hy])
  have hvm:∀ y ∈ m,y ≠ v:=fun y hy q=>hn4.2.2 y hy v (by simp) q
  have hmid:=invL_mid hne hum hvm
  have r1:l1 ++ (u :: (m ++ (v :: l3)))=l1 ++ ((u :: (m ++ [v])) ++ l3):=by simp
  have r2:l1 ++ (v :: (m ++ (u :: l3)))=l1 ++ ((v :: (m ++ [u])) ++ l3):=by simp
  rw [r1,r2]
  have hperm:(u :: (m ++ [v])).Perm (v :: (m ++ [u])):=by
    have h1:(u :: (m ++ [v])).Perm (u :: v :: m):=(List.perm_append_comm (l₁:=m) (l₂:=[v])).cons u
    have h2:(v :: (m ++ [u])).Perm (v :: u :: m):=(List.perm_append_comm (l₁:=m) (l₂:=[u])).cons v
    exact h1.trans ((List.Perm.swap v u m).trans h2.symm)
  have c1:=crs2_perm (.refl l1) (hperm.append_right l3)
  have c2:=crs2_perm hperm (.refl l3)
  have A1:invL (l1 ++ ((u :: (m ++ [v])) ++ l3))=invL l1+(invL (u :: (m ++ [v]))+invL l3+crs2 (u :: (m ++ [v])) l3)+crs2 l1 ((u :: (m ++ [v])) ++ l3):=by rw [invL_app l1,invL_app (u :: (m ++ [v])) l3]
  have A2:invL (l1 ++ ((v :: (m ++ [u])) ++ l3))=invL l1+(invL (v :: (m ++ [u]))+invL l3+crs2 (v :: (m ++ [u])) l3)+crs2 l1 ((v :: (m ++ [u])) ++ l3):=by rw [invL_app l1,invL_app (v :: (m ++ [u])) l3]
  rw [A1,A2,c1,c2]
  omega
def enA (es:List (Int × Int))(e:Int):Nat:=(es.getD e.toNat (0,0)).1.toNat
def enB (es:List (Int × Int))(e:Int):Nat:=(es.getD e.toNat (0,0)).2.toNat
inductive Jn (es:List (Int × Int)) (T:List Int):Nat->Nat->Prop
  | refl (x:Nat):Jn es T x x
  | edge (e:Int) (h:e ∈ T):Jn es T (enA es e) (enB es e)
  | symm {x y:Nat} (h:Jn es T x y):Jn es T y x
  | trans {x y z:Nat} (h1:Jn es T x y) (h2:Jn es T y z):Jn es T x z
theorem Jn.mono {es:List (Int × Int)}{T U:List Int}(hs:∀ e ∈ T,e ∈ U){x y:Nat}(h:Jn es T x y):Jn es U x y:=by
  induction h with
  | refl x=>exact .refl x
  | edge e h=>exact .edge e (hs e h)
  | symm _ ih=>exact .symm ih
  | trans _ _ i1 i2=>exact .trans i1 i2
theorem Jn.add {es:List (Int × Int)}{T U:List Int}{e:Int}(hs:∀ x ∈ U,x ∈ T∨x=e){u v:Nat}(h:Jn es U u v) :
    Jn es T u v∨(Jn es T u (enA es e)/\Jn es T (enB es e) v)∨(Jn es T u (enB es e)/\Jn es T (enA es e) v):=by
  induction h with
  | refl x=>exact .inl (.refl x)
  | edge x h =>
    rcases hs x h with q | q
    . exact .inl (.edge x q)
    . subst q;exact .inr (.inl ⟨.refl _,.refl _⟩)
  | symm _ ih =>
    rcases ih with q | ⟨q1,q2⟩ | ⟨q1,q2⟩
    . exact .inl q.symm
    . exact .inr (.inr ⟨q2.symm,q1.symm⟩)
    . exact .inr (.inl ⟨q2.symm,q1.symm⟩)
  | trans _ _ i1 i2 =>
    rcases i1 with q | ⟨q1,q2⟩ | ⟨q1,q2⟩ <;> rcases i2 with p | ⟨p1,p2⟩ | ⟨p1,p2⟩
    . exact .inl (q.trans p)
    . exact .inr (.inl ⟨q.trans p1,p2⟩)
    . exact .inr (.inr ⟨q.trans p1,p2⟩)
    . exact .inr (.inl ⟨q1,q2.trans p⟩)
    . exact .inr (.inl ⟨q1,p2⟩)
    . exact .inl (q1.trans p2)
    . exact .inr (.inr ⟨q1,q2.trans p⟩)
    . exact .inl (q1.trans p2)
    . exact .inr (.inr ⟨q1,p2⟩)
theorem Jn.same {es:List (Int × Int)}{T U:List Int}{e:Int}(hs:∀ x ∈ U,x ∈ T∨x=e)(hj:Jn es T (enA es e) (enB es e)){u v:Nat}(h:Jn es U u v):Jn es T u v:=by
  rcases Jn.add hs h with q | ⟨q1,q2⟩ | ⟨q1,q2⟩
  . exact q
  . exact q1.trans (hj.trans q2)
  . exact q1.trans (hj.symm.trans q2)
theorem Jn.nil {es:List (Int × Int)}{x y:Nat}(h:Jn es [] x y):x=y:=by
  induction h with
  | refl=>rfl
  | edge e h=>simp at h
  | symm _ ih=>exact ih.symm
  | trans _ _ i1 i2=>exact i1.trans i2
def EndsIn (es:List (Int × Int))(T:List Int)(n:Nat):Prop:=∀ e ∈ T,enA es e<n/\enB es e<n
theorem Jn.in_ {es:List (Int × Int)}{T:List Int}{n:Nat}(hT:EndsIn es T n){x y:Nat}(h:Jn es T x y):x<n↔y<n:=by
  induction h with
  | refl=>exact Iff.rfl
  | edge e h=>exact ⟨fun _=>(hT e h).2,fun _=>(hT e h).1⟩
  | symm _ ih=>exact ih.symm
  | trans _ _ i1 i2=>exact i1.trans i2
theorem cls_nil (es:List (Int × Int))(n:Nat):cls (Jn es []) n=n:=by
  have:∀ x,Mn (Jn es []) x:=fun x y h=>Nat.le_of_eq h.nil
  unfold cls
  rw [List.countP_eq_length.2 (fun x _=>by simpa using this x),List.length_range]
theorem cls_add {es:List (Int × Int)}{T U:List Int}{e:Int}(hs:∀ x ∈ U,x ∈ T∨x=e)(n:Nat):cls (Jn es T) n<=cls (Jn es U) n+1 :=
  cls_join (a:=enA es e) (b:=enB es e) (fun x=>.refl x) (fun h=>h.symm) (fun h k=>h.trans k) (fun h=>Jn.add hs h)
theorem cls_le (es:List (Int × Int))(n:Nat):∀ T:List Int,n<=cls (Jn es T) n+T.length
  | []=>by rw [cls_nil];simp
  | e :: T=>by
    have h1:=cls_le es n T
    have h2:=cls_add (es:=es) (T:=T) (U:=e :: T) (e:=e) (fun x hx=>(List.mem_cons.1 hx).symm) n
    simp only [List.length_cons];omega
def Conn (es:List (Int × Int))(T:List Int)(n:Nat):Prop:=∀ x y,x<n->y<n->Jn es T x y
theorem conn_cls {es:List (Int × Int)}{T:List Int}{n:Nat}(h:Conn es T n):cls (Jn es T) n<=1:=by
  unfold cls
  have key:∀ k,k<=n->(List.range k).countP (fun x=>@decide (Mn (Jn es T) x) (Classical.propDecidable _))<=1:=by
    intro k
    induction k with
    | zero=>intro _;simp
    | succ k ih =>
      intro hk
      rw [List.range_succ,List.countP_append]
      by_cases g:k=0
      . subst g;simp [List.countP_cons];split <;> omega
      . have hm:¬ Mn (Jn es T) k:=fun q=>by have:=q 0 (h k 0 (by omega) (by omega));omega
        have hi:=ih (by omega)
        have hz:List.countP (fun x=>@decide (Mn (Jn es T) x) (Classical.propDecidable _)) [k]=0:=by
          rw [List.countP_eq_zero]
          intro x hx
          rw [List.mem_singleton] at hx
          subst hx
          simpa using hm
        omega
  exact key n (Nat.le_refl _)
def wo1 (T:List Int)(e:Int):List Int:=T.filter fun y=>decide (y ≠ e)
theorem wo1_mem {T:List Int}{e x:Int}:x ∈ wo1 T e↔x ∈ T/\x ≠ e:=by simp [wo1]
theorem wo1_len {T:List Int}(hn:T.Nodup){e:Int}(he:e ∈ T):(wo1 T e).length+1=T.length:=by
  induction T with
  | nil=>simp at he
  | cons x T ih =>
    have hx:=List.nodup_cons.1 hn
    by_cases g:x=e
    . subst g
      have:wo1 (x :: T) x=T:=by
        unfold wo1
        rw [List.filter_cons]
        simp only [ne_eq,not_true_eq_false,decide_false,Bool.false_eq_true,if_false]
        rw [List.filter_eq_self]
        intro y hy
        simp only [decide_eq_true_eq]
        exact fun q=>hx.1 (q ▸ hy)
      rw [this];rfl
    . have:wo1 (x :: T) e=x :: wo1 T e:=by unfold wo1;rw [List.filter_cons];simp [g]
      rw [this]
      have:=ih hx.2 ((List.mem_cons.1 he).resolve_left (fun q=>g q.symm))
      simp only [List.length_cons];omega
structure Tree (es:List (Int × Int)) (T:List Int) (n:Nat):Prop where
  nd:T.Nodup
  len:T.length+1=n
  conn:Conn es T n
  ends:EndsIn es T n
theorem Tree.cover {es:List (Int × Int)}{T:List Int}{n:Nat}(h:Tree es T n){e:Int}:∀ x ∈ T,x ∈ wo1 T e∨x=e:=fun x hx=>by
  by_cases g:x=e
  . exact .inr g
  . exact .inl (wo1_mem.2 ⟨hx,g⟩)
theorem Tree.bridge {es:List (Int × Int)}{T:List Int}{n:Nat}(h:Tree es T n){e:Int}(he:e ∈ T):¬ Jn es (wo1 T e) (enA es e) (enB es e):=by
  intro hj
  have c:Conn es (wo1 T e) n:=fun x y hx hy=>Jn.same h.cover hj (h.conn x y hx hy)
  have h1:=conn_cls c
  have h2:=cls_le es n (wo1 T e)
  have h3:=wo1_len h.nd he
  have h4:=h.len
  omega
theorem Tree.split {es:List (Int × Int)}{T:List Int}{n:Nat}(h:Tree es T n){e:Int}(he:e ∈ T){x:Nat}(hx:x<n):Jn es (wo1 T e) x (enA es e)∨Jn es (wo1 T e) x (enB es e):=by
  rcases Jn.add h.cover (h.conn x (enA es e) hx (h.ends e he).1) with q | ⟨q,_⟩ | ⟨q,_⟩
  . exact .inl q
  . exact .inl q
  . exact .inr q
theorem Tree.cut {es:List (Int × Int)}{T:List Int}{n:Nat}(h:Tree es T n){e:Int}(he:e ∈ T){u v:Nat}(hu:u<n)(hv:v<n):¬ Jn es (wo1 T e) u v↔¬ (Jn es (wo1 T e) (enA es e) u↔Jn es (wo1 T e) (enA es e) v):=by
  constructor
  . intro hn hiff
    by_cases g:Jn es (wo1 T e) (enA es e) u
    . exact hn (g.symm.trans (hiff.1 g))
    . have g2:¬ Jn es (wo1 T e) (enA es e) v:=fun q=>g (hiff.2 q)
      have a:=(h.split he hu).resolve_left fun q=>g q.symm
      have b:=(h.split he hv).resolve_left fun q=>g2 q.symm
      exact hn (a.trans b.symm)
  . intro hn hj
    exact hn ⟨fun q=>q.trans hj,fun q=>q.trans hj.symm⟩
def Cir (es:List (Int × Int))(T:List Int)(f e:Int):Prop:=e ∈ T/\¬ Jn es (wo1 T e) (enA es f) (enB es f)
theorem Tree.swap {es:List (Int × Int)}{T U:List Int}{n:Nat}(h:Tree es T n){e f:Int}(hc:Cir es T f e)(hf:f ∉ T)(hfe:enA es f<n/\enB es f<n)(hU:U.Perm (wo1 T e ++ [f])):Tree es U n:=by
  have hm:∀ x,x ∈ U↔x ∈ wo1 T e∨x=f:=fun x=>by rw [hU.mem_iff];simp
  have sub:∀ x ∈ wo1 T e,x ∈ U:=fun x hx=>(hm x).2 (.inl hx)
  have hfU:f ∈ U:=(hm f).2 (.inr rfl)
  have hab:Jn es U (enA es e) (enB es e):=by
    have hf1:Jn es U (enA es f) (enB es f):=.edge f hfU
    have hb:=h.split hc.1 hfe.1
    have hb2:=h.split hc.1 hfe.2
    rcases hb with q | q <;> rcases hb2 with p | p
    . exact absurd (q.trans p.symm) hc.2
    . exact (q.mono sub).symm.trans (hf1.trans (p.mono sub))
    . exact (p.mono sub).symm.trans (hf1.symm.trans (q.mono sub))
    . exact absurd (q.trans p.symm) hc.2
  have hall:∀ x,x<n->Jn es U x (enA es e):=fun x hx=>by
    rcases h.split hc.1 hx with q | q
    . exact q.mono sub
    . exact (q.mono sub).trans hab.symm
  refine ⟨?_,?_,fun x y hx hy=>(hall x hx).trans (hall y hy).symm,fun x hx=>?_⟩
  . rw [hU.nodup_iff,List.nodup_append]
    refine ⟨h.nd.sublist List.filter_sublist,by simp,fun a ha b hb=>?_⟩
    rw [List.mem_singleton] at hb
    subst hb
    exact fun q=>hf (q ▸ (wo1_mem.1 ha).1)
  . rw [hU.length_eq,List.length_append]
    have:=wo1_len h.nd hc.1
    have:=h.len
    simp only [List.length_cons,List.length_nil];omega
  . rcases (hm x).1 hx with q | q
    . exact h.ends x (wo1_mem.1 q).1
    . subst q;exact hfe
theorem Tree.round {es:List (Int × Int)}{T:List Int}{n:Nat}(h:Tree es T n){f:Int}(hfe:enA es f<n/\enB es f<n){C:List Int}(hC:∀ e,Cir es T f e->e ∈ C):Jn es C (enA es f) (enB es f):=by
  have key:∀ (k:Nat) (S:List Int),(∀ e ∈ S,e ∈ T)->S.Nodup->S.length=k->Jn es S (enA es f) (enB es f)->Jn es C (enA es f) (enB es f):=by
    intro k
    induction k with
    | zero =>
      intro S _ _ hl hj
      rw [List.eq_nil_of_length_eq_zero hl] at hj
      exact hj.mono (fun e he=>by simp at he)
    | succ k ih =>
      intro S hS hnd hl hj
      by_cases g:∀ e ∈ S,Cir es T f e
      . exact hj.mono fun e he=>hC e (g e he)
      . obtain ⟨e,he,hce⟩:∃ e,e ∈ S/\¬ Cir es T f e:=by
          refine Classical.byContradiction fun q=>g fun e he=>Classical.byContradiction fun q2=>q ⟨e,he,q2⟩
        have hTe:=hS e he
        have huv:Jn es (wo1 T e) (enA es f) (enB es f):=Classical.byContradiction fun q=>hce ⟨hTe,q⟩
        have sub:∀ x ∈ wo1 S e,x ∈ wo1 T e:=fun x hx=>wo1_mem.2 ⟨hS x (wo1_mem.1 hx).1,(wo1_mem.1 hx).2⟩
        have cov:∀ x ∈ S,x ∈ wo1 S e∨x=e:=fun x hx=>by
          by_cases g:x=e
          . exact .inr g
          . exact .inl (wo1_mem.2 ⟨hx,g⟩)
        refine ih (wo1 S e) (fun x hx=>hS x (wo1_mem.1 hx).1) (hnd.sublist List.filter_sublist) (by have:=wo1_len hnd he;omega) ?_
        rcases Jn.add cov hj with q | ⟨q1,q2⟩ | ⟨q1,q2⟩
        . exact q
        . exact absurd ((q1.mono sub).symm.trans (huv.trans (q2.mono sub).symm)) (h.bridge hTe)
        . exact absurd ((q2.mono sub).trans (huv.symm.trans (q1.mono sub))) (h.bridge hTe)
  exact key T.length T (fun _ h=>h) h.nd rfl (h.conn _ _ hfe.1 hfe.2)
theorem Tree.away {es:List (Int × Int)}{T B:List Int}{n:Nat}(h:Tree es T n)(hB:Tree es B n){f:Int}(hf:f ∈ B)(hfT:f ∉ T):∃ e,Cir es T f e/\e ∉ B:=by
  refine Classical.byContradiction fun q=>?_
  have hfe:=hB.ends f hf
  refine hB.bridge hf (h.round hfe (C:=wo1 B f) fun e he=>wo1_mem.2 ⟨Classical.byContradiction fun q2=>q ⟨e,he,q2⟩,fun q2=>hfT (q2 ▸ he.1)⟩)
def bfsIn (d:Int):List Int->List Int × List Int->List Int × List Int
  | [],st=>st
  | j :: r,st=>if st.1.getD j.toNat 0<0 then bfsIn d r (st.1.set j.toNat d,st.2 ++ [j]) else bfsIn d r st
def bfsF (L:List (List Int)):Nat->List Int × List Int->Nat->List Int
  | 0,st,_=>st.1
  | f+1,st,k=>if k<st.2.length then bfsF L f (bfsIn (st.1.getD (st.2.getD k 0).toNat 0+1) (L.getD (st.2.getD k 0).toNat []) st) (k+1) else st.1
def bfs0 (N i:Nat):List Int:=(List.replicate N (-1)).set i 0
def bfs (L:List (List Int))(i:Nat):List Int:=bfsF L (L.length+1) (bfs0 L.length i,[(i:Int)]) 0
def LOk (N:Nat)(L:List (List Int)):Prop:=∀ i,∀ y ∈ L.getD i [],0<=y/\y<N
structure BI (N:Nat) (st:List Int × List Int):Prop where
  len:st.1.length=N
  q:∀ x ∈ st.2,(0<=x/\x<N)/\0<=st.1.getD x.toNat 0
  lo:∀ v,v<N -> -1<=st.1.getD v 0/\st.1.getD v 0<st.2.length
  cnt:st.2.length+st.1.countP (·<0)=N
theorem countP_set_neg (xs:List Int)(j:Nat)(d:Int)(hj:j<xs.length)(h:xs.getD j 0<0)(hd:0<=d):(xs.set j d).countP (·<0)+1=xs.countP (·<0):=by
  induction xs generalizing j with
  | nil=>simp at hj
  | cons x xs ih =>
    cases j with
    | zero =>
      have hx:x<0:=by simpa using h
      simp only [List.set_cons_zero,List.countP_cons]
      simp only [decide_eq_true_eq]
      rw [if_neg (by omega),if_pos hx]
    | succ j =>
      have:=ih j (by simpa using hj) (by simpa using h)
      simp only [List.set_cons_succ,List.countP_cons]
      omega
theorem BI.len_le {N:Nat}{st:List Int × List Int}(h:BI N st):st.2.length<=N:=by have:=h.cnt;omega
theorem getD_setB (xs:List Int)(j v:Nat)(d:Int)(hv:v<xs.length):(xs.set j d).getD v 0=if j=v then d else xs.getD v 0:=by
  rw [List.getD_eq_getElem?_getD,List.getD_eq_getElem?_getD,List.getElem?_set]
  by_cases h:j=v
  . subst h;rw [if_pos rfl,if_pos rfl,if_pos hv];rfl
  . rw [if_neg h,if_neg h]
theorem BI.put {N:Nat}{st:List Int × List Int}(h:BI N st){j d:Int}(hj:0<=j/\j<N)(hn:st.1.getD j.toNat 0<0)(hd:0<=d/\d<=st.2.length):BI N (st.1.set j.toNat d,st.2 ++ [j]):=by
  have hl:=h.len
  refine ⟨by simp [hl],?_,?_,?_⟩
  . intro x hx
    simp only [List.mem_append,List.mem_cons,List.not_mem_nil,or_false] at hx
    rcases hx with hx | rfl
    . obtain ⟨h1,h2⟩:=h.q x hx
      refine ⟨h1,?_⟩
      show 0<=(st.1.set j.toNat d).getD x.toNat 0
      rw [getD_setB _ _ _ _ (by omega)]
      split <;> omega
    . refine ⟨hj,?_⟩
      show 0<=(st.1.set x.toNat d).getD x.toNat 0
      rw [getD_setB _ _ _ _ (by omega),if_pos rfl];omega
  . intro v hv
    have:=h.lo v hv
    show -1<=(st.1.set j.toNat d).getD v 0/\(st.1.set j.toNat d).getD v 0<((st.2 ++ [j]).length:Nat)
    rw [getD_setB _ _ _ _ (by omega)]
    simp only [List.length_append,List.length_cons,List.length_nil]
    split <;> omega
  . have:=countP_set_neg st.1 j.toNat d (by omega) hn hd.1
    have:=h.cnt
    show (st.2 ++ [j]).length+(st.1.set j.toNat d).countP (·<0)=N
    simp only [List.length_append,List.length_cons,List.length_nil]
    omega
theorem bfs0_BI (N i:Nat)(hi:i<N):BI N (bfs0 N i,[(i:Int)]):=by
  have hat:∀ v,v<N->(bfs0 N i).getD v 0=if i=v then 0 else -1:=by
    intro v hv
    unfold bfs0
    rw [getD_setB _ _ _ _ (by simpa using hv)]
    split
    . rfl
    . rw [List.getD_eq_getElem?_getD,List.getElem?_replicate,if_pos hv];rfl
  refine ⟨by simp [bfs0],?_,?_,?_⟩
  . intro x hx
    simp only [List.mem_cons,List.not_mem_nil,or_false] at hx
    subst hx
    refine ⟨by omega,?_⟩
    show 0<=(bfs0 N i).getD (i:Int).toNat 0
    rw [Int.toNat_natCast,hat i hi,if_pos rfl];omega
  . intro v hv
    show -1<=(bfs0 N i).getD v 0/\(bfs0 N i).getD v 0<_
    rw [hat v hv]
    simp only [List.length_cons,List.length_nil]
    split <;> omega
  . show [(i:Int)].length+(bfs0 N i).countP (·<0)=N
    have:=countP_set_neg (List.replicate N (-1)) i 0 (by simpa using hi) (by rw [List.getD_eq_getElem?_getD,List.getElem?_replicate,if_pos hi];decide) (by omega)
    have h2:(List.replicate N (-1:Int)).countP (·<0)=N:=by rw [List.countP_replicate];simp
    unfold bfs0
    simp only [List.length_cons,List.length_nil]
    omega
theorem BI.inn {N:Nat}{d:Int}:∀ (l:List Int) {st:List Int × List Int},BI N st->(∀ y ∈ l,0<=y/\y<N)->(0<=d/\d<=st.2.length)->BI N (bfsIn d l st)
  | [],st,h,_,_=>h
  | j :: r,st,h,hl,hd=>by
    simp only [bfsIn]
    split
    . rename_i hn
      refine BI.inn r (h.put (hl j (by simp)) hn hd) (fun y hy=>hl y (by simp [hy])) ?_
      simp only [List.length_append,List.length_cons,List.length_nil]
      omega
    . exact BI.inn r h (fun y hy=>hl y (by simp [hy])) hd
theorem bfsF_done (L:List (List Int))(f:Nat)(st:List Int × List Int)(k:Nat)(h:st.2.length<=k):bfsF L f st k=st.1:=by
  cases f with
  | zero=>rfl
  | succ f=>simp only [bfsF];rw [if_neg (by omega)]
theorem bfsF_step (L:List (List Int))(f:Nat)(st:List Int × List Int)(k:Nat)(h:k<st.2.length):bfsF L (f+1) st k=bfsF L f (bfsIn (st.1.getD (st.2.getD k 0).toNat 0+1) (L.getD (st.2.getD k 0).toNat []) st) (k+1):=by
  simp only [bfsF];rw [if_pos h]
theorem bfsIn_pre (d:Int):∀ (l:List Int) (st:List Int × List Int),st.2<+:(bfsIn d l st).2
  | [],st=>List.prefix_refl _
  | j :: r,st=>by
    simp only [bfsIn]
    split
    . exact (List.prefix_append st.2 [j]).trans (bfsIn_pre d r (st.1.set j.toNat d,st.2 ++ [j]))
    . exact bfsIn_pre d r st
theorem bfs_BI (L:List (List Int))(hL:LOk L.length L):∀ (f:Nat) (st:List Int × List Int) (k:Nat),BI L.length st->∃ q,BI L.length (bfsF L f st k,q)
  | 0,st,k,h=>⟨st.2,h⟩
  | f+1,st,k,h=>by
    simp only [bfsF]
    split
    . rename_i hk
      have hm:st.2.getD k 0 ∈ st.2:=by simp [hk]
      obtain ⟨h1,h2⟩:=h.q _ hm
      have h3:=h.lo (st.2.getD k 0).toNat (by omega)
      exact bfs_BI L hL f _ _ (BI.inn _ h (hL _) (by omega))
    . exact ⟨st.2,h⟩
theorem bfs_rng (L:List (List Int))(hL:LOk L.length L)(i:Nat)(hi:i<L.length):(bfs L i).length=L.length/\∀ v,v<L.length -> -1<=(bfs L i).getD v 0/\(bfs L i).getD v 0<L.length:=by
  obtain ⟨q,h⟩:=bfs_BI L hL (L.length+1) _ 0 (bfs0_BI L.length i hi)
  have:=h.len_le
  refine ⟨h.len,fun v hv=>?_⟩
  have:=h.lo v hv
  exact ⟨this.1,by have h2:(bfs L i).getD v 0<(q.length:Int):=this.2;have h3:q.length<=L.length:=h.len_le;omega⟩
def ptIn:List Int->List Bool × List Int->List Bool × List Int
  | [],st=>st
  | j :: r,st=>if st.1.getD j.toNat false=true then ptIn r st else ptIn r (st.1.set j.toNat true,st.2 ++ [j])
def ptF (L:List (List Int)):Nat->List Bool × List Int->Nat->List Bool × List Int
  | 0,st,_=>st
  | f+1,st,k=>if k<st.2.length then ptF L f (ptIn (L.getD (st.2.getD k 0).toNat []) st) (k+1) else st
structure PI (N C:Nat) (st:List Bool × List Int):Prop where
  len:st.1.length=N
  q:∀ x ∈ st.2,(0<=x/\x<N)/\st.1.getD x.toNat false=true
  nd:st.2.Nodup
  cnt:st.2.length+st.1.countP (fun b=>!b)=C
  le:C<=N
theorem getD_setBool (xs:List Bool)(j v:Nat)(d:Bool)(hv:v<xs.length):(xs.set j d).getD v false=if j=v then d else xs.getD v false:=by
  rw [List.getD_eq_getElem?_getD,List.getD_eq_getElem?_getD,List.getElem?_set]
  by_cases h:j=v
  . subst h;rw [if_pos rfl,if_pos rfl,if_pos hv];rfl
  . rw [if_neg h,if_neg h]
theorem countP_set_true:∀ (xs:List Bool) (j:Nat),j<xs.length->xs.getD j false=false->(xs.set j true).countP (fun b=>!b)+1=xs.countP (fun b=>!b)
  | [],j,h,_=>by simp at h
  | x :: xs,0,_,h=>by
    have hx:x=false:=by simpa using h
    subst hx
    simp [List.countP_cons]
  | x :: xs,j+1,hj,h=>by
    have:=countP_set_true xs j (by simpa using hj) (by simpa using h)
    simp only [List.set_cons_succ,List.countP_cons]
    omega
theorem PI.len_le {N C:Nat}{st:List Bool × List Int}(h:PI N C st):st.2.length<=N:=by have:=h.cnt;have:=h.le;omega
theorem PI.put {N C:Nat}{st:List Bool × List Int}(h:PI N C st){j:Int}(hj:0<=j/\j<N)(hn:¬ st.1.getD j.toNat false=true):PI N C (st.1.set j.toNat true,st.2 ++ [j]):=by
  have hl:=h.len
  have hf:st.1.getD j.toNat false=false:=by simpa using hn
  refine ⟨by simp [hl],?_,?_,?_,h.le⟩
  . intro x hx
    simp only [List.mem_append,List.mem_cons,List.not_mem_nil,or_false] at hx
    rcases hx with hx | rfl
    . obtain ⟨h1,h2⟩:=h.q x hx
      refine ⟨h1,?_⟩
      show (st.1.set j.toNat true).getD x.toNat false=true
      rw [getD_setBool _ _ _ _ (by omega)]
      split
      . rfl
      . exact h2
    . refine ⟨hj,?_⟩
      show (st.1.set x.toNat true).getD x.toNat false=true
      rw [getD_setBool _ _ _ _ (by omega),if_pos rfl]
  . rw [List.nodup_append]
    refine ⟨h.nd,by simp,?_⟩
    intro a ha b hb hab
    simp only [List.mem_cons,List.not_mem_nil,or_false] at hb
    subst hab;subst hb
    exact hn (h.q a ha).2
  . have:=countP_set_true st.1 j.toNat (by omega) hf
    have:=h.cnt
    show (st.2 ++ [j]).length+(st.1.set j.toNat true).countP (fun b=>!b)=C
    simp only [List.length_append,List.length_cons,List.length_nil]
    omega
theorem PI.first {N:Nat}{s:List Bool}(hs:s.length=N){k:Nat}(hk:k<N)(hn:¬ s.getD k false=true):PI N (s.countP fun b=>!b) (s.set k true,[(k:Int)]):=by
  have hf:s.getD k false=false:=by simpa using hn
  refine ⟨by simp [hs],?_,by simp,?_,?_⟩
  . intro x hx
    simp only [List.mem_cons,List.not_mem_nil,or_false] at hx
    subst hx
    refine ⟨by omega,?_⟩
    show (s.set k true).getD (k:Int).toNat false=true
    rw [Int.toNat_natCast,getD_setBool _ _ _ _ (by omega),if_pos rfl]
  . have:=countP_set_true s k (by omega) hf
    show [(k:Int)].length+(s.set k true).countP (fun b=>!b)=_
    simp only [List.length_cons,List.length_nil]
    omega
  . rw [<- hs];exact List.countP_le_length
theorem PI.inn {N C:Nat}:∀ (l:List Int) {st:List Bool × List Int},PI N C st->(∀ y ∈ l,0<=y/\y<N)->PI N C (ptIn l st)
  | [],st,h,_=>h
  | j :: r,st,h,hl=>by
    simp only [ptIn]
    split
    . exact PI.inn r h (fun y hy=>hl y (by simp [hy]))
    . rename_i hn
      exact PI.inn r (h.put (hl j (by simp)) hn) (fun y hy=>hl y (by simp [hy]))
theorem ptIn_pre:∀ (l:List Int) (st:List Bool × List Int),st.2<+:(ptIn l st).2
  | [],st=>List.prefix_refl _
  | j :: r,st=>by
    simp only [ptIn]
    split
    . exact ptIn_pre r st
    . exact (List.prefix_append st.2 [j]).trans (ptIn_pre r (st.1.set j.toNat true,st.2 ++ [j]))
inductive Rch (adj:Int->Int->Prop) (S:Int->Prop) (x:Int):Int->Prop
  | refl:Rch adj S x x
  | step {y z:Int}:Rch adj S x y->adj y z->S z->Rch adj S x z
theorem Rch.mono {adj:Int->Int->Prop}{S T:Int->Prop}{x z:Int}(h:Rch adj S x z)(hs:∀ y,S y->T y):Rch adj T x z:=by
  induction h with
  | refl=>exact .refl
  | step _ h1 h2 ih=>exact .step ih h1 (hs _ h2)
theorem Rch.in_ {adj:Int->Int->Prop}{S:Int->Prop}{x z:Int}(h:Rch adj S x z)(hx:S x):S z:=by
  cases h with
  | refl=>exact hx
  | step _ _ h2=>exact h2
theorem nodup_le {a b:List Int}(ha:a.Nodup)(h:∀ x ∈ a,x ∈ b):a.length<=b.length:=by
  induction a generalizing b with
  | nil=>simp
  | cons x a ih =>
    have hx:x ∈ b:=h x (by simp)
    rw [List.nodup_cons] at ha
    have hl:=List.length_erase_of_mem hx
    have hp:=List.length_pos_of_mem hx
    have:=ih (b:=b.erase x) ha.2 fun y hy=>(List.mem_erase_of_ne (fun e:y=x=>ha.1 (by rw [<- e];exact hy))).2 (h y (by simp [hy]))
    simp only [List.length_cons]
    omega
theorem lt_nodup {l:List Int}(h:l.Pairwise (· < ·)):l.Nodup:=h.imp fun h=>by omega
theorem ptIn_seen {N C:Nat}(v:Nat)(hv:v<N):∀ (l:List Int) (st:List Bool × List Int),PI N C st->(∀ y ∈ l,0<=y/\y<N)->((ptIn l st).1.getD v false=true↔(st.1.getD v false=true∨(v:Int) ∈ l))
  | [],st,h,_=>by simp [ptIn]
  | j :: r,st,h,hl=>by
    have hj:=hl j (by simp)
    simp only [ptIn]
    split
    . rename_i hs
      rw [ptIn_seen v hv r st h (fun y hy=>hl y (by simp [hy])),List.mem_cons]
      constructor
      . rintro (h1 | h1)
        . exact .inl h1
        . exact .inr (.inr h1)
      . rintro (h1 | h1 | h1)
        . exact .inl h1
        . left;rw [<- h1] at hs;simpa using hs
        . exact .inr h1
    . rename_i hn
      have hlen:=h.len
      rw [ptIn_seen v hv r _ (h.put hj hn) (fun y hy=>hl y (by simp [hy])),List.mem_cons]
      show ((st.1.set j.toNat true).getD v false=true∨_)↔_
      rw [getD_setBool _ _ _ _ (by omega)]
      by_cases e:j.toNat=v
      . rw [if_pos e]
        have:(v:Int)=j:=by omega
        simp [this]
      . rw [if_neg e]
        have:¬ (v:Int)=j:=by omega
        simp [this]
theorem ptIn_q (z:Int):∀ (l:List Int) (st:List Bool × List Int),z ∈ (ptIn l st).2->z ∈ st.2∨(z ∈ l/\¬ st.1.getD z.toNat false=true)
  | [],st,h=>.inl h
  | j :: r,st,h=>by
    simp only [ptIn] at h
    split at h
    . rcases ptIn_q z r st h with h | ⟨h,h2⟩
      . exact .inl h
      . exact .inr ⟨by simp [h],h2⟩
    . rename_i hn
      rcases ptIn_q z r _ h with h | ⟨h,h2⟩
      . simp only [List.mem_append,List.mem_cons,List.not_mem_nil,or_false] at h
        rcases h with h | rfl
        . exact .inl h
        . exact .inr ⟨by simp,hn⟩
      . refine .inr ⟨by simp [h],fun h3=>h2 ?_⟩
        show (st.1.set j.toNat true).getD z.toNat false=true
        rw [List.getD_eq_getElem?_getD,List.getElem?_set]
        rw [List.getD_eq_getElem?_getD] at h3
        split
        . split
          . rfl
          . rename_i e1 e2
            rw [<- e1,List.getElem?_eq_none (by omega)] at h3
            exact h3
        . exact h3
structure QI (L:List (List Int)) (s:List Bool) (x:Nat) (C:Nat) (st:List Bool × List Int) (k:Nat):Prop where
  pi:PI L.length C st
  seen:∀ v,v<L.length->(st.1.getD v false=true↔(s.getD v false=true∨(v:Int) ∈ st.2))
  rch:∀ z ∈ st.2,Rch (fun a b=>b ∈ L.getD a.toNat []) (fun z=>0<=z/\z<L.length/\¬ s.getD z.toNat false=true) x z
  cl:∀ i,i<k->∀ y ∈ L.getD (st.2.getD i 0).toNat [],st.1.getD y.toNat false=true
  le:k<=st.2.length
  x:(x:Int) ∈ st.2
theorem QI.step {L:List (List Int)}(hL:LOk L.length L){s:List Bool}{x C:Nat}{st:List Bool × List Int}{k:Nat}(h:QI L s x C st k)(hk:k<st.2.length):QI L s x C (ptIn (L.getD (st.2.getD k 0).toNat []) st) (k+1):=by
  have hpre:=ptIn_pre (L.getD (st.2.getD k 0).toNat []) st
  have hPI:=PI.inn _ h.pi (hL (st.2.getD k 0).toNat)
  have hm:st.2.getD k 0 ∈ st.2:=by simp [hk]
  have hsn:∀ v,v<L.length->_:=fun v hv=>ptIn_seen v hv (L.getD (st.2.getD k 0).toNat []) st h.pi (hL _)
  refine ⟨hPI,?_,?_,?_,?_,hpre.subset h.x⟩
  . intro v hv
    constructor
    . intro hh
      rcases (hsn v hv).1 hh with h1 | h1
      . rcases (h.seen v hv).1 h1 with h2 | h2
        . exact .inl h2
        . exact .inr (hpre.subset h2)
      . by_cases h2:st.1.getD v false=true
        . rcases (h.seen v hv).1 h2 with h2 | h2
          . exact .inl h2
          . exact .inr (hpre.subset h2)
        . right
          have key:∀ (l:List Int) (st:List Bool × List Int),PI L.length C st->(∀ y ∈ l,0<=y/\y<L.length)->(v:Int) ∈ l->¬ st.1.getD v false=true->(v:Int) ∈ (ptIn l st).2:=by
            intro l
            induction l with
            | nil=>intro st _ _ h3;simp at h3
            | cons j r ih =>
              intro st hp hl h3 h4
              have hj:=hl j (by simp)
              simp only [ptIn]
              by_cases e:j=(v:Int)
              . subst e
                rw [Int.toNat_natCast,if_neg h4]
                exact (ptIn_pre r _).subset (by simp)
              . have h3':(v:Int) ∈ r:=by
                  rcases List.mem_cons.1 h3 with h | h
                  . exact absurd h.symm e
                  . exact h
                split
                . exact ih st hp (fun y hy=>hl y (by simp [hy])) h3' h4
                . rename_i hn
                  refine ih _ (hp.put hj hn) (fun y hy=>hl y (by simp [hy])) h3' ?_
                  show ¬ (st.1.set j.toNat true).getD v false=true
                  have:=hp.len
                  rw [getD_setBool _ _ _ _ (by omega),if_neg (by omega)]
                  exact h4
          exact key _ st h.pi (hL _) h1 h2
    . rintro (h1 | h1)
      . exact (hsn v hv).2 (.inl ((h.seen v hv).2 (.inl h1)))
      . obtain ⟨_,h2⟩:=hPI.q _ h1
        simpa using h2
  . intro z hz
    rcases ptIn_q z _ st hz with h1 | ⟨h1,h2⟩
    . exact h.rch z h1
    . have hr:=hL _ z h1
      refine .step (h.rch _ hm) h1 ⟨hr.1,hr.2,fun h3=>h2 ?_⟩
      exact (h.seen z.toNat (by omega)).2 (.inl h3)
  . intro i hi y hy
    have hg:(ptIn (L.getD (st.2.getD k 0).toNat []) st).2.getD i 0=st.2.getD i 0:=by
      obtain ⟨t,ht⟩:=hpre
      rw [<- ht,List.getD_eq_getElem?_getD,List.getElem?_append_left (by omega),<- List.getD_eq_getElem?_getD]
    rw [hg] at hy
    have hr:=hL _ y hy
    refine (hsn y.toNat (by omega)).2 ?_
    by_cases e:i=k
    . subst e
      right
      rw [Int.toNat_of_nonneg hr.1];exact hy
    . exact .inl (h.cl i (by omega) y hy)
  . have:=hpre.length_le
    by_cases e:(ptIn (L.getD (st.2.getD k 0).toNat []) st).2.length=st.2.length <;> omega
theorem QI.run {L:List (List Int)}(hL:LOk L.length L){s:List Bool}{x C:Nat}:∀ (f:Nat) (st:List Bool × List Int) (k:Nat),f+k=L.length+1->QI L s x C st k->QI L s x C (ptF L f st k) (ptF L f st k).2.length
  | 0,st,k,hf,h=>by have:=h.pi.len_le;have:=h.le;omega
  | f+1,st,k,hf,h=>by
    simp only [ptF]
    split
    . rename_i hk
      exact QI.run hL f _ _ (by omega) (h.step hL hk)
    . have:k=st.2.length:=by have:=h.le;omega
      rw [<- this];exact h
structure DI (L:List (List Int)) (i:Nat) (st:List Int × List Int) (k:Nat):Prop where
  bi:BI L.length st
  iff:∀ v,v<L.length->(0<=st.1.getD v 0↔(v:Int) ∈ st.2)
  src:∀ v,v<L.length->0<=st.1.getD v 0->(v=i/\st.1.getD v 0=0)∨∃ u,u<L.length/\0<=st.1.getD u 0/\(v:Int) ∈ L.getD u []/\st.1.getD v 0=st.1.getD u 0+1
  cl:∀ j,j<k->∀ y ∈ L.getD (st.2.getD j 0).toNat [],0<=st.1.getD y.toNat 0
  le:k<=st.2.length
  at_:0<=st.1.getD i 0
theorem bfsIn_keep (d:Int)(v:Nat):∀ (l:List Int) (st:List Int × List Int),(∀ y ∈ l,0<=y/\y<st.1.length)->0<=st.1.getD v 0->(bfsIn d l st).1.getD v 0=st.1.getD v 0
  | [],st,_,_=>rfl
  | j :: r,st,hl,h=>by
    simp only [bfsIn]
    have hj:=hl j (by simp)
    split
    . rename_i hn
      have hvj:j.toNat ≠ v:=fun e=>by rw [e] at hn;omega
      have e1:(st.1.set j.toNat d).getD v 0=st.1.getD v 0:=by
        rw [List.getD_eq_getElem?_getD,List.getD_eq_getElem?_getD,List.getElem?_set_ne hvj]
      rw [bfsIn_keep d v r _ (fun y hy=>by simpa using hl y (by simp [hy])) (by show 0<=(st.1.set j.toNat d).getD v 0;rw [e1];exact h)]
      exact e1
    . exact bfsIn_keep d v r st (fun y hy=>hl y (by simp [hy])) h
theorem bfsIn_new (d:Int)(hd:0<=d)(v:Nat):∀ (l:List Int) (st:List Int × List Int),(∀ y ∈ l,0<=y/\y<st.1.length)->v<st.1.length->st.1.getD v 0<0 ->
    (((v:Int) ∈ l/\(bfsIn d l st).1.getD v 0=d/\(v:Int) ∈ (bfsIn d l st).2)∨((v:Int) ∉ l/\(bfsIn d l st).1.getD v 0=st.1.getD v 0/\((v:Int) ∈ (bfsIn d l st).2->(v:Int) ∈ st.2)))
  | [],st,_,_,h=>.inr ⟨by simp,rfl,id⟩
  | j :: r,st,hl,hv,h=>by
    have hj:=hl j (by simp)
    simp only [bfsIn]
    by_cases e:j=(v:Int)
    . subst e
      rw [Int.toNat_natCast,if_pos h]
      have e1:(st.1.set v d).getD v 0=d:=by rw [getD_setB _ _ _ _ hv,if_pos rfl]
      refine .inl ⟨by simp,?_,?_⟩
      . rw [bfsIn_keep d v r _ (fun y hy=>by simpa using hl y (by simp [hy])) (by show 0<=(st.1.set v d).getD v 0;rw [e1];exact hd)]
        exact e1
      . exact (bfsIn_pre d r _).subset (by simp)
    . have hne:¬ (v:Int)=j:=fun h=>e h.symm
      split
      . rename_i hn
        have e1:(st.1.set j.toNat d).getD v 0=st.1.getD v 0:=by
          rw [getD_setB _ _ _ _ hv,if_neg (by omega)]
        rcases bfsIn_new d hd v r (st.1.set j.toNat d,st.2 ++ [j]) (fun y hy=>by simpa using hl y (by simp [hy])) (by simpa using hv) (by show (st.1.set j.toNat d).getD v 0<0;rw [e1];exact h) with ⟨h1,h2,h3⟩ | ⟨h1,h2,h3⟩
        . exact .inl ⟨by simp [h1],h2,h3⟩
        . refine .inr ⟨by simp [hne,h1],by rw [h2];exact e1,fun h4=>?_⟩
          have:=h3 h4
          simpa [hne] using this
      . rcases bfsIn_new d hd v r st (fun y hy=>hl y (by simp [hy])) hv h with ⟨h1,h2,h3⟩ | ⟨h1,h2,h3⟩
        . exact .inl ⟨by simp [h1],h2,h3⟩
        . exact .inr ⟨by simp [hne,h1],h2,h3⟩
theorem DI.step {L:List (List Int)}(hL:LOk L.length L){i:Nat}{st:List Int × List Int}{k:Nat}(h:DI L i st k)(hk:k<st.2.length) :
    DI L i (bfsIn (st.1.getD (st.2.getD k 0).toNat 0+1) (L.getD (st.2.getD k 0).toNat []) st) (k+1):=by
  have hm:st.2.getD k 0 ∈ st.2:=by simp [hk]
  obtain ⟨hxr,hx0⟩:=h.bi.q _ hm
  have hlo:=h.bi.lo (st.2.getD k 0).toNat (by omega)
  have hlen:=h.bi.len
  generalize hx:(st.2.getD k 0).toNat=x at *
  generalize hd:st.1.getD x 0+1=d at *
  have hl:=hL x
  have hl':∀ y ∈ L.getD x [],0<=y/\y<(st.1.length:Int):=by rw [hlen];exact hl
  have hbi:=BI.inn (d:=d) _ h.bi hl (by omega)
  have hpre:=bfsIn_pre d (L.getD x []) st
  have keep:∀ v,0<=st.1.getD v 0->_:=fun v hv=>bfsIn_keep d v (L.getD x []) st hl' hv
  have new:∀ v,v<L.length->st.1.getD v 0<0->_:=fun v hv hn=>bfsIn_new d (by omega) v (L.getD x []) st hl' (by omega) hn
  refine ⟨hbi,?_,?_,?_,?_,?_⟩
  . intro v hv
    by_cases hn:0<=st.1.getD v 0
    . rw [keep v hn]
      exact ⟨fun _=>hpre.subset ((h.iff v hv).1 hn),fun _=>hn⟩
    . rcases new v hv (by omega) with ⟨h1,h2,h3⟩ | ⟨h1,h2,h3⟩
      . rw [h2];exact ⟨fun _=>h3,fun _=>by omega⟩
      . rw [h2];exact ⟨fun g=>absurd g hn,fun g=>(h.iff v hv).2 (h3 g)⟩
  . intro v hv hp
    by_cases hn:0<=st.1.getD v 0
    . rw [keep v hn]
      rcases h.src v hv hn with h1 | ⟨u,u1,u2,u3,u4⟩
      . exact .inl h1
      . exact .inr ⟨u,u1,by rw [keep u u2];exact u2,u3,by rw [keep u u2];exact u4⟩
    . rcases new v hv (by omega) with ⟨h1,h2,h3⟩ | ⟨h1,h2,h3⟩
      . refine .inr ⟨x,by omega,by rw [keep x hx0];exact hx0,h1,?_⟩
        rw [h2,keep x hx0,<- hd]
      . rw [h2] at hp;exact absurd hp hn
  . intro j hj y hy
    have hg:(bfsIn d (L.getD x []) st).2.getD j 0=st.2.getD j 0:=by
      obtain ⟨t,ht⟩:=hpre
      rw [<- ht,List.getD_eq_getElem?_getD,List.getElem?_append_left (by omega),<- List.getD_eq_getElem?_getD]
    rw [hg] at hy
    by_cases hn:0<=st.1.getD y.toNat 0
    . rw [keep _ hn];exact hn
    . by_cases e:j=k
      . subst e
        rw [hx] at hy
        have hr:=hl y hy
        rcases new y.toNat (by omega) (by omega) with ⟨h1,h2,h3⟩ | ⟨h1,h2,h3⟩
        . rw [h2];omega
        . rw [Int.toNat_of_nonneg hr.1] at h1;exact absurd hy h1
      . exact absurd (h.cl j (by omega) y hy) hn
  . have:=hpre.length_le
    omega
  . rw [keep i h.at_];exact h.at_
theorem DI.run {L:List (List Int)}(hL:LOk L.length L){i:Nat}:∀ (f:Nat) (st:List Int × List Int) (k:Nat),f+k=L.length+1->DI L i st k->∃ q,DI L i (bfsF L f st k,q) q.length
  | 0,st,k,hf,h=>by have:=h.bi.len_le;have:=h.le;omega
  | f+1,st,k,hf,h=>by
    simp only [bfsF]
    split
    . rename_i hk
      exact DI.run hL f _ _ (by omega) (h.step hL hk)
    . have e:k=st.2.length:=by have:=h.le;omega
      exact ⟨st.2,by rw [<- e];exact h⟩
theorem DI.zero {L:List (List Int)}{i:Nat}(hi:i<L.length):DI L i (bfs0 L.length i,[(i:Int)]) 0:=by
  have hat:∀ v,v<L.length->(bfs0 L.length i).getD v 0=if i=v then 0 else -1:=by
    intro v hv
    unfold bfs0
    rw [getD_setB _ _ _ _ (by simpa using hv)]
    split
    . rfl
    . rw [List.getD_eq_getElem?_getD,List.getElem?_replicate,if_pos hv];rfl
  refine ⟨bfs0_BI _ i hi,?_,?_,fun j hj=>absurd hj (Nat.not_lt_zero j),Nat.zero_le _,?_⟩
  . intro v hv
    show 0<=(bfs0 L.length i).getD v 0↔(v:Int) ∈ [(i:Int)]
    rw [hat v hv,List.mem_singleton]
    split <;> omega
  . intro v hv h
    left
    have h':0<=(bfs0 L.length i).getD v 0:=h
    rw [hat v hv] at h'
    show v=i/\(bfs0 L.length i).getD v 0=0
    rw [hat v hv]
    by_cases e:i=v
    . exact ⟨e.symm,by rw [if_pos e]⟩
    . rw [if_neg e] at h';omega
  . show 0<=(bfs0 L.length i).getD i 0
    rw [hat i hi,if_pos rfl];omega
theorem bfs_DI {L:List (List Int)}(hL:LOk L.length L){i:Nat}(hi:i<L.length):∃ q,DI L i (bfs L i,q) q.length:=DI.run hL _ _ _ (by omega) (DI.zero hi)
theorem bfs_clo {L:List (List Int)}(hL:LOk L.length L){i:Nat}(hi:i<L.length){u:Nat}(hu:u<L.length)(h0:0<=(bfs L i).getD u 0){y:Int}(hy:y ∈ L.getD u []):0<=(bfs L i).getD y.toNat 0:=by
  obtain ⟨q,h⟩:=bfs_DI hL hi
  obtain ⟨j,hj,e⟩:=List.mem_iff_getElem.1 ((h.iff u hu).1 h0)
  refine h.cl j hj y ?_
  have e2:q.getD j 0=(u:Int):=by simp [hj,e]
  show y ∈ L.getD (q.getD j 0).toNat []
  rw [e2,Int.toNat_natCast];exact hy
def dq (st:List Int × List Int)(a:Nat):Int:=st.1.getD (st.2.getD a 0).toNat 0
theorem bfsIn_mono (d:Int)(hd:0<=d):∀ (l:List Int) (st:List Int × List Int),(∀ y ∈ l,0<=y/\y<st.1.length)->(∀ x ∈ st.2,(0<=x/\x<st.1.length)/\0<=st.1.getD x.toNat 0) ->
    (∀ a b,a<=b->b<st.2.length->dq st a<=dq st b)->(∀ b,b<st.2.length->dq st b<=d) ->
    (∀ a b,a<=b->b<(bfsIn d l st).2.length->dq (bfsIn d l st) a<=dq (bfsIn d l st) b)/\∀ b,b<(bfsIn d l st).2.length->dq (bfsIn d l st) b<=d
  | [],st,_,_,h1,h2=>⟨h1,h2⟩
  | j :: r,st,hl,hq,h1,h2=>by
    have hj:=hl j (by simp)
    simp only [bfsIn]
    split
    . rename_i hn
      have keep:∀ a,a<st.2.length->dq (st.1.set j.toNat d,st.2 ++ [j]) a=dq st a:=by
        intro a ha
        have hm:st.2.getD a 0 ∈ st.2:=by simp [ha]
        have hx:=hq _ hm
        unfold dq
        have e1:(st.2 ++ [j]).getD a 0=st.2.getD a 0:=by
          rw [List.getD_eq_getElem?_getD,List.getElem?_append_left ha,<- List.getD_eq_getElem?_getD]
        show (st.1.set j.toNat d).getD ((st.2 ++ [j]).getD a 0).toNat 0=_
        rw [e1,getD_setB _ _ _ _ (by omega),if_neg (fun e=>by rw [e] at hn;omega)]
      have last:dq (st.1.set j.toNat d,st.2 ++ [j]) st.2.length=d:=by
        unfold dq
        show (st.1.set j.toNat d).getD ((st.2 ++ [j]).getD st.2.length 0).toNat 0=d
        rw [show (st.2 ++ [j]).getD st.2.length 0=j by simp,getD_setB _ _ _ _ (by omega),if_pos rfl]
      refine bfsIn_mono d hd r _ (fun y hy=>by simpa using hl y (by simp [hy])) ?_ ?_ ?_
      . intro x hx
        rcases List.mem_append.1 hx with hx | hx
        . have:=hq x hx
          refine ⟨by simpa using this.1,?_⟩
          show 0<=(st.1.set j.toNat d).getD x.toNat 0
          rw [getD_setB _ _ _ _ (by omega)]
          split <;> omega
        . rw [List.mem_singleton] at hx;subst hx
          refine ⟨by simpa using hj,?_⟩
          show 0<=(st.1.set x.toNat d).getD x.toNat 0
          rw [getD_setB _ _ _ _ (by omega),if_pos rfl];exact hd
      . intro a b hab hb
        have hb':b<st.2.length+1:=by simpa using hb
        by_cases eb:b=st.2.length
        . subst eb
          rw [last]
          by_cases ea:a=st.2.length
          . subst ea;rw [last];exact Int.le_refl _
          . rw [keep a (by omega)];exact h2 a (by omega)
        . rw [keep b (by omega),keep a (by omega)];exact h1 a b hab (by omega)
      . intro b hb
        have hb':b<st.2.length+1:=by simpa using hb
        by_cases eb:b=st.2.length
        . subst eb;rw [last];exact Int.le_refl _
        . rw [keep b (by omega)];exact h2 b (by omega)
    . exact bfsIn_mono d hd r st (fun y hy=>hl y (by simp [hy])) hq h1 h2
structure DS (L:List (List Int)) (i:Nat) (st:List Int × List Int) (k:Nat):Prop where
  di:DI L i st k
  zero:st.1.getD i 0=0
  mono:∀ a b,a<=b->b<st.2.length->dq st a<=dq st b
  near:∀ a b,k<=a->a<st.2.length->b<st.2.length->dq st b<=dq st a+1
  ed:∀ a,a<k->∀ y ∈ L.getD (st.2.getD a 0).toNat [],0<=st.1.getD y.toNat 0/\st.1.getD y.toNat 0<=dq st a+1
theorem DS.step {L:List (List Int)}(hL:LOk L.length L){i:Nat}(hi:i<L.length){st:List Int × List Int}{k:Nat}(h:DS L i st k)(hk:k<st.2.length) :
    DS L i (bfsIn (st.1.getD (st.2.getD k 0).toNat 0+1) (L.getD (st.2.getD k 0).toNat []) st) (k+1):=by
  have hd1:=h.di.step hL hk
  have hm:st.2.getD k 0 ∈ st.2:=by simp [hk]
  obtain ⟨hxr,hx0⟩:=h.di.bi.q _ hm
  have hlen:=h.di.bi.len
  have hl:=hL (st.2.getD k 0).toNat
  have hdk:dq st k+1=st.1.getD (st.2.getD k 0).toNat 0+1:=rfl
  have hl':∀ y ∈ L.getD (st.2.getD k 0).toNat [],0<=y/\y<(st.1.length:Int):=by rw [hlen];exact hl
  have hmono:=bfsIn_mono (dq st k+1) (by unfold dq;omega) _ st hl' (fun x hx=>by have:=h.di.bi.q x hx;rw [hlen];exact this) h.mono (fun b hb=>h.near k b (Nat.le_refl _) hk hb)
  have hpre:=bfsIn_pre (dq st k+1) (L.getD (st.2.getD k 0).toNat []) st
  have keep:∀ v,0<=st.1.getD v 0->_:=fun v hv=>bfsIn_keep (dq st k+1) v (L.getD (st.2.getD k 0).toNat []) st hl' hv
  have gq:∀ a,a<st.2.length->(bfsIn (dq st k+1) (L.getD (st.2.getD k 0).toNat []) st).2.getD a 0=st.2.getD a 0:=by
    intro a ha
    obtain ⟨t,ht⟩:=hpre
    rw [<- ht,List.getD_eq_getElem?_getD,List.getElem?_append_left ha,<- List.getD_eq_getElem?_getD]
  have kq:∀ a,a<st.2.length->dq (bfsIn (dq st k+1) (L.getD (st.2.getD k 0).toNat []) st) a=dq st a:=by
    intro a ha
    have hma:st.2.getD a 0 ∈ st.2:=by simp [ha]
    unfold dq at *
    rw [gq a ha]
    exact keep _ (h.di.bi.q _ hma).2
  have hpl:=hpre.length_le
  rw [<- hdk] at hd1 ⊢
  refine ⟨hd1,?_,hmono.1,?_,?_⟩
  . rw [keep i (by rw [h.zero];exact Int.le_refl _)];exact h.zero
  . intro a b ha hal hb
    have h1:=hmono.2 b hb
    have h2:=hmono.1 k a (by omega) hal
    rw [kq k hk] at h2
    omega
  . intro a ha y hy
    rw [gq a (by omega)] at hy
    by_cases e:a=k
    . subst e
      rw [kq a hk]
      have hyr:=hl y hy
      by_cases hn:0<=st.1.getD y.toNat 0
      . rw [keep _ hn]
        refine ⟨hn,?_⟩
        have hin:=(h.di.iff y.toNat (by omega)).1 hn
        rw [Int.toNat_of_nonneg hyr.1] at hin
        obtain ⟨b,hb,eb⟩:=List.mem_iff_getElem.1 hin
        have e2:st.2.getD b 0=y:=by simp [hb,eb]
        have:=h.near a b (Nat.le_refl _) hk hb
        have e3:dq st b=st.1.getD y.toNat 0:=by unfold dq;rw [e2]
        rw [e3] at this;exact this
      . rcases bfsIn_new (dq st a+1) (by unfold dq;omega) y.toNat _ st hl' (by omega) (by omega) with ⟨_,g2,_⟩ | ⟨g1,_⟩
        . rw [g2];exact ⟨by unfold dq;omega,Int.le_refl _⟩
        . rw [Int.toNat_of_nonneg hyr.1] at g1;exact absurd hy g1
    . rw [kq a (by omega)]
      have h1:=h.ed a (by omega) y hy
      rw [keep _ h1.1];exact h1
theorem DS.run {L:List (List Int)}(hL:LOk L.length L){i:Nat}(hi:i<L.length):∀ (f:Nat) (st:List Int × List Int) (k:Nat),f+k=L.length+1->DS L i st k->∃ q,DS L i (bfsF L f st k,q) q.length
  | 0,st,k,hf,h=>by have:=h.di.bi.len_le;have:=h.di.le;omega
  | f+1,st,k,hf,h=>by
    simp only [bfsF]
    split
    . rename_i hk
      exact DS.run hL hi f _ _ (by omega) (h.step hL hi hk)
    . have e:k=st.2.length:=by have:=h.di.le;omega
      exact ⟨st.2,by rw [<- e];exact h⟩
theorem bfs_DS {L:List (List Int)}(hL:LOk L.length L){i:Nat}(hi:i<L.length):∃ q,DS L i (bfs L i,q) q.length:=by
  refine DS.run hL hi _ _ _ (by omega) ⟨DI.zero hi,?_,?_,?_,fun a ha=>absurd ha (Nat.not_lt_zero a)⟩
  . show (bfs0 L.length i).getD i 0=0
    unfold bfs0
    rw [getD_setB _ _ _ _ (by simpa using hi),if_pos rfl]
  . intro a b hab hb
    have hb':b<1:=hb
    have e1:a=0:=by omega
    have e2:b=0:=by omega
    rw [e1,e2];exact Int.le_refl _
  . intro a b _ ha hb
    have ha':a<1:=ha
    have hb':b<1:=hb
    have e1:a=0:=by omega
    have e2:b=0:=by omega
    rw [e1,e2];omega
theorem bfs_zero {L:List (List Int)}(hL:LOk L.length L){i:Nat}(hi:i<L.length):(bfs L i).getD i 0=0:=by
  obtain ⟨q,h⟩:=bfs_DS hL hi
  exact h.zero
theorem bfs_edge {L:List (List Int)}(hL:LOk L.length L){i:Nat}(hi:i<L.length){u:Nat}(hu:u<L.length)(h0:0<=(bfs L i).getD u 0){y:Int}(hy:y ∈ L.getD u []):0<=(bfs L i).getD y.toNat 0/\(bfs L i).getD y.toNat 0<=(bfs L i).getD u 0+1:=by
  obtain ⟨q,h⟩:=bfs_DS hL hi
  obtain ⟨j,hj,e⟩:=List.mem_iff_getElem.1 ((h.di.iff u hu).1 h0)
  have e2:q.getD j 0=(u:Int):=by simp [hj,e]
  have:=h.ed j hj y (by show y ∈ L.getD (q.getD j 0).toNat [];rw [e2,Int.toNat_natCast];exact hy)
  have e3:dq (bfs L i,q) j=(bfs L i).getD u 0:=by unfold dq;show (bfs L i).getD (q.getD j 0).toNat 0=_;rw [e2,Int.toNat_natCast]
  rw [e3] at this
  exact this
def Sym (L:List (List Int)):Prop:=∀ u v:Nat,u<L.length->v<L.length->(v:Int) ∈ L.getD u []->(u:Int) ∈ L.getD v []
theorem bfs_back {L:List (List Int)}(hL:LOk L.length L)(hs:Sym L){i w:Nat}(hi:i<L.length)(hw:w<L.length):∀ (d:Nat) (v:Nat),v<L.length->(bfs L i).getD v 0=d->∀ e:Nat,(bfs L w).getD v 0=e->0<=(bfs L w).getD i 0/\(bfs L w).getD i 0<=(e:Int)+d:=by
  obtain ⟨q,h⟩:=bfs_DS hL hi
  intro d
  induction d with
  | zero =>
    intro v hv hd e he
    rcases h.di.src v hv (show 0<=(bfs L i).getD v 0 by omega) with ⟨e1,_⟩ | ⟨u,u1,u2,u3,u4⟩
    . subst e1;rw [he];omega
    . have u2':0<=(bfs L i).getD u 0:=u2
      have u4':(bfs L i).getD v 0=(bfs L i).getD u 0+1:=u4
      omega
  | succ d ih =>
    intro v hv hd e he
    rcases h.di.src v hv (show 0<=(bfs L i).getD v 0 by omega) with ⟨_,e1⟩ | ⟨u,u1,u2,u3,u4⟩
    . have e1':(bfs L i).getD v 0=0:=e1
      omega
    . have u4':(bfs L i).getD v 0=(bfs L i).getD u 0+1:=u4
      have hb:=bfs_edge hL hw hv (by omega) (hs u v u1 hv u3)
      rw [Int.toNat_natCast] at hb
      have:=ih u u1 (by omega) ((bfs L w).getD u 0).toNat (by omega)
      omega
theorem bfs_sym {L:List (List Int)}(hL:LOk L.length L)(hs:Sym L){i j:Nat}(hi:i<L.length)(hj:j<L.length)(h0:0<=(bfs L i).getD j 0):(bfs L j).getD i 0=(bfs L i).getD j 0:=by
  have zi:=bfs_zero hL hi
  have zj:=bfs_zero hL hj
  have h1:=bfs_back hL hs hi hj ((bfs L i).getD j 0).toNat j hj (by omega) 0 (by omega)
  have h2:=bfs_back hL hs hj hi ((bfs L j).getD i 0).toNat i hi (by omega) 0 (by omega)
  omega
def cd74:Cd:=(.seq (.reg [⟨⟨some 4,.assign (.const (.slice none 0 0)),none⟩,[]⟩]) (.seq (.reg [⟨⟨some 10,.buildSlice 27 1 #[(0,(.const (.int .i64 (-1))))],none⟩,[]⟩,⟨⟨some 11,.move (.tmp 0),none⟩,[]⟩,⟨⟨some 12,.call ⟨(.builtin .len),#[.tmp 11],#[36]⟩,none⟩,[]⟩,⟨⟨some 13,.call ⟨(.value (.func 157)),#[.tmp 10,.tmp 12],#[27,3]⟩,none⟩,[]⟩,⟨⟨some 5,.assign (.tmp 13),none⟩,[]⟩]) (.seq (.reg [⟨⟨some 14,.move (.tmp 5),none⟩,[]⟩,⟨⟨some 15,.move (.tmp 1),none⟩,[]⟩,⟨⟨some 16,.indexAddr 27 (.tmp 14) (.tmp 15),none⟩,[]⟩,⟨⟨none,.store 3 (.tmp 16) (.const (.int .i64 0)),none⟩,[]⟩]) (.seq (.reg [⟨⟨some 17,.move (.tmp 1),none⟩,[]⟩,⟨⟨some 18,.buildSlice 27 1 #[(0,.tmp 17)],none⟩,[]⟩,⟨⟨some 6,.assign (.tmp 18),none⟩,[]⟩]) (.seq (.block 0 (.loop (.seq (.seq (.reg [⟨⟨some 19,.move (.tmp 6),none⟩,[]⟩,⟨⟨some 20,.call ⟨(.builtin .len),#[.tmp 19],#[27]⟩,none⟩,[]⟩,⟨⟨some 21,.binOp .gtr 3 (.tmp 20) (.const (.int .i64 0)) 3,none⟩,[]⟩]) (.cond (.tmp 21) .skip (.exit 0))) (.block 1 (.seq (.reg [⟨⟨some 22,.move (.tmp 6),none⟩,[]⟩,
 ⟨⟨some 23,.indexAddr 27 (.tmp 22) (.const (.int .i64 0)),none⟩,[]⟩,⟨⟨some 24,.load 3 (.tmp 23),none⟩,[]⟩,⟨⟨some 7,.assign (.tmp 24),none⟩,[]⟩]) (.seq (.reg [⟨⟨some 25,.move (.tmp 6),none⟩,[]⟩,⟨⟨some 26,.slice 27 (.tmp 25) (some (.const (.int .i64 1))) none none,none⟩,[]⟩,⟨⟨some 6,.assign (.tmp 26),none⟩,[]⟩]) (.seq (.reg [⟨⟨some 27,.move (.tmp 0),none⟩,[]⟩,⟨⟨some 28,.move (.tmp 7),none⟩,[]⟩,⟨⟨some 29,.indexAddr 36 (.tmp 27) (.tmp 28),none⟩,[]⟩,⟨⟨some 30,.load 27 (.tmp 29),none⟩,[]⟩,⟨⟨some 31,.call ⟨(.builtin .len),#[.tmp 30],#[27]⟩,none⟩,[]⟩,⟨⟨some 32,.move (.const (.int .i64 0)),none⟩,[]⟩]) (.block 2 (.loop (.seq (.reg [⟨⟨some 33,.binOp .lss 3 (.tmp 32) (.tmp 31) 3,none⟩,[]⟩]) (.seq (.cond (.tmp 33) .skip (.exit 2)) (.seq (.block 3 (.seq (.reg [⟨⟨some 34,.indexAddr 27 (.tmp 30) (.tmp 32),none⟩,[]⟩,⟨⟨some 35,.load 3 (.tmp 34),none⟩,[]⟩,⟨⟨some 9,.assign (.tmp 35),none⟩,[]⟩]) (.seq (.reg [⟨⟨some 36,.move (.tmp 5),none⟩,[]⟩,
 ⟨⟨some 37,.move (.tmp 9),none⟩,[]⟩,⟨⟨some 38,.indexAddr 27 (.tmp 36) (.tmp 37),none⟩,[]⟩,⟨⟨some 39,.load 3 (.tmp 38),none⟩,[]⟩,⟨⟨some 40,.binOp .lss 3 (.tmp 39) (.const (.int .i64 0)) 3,none⟩,[]⟩]) (.cond (.tmp 40) (.seq (.reg [⟨⟨some 41,.move (.tmp 5),none⟩,[]⟩,⟨⟨some 42,.move (.tmp 9),none⟩,[]⟩,⟨⟨some 43,.move (.tmp 5),none⟩,[]⟩,⟨⟨some 44,.move (.tmp 7),none⟩,[]⟩,⟨⟨some 45,.indexAddr 27 (.tmp 43) (.tmp 44),none⟩,[]⟩,⟨⟨some 46,.load 3 (.tmp 45),none⟩,[]⟩,⟨⟨some 47,.binOp .add 3 (.tmp 46) (.const (.int .i64 1)) 3,none⟩,[]⟩,⟨⟨some 48,.indexAddr 27 (.tmp 41) (.tmp 42),none⟩,[]⟩,⟨⟨none,.store 3 (.tmp 48) (.tmp 47),none⟩,[]⟩]) (.reg [⟨⟨some 49,.move (.tmp 6),none⟩,[]⟩,
 ⟨⟨some 50,.move (.tmp 9),none⟩,[]⟩,
  ⟨⟨some 51,.buildSlice 27 1 #[(0,.tmp 50)],none⟩,[]⟩,
  ⟨⟨some 52,.call ⟨(.builtin .append),#[.tmp 49,.tmp 51],#[27,27]⟩,none⟩,[]⟩,
  ⟨⟨some 6,.assign (.tmp 52),none⟩,[]⟩])) .skip)))) (.reg [⟨⟨some 53,.binOp .add 3 (.tmp 32) (.const (.int .i64 1)) 3,none⟩,[]⟩,
  ⟨⟨some 32,.move (.tmp 53),none⟩,[]⟩]))))))))))))) (.seq (.reg [⟨⟨some 54,.move (.tmp 5),none⟩,[]⟩,
  ⟨⟨some 4,.assign (.tmp 54),none⟩,[]⟩]) .ret))))))
theorem in74:InT Tryz.prog 74 2 [.tmp 4] cd74:=InT.mk (by kernel_rfl) [] Tryz.func74 rfl (by kernel_rfl) (by kernel_rfl) (of_decide_eq_true (by kernel_rfl)) (by kernel_rfl)
def cd160:Cd:=(.seq (.reg [⟨⟨some 4,.assign (.const (.slice none 0 0)),none⟩,[]⟩]) (.seq (.reg [⟨⟨some 11,.move (.tmp 0),none⟩,[]⟩,⟨⟨some 12,.call ⟨(.builtin .len),#[.tmp 11],#[36]⟩,none⟩,[]⟩,⟨⟨some 13,.makeSlice 27 (.tmp 12) (.tmp 12),none⟩,[]⟩,⟨⟨some 5,.assign (.tmp 13),none⟩,[]⟩]) (.seq (.seq (.reg [⟨⟨some 6,.assign (.const (.int .i64 0)),none⟩,[]⟩]) (.block 0 (.loop (.seq (.seq (.reg [⟨⟨some 14,.move (.tmp 6),none⟩,[]⟩,⟨⟨some 15,.move (.tmp 5),none⟩,[]⟩,⟨⟨some 16,.call ⟨(.builtin .len),#[.tmp 15],#[27]⟩,none⟩,[]⟩,⟨⟨some 17,.binOp .lss 3 (.tmp 14) (.tmp 16) 3,none⟩,[]⟩]) (.cond (.tmp 17) .skip (.exit 0))) (.seq (.block 1 (.reg [⟨⟨some 20,.move (.tmp 5),none⟩,[]⟩,⟨⟨some 21,.move (.tmp 6),none⟩,[]⟩,⟨⟨some 22,.indexAddr 27 (.tmp 20) (.tmp 21),none⟩,[]⟩,⟨⟨none,.store 3 (.tmp 22) (.const (.int .i64 (-1))),none⟩,[]⟩])) (.reg [⟨⟨some 18,.move (.tmp 6),none⟩,[]⟩,⟨⟨some 19,.binOp .add 3 (.tmp 18) (.const (.int .i64 1)) 3,none⟩,[]⟩,⟨⟨some 6,.assign (.tmp 19),none⟩,[]⟩])))))) (.seq (.reg [⟨⟨some 23,.move (.tmp 1),none⟩,[]⟩,
 ⟨⟨some 24,.buildSlice 27 1 #[(0,.tmp 23)],none⟩,[]⟩,⟨⟨some 7,.assign (.tmp 24),none⟩,[]⟩]) (.seq (.reg [⟨⟨some 25,.move (.tmp 5),none⟩,[]⟩,⟨⟨some 26,.move (.tmp 1),none⟩,[]⟩,⟨⟨some 27,.indexAddr 27 (.tmp 25) (.tmp 26),none⟩,[]⟩,⟨⟨none,.store 3 (.tmp 27) (.const (.int .i64 0)),none⟩,[]⟩]) (.seq (.seq (.reg [⟨⟨some 8,.assign (.const (.int .i64 0)),none⟩,[]⟩]) (.block 2 (.loop (.seq (.seq (.reg [⟨⟨some 28,.move (.tmp 8),none⟩,[]⟩,⟨⟨some 29,.move (.tmp 7),none⟩,[]⟩,⟨⟨some 30,.call ⟨(.builtin .len),#[.tmp 29],#[27]⟩,none⟩,[]⟩,⟨⟨some 31,.binOp .lss 3 (.tmp 28) (.tmp 30) 3,none⟩,[]⟩]) (.cond (.tmp 31) .skip (.exit 2))) (.seq (.block 3 (.seq (.reg [⟨⟨some 34,.move (.tmp 0),none⟩,[]⟩,⟨⟨some 35,.move (.tmp 7),none⟩,[]⟩,⟨⟨some 36,.move (.tmp 8),none⟩,[]⟩,⟨⟨some 37,.indexAddr 27 (.tmp 35) (.tmp 36),none⟩,[]⟩,⟨⟨some 38,.load 3 (.tmp 37),none⟩,[]⟩,
 ⟨⟨some 39,.indexAddr 36 (.tmp 34) (.tmp 38),none⟩,[]⟩,⟨⟨some 40,.load 27 (.tmp 39),none⟩,[]⟩,⟨⟨some 9,.assign (.tmp 40),none⟩,[]⟩]) (.seq (.reg [⟨⟨some 10,.assign (.const (.int .i64 0)),none⟩,[]⟩]) (.block 4 (.loop (.seq (.seq (.reg [⟨⟨some 41,.move (.tmp 10),none⟩,[]⟩,⟨⟨some 42,.move (.tmp 9),none⟩,[]⟩,⟨⟨some 43,.call ⟨(.builtin .len),#[.tmp 42],#[27]⟩,none⟩,[]⟩,⟨⟨some 44,.binOp .lss 3 (.tmp 41) (.tmp 43) 3,none⟩,[]⟩]) (.cond (.tmp 44) .skip (.exit 4))) (.seq (.block 5 (.seq (.reg [⟨⟨some 47,.move (.tmp 5),none⟩,[]⟩,⟨⟨some 48,.move (.tmp 9),none⟩,[]⟩,⟨⟨some 49,.move (.tmp 10),none⟩,[]⟩,⟨⟨some 50,.indexAddr 27 (.tmp 48) (.tmp 49),none⟩,[]⟩,⟨⟨some 51,.load 3 (.tmp 50),none⟩,[]⟩,⟨⟨some 52,.indexAddr 27 (.tmp 47) (.tmp 51),none⟩,[]⟩,⟨⟨some 53,.load 3 (.tmp 52),none⟩,[]⟩,
 ⟨⟨some 54,.binOp .lss 3 (.tmp 53) (.const (.int .i64 0)) 3,none⟩,[]⟩]) (.cond (.tmp 54) (.seq (.reg [⟨⟨some 55,.move (.tmp 5),none⟩,[]⟩,⟨⟨some 56,.move (.tmp 9),none⟩,[]⟩,⟨⟨some 57,.move (.tmp 10),none⟩,[]⟩,⟨⟨some 58,.indexAddr 27 (.tmp 56) (.tmp 57),none⟩,[]⟩,⟨⟨some 59,.load 3 (.tmp 58),none⟩,[]⟩,⟨⟨some 60,.move (.tmp 5),none⟩,[]⟩,⟨⟨some 61,.move (.tmp 7),none⟩,[]⟩,⟨⟨some 62,.move (.tmp 8),none⟩,[]⟩,⟨⟨some 63,.indexAddr 27 (.tmp 61) (.tmp 62),none⟩,[]⟩,⟨⟨some 64,.load 3 (.tmp 63),none⟩,[]⟩,⟨⟨some 65,.indexAddr 27 (.tmp 60) (.tmp 64),none⟩,[]⟩,⟨⟨some 66,.load 3 (.tmp 65),none⟩,[]⟩,
 ⟨⟨some 67,.binOp .add 3 (.tmp 66) (.const (.int .i64 1)) 3,none⟩,[]⟩,⟨⟨some 68,.indexAddr 27 (.tmp 55) (.tmp 59),none⟩,[]⟩,⟨⟨none,.store 3 (.tmp 68) (.tmp 67),none⟩,[]⟩]) (.reg [⟨⟨some 69,.move (.tmp 7),none⟩,[]⟩,⟨⟨some 70,.move (.tmp 9),none⟩,[]⟩,⟨⟨some 71,.move (.tmp 10),none⟩,[]⟩,⟨⟨some 72,.indexAddr 27 (.tmp 70) (.tmp 71),none⟩,[]⟩,⟨⟨some 73,.load 3 (.tmp 72),none⟩,[]⟩,⟨⟨some 74,.buildSlice 27 1 #[(0,.tmp 73)],none⟩,[]⟩,⟨⟨some 75,.call ⟨(.builtin .append),#[.tmp 69,.tmp 74],#[27,27]⟩,none⟩,[]⟩,⟨⟨some 7,.assign (.tmp 75),none⟩,[]⟩])) .skip))) (.reg [⟨⟨some 45,.move (.tmp 10),none⟩,[]⟩,⟨⟨some 46,.binOp .add 3 (.tmp 45) (.const (.int .i64 1)) 3,none⟩,[]⟩,⟨⟨some 10,.assign (.tmp 46),none⟩,[]⟩])))))))) (.reg [⟨⟨some 32,.move (.tmp 8),none⟩,[]⟩,
 ⟨⟨some 33,.binOp .add 3 (.tmp 32) (.const (.int .i64 1)) 3,none⟩,[]⟩,
  ⟨⟨some 8,.assign (.tmp 33),none⟩,[]⟩])))))) (.seq (.reg [⟨⟨some 76,.move (.tmp 5),none⟩,[]⟩,
  ⟨⟨some 4,.assign (.tmp 76),none⟩,[]⟩]) .ret)))))))
theorem in160:InT Tryz.prog 160 2 [.tmp 4] cd160:=InT.mk (by kernel_rfl) [(16,[(0,false),(1,false),(2,false),(3,false),(4,false),(5,false),(6,false),(7,false),(8,false),(9,false),(10,false),(11,false),(12,false),(13,false),(14,true)])] Tryz.func160 rfl (by kernel_rfl) (by kernel_rfl) (of_decide_eq_true (by kernel_rfl)) (by kernel_rfl)
end Go.Proofs.YtjnefjchconebaaGreat.Ai
namespace Go.Proofs.YtjnefjchconebaaGreat.Ai
open Go Go.RowKit
def QH (H0 H:AH)(oo:Nat)(out:List Int)(oq kq nq:Nat)(q:List Int):Prop :=
  (∃ zs,H[oq]?=some (.cells (ints zs) 3 false)/\(zs.drop kq).take nq=q/\kq+nq<=zs.length)/\H[oo]?=some (.cells (ints out) 3 false)/\H0.length<=oo/\H0.length<=oq/\oq ≠ oo/\H0<+:H
theorem app_q {P:Program}{t e:TypeId}(hu:P.underlying t=some (.slice e))(hc:P.cellsOf e=1)(hby:P.bytesOf e<=64)(hz:zeroOk P e=true){H:AH}{o k n c:Nat}{zs:List Int}{x:Int}(ho:H[o]?=some (.cells (ints zs) e false))(hn:k+n<=zs.length)(hb:n<=1099511627775) :
    appendA P t t (.slice (some ⟨o,k,none⟩) n c) (.slice (some ⟨H.length,0,none⟩) 1 1) (H ++ [.cells [.int .i64 x] e false])=some (.slice (some ⟨H.length+1,0,none⟩) (n+1) (n+1),H.set o .dead ++ [.cells [.int .i64 x] e false,.cells (ints ((zs.drop k).take n ++ [x])) e false]):=by
  have hlt:o<H.length:=at_lt ho
  have hb2:(n+1) * P.bytesOf e<=140737488355328:=by
    refine Nat.le_trans (Nat.mul_le_mul_left _ hby) ?_
    omega
  have ho2:(H ++ [AObj.cells [.int .i64 x] e false])[o]?=some (.cells (ints zs) e false):=at_app ho _
  have hsc:sliceCells P e (.slice (some ⟨H.length,0,none⟩) 1 1) (H ++ [.cells [.int .i64 x] e false])=some (1,[.int .i64 x]):=by
    simp only [sliceCells,at_new,hc];simp
  simp only [appendA,hu,hc,hsc,ho2,hz]
  rw [if_pos (by simp),if_neg (by simp),if_pos ⟨trivial,by rw [ints_len];omega,hb2,by omega,trivial⟩]
  have:List.take (n * 1) (List.drop k (ints zs)) ++ [Value.int .i64 x]=ints ((zs.drop k).take n ++ [x]):=by
    simp [ints,List.map_take,List.map_drop]
  rw [this,List.length_append,List.set_append_left _ _ hlt]
  simp
theorem QH.push {H0 H:AH}{oo:Nat}{out:List Int}{oq kq nq:Nat}{q:List Int}(h:QH H0 H oo out oq kq nq q)(y:Nat)(d x:Int)(hb:nq<=1099511627775) :
    ∃ H2,appendA Tryz.prog 27 27 (.slice (some ⟨oq,kq,none⟩) nq nq) (.slice (some ⟨(H.set oo (.cells (ints (out.set y d)) 3 false)).length,0,none⟩) 1 1) (H.set oo (.cells (ints (out.set y d)) 3 false) ++ [.cells [.int .i64 x] 3 false])=some (.slice (some ⟨(H.set oo (.cells (ints (out.set y d)) 3 false)).length+1,0,none⟩) (nq+1) (nq+1),H2) /\
      QH H0 H2 oo (out.set y d) ((H.set oo (.cells (ints (out.set y d)) 3 false)).length+1) 0 (nq+1) (q ++ [x]):=by
  obtain ⟨⟨zs,h1,h2,h3⟩,h4,h5,h6,h7,h8⟩:=h
  have hlt:=at_lt h4
  generalize hH1:H.set oo (.cells (ints (out.set y d)) 3 false)=H1
  have l1:H1.length=H.length:=by rw [<- hH1];simp
  have k1:H1[oq]?=some (.cells (ints zs) 3 false):=by rw [<- hH1,List.getElem?_set_ne (fun e=>h7 e.symm)];exact h1
  have k4:H1[oo]?=some (.cells (ints (out.set y d)) 3 false):=by rw [<- hH1];exact at_set h4
  have hp1:H0<+:H1:=by rw [<- hH1];exact pre_set h8 h5 _
  refine ⟨_,app_q Tryz.underlying27 cs3 (by rw [by3];decide) zk3 k1 h3 hb,⟨(zs.drop kq).take nq ++ [x],?_,?_,?_⟩,?_,h5,?_,?_,?_⟩
  . rw [List.getElem?_append_right (by simp)]
    simp
  . rw [List.drop_zero,h2,List.take_of_length_le]
    rw [<- h2];simp;omega
  . simp;omega
  . rw [List.getElem?_append_left (by simp;omega),List.getElem?_set_ne h7]
    exact k4
  . have:=h8.length_le;omega
  . omega
  . exact pre_app (pre_set hp1 h6 _) _
theorem QH.tail {H0 H:AH}{oo:Nat}{out:List Int}{oq kq nq:Nat}{x:Int}{q:List Int}(h:QH H0 H oo out oq kq nq (x :: q)):QH H0 H oo out oq (kq+1) (nq - 1) q/\cellA H oq kq=some (.int .i64 x)/\0<nq:=by
  obtain ⟨⟨zs,h1,h2,h3⟩,h4⟩:=h
  have hl:=congrArg List.length h2
  simp only [List.length_take,List.length_drop,List.length_cons] at hl
  have hk:kq<zs.length:=by omega
  obtain ⟨n,rfl⟩:∃ n,nq=n+1:=⟨nq - 1,by omega⟩
  rw [List.drop_eq_getElem_cons hk,List.take_succ_cons] at h2
  injection h2 with e1 e2
  refine ⟨⟨⟨zs,h1,by simpa using e2,by omega⟩,h4⟩,?_,by omega⟩
  rw [cell_of h1,ints_at zs hk]
  congr 2
  simp [hk,e1]
theorem bfsIn_drop (d:Int)(l:List Int)(j:Nat)(hj:j<l.length)(st:List Int × List Int):bfsIn d (l.drop j) st=if st.1.getD (l.getD j 0).toNat 0<0 then bfsIn d (l.drop (j+1)) (st.1.set (l.getD j 0).toNat d,st.2 ++ [l.getD j 0]) else bfsIn d (l.drop (j+1)) st:=by
  have e:l.getD j 0=l[j]:=by simp [hj]
  rw [List.drop_eq_getElem_cons hj,e]
  rfl
theorem spread_c (v:Value)(L:List (List Int))(i:Nat)(H:AH){b:Nat}(hr:RowLB b 27 3 H v L)(hL:LOk L.length L)(hN:L.length<=1000000)(hi:i<L.length)(hls:∀ x,(L.getD x []).length<=1000000000) :
    ACalls Tryz.prog 74 [v,.int .i64 (i:Int)] H fun r H'=>Own 3 H H' r (bfs L i)/\H<+:H':=by
  refine in74 rfl ?_
  intro Q hQ
  obtain ⟨us,hus,hvb,hul,hin⟩:=hr
  simp (disch:=omega) only [cd74,hus.len Tryz.underlying36,SS,eq_self,reduceIte,reduceCtorEq,Nat.reduceEqDiff,Nat.reduceAdd]
  generalize hA:H ++ [AObj.cells [.int .i64 (-1)] 3 false]=A
  have pA:H<+:A:=by rw [<- hA];exact List.prefix_append _ _
  have rA:Row 3 A (.slice (some ⟨H.length,0,none⟩) 1 1) [-1]:=.inr ⟨H.length,0,ints [-1],false,rfl,by rw [<- hA];exact at_new ..,by decide,rfl⟩
  rw [hul]
  refine CallH.by (Repeat_c _ L.length A rA (by omega)) ?_
  rintro u B ⟨hu,pB⟩
  rcases hu with ⟨_,h0⟩ | ⟨oo,hu,hol,hoc⟩
  . have:L.length=0:=by simpa using congrArg List.length h0
    omega
  rw [List.length_replicate] at hu
  subst hu
  have hlr:i<(List.replicate L.length (-1:Int)).length:=by simpa using hi
  simp (disch:=omega) only [Int.toNat_natCast,Nat.zero_add,st_ints cs3 hoc hlr,SS,eq_self,reduceIte,reduceCtorEq,Nat.reduceEqDiff,Nat.reduceAdd]
  have hb0:(List.replicate L.length (-1:Int)).set i 0=bfs0 L.length i:=rfl
  rw [hb0]
  generalize hC:B.set oo (.cells (ints (bfs0 L.length i)) 3 false)=C
  have c0:C[oo]?=some (.cells (ints (bfs0 L.length i)) 3 false):=by rw [<- hC];exact at_set hoc
  have lAH:=pA.length_le
  have pC:H<+:C:=by rw [<- hC];exact pre_set (pA.trans pB) (by omega) _
  have hlt:=at_lt c0
  have q0:QH H (C ++ [AObj.cells [.int .i64 (i:Int)] 3 false]) oo (bfs0 L.length i) C.length 0 1 [(i:Int)] :=
    ⟨⟨[(i:Int)],at_new ..,rfl,by simp⟩,at_app c0 _,by omega,pC.length_le,by omega,pre_app pC _⟩
  refine LoopH.by (fun m s H'=>∃ st k oq kq nq,m+k=L.length/\s 0=v/\s 5=.slice (some ⟨oo,0,none⟩) L.length L.length/\s 6=.slice (some ⟨oq,kq,none⟩) nq nq/\nq+k=st.2.length/\QH H H' oo st.1 oq kq nq (st.2.drop k)/\BI L.length st/\bfsF L (m+1) st k=bfs L i) L.length ?_ ?_
  . exact ⟨(bfs0 L.length i,[(i:Int)]),0,C.length,0,1,by omega,rfl,rfl,rfl,rfl,q0,bfs0_BI _ i hi,rfl⟩
  . rintro m s H' ⟨st,k,oq,kq,nq,hm,h0,h5,h6,hnq,hq,hb,hF⟩
    have hle:=hb.len_le
    simp (disch:=omega) only [h0,h5,h6,SS,eq_self,reduceIte,reduceCtorEq,Nat.reduceEqDiff,Nat.reduceAdd]
    refine brD.intro (fun g=>?_) (fun g=>?_)
    . have hk:k<st.2.length:=by omega
      rw [bfsF_step L m st k hk] at hF
      have hqm:st.2.getD k 0 ∈ st.2:=by simp [hk]
      obtain ⟨hxr,hx0⟩:=hb.q _ hqm
      have hxl:=hb.lo (st.2.getD k 0).toNat (by omega)
      rw [List.drop_eq_getElem_cons hk] at hq
      have hge:st.2[k]=st.2.getD k 0:=by simp [hk]
      rw [hge] at hq
      obtain ⟨x,hx⟩:∃ x:Nat,st.2.getD k 0=x:=⟨(st.2.getD k 0).toNat,by omega⟩
      rw [hx] at hq hF hxr hx0 hxl
      rw [Int.toNat_natCast] at hF hx0 hxl
      obtain ⟨hq2,hcell,hnq0⟩:=hq.tail
      have hqo:∃ zs ro,H'[oq]?=some (.cells (ints zs) 3 ro):=by obtain ⟨⟨zs,g1,_⟩,_⟩:=hq;exact ⟨zs,false,g1⟩
      obtain ⟨zs,ro,hqo⟩:=hqo
      have hsl:=sl_own (P:=Tryz.prog) (t:=27) (k:=kq) (n:=nq) (c:=nq) Tryz.underlying27 cs3 hqo (bound_some (k:=.i64) (i:=1) (by decide) 0) (hi_none nq) (show (1:Int).toNat<=nq from hnq0) (Nat.le_refl _)
      have hpp:H<+:H':=hq.2.2.2.2.2
      have hus':=hus.pre hpp
      have hxu:x<us.length:=by omega
      have hinH:=(hin x (by omega)).1
      have hin':=hinH.pre hpp
      have hlb:=hls x
      have hLx:=hL x
      have hz0:(0:Int).toNat=0:=rfl
      simp (disch:=omega) only [h0,h5,h6,hz0,hcell,hsl,hus'.ix Tryz.underlying36 cs27,hus'.cell,Int.toNat_natCast,SS,eq_self,reduceIte,reduceCtorEq,Nat.reduceEqDiff,Nat.reduceAdd]
      generalize hw:us.getD x undef=w at *
      generalize hl:L.getD x []=l at *
      simp (disch:=omega) only [hin'.len Tryz.underlying27,SS,eq_self,reduceIte,reduceCtorEq,Nat.reduceEqDiff,Nat.reduceAdd]
      generalize hd:st.1.getD x 0+1=d at *
      have hone:(1:Int).toNat=1:=rfl
      simp only [hone]
      refine LoopH.by (fun m' s' H''=>∃ j st' oq' kq' nq',m'+j=l.length/\s' 0=v/\s' 5=.slice (some ⟨oo,0,none⟩) L.length L.length/\s' 6=.slice (some ⟨oq',kq',none⟩) nq' nq'/\s' 7=.int .i64 (x:Int)/\s' 30=w/\s' 31=.int .i64 (l.length:Int)/\s' 32=.int .i64 ((j:Nat):Int)/\nq'+(k+1)=st'.2.length/\QH H H'' oo st'.1 oq' kq' nq' (st'.2.drop (k+1))/\BI L.length st'/\st.2<+:st'.2/\st'.1.getD x 0+1=d/\bfsIn d (l.drop j) st'=bfsIn d l st) l.length ?_ ?_
      . have hd1:st.2.drop (k+1)=st.2.drop (k+1):=rfl
        refine ⟨0,st,oq,kq+1,nq - 1,by simp,?_⟩
        simp only [SS,eq_self,reduceIte,reduceCtorEq,Nat.reduceEqDiff,Nat.reduceAdd,h0,h5,h6]
        have hd2:bfsIn d (l.drop 0) st=bfsIn d l st:=by rw [List.drop_zero]
        have hpr:=List.prefix_refl st.2
        (repeat' first | exact hq2 | exact hb | exact hd | exact hd2 | exact hpr | apply And.intro) <;> first | (simp only [Value.int.injEq,true_and];omega) | omega | rfl | assumption | (simp;done) | (simp;omega)
      . rintro m' s' H'' ⟨j,st',oq',kq',nq',hm',g0,g5,g6,g7,g30,g31,g32,hnq',hq',hb',hpre,hd',hB⟩
        have hpp':H<+:H'':=hq'.2.2.2.2.2
        have hw':=hinH.pre hpp'
        have hle':=hb'.len_le
        simp (disch:=omega) only [g0,g5,g6,g7,g30,g31,g32,SS,eq_self,reduceIte,reduceCtorEq,Nat.reduceEqDiff,Nat.reduceAdd]
        refine brD.intro (fun q=>?_) (fun q=>?_)
        . have hj:j<l.length:=by omega
          rw [bfsIn_drop d l j hj] at hB
          have hym:l.getD j 0 ∈ l:=by simp [hj]
          obtain ⟨y,hy⟩:∃ y:Nat,l.getD j 0=y:=⟨(l.getD j 0).toNat,by have:=hLx _ hym;omega⟩
          have hyr:=hLx _ hym
          rw [hy] at hB hyr
          rw [Int.toNat_natCast] at hB
          have hoc':=hq'.2.1
          have hlen':=hb'.len
          have hyl:y<st'.1.length:=by omega
          have hxl':x<st'.1.length:=by omega
          have hcw:=hw'.cell hj
          rw [hy] at hcw
          simp (disch:=omega) only [g0,g5,g6,g7,g30,g31,g32,hw'.ix Tryz.underlying27 cs3,hcw,Int.toNat_natCast,Nat.zero_add,cell_ints hoc' hyl,SS,eq_self,reduceIte,reduceCtorEq,Nat.reduceEqDiff,Nat.reduceAdd]
          refine brD.intro (fun e=>?_) (fun e=>?_)
          . rw [if_pos e] at hB
            have hd0:0<=d:=by omega
            have hdl:d<=st'.2.length:=by
              have:=hb'.lo x (by omega)
              omega
            have hb2:=hb'.put (j:=(y:Int)) (d:=d) hyr (by rw [Int.toNat_natCast];exact e) ⟨hd0,hdl⟩
            rw [Int.toNat_natCast] at hb2
            obtain ⟨H2,k1,k2⟩:=hq'.push y d (y:Int) (by omega)
            have hk1:k+1<=st'.2.length:=by have:=hpre.length_le;omega
            rw [<- List.drop_append_of_le_length hk1] at k2
            simp (disch:=omega) only [g0,g5,g6,g7,g30,g31,g32,hw'.ix Tryz.underlying27 cs3,hcw,Int.toNat_natCast,Nat.zero_add,cell_ints hoc' hxl',hd',st_ints cs3 hoc' hyl,k1,wrap64,SS,eq_self,reduceIte,reduceCtorEq,Nat.reduceEqDiff,Nat.reduceAdd]
            have f1:st.2<+:st'.2 ++ [(y:Int)]:=hpre.trans (List.prefix_append _ _)
            have f2:(st'.1.set y d).getD x 0+1=d:=by
              rw [getD_setB _ _ _ _ hxl']
              split
              . rename_i e2
                subst e2
                have:=hb'.lo y (by omega)
                omega
              . exact hd'
            refine ⟨m' - 1,by omega,j+1,(st'.1.set y d,st'.2 ++ [(y:Int)]),(H''.set oo (AObj.cells (ints (st'.1.set y d)) 3 false)).length+1,0,nq'+1,?_⟩
            have f3:(st'.2 ++ [(y:Int)]).length=st'.2.length+1:=by simp
            (repeat' first | exact k2 | exact hb2 | exact f1 | exact f2 | exact hB | apply And.intro) <;> first | (simp only [Value.int.injEq,true_and];omega) | omega | rfl | assumption | (simp;done) | (simp;omega)
          . rw [if_neg e] at hB
            simp (disch:=omega) only [g0,g5,g6,g7,g30,g31,g32,wrap64,SS,eq_self,reduceIte,reduceCtorEq,Nat.reduceEqDiff,Nat.reduceAdd]
            refine ⟨m' - 1,by omega,j+1,st',oq',kq',nq',?_⟩
            (repeat' first | exact hq' | exact hb' | exact hpre | exact hd' | exact hB | apply And.intro) <;> first | (simp only [Value.int.injEq,true_and];omega) | omega | rfl | assumption | (simp;done) | (simp;omega)
        . simp (disch:=omega) only [g0,g5,g6,g7,g30,g31,g32,SS,eq_self,reduceIte,reduceCtorEq,Nat.reduceEqDiff,Nat.reduceAdd]
          rw [List.drop_of_length_le (by omega)] at hB
          have hB':st'=bfsIn d l st:=hB
          rw [<- hB'] at hF
          have hm1:m - 1+1=m:=by omega
          rw [<- hm1] at hF
          refine ⟨m - 1,by omega,st',k+1,oq',kq',nq',?_⟩
          (repeat' first | exact hq' | exact hb' | exact hF | apply And.intro) <;> first | (simp only [Value.int.injEq,true_and];omega) | omega | rfl | assumption | (simp;done) | (simp;omega)
    . simp (disch:=omega) only [h5,SS,eq_self,reduceIte,reduceCtorEq,Nat.reduceEqDiff,Nat.reduceAdd]
      refine hQ _ _ _ ?_
      simp (disch:=omega) only [h5,SS,eq_self,reduceIte,reduceCtorEq,Nat.reduceEqDiff,Nat.reduceAdd]
      rw [bfsF_done L _ st k (by omega)] at hF
      rw [hF] at hq
      have hbl:(bfs L i).length=L.length:=by rw [<- hF];exact hb.len
      exact ⟨.inr ⟨oo,by rw [hbl],hq.2.2.1,hq.2.1⟩,hq.2.2.2.2.2⟩
theorem QH.at {H0 H:AH}{oo:Nat}{out:List Int}{oq kq nq:Nat}{q:List Int}(h:QH H0 H oo out oq kq nq q){j:Nat}(hj:j<q.length):cellA H oq (kq+j)=some (.int .i64 (q.getD j 0)):=by
  obtain ⟨⟨zs,h1,h2,h3⟩,_⟩:=h
  have hl:=congrArg List.length h2
  simp only [List.length_take,List.length_drop] at hl
  have hk:kq+j<zs.length:=by omega
  rw [cell_of h1,ints_at zs hk]
  congr 2
  rw [<- h2,List.getD_eq_getElem?_getD,List.getD_eq_getElem?_getD,List.getElem?_take,if_pos (by omega),List.getElem?_drop]
theorem l2Spread_c (v:Value)(L:List (List Int))(i:Nat)(H:AH){b:Nat}(hr:RowLB b 27 3 H v L)(hL:LOk L.length L)(hN:L.length<=1000000)(hi:i<L.length)(hls:∀ x,(L.getD x []).length<=1000000000) :
    ACalls Tryz.prog 160 [v,.int .i64 (i:Int)] H fun r H'=>Own 3 H H' r (bfs L i)/\H<+:H':=by
  refine in160 rfl ?_
  intro Q hQ
  obtain ⟨us,hus,hvb,hul,hin⟩:=hr
  simp (maxSteps:=1000000) (disch:=omega) only [cd160,hus.len Tryz.underlying36,hul,mks27,Int.toNat_natCast,SS,eq_self,reduceIte,reduceCtorEq,Nat.reduceEqDiff,Nat.reduceAdd]
  generalize hZ:H ++ [AObj.cells (ints (List.replicate L.length 0)) 3 false]=Z
  have pZ:H<+:Z:=by rw [<- hZ];exact List.prefix_append _ _
  have cZ:Z[H.length]?=some (.cells (ints (List.replicate L.length 0)) 3 false):=by rw [<- hZ];exact at_new ..
  refine LoopH.by (fun m s H'=>∃ j,m+j=L.length/\s 0=v/\s 1=.int .i64 (i:Int)/\s 5=.slice (some ⟨H.length,0,none⟩) L.length L.length/\s 6=.int .i64 ((j:Nat):Int)/\H'=Z.set H.length (.cells (ints (rpN L.length j)) 3 false)) L.length ?_ ?_
  . refine ⟨0,by omega,rfl,rfl,rfl,rfl,?_⟩
    have:rpN L.length 0=List.replicate L.length 0:=by simp [rpN]
    rw [this]
    apply List.ext_getElem?
    intro j
    rw [List.getElem?_set]
    by_cases hj:H.length=j
    . subst hj;rw [if_pos rfl,if_pos (at_lt cZ),cZ]
    . rw [if_neg hj]
  rintro m s H' ⟨j,hm,h0,h1,h5,h6,rfl⟩
  have cJ:(Z.set H.length (.cells (ints (rpN L.length j)) 3 false))[H.length]?=some (.cells (ints (rpN L.length j)) 3 false):=at_set cZ
  simp (maxSteps:=1000000) (disch:=omega) only [h0,h1,h5,h6,SS,eq_self,reduceIte,reduceCtorEq,Nat.reduceEqDiff,Nat.reduceAdd]
  refine brD.intro (fun g=>?_) (fun g=>?_)
  . have hj:j<(rpN L.length j).length:=by rw [rpN_len _ _ (by omega)];omega
    simp (maxSteps:=1000000) (disch:=omega) only [h0,h1,h5,h6,Int.toNat_natCast,Nat.zero_add,st_ints cs3 cJ hj,wrap64,SS,eq_self,reduceIte,reduceCtorEq,Nat.reduceEqDiff,Nat.reduceAdd]
    rw [List.set_set,rpN_set _ _ (by omega)]
    refine ⟨m - 1,by omega,j+1,?_⟩
    (repeat' apply And.intro) <;> first | (simp only [Value.int.injEq,true_and];omega) | omega | rfl | assumption | (simp;done) | (simp;omega)
  have hjN:j=L.length:=by omega
  subst hjN
  have e3:rpN L.length L.length=List.replicate L.length (-1):=by simp [rpN]
  rw [e3] at cJ
  rw [e3]
  have pA:H<+:Z.set H.length (.cells (ints (List.replicate L.length (-1))) 3 false):=pre_set pZ (Nat.le_refl _) _
  simp (maxSteps:=1000000) (disch:=omega) only [h0,h1,h5,h6,SS,eq_self,reduceIte,reduceCtorEq,Nat.reduceEqDiff,Nat.reduceAdd]
  have hlr:i<(List.replicate L.length (-1:Int)).length:=by simpa using hi
  generalize hoo:H.length=oo at *
  generalize hA:Z.set oo (.cells (ints (List.replicate L.length (-1))) 3 false)=A at *
  have cA:=at_app cJ [AObj.cells [.int .i64 (i:Int)] 3 false]
  simp (maxSteps:=1000000) (disch:=omega) only [h0,h1,h5,h6,Int.toNat_natCast,Nat.zero_add,st_ints cs3 cA hlr,SS,eq_self,reduceIte,reduceCtorEq,Nat.reduceEqDiff,Nat.reduceAdd]
  have hb0:(List.replicate L.length (-1:Int)).set i 0=bfs0 L.length i:=rfl
  rw [hb0]
  have hltA:=at_lt cJ
  have q0:QH H ((A ++ [AObj.cells [.int .i64 (i:Int)] 3 false]).set oo (.cells (ints (bfs0 L.length i)) 3 false)) oo (bfs0 L.length i) A.length 0 1 [(i:Int)]:=by
    refine ⟨⟨[(i:Int)],?_,rfl,by simp⟩,at_set cA,by omega,pA.length_le,by omega,pre_set (pre_app pA _) (by omega) _⟩
    rw [List.getElem?_set_ne (by omega)]
    exact at_new ..
  refine LoopH.by (fun m s H'=>∃ st k oq,m+k=L.length/\s 0=v/\s 5=.slice (some ⟨oo,0,none⟩) L.length L.length/\s 7=.slice (some ⟨oq,0,none⟩) st.2.length st.2.length/\s 8=.int .i64 ((k:Nat):Int)/\k<=st.2.length/\QH H H' oo st.1 oq 0 st.2.length st.2/\BI L.length st/\bfsF L (m+1) st k=bfs L i) L.length ?_ ?_
  . refine ⟨(bfs0 L.length i,[(i:Int)]),0,A.length,by omega,?_⟩
    simp only [SS,eq_self,reduceIte,reduceCtorEq,Nat.reduceEqDiff,Nat.reduceAdd,h0,h5]
    have hb0:=bfs0_BI _ i hi
    have hF0:bfsF L (L.length+1) (bfs0 L.length i,[(i:Int)]) 0=bfs L i:=rfl
    (repeat' first | exact q0 | exact hb0 | exact hF0 | apply And.intro) <;> first | (simp only [Value.int.injEq,true_and];omega) | omega | rfl | assumption | (simp;done) | (simp;omega)
  . rintro m s H' ⟨st,k,oq,hm,h0,h5,h7,h8,hkl,hq,hb,hF⟩
    have hle:=hb.len_le
    simp (maxSteps:=1000000) (disch:=omega) only [h0,h5,h7,h8,SS,eq_self,reduceIte,reduceCtorEq,Nat.reduceEqDiff,Nat.reduceAdd]
    refine brD.intro (fun g=>?_) (fun g=>?_)
    . have hk:k<st.2.length:=by omega
      rw [bfsF_step L m st k hk] at hF
      have hqm:st.2.getD k 0 ∈ st.2:=by simp [hk]
      obtain ⟨hxr,hx0⟩:=hb.q _ hqm
      have hxl:=hb.lo (st.2.getD k 0).toNat (by omega)
      have hcell:=hq.at hk
      obtain ⟨x,hx⟩:∃ x:Nat,st.2.getD k 0=x:=⟨(st.2.getD k 0).toNat,by omega⟩
      rw [hx] at hF hxr hx0 hxl hcell
      rw [Int.toNat_natCast] at hF hx0 hxl
      rw [Nat.zero_add] at hcell
      have hpp:H<+:H':=hq.2.2.2.2.2
      have hus':=hus.pre hpp
      have hxu:x<us.length:=by omega
      have hinH:=(hin x (by omega)).1
      have hlb:=hls x
      have hLx:=hL x
      simp (maxSteps:=1000000) (disch:=omega) only [h0,h5,h7,h8,hcell,hus'.ix Tryz.underlying36 cs27,hus'.cell,Int.toNat_natCast,Nat.zero_add,SS,eq_self,reduceIte,reduceCtorEq,Nat.reduceEqDiff,Nat.reduceAdd]
      generalize hw:us.getD x undef=w at *
      generalize hl:L.getD x []=l at *
      generalize hd:st.1.getD x 0+1=d at *
      refine LoopH.by (fun m' s' H''=>∃ j st' oq',m'+j=l.length/\s' 0=v/\s' 5=.slice (some ⟨oo,0,none⟩) L.length L.length/\s' 7=.slice (some ⟨oq',0,none⟩) st'.2.length st'.2.length/\s' 8=.int .i64 ((k:Nat):Int)/\s' 9=w/\s' 10=.int .i64 ((j:Nat):Int)/\QH H H'' oo st'.1 oq' 0 st'.2.length st'.2/\BI L.length st'/\st.2<+:st'.2/\st'.1.getD x 0+1=d/\bfsIn d (l.drop j) st'=bfsIn d l st) l.length ?_ ?_
      . refine ⟨0,st,oq,by simp,?_⟩
        simp only [SS,eq_self,reduceIte,reduceCtorEq,Nat.reduceEqDiff,Nat.reduceAdd,h0,h5,h7,h8]
        have hd2:bfsIn d (l.drop 0) st=bfsIn d l st:=by rw [List.drop_zero]
        have hpr:=List.prefix_refl st.2
        (repeat' first | exact hq | exact hb | exact hd | exact hd2 | exact hpr | apply And.intro) <;> first | (simp only [Value.int.injEq,true_and];omega) | omega | rfl | assumption | (simp;done) | (simp;omega)
      . rintro m' s' H'' ⟨j,st',oq',hm',g0,g5,g7,g8,g9,g10,hq',hb',hpre,hd',hB⟩
        have hpp':H<+:H'':=hq'.2.2.2.2.2
        have hw':=hinH.pre hpp'
        have hle':=hb'.len_le
        simp (maxSteps:=1000000) (disch:=omega) only [g0,g5,g7,g8,g9,g10,hw'.len Tryz.underlying27,SS,eq_self,reduceIte,reduceCtorEq,Nat.reduceEqDiff,Nat.reduceAdd]
        refine brD.intro (fun q=>?_) (fun q=>?_)
        . have hj:j<l.length:=by omega
          rw [bfsIn_drop d l j hj] at hB
          have hym:l.getD j 0 ∈ l:=by simp [hj]
          obtain ⟨y,hy⟩:∃ y:Nat,l.getD j 0=y:=⟨(l.getD j 0).toNat,by have:=hLx _ hym;omega⟩
          have hyr:=hLx _ hym
          rw [hy] at hB hyr
          rw [Int.toNat_natCast] at hB
          have hoc':=hq'.2.1
          have hlen':=hb'.len
          have hyl:y<st'.1.length:=by omega
          have hxl':x<st'.1.length:=by omega
          have hcw:=hw'.cell hj
          rw [hy] at hcw
          have hkl':k<st'.2.length:=by have:=hpre.length_le;omega
          have hck:=hq'.at hkl'
          have hqk:st'.2.getD k 0=(x:Int):=by
            obtain ⟨t,ht⟩:=hpre
            rw [<- ht,List.getD_eq_getElem?_getD,List.getElem?_append_left hk,<- List.getD_eq_getElem?_getD];exact hx
          rw [hqk,Nat.zero_add] at hck
          simp (maxSteps:=1000000) (disch:=omega) only [g0,g5,g7,g8,g9,g10,hw'.ix Tryz.underlying27 cs3,hcw,Int.toNat_natCast,Nat.zero_add,cell_ints hoc' hyl,SS,eq_self,reduceIte,reduceCtorEq,Nat.reduceEqDiff,Nat.reduceAdd]
          refine brD.intro (fun e=>?_) (fun e=>?_)
          . rw [if_pos e] at hB
            have hd0:0<=d:=by omega
            have hdl:d<=st'.2.length:=by
              have:=hb'.lo x (by omega)
              omega
            have hb2:=hb'.put (j:=(y:Int)) (d:=d) hyr (by rw [Int.toNat_natCast];exact e) ⟨hd0,hdl⟩
            rw [Int.toNat_natCast] at hb2
            obtain ⟨H2,k1,k2⟩:=hq'.push y d (y:Int) (by omega)
            have hp2:H<+:H''.set oo (AObj.cells (ints (st'.1.set y d)) 3 false):=pre_set hpp' (by omega) _
            have hw2:=hinH.pre hp2
            have hcw2:=hw2.cell hj
            rw [hy] at hcw2
            simp (maxSteps:=1000000) (disch:=omega) only [g0,g5,g7,g8,g9,g10,hw'.ix Tryz.underlying27 cs3,hw2.ix Tryz.underlying27 cs3,hcw,hcw2,hck,Int.toNat_natCast,Nat.zero_add,cell_ints hoc' hxl',hd',st_ints cs3 hoc' hyl,k1,wrap64,SS,eq_self,reduceIte,reduceCtorEq,Nat.reduceEqDiff,Nat.reduceAdd]
            have f1:st.2<+:st'.2 ++ [(y:Int)]:=hpre.trans (List.prefix_append _ _)
            have f2:(st'.1.set y d).getD x 0+1=d:=by
              rw [getD_setB _ _ _ _ hxl']
              split
              . rename_i e2
                subst e2
                have:=hb'.lo y (by omega)
                omega
              . exact hd'
            have f3:(st'.2 ++ [(y:Int)]).length=st'.2.length+1:=by simp
            rw [<- f3] at k2
            refine ⟨m' - 1,by omega,j+1,(st'.1.set y d,st'.2 ++ [(y:Int)]),(H''.set oo (AObj.cells (ints (st'.1.set y d)) 3 false)).length+1,?_⟩
            simp only [f3]
            rw [f3] at k2
            (repeat' first | exact k2 | exact hb2 | exact f1 | exact f2 | exact hB | apply And.intro) <;> first | (simp only [Value.int.injEq,true_and];omega) | omega | rfl | assumption | (simp;done) | (simp;omega)
          . rw [if_neg e] at hB
            simp (maxSteps:=1000000) (disch:=omega) only [g0,g5,g7,g8,g9,g10,wrap64,SS,eq_self,reduceIte,reduceCtorEq,Nat.reduceEqDiff,Nat.reduceAdd]
            refine ⟨m' - 1,by omega,j+1,st',oq',?_⟩
            (repeat' first | exact hq' | exact hb' | exact hpre | exact hd' | exact hB | apply And.intro) <;> first | (simp only [Value.int.injEq,true_and];omega) | omega | rfl | assumption | (simp;done) | (simp;omega)
        . simp (maxSteps:=1000000) (disch:=omega) only [g0,g5,g7,g8,g9,g10,wrap64,SS,eq_self,reduceIte,reduceCtorEq,Nat.reduceEqDiff,Nat.reduceAdd]
          rw [List.drop_of_length_le (by omega)] at hB
          have hB':st'=bfsIn d l st:=hB
          rw [<- hB'] at hF
          have hm1:m - 1+1=m:=by omega
          rw [<- hm1] at hF
          have hkl':k+1<=st'.2.length:=by have:=hpre.length_le;omega
          refine ⟨m - 1,by omega,st',k+1,oq',?_⟩
          (repeat' first | exact hq' | exact hb' | exact hF | exact hkl' | apply And.intro) <;> first | (simp only [Value.int.injEq,true_and];omega) | omega | rfl | assumption | (simp;done) | (simp;omega)
    . simp (maxSteps:=1000000) (disch:=omega) only [h5,SS,eq_self,reduceIte,reduceCtorEq,Nat.reduceEqDiff,Nat.reduceAdd]
      refine hQ _ _ _ ?_
      simp (maxSteps:=1000000) (disch:=omega) only [h5,SS,eq_self,reduceIte,reduceCtorEq,Nat.reduceEqDiff,Nat.reduceAdd]
      rw [bfsF_done L _ st k (by omega)] at hF
      rw [hF] at hq
      have hbl:(bfs L i).length=L.length:=by rw [<- hF];exact hb.len
      exact ⟨.inr ⟨oo,by rw [hbl],hq.2.2.1,hq.2.1⟩,hq.2.2.2.2.2⟩
def cd159:Cd:=(.seq (.reg [⟨⟨some 2,.box 26 (.tmp 0),none⟩,[]⟩,⟨⟨some 4,.assign (.const (.slice none 0 0)),none⟩,[]⟩]) (.seq (.reg [⟨⟨some 7,.buildSlice 27 0 #[],none⟩,[]⟩,⟨⟨some 5,.assign (.tmp 7),none⟩,[]⟩]) (.seq (.seq (.reg [⟨⟨some 6,.assign (.const (.int .i64 0)),none⟩,[]⟩]) (.block 0 (.loop (.seq (.seq (.reg [⟨⟨some 8,.move (.tmp 6),none⟩,[]⟩,⟨⟨some 9,.fieldAddr 26 (.tmp 2) 0,none⟩,[]⟩,⟨⟨some 10,.load 3 (.tmp 9),none⟩,[]⟩,⟨⟨some 11,.binOp .lss 3 (.tmp 8) (.tmp 10) 3,none⟩,[]⟩]) (.cond (.tmp 11) .skip (.exit 0))) (.seq (.block 1 (.seq (.reg [⟨⟨some 14,.load 26 (.tmp 2),none⟩,[]⟩,⟨⟨some 15,.move (.tmp 1),none⟩,[]⟩,⟨⟨some 16,.move (.tmp 6),none⟩,[]⟩,⟨⟨some 17,.call ⟨(.value (.func 88)),#[.tmp 14,.tmp 15,.tmp 16],#[26,3,3]⟩,none⟩,[]⟩]) (.cond (.tmp 17) (.reg [⟨⟨some 18,.move (.tmp 5),none⟩,[]⟩,⟨⟨some 19,.move (.tmp 6),none⟩,[]⟩,⟨⟨some 20,.buildSlice 27 1 #[(0,.tmp 19)],none⟩,[]⟩,⟨⟨some 21,.call ⟨(.builtin .append),#[.tmp 18,.tmp 20],#[27,27]⟩,none⟩,[]⟩,
 ⟨⟨some 5,.assign (.tmp 21),none⟩,[]⟩]) .skip))) (.reg [⟨⟨some 12,.move (.tmp 6),none⟩,[]⟩,
  ⟨⟨some 13,.binOp .add 3 (.tmp 12) (.const (.int .i64 1)) 3,none⟩,[]⟩,
  ⟨⟨some 6,.assign (.tmp 13),none⟩,[]⟩])))))) (.seq (.reg [⟨⟨some 22,.move (.tmp 5),none⟩,[]⟩,
  ⟨⟨some 4,.assign (.tmp 22),none⟩,[]⟩]) .ret))))
theorem in159:InT Tryz.prog 159 2 [.tmp 4] cd159:=InT.mk (by kernel_rfl) [] Tryz.func159 rfl (by kernel_rfl) (by kernel_rfl) (of_decide_eq_true (by kernel_rfl)) (by kernel_rfl)
def cd73:Cd:=(.seq (.reg [⟨⟨some 1,.box 26 (.tmp 0),none⟩,[]⟩,⟨⟨some 2,.assign (.const (.slice none 0 0)),none⟩,[]⟩]) (.seq (.reg [⟨⟨some 5,.buildSlice 36 0 #[],none⟩,[]⟩,⟨⟨some 3,.assign (.tmp 5),none⟩,[]⟩]) (.seq (.seq (.reg [⟨⟨some 6,.fieldAddr 26 (.tmp 1) 0,none⟩,[]⟩,⟨⟨some 7,.load 3 (.tmp 6),none⟩,[]⟩,⟨⟨some 8,.move (.const (.int .i64 0)),none⟩,[]⟩]) (.block 0 (.loop (.seq (.reg [⟨⟨some 9,.binOp .lss 3 (.tmp 8) (.tmp 7) 3,none⟩,[]⟩]) (.seq (.cond (.tmp 9) .skip (.exit 0)) (.seq (.block 1 (.seq (.reg [⟨⟨some 10,.move (.tmp 8),none⟩,[]⟩,⟨⟨some 4,.assign (.tmp 10),none⟩,[]⟩]) (.reg [⟨⟨some 11,.move (.tmp 3),none⟩,[]⟩,⟨⟨some 12,.load 26 (.tmp 1),none⟩,[]⟩,⟨⟨some 13,.move (.tmp 4),none⟩,[]⟩,⟨⟨some 14,.call ⟨(.value (.func 156)),#[.tmp 12,.tmp 13],#[26,3]⟩,none⟩,[]⟩,⟨⟨some 15,.buildSlice 36 1 #[(0,.tmp 14)],none⟩,[]⟩,⟨⟨some 16,.call ⟨(.builtin .append),#[.tmp 11,.tmp 15],#[36,36]⟩,none⟩,[]⟩,⟨⟨some 3,.assign (.tmp 16),none⟩,[]⟩]))) (.reg [⟨⟨some 17,.binOp .add 3 (.tmp 8) (.const (.int .i64 1)) 3,none⟩,[]⟩,
 ⟨⟨some 8,.move (.tmp 17),none⟩,[]⟩]))))))) (.seq (.reg [⟨⟨some 18,.move (.tmp 3),none⟩,[]⟩,
  ⟨⟨some 2,.assign (.tmp 18),none⟩,[]⟩]) .ret))))
theorem in73:InT Tryz.prog 73 1 [.tmp 2] cd73:=InT.mk (by kernel_rfl) [] Tryz.func73 rfl (by kernel_rfl) (by kernel_rfl) (of_decide_eq_true (by kernel_rfl)) (by kernel_rfl)
def cd77:Cd:=(.seq (.reg [⟨⟨some 2,.box 26 (.tmp 0),none⟩,[]⟩,⟨⟨some 4,.assign (.const (.slice none 0 0)),none⟩,[]⟩]) (.seq (.reg [⟨⟨some 7,.fieldAddr 26 (.tmp 2) 0,none⟩,[]⟩,⟨⟨some 8,.load 3 (.tmp 7),none⟩,[]⟩,⟨⟨some 9,.makeSlice 36 (.tmp 8) (.tmp 8),none⟩,[]⟩,⟨⟨some 5,.assign (.tmp 9),none⟩,[]⟩]) (.seq (.seq (.reg [⟨⟨some 6,.assign (.const (.int .i64 0)),none⟩,[]⟩]) (.block 0 (.loop (.seq (.seq (.reg [⟨⟨some 10,.move (.tmp 6),none⟩,[]⟩,⟨⟨some 11,.fieldAddr 26 (.tmp 2) 0,none⟩,[]⟩,⟨⟨some 12,.load 3 (.tmp 11),none⟩,[]⟩,⟨⟨some 13,.binOp .lss 3 (.tmp 10) (.tmp 12) 3,none⟩,[]⟩]) (.cond (.tmp 13) .skip (.exit 0))) (.seq (.block 1 (.reg [⟨⟨some 16,.move (.tmp 5),none⟩,[]⟩,⟨⟨some 17,.move (.tmp 6),none⟩,[]⟩,⟨⟨some 18,.load 26 (.tmp 2),none⟩,[]⟩,⟨⟨some 19,.move (.tmp 6),none⟩,[]⟩,⟨⟨some 20,.call ⟨(.value (.func 159)),#[.tmp 18,.tmp 19],#[26,3]⟩,none⟩,[]⟩,
 ⟨⟨some 21,.indexAddr 36 (.tmp 16) (.tmp 17),none⟩,[]⟩,
  ⟨⟨none,.store 27 (.tmp 21) (.tmp 20),none⟩,[]⟩])) (.reg [⟨⟨some 14,.move (.tmp 6),none⟩,[]⟩,
  ⟨⟨some 15,.binOp .add 3 (.tmp 14) (.const (.int .i64 1)) 3,none⟩,[]⟩,
  ⟨⟨some 6,.assign (.tmp 15),none⟩,[]⟩])))))) (.seq (.reg [⟨⟨some 22,.move (.tmp 5),none⟩,[]⟩,
  ⟨⟨some 23,.move (.tmp 1),none⟩,[]⟩,
  ⟨⟨some 24,.call ⟨(.value (.func 160)),#[.tmp 22,.tmp 23],#[36,3]⟩,none⟩,[]⟩,
  ⟨⟨some 4,.assign (.tmp 24),none⟩,[]⟩]) .ret))))
theorem in77:InT Tryz.prog 77 2 [.tmp 4] cd77:=InT.mk (by kernel_rfl) [] Tryz.func77 rfl (by kernel_rfl) (by kernel_rfl) (of_decide_eq_true (by kernel_rfl)) (by kernel_rfl)
end Go.Proofs.YtjnefjchconebaaGreat.Ai
namespace Go.Proofs.YtjnefjchconebaaGreat.Ai
open Go Go.RowKit
theorem mk_nils {P:Program}{t e:TypeId}(hu:P.underlying t=some (.slice e))(hc:P.cellsOf e=1)(hby:P.bytesOf e<=64)(hz:zeroA P e=some (.slice none 0 0)){n:Int}(h0:0<=n)(h1:n<=1099511627776)(H:AH) :
    makeSliceA P t (.int .i64 n) (.int .i64 n) H=some (.slice (some ⟨H.length,0,none⟩) n.toNat n.toNat,H ++ [.cells (List.replicate n.toNat (.slice none 0 0)) e false]):=by
  have hb2:n.toNat * P.bytesOf e<=281474976710656:=by
    refine Nat.le_trans (Nat.mul_le_mul_left _ hby) ?_
    omega
  have hzc:(Value.slice none 0 0).cells=#[.slice none 0 0]:=rfl
  have hzs:zerosA (.slice none 0 0) (n.toNat * 1)=List.replicate n.toNat (.slice none 0 0):=by
    unfold zerosA
    rw [hzc,Nat.mul_one]
    apply List.ext_getElem
    . simp
    . intro i h1 h2
      simp [Nat.mod_one]
  simp only [makeSliceA,hu,hc,hz]
  rw [if_pos ⟨trivial,h0,by omega,hb2,by omega⟩,if_pos ⟨by simp [plainCs,hzc,plainC],by simp [hzc]⟩,hzs]
def roadsL (n:Nat)(es:List (Int × Int)):List (List Int):=(List.range n).map fun x:Nat=>nbsU es (x:Int) n
theorem roadsL_len (n:Nat)(es:List (Int × Int)):(roadsL n es).length=n:=by simp [roadsL]
theorem roadsL_at (n:Nat)(es:List (Int × Int))(i:Nat)(hi:i<n):(roadsL n es).getD i []=nbsU es i n:=by
  unfold roadsL
  rw [List.getD_eq_getElem?_getD,List.getElem?_map,List.getElem?_range hi];rfl
theorem roadsL_out (n:Nat)(es:List (Int × Int))(i:Nat)(hi:¬ i<n):(roadsL n es).getD i []=[]:=by
  rw [List.getD_eq_getElem?_getD,List.getElem?_eq_none (by rw [roadsL_len];omega)];rfl
theorem roadsL_ok (n:Nat)(es:List (Int × Int)):LOk (roadsL n es).length (roadsL n es):=by
  intro i y hy
  rw [roadsL_len]
  by_cases hi:i<n
  . rw [roadsL_at n es i hi] at hy
    exact ((nbsU_mem es i n y).1 hy).1
  . rw [roadsL_out n es i hi] at hy
    simp at hy
theorem roadsL_small (n:Nat)(es:List (Int × Int))(hn:n<=1000000000)(x:Nat):((roadsL n es).getD x []).length<=1000000000:=by
  by_cases hi:x<n
  . rw [roadsL_at n es x hi]
    have:=nbsU_len es x n
    omega
  . rw [roadsL_out n es x hi];simp
theorem l2Neighbors_c (n:Int)(v:Value)(es:List (Int × Int))(x:Int)(H:AH)(hr:RowP 47 H v es)(hlen:es.length<=1099511627776)(hn:0<=n/\n<=8) :
    ACalls Tryz.prog 159 [.agg (List.toArray [.int .i64 n,v]),.int .i64 x] H fun r H'=>Own 3 H H' r (nbsU es x n.toNat)/\H<+:H':=by
  refine in159 rfl ?_
  intro Q hQ
  simp (disch:=omega) only [cd159,hr.boxG,SS,eq_self,reduceIte,reduceCtorEq,Nat.reduceEqDiff,Nat.reduceAdd]
  generalize hA:H ++ [AObj.cells [.int .i64 n,v] 26 false]=A
  have pA:H<+:A:=by rw [<- hA];exact List.prefix_append _ _
  have cA:A[H.length]?=some (.cells [.int .i64 n,v] 26 false):=by rw [<- hA];exact at_new ..
  have rA:=hr.pre pA
  try simp (disch:=omega) only [SS,eq_self,reduceIte,reduceCtorEq,Nat.reduceEqDiff,Nat.reduceAdd]
  refine LoopH.by (fun m s H'=>∃ i,m+i=n.toNat/\s 1=.int .i64 x/\s 2=.pointer (some ⟨H.length,0,none⟩)/\s 6=.int .i64 ((i:Nat):Int)/\Own 3 A H' (s 5) (nbsU es x i)/\A<+:H') n.toNat ?_ ?_
  . exact ⟨0,by simp,rfl,rfl,rfl,.inr ⟨A.length,rfl,Nat.le_refl _,at_new ..⟩,List.prefix_append _ _⟩
  . rintro m s H' ⟨i,hm,h1,h2,h6,ho,hp⟩
    have hr':=rA.pre hp
    have cH:=pre_at hp cA
    have hl:=nbsU_len es x i
    have hst:nbsU es x (i+1)=nbsU es x i ++ if nearB es x i=true then [(i:Int)] else []:=rfl
    generalize hw:s 5=w at *
    simp (disch:=omega) only [h1,h2,h6,hw,cell_of cH,SS,eq_self,reduceIte,reduceCtorEq,Nat.reduceEqDiff,Nat.reduceAdd]
    refine brD.intro (fun g=>?_) (fun g=>?_)
    . simp (disch:=omega) only [h1,h2,h6,hw,ld_agg ag26 cs26 cH,SS,eq_self,reduceIte,reduceCtorEq,Nat.reduceEqDiff,Nat.reduceAdd]
      refine CallH.by (l2Near_c n v es x i H' hr' hlen) ?_
      rintro _ B ⟨rfl,pB⟩
      have hoB:=ho.pre pB
      have hpB:=hp.trans pB
      simp (disch:=omega) only [SS,eq_self,reduceIte,reduceCtorEq,Nat.reduceEqDiff,Nat.reduceAdd]
      refine brH.intro (fun e2=>?_) (fun e2=>?_)
      . obtain ⟨w',H2,k1,k2,k3,k4,k5,k6⟩:=own1_27 hoB hpB (by omega) (i:Int)
        simp (disch:=omega) only [e2,h1,h2,h6,hw,k1,wrap64,SS,eq_self,reduceIte,reduceCtorEq,Nat.reduceEqDiff,Nat.reduceAdd]
        rw [if_pos e2] at hst
        rw [<- hst] at k2
        refine ⟨m - 1,by omega,i+1,?_⟩
        (repeat' first | exact k2 | exact k3 | apply And.intro) <;> first | (simp only [Value.int.injEq,true_and];omega) | omega | rfl | assumption | (simp;done) | (simp;omega)
      . simp (disch:=omega) only [e2,h1,h2,h6,hw,wrap64,SS,eq_self,reduceIte,reduceCtorEq,Nat.reduceEqDiff,Nat.reduceAdd]
        rw [if_neg (by simpa using e2),List.append_nil] at hst
        rw [<- hst] at hoB
        refine ⟨m - 1,by omega,i+1,?_⟩
        (repeat' first | exact hoB | exact hpB | apply And.intro) <;> first | (simp only [Value.int.injEq,true_and];omega) | omega | rfl | assumption | (simp;done) | (simp;omega)
    . simp (disch:=omega) only [hw,SS,eq_self,reduceIte,reduceCtorEq,Nat.reduceEqDiff,Nat.reduceAdd]
      refine hQ _ _ _ ?_
      simp (disch:=omega) only [hw,ho.row.tup,SS,eq_self,reduceIte,reduceCtorEq,Nat.reduceEqDiff,Nat.reduceAdd]
      have:i=n.toNat:=by omega
      subst this
      exact ⟨ho.base pA,pA.trans hp⟩
theorem roads_c (n:Int)(v:Value)(es:List (Int × Int))(H:AH)(hr:RowP 47 H v es)(hlen:es.length<=1099511627776)(hg:Grd n es) :
    ACalls Tryz.prog 73 [.agg (List.toArray [.int .i64 n,v])] H fun r H'=>InL H.length H'.length 27 3 H' r (roadsL n.toNat es)/\H<+:H':=by
  have hn:=hg.1
  refine in73 rfl ?_
  intro Q hQ
  simp (disch:=omega) only [cd73,hr.boxG,SS,eq_self,reduceIte,reduceCtorEq,Nat.reduceEqDiff,Nat.reduceAdd]
  generalize hA:H ++ [AObj.cells [.int .i64 n,v] 26 false]=A
  have pA:H<+:A:=by rw [<- hA];exact List.prefix_append _ _
  have cA:A[H.length]?=some (.cells [.int .i64 n,v] 26 false):=by rw [<- hA];exact at_new ..
  have rA:=hr.pre pA
  simp (disch:=omega) only [cell_of (at_app cA _),SS,eq_self,reduceIte,reduceCtorEq,Nat.reduceEqDiff,Nat.reduceAdd]
  have u0:=InU.new H.length 27 3 A pA.length_le
  refine LoopH.by (fun m s H'=>∃ i o us,m+i=n.toNat/\s 1=.pointer (some ⟨H.length,0,none⟩)/\s 3=.slice (some ⟨o,0,none⟩) i i/\s 7=.int .i64 n/\s 8=.int .i64 ((i:Nat):Int)/\A.length<=o/\InU H.length H'.length 27 3 H' o us ((List.range i).map fun x:Nat=>nbsU es (x:Int) n.toNat)/\A<+:H') n.toNat ?_ ?_
  . refine ⟨0,A.length,[],by simp,rfl,rfl,rfl,rfl,Nat.le_refl _,?_,List.prefix_append _ _⟩
    simpa using u0
  . rintro m s H' ⟨i,o,us,hm,h1,h3,h7,h8,hoA,hin,hp⟩
    have hr':=rA.pre hp
    have cH:=pre_at hp cA
    have hbl:((List.range i).map fun x:Nat=>nbsU es (x:Int) n.toNat).length=i:=by simp
    have hst:((List.range (i+1)).map fun x:Nat=>nbsU es (x:Int) n.toNat)=((List.range i).map fun x:Nat=>nbsU es (x:Int) n.toNat) ++ [nbsU es i n.toNat]:=by rw [List.range_succ,List.map_append];rfl
    simp (disch:=omega) only [h1,h3,h7,h8,SS,eq_self,reduceIte,reduceCtorEq,Nat.reduceEqDiff,Nat.reduceAdd]
    refine brD.intro (fun g=>?_) (fun g=>?_)
    . simp (disch:=omega) only [h1,h3,h7,h8,ld_agg ag26 cs26 cH,SS,eq_self,reduceIte,reduceCtorEq,Nat.reduceEqDiff,Nat.reduceAdd]
      refine CallH.by (neighbors_c n v es i H' hr' hlen hg) ?_
      rintro b D ⟨hb,pD⟩
      have hinw:=InI.of hb.mine
      have pHH:=pA.trans hp
      obtain ⟨H3,k1,k2,k3,k4⟩:=(hin.pre pD).app1 (P:=Tryz.prog) (t2:=36) Tryz.underlying36 cs27 (by rw [by27];decide) zk27 hinw pHH.length_le pD.length_le (Nat.le_refl _) (by omega)
      have hbs:buildSliceA Tryz.prog 36 1 [(0,b)] D=some (.slice (some ⟨D.length,0,none⟩) 1 1,D ++ [.cells [b] 27 false]):=by
        obtain ⟨q,eq⟩:=hb.row.shape
        rw [eq]
        exact bs1 Tryz.underlying36 cs27 ze27 ⟨by kernel_rfl,by kernel_rfl⟩ D rfl
      rw [hbl] at k1 k2
      simp (disch:=omega) only [h1,h3,h7,h8,hbs,k1,wrap64,SS,eq_self,reduceIte,reduceCtorEq,Nat.reduceEqDiff,Nat.reduceAdd]
      have f1:A<+:H3:=prefix_of fun j x hx'=>k4 j x (by have:=at_lt hx';omega) (pre_at (hp.trans pD) hx')
      have f2:InU H.length H3.length 27 3 H3 (D.length+1) (us.take i ++ [b]) ((List.range (i+1)).map fun x:Nat=>nbsU es (x:Int) n.toNat):=by
        rw [k3,hst];exact k2
      have hDl:=(hp.trans pD).length_le
      refine ⟨m - 1,by omega,i+1,D.length+1,us.take i ++ [b],by omega,?_⟩
      (repeat' first | exact f1 | exact f2 | apply And.intro) <;> first | (simp only [Value.int.injEq,true_and];omega) | omega | rfl | assumption | (simp;done) | (simp;omega)
    . simp (disch:=omega) only [h3,SS,eq_self,reduceIte,reduceCtorEq,Nat.reduceEqDiff,Nat.reduceAdd]
      refine hQ _ _ _ ?_
      simp (disch:=omega) only [h3,SS,eq_self,reduceIte,reduceCtorEq,Nat.reduceEqDiff,Nat.reduceAdd]
      have:i=n.toNat:=by omega
      subst this
      refine ⟨?_,pA.trans hp⟩
      have:=hin.inl
      rwa [hbl] at this
theorem l3Far_c (n:Int)(v:Value)(es:List (Int × Int))(i:Nat)(H:AH)(hr:RowP 47 H v es)(hlen:es.length<=1099511627776)(hn:0<=n/\n<=8)(hi:(i:Int)<n) :
    ACalls Tryz.prog 77 [.agg (List.toArray [.int .i64 n,v]),.int .i64 (i:Int)] H fun r H'=>Own 3 H H' r (bfs (roadsL n.toNat es) i)/\H<+:H':=by
  refine in77 rfl ?_
  intro Q hQ
  simp (disch:=omega) only [cd77,hr.boxG,SS,eq_self,reduceIte,reduceCtorEq,Nat.reduceEqDiff,Nat.reduceAdd]
  generalize hA:H ++ [AObj.cells [.int .i64 n,v] 26 false]=A
  have pA:H<+:A:=by rw [<- hA];exact List.prefix_append _ _
  have cA:A[H.length]?=some (.cells [.int .i64 n,v] 26 false):=by rw [<- hA];exact at_new ..
  have rA:=hr.pre pA
  have mk:=mk_nils (P:=Tryz.prog) (t:=36) Tryz.underlying36 cs27 (by rw [by27];decide) ze27 hn.1 (by omega)
  simp (disch:=omega) only [cell_of cA,mk,SS,eq_self,reduceIte,reduceCtorEq,Nat.reduceEqDiff,Nat.reduceAdd]
  have z0:=at_new A (.cells (List.replicate n.toNat (.slice none 0 0)) 27 false)
  refine LoopH.by (fun m s H'=>∃ j us,m+j=n.toNat/\s 1=.int .i64 (i:Int)/\s 2=.pointer (some ⟨H.length,0,none⟩)/\s 5=.slice (some ⟨A.length,0,none⟩) n.toNat n.toNat/\s 6=.int .i64 ((j:Nat):Int)/\us.length=n.toNat/\H'[A.length]?=some (.cells us 27 false)/\(∀ x,x<j->Row 3 H' (us.getD x undef) (nbsU es x n.toNat)/\(us.getD x undef=.slice none 0 0∨A.length<rowO (us.getD x undef)))/\A<+:H') n.toNat ?_ ?_
  . exact ⟨0,List.replicate n.toNat (.slice none 0 0),by simp,rfl,rfl,rfl,rfl,by simp,z0,fun x hx=>absurd hx (Nat.not_lt_zero x),List.prefix_append _ _⟩
  . rintro m s H' ⟨j,us,hm,h1,h2,h5,h6,hul,hc,hrows,hp⟩
    have hr':=rA.pre hp
    have cH:=pre_at hp cA
    simp (disch:=omega) only [h1,h2,h5,h6,cell_of cH,SS,eq_self,reduceIte,reduceCtorEq,Nat.reduceEqDiff,Nat.reduceAdd]
    refine brD.intro (fun g=>?_) (fun g=>?_)
    . simp (disch:=omega) only [h1,h2,h5,h6,ld_agg ag26 cs26 cH,SS,eq_self,reduceIte,reduceCtorEq,Nat.reduceEqDiff,Nat.reduceAdd]
      refine CallH.by (l2Neighbors_c n v es j H' hr' hlen hn) ?_
      rintro b D ⟨hb,pD⟩
      have hcD:=pre_at pD hc
      have hju:j<us.length:=by omega
      have hsh:=hb.row.shape
      obtain ⟨q,eq⟩:=hsh
      have t1:isTup b=false:=by rw [eq];rfl
      have t2:b.cells.toList=[b]:=by rw [eq];rfl
      have hst:=st_at (P:=Tryz.prog) (t:=27) cs27 hcD hju t1 t2
      simp (disch:=omega) only [h1,h2,h5,h6,Int.toNat_natCast,Nat.zero_add,hst,wrap64,SS,eq_self,reduceIte,reduceCtorEq,Nat.reduceEqDiff,Nat.reduceAdd]
      have hlt:=at_lt hc
      have f0:=at_set (d:=.cells (us.set j b) 27 false) hcD
      have f1:A<+:D.set A.length (.cells (us.set j b) 27 false):=pre_set (hp.trans pD) (Nat.le_refl _) _
      have keep:∀ {w:Value} {l:List Int},Row 3 D w l->(w=.slice none 0 0∨A.length<rowO w)->Row 3 (D.set A.length (.cells (us.set j b) 27 false)) w l:=by
        intro w l hw ha
        rcases ha with ha | ha
        . rcases hw with hw | ⟨o,k,vs,ro,e1,_⟩
          . exact .inl hw
          . rw [e1] at ha;cases ha
        . exact hw.mono fun y hy=>by rw [List.getElem?_set_ne (by omega)];exact hy
      have hbo:b=.slice none 0 0∨A.length<rowO b:=by
        rcases hb with ⟨q,_⟩ | ⟨o,q,ho,_⟩
        . exact .inl q
        . refine .inr ?_
          rw [q]
          show A.length<o
          omega
      have f2:∀ x,x<j+1->Row 3 (D.set A.length (.cells (us.set j b) 27 false)) ((us.set j b).getD x undef) (nbsU es x n.toNat)/\((us.set j b).getD x undef=.slice none 0 0∨A.length<rowO ((us.set j b).getD x undef)):=by
        intro x hx
        have hsx:(us.set j b).getD x undef=if j=x then b else us.getD x undef:=by
          rw [List.getD_eq_getElem?_getD,List.getD_eq_getElem?_getD,List.getElem?_set]
          by_cases h:j=x
          . subst h;rw [if_pos rfl,if_pos rfl,if_pos hju];rfl
          . rw [if_neg h,if_neg h]
        rw [hsx]
        split
        . rename_i e
          subst e
          exact ⟨keep hb.row hbo,hbo⟩
        . rename_i e
          obtain ⟨q1,q2⟩:=hrows x (by omega)
          exact ⟨keep (q1.pre pD) q2,q2⟩
      have f3:(us.set j b).length=n.toNat:=by simp [hul]
      refine ⟨m - 1,by omega,j+1,us.set j b,?_⟩
      (repeat' first | exact f0 | exact f1 | exact f2 | exact f3 | apply And.intro) <;> first | (simp only [Value.int.injEq,true_and];omega) | omega | rfl | assumption | (simp;done) | (simp;omega)
    . have hj:j=n.toNat:=by omega
      have hrow:RowLB H'.length 27 3 H' (.slice (some ⟨A.length,0,none⟩) n.toNat n.toNat) (roadsL n.toNat es):=by
        refine ⟨us,.inr ⟨A.length,0,us,false,by rw [hul],hc,by omega,by rw [List.drop_zero,List.take_of_length_le (Nat.le_refl _)]⟩,.inr (at_lt hc),by rw [roadsL_len,hul],fun x hx=>?_⟩
        rw [roadsL_len] at hx
        obtain ⟨q1,q2⟩:=hrows x (by omega)
        rw [roadsL_at _ _ _ hx]
        refine ⟨q1,?_⟩
        rcases q1.nil with q | q
        . exact .inl q.1
        . exact .inr q
      simp (disch:=omega) only [h1,h2,h5,h6,SS,eq_self,reduceIte,reduceCtorEq,Nat.reduceEqDiff,Nat.reduceAdd]
      refine CallH.by (l2Spread_c _ (roadsL n.toNat es) i H' hrow (roadsL_ok _ _) (by rw [roadsL_len];omega) (by rw [roadsL_len];omega) (roadsL_small _ _ (by omega))) ?_
      rintro u E ⟨hu,pE⟩
      have hpp:=pA.trans hp
      simp (disch:=omega) only [SS,eq_self,reduceIte,reduceCtorEq,Nat.reduceEqDiff,Nat.reduceAdd]
      refine hQ _ _ _ ?_
      simp (disch:=omega) only [hu.row.tup,SS,eq_self,reduceIte,reduceCtorEq,Nat.reduceEqDiff,Nat.reduceAdd]
      exact ⟨hu.base hpp,hpp.trans pE⟩
def prtG (es:List (Int × Int))(T:List Int):List (Int × Int):=T.map fun e=>es.getD e.toNat (0,0)
def EdIn (es:List (Int × Int))(T:List Int):Prop:=∀ e ∈ T,0<=e/\e<es.length
theorem EdIn.sub {es:List (Int × Int)}{T U:List Int}(h:EdIn es T)(hs:∀ x ∈ U,x ∈ T):EdIn es U:=fun e he=>h e (hs e he)
theorem en_eq {n:Int}{es:List (Int × Int)}(hg:Grd n es){e:Int}(h:0<=e/\e<es.length):es.getD e.toNat (0,0)=((enA es e:Int),(enB es e:Int))/\enA es e<enB es e/\(enB es e:Int)<n:=by
  have hl:e.toNat<es.length:=by omega
  have hm:es.getD e.toNat (0,0) ∈ es:=by simp [hl]
  have:=grd_mem hg hm
  unfold enA enB
  refine ⟨Prod.ext ?_ ?_,?_,?_⟩
  . show _=(((es.getD e.toNat (0,0)).1.toNat:Nat):Int);omega
  . show _=(((es.getD e.toNat (0,0)).2.toNat:Nat):Int);omega
  . omega
  . omega
theorem EdIn.ends {n:Nat}{es:List (Int × Int)}(hg:Grd (n:Int) es){T:List Int}(h:EdIn es T):EndsIn es T n:=fun e he=>by
  have:=en_eq hg (h e he)
  omega
theorem prt_near {n:Int}{es:List (Int × Int)}(hg:Grd n es){T:List Int}(hT:EdIn es T)(a b:Int):nearB (prtG es T) a b=true↔∃ e ∈ T,(a=enA es e/\b=enB es e)∨(b=enA es e/\a=enB es e):=by
  rw [nearB_iff]
  unfold prtG
  rw [List.mem_map,List.mem_map]
  constructor
  . rintro (⟨e,he,q⟩ | ⟨e,he,q⟩)
    . rw [(en_eq hg (hT e he)).1,Prod.mk.injEq] at q
      exact ⟨e,he,.inl ⟨q.1.symm,q.2.symm⟩⟩
    . rw [(en_eq hg (hT e he)).1,Prod.mk.injEq] at q
      exact ⟨e,he,.inr ⟨q.1.symm,q.2.symm⟩⟩
  . rintro ⟨e,he,⟨q1,q2⟩ | ⟨q1,q2⟩⟩
    . exact .inl ⟨e,he,by rw [(en_eq hg (hT e he)).1,q1,q2]⟩
    . exact .inr ⟨e,he,by rw [(en_eq hg (hT e he)).1,q1,q2]⟩
theorem Rch.trans {adj:Int->Int->Prop}{S:Int->Prop}{x y z:Int}(h:Rch adj S x y)(k:Rch adj S y z):Rch adj S x z:=by
  induction k with
  | refl=>exact h
  | step _ h1 h2 ih=>exact .step ih h1 h2
theorem Rch.back {adj:Int->Int->Prop}{S:Int->Prop}(hs:∀ a b,adj a b->adj b a){x z:Int}(h:Rch adj S x z)(hx:S x):Rch adj S z x:=by
  induction h with
  | refl=>exact .refl
  | step h0 h1 h2 ih=>exact (Rch.step .refl (hs _ _ h1) (h0.in_ hx)).trans ih
theorem jn_rch {n:Nat}{es:List (Int × Int)}(hg:Grd (n:Int) es){T:List Int}(hT:EdIn es T){x:Nat}(hx:x<n)(z':Int) :
    Rch (fun a b=>nearB (prtG es T) a b=true) (· ∈ alls n) (x:Int) z'↔∃ z:Nat,z'=z/\z<n/\Jn es T x z:=by
  have ends:=hT.ends hg
  constructor
  . intro h
    induction h with
    | refl=>exact ⟨x,rfl,hx,.refl x⟩
    | step _ h1 h2 ih =>
      obtain ⟨z,rfl,hz,hj⟩:=ih
      obtain ⟨e,he,q⟩:=(prt_near hg hT _ _).1 h1
      have hm:=ends e he
      rcases q with ⟨q1,q2⟩ | ⟨q1,q2⟩
      . have:z=enA es e:=by omega
        subst this
        exact ⟨enB es e,q2,hm.2,hj.trans (.edge e he)⟩
      . have:z=enB es e:=by omega
        subst this
        exact ⟨enA es e,q1,hm.1,hj.trans (.symm (.edge e he))⟩
  . rintro ⟨z,rfl,hz,hj⟩
    have key:∀ {u v:Nat},Jn es T u v->u<n->Rch (fun a b=>nearB (prtG es T) a b=true) (· ∈ alls n) (u:Int) (v:Int):=by
      intro u v h
      induction h with
      | refl y=>intro _;exact .refl
      | edge e he=>intro _;exact .step .refl ((prt_near hg hT _ _).2 ⟨e,he,.inl ⟨rfl,rfl⟩⟩) ((alls_mem _ _).2 (by have:=ends e he;omega))
      | symm h ih=>intro hu;exact (ih ((Jn.in_ ends h).2 hu)).back (fun a b hab=>by rw [nearB_comm];exact hab) ((alls_mem _ _).2 (by have:=(Jn.in_ ends h).2 hu;omega))
      | trans h1 h2 i1 i2=>intro hu;exact (i1 hu).trans (i2 ((Jn.in_ ends h1).1 hu))
    exact key hj hx
def jnB (es:List (Int × Int))(n:Nat)(T:List Int)(a b:Nat):Bool:=decide (0<=(bfs (roadsL n (prtG es T)) a).getD b 0)
theorem jnB_iff {n:Nat}{es:List (Int × Int)}(hg:Grd (n:Int) es){T:List Int}(hT:EdIn es T){i j:Nat}(hi:i<n)(hj:j<n):jnB es n T i j=true↔Jn es T i j:=by
  have hL:=roadsL_ok n (prtG es T)
  have hl:=roadsL_len n (prtG es T)
  have hi':i<(roadsL n (prtG es T)).length:=by omega
  unfold jnB
  rw [decide_eq_true_eq]
  have hadj:∀ u,u<n->∀ y,y ∈ (roadsL n (prtG es T)).getD u []↔((0<=y/\y<n)/\nearB (prtG es T) u y=true):=fun u hu y=>by rw [roadsL_at _ _ _ hu,nbsU_mem]
  constructor
  . obtain ⟨q,h⟩:=bfs_DS hL hi'
    have key:∀ (d v:Nat),v<n->(bfs (roadsL n (prtG es T)) i).getD v 0=d->Jn es T i v:=by
      intro d
      induction d with
      | zero =>
        intro v hv hd
        rcases h.di.src v (by omega) (show 0<=(bfs (roadsL n (prtG es T)) i).getD v 0 by omega) with ⟨e,_⟩ | ⟨u,u1,u2,u3,u4⟩
        . subst e;exact .refl _
        . have u2':0<=(bfs (roadsL n (prtG es T)) i).getD u 0:=u2
          have u4':(bfs (roadsL n (prtG es T)) i).getD v 0=(bfs (roadsL n (prtG es T)) i).getD u 0+1:=u4
          omega
      | succ d ih =>
        intro v hv hd
        rcases h.di.src v (by omega) (show 0<=(bfs (roadsL n (prtG es T)) i).getD v 0 by omega) with ⟨_,e⟩ | ⟨u,u1,u2,u3,u4⟩
        . have e':(bfs (roadsL n (prtG es T)) i).getD v 0=0:=e
          omega
        . have u4':(bfs (roadsL n (prtG es T)) i).getD v 0=(bfs (roadsL n (prtG es T)) i).getD u 0+1:=u4
          have hu:u<n:=by omega
          have hj:=ih u hu (by omega)
          obtain ⟨e,he,c⟩:=(prt_near hg hT _ _).1 ((hadj u hu _).1 u3).2
          rcases c with ⟨c1,c2⟩ | ⟨c1,c2⟩
          . have e1:u=enA es e:=by omega
            have e2:v=enB es e:=by omega
            rw [e2];exact (e1 ▸ hj).trans (.edge e he)
          . have e1:u=enB es e:=by omega
            have e2:v=enA es e:=by omega
            rw [e2];exact (e1 ▸ hj).trans (.symm (.edge e he))
    intro h0
    exact key _ j hj (Int.toNat_of_nonneg h0).symm
  . intro hjn
    have hr:=(jn_rch hg hT hi (j:Int)).2 ⟨j,rfl,hj,hjn⟩
    have key:∀ z:Int,Rch (fun a b=>nearB (prtG es T) a b=true) (· ∈ alls n) (i:Int) z->(0<=z/\z<n)/\0<=(bfs (roadsL n (prtG es T)) i).getD z.toNat 0:=by
      intro z h
      induction h with
      | refl=>refine ⟨by omega,?_⟩;rw [Int.toNat_natCast,bfs_zero hL hi'];omega
      | step _ h1 h2 ih =>
        have hz:=(alls_mem _ _).1 h2
        refine ⟨hz,bfs_clo hL hi' (by omega) ih.2 ((hadj _ (by omega) _).2 ⟨hz,?_⟩)⟩
        rw [Int.toNat_of_nonneg ih.1.1];exact h1
    have:=(key _ hr).2
    rwa [Int.toNat_natCast] at this
def TreL (n:Nat)(es:List (Int × Int))(T:List Int):Prop:=T.length+1=n/\T.Pairwise (· < ·)/\EdIn es T/\Conn es T n
abbrev ed1 (es:List (Int × Int))(e:Int):Int:=(es.getD e.toNat (0,0)).1
abbrev ed2 (es:List (Int × Int))(e:Int):Int:=(es.getD e.toNat (0,0)).2
def seenL (es:List (Int × Int))(xs:List Int):List Int:=xs.flatMap fun e=>[ed1 es e,ed2 es e]
theorem seenL_snoc (es:List (Int × Int))(xs:List Int)(e:Int):seenL es (xs ++ [e])=seenL es xs ++ [ed1 es e,ed2 es e]:=by simp [seenL]
theorem seenL_len (es:List (Int × Int))(xs:List Int):(seenL es xs).length=2 * xs.length:=by
  induction xs with
  | nil=>rfl
  | cons a xs ih=>simp only [seenL,List.flatMap_cons,List.length_append] at ih ⊢;simp only [List.length_cons,List.length_nil,ih];omega
def rsOk (n:Int)(xs:List Int)(i:Nat):Prop:=(0<=xs.getD i 0/\xs.getD i 0<=n - 1)/\(0<i->xs.getD (i - 1) 0<xs.getD i 0)
instance (n:Int) (xs:List Int) (i:Nat):Decidable (rsOk n xs i):=by unfold rsOk;infer_instance
def frOk (es:List (Int × Int))(xs:List Int)(i:Nat):Prop:=ed1 es (xs.getD i 0) ∉ seenL es (xs.take i)/\ed2 es (xs.getD i 0) ∉ seenL es (xs.take i)
instance (es:List (Int × Int)) (xs:List Int) (i:Nat):Decidable (frOk es xs i):=by unfold frOk;infer_instance
def MtU (es:List (Int × Int))(xs:List Int)(k:Nat):Prop:=∀ i,i<k->rsOk es.length xs i/\frOk es xs i
instance (es:List (Int × Int)) (xs:List Int) (k:Nat):Decidable (MtU es xs k):=by unfold MtU;infer_instance
theorem MtU.zero (es:List (Int × Int))(xs:List Int):MtU es xs 0:=fun i h=>absurd h (Nat.not_lt_zero i)
theorem MtU.succ {es:List (Int × Int)}{xs:List Int}{k:Nat}(h:MtU es xs k)(h1:rsOk es.length xs k)(h2:frOk es xs k):MtU es xs (k+1):=by
  intro i hi
  rcases Nat.lt_succ_iff_lt_or_eq.1 hi with g | g
  . exact h i g
  . rw [g];exact ⟨h1,h2⟩
theorem MtU.no {es:List (Int × Int)}{xs:List Int}{k i:Nat}(hi:i<k)(h:¬ (rsOk es.length xs i/\frOk es xs i)):¬ MtU es xs k:=fun g=>h (g i hi)
def frE (es:List (Int × Int))(ed:List Int)(e:Int):Prop:=ed1 es e ∉ seenL es ed/\ed2 es e ∉ seenL es ed
instance (es:List (Int × Int)) (ed:List Int) (e:Int):Decidable (frE es ed e):=by unfold frE;infer_instance
def mall (es:List (Int × Int)):Nat->List Int->List (List Int)
  | 0,_=>[]
  | k+1,ed=>(if frE es ed ((es.length - (k+1):Nat):Int) then (ed ++ [((es.length - (k+1):Nat):Int)]) :: mall es k (ed ++ [((es.length - (k+1):Nat):Int)]) else []) ++ mall es k ed
theorem nodupM_le:∀ (n:Nat) (l:List Int),l.Nodup->(∀ x ∈ l,0<=x/\x<n)->l.length<=n
  | 0,l,_,h=>by
    cases l with
    | nil=>simp
    | cons x l=>have:=h x (by simp);omega
  | n+1,l,hd,h=>by
    have h1:=nodupM_le n (l.erase (n:Int)) (hd.erase _) (fun x hx=>by
      have:=(hd.mem_erase_iff).1 hx
      have h2:=h x this.2
      have:x ≠ (n:Int):=this.1
      omega)
    have:l.length<=(l.erase (n:Int)).length+1:=by
      rw [List.length_erase]
      split <;> omega
    omega
def Mgo (n:Int)(es:List (Int × Int))(ed:List Int):Prop:=(seenL es ed).Nodup/\∀ z ∈ seenL es ed,0<=z/\z<n
theorem Mgo.nil (n:Int)(es:List (Int × Int)):Mgo n es []:=⟨by simp [seenL],fun z hz=>by simp [seenL] at hz⟩
theorem Mgo.snoc {n:Int}{es:List (Int × Int)}{ed:List Int}{e:Int}(hg:Grd n es)(h:Mgo n es ed)(he:e.toNat<es.length)(hf:frE es ed e):Mgo n es (ed ++ [e]):=by
  obtain ⟨a1,a2,a3,_⟩:=hg.2 e.toNat he
  have b1:ed1 es e<ed2 es e:=a2
  have b2:0<=ed1 es e:=a1
  have b3:ed2 es e<n:=a3
  refine ⟨?_,?_⟩
  . rw [seenL_snoc,List.nodup_append]
    refine ⟨h.1,?_,?_⟩
    . simp;omega
    . intro x hx y hy hxy
      subst hxy
      simp only [List.mem_cons,List.not_mem_nil,or_false] at hy
      rcases hy with rfl | rfl
      . exact hf.1 hx
      . exact hf.2 hx
  . intro z hz
    rw [seenL_snoc,List.mem_append] at hz
    rcases hz with hz | hz
    . exact h.2 z hz
    . simp only [List.mem_cons,List.not_mem_nil,or_false] at hz
      omega
theorem Mgo.all {n:Int}{es:List (Int × Int)}(hg:Grd n es):∀ (k:Nat) (ed:List Int),k<=es.length->Mgo n es ed->∀ x ∈ mall es k ed,Mgo n es x
  | 0,ed,_,h,x,hx=>by simp [mall] at hx
  | k+1,ed,hk,h,x,hx=>by
    simp only [mall,List.mem_append] at hx
    rcases hx with hx | hx
    . split at hx
      . rename_i hf
        have h2:=h.snoc hg (by rw [Int.toNat_natCast];omega) hf
        simp only [List.mem_cons] at hx
        rcases hx with rfl | hx
        . exact h2
        . exact Mgo.all hg k _ (by omega) h2 x hx
      . simp at hx
    . exact Mgo.all hg k ed (by omega) h x hx
theorem Mgo.len {n:Int}{es:List (Int × Int)}{ed:List Int}(hn:0<=n)(h:Mgo n es ed):2 * ed.length<=n.toNat:=by
  have:=nodupM_le n.toNat (seenL es ed) h.1 (fun z hz=>by have:=h.2 z hz;omega)
  rw [seenL_len] at this
  exact this
end Go.Proofs.YtjnefjchconebaaGreat.Ai
