/- Texts of this claim, joined: Near, MvP, Rep, AppL, Rch, Seq, Perm, Tok, Spd, Drc, PrmC, TreP, BfsP, PartP, ReachP, BfsQ, Bfs, Roads, TreQ, MatP, MatA, SrtL, SrtF, JmpS, GrA, Joi, TrI, Reach, Drq. -/
import Derived.Test.YtlcipphiflcaiaaGreatProg
import Derived.KernelRfl
import Derived.RangeFuncBox
import Derived.RangeFuncLeaves
import Derived.Shelf.Abstract
import Derived.WalkKit
import Derived.OwnWalkIn
import Derived.TacticsInMore
import Derived.LoopNIn
import Derived.LoopIn
import Derived.Maps.AppendAt
import Derived.Test.YtlcipphiflcaiaaGreatMgLawWyw3
set_option linter.unusedVariables false
set_option linter.unusedSimpArgs false
set_option maxHeartbeats 8000000
set_option maxRecDepth 20000
namespace Go.Proofs.YtlcipphiflcaiaaGreat.Ai
open Go Go.RowKit
def cd213:Cd:=(.seq (.reg [⟨⟨some 3,.box 115 (.tmp 1),none⟩,[]⟩,
 ⟨⟨some 4,.assign (.const (.int .i64 0)),none⟩,[]⟩]) (.seq (.seq (.reg [⟨⟨some 6,.move (.tmp 0),none⟩,[]⟩,
 ⟨⟨some 7,.call ⟨(.builtin .len),#[.tmp 6],#[24]⟩,none⟩,[]⟩,
 ⟨⟨some 8,.move (.const (.int .i64 0)),none⟩,[]⟩]) (.block 0 (.loop (.seq (.reg [⟨⟨some 9,.binOp .lss 3 (.tmp 8) (.tmp 7) 3,none⟩,[]⟩]) (.seq (.cond (.tmp 9) .skip (.exit 0)) (.seq (.block 1 (.seq (.reg [⟨⟨some 10,.move (.tmp 8),none⟩,[]⟩,
 ⟨⟨some 5,.assign (.tmp 10),none⟩,[]⟩]) (.seq (.reg [⟨⟨some 11,.load 115 (.tmp 3),none⟩,[]⟩,
 ⟨⟨some 12,.move (.tmp 0),none⟩,[]⟩,
 ⟨⟨some 13,.move (.tmp 5),none⟩,[]⟩,
 ⟨⟨some 14,.indexAddr 24 (.tmp 12) (.tmp 13),none⟩,[]⟩,
 ⟨⟨some 15,.load 115 (.tmp 14),none⟩,[]⟩,
 ⟨⟨some 16,.binOp .eql 115 (.tmp 11) (.tmp 15) 115,none⟩,[]⟩]) (.cond (.tmp 16) (.seq (.reg [⟨⟨some 17,.move (.tmp 5),none⟩,[]⟩,
 ⟨⟨some 4,.assign (.tmp 17),none⟩,[]⟩]) .ret) .skip)))) (.reg [⟨⟨some 18,.binOp .add 3 (.tmp 8) (.const (.int .i64 1)) 3,none⟩,[]⟩,
 ⟨⟨some 8,.move (.tmp 18),none⟩,[]⟩]))))))) (.seq (.reg [⟨⟨some 4,.assign (.const (.int .i64 (-1))),none⟩,[]⟩]) .ret)))
theorem in213:InT Tryz.prog 213 2 [.tmp 4] cd213:=InT.mk (by kernel_rfl) [(4,[(0,false),(1,false),(2,false),(3,false),(4,false),(5,false)])] Tryz.func213 rfl (by kernel_rfl) (by kernel_rfl) (of_decide_eq_true (by kernel_rfl)) (by kernel_rfl)
def cd182:Cd:=(.seq (.reg [⟨⟨some 3,.box 115 (.tmp 1),none⟩,[]⟩,
 ⟨⟨some 4,.assign (.const (.bool false)),none⟩,[]⟩]) (.seq (.reg [⟨⟨some 5,.move (.tmp 0),none⟩,[]⟩,
 ⟨⟨some 6,.load 115 (.tmp 3),none⟩,[]⟩,
 ⟨⟨some 7,.call ⟨(.value (.func 213)),#[.tmp 5,.tmp 6],#[24,115]⟩,none⟩,[]⟩,
 ⟨⟨some 8,.binOp .geq 3 (.tmp 7) (.const (.int .i64 0)) 3,none⟩,[]⟩,
 ⟨⟨some 4,.assign (.tmp 8),none⟩,[]⟩]) .ret))
theorem in182:InT Tryz.prog 182 2 [.tmp 4] cd182:=InT.mk (by kernel_rfl) [] Tryz.func182 rfl (by kernel_rfl) (by kernel_rfl) (of_decide_eq_true (by kernel_rfl)) (by kernel_rfl)
def cd151:Cd:=(.seq (.reg [⟨⟨some 3,.box 26 (.tmp 0),none⟩,[]⟩,
 ⟨⟨some 6,.assign (.const (.bool false)),none⟩,[]⟩]) (.seq (.reg [⟨⟨some 7,.fieldAddr 26 (.tmp 3) 1,none⟩,[]⟩,
 ⟨⟨some 8,.load 24 (.tmp 7),none⟩,[]⟩,
 ⟨⟨some 9,.move (.tmp 1),none⟩,[]⟩,
 ⟨⟨some 10,.move (.tmp 2),none⟩,[]⟩,
 ⟨⟨some 11,.call ⟨(.value (.func 183)),#[.tmp 9,.tmp 10],#[3,3]⟩,none⟩,[⟨some 8,.load 24 (.tmp 7),none⟩]⟩,
 ⟨⟨some 12,.call ⟨(.value (.func 182)),#[.tmp 8,.tmp 11],#[24,115]⟩,none⟩,[]⟩,
 ⟨⟨some 6,.assign (.tmp 12),none⟩,[]⟩]) .ret))
theorem in151:InT Tryz.prog 151 3 [.tmp 6] cd151:=InT.mk (by kernel_rfl) [(1,[(0,false),(1,false),(2,false),(3,false),(4,true),(5,true),(6,false)])] Tryz.func151 rfl (by kernel_rfl) (by kernel_rfl) (of_decide_eq_true (by kernel_rfl)) (by kernel_rfl)
def cd175:Cd:=(.seq (.reg [⟨⟨some 3,.box 26 (.tmp 0),none⟩,[]⟩,⟨⟨some 6,.assign (.const (.bool false)),none⟩,[]⟩]) (.seq (.seq (.reg [⟨⟨some 7,.assign (.const (.int .i64 0)),none⟩,[]⟩]) (.block 0 (.loop (.seq (.seq (.reg [⟨⟨some 9,.move (.tmp 7),none⟩,[]⟩,⟨⟨some 10,.fieldAddr 26 (.tmp 3) 1,none⟩,[]⟩,⟨⟨some 11,.load 24 (.tmp 10),none⟩,[]⟩,⟨⟨some 12,.call ⟨(.builtin .len),#[.tmp 11],#[24]⟩,none⟩,[]⟩,⟨⟨some 13,.binOp .lss 3 (.tmp 9) (.tmp 12) 3,none⟩,[]⟩]) (.cond (.tmp 13) .skip (.exit 0))) (.seq (.block 1 (.seq (.reg [⟨⟨some 16,.fieldAddr 26 (.tmp 3) 1,none⟩,[]⟩,⟨⟨some 17,.load 24 (.tmp 16),none⟩,[]⟩,⟨⟨some 18,.move (.tmp 7),none⟩,[]⟩,⟨⟨some 19,.indexAddr 24 (.tmp 17) (.tmp 18),none⟩,[]⟩,⟨⟨some 20,.load 115 (.tmp 19),none⟩,[]⟩,⟨⟨some 8,.alloc 115,none⟩,[]⟩,⟨⟨none,.store 115 (.tmp 8) (.tmp 20),none⟩,[]⟩]) (.seq (.reg [⟨⟨some 21,.indexAddr 115 (.tmp 8) (.const (.int .i64 0)),none⟩,[]⟩,
 ⟨⟨some 22,.load 3 (.tmp 21),none⟩,[]⟩,⟨⟨some 23,.move (.tmp 1),none⟩,[]⟩,⟨⟨some 24,.binOp .eql 3 (.tmp 22) (.tmp 23) 3,none⟩,[]⟩,⟨⟨some 25,.move (.tmp 24),none⟩,[]⟩,⟨⟨some 26,.indexAddr 115 (.tmp 8) (.const (.int .i64 1)),some (25,true)⟩,[]⟩,⟨⟨some 27,.load 3 (.tmp 26),some (25,true)⟩,[]⟩,⟨⟨some 28,.move (.tmp 2),some (25,true)⟩,[]⟩,⟨⟨some 29,.binOp .eql 3 (.tmp 27) (.tmp 28) 3,some (25,true)⟩,[]⟩,⟨⟨some 30,.pick (.tmp 25) (.tmp 29) (.const (.bool false)),none⟩,[]⟩,⟨⟨some 31,.move (.tmp 30),none⟩,[]⟩,⟨⟨some 32,.indexAddr 115 (.tmp 8) (.const (.int .i64 0)),some (31,false)⟩,[]⟩,⟨⟨some 33,.load 3 (.tmp 32),some (31,false)⟩,[]⟩,
 ⟨⟨some 34,.move (.tmp 2),some (31,false)⟩,[]⟩,
  ⟨⟨some 35,.binOp .eql 3 (.tmp 33) (.tmp 34) 3,some (31,false)⟩,[]⟩,
  ⟨⟨some 36,.move (.tmp 35),some (31,false)⟩,[]⟩,
  ⟨⟨some 37,.indexAddr 115 (.tmp 8) (.const (.int .i64 1)),some (36,true)⟩,[]⟩,
  ⟨⟨some 38,.load 3 (.tmp 37),some (36,true)⟩,[]⟩,
  ⟨⟨some 39,.move (.tmp 1),some (36,true)⟩,[]⟩,
  ⟨⟨some 40,.binOp .eql 3 (.tmp 38) (.tmp 39) 3,some (36,true)⟩,[]⟩,
  ⟨⟨some 41,.pick (.tmp 36) (.tmp 40) (.const (.bool false)),some (31,false)⟩,[]⟩,
  ⟨⟨some 42,.pick (.tmp 31) (.const (.bool true)) (.tmp 41),none⟩,[]⟩]) (.cond (.tmp 42) (.seq (.reg [⟨⟨some 6,.assign (.const (.bool true)),none⟩,[]⟩]) .ret) .skip)))) (.reg [⟨⟨some 14,.move (.tmp 7),none⟩,[]⟩,
  ⟨⟨some 15,.binOp .add 3 (.tmp 14) (.const (.int .i64 1)) 3,none⟩,[]⟩,
  ⟨⟨some 7,.assign (.tmp 15),none⟩,[]⟩])))))) (.seq (.reg [⟨⟨some 6,.assign (.const (.bool false)),none⟩,[]⟩]) .ret)))
theorem in175:InT Tryz.prog 175 3 [.tmp 6] cd175:=InT.mk (by kernel_rfl) [] Tryz.func175 rfl (by kernel_rfl) (by kernel_rfl) (of_decide_eq_true (by kernel_rfl)) (by kernel_rfl)
def cd146:Cd:=(.seq (.reg [⟨⟨some 2,.box 26 (.tmp 0),none⟩,[]⟩,⟨⟨some 4,.assign (.const (.slice none 0 0)),none⟩,[]⟩]) (.seq (.reg [⟨⟨some 7,.buildSlice 27 0 #[],none⟩,[]⟩,⟨⟨some 5,.assign (.tmp 7),none⟩,[]⟩]) (.seq (.seq (.reg [⟨⟨some 8,.fieldAddr 26 (.tmp 2) 0,none⟩,[]⟩,⟨⟨some 9,.load 3 (.tmp 8),none⟩,[]⟩,⟨⟨some 10,.move (.const (.int .i64 0)),none⟩,[]⟩]) (.block 0 (.loop (.seq (.reg [⟨⟨some 11,.binOp .lss 3 (.tmp 10) (.tmp 9) 3,none⟩,[]⟩]) (.seq (.cond (.tmp 11) .skip (.exit 0)) (.seq (.block 1 (.seq (.reg [⟨⟨some 12,.move (.tmp 10),none⟩,[]⟩,⟨⟨some 6,.assign (.tmp 12),none⟩,[]⟩]) (.seq (.reg [⟨⟨some 13,.move (.tmp 6),none⟩,[]⟩,⟨⟨some 14,.move (.tmp 1),none⟩,[]⟩,⟨⟨some 15,.binOp .neq 3 (.tmp 13) (.tmp 14) 3,none⟩,[]⟩,⟨⟨some 16,.move (.tmp 15),none⟩,[]⟩,⟨⟨some 17,.load 26 (.tmp 2),some (16,true)⟩,[]⟩,⟨⟨some 18,.move (.tmp 1),some (16,true)⟩,[]⟩,⟨⟨some 19,.move (.tmp 6),some (16,true)⟩,[]⟩,
 ⟨⟨some 20,.call ⟨(.value (.func 151)),#[.tmp 17,.tmp 18,.tmp 19],#[26,3,3]⟩,some (16,true)⟩,[]⟩,
  ⟨⟨some 21,.pick (.tmp 16) (.tmp 20) (.const (.bool false)),none⟩,[]⟩]) (.cond (.tmp 21) (.reg [⟨⟨some 22,.move (.tmp 5),none⟩,[]⟩,
  ⟨⟨some 23,.move (.tmp 6),none⟩,[]⟩,
  ⟨⟨some 24,.buildSlice 27 1 #[(0,.tmp 23)],none⟩,[]⟩,
  ⟨⟨some 25,.call ⟨(.builtin .append),#[.tmp 22,.tmp 24],#[27,27]⟩,none⟩,[]⟩,
  ⟨⟨some 5,.assign (.tmp 25),none⟩,[]⟩]) .skip)))) (.reg [⟨⟨some 26,.binOp .add 3 (.tmp 10) (.const (.int .i64 1)) 3,none⟩,[]⟩,
  ⟨⟨some 10,.move (.tmp 26),none⟩,[]⟩]))))))) (.seq (.reg [⟨⟨some 27,.move (.tmp 5),none⟩,[]⟩,
  ⟨⟨some 4,.assign (.tmp 27),none⟩,[]⟩]) .ret))))
theorem in146:InT Tryz.prog 146 2 [.tmp 4] cd146:=InT.mk (by kernel_rfl) [] Tryz.func146 rfl (by kernel_rfl) (by kernel_rfl) (of_decide_eq_true (by kernel_rfl)) (by kernel_rfl)
end Go.Proofs.YtlcipphiflcaiaaGreat.Ai
namespace Go.Proofs.YtlcipphiflcaiaaGreat.Ai
open Go Go.RowKit
def hitB (a b:Int)(e:Int × Int):Bool:=decide (e.1=a/\e.2=b∨e.1=b/\e.2=a)
def nearB (es:List (Int × Int))(a b:Int):Bool:=es.any (hitB a b)
theorem any_step {α:Type}(p:α->Bool)(xs:List α)(d:α)(i:Nat)(hi:i<xs.length):(xs.drop i).any p=(p (xs.getD i d) || (xs.drop (i+1)).any p):=by
 have:xs.getD i d=xs[i]:=by simp [hi]
 rw [List.drop_eq_getElem_cons hi,List.any_cons,this]
theorem nearB_comm (es:List (Int × Int))(a b:Int):nearB es a b=nearB es b a:=by
 have:hitB a b=hitB b a:=by
  funext e
  unfold hitB
  rw [decide_eq_decide]
  exact ⟨fun h=>h.elim .inr .inl,fun h=>h.elim .inr .inl⟩
 unfold nearB
 rw [this]
theorem nearB_iff (es:List (Int × Int))(a b:Int):nearB es a b=true↔((a,b) ∈ es∨(b,a) ∈ es):=by
 unfold nearB hitB
 rw [List.any_eq_true]
 constructor
 ·rintro ⟨⟨x,y⟩,hm,h⟩
  rcases of_decide_eq_true h with h | h
  ·obtain ⟨h1,h2⟩:=h
   simp only at h1 h2
   subst h1;subst h2;exact .inl hm
  ·obtain ⟨h1,h2⟩:=h
   simp only at h1 h2
   subst h1;subst h2;exact .inr hm
 ·rintro (h | h)
  ·exact ⟨_,h,by simp⟩
  ·exact ⟨_,h,by simp⟩
theorem grd_mem {n:Int}{es:List (Int × Int)}(hg:Grd n es){e:Int × Int}(he:e ∈ es):0<=e.1/\e.1<e.2/\e.2<n:=by
 obtain ⟨i,hi,rfl⟩:=List.mem_iff_getElem.1 he
 obtain ⟨h1,h2,h3,_⟩:=hg.2 i hi
 have:es.getD i (0,0)=es[i]:=by simp [hi]
 rw [this] at h1 h2 h3
 exact ⟨h1,h2,h3⟩
theorem near_rng {n:Int}{es:List (Int × Int)}(hg:Grd n es){a b:Int}(h:nearB es a b=true):(0<=a/\a<n)/\(0<=b/\b<n)/\a ≠ b:=by
 rcases (nearB_iff es a b).1 h with h | h <;> have:=grd_mem hg h <;> simp only at this <;> omega
theorem near_has {n:Int}{es:List (Int × Int)}(hg:Grd n es)(a b:Int)(hab:b ≠ a):decide ((minI a b,maxI a b) ∈ es)=nearB es a b:=by
 rw [Bool.eq_iff_iff,decide_eq_true_iff,nearB_iff]
 by_cases h:a<=b
 ·have e1:minI a b=a:=by unfold minI;split <;> omega
  have e2:maxI a b=b:=by unfold maxI;split <;> omega
  rw [e1,e2]
  exact ⟨.inl,fun h'=>h'.resolve_right fun h''=>by have:=grd_mem hg h'';simp only at this;omega⟩
 ·have e1:minI a b=b:=by unfold minI;split <;> omega
  have e2:maxI a b=a:=by unfold maxI;split <;> omega
  rw [e1,e2]
  exact ⟨.inr,fun h'=>h'.resolve_left fun h''=>by have:=grd_mem hg h'';simp only at this;omega⟩
def nbsU (es:List (Int × Int))(x:Int):Nat->List Int
 | 0=>[]
 | k+1=>nbsU es x k ++ if nearB es x k=true then [(k:Int)] else []
theorem nbsU_len (es:List (Int × Int))(x:Int)(k:Nat):(nbsU es x k).length<=k:=by
 induction k with
 | zero=>simp [nbsU]
 | succ k ih=>simp only [nbsU,List.length_append];split <;> simp <;> omega
theorem nbsU_mem (es:List (Int × Int))(x:Int)(k:Nat)(y:Int):y ∈ nbsU es x k↔(0<=y/\y<k)/\nearB es x y=true:=by
 induction k with
 | zero=>simp [nbsU];intro h1 h2;omega
 | succ k ih =>
  simp only [nbsU,List.mem_append,ih]
  constructor
  ·rintro (⟨h1,h2⟩ | h)
   ·exact ⟨by omega,h2⟩
   ·split at h
    ·rename_i hn
     simp only [List.mem_cons,List.not_mem_nil,or_false] at h
     subst h;exact ⟨by omega,hn⟩
    ·simp at h
  ·rintro ⟨h1,h2⟩
   by_cases h:y<k
   ·exact .inl ⟨by omega,h2⟩
   ·obtain rfl:y=k:=by omega
    right;rw [if_pos h2];simp
theorem eq_a2 (a b c d:Int):binA Tryz.prog .eql 115 (.agg (List.toArray [.int .i64 a,.int .i64 b])) (.agg (List.toArray [.int .i64 c,.int .i64 d]))=some (.bool (decide ((a,b)=(c,d)))):=by
 have h:binA Tryz.prog .eql 115 (.agg (List.toArray [.int .i64 a,.int .i64 b])) (.agg (List.toArray [.int .i64 c,.int .i64 d]))=some (.bool (a == c && b == d)):=by kernel_rfl
 have h2:(a == c && b == d)=decide ((a,b)=(c,d)):=by
  rw [Bool.eq_iff_iff]
  simp
 rw [h,h2]
theorem IndexP_c (v:Value)(ps:List (Int × Int))(p:Int × Int)(H:AH)(hr:RowP 115 H v ps)(hlen:ps.length<=1099511627776) :
  ACalls Tryz.prog 213 [v,.agg (List.toArray [.int .i64 p.1,.int .i64 p.2])] H fun r H'=>(∃ k:Int,r=.int .i64 k/\(0<=k↔p ∈ ps))/\H<+:H':=by
 refine in213 rfl ?_
 intro Q hQ
 simp (disch:=omega) only [cd213,box_a2,hr.len Tryz.underlying24,SS,eq_self,reduceIte,reduceCtorEq,Nat.reduceEqDiff,Nat.reduceAdd]
 generalize hA:H ++ [AObj.cells [.int .i64 p.1,.int .i64 p.2] 115 false]=A
 have pA:H<+:A:=by rw [<- hA];exact List.prefix_append _ _
 have cA:A[H.length]?=some (.cells [.int .i64 p.1,.int .i64 p.2] 115 false):=by rw [<- hA];exact at_new ..
 have rA:=hr.pre pA
 refine LoopH.by (fun m s H'=>∃ i,m+i=ps.length/\s 0=v/\s 3=.pointer (some ⟨H.length,0,none⟩)/\s 7=.int .i64 (ps.length:Int)/\s 8=.int .i64 ((i:Nat):Int)/\A=H'/\∀ j,j<i->ps.getD j (0,0) ≠ p) ps.length ?_ ?_
 ·exact ⟨0,by simp,rfl,rfl,rfl,rfl,rfl,fun j hj=>absurd hj (Nat.not_lt_zero j)⟩
 ·rintro m s H' ⟨i,hm,h0,h3,h7,h8,rfl,hn⟩
  simp (disch:=omega) only [h0,h3,h7,h8,SS,eq_self,reduceIte,reduceCtorEq,Nat.reduceEqDiff,Nat.reduceAdd]
  refine brD.intro (fun g=>?_) (fun g=>?_)
  ·have hi:i<ps.length:=by omega
   simp (disch:=omega) only [h0,h3,h7,h8,ld_a2 cA,rA.ix Tryz.underlying24 cs115,Int.toNat_natCast,rA.ld ag115 cs115 hi,eq_a2,SS,eq_self,reduceIte,reduceCtorEq,Nat.reduceEqDiff,Nat.reduceAdd]
   refine brD.intro (fun e=>?_) (fun e=>?_) <;> simp (disch:=omega) only [h0,h3,h7,h8,wrap64,SS,eq_self,reduceIte,reduceCtorEq,Nat.reduceEqDiff,Nat.reduceAdd]
   ·refine hQ _ _ _ ?_
    simp (disch:=omega) only [SS,eq_self,reduceIte,reduceCtorEq,Nat.reduceEqDiff,Nat.reduceAdd]
    have e':p=ps.getD i (0,0):=e
    have hm:p ∈ ps:=by rw [e'];simp [hi]
    exact ⟨⟨i,rfl,⟨fun _=>hm,fun _=>by omega⟩⟩,pA⟩
   ·have f1:∀ j,j<i+1->ps.getD j (0,0) ≠ p:=by
     intro j hj
     rcases Nat.lt_succ_iff_lt_or_eq.1 hj with h | h
     ·exact hn j h
     ·rw [h];intro h';exact e h'.symm
    refine ⟨m - 1,by omega,i+1,?_⟩
    (repeat' apply And.intro) <;> first | exact f1 | (simp only [Value.int.injEq,true_and];omega) | omega | rfl | assumption | (simp;done) | (simp;omega)
  ·simp (disch:=omega) only [SS,eq_self,reduceIte,reduceCtorEq,Nat.reduceEqDiff,Nat.reduceAdd]
   refine hQ _ _ _ ?_
   simp (disch:=omega) only [SS,eq_self,reduceIte,reduceCtorEq,Nat.reduceEqDiff,Nat.reduceAdd]
   refine ⟨⟨-1,rfl,⟨fun h=>absurd h (by omega),fun h=>?_⟩⟩,pA⟩
   obtain ⟨j,hj,e⟩:=List.mem_iff_getElem.1 h
   exact absurd (by simp [hj,e]) (hn j (by omega))
theorem ContainsP_c (v:Value)(ps:List (Int × Int))(p:Int × Int)(H:AH)(hr:RowP 115 H v ps)(hlen:ps.length<=1099511627776) :
  ACalls Tryz.prog 182 [v,.agg (List.toArray [.int .i64 p.1,.int .i64 p.2])] H fun r H'=>r=.bool (decide (p ∈ ps))/\H<+:H':=by
 refine in182 rfl ?_
 intro Q hQ
 simp (disch:=omega) only [cd182,box_a2,SS,eq_self,reduceIte,reduceCtorEq,Nat.reduceEqDiff,Nat.reduceAdd]
 generalize hA:H ++ [AObj.cells [.int .i64 p.1,.int .i64 p.2] 115 false]=A
 have pA:H<+:A:=by rw [<- hA];exact List.prefix_append _ _
 have cA:A[H.length]?=some (.cells [.int .i64 p.1,.int .i64 p.2] 115 false):=by rw [<- hA];exact at_new ..
 simp (disch:=omega) only [ld_a2 cA,SS,eq_self,reduceIte,reduceCtorEq,Nat.reduceEqDiff,Nat.reduceAdd]
 refine CallH.by (IndexP_c v ps p A (hr.pre pA) hlen) ?_
 rintro _ B ⟨⟨k,rfl,hk⟩,pB⟩
 simp (disch:=omega) only [SS,eq_self,reduceIte,reduceCtorEq,Nat.reduceEqDiff,Nat.reduceAdd]
 refine hQ _ _ _ ?_
 simp (disch:=omega) only [SS,eq_self,reduceIte,reduceCtorEq,Nat.reduceEqDiff,Nat.reduceAdd]
 refine ⟨?_,pA.trans pB⟩
 rw [Value.bool.injEq,decide_eq_decide];exact hk
theorem has_G (n:Int)(v:Value)(es:List (Int × Int))(a b:Int)(H:AH)(hr:RowP 115 H v es)(hlen:es.length<=1099511627776) :
  ACalls Tryz.prog 151 [.agg (List.toArray [.int .i64 n,v]),.int .i64 a,.int .i64 b] H fun r H'=>r=.bool (decide ((minI a b,maxI a b) ∈ es))/\H<+:H':=by
 refine in151 rfl ?_
 intro Q hQ
 simp (disch:=omega) only [cd151,hr.boxG,SS,eq_self,reduceIte,reduceCtorEq,Nat.reduceEqDiff,Nat.reduceAdd]
 generalize hA:H ++ [AObj.cells [.int .i64 n,v] 26 false]=A
 have pA:H<+:A:=by rw [<- hA];exact List.prefix_append _ _
 have cA:A[H.length]?=some (.cells [.int .i64 n,v] 26 false):=by rw [<- hA];exact at_new ..
 have rA:=hr.pre pA
 simp (disch:=omega) only [cell_of cA,SS,eq_self,reduceIte,reduceCtorEq,Nat.reduceEqDiff,Nat.reduceAdd]
 refine CallH.by (pair_c a b A) ?_
 rintro _ B ⟨rfl,pB⟩
 have cB:=pre_at pB cA
 simp (disch:=omega) only [cell_of cB,SS,eq_self,reduceIte,reduceCtorEq,Nat.reduceEqDiff,Nat.reduceAdd]
 refine CallH.by (ContainsP_c v es (minI a b,maxI a b) B (rA.pre pB) hlen) ?_
 rintro _ C ⟨rfl,pC⟩
 simp (disch:=omega) only [SS,eq_self,reduceIte,reduceCtorEq,Nat.reduceEqDiff,Nat.reduceAdd]
 refine hQ _ _ _ ?_
 simp (disch:=omega) only [SS,eq_self,reduceIte,reduceCtorEq,Nat.reduceEqDiff,Nat.reduceAdd]
 exact pA.trans (pB.trans pC)
theorem l2Near_c (n:Int)(v:Value)(es:List (Int × Int))(a b:Int)(H:AH)(hr:RowP 115 H v es)(hlen:es.length<=1099511627776) :
  ACalls Tryz.prog 175 [.agg (List.toArray [.int .i64 n,v]),.int .i64 a,.int .i64 b] H fun r H'=>r=.bool (nearB es a b)/\H<+:H':=by
 refine in175 rfl ?_
 intro Q hQ
 simp (disch:=omega) only [cd175,hr.boxG,SS,eq_self,reduceIte,reduceCtorEq,Nat.reduceEqDiff,Nat.reduceAdd]
 generalize hA:H ++ [AObj.cells [.int .i64 n,v] 26 false]=A
 have pA:H<+:A:=by rw [<- hA];exact List.prefix_append _ _
 have cA:A[H.length]?=some (.cells [.int .i64 n,v] 26 false):=by rw [<- hA];exact at_new ..
 have rA:=hr.pre pA
 try simp (disch:=omega) only [SS,eq_self,reduceIte,reduceCtorEq,Nat.reduceEqDiff,Nat.reduceAdd]
 refine LoopH.by (fun m s H'=>∃ i,m+i=es.length/\s 1=.int .i64 a/\s 2=.int .i64 b/\s 3=.pointer (some ⟨H.length,0,none⟩)/\s 7=.int .i64 ((i:Nat):Int)/\nearB es a b=(es.drop i).any (hitB a b)/\A<+:H') es.length ?_ ?_
 ·exact ⟨0,by simp,rfl,rfl,rfl,rfl,by rw [List.drop_zero];rfl,List.prefix_refl _⟩
 ·rintro m s H' ⟨i,hm,h1,h2,h3,h7,hn,hp⟩
  have hr':=rA.pre hp
  have cH:=pre_at hp cA
  have hpp:=pA.trans hp
  simp (disch:=omega) only [h1,h2,h3,h7,cell_of cH,hr'.len Tryz.underlying24,SS,eq_self,reduceIte,reduceCtorEq,Nat.reduceEqDiff,Nat.reduceAdd]
  refine brD.intro (fun g=>?_) (fun g=>?_)
  ·have hi:i<es.length:=by omega
   have hst0:=store_a2 H' [.int .i64 0,.int .i64 0] rfl
   rw [any_step _ es (0,0) i hi] at hn
   simp (disch:=omega) only [h1,h2,h3,h7,cell_of cH,hr'.ix Tryz.underlying24 cs115,Int.toNat_natCast,hr'.ld ag115 cs115 hi,alloc_a2,hst0,cell_new,wrap64,SS,eq_self,reduceIte,reduceCtorEq,Nat.reduceEqDiff,Nat.reduceAdd]
   generalize hx:es.getD i (0,0)=x at *
   have pB:A<+:H' ++ [AObj.cells [.int .i64 x.1,.int .i64 x.2] 115 false]:=pre_app hp _
   have yes:hitB a b x=true->nearB es a b=true:=fun h=>by rw [hn,h];rfl
   have no:hitB a b x=false->nearB es a b=(es.drop (i+1)).any (hitB a b):=fun h=>by rw [hn,h];rfl
   unfold hitB at yes no
   rw [decide_eq_true_iff] at yes
   rw [decide_eq_false_iff_not] at no
   have second:¬ (x.1=a/\x.2=b)->True:=fun _=>trivial
   refine brD.intro (fun e1=>?_) (fun e1=>?_) <;> (first | have de1:=decide_eq_false e1 | have de1:=decide_eq_true e1) <;> simp (disch:=omega) only [de1,h1,h2,h3,h7,cell_new,wrap64,SS,eq_self,reduceIte,reduceCtorEq,Nat.reduceEqDiff,Nat.reduceAdd]
   ·refine brD.intro (fun e2=>?_) (fun e2=>?_) <;> (first | have de2:=decide_eq_false e2 | have de2:=decide_eq_true e2) <;> simp (disch:=omega) only [de1,de2,h1,h2,h3,h7,cell_new,wrap64,SS,eq_self,reduceIte,reduceCtorEq,Nat.reduceEqDiff,Nat.reduceAdd]
    ·refine hQ _ _ _ ?_
     simp (disch:=omega) only [SS,eq_self,reduceIte,reduceCtorEq,Nat.reduceEqDiff,Nat.reduceAdd]
     exact ⟨by rw [yes (by omega)],pA.trans pB⟩
    ·refine brD.intro (fun e3=>?_) (fun e3=>?_) <;> (first | have de3:=decide_eq_false e3 | have de3:=decide_eq_true e3) <;> simp (disch:=omega) only [de1,de2,de3,h1,h2,h3,h7,cell_new,wrap64,SS,eq_self,reduceIte,reduceCtorEq,Nat.reduceEqDiff,Nat.reduceAdd]
     ·refine brD.intro (fun e4=>?_) (fun e4=>?_) <;> (first | have de4:=decide_eq_false e4 | have de4:=decide_eq_true e4) <;> simp (disch:=omega) only [de1,de2,de3,de4,h1,h2,h3,h7,cell_new,wrap64,SS,eq_self,reduceIte,reduceCtorEq,Nat.reduceEqDiff,Nat.reduceAdd]
      ·refine hQ _ _ _ ?_
       simp (disch:=omega) only [SS,eq_self,reduceIte,reduceCtorEq,Nat.reduceEqDiff,Nat.reduceAdd]
       exact ⟨by rw [yes (by omega)],pA.trans pB⟩
      ·have f1:=no (by omega)
       refine ⟨m - 1,by omega,i+1,?_⟩
       (repeat' first | exact f1 | exact pB | apply And.intro) <;> first | (simp only [Value.int.injEq,true_and];omega) | omega | rfl | assumption | (simp;done) | (simp;omega)
     ·have f1:=no (by omega)
      refine ⟨m - 1,by omega,i+1,?_⟩
      (repeat' first | exact f1 | exact pB | apply And.intro) <;> first | (simp only [Value.int.injEq,true_and];omega) | omega | rfl | assumption | (simp;done) | (simp;omega)
   ·refine brD.intro (fun e3=>?_) (fun e3=>?_) <;> (first | have de3:=decide_eq_false e3 | have de3:=decide_eq_true e3) <;> simp (disch:=omega) only [de1,de3,h1,h2,h3,h7,cell_new,wrap64,SS,eq_self,reduceIte,reduceCtorEq,Nat.reduceEqDiff,Nat.reduceAdd]
    ·refine brD.intro (fun e4=>?_) (fun e4=>?_) <;> (first | have de4:=decide_eq_false e4 | have de4:=decide_eq_true e4) <;> simp (disch:=omega) only [de1,de3,de4,h1,h2,h3,h7,cell_new,wrap64,SS,eq_self,reduceIte,reduceCtorEq,Nat.reduceEqDiff,Nat.reduceAdd]
     ·refine hQ _ _ _ ?_
      simp (disch:=omega) only [SS,eq_self,reduceIte,reduceCtorEq,Nat.reduceEqDiff,Nat.reduceAdd]
      exact ⟨by rw [yes (by omega)],pA.trans pB⟩
     ·have f1:=no (by omega)
      refine ⟨m - 1,by omega,i+1,?_⟩
      (repeat' first | exact f1 | exact pB | apply And.intro) <;> first | (simp only [Value.int.injEq,true_and];omega) | omega | rfl | assumption | (simp;done) | (simp;omega)
    ·have f1:=no (by omega)
     refine ⟨m - 1,by omega,i+1,?_⟩
     (repeat' first | exact f1 | exact pB | apply And.intro) <;> first | (simp only [Value.int.injEq,true_and];omega) | omega | rfl | assumption | (simp;done) | (simp;omega)
  ·simp (disch:=omega) only [h1,h2,h3,h7,SS,eq_self,reduceIte,reduceCtorEq,Nat.reduceEqDiff,Nat.reduceAdd]
   refine hQ _ _ _ ?_
   simp (disch:=omega) only [SS,eq_self,reduceIte,reduceCtorEq,Nat.reduceEqDiff,Nat.reduceAdd]
   rw [hn,List.drop_of_length_le (by omega)]
   exact ⟨rfl,hpp⟩
theorem neighbors_c (n:Int)(v:Value)(es:List (Int × Int))(x:Int)(H:AH)(hr:RowP 115 H v es)(hlen:es.length<=1099511627776)(hg:Grd n es) :
  ACalls Tryz.prog 146 [.agg (List.toArray [.int .i64 n,v]),.int .i64 x] H fun r H'=>Own 3 H H' r (nbsU es x n.toNat)/\H<+:H':=by
 have hn:=hg.1
 refine in146 rfl ?_
 intro Q hQ
 simp (disch:=omega) only [cd146,hr.boxG,SS,eq_self,reduceIte,reduceCtorEq,Nat.reduceEqDiff,Nat.reduceAdd]
 generalize hA:H ++ [AObj.cells [.int .i64 n,v] 26 false]=A
 have pA:H<+:A:=by rw [<- hA];exact List.prefix_append _ _
 have cA:A[H.length]?=some (.cells [.int .i64 n,v] 26 false):=by rw [<- hA];exact at_new ..
 have rA:=hr.pre pA
 simp (disch:=omega) only [cell_of (at_app cA _),SS,eq_self,reduceIte,reduceCtorEq,Nat.reduceEqDiff,Nat.reduceAdd]
 refine LoopH.by (fun m s H'=>∃ i,m+i=n.toNat/\s 1=.int .i64 x/\s 2=.pointer (some ⟨H.length,0,none⟩)/\s 9=.int .i64 n/\s 10=.int .i64 ((i:Nat):Int)/\Own 3 A H' (s 5) (nbsU es x i)/\A<+:H') n.toNat ?_ ?_
 ·exact ⟨0,by simp,rfl,rfl,rfl,rfl,.inr ⟨A.length,rfl,Nat.le_refl _,at_new ..⟩,List.prefix_append _ _⟩
 ·rintro m s H' ⟨i,hm,h1,h2,h9,h10,ho,hp⟩
  have hr':=rA.pre hp
  have cH:=pre_at hp cA
  have hl:=nbsU_len es x i
  have hst:nbsU es x (i+1)=nbsU es x i ++ if nearB es x i=true then [(i:Int)] else []:=rfl
  generalize hw:s 5=w at *
  simp (disch:=omega) only [h1,h2,h9,h10,hw,SS,eq_self,reduceIte,reduceCtorEq,Nat.reduceEqDiff,Nat.reduceAdd]
  refine brD.intro (fun g=>?_) (fun g=>?_)
  ·simp (disch:=omega) only [h1,h2,h9,h10,hw,SS,eq_self,reduceIte,reduceCtorEq,Nat.reduceEqDiff,Nat.reduceAdd]
   refine brD.intro (fun e1=>?_) (fun e1=>?_) <;> simp (disch:=omega) only [e1,h1,h2,h9,h10,hw,ld_agg ag26 cs26 cH,wrap64,SS,eq_self,reduceIte,reduceCtorEq,Nat.reduceEqDiff,Nat.reduceAdd]
   ·refine CallH.by (has_G n v es x i H' hr' hlen) ?_
    rintro _ B ⟨rfl,pB⟩
    rw [near_has hg x i (by omega)]
    have hoB:=ho.pre pB
    have hpB:=hp.trans pB
    simp (disch:=omega) only [e1,SS,eq_self,reduceIte,reduceCtorEq,Nat.reduceEqDiff,Nat.reduceAdd]
    refine brH.intro (fun e2=>?_) (fun e2=>?_)
    ·obtain ⟨w',H2,k1,k2,k3,k4,k5,k6⟩:=own1_27 hoB hpB (by omega) (i:Int)
     simp (disch:=omega) only [e1,e2,h1,h2,h9,h10,hw,k1,wrap64,SS,eq_self,reduceIte,reduceCtorEq,Nat.reduceEqDiff,Nat.reduceAdd]
     rw [if_pos e2] at hst
     rw [<- hst] at k2
     refine ⟨m - 1,by omega,i+1,?_⟩
     (repeat' first | exact k2 | exact k3 | apply And.intro) <;> first | (simp only [Value.int.injEq,true_and];omega) | omega | rfl | assumption | (simp;done) | (simp;omega)
    ·simp (disch:=omega) only [e1,e2,h1,h2,h9,h10,hw,wrap64,SS,eq_self,reduceIte,reduceCtorEq,Nat.reduceEqDiff,Nat.reduceAdd]
     rw [if_neg (by simpa using e2),List.append_nil] at hst
     rw [<- hst] at hoB
     refine ⟨m - 1,by omega,i+1,?_⟩
     (repeat' first | exact hoB | exact hpB | apply And.intro) <;> first | (simp only [Value.int.injEq,true_and];omega) | omega | rfl | assumption | (simp;done) | (simp;omega)
   ·have e2:nearB es x i ≠ true:=by
     intro h
     have:=(near_rng hg h).2.2
     omega
    rw [if_neg e2,List.append_nil] at hst
    rw [<- hst] at ho
    refine ⟨m - 1,by omega,i+1,?_⟩
    (repeat' first | exact ho | exact hp | apply And.intro) <;> first | (simp only [Value.int.injEq,true_and];omega) | omega | rfl | assumption | (simp;done) | (simp;omega)
  ·simp (disch:=omega) only [hw,SS,eq_self,reduceIte,reduceCtorEq,Nat.reduceEqDiff,Nat.reduceAdd]
   refine hQ _ _ _ ?_
   simp (disch:=omega) only [hw,ho.row.tup,SS,eq_self,reduceIte,reduceCtorEq,Nat.reduceEqDiff,Nat.reduceAdd]
   have:i=n.toNat:=by omega
   subst this
   exact ⟨ho.base pA,pA.trans hp⟩
def holeB (p:List Int)(e:Int × Int):Bool:=decide (p.getD e.1.toNat 0=0) || decide (p.getD e.2.toNat 0=0)
def mvs (es:List (Int × Int))(sl:Bool)(p:List Int):List (Int × Int):=es.filter fun e=>!sl || holeB p e
def nxt (es:List (Int × Int))(sl:Bool)(p:List Int):List (List Int):=(mvs es sl p).map fun e=>swp p e.1.toNat e.2.toNat
theorem mvs_mem {es:List (Int × Int)}{sl:Bool}{p:List Int}{e:Int × Int}(h:e ∈ mvs es sl p):e ∈ es/\(sl=true->holeB p e=true):=by
 unfold mvs at h
 have:=List.mem_filter.1 h
 refine ⟨this.1,fun hs=>?_⟩
 have h2:=this.2
 rw [hs] at h2
 simpa using h2
theorem nxt_bd {n:Nat}{es:List (Int × Int)}(hg:Grd (n:Int) es)(sl:Bool){b:List Int}(hb:Bd n b):∀ c ∈ nxt es sl b,Bd n c:=by
 intro c hc
 obtain ⟨e,he,rfl⟩:=List.mem_map.1 hc
 obtain ⟨h1,h2,h3⟩:=grd_mem hg (mvs_mem he).1
 exact ⟨swp_prm hb.1 (by rw [hb.2];omega) (by rw [hb.2];omega),by rw [swp_len];exact hb.2⟩
theorem swp_inv {p:List Int}{a b:Nat}(ha:a<p.length)(hb:b<p.length):swp (swp p a b) a b=p:=by
 apply List.ext_getElem?
 intro i
 by_cases hi:i<p.length
 ·have h1:=swp_at (swp p a b) a b i (by rw [swp_len];exact ha) (by rw [swp_len];exact hb) (by rw [swp_len];exact hi)
  have h2:=swp_at p a b a ha hb ha
  have h3:=swp_at p a b b ha hb hb
  have h4:=swp_at p a b i ha hb hi
  have key:(swp (swp p a b) a b).getD i 0=p.getD i 0:=by
   rw [h1,h2,h3,h4]
   by_cases e1:i=b
   ·subst e1
    rw [if_pos rfl]
    by_cases e2:a=i
    ·rw [if_pos e2,e2]
    ·rw [if_neg e2,if_pos rfl]
   ·rw [if_neg e1]
    by_cases e2:i=a
    ·subst e2;rw [if_pos rfl,if_pos rfl]
    ·rw [if_neg e2,if_neg e1,if_neg e2]
  rw [List.getElem?_eq_getElem (by rw [swp_len,swp_len];exact hi),List.getElem?_eq_getElem hi]
  simp only [List.getD_eq_getElem?_getD] at key
  rw [List.getElem?_eq_getElem (by rw [swp_len,swp_len];exact hi),List.getElem?_eq_getElem hi] at key
  simpa using key
 ·rw [List.getElem?_eq_none (by rw [swp_len,swp_len];omega),List.getElem?_eq_none (by omega)]
theorem nxt_back {n:Nat}{es:List (Int × Int)}(hg:Grd (n:Int) es)(sl:Bool){b c:List Int}(hb:Bd n b)(hc:c ∈ nxt es sl b):b ∈ nxt es sl c:=by
 obtain ⟨e,he,rfl⟩:=List.mem_map.1 hc
 obtain ⟨h0,hs⟩:=mvs_mem he
 obtain ⟨h1,h2,h3⟩:=grd_mem hg h0
 have l1:e.1.toNat<b.length:=by rw [hb.2];omega
 have l2:e.2.toNat<b.length:=by rw [hb.2];omega
 refine List.mem_map.2 ⟨e,?_,swp_inv l1 l2⟩
 unfold mvs
 refine List.mem_filter.2 ⟨h0,?_⟩
 cases sl with
 | false=>rfl
 | true =>
  have hh:=hs rfl
  unfold holeB at hh ⊢
  have e1:=swp_at b e.1.toNat e.2.toNat e.1.toNat l1 l2 l1
  have e2:=swp_at b e.1.toNat e.2.toNat e.2.toNat l1 l2 l2
  rw [if_neg (by omega),if_pos rfl] at e1
  rw [if_pos rfl] at e2
  rw [e1,e2]
  simp only [Bool.not_true,Bool.false_or]
  rw [Bool.or_comm];exact hh
def cd202:Cd:=(.seq (.reg [⟨⟨some 4,.assign (.const (.int .u64 0)),none⟩,[]⟩,⟨⟨some 5,.assign (.const (.int .u64 0)),none⟩,[]⟩]) (.seq (.reg [⟨⟨some 14,.move (.tmp 0),none⟩,[]⟩,⟨⟨some 15,.binOp .and 65 (.tmp 14) (.const (.int .u64 4294967295)) 65,none⟩,[]⟩,⟨⟨some 6,.assign (.tmp 15),none⟩,[]⟩]) (.seq (.reg [⟨⟨some 16,.move (.tmp 0),none⟩,[]⟩,⟨⟨some 17,.binOp .shr 65 (.tmp 16) (.const (.int .u64 32)) 94,none⟩,[]⟩,⟨⟨some 7,.assign (.tmp 17),none⟩,[]⟩]) (.seq (.reg [⟨⟨some 18,.move (.tmp 1),none⟩,[]⟩,⟨⟨some 19,.binOp .and 65 (.tmp 18) (.const (.int .u64 4294967295)) 65,none⟩,[]⟩,⟨⟨some 8,.assign (.tmp 19),none⟩,[]⟩]) (.seq (.reg [⟨⟨some 20,.move (.tmp 1),none⟩,[]⟩,⟨⟨some 21,.binOp .shr 65 (.tmp 20) (.const (.int .u64 32)) 94,none⟩,[]⟩,⟨⟨some 9,.assign (.tmp 21),none⟩,[]⟩]) (.seq (.reg [⟨⟨some 22,.move (.tmp 6),none⟩,[]⟩,⟨⟨some 23,.move (.tmp 8),none⟩,[]⟩,⟨⟨some 24,.binOp .mul 65 (.tmp 22) (.tmp 23) 65,none⟩,[]⟩,
 ⟨⟨some 10,.assign (.tmp 24),none⟩,[]⟩]) (.seq (.reg [⟨⟨some 25,.move (.tmp 7),none⟩,[]⟩,⟨⟨some 26,.move (.tmp 8),none⟩,[]⟩,⟨⟨some 27,.binOp .mul 65 (.tmp 25) (.tmp 26) 65,none⟩,[]⟩,⟨⟨some 28,.move (.tmp 10),none⟩,[]⟩,⟨⟨some 29,.binOp .shr 65 (.tmp 28) (.const (.int .u64 32)) 94,none⟩,[]⟩,⟨⟨some 30,.binOp .add 65 (.tmp 27) (.tmp 29) 65,none⟩,[]⟩,⟨⟨some 11,.assign (.tmp 30),none⟩,[]⟩]) (.seq (.reg [⟨⟨some 31,.move (.tmp 11),none⟩,[]⟩,⟨⟨some 32,.binOp .and 65 (.tmp 31) (.const (.int .u64 4294967295)) 65,none⟩,[]⟩,⟨⟨some 12,.assign (.tmp 32),none⟩,[]⟩]) (.seq (.reg [⟨⟨some 33,.move (.tmp 11),none⟩,[]⟩,⟨⟨some 34,.binOp .shr 65 (.tmp 33) (.const (.int .u64 32)) 94,none⟩,[]⟩,⟨⟨some 13,.assign (.tmp 34),none⟩,[]⟩]) (.seq (.reg [⟨⟨some 35,.move (.tmp 12),none⟩,[]⟩,⟨⟨some 36,.move (.tmp 6),none⟩,[]⟩,
 ⟨⟨some 37,.move (.tmp 9),none⟩,[]⟩,⟨⟨some 38,.binOp .mul 65 (.tmp 36) (.tmp 37) 65,none⟩,[]⟩,⟨⟨some 39,.binOp .add 65 (.tmp 35) (.tmp 38) 65,none⟩,[]⟩,⟨⟨some 12,.assign (.tmp 39),none⟩,[]⟩]) (.seq (.reg [⟨⟨some 40,.move (.tmp 7),none⟩,[]⟩,⟨⟨some 41,.move (.tmp 9),none⟩,[]⟩,⟨⟨some 42,.binOp .mul 65 (.tmp 40) (.tmp 41) 65,none⟩,[]⟩,⟨⟨some 43,.move (.tmp 13),none⟩,[]⟩,⟨⟨some 44,.binOp .add 65 (.tmp 42) (.tmp 43) 65,none⟩,[]⟩,⟨⟨some 45,.move (.tmp 12),none⟩,[]⟩,⟨⟨some 46,.binOp .shr 65 (.tmp 45) (.const (.int .u64 32)) 94,none⟩,[]⟩,⟨⟨some 47,.binOp .add 65 (.tmp 44) (.tmp 46) 65,none⟩,[]⟩,⟨⟨some 4,.assign (.tmp 47),none⟩,[]⟩]) (.seq (.reg [⟨⟨some 48,.move (.tmp 0),none⟩,[]⟩,
 ⟨⟨some 49,.move (.tmp 1),none⟩,[]⟩,
  ⟨⟨some 50,.binOp .mul 65 (.tmp 48) (.tmp 49) 65,none⟩,[]⟩,
  ⟨⟨some 5,.assign (.tmp 50),none⟩,[]⟩]) .ret))))))))))))
theorem in202:InT Tryz.prog 202 2 [.tmp 4,.tmp 5] cd202:=InT.mk (by kernel_rfl) [] Tryz.func202 rfl (by kernel_rfl) (by kernel_rfl) (of_decide_eq_true (by kernel_rfl)) (by kernel_rfl)
def cd171:Cd:=(.seq (.reg [⟨⟨some 4,.assign (.const (.int .u64 0)),none⟩,[]⟩,⟨⟨some 5,.assign (.const (.int .u64 0)),none⟩,[]⟩]) (.seq (.cond (.const (.bool false)) (.seq (.reg [⟨⟨some 11,.move (.tmp 0),none⟩,[]⟩,⟨⟨some 12,.convert 94 169 (.tmp 11),none⟩,[]⟩,⟨⟨some 13,.move (.tmp 1),none⟩,[]⟩,⟨⟨some 14,.convert 94 169 (.tmp 13),none⟩,[]⟩,⟨⟨some 15,.call ⟨(.value (.func 201)),#[.tmp 12,.tmp 14],#[169,169]⟩,none⟩,[]⟩,⟨⟨some 10,.move (.tmp 15),none⟩,[]⟩,⟨⟨some 16,.extract (.tmp 10) 0,none⟩,[]⟩,⟨⟨some 17,.extract (.tmp 10) 1,none⟩,[]⟩,⟨⟨some 6,.assign (.tmp 16),none⟩,[]⟩,⟨⟨some 7,.assign (.tmp 17),none⟩,[]⟩]) (.seq (.reg [⟨⟨some 18,.move (.tmp 6),none⟩,[]⟩,⟨⟨some 19,.convert 169 94 (.tmp 18),none⟩,[]⟩,
 ⟨⟨some 20,.move (.tmp 7),none⟩,[]⟩,⟨⟨some 21,.convert 169 94 (.tmp 20),none⟩,[]⟩,⟨⟨some 4,.assign (.tmp 19),none⟩,[]⟩,⟨⟨some 5,.assign (.tmp 21),none⟩,[]⟩]) .ret)) .skip) (.seq (.reg [⟨⟨some 23,.move (.tmp 0),none⟩,[]⟩,⟨⟨some 24,.move (.tmp 1),none⟩,[]⟩,⟨⟨some 25,.call ⟨(.value (.func 202)),#[.tmp 23,.tmp 24],#[65,65]⟩,none⟩,[]⟩,⟨⟨some 22,.move (.tmp 25),none⟩,[]⟩,⟨⟨some 26,.extract (.tmp 22) 0,none⟩,[]⟩,⟨⟨some 27,.extract (.tmp 22) 1,none⟩,[]⟩,⟨⟨some 8,.assign (.tmp 26),none⟩,[]⟩,⟨⟨some 9,.assign (.tmp 27),none⟩,[]⟩]) (.seq (.reg [⟨⟨some 28,.move (.tmp 8),none⟩,[]⟩,⟨⟨some 29,.move (.tmp 9),none⟩,[]⟩,
 ⟨⟨some 4,.assign (.tmp 28),none⟩,[]⟩,
  ⟨⟨some 5,.assign (.tmp 29),none⟩,[]⟩]) .ret))))
theorem in171:InT Tryz.prog 171 2 [.tmp 4,.tmp 5] cd171:=InT.mk (by kernel_rfl) [] Tryz.func171 rfl (by kernel_rfl) (by kernel_rfl) (of_decide_eq_true (by kernel_rfl)) (by kernel_rfl)
def cd133:Cd:=(.seq (.reg [⟨⟨some 4,.assign (.const (.slice none 0 0)),none⟩,[]⟩]) (.seq (.seq (.reg [⟨⟨some 9,.move (.tmp 1),none⟩,[]⟩,⟨⟨some 10,.binOp .lss 3 (.tmp 9) (.const (.int .i64 0)) 3,none⟩,[]⟩]) (.cond (.tmp 10) (.reg [⟨⟨some 11,.makeInterface 9 (.const (.string { data:=#[99,97,110,110,111,116,32,98,101,32,110,101,103,97,116,105,118,101] })),none⟩,[]⟩,⟨⟨none,.panic (.tmp 11),none⟩,[]⟩]) .skip)) (.seq (.reg [⟨⟨some 13,.move (.tmp 0),none⟩,[]⟩,⟨⟨some 14,.call ⟨(.builtin .len),#[.tmp 13],#[27]⟩,none⟩,[]⟩,⟨⟨some 15,.convert 3 94 (.tmp 14),none⟩,[]⟩,⟨⟨some 16,.move (.tmp 1),none⟩,[]⟩,⟨⟨some 17,.convert 3 94 (.tmp 16),none⟩,[]⟩,⟨⟨some 18,.call ⟨(.value (.func 171)),#[.tmp 15,.tmp 17],#[94,94]⟩,none⟩,[]⟩,⟨⟨some 12,.move (.tmp 18),none⟩,[]⟩,⟨⟨some 19,.extract (.tmp 12) 0,none⟩,[]⟩,⟨⟨some 20,.extract (.tmp 12) 1,none⟩,[]⟩,⟨⟨some 5,.assign (.tmp 19),none⟩,[]⟩,
 ⟨⟨some 6,.assign (.tmp 20),none⟩,[]⟩]) (.seq (.seq (.reg [⟨⟨some 21,.move (.tmp 5),none⟩,[]⟩,⟨⟨some 22,.binOp .gtr 94 (.tmp 21) (.const (.int .u64 0)) 94,none⟩,[]⟩,⟨⟨some 23,.move (.tmp 22),none⟩,[]⟩,⟨⟨some 24,.move (.tmp 6),some (23,false)⟩,[]⟩,⟨⟨some 25,.binOp .gtr 94 (.tmp 24) (.const (.int .u64 9223372036854775807)) 94,some (23,false)⟩,[]⟩,⟨⟨some 26,.pick (.tmp 23) (.const (.bool true)) (.tmp 25),none⟩,[]⟩]) (.cond (.tmp 26) (.reg [⟨⟨some 27,.makeInterface 9 (.const (.string { data:=#[116,104,101,32,114,101,115,117,108,116,32,111,102,32,40,108,101,110,40,120,41,32,42,32,99,111,117,110,116,41,32,111,118,101,114,102,108,111,119,115] })),none⟩,[]⟩,⟨⟨none,.panic (.tmp 27),none⟩,[]⟩]) .skip)) (.seq (.reg [⟨⟨some 28,.move (.tmp 6),none⟩,[]⟩,⟨⟨some 29,.convert 94 3 (.tmp 28),none⟩,[]⟩,⟨⟨some 30,.makeSlice 27 (.tmp 29) (.tmp 29),none⟩,[]⟩,⟨⟨some 7,.assign (.tmp 30),none⟩,[]⟩]) (.seq (.reg [⟨⟨some 31,.move (.tmp 7),none⟩,[]⟩,⟨⟨some 32,.move (.tmp 0),none⟩,[]⟩,⟨⟨some 33,.call ⟨(.builtin .copy),#[.tmp 31,.tmp 32],#[27,27]⟩,none⟩,[]⟩,
 ⟨⟨some 8,.assign (.tmp 33),none⟩,[]⟩]) (.seq (.block 0 (.loop (.seq (.seq (.reg [⟨⟨some 34,.move (.tmp 8),none⟩,[]⟩,⟨⟨some 35,.move (.tmp 7),none⟩,[]⟩,⟨⟨some 36,.call ⟨(.builtin .len),#[.tmp 35],#[27]⟩,none⟩,[]⟩,⟨⟨some 37,.binOp .lss 3 (.tmp 34) (.tmp 36) 3,none⟩,[]⟩]) (.cond (.tmp 37) .skip (.exit 0))) (.block 1 (.reg [⟨⟨some 38,.move (.tmp 8),none⟩,[]⟩,⟨⟨some 39,.move (.tmp 7),none⟩,[]⟩,⟨⟨some 40,.move (.tmp 8),none⟩,[]⟩,⟨⟨some 41,.slice 27 (.tmp 39) (some (.tmp 40)) none none,none⟩,[]⟩,⟨⟨some 42,.move (.tmp 7),none⟩,[]⟩,⟨⟨some 43,.move (.tmp 8),none⟩,[]⟩,⟨⟨some 44,.slice 27 (.tmp 42) none (some (.tmp 43)) none,none⟩,[]⟩,⟨⟨some 45,.call ⟨(.builtin .copy),#[.tmp 41,.tmp 44],#[27,27]⟩,none⟩,[]⟩,⟨⟨some 46,.binOp .add 3 (.tmp 38) (.tmp 45) 3,none⟩,[]⟩,
 ⟨⟨some 8,.assign (.tmp 46),none⟩,[]⟩]))))) (.seq (.reg [⟨⟨some 47,.move (.tmp 7),none⟩,[]⟩,
  ⟨⟨some 4,.assign (.tmp 47),none⟩,[]⟩]) .ret))))))))
theorem in133:InT Tryz.prog 133 2 [.tmp 4] cd133:=InT.mk (by kernel_rfl) [(9,[(0,false),(1,false),(2,false),(3,false),(4,false),(5,false),(6,false),(7,true),(8,false),(9,true)])] Tryz.func133 rfl (by kernel_rfl) (by kernel_rfl) (of_decide_eq_true (by kernel_rfl)) (by kernel_rfl)
end Go.Proofs.YtlcipphiflcaiaaGreat.Ai
namespace Go.Proofs.YtlcipphiflcaiaaGreat.Ai
open Go Go.RowKit
theorem sl_own {P:Program}{t e:TypeId}(hu:P.underlying t=some (.slice e))(hc:P.cellsOf e=1){H:AH}{o k n c:Nat}{vs:List Value}{ro:Bool}(ho:H[o]?=some (.cells vs e ro)){lo hi:Option Value}{l r:Nat}(h1:boundA lo 0=some l)(h2:boundA hi n=some r)(hl:l<=r)(hr:r<=n) :
  sliceA P t (.slice (some ⟨o,k,none⟩) n c) lo hi none H=some (.slice (some ⟨o,k+l,none⟩) (r - l) (r - l)):=by
 simp only [sliceA,hu,h1,h2,ho,hc,Nat.mul_one]
 rw [if_pos ⟨hl,hr,trivial,Nat.one_pos⟩]
theorem cp_ints {P:Program}{t e:TypeId}(hu:P.underlying t=some (.slice e))(hc:P.cellsOf e=1){H:AH}{o k n c:Nat}{xs ys:List Int}{x:Value}(ho:H[o]?=some (.cells (ints xs) e false))(hr:Row e H x ys)(hm:0<ys.length)(hn:0<n)(hb:k+n<=xs.length) :
  copyA P t (.slice (some ⟨o,k,none⟩) n c) x H=some (.int .i64 ((min ys.length n:Nat):Int),H.set o (.cells (ints (xs.take k ++ ys.take (min ys.length n) ++ xs.drop (k+min ys.length n))) e false)):=by
 have hs:=hr.cells (P:=P) hc
 simp only [copyA,hu,ho,hs,hc,Nat.mul_one]
 rw [if_pos ⟨trivial,Nat.one_pos,hm,hn,by rw [ints_len];exact hb⟩]
 have:putAt (ints xs) k ((ints ys).take (min ys.length n))=ints (xs.take k ++ ys.take (min ys.length n) ++ xs.drop (k+min ys.length n)):=by
  unfold putAt
  have e1:((ints ys).take (min ys.length n)).length=min ys.length n:=by rw [List.length_take,ints_len];omega
  rw [e1]
  simp [ints,List.map_take,List.map_drop]
 rw [this]
theorem mul_one_u (P:Program)(t:TypeId)(n:Nat)(h:n<18446744073709551616):binA P .mul t (.int .u64 1) (.int .u64 (n:Int))=some (.int .u64 (n:Int)):=by
 simp only [binA,intA,Int.one_mul,IntKind.wrap_u64]
 simp
 omega
theorem mul_zero_u (P:Program)(t:TypeId)(n:Nat):binA P .mul t (.int .u64 0) (.int .u64 (n:Int))=some (.int .u64 0):=by
 simp only [binA,intA,Int.zero_mul,IntKind.wrap_u64]
 simp
theorem shr32 (P:Program)(t:TypeId)(n:Nat)(h:n<4294967296):binA P .shr t (.int .u64 (n:Int)) (.int .u64 32)=some (.int .u64 0):=by
 simp only [binA,shiftA]
 rw [if_pos (.inr trivial),if_neg (by decide)]
 congr 2
 have:(2 ^ min (32:Int).toNat IntKind.u64.bits:Int)=4294967296:=by decide
 rw [this,Int.fdiv_eq_ediv_of_nonneg _ (by decide)]
 omega
theorem and32 (P:Program)(t:TypeId)(n:Nat)(h:n<4294967296):binA P .and t (.int .u64 (n:Int)) (.int .u64 4294967295)=some (.int .u64 (n:Int)):=by
 have:=bin_and P t n 4294967295 (by omega) (by decide)
 have e:n &&& 4294967295=n:=by
  rw [show 4294967295=2 ^ 32 - 1 from rfl,Nat.and_two_pow_sub_one_eq_mod]
  exact Nat.mod_eq_of_lt h
 rw [e] at this
 exact this
theorem Mul64_c (n:Nat)(H:AH)(hn:n<4294967296):ACalls Tryz.prog 202 [.int .u64 1,.int .u64 (n:Int)] H fun r H'=>r=.tuple (List.toArray [.int .u64 0,.int .u64 (n:Int)])/\H=H':=by
 refine in202 rfl ?_
 intro Q hQ
 have k1:binA Tryz.prog .and 65 (.int .u64 1) (.int .u64 4294967295)=some (.int .u64 1):=by kernel_rfl
 have k2:binA Tryz.prog .shr 65 (.int .u64 1) (.int .u64 32)=some (.int .u64 0):=by kernel_rfl
 have k3:=and32 Tryz.prog 65 n hn
 have k4:=shr32 Tryz.prog 65 n hn
 have k5:=mul_one_u Tryz.prog 65 n (by omega)
 have k6:=mul_zero_u Tryz.prog 65 n
 have k7:binA Tryz.prog .add 65 (.int .u64 0) (.int .u64 0)=some (.int .u64 0):=by kernel_rfl
 have k8:binA Tryz.prog .and 65 (.int .u64 0) (.int .u64 4294967295)=some (.int .u64 0):=by kernel_rfl
 have k9:binA Tryz.prog .shr 65 (.int .u64 0) (.int .u64 32)=some (.int .u64 0):=by kernel_rfl
 have k10:binA Tryz.prog .mul 65 (.int .u64 1) (.int .u64 0)=some (.int .u64 0):=by kernel_rfl
 have k11:binA Tryz.prog .mul 65 (.int .u64 0) (.int .u64 0)=some (.int .u64 0):=by kernel_rfl
 simp (maxSteps:=1000000) (disch:=omega) only [cd202,k1,k2,k3,k4,k5,k6,k7,k8,k9,k10,k11,SS,eq_self,reduceIte,reduceCtorEq,Nat.reduceEqDiff,Nat.reduceAdd]
 refine hQ _ _ _ ?_
 simp (maxSteps:=1000000) (disch:=omega) only [SS,eq_self,reduceIte,reduceCtorEq,Nat.reduceEqDiff,Nat.reduceAdd]
theorem Mul_c (n:Nat)(H:AH)(hn:n<4294967296):ACalls Tryz.prog 171 [.int .u64 1,.int .u64 (n:Int)] H fun r H'=>r=.tuple (List.toArray [.int .u64 0,.int .u64 (n:Int)])/\H=H':=by
 refine in171 rfl ?_
 intro Q hQ
 simp (disch:=omega) only [cd171,SS,eq_self,reduceIte,reduceCtorEq,Nat.reduceEqDiff,Nat.reduceAdd]
 refine CallH.by (Mul64_c n H hn) ?_
 rintro _ _ ⟨rfl,rfl⟩
 simp (disch:=omega) only [SS,eq_self,reduceIte,reduceCtorEq,Nat.reduceEqDiff,Nat.reduceAdd]
 refine hQ _ _ _ ?_
 simp (disch:=omega) only [SS,eq_self,reduceIte,reduceCtorEq,Nat.reduceEqDiff,Nat.reduceAdd]
def rpN (N k:Nat):List Int:=List.replicate k (-1) ++ List.replicate (N - k) 0
theorem rpN_step (N k:Nat)(hk:k<=N):(rpN N k).take k ++ (List.replicate k (-1:Int)).take (min k (N - k)) ++ (rpN N k).drop (k+min k (N - k))=rpN N (k+min k (N - k)):=by
 unfold rpN
 rw [List.take_left' (by simp),List.take_replicate,<- List.drop_drop,List.drop_left' (by simp),List.drop_replicate,List.replicate_append_replicate]
 congr 2 <;> omega
theorem rpN_take (N k:Nat):(rpN N k).take k=List.replicate k (-1):=by
 unfold rpN
 rw [List.take_left' (by simp)]
theorem rpN_len (N k:Nat)(h:k<=N):(rpN N k).length=N:=by simp [rpN];omega
theorem Repeat_c (v:Value)(N:Nat)(H:AH)(hr:Row 3 H v [-1])(hN:1<=N/\N<=1000000000):ACalls Tryz.prog 133 [v,.int .i64 (N:Int)] H fun r H'=>Own 3 H H' r (List.replicate N (-1))/\H<+:H':=by
 refine in133 rfl ?_
 intro Q hQ
 have hU:IntKind.u64.wrap (N:Int)=(N:Int):=by rw [IntKind.wrap_u64];omega
 have hU1:IntKind.u64.wrap 1=1:=by decide
 simp (disch:=omega) only [cd133,hr.len Tryz.underlying27,SS,eq_self,reduceIte,reduceCtorEq,Nat.reduceEqDiff,Nat.reduceAdd]
 refine brD.intro (fun g=>absurd g (by omega)) (fun g=>?_)
 have hl1:(([-1]:List Int).length:Int)=1:=rfl
 simp (disch:=omega) only [hr.len Tryz.underlying27,hU,hl1,hU1,SS,eq_self,reduceIte,reduceCtorEq,Nat.reduceEqDiff,Nat.reduceAdd]
 refine CallH.by (Mul_c N H (by omega)) ?_
 rintro _ _ ⟨rfl,rfl⟩
 have d0:¬ ((0:Int) > 0):=by decide
 simp (disch:=omega) only [d0,SS,eq_self,reduceIte,reduceCtorEq,Nat.reduceEqDiff,Nat.reduceAdd]
 refine brD.intro (fun g=>absurd g (by omega)) (fun g2=>?_)
 simp (disch:=omega) only [wrap64,mks27,Int.toNat_natCast,SS,eq_self,reduceIte,reduceCtorEq,Nat.reduceEqDiff,Nat.reduceAdd]
 generalize hz:H ++ [AObj.cells (ints (List.replicate N 0)) 3 false]=Z
 have pZ:H<+:Z:=by rw [<- hz];exact List.prefix_append _ _
 have cZ:Z[H.length]?=some (.cells (ints (List.replicate N 0)) 3 false):=by rw [<- hz];exact at_new ..
 have c1:=cp_ints (P:=Tryz.prog) (t:=27) (k:=0) (n:=N) (c:=N) Tryz.underlying27 cs3 cZ (hr.pre pZ) (by decide) (by omega) (by simp)
 have e1:min ([-1]:List Int).length N=1:=by simp;omega
 have e2:(List.replicate N (0:Int)).take 0 ++ ([-1]:List Int).take 1 ++ (List.replicate N (0:Int)).drop (0+1)=rpN N 1:=by simp [rpN,List.drop_replicate]
 rw [e1,e2] at c1
 simp (disch:=omega) only [c1,SS,eq_self,reduceIte,reduceCtorEq,Nat.reduceEqDiff,Nat.reduceAdd]
 refine LoopH.by (fun m s H'=>∃ k,m+k=N/\1<=k/\s 7=.slice (some ⟨H.length,0,none⟩) N N/\s 8=.int .i64 ((k:Nat):Int)/\H'=Z.set H.length (.cells (ints (rpN N k)) 3 false)) (N - 1) ?_ ?_
 ·exact ⟨1,by omega,by omega,rfl,rfl,rfl⟩
 ·rintro m s H' ⟨k,hm,hk1,h7,h8,rfl⟩
  have cK:(Z.set H.length (.cells (ints (rpN N k)) 3 false))[H.length]?=some (.cells (ints (rpN N k)) 3 false):=at_set cZ
  simp (disch:=omega) only [h7,h8,SS,eq_self,reduceIte,reduceCtorEq,Nat.reduceEqDiff,Nat.reduceAdd]
  refine brD.intro (fun g=>?_) (fun g=>?_)
  ·have hk:k<N:=by omega
   have s1:=sl_own (P:=Tryz.prog) (t:=27) (k:=0) (n:=N) (c:=N) Tryz.underlying27 cs3 cK (bound_some (k:=.i64) (i:=(k:Int)) (by omega) 0) (hi_none N) (show ((k:Int)).toNat<=N by omega) (Nat.le_refl _)
   have s2:=sl_own (P:=Tryz.prog) (t:=27) (k:=0) (n:=N) (c:=N) Tryz.underlying27 cs3 cK lo_none (bound_some (k:=.i64) (i:=(k:Int)) (by omega) N) (Nat.zero_le _) (show ((k:Int)).toNat<=N by omega)
   simp only [Int.toNat_natCast,Nat.zero_add,Nat.sub_zero] at s1 s2
   have hrk:Row 3 (Z.set H.length (.cells (ints (rpN N k)) 3 false)) (.slice (some ⟨H.length,0,none⟩) k k) (List.replicate k (-1)):=by
    refine .inr ⟨H.length,0,ints (rpN N k),false,by simp,cK,by rw [ints_len,rpN_len N k (by omega)];simp;omega,?_⟩
    rw [List.length_replicate,List.drop_zero]
    have:(ints (rpN N k)).take k=ints ((rpN N k).take k):=by simp [ints,List.map_take]
    rw [this,rpN_take]
   have c2:=cp_ints (P:=Tryz.prog) (t:=27) (k:=k) (n:=N - k) (c:=N - k) Tryz.underlying27 cs3 cK hrk (by simp;omega) (by omega) (by rw [rpN_len N k (by omega)];omega)
   rw [List.length_replicate,rpN_step N k (by omega),List.set_set] at c2
   simp (disch:=omega) only [h7,h8,s1,s2,c2,wrap64,SS,eq_self,reduceIte,reduceCtorEq,Nat.reduceEqDiff,Nat.reduceAdd]
   refine ⟨m - min k (N - k),by omega,k+min k (N - k),?_⟩
   (repeat' apply And.intro) <;> first | (simp only [Value.int.injEq,true_and];omega) | omega | rfl | assumption | (simp;done) | (simp;omega)
  ·simp (disch:=omega) only [h7,SS,eq_self,reduceIte,reduceCtorEq,Nat.reduceEqDiff,Nat.reduceAdd]
   refine hQ _ _ _ ?_
   simp (disch:=omega) only [h7,SS,eq_self,reduceIte,reduceCtorEq,Nat.reduceEqDiff,Nat.reduceAdd]
   have:k=N:=by omega
   subst this
   have e3:rpN k k=List.replicate k (-1):=by simp [rpN]
   rw [e3]
   have hZ:=at_set (d:=.cells (ints (List.replicate k (-1))) 3 false) cZ
   exact ⟨.inr ⟨H.length,by rw [List.length_replicate],Nat.le_refl _,hZ⟩,pre_set pZ (Nat.le_refl _) _⟩
theorem rpN_set (N j:Nat)(hj:j<N):(rpN N j).set j (-1)=rpN N (j+1):=by
 unfold rpN
 rw [List.set_append_right _ _ (by simp)]
 obtain ⟨n,hn⟩:∃ n,N - j=n+1:=⟨N - j - 1,by omega⟩
 rw [hn,List.length_replicate,Nat.sub_self,List.replicate_succ,List.set_cons_zero,List.replicate_succ',List.append_assoc]
 have:N - (j+1)=n:=by omega
 rw [this];rfl
theorem InL.parts {lo hi:Nat}{e2 e:TypeId}{H:AH}{v:Value}{ls:List (List Int)}(h:InL lo hi e2 e H v ls):∃ us:List Value,RowV e2 H v us/\us.length=ls.length/\∀ i,i<ls.length->InI lo hi e H (us.getD i undef) (ls.getD i []):=by
 rcases h with ⟨h1,h2⟩ | ⟨o,us,h0,h1,h2,h3,h4,h5,h6⟩
 ·subst h1;subst h2;exact ⟨[],.inl ⟨rfl,rfl⟩,rfl,fun i hi=>absurd hi (by simp)⟩
 ·refine ⟨us.take ls.length,.inr ⟨o,0,us,false,by simp [h0,Nat.min_eq_left h4],h3,by simp;omega,by simp [Nat.min_eq_left h4]⟩,by simp;omega,fun i hi=>?_⟩
  have:(us.take ls.length).getD i undef=us.getD i undef:=by
   rw [List.getD_eq_getElem?_getD,List.getD_eq_getElem?_getD,List.getElem?_take,if_pos hi]
  rw [this]
  exact (h5 i hi).1
def NoInt (x:AObj):Prop:=∀ vs ro,x ≠ .cells vs 3 ro
theorem Row.ne {H:AH}{v:Value}{xs:List Int}(h:Row 3 H v xs){o:Nat}{x:AObj}(ho:H[o]?=some x)(hx:NoInt x):v=.slice none 0 0∨rowO v ≠ o:=by
 rcases h with h | ⟨o',k,vs,ro,h1,h2,_⟩
 ·exact .inl h.1
 ·refine .inr fun e=>?_
  rw [h1] at e
  have e':o'=o:=e
  rw [e',ho] at h2
  exact hx vs ro (by simpa using h2)
theorem Row.but {H H':AH}{v:Value}{xs:List Int}(h:Row 3 H v xs){o:Nat}{x:AObj}(ho:H[o]?=some x)(hx:NoInt x)(hk:∀ (j:Nat) (y:AObj),j ≠ o->H[j]?=some y->H'[j]?=some y):Row 3 H' v xs:=by
 rcases h.ne ho hx with g | g
 ·exact .inl ⟨g,h.nilv g⟩
 ·exact h.mono fun y hy=>hk _ _ g hy
theorem noInt_ll (vs:List Value)(ro:Bool):NoInt (.cells vs 27 ro):=fun ws r h=>by
 simp only [AObj.cells.injEq] at h
 exact absurd h.2.1 (by decide)
theorem app_qV {P:Program}{t e:TypeId}(hu:P.underlying t=some (.slice e))(hc:P.cellsOf e=1)(hby:P.bytesOf e<=64)(hz:zeroOk P e=true){H:AH}{o k n c:Nat}{zs:List Value}{x:Value}(ho:H[o]?=some (.cells zs e false))(hn:k+n<=zs.length)(hb:n<=1099511627775) :
  appendA P t t (.slice (some ⟨o,k,none⟩) n c) (.slice (some ⟨H.length,0,none⟩) 1 1) (H ++ [.cells [x] e false])=some (.slice (some ⟨H.length+1,0,none⟩) (n+1) (n+1),H.set o .dead ++ [.cells [x] e false,.cells ((zs.drop k).take n ++ [x]) e false]):=by
 have hlt:o<H.length:=at_lt ho
 have hb2:(n+1) * P.bytesOf e<=140737488355328:=by
  refine Nat.le_trans (Nat.mul_le_mul_left _ hby) ?_
  omega
 have ho2:(H ++ [AObj.cells [x] e false])[o]?=some (.cells zs e false):=at_app ho _
 have hsc:sliceCells P e (.slice (some ⟨H.length,0,none⟩) 1 1) (H ++ [.cells [x] e false])=some (1,[x]):=by
  simp only [sliceCells,at_new,hc];simp
 simp only [appendA,hu,hc,hsc,ho2,hz]
 rw [if_pos (by simp),if_neg (by simp),if_pos ⟨trivial,by omega,hb2,by omega,trivial⟩]
 rw [Nat.mul_one,List.length_append,List.set_append_left _ _ hlt]
 simp
def QV (H:AH)(oq kq nq:Nat)(bs:List (List Int)):Prop :=
 ∃ zs,H[oq]?=some (.cells zs 27 false)/\kq+nq<=zs.length/\nq=bs.length/\∀ j,j<nq->Row 3 H (zs.getD (kq+j) undef) (bs.getD j [])
theorem QV.tail {H:AH}{oq kq nq:Nat}{b:List Int}{bs:List (List Int)}(h:QV H oq kq nq (b :: bs)):QV H oq (kq+1) (nq - 1) bs/\0<nq/\∃ u,cellA H oq kq=some u/\Row 3 H u b:=by
 obtain ⟨zs,h1,h2,h3,h4⟩:=h
 rw [List.length_cons] at h3
 refine ⟨⟨zs,h1,by omega,by omega,fun j hj=>?_⟩,by omega,zs.getD kq undef,?_,?_⟩
 ·have:=h4 (j+1) (by omega)
  rw [show kq+(j+1)=kq+1+j by omega] at this
  simpa using this
 ·rw [cell_of h1]
  have:kq<zs.length:=by omega
  simp [this]
 ·have:=h4 0 (by omega)
  simpa using this
theorem QV.but {H H':AH}{oq kq nq:Nat}{bs:List (List Int)}(h:QV H oq kq nq bs){o:Nat}{x:AObj}(ho:H[o]?=some x)(hx:NoInt x)(hq:oq ≠ o)(hk:∀ (j:Nat) (y:AObj),j ≠ o->H[j]?=some y->H'[j]?=some y):QV H' oq kq nq bs:=by
 obtain ⟨zs,h1,h2,h3,h4⟩:=h
 exact ⟨zs,hk _ _ hq h1,h2,h3,fun j hj=>(h4 j hj).but ho hx hk⟩
theorem QV.pre {H H':AH}{oq kq nq:Nat}{bs:List (List Int)}(h:QV H oq kq nq bs)(hp:H<+:H'):QV H' oq kq nq bs:=by
 obtain ⟨zs,h1,h2,h3,h4⟩:=h
 exact ⟨zs,pre_at hp h1,h2,h3,fun j hj=>(h4 j hj).pre hp⟩
theorem QV.push {H:AH}{oq kq nq:Nat}{bs:List (List Int)}(h:QV H oq kq nq bs){x:Value}{b:List Int}(hx:Row 3 H x b)(hb:nq<=1099511627775) :
  ∃ H2,appendA Tryz.prog 32 32 (.slice (some ⟨oq,kq,none⟩) nq nq) (.slice (some ⟨H.length,0,none⟩) 1 1) (H ++ [.cells [x] 27 false])=some (.slice (some ⟨H.length+1,0,none⟩) (nq+1) (nq+1),H2) /\
   QV H2 (H.length+1) 0 (nq+1) (bs ++ [b])/\H2.length=H.length+2/\(∀ (j:Nat) (y:AObj),j ≠ oq->H[j]?=some y->H2[j]?=some y):=by
 obtain ⟨zs,h1,h2,h3,h4⟩:=h
 have k1:=app_qV (P:=Tryz.prog) (t:=32) (k:=kq) (n:=nq) (c:=nq) (x:=x) Tryz.underlying32 cs27 (by rw [by27];decide) zk27 h1 h2 hb
 have keep:∀ (j:Nat) (y:AObj),j ≠ oq->H[j]?=some y->(H.set oq .dead ++ [AObj.cells [x] 27 false,.cells ((zs.drop kq).take nq ++ [x]) 27 false])[j]?=some y:=fun j y hj hy=>at_old hy (fun e=>hj e.symm) _
 refine ⟨_,k1,⟨(zs.drop kq).take nq ++ [x],at_new1 ..,by simp;omega,by simp;omega,fun j hj=>?_⟩,by simp,keep⟩
 have hl:((zs.drop kq).take nq).length=nq:=by simp;omega
 rw [Nat.zero_add,List.getD_eq_getElem?_getD,List.getElem?_append,hl]
 by_cases hj2:j<nq
 ·have:=h4 j hj2
  rw [if_pos hj2,List.getElem?_take,if_pos hj2,List.getElem?_drop,<- List.getD_eq_getElem?_getD]
  have e:(bs ++ [b]).getD j []=bs.getD j []:=by
   rw [List.getD_eq_getElem?_getD,List.getElem?_append_left (by omega),<- List.getD_eq_getElem?_getD]
  rw [e]
  exact this.but h1 (noInt_ll _ _) keep
 ·have e:(bs ++ [b]).getD j []=b:=by
   rw [List.getD_eq_getElem?_getD,List.getElem?_append_right (by omega),show j - bs.length=0 by omega];rfl
  rw [if_neg hj2,e,show j - nq=0 by omega]
  exact hx.but h1 (noInt_ll _ _) keep
end Go.Proofs.YtlcipphiflcaiaaGreat.Ai
namespace Go.Proofs.YtlcipphiflcaiaaGreat.Ai
open Go Go.RowKit Go.Shelf
attribute [local go_sem] Oper.semAt_some
def SlInts (n₀:Nat)(W:World)(sv:Value)(zs:List Int):Prop :=
 (∃ a c,sv=.slice a 0 c/\zs=[])∨∃ b off cap,sv=.slice (some ⟨b,off,none⟩) zs.length cap/\b<n₀/\∀ j,j<zs.length->W.cell? ⟨b,off+j,none⟩=some (.int .i64 (zs[j]?.getD 0))
theorem SlInts.below {n₀:Nat}{A B:World}(h:Below n₀ A B){sv:Value}{zs:List Int}:SlInts n₀ A sv zs->SlInts n₀ B sv zs
 | .inl e=>.inl e
 | .inr ⟨b,off,cap,e,hb,hc⟩=>.inr ⟨b,off,cap,e,hb,fun j hj=>(h.cell (p:=⟨b,off+j,none⟩) hb).trans (hc j hj)⟩
end Go.Proofs.YtlcipphiflcaiaaGreat.Ai
namespace Go.Proofs.YtlcipphiflcaiaaGreat.Ai
open Go Go.RowKit
end Go.Proofs.YtlcipphiflcaiaaGreat.Ai
namespace Go.Proofs.YtlcipphiflcaiaaGreat.Ai
open Go Go.RowKit
instance (n:Int) (ys:List Int):Decidable (Rsg n ys):=by unfold Rsg;infer_instance
def Tkn (n:Int)(es:List (Int × Int))(p:List Int):Prop:=(Grd n es/\Prm p)/\(p.length:Int)=n
instance (n:Int) (es:List (Int × Int)) (p:List Int):Decidable (Tkn n es p):=by unfold Tkn;infer_instance
def Brd (n:Int)(es:List (Int × Int))(p:List Int):Prop:=Tkn n es p/\(1<=n/\n<=6)
instance (n:Int) (es:List (Int × Int)) (p:List Int):Decidable (Brd n es p):=by unfold Brd;infer_instance
def Fld (n:Int)(es:List (Int × Int))(p:List Int):Prop:=Tkn n es p/\n<=6
instance (n:Int) (es:List (Int × Int)) (p:List Int):Decidable (Fld n es p):=by unfold Fld;infer_instance
def cd87:Cd:=(.seq (.reg [⟨⟨some 4,.assign (.const (.int .i64 0)),none⟩,[]⟩]) (.seq (.seq (.reg [⟨⟨some 5,.move (.tmp 0),none⟩,[]⟩,
 ⟨⟨some 6,.move (.tmp 1),none⟩,[]⟩,
 ⟨⟨some 7,.binOp .gtr 3 (.tmp 5) (.tmp 6) 3,none⟩,[]⟩]) (.cond (.tmp 7) (.seq (.reg [⟨⟨some 8,.move (.tmp 0),none⟩,[]⟩,
 ⟨⟨some 4,.assign (.tmp 8),none⟩,[]⟩]) .ret) .skip)) (.seq (.reg [⟨⟨some 9,.move (.tmp 1),none⟩,[]⟩,
 ⟨⟨some 4,.assign (.tmp 9),none⟩,[]⟩]) .ret)))
theorem in87:InT Tryz.prog 87 2 [.tmp 4] cd87:=InT.mk (by kernel_rfl) [] Tryz.func87 rfl (by kernel_rfl) (by kernel_rfl) (of_decide_eq_true (by kernel_rfl)) (by kernel_rfl)
end Go.Proofs.YtlcipphiflcaiaaGreat.Ai
namespace Go.Proofs.YtlcipphiflcaiaaGreat.Ai
open Go Go.RowKit
theorem l1MostK_c (a b:Int)(H:AH):ACalls Tryz.prog 87 [.int .i64 a,.int .i64 b] H fun r H'=>r=.int .i64 (if b<a then a else b)/\H=H':=by
 refine in87 rfl ?_
 intro Q hQ
 simp (disch:=omega) only [cd87,SS,eq_self,reduceIte,reduceCtorEq,Nat.reduceEqDiff,Nat.reduceAdd]
 refine brD.intro (fun e=>?_) (fun e=>?_) <;> simp (disch:=omega) only [SS,eq_self,reduceIte,reduceCtorEq,Nat.reduceEqDiff,Nat.reduceAdd]
 ·refine hQ _ _ _ ?_
  simp (disch:=omega) only [if_pos e,SS,eq_self,reduceIte,reduceCtorEq,Nat.reduceEqDiff,Nat.reduceAdd]
 ·refine hQ _ _ _ ?_
  simp (disch:=omega) only [if_neg e,SS,eq_self,reduceIte,reduceCtorEq,Nat.reduceEqDiff,Nat.reduceAdd]
def QA (H:AH)(so oq nq:Nat)(bs:List (List Int)):Prop :=
 ∃ zs,H[oq]?=some (.cells zs 27 false)/\nq<=zs.length/\nq=bs.length/\∀ j,j<nq->Row 3 H (zs.getD j undef) (bs.getD j [])/\(zs.getD j undef=.slice none 0 0∨rowO (zs.getD j undef) ≠ so)
theorem QA.pre {H H':AH}{so oq nq:Nat}{bs:List (List Int)}(h:QA H so oq nq bs)(hp:H<+:H'):QA H' so oq nq bs:=by
 obtain ⟨zs,h1,h2,h3,h4⟩:=h
 exact ⟨zs,pre_at hp h1,h2,h3,fun j hj=>⟨(h4 j hj).1.pre hp,(h4 j hj).2⟩⟩
theorem QA.set {H H':AH}{so oq nq:Nat}{bs:List (List Int)}(h:QA H so oq nq bs)(hq:oq ≠ so)(hk:∀ (j:Nat) (y:AObj),j ≠ so->H[j]?=some y->H'[j]?=some y):QA H' so oq nq bs:=by
 obtain ⟨zs,h1,h2,h3,h4⟩:=h
 refine ⟨zs,hk _ _ hq h1,h2,h3,fun j hj=>?_⟩
 obtain ⟨g1,g2⟩:=h4 j hj
 refine ⟨?_,g2⟩
 rcases g2 with g | g
 ·exact .inl ⟨g,g1.nilv g⟩
 ·exact g1.mono fun y hy=>hk _ _ g hy
theorem QA.at_ {H:AH}{so oq nq:Nat}{bs:List (List Int)}(h:QA H so oq nq bs){j:Nat}(hj:j<nq):∃ u,cellA H oq j=some u/\Row 3 H u (bs.getD j []):=by
 obtain ⟨zs,h1,h2,h3,h4⟩:=h
 refine ⟨zs.getD j undef,?_,(h4 j hj).1⟩
 rw [cell_of h1]
 have:j<zs.length:=by omega
 simp [this]
theorem QA.push {H:AH}{so oq nq:Nat}{bs:List (List Int)}(h:QA H so oq nq bs){x:Value}{b:List Int}(hx:Row 3 H x b)(hxs:x=.slice none 0 0∨rowO x ≠ so)(hb:nq<=1099511627775) :
  ∃ H2,appendA Tryz.prog 32 32 (.slice (some ⟨oq,0,none⟩) nq nq) (.slice (some ⟨H.length,0,none⟩) 1 1) (H ++ [.cells [x] 27 false])=some (.slice (some ⟨H.length+1,0,none⟩) (nq+1) (nq+1),H2) /\
   QA H2 so (H.length+1) (nq+1) (bs ++ [b])/\H2.length=H.length+2/\(∀ (j:Nat) (y:AObj),j ≠ oq->H[j]?=some y->H2[j]?=some y):=by
 obtain ⟨zs,h1,h2,h3,h4⟩:=h
 have k1:=app_qV (P:=Tryz.prog) (t:=32) (k:=0) (n:=nq) (c:=nq) (x:=x) Tryz.underlying32 cs27 (by rw [by27];decide) zk27 h1 (by omega) hb
 have keep:∀ (j:Nat) (y:AObj),j ≠ oq->H[j]?=some y->(H.set oq .dead ++ [AObj.cells [x] 27 false,.cells ((zs.drop 0).take nq ++ [x]) 27 false])[j]?=some y:=fun j y hj hy=>at_old hy (fun e=>hj e.symm) _
 refine ⟨_,k1,⟨(zs.drop 0).take nq ++ [x],at_new1 ..,by simp;omega,by simp;omega,fun j hj=>?_⟩,by simp,keep⟩
 rw [List.drop_zero]
 have hl:(zs.take nq).length=nq:=by simp;omega
 rw [List.getD_eq_getElem?_getD,List.getElem?_append,hl]
 by_cases hj2:j<nq
 ·obtain ⟨g1,g2⟩:=h4 j hj2
  rw [if_pos hj2,List.getElem?_take,if_pos hj2,<- List.getD_eq_getElem?_getD]
  have e:(bs ++ [b]).getD j []=bs.getD j []:=by
   rw [List.getD_eq_getElem?_getD,List.getElem?_append_left (by omega),<- List.getD_eq_getElem?_getD]
  rw [e]
  exact ⟨g1.but h1 (noInt_ll _ _) (by simpa using keep),g2⟩
 ·have e:(bs ++ [b]).getD j []=b:=by
   rw [List.getD_eq_getElem?_getD,List.getElem?_append_right (by omega),show j - bs.length=0 by omega];rfl
  rw [if_neg hj2,e,show j - nq=0 by omega]
  exact ⟨hx.but h1 (noInt_ll _ _) (by simpa using keep),hxs⟩
def cd106:Cd:=(.seq (.reg [⟨⟨some 3,.box 26 (.tmp 1),none⟩,[]⟩,⟨⟨some 4,.assign (.const (.slice none 0 0)),none⟩,[]⟩]) (.seq (.reg [⟨⟨some 6,.fieldAddr 26 (.tmp 3) 0,none⟩,[]⟩,⟨⟨some 7,.load 3 (.tmp 6),none⟩,[]⟩,⟨⟨some 8,.call ⟨(.value (.func 158)),#[.tmp 7,(.const (.int .i64 8))],#[3,3]⟩,none⟩,[]⟩,⟨⟨some 9,.call ⟨(.value (.func 87)),#[.tmp 8,(.const (.int .i64 0))],#[3,3]⟩,none⟩,[]⟩,⟨⟨some 10,.move (.tmp 0),none⟩,[]⟩,⟨⟨some 11,.call ⟨(.value (.func 107)),#[.tmp 10,(.const (.int .i64 256))],#[64,3]⟩,none⟩,[]⟩,⟨⟨some 12,.call ⟨(.value (.func 122)),#[.tmp 9,.tmp 11],#[3,3]⟩,none⟩,[]⟩,⟨⟨some 5,.assign (.tmp 12),none⟩,[]⟩]) (.seq (.seq (.reg [⟨⟨some 13,.move (.tmp 0),none⟩,[]⟩,⟨⟨some 14,.call ⟨(.value (.func 86)),#[.tmp 13,(.const (.int .i64 20))],#[64,3]⟩,none⟩,[]⟩]) (.cond (.tmp 14) (.reg [⟨⟨some 15,.move (.tmp 5),none⟩,[]⟩,⟨⟨some 16,.move (.tmp 0),none⟩,[]⟩,⟨⟨some 17,.buildSlice 27 3 #[(0,(.const (.int .i64 (-1)))),(1,(.const (.int .i64 0))),(2,(.const (.int .i64 8)))],none⟩,[]⟩,
 ⟨⟨some 18,.call ⟨(.value (.func 108)),#[.tmp 16,.tmp 17],#[64,27]⟩,none⟩,[]⟩,
  ⟨⟨some 19,.buildSlice 27 1 #[(0,.tmp 18)],none⟩,[]⟩,
  ⟨⟨some 20,.call ⟨(.builtin .append),#[.tmp 15,.tmp 19],#[27,27]⟩,none⟩,[]⟩,
  ⟨⟨some 5,.assign (.tmp 20),none⟩,[]⟩]) .skip)) (.seq (.reg [⟨⟨some 21,.move (.tmp 5),none⟩,[]⟩,
  ⟨⟨some 4,.assign (.tmp 21),none⟩,[]⟩]) .ret))))
theorem in106:InT Tryz.prog 106 2 [.tmp 4] cd106:=InT.mk (by kernel_rfl) [] Tryz.func106 rfl (by kernel_rfl) (by kernel_rfl) (of_decide_eq_true (by kernel_rfl)) (by kernel_rfl)
end Go.Proofs.YtlcipphiflcaiaaGreat.Ai
namespace Go.Proofs.YtlcipphiflcaiaaGreat.Ai
open Go Go.RowKit
theorem GSt.cr {H:AH}{o gp:Nat}{v:Value}{us:List Value}{N L:Nat}{H':AH}(h:GSt H o gp v us N L H'):Cur H' o v us N:=by
 obtain ⟨_,_,_,_,_,_,_,_,_,_,_,q,_⟩:=h
 exact q
theorem own_slD {e:TypeId}{H0 H:AH}{v:Value}{xs:List Int}(h:Own e H0 H v xs)(hn:0<xs.length):∃ o,v=.slice (some ⟨o,0,none⟩) xs.length xs.length/\H0.length<=o/\H[o]?=some (.cells (ints xs) e false):=by
 rcases h with ⟨_,h⟩ | ⟨o,h1,h2,h3⟩
 ·rw [h] at hn;simp at hn
 ·exact ⟨o,h1,h2,h3⟩
theorem nodes_c {H:AH}{o:Nat}{v w:Value}{us:List Value}{N:Nat}{ps:List (Int × Int)}(h:Cur H o v us N)(hN:N<=100000000)(n:Int)(hw:RowP 115 H w ps) :
  ACalls Tryz.prog 106 [.pointer (some ⟨o,0,none⟩),.agg (List.toArray [.int .i64 n,w])] H fun r H'=>∃ xs:List Int,Own 3 H H' r xs/\xs.length<=9/\(∀ y ∈ xs,-1<=y/\y<=8)/\Cur H' o v us (N+4)/\Keeps o H H':=by
 have ho:o<H.length:=by
  obtain ⟨_,_,g,_⟩:=h.cur
  exact at_lt g
 refine in106 rfl ?_
 intro Q hQ
 simp (disch:=omega) only [cd106,hw.boxG,SS,eq_self,reduceIte,reduceCtorEq,Nat.reduceEqDiff,Nat.reduceAdd]
 generalize hA:H ++ [AObj.cells [.int .i64 n,w] 26 false]=A
 have pA:H<+:A:=by rw [<- hA];exact List.prefix_append _ _
 have cA:A[H.length]?=some (.cells [.int .i64 n,w] 26 false):=by rw [<- hA];exact at_new ..
 have rA:=hw.pre pA
 simp (disch:=omega) only [cell_of cA,SS,eq_self,reduceIte,reduceCtorEq,Nat.reduceEqDiff,Nat.reduceAdd]
 refine CallH.by (l1Least_c n 8 A) ?_
 rintro _ _ ⟨rfl,rfl⟩
 simp (disch:=omega) only [SS,eq_self,reduceIte,reduceCtorEq,Nat.reduceEqDiff,Nat.reduceAdd]
 refine CallH.by (l1MostK_c _ 0 A) ?_
 rintro _ _ ⟨rfl,rfl⟩
 obtain ⟨m,hm,hm8⟩:∃ m:Nat,(if (0:Int)<(if n<8 then n else 8) then (if n<8 then n else 8) else 0)=(m:Int)/\m<=8:=by
  by_cases e:n<8
  ·rw [if_pos e]
   by_cases e2:0<n
   ·rw [if_pos e2];exact ⟨n.toNat,by omega,by omega⟩
   ·rw [if_neg e2];exact ⟨0,rfl,by omega⟩
  ·rw [if_neg e,if_pos (by omega)];exact ⟨8,rfl,by omega⟩
 rw [hm]
 simp (disch:=omega) only [SS,eq_self,reduceIte,reduceCtorEq,Nat.reduceEqDiff,Nat.reduceAdd]
 refine CallH.by (pick2_c (h.pre pA) (by omega) 256 (by omega)) ?_
 rintro _ B ⟨⟨k,rfl,hk⟩,hCB,oB⟩
 simp (disch:=omega) only [SS,eq_self,reduceIte,reduceCtorEq,Nat.reduceEqDiff,Nat.reduceAdd]
 refine CallH.by (l2BitsA_c (m:Int) k B (by omega) (by omega)) ?_
 rintro u C ⟨hu,pC⟩
 rw [Int.toNat_natCast] at hu
 have hbl:=bitsL_len m k
 have kAC:Keeps o H C:=(Keeps.of_pre pA).trans (oB.keeps.trans (.of_pre pC))
 have lB:B.length=A.length:=oB.1
 have lA:=pA.length_le
 have hu0:Own 3 H C u (bitsL m k):=ownB hu (by omega)
 simp (disch:=omega) only [SS,eq_self,reduceIte,reduceCtorEq,Nat.reduceEqDiff,Nat.reduceAdd]
 refine CallH.by (one_c (hCB.pre pC) (by omega) 20 (by omega)) ?_
 rintro _ D ⟨⟨b,rfl⟩,hCD,oD⟩
 have huD:=hu0.keeps oD.keeps ho
 simp (disch:=omega) only [SS,eq_self,reduceIte,reduceCtorEq,Nat.reduceEqDiff,Nat.reduceAdd]
 cases b with
 | false =>
  refine brH.intro (fun q=>by cases q) (fun _=>?_)
  simp (disch:=omega) only [SS,eq_self,reduceIte,reduceCtorEq,Nat.reduceEqDiff,Nat.reduceAdd]
  refine hQ _ _ _ ?_
  simp (disch:=omega) only [huD.row.tup,SS,eq_self,reduceIte,reduceCtorEq,Nat.reduceEqDiff,Nat.reduceAdd]
  exact ⟨_,huD,by omega,fun y hy=>by have:=bitsL_mem hy;omega,hCD.more (by omega),kAC.trans oD.keeps⟩
 | true =>
  refine brH.intro (fun _=>?_) (fun q=>by cases q)
  have blK1:∀ H0:AH,buildSliceA Tryz.prog 27 3 [(0,.int .i64 (-1)),(1,.int .i64 0),(2,.int .i64 8)] H0=some (.slice (some ⟨H0.length,0,none⟩) 3 3,H0 ++ [.cells [.int .i64 (-1),.int .i64 0,.int .i64 8] 3 false]):=fun H0=>by kernel_rfl
  simp (disch:=omega) only [blK1,SS,eq_self,reduceIte,reduceCtorEq,Nat.reduceEqDiff,Nat.reduceAdd]
  generalize hK1:D ++ [AObj.cells [.int .i64 (-1),.int .i64 0,.int .i64 8] 3 false]=K1
  have pK1:D<+:K1:=by rw [<- hK1];exact List.prefix_append _ _
  have aK1:K1[D.length]?=some (.cells [.int .i64 (-1),.int .i64 0,.int .i64 8] 3 false):=by rw [<- hK1];exact at_new ..
  have wK1:Row 3 K1 (.slice (some ⟨D.length,0,none⟩) 3 3) [-1,0,8]:=.inr ⟨D.length,0,_,false,rfl,aK1,by simp,rfl⟩
  have lD:=oD.1
  have lC:=pC.length_le
  refine CallH.by (among_c (hCD.pre pK1) (by omega) wK1 (by show D.length ≠ o;omega) (by simp)) ?_
  rintro _ L ⟨⟨x,rfl,hx⟩,hCL,oL⟩
  have huL:=(huD.pre pK1).keeps oL.keeps ho
  have kHL:=kAC.trans (oD.keeps.trans ((Keeps.of_pre pK1).trans oL.keeps))
  obtain ⟨H0,hp0,hb0⟩:∃ H0:AH,H0<+:L/\H0.length=H.length:=⟨L.take H.length,List.take_prefix _ _,by have:=kHL.1;simp;omega⟩
  have huL0:Own 3 H0 L u (bitsL m k):=ownB huL (by omega)
  obtain ⟨w',M,a1,a2,a3,a4,a5,a6⟩:=own1_27 huL0 hp0 (by omega) x
  have a2':Own 3 H M w' (bitsL m k ++ [x]):=ownB a2 (by omega)
  have low:u=.slice none 0 0∨H.length<=rowO u:=by
   rcases huL with ⟨q,_⟩ | ⟨q,q1,q2,_⟩
   ·exact .inl q
   ·exact .inr (by rw [q1];exact q2)
  have old:∀ {j:Nat} {y:AObj},j<H.length->L[j]?=some y->M[j]?=some y:=fun {j y} hj hy=>a4 _ _ (by
   rcases low with e | e
   ·exact .inl e
   ·exact .inr (by omega)) hy
  have lML:L.length<=M.length:=by
   obtain ⟨q,q1,q2,q3⟩:=own_slD a2' (by simp)
   have:=at_lt q3
   rw [q1] at a5
   have a5':L.length<=q:=a5
   omega
  obtain ⟨a,sd,c1,c2,c3⟩:=hCL.cur
  simp (disch:=omega) only [a1,SS,eq_self,reduceIte,reduceCtorEq,Nat.reduceEqDiff,Nat.reduceAdd]
  refine hQ _ _ _ ?_
  simp (disch:=omega) only [a6,SS,eq_self,reduceIte,reduceCtorEq,Nat.reduceEqDiff,Nat.reduceAdd]
  refine ⟨_,a2',by simp;omega,fun y hy=>?_,⟨⟨a,sd,old ho c1,by omega,c3⟩,hCL.row.mono fun y hy=>old ?_ hy,hCL.byt,hCL.ap,hCL.le⟩,⟨by have:=kHL.1;omega,fun j y hj hy=>old (at_lt hy) (kHL.2 j y hj hy)⟩⟩
  ·rcases List.mem_append.1 hy with e | e
   ·have:=bitsL_mem e;omega
   ·rw [List.mem_singleton] at e
    subst e
    simp at hx;omega
  ·rcases h.row with q | ⟨o',k',vs',ro',e1,g2,_⟩
   ·rw [q.1]
    show (0:Nat)<H.length
    omega
   ·rw [e1]
    exact at_lt g2
def Mn (R:Nat->Nat->Prop)(x:Nat):Prop:=∀ y,R x y->x<=y
open Classical in
noncomputable def cls (R:Nat->Nat->Prop)(n:Nat):Nat:=(List.range n).countP fun x=>decide (Mn R x)
theorem least_of {P:Nat->Prop}:∀ n,P n->∃ m,P m/\∀ k,P k->m<=k:=by
 intro n
 induction n using Nat.strongRecOn with
 | ind n ih =>
  intro h
  by_cases q:∃ k,k<n/\P k
  ·obtain ⟨k,k1,k2⟩:=q
   exact ih k k1 k2
  ·exact ⟨n,h,fun k hk=>Nat.le_of_not_lt fun g=>q ⟨k,g,hk⟩⟩
theorem cls_join {R R':Nat->Nat->Prop}{n a b:Nat}(h0:∀ x,R x x)(h1:∀ {x y},R x y->R y x)(h2:∀ {x y z},R x y->R y z->R x z)
  (hJ:∀ {u v},R' u v->R u v∨(R u a/\R b v)∨(R u b/\R a v)):cls R n<=cls R' n+1:=by
 obtain ⟨ma,a1,a2⟩:=least_of (P:=fun x=>R a x) a (h0 a)
 obtain ⟨mb,b1,b2⟩:=least_of (P:=fun x=>R b x) b (h0 b)
 have key:∀ x,Mn R x->x ≠ max ma mb->Mn R' x:=by
  intro x hx hne y hy
  rcases hJ hy with g | ⟨g1,g2⟩ | ⟨g1,g2⟩
  ·exact hx y g
  ·have e:x=ma:=Nat.le_antisymm (hx ma (h2 g1 a1)) (a2 x (h1 g1))
   have:=b2 y g2
   omega
  ·have e:x=mb:=Nat.le_antisymm (hx mb (h2 g1 b1)) (b2 x (h1 g1))
   have:=a2 y g2
   omega
 unfold cls
 have:∀ l:List Nat,l.Nodup->l.countP (fun x=>@decide (Mn R x) (Classical.propDecidable _))<=l.countP (fun x=>@decide (Mn R' x) (Classical.propDecidable _))+(if max ma mb ∈ l then 1 else 0):=by
  intro l
  induction l with
  | nil=>intro _;simp
  | cons x l ih =>
   intro hn
   have hn':=List.nodup_cons.1 hn
   have ih:=ih hn'.2
   rw [List.countP_cons,List.countP_cons]
   by_cases e:x=max ma mb
   ·have hnot:max ma mb ∉ l:=by rw [<- e];exact hn'.1
    rw [if_neg hnot] at ih
    rw [if_pos (show max ma mb ∈ x :: l by rw [<- e];simp)]
    split <;> split <;> omega
   ·have hiff:(max ma mb ∈ x :: l)=(max ma mb ∈ l):=by
     rw [List.mem_cons];exact propext ⟨fun h=>h.resolve_left (fun q=>e q.symm),.inr⟩
    simp only [hiff]
    by_cases hx:Mn R x
    ·have hy:=key x hx e
     have d1:@decide (Mn R x) (Classical.propDecidable _)=true:=by simpa using hx
     have d2:@decide (Mn R' x) (Classical.propDecidable _)=true:=by simpa using hy
     rw [if_pos d1,if_pos d2];omega
    ·have d1:¬ @decide (Mn R x) (Classical.propDecidable _)=true:=by simpa using hx
     rw [if_neg d1]
     split <;> omega
 have h:=this (List.range n) List.nodup_range
 split at h <;> omega
def enA (es:List (Int × Int))(e:Int):Nat:=(es.getD e.toNat (0,0)).1.toNat
def enB (es:List (Int × Int))(e:Int):Nat:=(es.getD e.toNat (0,0)).2.toNat
inductive Jn (es:List (Int × Int)) (T:List Int):Nat->Nat->Prop
 | refl (x:Nat):Jn es T x x
 | edge (e:Int) (h:e ∈ T):Jn es T (enA es e) (enB es e)
 | symm {x y:Nat} (h:Jn es T x y):Jn es T y x
 | trans {x y z:Nat} (h1:Jn es T x y) (h2:Jn es T y z):Jn es T x z
theorem Jn.mono {es:List (Int × Int)}{T U:List Int}(hs:∀ e ∈ T,e ∈ U){x y:Nat}(h:Jn es T x y):Jn es U x y:=by
 induction h with
 | refl x=>exact .refl x
 | edge e h=>exact .edge e (hs e h)
 | symm _ ih=>exact .symm ih
 | trans _ _ i1 i2=>exact .trans i1 i2
theorem Jn.add {es:List (Int × Int)}{T U:List Int}{e:Int}(hs:∀ x ∈ U,x ∈ T∨x=e){u v:Nat}(h:Jn es U u v) :
  Jn es T u v∨(Jn es T u (enA es e)/\Jn es T (enB es e) v)∨(Jn es T u (enB es e)/\Jn es T (enA es e) v):=by
 induction h with
 | refl x=>exact .inl (.refl x)
 | edge x h =>
  rcases hs x h with q | q
  ·exact .inl (.edge x q)
  ·subst q;exact .inr (.inl ⟨.refl _,.refl _⟩)
 | symm _ ih =>
  rcases ih with q | ⟨q1,q2⟩ | ⟨q1,q2⟩
  ·exact .inl q.symm
  ·exact .inr (.inr ⟨q2.symm,q1.symm⟩)
  ·exact .inr (.inl ⟨q2.symm,q1.symm⟩)
 | trans _ _ i1 i2 =>
  rcases i1 with q | ⟨q1,q2⟩ | ⟨q1,q2⟩ <;> rcases i2 with p | ⟨p1,p2⟩ | ⟨p1,p2⟩
  ·exact .inl (q.trans p)
  ·exact .inr (.inl ⟨q.trans p1,p2⟩)
  ·exact .inr (.inr ⟨q.trans p1,p2⟩)
  ·exact .inr (.inl ⟨q1,q2.trans p⟩)
  ·exact .inr (.inl ⟨q1,p2⟩)
  ·exact .inl (q1.trans p2)
  ·exact .inr (.inr ⟨q1,q2.trans p⟩)
  ·exact .inl (q1.trans p2)
  ·exact .inr (.inr ⟨q1,p2⟩)
theorem Jn.same {es:List (Int × Int)}{T U:List Int}{e:Int}(hs:∀ x ∈ U,x ∈ T∨x=e)(hj:Jn es T (enA es e) (enB es e)){u v:Nat}(h:Jn es U u v):Jn es T u v:=by
 rcases Jn.add hs h with q | ⟨q1,q2⟩ | ⟨q1,q2⟩
 ·exact q
 ·exact q1.trans (hj.trans q2)
 ·exact q1.trans (hj.symm.trans q2)
theorem Jn.nil {es:List (Int × Int)}{x y:Nat}(h:Jn es [] x y):x=y:=by
 induction h with
 | refl=>rfl
 | edge e h=>simp at h
 | symm _ ih=>exact ih.symm
 | trans _ _ i1 i2=>exact i1.trans i2
def EndsIn (es:List (Int × Int))(T:List Int)(n:Nat):Prop:=∀ e ∈ T,enA es e<n/\enB es e<n
theorem Jn.in_ {es:List (Int × Int)}{T:List Int}{n:Nat}(hT:EndsIn es T n){x y:Nat}(h:Jn es T x y):x<n↔y<n:=by
 induction h with
 | refl=>exact Iff.rfl
 | edge e h=>exact ⟨fun _=>(hT e h).2,fun _=>(hT e h).1⟩
 | symm _ ih=>exact ih.symm
 | trans _ _ i1 i2=>exact i1.trans i2
theorem cls_nil (es:List (Int × Int))(n:Nat):cls (Jn es []) n=n:=by
 have:∀ x,Mn (Jn es []) x:=fun x y h=>Nat.le_of_eq h.nil
 unfold cls
 rw [List.countP_eq_length.2 (fun x _=>by simpa using this x),List.length_range]
theorem cls_add {es:List (Int × Int)}{T U:List Int}{e:Int}(hs:∀ x ∈ U,x ∈ T∨x=e)(n:Nat):cls (Jn es T) n<=cls (Jn es U) n+1 :=
 cls_join (a:=enA es e) (b:=enB es e) (fun x=>.refl x) (fun h=>h.symm) (fun h k=>h.trans k) (fun h=>Jn.add hs h)
theorem cls_le (es:List (Int × Int))(n:Nat):∀ T:List Int,n<=cls (Jn es T) n+T.length
 | []=>by rw [cls_nil];simp
 | e :: T=>by
  have h1:=cls_le es n T
  have h2:=cls_add (es:=es) (T:=T) (U:=e :: T) (e:=e) (fun x hx=>(List.mem_cons.1 hx).symm) n
  simp only [List.length_cons];omega
def Conn (es:List (Int × Int))(T:List Int)(n:Nat):Prop:=∀ x y,x<n->y<n->Jn es T x y
theorem conn_cls {es:List (Int × Int)}{T:List Int}{n:Nat}(h:Conn es T n):cls (Jn es T) n<=1:=by
 unfold cls
 have key:∀ k,k<=n->(List.range k).countP (fun x=>@decide (Mn (Jn es T) x) (Classical.propDecidable _))<=1:=by
  intro k
  induction k with
  | zero=>intro _;simp
  | succ k ih =>
   intro hk
   rw [List.range_succ,List.countP_append]
   by_cases g:k=0
   ·subst g;simp [List.countP_cons];split <;> omega
   ·have hm:¬ Mn (Jn es T) k:=fun q=>by have:=q 0 (h k 0 (by omega) (by omega));omega
    have hi:=ih (by omega)
    have hz:List.countP (fun x=>@decide (Mn (Jn es T) x) (Classical.propDecidable _)) [k]=0:=by
     rw [List.countP_eq_zero]
     intro x hx
     rw [List.mem_singleton] at hx
     subst hx
     simpa using hm
    omega
 exact key n (Nat.le_refl _)
def wo1 (T:List Int)(e:Int):List Int:=T.filter fun y=>decide (y ≠ e)
theorem wo1_mem {T:List Int}{e x:Int}:x ∈ wo1 T e↔x ∈ T/\x ≠ e:=by simp [wo1]
theorem wo1_len {T:List Int}(hn:T.Nodup){e:Int}(he:e ∈ T):(wo1 T e).length+1=T.length:=by
 induction T with
 | nil=>simp at he
 | cons x T ih =>
  have hx:=List.nodup_cons.1 hn
  by_cases g:x=e
  ·subst g
   have:wo1 (x :: T) x=T:=by
    unfold wo1
    rw [List.filter_cons]
    simp only [ne_eq,not_true_eq_false,decide_false,Bool.false_eq_true,if_false]
    rw [List.filter_eq_self]
    intro y hy
    simp only [decide_eq_true_eq]
    exact fun q=>hx.1 (q ▸ hy)
   rw [this];rfl
  ·have:wo1 (x :: T) e=x :: wo1 T e:=by unfold wo1;rw [List.filter_cons];simp [g]
   rw [this]
   have:=ih hx.2 ((List.mem_cons.1 he).resolve_left (fun q=>g q.symm))
   simp only [List.length_cons];omega
structure Tree (es:List (Int × Int)) (T:List Int) (n:Nat):Prop where
 nd:T.Nodup
 len:T.length+1=n
 conn:Conn es T n
 ends:EndsIn es T n
theorem Tree.cover {es:List (Int × Int)}{T:List Int}{n:Nat}(h:Tree es T n){e:Int}:∀ x ∈ T,x ∈ wo1 T e∨x=e:=fun x hx=>by
 by_cases g:x=e
 ·exact .inr g
 ·exact .inl (wo1_mem.2 ⟨hx,g⟩)
theorem Tree.bridge {es:List (Int × Int)}{T:List Int}{n:Nat}(h:Tree es T n){e:Int}(he:e ∈ T):¬ Jn es (wo1 T e) (enA es e) (enB es e):=by
 intro hj
 have c:Conn es (wo1 T e) n:=fun x y hx hy=>Jn.same h.cover hj (h.conn x y hx hy)
 have h1:=conn_cls c
 have h2:=cls_le es n (wo1 T e)
 have h3:=wo1_len h.nd he
 have h4:=h.len
 omega
theorem Tree.split {es:List (Int × Int)}{T:List Int}{n:Nat}(h:Tree es T n){e:Int}(he:e ∈ T){x:Nat}(hx:x<n):Jn es (wo1 T e) x (enA es e)∨Jn es (wo1 T e) x (enB es e):=by
 rcases Jn.add h.cover (h.conn x (enA es e) hx (h.ends e he).1) with q | ⟨q,_⟩ | ⟨q,_⟩
 ·exact .inl q
 ·exact .inl q
 ·exact .inr q
theorem Tree.cut {es:List (Int × Int)}{T:List Int}{n:Nat}(h:Tree es T n){e:Int}(he:e ∈ T){u v:Nat}(hu:u<n)(hv:v<n):¬ Jn es (wo1 T e) u v↔¬ (Jn es (wo1 T e) (enA es e) u↔Jn es (wo1 T e) (enA es e) v):=by
 constructor
 ·intro hn hiff
  by_cases g:Jn es (wo1 T e) (enA es e) u
  ·exact hn (g.symm.trans (hiff.1 g))
  ·have g2:¬ Jn es (wo1 T e) (enA es e) v:=fun q=>g (hiff.2 q)
   have a:=(h.split he hu).resolve_left fun q=>g q.symm
   have b:=(h.split he hv).resolve_left fun q=>g2 q.symm
   exact hn (a.trans b.symm)
 ·intro hn hj
  exact hn ⟨fun q=>q.trans hj,fun q=>q.trans hj.symm⟩
def Cir (es:List (Int × Int))(T:List Int)(f e:Int):Prop:=e ∈ T/\¬ Jn es (wo1 T e) (enA es f) (enB es f)
theorem Tree.round {es:List (Int × Int)}{T:List Int}{n:Nat}(h:Tree es T n){f:Int}(hfe:enA es f<n/\enB es f<n){C:List Int}(hC:∀ e,Cir es T f e->e ∈ C):Jn es C (enA es f) (enB es f):=by
 have key:∀ (k:Nat) (S:List Int),(∀ e ∈ S,e ∈ T)->S.Nodup->S.length=k->Jn es S (enA es f) (enB es f)->Jn es C (enA es f) (enB es f):=by
  intro k
  induction k with
  | zero =>
   intro S _ _ hl hj
   rw [List.eq_nil_of_length_eq_zero hl] at hj
   exact hj.mono (fun e he=>by simp at he)
  | succ k ih =>
   intro S hS hnd hl hj
   by_cases g:∀ e ∈ S,Cir es T f e
   ·exact hj.mono fun e he=>hC e (g e he)
   ·obtain ⟨e,he,hce⟩:∃ e,e ∈ S/\¬ Cir es T f e:=by
     refine Classical.byContradiction fun q=>g fun e he=>Classical.byContradiction fun q2=>q ⟨e,he,q2⟩
    have hTe:=hS e he
    have huv:Jn es (wo1 T e) (enA es f) (enB es f):=Classical.byContradiction fun q=>hce ⟨hTe,q⟩
    have sub:∀ x ∈ wo1 S e,x ∈ wo1 T e:=fun x hx=>wo1_mem.2 ⟨hS x (wo1_mem.1 hx).1,(wo1_mem.1 hx).2⟩
    have cov:∀ x ∈ S,x ∈ wo1 S e∨x=e:=fun x hx=>by
     by_cases g:x=e
     ·exact .inr g
     ·exact .inl (wo1_mem.2 ⟨hx,g⟩)
    refine ih (wo1 S e) (fun x hx=>hS x (wo1_mem.1 hx).1) (hnd.sublist List.filter_sublist) (by have:=wo1_len hnd he;omega) ?_
    rcases Jn.add cov hj with q | ⟨q1,q2⟩ | ⟨q1,q2⟩
    ·exact q
    ·exact absurd ((q1.mono sub).symm.trans (huv.trans (q2.mono sub).symm)) (h.bridge hTe)
    ·exact absurd ((q2.mono sub).trans (huv.symm.trans (q1.mono sub))) (h.bridge hTe)
 exact key T.length T (fun _ h=>h) h.nd rfl (h.conn _ _ hfe.1 hfe.2)
def bfsIn (d:Int):List Int->List Int × List Int->List Int × List Int
 | [],st=>st
 | j :: r,st=>if st.1.getD j.toNat 0<0 then bfsIn d r (st.1.set j.toNat d,st.2 ++ [j]) else bfsIn d r st
def bfsF (L:List (List Int)):Nat->List Int × List Int->Nat->List Int
 | 0,st,_=>st.1
 | f+1,st,k=>if k<st.2.length then bfsF L f (bfsIn (st.1.getD (st.2.getD k 0).toNat 0+1) (L.getD (st.2.getD k 0).toNat []) st) (k+1) else st.1
def bfs0 (N i:Nat):List Int:=(List.replicate N (-1)).set i 0
def bfs (L:List (List Int))(i:Nat):List Int:=bfsF L (L.length+1) (bfs0 L.length i,[(i:Int)]) 0
def LOk (N:Nat)(L:List (List Int)):Prop:=∀ i,∀ y ∈ L.getD i [],0<=y/\y<N
structure BI (N:Nat) (st:List Int × List Int):Prop where
 len:st.1.length=N
 q:∀ x ∈ st.2,(0<=x/\x<N)/\0<=st.1.getD x.toNat 0
 lo:∀ v,v<N -> -1<=st.1.getD v 0/\st.1.getD v 0<st.2.length
 cnt:st.2.length+st.1.countP (·<0)=N
theorem countP_set_neg (xs:List Int)(j:Nat)(d:Int)(hj:j<xs.length)(h:xs.getD j 0<0)(hd:0<=d):(xs.set j d).countP (·<0)+1=xs.countP (·<0):=by
 induction xs generalizing j with
 | nil=>simp at hj
 | cons x xs ih =>
  cases j with
  | zero =>
   have hx:x<0:=by simpa using h
   simp only [List.set_cons_zero,List.countP_cons]
   simp only [decide_eq_true_eq]
   rw [if_neg (by omega),if_pos hx]
  | succ j =>
   have:=ih j (by simpa using hj) (by simpa using h)
   simp only [List.set_cons_succ,List.countP_cons]
   omega
theorem BI.len_le {N:Nat}{st:List Int × List Int}(h:BI N st):st.2.length<=N:=by have:=h.cnt;omega
theorem getD_setB (xs:List Int)(j v:Nat)(d:Int)(hv:v<xs.length):(xs.set j d).getD v 0=if j=v then d else xs.getD v 0:=by
 rw [List.getD_eq_getElem?_getD,List.getD_eq_getElem?_getD,List.getElem?_set]
 by_cases h:j=v
 ·subst h;rw [if_pos rfl,if_pos rfl,if_pos hv];rfl
 ·rw [if_neg h,if_neg h]
theorem BI.put {N:Nat}{st:List Int × List Int}(h:BI N st){j d:Int}(hj:0<=j/\j<N)(hn:st.1.getD j.toNat 0<0)(hd:0<=d/\d<=st.2.length):BI N (st.1.set j.toNat d,st.2 ++ [j]):=by
 have hl:=h.len
 refine ⟨by simp [hl],?_,?_,?_⟩
 ·intro x hx
  simp only [List.mem_append,List.mem_cons,List.not_mem_nil,or_false] at hx
  rcases hx with hx | rfl
  ·obtain ⟨h1,h2⟩:=h.q x hx
   refine ⟨h1,?_⟩
   show 0<=(st.1.set j.toNat d).getD x.toNat 0
   rw [getD_setB _ _ _ _ (by omega)]
   split <;> omega
  ·refine ⟨hj,?_⟩
   show 0<=(st.1.set x.toNat d).getD x.toNat 0
   rw [getD_setB _ _ _ _ (by omega),if_pos rfl];omega
 ·intro v hv
  have:=h.lo v hv
  show -1<=(st.1.set j.toNat d).getD v 0/\(st.1.set j.toNat d).getD v 0<((st.2 ++ [j]).length:Nat)
  rw [getD_setB _ _ _ _ (by omega)]
  simp only [List.length_append,List.length_cons,List.length_nil]
  split <;> omega
 ·have:=countP_set_neg st.1 j.toNat d (by omega) hn hd.1
  have:=h.cnt
  show (st.2 ++ [j]).length+(st.1.set j.toNat d).countP (·<0)=N
  simp only [List.length_append,List.length_cons,List.length_nil]
  omega
theorem bfs0_BI (N i:Nat)(hi:i<N):BI N (bfs0 N i,[(i:Int)]):=by
 have hat:∀ v,v<N->(bfs0 N i).getD v 0=if i=v then 0 else -1:=by
  intro v hv
  unfold bfs0
  rw [getD_setB _ _ _ _ (by simpa using hv)]
  split
  ·rfl
  ·rw [List.getD_eq_getElem?_getD,List.getElem?_replicate,if_pos hv];rfl
 refine ⟨by simp [bfs0],?_,?_,?_⟩
 ·intro x hx
  simp only [List.mem_cons,List.not_mem_nil,or_false] at hx
  subst hx
  refine ⟨by omega,?_⟩
  show 0<=(bfs0 N i).getD (i:Int).toNat 0
  rw [Int.toNat_natCast,hat i hi,if_pos rfl];omega
 ·intro v hv
  show -1<=(bfs0 N i).getD v 0/\(bfs0 N i).getD v 0<_
  rw [hat v hv]
  simp only [List.length_cons,List.length_nil]
  split <;> omega
 ·show [(i:Int)].length+(bfs0 N i).countP (·<0)=N
  have:=countP_set_neg (List.replicate N (-1)) i 0 (by simpa using hi) (by rw [List.getD_eq_getElem?_getD,List.getElem?_replicate,if_pos hi];decide) (by omega)
  have h2:(List.replicate N (-1:Int)).countP (·<0)=N:=by rw [List.countP_replicate];simp
  unfold bfs0
  simp only [List.length_cons,List.length_nil]
  omega
theorem BI.inn {N:Nat}{d:Int}:∀ (l:List Int) {st:List Int × List Int},BI N st->(∀ y ∈ l,0<=y/\y<N)->(0<=d/\d<=st.2.length)->BI N (bfsIn d l st)
 | [],st,h,_,_=>h
 | j :: r,st,h,hl,hd=>by
  simp only [bfsIn]
  split
  ·rename_i hn
   refine BI.inn r (h.put (hl j (by simp)) hn hd) (fun y hy=>hl y (by simp [hy])) ?_
   simp only [List.length_append,List.length_cons,List.length_nil]
   omega
  ·exact BI.inn r h (fun y hy=>hl y (by simp [hy])) hd
theorem bfsF_done (L:List (List Int))(f:Nat)(st:List Int × List Int)(k:Nat)(h:st.2.length<=k):bfsF L f st k=st.1:=by
 cases f with
 | zero=>rfl
 | succ f=>simp only [bfsF];rw [if_neg (by omega)]
theorem bfsF_step (L:List (List Int))(f:Nat)(st:List Int × List Int)(k:Nat)(h:k<st.2.length):bfsF L (f+1) st k=bfsF L f (bfsIn (st.1.getD (st.2.getD k 0).toNat 0+1) (L.getD (st.2.getD k 0).toNat []) st) (k+1):=by
 simp only [bfsF];rw [if_pos h]
theorem bfsIn_pre (d:Int):∀ (l:List Int) (st:List Int × List Int),st.2<+:(bfsIn d l st).2
 | [],st=>List.prefix_refl _
 | j :: r,st=>by
  simp only [bfsIn]
  split
  ·exact (List.prefix_append st.2 [j]).trans (bfsIn_pre d r (st.1.set j.toNat d,st.2 ++ [j]))
  ·exact bfsIn_pre d r st
def ptIn:List Int->List Bool × List Int->List Bool × List Int
 | [],st=>st
 | j :: r,st=>if st.1.getD j.toNat false=true then ptIn r st else ptIn r (st.1.set j.toNat true,st.2 ++ [j])
def ptF (L:List (List Int)):Nat->List Bool × List Int->Nat->List Bool × List Int
 | 0,st,_=>st
 | f+1,st,k=>if k<st.2.length then ptF L f (ptIn (L.getD (st.2.getD k 0).toNat []) st) (k+1) else st
structure PI (N C:Nat) (st:List Bool × List Int):Prop where
 len:st.1.length=N
 q:∀ x ∈ st.2,(0<=x/\x<N)/\st.1.getD x.toNat false=true
 nd:st.2.Nodup
 cnt:st.2.length+st.1.countP (fun b=>!b)=C
 le:C<=N
theorem getD_setBool (xs:List Bool)(j v:Nat)(d:Bool)(hv:v<xs.length):(xs.set j d).getD v false=if j=v then d else xs.getD v false:=by
 rw [List.getD_eq_getElem?_getD,List.getD_eq_getElem?_getD,List.getElem?_set]
 by_cases h:j=v
 ·subst h;rw [if_pos rfl,if_pos rfl,if_pos hv];rfl
 ·rw [if_neg h,if_neg h]
theorem countP_set_true:∀ (xs:List Bool) (j:Nat),j<xs.length->xs.getD j false=false->(xs.set j true).countP (fun b=>!b)+1=xs.countP (fun b=>!b)
 | [],j,h,_=>by simp at h
 | x :: xs,0,_,h=>by
  have hx:x=false:=by simpa using h
  subst hx
  simp [List.countP_cons]
 | x :: xs,j+1,hj,h=>by
  have:=countP_set_true xs j (by simpa using hj) (by simpa using h)
  simp only [List.set_cons_succ,List.countP_cons]
  omega
theorem PI.len_le {N C:Nat}{st:List Bool × List Int}(h:PI N C st):st.2.length<=N:=by have:=h.cnt;have:=h.le;omega
theorem PI.put {N C:Nat}{st:List Bool × List Int}(h:PI N C st){j:Int}(hj:0<=j/\j<N)(hn:¬ st.1.getD j.toNat false=true):PI N C (st.1.set j.toNat true,st.2 ++ [j]):=by
 have hl:=h.len
 have hf:st.1.getD j.toNat false=false:=by simpa using hn
 refine ⟨by simp [hl],?_,?_,?_,h.le⟩
 ·intro x hx
  simp only [List.mem_append,List.mem_cons,List.not_mem_nil,or_false] at hx
  rcases hx with hx | rfl
  ·obtain ⟨h1,h2⟩:=h.q x hx
   refine ⟨h1,?_⟩
   show (st.1.set j.toNat true).getD x.toNat false=true
   rw [getD_setBool _ _ _ _ (by omega)]
   split
   ·rfl
   ·exact h2
  ·refine ⟨hj,?_⟩
   show (st.1.set x.toNat true).getD x.toNat false=true
   rw [getD_setBool _ _ _ _ (by omega),if_pos rfl]
 ·rw [List.nodup_append]
  refine ⟨h.nd,by simp,?_⟩
  intro a ha b hb hab
  simp only [List.mem_cons,List.not_mem_nil,or_false] at hb
  subst hab;subst hb
  exact hn (h.q a ha).2
 ·have:=countP_set_true st.1 j.toNat (by omega) hf
  have:=h.cnt
  show (st.2 ++ [j]).length+(st.1.set j.toNat true).countP (fun b=>!b)=C
  simp only [List.length_append,List.length_cons,List.length_nil]
  omega
theorem PI.first {N:Nat}{s:List Bool}(hs:s.length=N){k:Nat}(hk:k<N)(hn:¬ s.getD k false=true):PI N (s.countP fun b=>!b) (s.set k true,[(k:Int)]):=by
 have hf:s.getD k false=false:=by simpa using hn
 refine ⟨by simp [hs],?_,by simp,?_,?_⟩
 ·intro x hx
  simp only [List.mem_cons,List.not_mem_nil,or_false] at hx
  subst hx
  refine ⟨by omega,?_⟩
  show (s.set k true).getD (k:Int).toNat false=true
  rw [Int.toNat_natCast,getD_setBool _ _ _ _ (by omega),if_pos rfl]
 ·have:=countP_set_true s k (by omega) hf
  show [(k:Int)].length+(s.set k true).countP (fun b=>!b)=_
  simp only [List.length_cons,List.length_nil]
  omega
 ·rw [<- hs];exact List.countP_le_length
theorem PI.inn {N C:Nat}:∀ (l:List Int) {st:List Bool × List Int},PI N C st->(∀ y ∈ l,0<=y/\y<N)->PI N C (ptIn l st)
 | [],st,h,_=>h
 | j :: r,st,h,hl=>by
  simp only [ptIn]
  split
  ·exact PI.inn r h (fun y hy=>hl y (by simp [hy]))
  ·rename_i hn
   exact PI.inn r (h.put (hl j (by simp)) hn) (fun y hy=>hl y (by simp [hy]))
theorem ptIn_pre:∀ (l:List Int) (st:List Bool × List Int),st.2<+:(ptIn l st).2
 | [],st=>List.prefix_refl _
 | j :: r,st=>by
  simp only [ptIn]
  split
  ·exact ptIn_pre r st
  ·exact (List.prefix_append st.2 [j]).trans (ptIn_pre r (st.1.set j.toNat true,st.2 ++ [j]))
inductive Rch (adj:Int->Int->Prop) (S:Int->Prop) (x:Int):Int->Prop
  | refl:Rch adj S x x
  | step {y z:Int}:Rch adj S x y->adj y z->S z->Rch adj S x z
theorem Rch.mono {adj:Int->Int->Prop}{S T:Int->Prop}{x z:Int}(h:Rch adj S x z)(hs:∀ y,S y->T y):Rch adj T x z:=by
 induction h with
 | refl=>exact .refl
 | step _ h1 h2 ih=>exact .step ih h1 (hs _ h2)
theorem Rch.in_ {adj:Int->Int->Prop}{S:Int->Prop}{x z:Int}(h:Rch adj S x z)(hx:S x):S z:=by
 cases h with
 | refl=>exact hx
 | step _ _ h2=>exact h2
theorem nodup_le {a b:List Int}(ha:a.Nodup)(h:∀ x ∈ a,x ∈ b):a.length<=b.length:=by
 induction a generalizing b with
 | nil=>simp
 | cons x a ih =>
  have hx:x ∈ b:=h x (by simp)
  rw [List.nodup_cons] at ha
  have hl:=List.length_erase_of_mem hx
  have hp:=List.length_pos_of_mem hx
  have:=ih (b:=b.erase x) ha.2 fun y hy=>(List.mem_erase_of_ne (fun e:y=x=>ha.1 (by rw [<- e];exact hy))).2 (h y (by simp [hy]))
  simp only [List.length_cons]
  omega
theorem lt_nodup {l:List Int}(h:l.Pairwise (· < ·)):l.Nodup:=h.imp fun h=>by omega
theorem ptIn_seen {N C:Nat}(v:Nat)(hv:v<N):∀ (l:List Int) (st:List Bool × List Int),PI N C st->(∀ y ∈ l,0<=y/\y<N)->((ptIn l st).1.getD v false=true↔(st.1.getD v false=true∨(v:Int) ∈ l))
 | [],st,h,_=>by simp [ptIn]
 | j :: r,st,h,hl=>by
  have hj:=hl j (by simp)
  simp only [ptIn]
  split
  ·rename_i hs
   rw [ptIn_seen v hv r st h (fun y hy=>hl y (by simp [hy])),List.mem_cons]
   constructor
   ·rintro (h1 | h1)
    ·exact .inl h1
    ·exact .inr (.inr h1)
   ·rintro (h1 | h1 | h1)
    ·exact .inl h1
    ·left;rw [<- h1] at hs;simpa using hs
    ·exact .inr h1
  ·rename_i hn
   have hlen:=h.len
   rw [ptIn_seen v hv r _ (h.put hj hn) (fun y hy=>hl y (by simp [hy])),List.mem_cons]
   show ((st.1.set j.toNat true).getD v false=true∨_)↔_
   rw [getD_setBool _ _ _ _ (by omega)]
   by_cases e:j.toNat=v
   ·rw [if_pos e]
    have:(v:Int)=j:=by omega
    simp [this]
   ·rw [if_neg e]
    have:¬ (v:Int)=j:=by omega
    simp [this]
theorem ptIn_q (z:Int):∀ (l:List Int) (st:List Bool × List Int),z ∈ (ptIn l st).2->z ∈ st.2∨(z ∈ l/\¬ st.1.getD z.toNat false=true)
 | [],st,h=>.inl h
 | j :: r,st,h=>by
  simp only [ptIn] at h
  split at h
  ·rcases ptIn_q z r st h with h | ⟨h,h2⟩
   ·exact .inl h
   ·exact .inr ⟨by simp [h],h2⟩
  ·rename_i hn
   rcases ptIn_q z r _ h with h | ⟨h,h2⟩
   ·simp only [List.mem_append,List.mem_cons,List.not_mem_nil,or_false] at h
    rcases h with h | rfl
    ·exact .inl h
    ·exact .inr ⟨by simp,hn⟩
   ·refine .inr ⟨by simp [h],fun h3=>h2 ?_⟩
    show (st.1.set j.toNat true).getD z.toNat false=true
    rw [List.getD_eq_getElem?_getD,List.getElem?_set]
    rw [List.getD_eq_getElem?_getD] at h3
    split
    ·split
     ·rfl
     ·rename_i e1 e2
      rw [<- e1,List.getElem?_eq_none (by omega)] at h3
      exact h3
    ·exact h3
structure QI (L:List (List Int)) (s:List Bool) (x:Nat) (C:Nat) (st:List Bool × List Int) (k:Nat):Prop where
 pi:PI L.length C st
 seen:∀ v,v<L.length->(st.1.getD v false=true↔(s.getD v false=true∨(v:Int) ∈ st.2))
 rch:∀ z ∈ st.2,Rch (fun a b=>b ∈ L.getD a.toNat []) (fun z=>0<=z/\z<L.length/\¬ s.getD z.toNat false=true) x z
 cl:∀ i,i<k->∀ y ∈ L.getD (st.2.getD i 0).toNat [],st.1.getD y.toNat false=true
 le:k<=st.2.length
 x:(x:Int) ∈ st.2
theorem QI.step {L:List (List Int)}(hL:LOk L.length L){s:List Bool}{x C:Nat}{st:List Bool × List Int}{k:Nat}(h:QI L s x C st k)(hk:k<st.2.length):QI L s x C (ptIn (L.getD (st.2.getD k 0).toNat []) st) (k+1):=by
 have hpre:=ptIn_pre (L.getD (st.2.getD k 0).toNat []) st
 have hPI:=PI.inn _ h.pi (hL (st.2.getD k 0).toNat)
 have hm:st.2.getD k 0 ∈ st.2:=by simp [hk]
 have hsn:∀ v,v<L.length->_:=fun v hv=>ptIn_seen v hv (L.getD (st.2.getD k 0).toNat []) st h.pi (hL _)
 refine ⟨hPI,?_,?_,?_,?_,hpre.subset h.x⟩
 ·intro v hv
  constructor
  ·intro hh
   rcases (hsn v hv).1 hh with h1 | h1
   ·rcases (h.seen v hv).1 h1 with h2 | h2
    ·exact .inl h2
    ·exact .inr (hpre.subset h2)
   ·by_cases h2:st.1.getD v false=true
    ·rcases (h.seen v hv).1 h2 with h2 | h2
     ·exact .inl h2
     ·exact .inr (hpre.subset h2)
    ·right
     have key:∀ (l:List Int) (st:List Bool × List Int),PI L.length C st->(∀ y ∈ l,0<=y/\y<L.length)->(v:Int) ∈ l->¬ st.1.getD v false=true->(v:Int) ∈ (ptIn l st).2:=by
      intro l
      induction l with
      | nil=>intro st _ _ h3;simp at h3
      | cons j r ih =>
       intro st hp hl h3 h4
       have hj:=hl j (by simp)
       simp only [ptIn]
       by_cases e:j=(v:Int)
       ·subst e
        rw [Int.toNat_natCast,if_neg h4]
        exact (ptIn_pre r _).subset (by simp)
       ·have h3':(v:Int) ∈ r:=by
         rcases List.mem_cons.1 h3 with h | h
         ·exact absurd h.symm e
         ·exact h
        split
        ·exact ih st hp (fun y hy=>hl y (by simp [hy])) h3' h4
        ·rename_i hn
         refine ih _ (hp.put hj hn) (fun y hy=>hl y (by simp [hy])) h3' ?_
         show ¬ (st.1.set j.toNat true).getD v false=true
         have:=hp.len
         rw [getD_setBool _ _ _ _ (by omega),if_neg (by omega)]
         exact h4
     exact key _ st h.pi (hL _) h1 h2
  ·rintro (h1 | h1)
   ·exact (hsn v hv).2 (.inl ((h.seen v hv).2 (.inl h1)))
   ·obtain ⟨_,h2⟩:=hPI.q _ h1
    simpa using h2
 ·intro z hz
  rcases ptIn_q z _ st hz with h1 | ⟨h1,h2⟩
  ·exact h.rch z h1
  ·have hr:=hL _ z h1
   refine .step (h.rch _ hm) h1 ⟨hr.1,hr.2,fun h3=>h2 ?_⟩
   exact (h.seen z.toNat (by omega)).2 (.inl h3)
 ·intro i hi y hy
  have hg:(ptIn (L.getD (st.2.getD k 0).toNat []) st).2.getD i 0=st.2.getD i 0:=by
   obtain ⟨t,ht⟩:=hpre
   rw [<- ht,List.getD_eq_getElem?_getD,List.getElem?_append_left (by omega),<- List.getD_eq_getElem?_getD]
  rw [hg] at hy
  have hr:=hL _ y hy
  refine (hsn y.toNat (by omega)).2 ?_
  by_cases e:i=k
  ·subst e
   right
   rw [Int.toNat_of_nonneg hr.1];exact hy
  ·exact .inl (h.cl i (by omega) y hy)
 ·have:=hpre.length_le
  by_cases e:(ptIn (L.getD (st.2.getD k 0).toNat []) st).2.length=st.2.length <;> omega
theorem QI.run {L:List (List Int)}(hL:LOk L.length L){s:List Bool}{x C:Nat}:∀ (f:Nat) (st:List Bool × List Int) (k:Nat),f+k=L.length+1->QI L s x C st k->QI L s x C (ptF L f st k) (ptF L f st k).2.length
 | 0,st,k,hf,h=>by have:=h.pi.len_le;have:=h.le;omega
 | f+1,st,k,hf,h=>by
  simp only [ptF]
  split
  ·rename_i hk
   exact QI.run hL f _ _ (by omega) (h.step hL hk)
  ·have:k=st.2.length:=by have:=h.le;omega
   rw [<- this];exact h
theorem srt_ext {a b:List Int}(ha:a.Pairwise (· < ·))(hb:b.Pairwise (· < ·))(h:∀ z,z ∈ a↔z ∈ b):a=b:=by
 have hp:a.Perm b:=(List.perm_ext_iff_of_nodup (lt_nodup ha) (lt_nodup hb)).2 h
 exact List.Perm.eq_of_pairwise (le:=(· < ·)) (fun x y _ _ h1 h2=>by omega) ha hb hp
structure DI (L:List (List Int)) (i:Nat) (st:List Int × List Int) (k:Nat):Prop where
 bi:BI L.length st
 iff:∀ v,v<L.length->(0<=st.1.getD v 0↔(v:Int) ∈ st.2)
 src:∀ v,v<L.length->0<=st.1.getD v 0->(v=i/\st.1.getD v 0=0)∨∃ u,u<L.length/\0<=st.1.getD u 0/\(v:Int) ∈ L.getD u []/\st.1.getD v 0=st.1.getD u 0+1
 cl:∀ j,j<k->∀ y ∈ L.getD (st.2.getD j 0).toNat [],0<=st.1.getD y.toNat 0
 le:k<=st.2.length
 at_:0<=st.1.getD i 0
theorem bfsIn_keep (d:Int)(v:Nat):∀ (l:List Int) (st:List Int × List Int),(∀ y ∈ l,0<=y/\y<st.1.length)->0<=st.1.getD v 0->(bfsIn d l st).1.getD v 0=st.1.getD v 0
 | [],st,_,_=>rfl
 | j :: r,st,hl,h=>by
  simp only [bfsIn]
  have hj:=hl j (by simp)
  split
  ·rename_i hn
   have hvj:j.toNat ≠ v:=fun e=>by rw [e] at hn;omega
   have e1:(st.1.set j.toNat d).getD v 0=st.1.getD v 0:=by
    rw [List.getD_eq_getElem?_getD,List.getD_eq_getElem?_getD,List.getElem?_set_ne hvj]
   rw [bfsIn_keep d v r _ (fun y hy=>by simpa using hl y (by simp [hy])) (by show 0<=(st.1.set j.toNat d).getD v 0;rw [e1];exact h)]
   exact e1
  ·exact bfsIn_keep d v r st (fun y hy=>hl y (by simp [hy])) h
theorem bfsIn_new (d:Int)(hd:0<=d)(v:Nat):∀ (l:List Int) (st:List Int × List Int),(∀ y ∈ l,0<=y/\y<st.1.length)->v<st.1.length->st.1.getD v 0<0 ->
  (((v:Int) ∈ l/\(bfsIn d l st).1.getD v 0=d/\(v:Int) ∈ (bfsIn d l st).2)∨((v:Int) ∉ l/\(bfsIn d l st).1.getD v 0=st.1.getD v 0/\((v:Int) ∈ (bfsIn d l st).2->(v:Int) ∈ st.2)))
 | [],st,_,_,h=>.inr ⟨by simp,rfl,id⟩
 | j :: r,st,hl,hv,h=>by
  have hj:=hl j (by simp)
  simp only [bfsIn]
  by_cases e:j=(v:Int)
  ·subst e
   rw [Int.toNat_natCast,if_pos h]
   have e1:(st.1.set v d).getD v 0=d:=by rw [getD_setB _ _ _ _ hv,if_pos rfl]
   refine .inl ⟨by simp,?_,?_⟩
   ·rw [bfsIn_keep d v r _ (fun y hy=>by simpa using hl y (by simp [hy])) (by show 0<=(st.1.set v d).getD v 0;rw [e1];exact hd)]
    exact e1
   ·exact (bfsIn_pre d r _).subset (by simp)
  ·have hne:¬ (v:Int)=j:=fun h=>e h.symm
   split
   ·rename_i hn
    have e1:(st.1.set j.toNat d).getD v 0=st.1.getD v 0:=by
     rw [getD_setB _ _ _ _ hv,if_neg (by omega)]
    rcases bfsIn_new d hd v r (st.1.set j.toNat d,st.2 ++ [j]) (fun y hy=>by simpa using hl y (by simp [hy])) (by simpa using hv) (by show (st.1.set j.toNat d).getD v 0<0;rw [e1];exact h) with ⟨h1,h2,h3⟩ | ⟨h1,h2,h3⟩
    ·exact .inl ⟨by simp [h1],h2,h3⟩
    ·refine .inr ⟨by simp [hne,h1],by rw [h2];exact e1,fun h4=>?_⟩
     have:=h3 h4
     simpa [hne] using this
   ·rcases bfsIn_new d hd v r st (fun y hy=>hl y (by simp [hy])) hv h with ⟨h1,h2,h3⟩ | ⟨h1,h2,h3⟩
    ·exact .inl ⟨by simp [h1],h2,h3⟩
    ·exact .inr ⟨by simp [hne,h1],h2,h3⟩
theorem DI.step {L:List (List Int)}(hL:LOk L.length L){i:Nat}{st:List Int × List Int}{k:Nat}(h:DI L i st k)(hk:k<st.2.length) :
  DI L i (bfsIn (st.1.getD (st.2.getD k 0).toNat 0+1) (L.getD (st.2.getD k 0).toNat []) st) (k+1):=by
 have hm:st.2.getD k 0 ∈ st.2:=by simp [hk]
 obtain ⟨hxr,hx0⟩:=h.bi.q _ hm
 have hlo:=h.bi.lo (st.2.getD k 0).toNat (by omega)
 have hlen:=h.bi.len
 generalize hx:(st.2.getD k 0).toNat=x at *
 generalize hd:st.1.getD x 0+1=d at *
 have hl:=hL x
 have hl':∀ y ∈ L.getD x [],0<=y/\y<(st.1.length:Int):=by rw [hlen];exact hl
 have hbi:=BI.inn (d:=d) _ h.bi hl (by omega)
 have hpre:=bfsIn_pre d (L.getD x []) st
 have keep:∀ v,0<=st.1.getD v 0->_:=fun v hv=>bfsIn_keep d v (L.getD x []) st hl' hv
 have new:∀ v,v<L.length->st.1.getD v 0<0->_:=fun v hv hn=>bfsIn_new d (by omega) v (L.getD x []) st hl' (by omega) hn
 refine ⟨hbi,?_,?_,?_,?_,?_⟩
 ·intro v hv
  by_cases hn:0<=st.1.getD v 0
  ·rw [keep v hn]
   exact ⟨fun _=>hpre.subset ((h.iff v hv).1 hn),fun _=>hn⟩
  ·rcases new v hv (by omega) with ⟨h1,h2,h3⟩ | ⟨h1,h2,h3⟩
   ·rw [h2];exact ⟨fun _=>h3,fun _=>by omega⟩
   ·rw [h2];exact ⟨fun g=>absurd g hn,fun g=>(h.iff v hv).2 (h3 g)⟩
 ·intro v hv hp
  by_cases hn:0<=st.1.getD v 0
  ·rw [keep v hn]
   rcases h.src v hv hn with h1 | ⟨u,u1,u2,u3,u4⟩
   ·exact .inl h1
   ·exact .inr ⟨u,u1,by rw [keep u u2];exact u2,u3,by rw [keep u u2];exact u4⟩
  ·rcases new v hv (by omega) with ⟨h1,h2,h3⟩ | ⟨h1,h2,h3⟩
   ·refine .inr ⟨x,by omega,by rw [keep x hx0];exact hx0,h1,?_⟩
    rw [h2,keep x hx0,<- hd]
   ·rw [h2] at hp;exact absurd hp hn
 ·intro j hj y hy
  have hg:(bfsIn d (L.getD x []) st).2.getD j 0=st.2.getD j 0:=by
   obtain ⟨t,ht⟩:=hpre
   rw [<- ht,List.getD_eq_getElem?_getD,List.getElem?_append_left (by omega),<- List.getD_eq_getElem?_getD]
  rw [hg] at hy
  by_cases hn:0<=st.1.getD y.toNat 0
  ·rw [keep _ hn];exact hn
  ·by_cases e:j=k
   ·subst e
    rw [hx] at hy
    have hr:=hl y hy
    rcases new y.toNat (by omega) (by omega) with ⟨h1,h2,h3⟩ | ⟨h1,h2,h3⟩
    ·rw [h2];omega
    ·rw [Int.toNat_of_nonneg hr.1] at h1;exact absurd hy h1
   ·exact absurd (h.cl j (by omega) y hy) hn
 ·have:=hpre.length_le
  omega
 ·rw [keep i h.at_];exact h.at_
theorem DI.run {L:List (List Int)}(hL:LOk L.length L){i:Nat}:∀ (f:Nat) (st:List Int × List Int) (k:Nat),f+k=L.length+1->DI L i st k->∃ q,DI L i (bfsF L f st k,q) q.length
 | 0,st,k,hf,h=>by have:=h.bi.len_le;have:=h.le;omega
 | f+1,st,k,hf,h=>by
  simp only [bfsF]
  split
  ·rename_i hk
   exact DI.run hL f _ _ (by omega) (h.step hL hk)
  ·have e:k=st.2.length:=by have:=h.le;omega
   exact ⟨st.2,by rw [<- e];exact h⟩
theorem DI.zero {L:List (List Int)}{i:Nat}(hi:i<L.length):DI L i (bfs0 L.length i,[(i:Int)]) 0:=by
 have hat:∀ v,v<L.length->(bfs0 L.length i).getD v 0=if i=v then 0 else -1:=by
  intro v hv
  unfold bfs0
  rw [getD_setB _ _ _ _ (by simpa using hv)]
  split
  ·rfl
  ·rw [List.getD_eq_getElem?_getD,List.getElem?_replicate,if_pos hv];rfl
 refine ⟨bfs0_BI _ i hi,?_,?_,fun j hj=>absurd hj (Nat.not_lt_zero j),Nat.zero_le _,?_⟩
 ·intro v hv
  show 0<=(bfs0 L.length i).getD v 0↔(v:Int) ∈ [(i:Int)]
  rw [hat v hv,List.mem_singleton]
  split <;> omega
 ·intro v hv h
  left
  have h':0<=(bfs0 L.length i).getD v 0:=h
  rw [hat v hv] at h'
  show v=i/\(bfs0 L.length i).getD v 0=0
  rw [hat v hv]
  by_cases e:i=v
  ·exact ⟨e.symm,by rw [if_pos e]⟩
  ·rw [if_neg e] at h';omega
 ·show 0<=(bfs0 L.length i).getD i 0
  rw [hat i hi,if_pos rfl];omega
theorem bfs_DI {L:List (List Int)}(hL:LOk L.length L){i:Nat}(hi:i<L.length):∃ q,DI L i (bfs L i,q) q.length:=DI.run hL _ _ _ (by omega) (DI.zero hi)
theorem bfs_clo {L:List (List Int)}(hL:LOk L.length L){i:Nat}(hi:i<L.length){u:Nat}(hu:u<L.length)(h0:0<=(bfs L i).getD u 0){y:Int}(hy:y ∈ L.getD u []):0<=(bfs L i).getD y.toNat 0:=by
 obtain ⟨q,h⟩:=bfs_DI hL hi
 obtain ⟨j,hj,e⟩:=List.mem_iff_getElem.1 ((h.iff u hu).1 h0)
 refine h.cl j hj y ?_
 have e2:q.getD j 0=(u:Int):=by simp [hj,e]
 show y ∈ L.getD (q.getD j 0).toNat []
 rw [e2,Int.toNat_natCast];exact hy
def dq (st:List Int × List Int)(a:Nat):Int:=st.1.getD (st.2.getD a 0).toNat 0
theorem bfsIn_mono (d:Int)(hd:0<=d):∀ (l:List Int) (st:List Int × List Int),(∀ y ∈ l,0<=y/\y<st.1.length)->(∀ x ∈ st.2,(0<=x/\x<st.1.length)/\0<=st.1.getD x.toNat 0) ->
  (∀ a b,a<=b->b<st.2.length->dq st a<=dq st b)->(∀ b,b<st.2.length->dq st b<=d) ->
  (∀ a b,a<=b->b<(bfsIn d l st).2.length->dq (bfsIn d l st) a<=dq (bfsIn d l st) b)/\∀ b,b<(bfsIn d l st).2.length->dq (bfsIn d l st) b<=d
 | [],st,_,_,h1,h2=>⟨h1,h2⟩
 | j :: r,st,hl,hq,h1,h2=>by
  have hj:=hl j (by simp)
  simp only [bfsIn]
  split
  ·rename_i hn
   have keep:∀ a,a<st.2.length->dq (st.1.set j.toNat d,st.2 ++ [j]) a=dq st a:=by
    intro a ha
    have hm:st.2.getD a 0 ∈ st.2:=by simp [ha]
    have hx:=hq _ hm
    unfold dq
    have e1:(st.2 ++ [j]).getD a 0=st.2.getD a 0:=by
     rw [List.getD_eq_getElem?_getD,List.getElem?_append_left ha,<- List.getD_eq_getElem?_getD]
    show (st.1.set j.toNat d).getD ((st.2 ++ [j]).getD a 0).toNat 0=_
    rw [e1,getD_setB _ _ _ _ (by omega),if_neg (fun e=>by rw [e] at hn;omega)]
   have last:dq (st.1.set j.toNat d,st.2 ++ [j]) st.2.length=d:=by
    unfold dq
    show (st.1.set j.toNat d).getD ((st.2 ++ [j]).getD st.2.length 0).toNat 0=d
    rw [show (st.2 ++ [j]).getD st.2.length 0=j by simp,getD_setB _ _ _ _ (by omega),if_pos rfl]
   refine bfsIn_mono d hd r _ (fun y hy=>by simpa using hl y (by simp [hy])) ?_ ?_ ?_
   ·intro x hx
    rcases List.mem_append.1 hx with hx | hx
    ·have:=hq x hx
     refine ⟨by simpa using this.1,?_⟩
     show 0<=(st.1.set j.toNat d).getD x.toNat 0
     rw [getD_setB _ _ _ _ (by omega)]
     split <;> omega
    ·rw [List.mem_singleton] at hx;subst hx
     refine ⟨by simpa using hj,?_⟩
     show 0<=(st.1.set x.toNat d).getD x.toNat 0
     rw [getD_setB _ _ _ _ (by omega),if_pos rfl];exact hd
   ·intro a b hab hb
    have hb':b<st.2.length+1:=by simpa using hb
    by_cases eb:b=st.2.length
    ·subst eb
     rw [last]
     by_cases ea:a=st.2.length
     ·subst ea;rw [last];exact Int.le_refl _
     ·rw [keep a (by omega)];exact h2 a (by omega)
    ·rw [keep b (by omega),keep a (by omega)];exact h1 a b hab (by omega)
   ·intro b hb
    have hb':b<st.2.length+1:=by simpa using hb
    by_cases eb:b=st.2.length
    ·subst eb;rw [last];exact Int.le_refl _
    ·rw [keep b (by omega)];exact h2 b (by omega)
  ·exact bfsIn_mono d hd r st (fun y hy=>hl y (by simp [hy])) hq h1 h2
structure DS (L:List (List Int)) (i:Nat) (st:List Int × List Int) (k:Nat):Prop where
 di:DI L i st k
 zero:st.1.getD i 0=0
 mono:∀ a b,a<=b->b<st.2.length->dq st a<=dq st b
 near:∀ a b,k<=a->a<st.2.length->b<st.2.length->dq st b<=dq st a+1
 ed:∀ a,a<k->∀ y ∈ L.getD (st.2.getD a 0).toNat [],0<=st.1.getD y.toNat 0/\st.1.getD y.toNat 0<=dq st a+1
theorem DS.step {L:List (List Int)}(hL:LOk L.length L){i:Nat}(hi:i<L.length){st:List Int × List Int}{k:Nat}(h:DS L i st k)(hk:k<st.2.length) :
  DS L i (bfsIn (st.1.getD (st.2.getD k 0).toNat 0+1) (L.getD (st.2.getD k 0).toNat []) st) (k+1):=by
 have hd1:=h.di.step hL hk
 have hm:st.2.getD k 0 ∈ st.2:=by simp [hk]
 obtain ⟨hxr,hx0⟩:=h.di.bi.q _ hm
 have hlen:=h.di.bi.len
 have hl:=hL (st.2.getD k 0).toNat
 have hdk:dq st k+1=st.1.getD (st.2.getD k 0).toNat 0+1:=rfl
 have hl':∀ y ∈ L.getD (st.2.getD k 0).toNat [],0<=y/\y<(st.1.length:Int):=by rw [hlen];exact hl
 have hmono:=bfsIn_mono (dq st k+1) (by unfold dq;omega) _ st hl' (fun x hx=>by have:=h.di.bi.q x hx;rw [hlen];exact this) h.mono (fun b hb=>h.near k b (Nat.le_refl _) hk hb)
 have hpre:=bfsIn_pre (dq st k+1) (L.getD (st.2.getD k 0).toNat []) st
 have keep:∀ v,0<=st.1.getD v 0->_:=fun v hv=>bfsIn_keep (dq st k+1) v (L.getD (st.2.getD k 0).toNat []) st hl' hv
 have gq:∀ a,a<st.2.length->(bfsIn (dq st k+1) (L.getD (st.2.getD k 0).toNat []) st).2.getD a 0=st.2.getD a 0:=by
  intro a ha
  obtain ⟨t,ht⟩:=hpre
  rw [<- ht,List.getD_eq_getElem?_getD,List.getElem?_append_left ha,<- List.getD_eq_getElem?_getD]
 have kq:∀ a,a<st.2.length->dq (bfsIn (dq st k+1) (L.getD (st.2.getD k 0).toNat []) st) a=dq st a:=by
  intro a ha
  have hma:st.2.getD a 0 ∈ st.2:=by simp [ha]
  unfold dq at *
  rw [gq a ha]
  exact keep _ (h.di.bi.q _ hma).2
 have hpl:=hpre.length_le
 rw [<- hdk] at hd1 ⊢
 refine ⟨hd1,?_,hmono.1,?_,?_⟩
 ·rw [keep i (by rw [h.zero];exact Int.le_refl _)];exact h.zero
 ·intro a b ha hal hb
  have h1:=hmono.2 b hb
  have h2:=hmono.1 k a (by omega) hal
  rw [kq k hk] at h2
  omega
 ·intro a ha y hy
  rw [gq a (by omega)] at hy
  by_cases e:a=k
  ·subst e
   rw [kq a hk]
   have hyr:=hl y hy
   by_cases hn:0<=st.1.getD y.toNat 0
   ·rw [keep _ hn]
    refine ⟨hn,?_⟩
    have hin:=(h.di.iff y.toNat (by omega)).1 hn
    rw [Int.toNat_of_nonneg hyr.1] at hin
    obtain ⟨b,hb,eb⟩:=List.mem_iff_getElem.1 hin
    have e2:st.2.getD b 0=y:=by simp [hb,eb]
    have:=h.near a b (Nat.le_refl _) hk hb
    have e3:dq st b=st.1.getD y.toNat 0:=by unfold dq;rw [e2]
    rw [e3] at this;exact this
   ·rcases bfsIn_new (dq st a+1) (by unfold dq;omega) y.toNat _ st hl' (by omega) (by omega) with ⟨_,g2,_⟩ | ⟨g1,_⟩
    ·rw [g2];exact ⟨by unfold dq;omega,Int.le_refl _⟩
    ·rw [Int.toNat_of_nonneg hyr.1] at g1;exact absurd hy g1
  ·rw [kq a (by omega)]
   have h1:=h.ed a (by omega) y hy
   rw [keep _ h1.1];exact h1
theorem DS.run {L:List (List Int)}(hL:LOk L.length L){i:Nat}(hi:i<L.length):∀ (f:Nat) (st:List Int × List Int) (k:Nat),f+k=L.length+1->DS L i st k->∃ q,DS L i (bfsF L f st k,q) q.length
 | 0,st,k,hf,h=>by have:=h.di.bi.len_le;have:=h.di.le;omega
 | f+1,st,k,hf,h=>by
  simp only [bfsF]
  split
  ·rename_i hk
   exact DS.run hL hi f _ _ (by omega) (h.step hL hi hk)
  ·have e:k=st.2.length:=by have:=h.di.le;omega
   exact ⟨st.2,by rw [<- e];exact h⟩
theorem bfs_DS {L:List (List Int)}(hL:LOk L.length L){i:Nat}(hi:i<L.length):∃ q,DS L i (bfs L i,q) q.length:=by
 refine DS.run hL hi _ _ _ (by omega) ⟨DI.zero hi,?_,?_,?_,fun a ha=>absurd ha (Nat.not_lt_zero a)⟩
 ·show (bfs0 L.length i).getD i 0=0
  unfold bfs0
  rw [getD_setB _ _ _ _ (by simpa using hi),if_pos rfl]
 ·intro a b hab hb
  have hb':b<1:=hb
  have e1:a=0:=by omega
  have e2:b=0:=by omega
  rw [e1,e2];exact Int.le_refl _
 ·intro a b _ ha hb
  have ha':a<1:=ha
  have hb':b<1:=hb
  have e1:a=0:=by omega
  have e2:b=0:=by omega
  rw [e1,e2];omega
theorem bfs_zero {L:List (List Int)}(hL:LOk L.length L){i:Nat}(hi:i<L.length):(bfs L i).getD i 0=0:=by
 obtain ⟨q,h⟩:=bfs_DS hL hi
 exact h.zero
theorem bfs_edge {L:List (List Int)}(hL:LOk L.length L){i:Nat}(hi:i<L.length){u:Nat}(hu:u<L.length)(h0:0<=(bfs L i).getD u 0){y:Int}(hy:y ∈ L.getD u []):0<=(bfs L i).getD y.toNat 0/\(bfs L i).getD y.toNat 0<=(bfs L i).getD u 0+1:=by
 obtain ⟨q,h⟩:=bfs_DS hL hi
 obtain ⟨j,hj,e⟩:=List.mem_iff_getElem.1 ((h.di.iff u hu).1 h0)
 have e2:q.getD j 0=(u:Int):=by simp [hj,e]
 have:=h.ed j hj y (by show y ∈ L.getD (q.getD j 0).toNat [];rw [e2,Int.toNat_natCast];exact hy)
 have e3:dq (bfs L i,q) j=(bfs L i).getD u 0:=by unfold dq;show (bfs L i).getD (q.getD j 0).toNat 0=_;rw [e2,Int.toNat_natCast]
 rw [e3] at this
 exact this
def Sym (L:List (List Int)):Prop:=∀ u v:Nat,u<L.length->v<L.length->(v:Int) ∈ L.getD u []->(u:Int) ∈ L.getD v []
theorem bfs_back {L:List (List Int)}(hL:LOk L.length L)(hs:Sym L){i w:Nat}(hi:i<L.length)(hw:w<L.length):∀ (d:Nat) (v:Nat),v<L.length->(bfs L i).getD v 0=d->∀ e:Nat,(bfs L w).getD v 0=e->0<=(bfs L w).getD i 0/\(bfs L w).getD i 0<=(e:Int)+d:=by
 obtain ⟨q,h⟩:=bfs_DS hL hi
 intro d
 induction d with
 | zero =>
  intro v hv hd e he
  rcases h.di.src v hv (show 0<=(bfs L i).getD v 0 by omega) with ⟨e1,_⟩ | ⟨u,u1,u2,u3,u4⟩
  ·subst e1;rw [he];omega
  ·have u2':0<=(bfs L i).getD u 0:=u2
   have u4':(bfs L i).getD v 0=(bfs L i).getD u 0+1:=u4
   omega
 | succ d ih =>
  intro v hv hd e he
  rcases h.di.src v hv (show 0<=(bfs L i).getD v 0 by omega) with ⟨_,e1⟩ | ⟨u,u1,u2,u3,u4⟩
  ·have e1':(bfs L i).getD v 0=0:=e1
   omega
  ·have u4':(bfs L i).getD v 0=(bfs L i).getD u 0+1:=u4
   have hb:=bfs_edge hL hw hv (by omega) (hs u v u1 hv u3)
   rw [Int.toNat_natCast] at hb
   have:=ih u u1 (by omega) ((bfs L w).getD u 0).toNat (by omega)
   omega
theorem bfs_sym {L:List (List Int)}(hL:LOk L.length L)(hs:Sym L){i j:Nat}(hi:i<L.length)(hj:j<L.length)(h0:0<=(bfs L i).getD j 0):(bfs L j).getD i 0=(bfs L i).getD j 0:=by
 have zi:=bfs_zero hL hi
 have zj:=bfs_zero hL hj
 have h1:=bfs_back hL hs hi hj ((bfs L i).getD j 0).toNat j hj (by omega) 0 (by omega)
 have h2:=bfs_back hL hs hj hi ((bfs L j).getD i 0).toNat i hi (by omega) 0 (by omega)
 omega
def cd67:Cd:=(.seq (.reg [⟨⟨some 4,.assign (.const (.slice none 0 0)),none⟩,[]⟩]) (.seq (.reg [⟨⟨some 10,.buildSlice 27 1 #[(0,(.const (.int .i64 (-1))))],none⟩,[]⟩,⟨⟨some 11,.move (.tmp 0),none⟩,[]⟩,⟨⟨some 12,.call ⟨(.builtin .len),#[.tmp 11],#[32]⟩,none⟩,[]⟩,⟨⟨some 13,.call ⟨(.value (.func 133)),#[.tmp 10,.tmp 12],#[27,3]⟩,none⟩,[]⟩,⟨⟨some 5,.assign (.tmp 13),none⟩,[]⟩]) (.seq (.reg [⟨⟨some 14,.move (.tmp 5),none⟩,[]⟩,⟨⟨some 15,.move (.tmp 1),none⟩,[]⟩,⟨⟨some 16,.indexAddr 27 (.tmp 14) (.tmp 15),none⟩,[]⟩,⟨⟨none,.store 3 (.tmp 16) (.const (.int .i64 0)),none⟩,[]⟩]) (.seq (.reg [⟨⟨some 17,.move (.tmp 1),none⟩,[]⟩,⟨⟨some 18,.buildSlice 27 1 #[(0,.tmp 17)],none⟩,[]⟩,⟨⟨some 6,.assign (.tmp 18),none⟩,[]⟩]) (.seq (.block 0 (.loop (.seq (.seq (.reg [⟨⟨some 19,.move (.tmp 6),none⟩,[]⟩,⟨⟨some 20,.call ⟨(.builtin .len),#[.tmp 19],#[27]⟩,none⟩,[]⟩,⟨⟨some 21,.binOp .gtr 3 (.tmp 20) (.const (.int .i64 0)) 3,none⟩,[]⟩]) (.cond (.tmp 21) .skip (.exit 0))) (.block 1 (.seq (.reg [⟨⟨some 22,.move (.tmp 6),none⟩,[]⟩,
 ⟨⟨some 23,.indexAddr 27 (.tmp 22) (.const (.int .i64 0)),none⟩,[]⟩,⟨⟨some 24,.load 3 (.tmp 23),none⟩,[]⟩,⟨⟨some 7,.assign (.tmp 24),none⟩,[]⟩]) (.seq (.reg [⟨⟨some 25,.move (.tmp 6),none⟩,[]⟩,⟨⟨some 26,.slice 27 (.tmp 25) (some (.const (.int .i64 1))) none none,none⟩,[]⟩,⟨⟨some 6,.assign (.tmp 26),none⟩,[]⟩]) (.seq (.reg [⟨⟨some 27,.move (.tmp 0),none⟩,[]⟩,⟨⟨some 28,.move (.tmp 7),none⟩,[]⟩,⟨⟨some 29,.indexAddr 32 (.tmp 27) (.tmp 28),none⟩,[]⟩,⟨⟨some 30,.load 27 (.tmp 29),none⟩,[]⟩,⟨⟨some 31,.call ⟨(.builtin .len),#[.tmp 30],#[27]⟩,none⟩,[]⟩,⟨⟨some 32,.move (.const (.int .i64 0)),none⟩,[]⟩]) (.block 2 (.loop (.seq (.reg [⟨⟨some 33,.binOp .lss 3 (.tmp 32) (.tmp 31) 3,none⟩,[]⟩]) (.seq (.cond (.tmp 33) .skip (.exit 2)) (.seq (.block 3 (.seq (.reg [⟨⟨some 34,.indexAddr 27 (.tmp 30) (.tmp 32),none⟩,[]⟩,⟨⟨some 35,.load 3 (.tmp 34),none⟩,[]⟩,⟨⟨some 9,.assign (.tmp 35),none⟩,[]⟩]) (.seq (.reg [⟨⟨some 36,.move (.tmp 5),none⟩,[]⟩,
 ⟨⟨some 37,.move (.tmp 9),none⟩,[]⟩,⟨⟨some 38,.indexAddr 27 (.tmp 36) (.tmp 37),none⟩,[]⟩,⟨⟨some 39,.load 3 (.tmp 38),none⟩,[]⟩,⟨⟨some 40,.binOp .lss 3 (.tmp 39) (.const (.int .i64 0)) 3,none⟩,[]⟩]) (.cond (.tmp 40) (.seq (.reg [⟨⟨some 41,.move (.tmp 5),none⟩,[]⟩,⟨⟨some 42,.move (.tmp 9),none⟩,[]⟩,⟨⟨some 43,.move (.tmp 5),none⟩,[]⟩,⟨⟨some 44,.move (.tmp 7),none⟩,[]⟩,⟨⟨some 45,.indexAddr 27 (.tmp 43) (.tmp 44),none⟩,[]⟩,⟨⟨some 46,.load 3 (.tmp 45),none⟩,[]⟩,⟨⟨some 47,.binOp .add 3 (.tmp 46) (.const (.int .i64 1)) 3,none⟩,[]⟩,⟨⟨some 48,.indexAddr 27 (.tmp 41) (.tmp 42),none⟩,[]⟩,⟨⟨none,.store 3 (.tmp 48) (.tmp 47),none⟩,[]⟩]) (.reg [⟨⟨some 49,.move (.tmp 6),none⟩,[]⟩,
 ⟨⟨some 50,.move (.tmp 9),none⟩,[]⟩,
  ⟨⟨some 51,.buildSlice 27 1 #[(0,.tmp 50)],none⟩,[]⟩,
  ⟨⟨some 52,.call ⟨(.builtin .append),#[.tmp 49,.tmp 51],#[27,27]⟩,none⟩,[]⟩,
  ⟨⟨some 6,.assign (.tmp 52),none⟩,[]⟩])) .skip)))) (.reg [⟨⟨some 53,.binOp .add 3 (.tmp 32) (.const (.int .i64 1)) 3,none⟩,[]⟩,
  ⟨⟨some 32,.move (.tmp 53),none⟩,[]⟩]))))))))))))) (.seq (.reg [⟨⟨some 54,.move (.tmp 5),none⟩,[]⟩,
  ⟨⟨some 4,.assign (.tmp 54),none⟩,[]⟩]) .ret))))))
theorem in67:InT Tryz.prog 67 2 [.tmp 4] cd67:=InT.mk (by kernel_rfl) [] Tryz.func67 rfl (by kernel_rfl) (by kernel_rfl) (of_decide_eq_true (by kernel_rfl)) (by kernel_rfl)
def cd148:Cd:=(.seq (.reg [⟨⟨some 4,.assign (.const (.slice none 0 0)),none⟩,[]⟩]) (.seq (.reg [⟨⟨some 11,.move (.tmp 0),none⟩,[]⟩,⟨⟨some 12,.call ⟨(.builtin .len),#[.tmp 11],#[32]⟩,none⟩,[]⟩,⟨⟨some 13,.makeSlice 27 (.tmp 12) (.tmp 12),none⟩,[]⟩,⟨⟨some 5,.assign (.tmp 13),none⟩,[]⟩]) (.seq (.seq (.reg [⟨⟨some 6,.assign (.const (.int .i64 0)),none⟩,[]⟩]) (.block 0 (.loop (.seq (.seq (.reg [⟨⟨some 14,.move (.tmp 6),none⟩,[]⟩,⟨⟨some 15,.move (.tmp 5),none⟩,[]⟩,⟨⟨some 16,.call ⟨(.builtin .len),#[.tmp 15],#[27]⟩,none⟩,[]⟩,⟨⟨some 17,.binOp .lss 3 (.tmp 14) (.tmp 16) 3,none⟩,[]⟩]) (.cond (.tmp 17) .skip (.exit 0))) (.seq (.block 1 (.reg [⟨⟨some 20,.move (.tmp 5),none⟩,[]⟩,⟨⟨some 21,.move (.tmp 6),none⟩,[]⟩,⟨⟨some 22,.indexAddr 27 (.tmp 20) (.tmp 21),none⟩,[]⟩,⟨⟨none,.store 3 (.tmp 22) (.const (.int .i64 (-1))),none⟩,[]⟩])) (.reg [⟨⟨some 18,.move (.tmp 6),none⟩,[]⟩,⟨⟨some 19,.binOp .add 3 (.tmp 18) (.const (.int .i64 1)) 3,none⟩,[]⟩,⟨⟨some 6,.assign (.tmp 19),none⟩,[]⟩])))))) (.seq (.reg [⟨⟨some 23,.move (.tmp 1),none⟩,[]⟩,
 ⟨⟨some 24,.buildSlice 27 1 #[(0,.tmp 23)],none⟩,[]⟩,⟨⟨some 7,.assign (.tmp 24),none⟩,[]⟩]) (.seq (.reg [⟨⟨some 25,.move (.tmp 5),none⟩,[]⟩,⟨⟨some 26,.move (.tmp 1),none⟩,[]⟩,⟨⟨some 27,.indexAddr 27 (.tmp 25) (.tmp 26),none⟩,[]⟩,⟨⟨none,.store 3 (.tmp 27) (.const (.int .i64 0)),none⟩,[]⟩]) (.seq (.seq (.reg [⟨⟨some 8,.assign (.const (.int .i64 0)),none⟩,[]⟩]) (.block 2 (.loop (.seq (.seq (.reg [⟨⟨some 28,.move (.tmp 8),none⟩,[]⟩,⟨⟨some 29,.move (.tmp 7),none⟩,[]⟩,⟨⟨some 30,.call ⟨(.builtin .len),#[.tmp 29],#[27]⟩,none⟩,[]⟩,⟨⟨some 31,.binOp .lss 3 (.tmp 28) (.tmp 30) 3,none⟩,[]⟩]) (.cond (.tmp 31) .skip (.exit 2))) (.seq (.block 3 (.seq (.reg [⟨⟨some 34,.move (.tmp 0),none⟩,[]⟩,⟨⟨some 35,.move (.tmp 7),none⟩,[]⟩,⟨⟨some 36,.move (.tmp 8),none⟩,[]⟩,⟨⟨some 37,.indexAddr 27 (.tmp 35) (.tmp 36),none⟩,[]⟩,⟨⟨some 38,.load 3 (.tmp 37),none⟩,[]⟩,
 ⟨⟨some 39,.indexAddr 32 (.tmp 34) (.tmp 38),none⟩,[]⟩,⟨⟨some 40,.load 27 (.tmp 39),none⟩,[]⟩,⟨⟨some 9,.assign (.tmp 40),none⟩,[]⟩]) (.seq (.reg [⟨⟨some 10,.assign (.const (.int .i64 0)),none⟩,[]⟩]) (.block 4 (.loop (.seq (.seq (.reg [⟨⟨some 41,.move (.tmp 10),none⟩,[]⟩,⟨⟨some 42,.move (.tmp 9),none⟩,[]⟩,⟨⟨some 43,.call ⟨(.builtin .len),#[.tmp 42],#[27]⟩,none⟩,[]⟩,⟨⟨some 44,.binOp .lss 3 (.tmp 41) (.tmp 43) 3,none⟩,[]⟩]) (.cond (.tmp 44) .skip (.exit 4))) (.seq (.block 5 (.seq (.reg [⟨⟨some 47,.move (.tmp 5),none⟩,[]⟩,⟨⟨some 48,.move (.tmp 9),none⟩,[]⟩,⟨⟨some 49,.move (.tmp 10),none⟩,[]⟩,⟨⟨some 50,.indexAddr 27 (.tmp 48) (.tmp 49),none⟩,[]⟩,⟨⟨some 51,.load 3 (.tmp 50),none⟩,[]⟩,⟨⟨some 52,.indexAddr 27 (.tmp 47) (.tmp 51),none⟩,[]⟩,⟨⟨some 53,.load 3 (.tmp 52),none⟩,[]⟩,
 ⟨⟨some 54,.binOp .lss 3 (.tmp 53) (.const (.int .i64 0)) 3,none⟩,[]⟩]) (.cond (.tmp 54) (.seq (.reg [⟨⟨some 55,.move (.tmp 5),none⟩,[]⟩,⟨⟨some 56,.move (.tmp 9),none⟩,[]⟩,⟨⟨some 57,.move (.tmp 10),none⟩,[]⟩,⟨⟨some 58,.indexAddr 27 (.tmp 56) (.tmp 57),none⟩,[]⟩,⟨⟨some 59,.load 3 (.tmp 58),none⟩,[]⟩,⟨⟨some 60,.move (.tmp 5),none⟩,[]⟩,⟨⟨some 61,.move (.tmp 7),none⟩,[]⟩,⟨⟨some 62,.move (.tmp 8),none⟩,[]⟩,⟨⟨some 63,.indexAddr 27 (.tmp 61) (.tmp 62),none⟩,[]⟩,⟨⟨some 64,.load 3 (.tmp 63),none⟩,[]⟩,⟨⟨some 65,.indexAddr 27 (.tmp 60) (.tmp 64),none⟩,[]⟩,⟨⟨some 66,.load 3 (.tmp 65),none⟩,[]⟩,
 ⟨⟨some 67,.binOp .add 3 (.tmp 66) (.const (.int .i64 1)) 3,none⟩,[]⟩,⟨⟨some 68,.indexAddr 27 (.tmp 55) (.tmp 59),none⟩,[]⟩,⟨⟨none,.store 3 (.tmp 68) (.tmp 67),none⟩,[]⟩]) (.reg [⟨⟨some 69,.move (.tmp 7),none⟩,[]⟩,⟨⟨some 70,.move (.tmp 9),none⟩,[]⟩,⟨⟨some 71,.move (.tmp 10),none⟩,[]⟩,⟨⟨some 72,.indexAddr 27 (.tmp 70) (.tmp 71),none⟩,[]⟩,⟨⟨some 73,.load 3 (.tmp 72),none⟩,[]⟩,⟨⟨some 74,.buildSlice 27 1 #[(0,.tmp 73)],none⟩,[]⟩,⟨⟨some 75,.call ⟨(.builtin .append),#[.tmp 69,.tmp 74],#[27,27]⟩,none⟩,[]⟩,⟨⟨some 7,.assign (.tmp 75),none⟩,[]⟩])) .skip))) (.reg [⟨⟨some 45,.move (.tmp 10),none⟩,[]⟩,⟨⟨some 46,.binOp .add 3 (.tmp 45) (.const (.int .i64 1)) 3,none⟩,[]⟩,⟨⟨some 10,.assign (.tmp 46),none⟩,[]⟩])))))))) (.reg [⟨⟨some 32,.move (.tmp 8),none⟩,[]⟩,
 ⟨⟨some 33,.binOp .add 3 (.tmp 32) (.const (.int .i64 1)) 3,none⟩,[]⟩,
  ⟨⟨some 8,.assign (.tmp 33),none⟩,[]⟩])))))) (.seq (.reg [⟨⟨some 76,.move (.tmp 5),none⟩,[]⟩,
  ⟨⟨some 4,.assign (.tmp 76),none⟩,[]⟩]) .ret)))))))
theorem in148:InT Tryz.prog 148 2 [.tmp 4] cd148:=InT.mk (by kernel_rfl) [(16,[(0,false),(1,false),(2,false),(3,false),(4,false),(5,false),(6,false),(7,false),(8,false),(9,false),(10,false),(11,false),(12,false),(13,false),(14,true)])] Tryz.func148 rfl (by kernel_rfl) (by kernel_rfl) (of_decide_eq_true (by kernel_rfl)) (by kernel_rfl)
end Go.Proofs.YtlcipphiflcaiaaGreat.Ai
namespace Go.Proofs.YtlcipphiflcaiaaGreat.Ai
open Go Go.RowKit
def QH (H0 H:AH)(oo:Nat)(out:List Int)(oq kq nq:Nat)(q:List Int):Prop :=
 (∃ zs,H[oq]?=some (.cells (ints zs) 3 false)/\(zs.drop kq).take nq=q/\kq+nq<=zs.length)/\H[oo]?=some (.cells (ints out) 3 false)/\H0.length<=oo/\H0.length<=oq/\oq ≠ oo/\H0<+:H
theorem app_q {P:Program}{t e:TypeId}(hu:P.underlying t=some (.slice e))(hc:P.cellsOf e=1)(hby:P.bytesOf e<=64)(hz:zeroOk P e=true){H:AH}{o k n c:Nat}{zs:List Int}{x:Int}(ho:H[o]?=some (.cells (ints zs) e false))(hn:k+n<=zs.length)(hb:n<=1099511627775) :
  appendA P t t (.slice (some ⟨o,k,none⟩) n c) (.slice (some ⟨H.length,0,none⟩) 1 1) (H ++ [.cells [.int .i64 x] e false])=some (.slice (some ⟨H.length+1,0,none⟩) (n+1) (n+1),H.set o .dead ++ [.cells [.int .i64 x] e false,.cells (ints ((zs.drop k).take n ++ [x])) e false]):=by
 have hlt:o<H.length:=at_lt ho
 have hb2:(n+1) * P.bytesOf e<=140737488355328:=by
  refine Nat.le_trans (Nat.mul_le_mul_left _ hby) ?_
  omega
 have ho2:(H ++ [AObj.cells [.int .i64 x] e false])[o]?=some (.cells (ints zs) e false):=at_app ho _
 have hsc:sliceCells P e (.slice (some ⟨H.length,0,none⟩) 1 1) (H ++ [.cells [.int .i64 x] e false])=some (1,[.int .i64 x]):=by
  simp only [sliceCells,at_new,hc];simp
 simp only [appendA,hu,hc,hsc,ho2,hz]
 rw [if_pos (by simp),if_neg (by simp),if_pos ⟨trivial,by rw [ints_len];omega,hb2,by omega,trivial⟩]
 have:List.take (n * 1) (List.drop k (ints zs)) ++ [Value.int .i64 x]=ints ((zs.drop k).take n ++ [x]):=by
  simp [ints,List.map_take,List.map_drop]
 rw [this,List.length_append,List.set_append_left _ _ hlt]
 simp
theorem QH.push {H0 H:AH}{oo:Nat}{out:List Int}{oq kq nq:Nat}{q:List Int}(h:QH H0 H oo out oq kq nq q)(y:Nat)(d x:Int)(hb:nq<=1099511627775) :
  ∃ H2,appendA Tryz.prog 27 27 (.slice (some ⟨oq,kq,none⟩) nq nq) (.slice (some ⟨(H.set oo (.cells (ints (out.set y d)) 3 false)).length,0,none⟩) 1 1) (H.set oo (.cells (ints (out.set y d)) 3 false) ++ [.cells [.int .i64 x] 3 false])=some (.slice (some ⟨(H.set oo (.cells (ints (out.set y d)) 3 false)).length+1,0,none⟩) (nq+1) (nq+1),H2) /\
   QH H0 H2 oo (out.set y d) ((H.set oo (.cells (ints (out.set y d)) 3 false)).length+1) 0 (nq+1) (q ++ [x]):=by
 obtain ⟨⟨zs,h1,h2,h3⟩,h4,h5,h6,h7,h8⟩:=h
 have hlt:=at_lt h4
 generalize hH1:H.set oo (.cells (ints (out.set y d)) 3 false)=H1
 have l1:H1.length=H.length:=by rw [<- hH1];simp
 have k1:H1[oq]?=some (.cells (ints zs) 3 false):=by rw [<- hH1,List.getElem?_set_ne (fun e=>h7 e.symm)];exact h1
 have k4:H1[oo]?=some (.cells (ints (out.set y d)) 3 false):=by rw [<- hH1];exact at_set h4
 have hp1:H0<+:H1:=by rw [<- hH1];exact pre_set h8 h5 _
 refine ⟨_,app_q Tryz.underlying27 cs3 (by rw [by3];decide) zk3 k1 h3 hb,⟨(zs.drop kq).take nq ++ [x],?_,?_,?_⟩,?_,h5,?_,?_,?_⟩
 ·rw [List.getElem?_append_right (by simp)]
  simp
 ·rw [List.drop_zero,h2,List.take_of_length_le]
  rw [<- h2];simp;omega
 ·simp;omega
 ·rw [List.getElem?_append_left (by simp;omega),List.getElem?_set_ne h7]
  exact k4
 ·have:=h8.length_le;omega
 ·omega
 ·exact pre_app (pre_set hp1 h6 _) _
theorem QH.tail {H0 H:AH}{oo:Nat}{out:List Int}{oq kq nq:Nat}{x:Int}{q:List Int}(h:QH H0 H oo out oq kq nq (x :: q)):QH H0 H oo out oq (kq+1) (nq - 1) q/\cellA H oq kq=some (.int .i64 x)/\0<nq:=by
 obtain ⟨⟨zs,h1,h2,h3⟩,h4⟩:=h
 have hl:=congrArg List.length h2
 simp only [List.length_take,List.length_drop,List.length_cons] at hl
 have hk:kq<zs.length:=by omega
 obtain ⟨n,rfl⟩:∃ n,nq=n+1:=⟨nq - 1,by omega⟩
 rw [List.drop_eq_getElem_cons hk,List.take_succ_cons] at h2
 injection h2 with e1 e2
 refine ⟨⟨⟨zs,h1,by simpa using e2,by omega⟩,h4⟩,?_,by omega⟩
 rw [cell_of h1,ints_at zs hk]
 congr 2
 simp [hk,e1]
theorem bfsIn_drop (d:Int)(l:List Int)(j:Nat)(hj:j<l.length)(st:List Int × List Int):bfsIn d (l.drop j) st=if st.1.getD (l.getD j 0).toNat 0<0 then bfsIn d (l.drop (j+1)) (st.1.set (l.getD j 0).toNat d,st.2 ++ [l.getD j 0]) else bfsIn d (l.drop (j+1)) st:=by
 have e:l.getD j 0=l[j]:=by simp [hj]
 rw [List.drop_eq_getElem_cons hj,e]
 rfl
theorem spread_c (v:Value)(L:List (List Int))(i:Nat)(H:AH){b:Nat}(hr:RowLB b 27 3 H v L)(hL:LOk L.length L)(hN:L.length<=1000000)(hi:i<L.length)(hls:∀ x,(L.getD x []).length<=1000000000) :
  ACalls Tryz.prog 67 [v,.int .i64 (i:Int)] H fun r H'=>Own 3 H H' r (bfs L i)/\H<+:H':=by
 refine in67 rfl ?_
 intro Q hQ
 obtain ⟨us,hus,hvb,hul,hin⟩:=hr
 simp (disch:=omega) only [cd67,hus.len Tryz.underlying32,SS,eq_self,reduceIte,reduceCtorEq,Nat.reduceEqDiff,Nat.reduceAdd]
 generalize hA:H ++ [AObj.cells [.int .i64 (-1)] 3 false]=A
 have pA:H<+:A:=by rw [<- hA];exact List.prefix_append _ _
 have rA:Row 3 A (.slice (some ⟨H.length,0,none⟩) 1 1) [-1]:=.inr ⟨H.length,0,ints [-1],false,rfl,by rw [<- hA];exact at_new ..,by decide,rfl⟩
 rw [hul]
 refine CallH.by (Repeat_c _ L.length A rA (by omega)) ?_
 rintro u B ⟨hu,pB⟩
 rcases hu with ⟨_,h0⟩ | ⟨oo,hu,hol,hoc⟩
 ·have:L.length=0:=by simpa using congrArg List.length h0
  omega
 rw [List.length_replicate] at hu
 subst hu
 have hlr:i<(List.replicate L.length (-1:Int)).length:=by simpa using hi
 simp (disch:=omega) only [Int.toNat_natCast,Nat.zero_add,st_ints cs3 hoc hlr,SS,eq_self,reduceIte,reduceCtorEq,Nat.reduceEqDiff,Nat.reduceAdd]
 have hb0:(List.replicate L.length (-1:Int)).set i 0=bfs0 L.length i:=rfl
 rw [hb0]
 generalize hC:B.set oo (.cells (ints (bfs0 L.length i)) 3 false)=C
 have c0:C[oo]?=some (.cells (ints (bfs0 L.length i)) 3 false):=by rw [<- hC];exact at_set hoc
 have lAH:=pA.length_le
 have pC:H<+:C:=by rw [<- hC];exact pre_set (pA.trans pB) (by omega) _
 have hlt:=at_lt c0
 have q0:QH H (C ++ [AObj.cells [.int .i64 (i:Int)] 3 false]) oo (bfs0 L.length i) C.length 0 1 [(i:Int)] :=
  ⟨⟨[(i:Int)],at_new ..,rfl,by simp⟩,at_app c0 _,by omega,pC.length_le,by omega,pre_app pC _⟩
 refine LoopH.by (fun m s H'=>∃ st k oq kq nq,m+k=L.length/\s 0=v/\s 5=.slice (some ⟨oo,0,none⟩) L.length L.length/\s 6=.slice (some ⟨oq,kq,none⟩) nq nq/\nq+k=st.2.length/\QH H H' oo st.1 oq kq nq (st.2.drop k)/\BI L.length st/\bfsF L (m+1) st k=bfs L i) L.length ?_ ?_
 ·exact ⟨(bfs0 L.length i,[(i:Int)]),0,C.length,0,1,by omega,rfl,rfl,rfl,rfl,q0,bfs0_BI _ i hi,rfl⟩
 ·rintro m s H' ⟨st,k,oq,kq,nq,hm,h0,h5,h6,hnq,hq,hb,hF⟩
  have hle:=hb.len_le
  simp (disch:=omega) only [h0,h5,h6,SS,eq_self,reduceIte,reduceCtorEq,Nat.reduceEqDiff,Nat.reduceAdd]
  refine brD.intro (fun g=>?_) (fun g=>?_)
  ·have hk:k<st.2.length:=by omega
   rw [bfsF_step L m st k hk] at hF
   have hqm:st.2.getD k 0 ∈ st.2:=by simp [hk]
   obtain ⟨hxr,hx0⟩:=hb.q _ hqm
   have hxl:=hb.lo (st.2.getD k 0).toNat (by omega)
   rw [List.drop_eq_getElem_cons hk] at hq
   have hge:st.2[k]=st.2.getD k 0:=by simp [hk]
   rw [hge] at hq
   obtain ⟨x,hx⟩:∃ x:Nat,st.2.getD k 0=x:=⟨(st.2.getD k 0).toNat,by omega⟩
   rw [hx] at hq hF hxr hx0 hxl
   rw [Int.toNat_natCast] at hF hx0 hxl
   obtain ⟨hq2,hcell,hnq0⟩:=hq.tail
   have hqo:∃ zs ro,H'[oq]?=some (.cells (ints zs) 3 ro):=by obtain ⟨⟨zs,g1,_⟩,_⟩:=hq;exact ⟨zs,false,g1⟩
   obtain ⟨zs,ro,hqo⟩:=hqo
   have hsl:=sl_own (P:=Tryz.prog) (t:=27) (k:=kq) (n:=nq) (c:=nq) Tryz.underlying27 cs3 hqo (bound_some (k:=.i64) (i:=1) (by decide) 0) (hi_none nq) (show (1:Int).toNat<=nq from hnq0) (Nat.le_refl _)
   have hpp:H<+:H':=hq.2.2.2.2.2
   have hus':=hus.pre hpp
   have hxu:x<us.length:=by omega
   have hinH:=(hin x (by omega)).1
   have hin':=hinH.pre hpp
   have hlb:=hls x
   have hLx:=hL x
   have hz0:(0:Int).toNat=0:=rfl
   simp (disch:=omega) only [h0,h5,h6,hz0,hcell,hsl,hus'.ix Tryz.underlying32 cs27,hus'.cell,Int.toNat_natCast,SS,eq_self,reduceIte,reduceCtorEq,Nat.reduceEqDiff,Nat.reduceAdd]
   generalize hw:us.getD x undef=w at *
   generalize hl:L.getD x []=l at *
   simp (disch:=omega) only [hin'.len Tryz.underlying27,SS,eq_self,reduceIte,reduceCtorEq,Nat.reduceEqDiff,Nat.reduceAdd]
   generalize hd:st.1.getD x 0+1=d at *
   have hone:(1:Int).toNat=1:=rfl
   simp only [hone]
   refine LoopH.by (fun m' s' H''=>∃ j st' oq' kq' nq',m'+j=l.length/\s' 0=v/\s' 5=.slice (some ⟨oo,0,none⟩) L.length L.length/\s' 6=.slice (some ⟨oq',kq',none⟩) nq' nq'/\s' 7=.int .i64 (x:Int)/\s' 30=w/\s' 31=.int .i64 (l.length:Int)/\s' 32=.int .i64 ((j:Nat):Int)/\nq'+(k+1)=st'.2.length/\QH H H'' oo st'.1 oq' kq' nq' (st'.2.drop (k+1))/\BI L.length st'/\st.2<+:st'.2/\st'.1.getD x 0+1=d/\bfsIn d (l.drop j) st'=bfsIn d l st) l.length ?_ ?_
   ·have hd1:st.2.drop (k+1)=st.2.drop (k+1):=rfl
    refine ⟨0,st,oq,kq+1,nq - 1,by simp,?_⟩
    simp only [SS,eq_self,reduceIte,reduceCtorEq,Nat.reduceEqDiff,Nat.reduceAdd,h0,h5,h6]
    have hd2:bfsIn d (l.drop 0) st=bfsIn d l st:=by rw [List.drop_zero]
    have hpr:=List.prefix_refl st.2
    (repeat' first | exact hq2 | exact hb | exact hd | exact hd2 | exact hpr | apply And.intro) <;> first | (simp only [Value.int.injEq,true_and];omega) | omega | rfl | assumption | (simp;done) | (simp;omega)
   ·rintro m' s' H'' ⟨j,st',oq',kq',nq',hm',g0,g5,g6,g7,g30,g31,g32,hnq',hq',hb',hpre,hd',hB⟩
    have hpp':H<+:H'':=hq'.2.2.2.2.2
    have hw':=hinH.pre hpp'
    have hle':=hb'.len_le
    simp (disch:=omega) only [g0,g5,g6,g7,g30,g31,g32,SS,eq_self,reduceIte,reduceCtorEq,Nat.reduceEqDiff,Nat.reduceAdd]
    refine brD.intro (fun q=>?_) (fun q=>?_)
    ·have hj:j<l.length:=by omega
     rw [bfsIn_drop d l j hj] at hB
     have hym:l.getD j 0 ∈ l:=by simp [hj]
     obtain ⟨y,hy⟩:∃ y:Nat,l.getD j 0=y:=⟨(l.getD j 0).toNat,by have:=hLx _ hym;omega⟩
     have hyr:=hLx _ hym
     rw [hy] at hB hyr
     rw [Int.toNat_natCast] at hB
     have hoc':=hq'.2.1
     have hlen':=hb'.len
     have hyl:y<st'.1.length:=by omega
     have hxl':x<st'.1.length:=by omega
     have hcw:=hw'.cell hj
     rw [hy] at hcw
     simp (disch:=omega) only [g0,g5,g6,g7,g30,g31,g32,hw'.ix Tryz.underlying27 cs3,hcw,Int.toNat_natCast,Nat.zero_add,cell_ints hoc' hyl,SS,eq_self,reduceIte,reduceCtorEq,Nat.reduceEqDiff,Nat.reduceAdd]
     refine brD.intro (fun e=>?_) (fun e=>?_)
     ·rw [if_pos e] at hB
      have hd0:0<=d:=by omega
      have hdl:d<=st'.2.length:=by
       have:=hb'.lo x (by omega)
       omega
      have hb2:=hb'.put (j:=(y:Int)) (d:=d) hyr (by rw [Int.toNat_natCast];exact e) ⟨hd0,hdl⟩
      rw [Int.toNat_natCast] at hb2
      obtain ⟨H2,k1,k2⟩:=hq'.push y d (y:Int) (by omega)
      have hk1:k+1<=st'.2.length:=by have:=hpre.length_le;omega
      rw [<- List.drop_append_of_le_length hk1] at k2
      simp (disch:=omega) only [g0,g5,g6,g7,g30,g31,g32,hw'.ix Tryz.underlying27 cs3,hcw,Int.toNat_natCast,Nat.zero_add,cell_ints hoc' hxl',hd',st_ints cs3 hoc' hyl,k1,wrap64,SS,eq_self,reduceIte,reduceCtorEq,Nat.reduceEqDiff,Nat.reduceAdd]
      have f1:st.2<+:st'.2 ++ [(y:Int)]:=hpre.trans (List.prefix_append _ _)
      have f2:(st'.1.set y d).getD x 0+1=d:=by
       rw [getD_setB _ _ _ _ hxl']
       split
       ·rename_i e2
        subst e2
        have:=hb'.lo y (by omega)
        omega
       ·exact hd'
      refine ⟨m' - 1,by omega,j+1,(st'.1.set y d,st'.2 ++ [(y:Int)]),(H''.set oo (AObj.cells (ints (st'.1.set y d)) 3 false)).length+1,0,nq'+1,?_⟩
      have f3:(st'.2 ++ [(y:Int)]).length=st'.2.length+1:=by simp
      (repeat' first | exact k2 | exact hb2 | exact f1 | exact f2 | exact hB | apply And.intro) <;> first | (simp only [Value.int.injEq,true_and];omega) | omega | rfl | assumption | (simp;done) | (simp;omega)
     ·rw [if_neg e] at hB
      simp (disch:=omega) only [g0,g5,g6,g7,g30,g31,g32,wrap64,SS,eq_self,reduceIte,reduceCtorEq,Nat.reduceEqDiff,Nat.reduceAdd]
      refine ⟨m' - 1,by omega,j+1,st',oq',kq',nq',?_⟩
      (repeat' first | exact hq' | exact hb' | exact hpre | exact hd' | exact hB | apply And.intro) <;> first | (simp only [Value.int.injEq,true_and];omega) | omega | rfl | assumption | (simp;done) | (simp;omega)
    ·simp (disch:=omega) only [g0,g5,g6,g7,g30,g31,g32,SS,eq_self,reduceIte,reduceCtorEq,Nat.reduceEqDiff,Nat.reduceAdd]
     rw [List.drop_of_length_le (by omega)] at hB
     have hB':st'=bfsIn d l st:=hB
     rw [<- hB'] at hF
     have hm1:m - 1+1=m:=by omega
     rw [<- hm1] at hF
     refine ⟨m - 1,by omega,st',k+1,oq',kq',nq',?_⟩
     (repeat' first | exact hq' | exact hb' | exact hF | apply And.intro) <;> first | (simp only [Value.int.injEq,true_and];omega) | omega | rfl | assumption | (simp;done) | (simp;omega)
  ·simp (disch:=omega) only [h5,SS,eq_self,reduceIte,reduceCtorEq,Nat.reduceEqDiff,Nat.reduceAdd]
   refine hQ _ _ _ ?_
   simp (disch:=omega) only [h5,SS,eq_self,reduceIte,reduceCtorEq,Nat.reduceEqDiff,Nat.reduceAdd]
   rw [bfsF_done L _ st k (by omega)] at hF
   rw [hF] at hq
   have hbl:(bfs L i).length=L.length:=by rw [<- hF];exact hb.len
   exact ⟨.inr ⟨oo,by rw [hbl],hq.2.2.1,hq.2.1⟩,hq.2.2.2.2.2⟩
theorem QH.at {H0 H:AH}{oo:Nat}{out:List Int}{oq kq nq:Nat}{q:List Int}(h:QH H0 H oo out oq kq nq q){j:Nat}(hj:j<q.length):cellA H oq (kq+j)=some (.int .i64 (q.getD j 0)):=by
 obtain ⟨⟨zs,h1,h2,h3⟩,_⟩:=h
 have hl:=congrArg List.length h2
 simp only [List.length_take,List.length_drop] at hl
 have hk:kq+j<zs.length:=by omega
 rw [cell_of h1,ints_at zs hk]
 congr 2
 rw [<- h2,List.getD_eq_getElem?_getD,List.getD_eq_getElem?_getD,List.getElem?_take,if_pos (by omega),List.getElem?_drop]
theorem l2Spread_c (v:Value)(L:List (List Int))(i:Nat)(H:AH){b:Nat}(hr:RowLB b 27 3 H v L)(hL:LOk L.length L)(hN:L.length<=1000000)(hi:i<L.length)(hls:∀ x,(L.getD x []).length<=1000000000) :
  ACalls Tryz.prog 148 [v,.int .i64 (i:Int)] H fun r H'=>Own 3 H H' r (bfs L i)/\H<+:H':=by
 refine in148 rfl ?_
 intro Q hQ
 obtain ⟨us,hus,hvb,hul,hin⟩:=hr
 simp (maxSteps:=1000000) (disch:=omega) only [cd148,hus.len Tryz.underlying32,hul,mks27,Int.toNat_natCast,SS,eq_self,reduceIte,reduceCtorEq,Nat.reduceEqDiff,Nat.reduceAdd]
 generalize hZ:H ++ [AObj.cells (ints (List.replicate L.length 0)) 3 false]=Z
 have pZ:H<+:Z:=by rw [<- hZ];exact List.prefix_append _ _
 have cZ:Z[H.length]?=some (.cells (ints (List.replicate L.length 0)) 3 false):=by rw [<- hZ];exact at_new ..
 refine LoopH.by (fun m s H'=>∃ j,m+j=L.length/\s 0=v/\s 1=.int .i64 (i:Int)/\s 5=.slice (some ⟨H.length,0,none⟩) L.length L.length/\s 6=.int .i64 ((j:Nat):Int)/\H'=Z.set H.length (.cells (ints (rpN L.length j)) 3 false)) L.length ?_ ?_
 ·refine ⟨0,by omega,rfl,rfl,rfl,rfl,?_⟩
  have:rpN L.length 0=List.replicate L.length 0:=by simp [rpN]
  rw [this]
  apply List.ext_getElem?
  intro j
  rw [List.getElem?_set]
  by_cases hj:H.length=j
  ·subst hj;rw [if_pos rfl,if_pos (at_lt cZ),cZ]
  ·rw [if_neg hj]
 rintro m s H' ⟨j,hm,h0,h1,h5,h6,rfl⟩
 have cJ:(Z.set H.length (.cells (ints (rpN L.length j)) 3 false))[H.length]?=some (.cells (ints (rpN L.length j)) 3 false):=at_set cZ
 simp (maxSteps:=1000000) (disch:=omega) only [h0,h1,h5,h6,SS,eq_self,reduceIte,reduceCtorEq,Nat.reduceEqDiff,Nat.reduceAdd]
 refine brD.intro (fun g=>?_) (fun g=>?_)
 ·have hj:j<(rpN L.length j).length:=by rw [rpN_len _ _ (by omega)];omega
  simp (maxSteps:=1000000) (disch:=omega) only [h0,h1,h5,h6,Int.toNat_natCast,Nat.zero_add,st_ints cs3 cJ hj,wrap64,SS,eq_self,reduceIte,reduceCtorEq,Nat.reduceEqDiff,Nat.reduceAdd]
  rw [List.set_set,rpN_set _ _ (by omega)]
  refine ⟨m - 1,by omega,j+1,?_⟩
  (repeat' apply And.intro) <;> first | (simp only [Value.int.injEq,true_and];omega) | omega | rfl | assumption | (simp;done) | (simp;omega)
 have hjN:j=L.length:=by omega
 subst hjN
 have e3:rpN L.length L.length=List.replicate L.length (-1):=by simp [rpN]
 rw [e3] at cJ
 rw [e3]
 have pA:H<+:Z.set H.length (.cells (ints (List.replicate L.length (-1))) 3 false):=pre_set pZ (Nat.le_refl _) _
 simp (maxSteps:=1000000) (disch:=omega) only [h0,h1,h5,h6,SS,eq_self,reduceIte,reduceCtorEq,Nat.reduceEqDiff,Nat.reduceAdd]
 have hlr:i<(List.replicate L.length (-1:Int)).length:=by simpa using hi
 generalize hoo:H.length=oo at *
 generalize hA:Z.set oo (.cells (ints (List.replicate L.length (-1))) 3 false)=A at *
 have cA:=at_app cJ [AObj.cells [.int .i64 (i:Int)] 3 false]
 simp (maxSteps:=1000000) (disch:=omega) only [h0,h1,h5,h6,Int.toNat_natCast,Nat.zero_add,st_ints cs3 cA hlr,SS,eq_self,reduceIte,reduceCtorEq,Nat.reduceEqDiff,Nat.reduceAdd]
 have hb0:(List.replicate L.length (-1:Int)).set i 0=bfs0 L.length i:=rfl
 rw [hb0]
 have hltA:=at_lt cJ
 have q0:QH H ((A ++ [AObj.cells [.int .i64 (i:Int)] 3 false]).set oo (.cells (ints (bfs0 L.length i)) 3 false)) oo (bfs0 L.length i) A.length 0 1 [(i:Int)]:=by
  refine ⟨⟨[(i:Int)],?_,rfl,by simp⟩,at_set cA,by omega,pA.length_le,by omega,pre_set (pre_app pA _) (by omega) _⟩
  rw [List.getElem?_set_ne (by omega)]
  exact at_new ..
 refine LoopH.by (fun m s H'=>∃ st k oq,m+k=L.length/\s 0=v/\s 5=.slice (some ⟨oo,0,none⟩) L.length L.length/\s 7=.slice (some ⟨oq,0,none⟩) st.2.length st.2.length/\s 8=.int .i64 ((k:Nat):Int)/\k<=st.2.length/\QH H H' oo st.1 oq 0 st.2.length st.2/\BI L.length st/\bfsF L (m+1) st k=bfs L i) L.length ?_ ?_
 ·refine ⟨(bfs0 L.length i,[(i:Int)]),0,A.length,by omega,?_⟩
  simp only [SS,eq_self,reduceIte,reduceCtorEq,Nat.reduceEqDiff,Nat.reduceAdd,h0,h5]
  have hb0:=bfs0_BI _ i hi
  have hF0:bfsF L (L.length+1) (bfs0 L.length i,[(i:Int)]) 0=bfs L i:=rfl
  (repeat' first | exact q0 | exact hb0 | exact hF0 | apply And.intro) <;> first | (simp only [Value.int.injEq,true_and];omega) | omega | rfl | assumption | (simp;done) | (simp;omega)
 ·rintro m s H' ⟨st,k,oq,hm,h0,h5,h7,h8,hkl,hq,hb,hF⟩
  have hle:=hb.len_le
  simp (maxSteps:=1000000) (disch:=omega) only [h0,h5,h7,h8,SS,eq_self,reduceIte,reduceCtorEq,Nat.reduceEqDiff,Nat.reduceAdd]
  refine brD.intro (fun g=>?_) (fun g=>?_)
  ·have hk:k<st.2.length:=by omega
   rw [bfsF_step L m st k hk] at hF
   have hqm:st.2.getD k 0 ∈ st.2:=by simp [hk]
   obtain ⟨hxr,hx0⟩:=hb.q _ hqm
   have hxl:=hb.lo (st.2.getD k 0).toNat (by omega)
   have hcell:=hq.at hk
   obtain ⟨x,hx⟩:∃ x:Nat,st.2.getD k 0=x:=⟨(st.2.getD k 0).toNat,by omega⟩
   rw [hx] at hF hxr hx0 hxl hcell
   rw [Int.toNat_natCast] at hF hx0 hxl
   rw [Nat.zero_add] at hcell
   have hpp:H<+:H':=hq.2.2.2.2.2
   have hus':=hus.pre hpp
   have hxu:x<us.length:=by omega
   have hinH:=(hin x (by omega)).1
   have hlb:=hls x
   have hLx:=hL x
   simp (maxSteps:=1000000) (disch:=omega) only [h0,h5,h7,h8,hcell,hus'.ix Tryz.underlying32 cs27,hus'.cell,Int.toNat_natCast,Nat.zero_add,SS,eq_self,reduceIte,reduceCtorEq,Nat.reduceEqDiff,Nat.reduceAdd]
   generalize hw:us.getD x undef=w at *
   generalize hl:L.getD x []=l at *
   generalize hd:st.1.getD x 0+1=d at *
   refine LoopH.by (fun m' s' H''=>∃ j st' oq',m'+j=l.length/\s' 0=v/\s' 5=.slice (some ⟨oo,0,none⟩) L.length L.length/\s' 7=.slice (some ⟨oq',0,none⟩) st'.2.length st'.2.length/\s' 8=.int .i64 ((k:Nat):Int)/\s' 9=w/\s' 10=.int .i64 ((j:Nat):Int)/\QH H H'' oo st'.1 oq' 0 st'.2.length st'.2/\BI L.length st'/\st.2<+:st'.2/\st'.1.getD x 0+1=d/\bfsIn d (l.drop j) st'=bfsIn d l st) l.length ?_ ?_
   ·refine ⟨0,st,oq,by simp,?_⟩
    simp only [SS,eq_self,reduceIte,reduceCtorEq,Nat.reduceEqDiff,Nat.reduceAdd,h0,h5,h7,h8]
    have hd2:bfsIn d (l.drop 0) st=bfsIn d l st:=by rw [List.drop_zero]
    have hpr:=List.prefix_refl st.2
    (repeat' first | exact hq | exact hb | exact hd | exact hd2 | exact hpr | apply And.intro) <;> first | (simp only [Value.int.injEq,true_and];omega) | omega | rfl | assumption | (simp;done) | (simp;omega)
   ·rintro m' s' H'' ⟨j,st',oq',hm',g0,g5,g7,g8,g9,g10,hq',hb',hpre,hd',hB⟩
    have hpp':H<+:H'':=hq'.2.2.2.2.2
    have hw':=hinH.pre hpp'
    have hle':=hb'.len_le
    simp (maxSteps:=1000000) (disch:=omega) only [g0,g5,g7,g8,g9,g10,hw'.len Tryz.underlying27,SS,eq_self,reduceIte,reduceCtorEq,Nat.reduceEqDiff,Nat.reduceAdd]
    refine brD.intro (fun q=>?_) (fun q=>?_)
    ·have hj:j<l.length:=by omega
     rw [bfsIn_drop d l j hj] at hB
     have hym:l.getD j 0 ∈ l:=by simp [hj]
     obtain ⟨y,hy⟩:∃ y:Nat,l.getD j 0=y:=⟨(l.getD j 0).toNat,by have:=hLx _ hym;omega⟩
     have hyr:=hLx _ hym
     rw [hy] at hB hyr
     rw [Int.toNat_natCast] at hB
     have hoc':=hq'.2.1
     have hlen':=hb'.len
     have hyl:y<st'.1.length:=by omega
     have hxl':x<st'.1.length:=by omega
     have hcw:=hw'.cell hj
     rw [hy] at hcw
     have hkl':k<st'.2.length:=by have:=hpre.length_le;omega
     have hck:=hq'.at hkl'
     have hqk:st'.2.getD k 0=(x:Int):=by
      obtain ⟨t,ht⟩:=hpre
      rw [<- ht,List.getD_eq_getElem?_getD,List.getElem?_append_left hk,<- List.getD_eq_getElem?_getD];exact hx
     rw [hqk,Nat.zero_add] at hck
     simp (maxSteps:=1000000) (disch:=omega) only [g0,g5,g7,g8,g9,g10,hw'.ix Tryz.underlying27 cs3,hcw,Int.toNat_natCast,Nat.zero_add,cell_ints hoc' hyl,SS,eq_self,reduceIte,reduceCtorEq,Nat.reduceEqDiff,Nat.reduceAdd]
     refine brD.intro (fun e=>?_) (fun e=>?_)
     ·rw [if_pos e] at hB
      have hd0:0<=d:=by omega
      have hdl:d<=st'.2.length:=by
       have:=hb'.lo x (by omega)
       omega
      have hb2:=hb'.put (j:=(y:Int)) (d:=d) hyr (by rw [Int.toNat_natCast];exact e) ⟨hd0,hdl⟩
      rw [Int.toNat_natCast] at hb2
      obtain ⟨H2,k1,k2⟩:=hq'.push y d (y:Int) (by omega)
      have hp2:H<+:H''.set oo (AObj.cells (ints (st'.1.set y d)) 3 false):=pre_set hpp' (by omega) _
      have hw2:=hinH.pre hp2
      have hcw2:=hw2.cell hj
      rw [hy] at hcw2
      simp (maxSteps:=1000000) (disch:=omega) only [g0,g5,g7,g8,g9,g10,hw'.ix Tryz.underlying27 cs3,hw2.ix Tryz.underlying27 cs3,hcw,hcw2,hck,Int.toNat_natCast,Nat.zero_add,cell_ints hoc' hxl',hd',st_ints cs3 hoc' hyl,k1,wrap64,SS,eq_self,reduceIte,reduceCtorEq,Nat.reduceEqDiff,Nat.reduceAdd]
      have f1:st.2<+:st'.2 ++ [(y:Int)]:=hpre.trans (List.prefix_append _ _)
      have f2:(st'.1.set y d).getD x 0+1=d:=by
       rw [getD_setB _ _ _ _ hxl']
       split
       ·rename_i e2
        subst e2
        have:=hb'.lo y (by omega)
        omega
       ·exact hd'
      have f3:(st'.2 ++ [(y:Int)]).length=st'.2.length+1:=by simp
      rw [<- f3] at k2
      refine ⟨m' - 1,by omega,j+1,(st'.1.set y d,st'.2 ++ [(y:Int)]),(H''.set oo (AObj.cells (ints (st'.1.set y d)) 3 false)).length+1,?_⟩
      simp only [f3]
      rw [f3] at k2
      (repeat' first | exact k2 | exact hb2 | exact f1 | exact f2 | exact hB | apply And.intro) <;> first | (simp only [Value.int.injEq,true_and];omega) | omega | rfl | assumption | (simp;done) | (simp;omega)
     ·rw [if_neg e] at hB
      simp (maxSteps:=1000000) (disch:=omega) only [g0,g5,g7,g8,g9,g10,wrap64,SS,eq_self,reduceIte,reduceCtorEq,Nat.reduceEqDiff,Nat.reduceAdd]
      refine ⟨m' - 1,by omega,j+1,st',oq',?_⟩
      (repeat' first | exact hq' | exact hb' | exact hpre | exact hd' | exact hB | apply And.intro) <;> first | (simp only [Value.int.injEq,true_and];omega) | omega | rfl | assumption | (simp;done) | (simp;omega)
    ·simp (maxSteps:=1000000) (disch:=omega) only [g0,g5,g7,g8,g9,g10,wrap64,SS,eq_self,reduceIte,reduceCtorEq,Nat.reduceEqDiff,Nat.reduceAdd]
     rw [List.drop_of_length_le (by omega)] at hB
     have hB':st'=bfsIn d l st:=hB
     rw [<- hB'] at hF
     have hm1:m - 1+1=m:=by omega
     rw [<- hm1] at hF
     have hkl':k+1<=st'.2.length:=by have:=hpre.length_le;omega
     refine ⟨m - 1,by omega,st',k+1,oq',?_⟩
     (repeat' first | exact hq' | exact hb' | exact hF | exact hkl' | apply And.intro) <;> first | (simp only [Value.int.injEq,true_and];omega) | omega | rfl | assumption | (simp;done) | (simp;omega)
  ·simp (maxSteps:=1000000) (disch:=omega) only [h5,SS,eq_self,reduceIte,reduceCtorEq,Nat.reduceEqDiff,Nat.reduceAdd]
   refine hQ _ _ _ ?_
   simp (maxSteps:=1000000) (disch:=omega) only [h5,SS,eq_self,reduceIte,reduceCtorEq,Nat.reduceEqDiff,Nat.reduceAdd]
   rw [bfsF_done L _ st k (by omega)] at hF
   rw [hF] at hq
   have hbl:(bfs L i).length=L.length:=by rw [<- hF];exact hb.len
   exact ⟨.inr ⟨oo,by rw [hbl],hq.2.2.1,hq.2.1⟩,hq.2.2.2.2.2⟩
def cd147:Cd:=(.seq (.reg [⟨⟨some 2,.box 26 (.tmp 0),none⟩,[]⟩,⟨⟨some 4,.assign (.const (.slice none 0 0)),none⟩,[]⟩]) (.seq (.reg [⟨⟨some 7,.buildSlice 27 0 #[],none⟩,[]⟩,⟨⟨some 5,.assign (.tmp 7),none⟩,[]⟩]) (.seq (.seq (.reg [⟨⟨some 6,.assign (.const (.int .i64 0)),none⟩,[]⟩]) (.block 0 (.loop (.seq (.seq (.reg [⟨⟨some 8,.move (.tmp 6),none⟩,[]⟩,⟨⟨some 9,.fieldAddr 26 (.tmp 2) 0,none⟩,[]⟩,⟨⟨some 10,.load 3 (.tmp 9),none⟩,[]⟩,⟨⟨some 11,.binOp .lss 3 (.tmp 8) (.tmp 10) 3,none⟩,[]⟩]) (.cond (.tmp 11) .skip (.exit 0))) (.seq (.block 1 (.seq (.reg [⟨⟨some 14,.load 26 (.tmp 2),none⟩,[]⟩,⟨⟨some 15,.move (.tmp 1),none⟩,[]⟩,⟨⟨some 16,.move (.tmp 6),none⟩,[]⟩,⟨⟨some 17,.call ⟨(.value (.func 175)),#[.tmp 14,.tmp 15,.tmp 16],#[26,3,3]⟩,none⟩,[]⟩]) (.cond (.tmp 17) (.reg [⟨⟨some 18,.move (.tmp 5),none⟩,[]⟩,⟨⟨some 19,.move (.tmp 6),none⟩,[]⟩,⟨⟨some 20,.buildSlice 27 1 #[(0,.tmp 19)],none⟩,[]⟩,⟨⟨some 21,.call ⟨(.builtin .append),#[.tmp 18,.tmp 20],#[27,27]⟩,none⟩,[]⟩,
 ⟨⟨some 5,.assign (.tmp 21),none⟩,[]⟩]) .skip))) (.reg [⟨⟨some 12,.move (.tmp 6),none⟩,[]⟩,
  ⟨⟨some 13,.binOp .add 3 (.tmp 12) (.const (.int .i64 1)) 3,none⟩,[]⟩,
  ⟨⟨some 6,.assign (.tmp 13),none⟩,[]⟩])))))) (.seq (.reg [⟨⟨some 22,.move (.tmp 5),none⟩,[]⟩,
  ⟨⟨some 4,.assign (.tmp 22),none⟩,[]⟩]) .ret))))
theorem in147:InT Tryz.prog 147 2 [.tmp 4] cd147:=InT.mk (by kernel_rfl) [] Tryz.func147 rfl (by kernel_rfl) (by kernel_rfl) (of_decide_eq_true (by kernel_rfl)) (by kernel_rfl)
def cd80:Cd:=(.seq (.reg [⟨⟨some 1,.box 26 (.tmp 0),none⟩,[]⟩,⟨⟨some 2,.assign (.const (.slice none 0 0)),none⟩,[]⟩]) (.seq (.reg [⟨⟨some 5,.buildSlice 32 0 #[],none⟩,[]⟩,⟨⟨some 3,.assign (.tmp 5),none⟩,[]⟩]) (.seq (.seq (.reg [⟨⟨some 6,.fieldAddr 26 (.tmp 1) 0,none⟩,[]⟩,⟨⟨some 7,.load 3 (.tmp 6),none⟩,[]⟩,⟨⟨some 8,.move (.const (.int .i64 0)),none⟩,[]⟩]) (.block 0 (.loop (.seq (.reg [⟨⟨some 9,.binOp .lss 3 (.tmp 8) (.tmp 7) 3,none⟩,[]⟩]) (.seq (.cond (.tmp 9) .skip (.exit 0)) (.seq (.block 1 (.seq (.reg [⟨⟨some 10,.move (.tmp 8),none⟩,[]⟩,⟨⟨some 4,.assign (.tmp 10),none⟩,[]⟩]) (.reg [⟨⟨some 11,.move (.tmp 3),none⟩,[]⟩,⟨⟨some 12,.load 26 (.tmp 1),none⟩,[]⟩,⟨⟨some 13,.move (.tmp 4),none⟩,[]⟩,⟨⟨some 14,.call ⟨(.value (.func 146)),#[.tmp 12,.tmp 13],#[26,3]⟩,none⟩,[]⟩,⟨⟨some 15,.buildSlice 32 1 #[(0,.tmp 14)],none⟩,[]⟩,⟨⟨some 16,.call ⟨(.builtin .append),#[.tmp 11,.tmp 15],#[32,32]⟩,none⟩,[]⟩,⟨⟨some 3,.assign (.tmp 16),none⟩,[]⟩]))) (.reg [⟨⟨some 17,.binOp .add 3 (.tmp 8) (.const (.int .i64 1)) 3,none⟩,[]⟩,
 ⟨⟨some 8,.move (.tmp 17),none⟩,[]⟩]))))))) (.seq (.reg [⟨⟨some 18,.move (.tmp 3),none⟩,[]⟩,
  ⟨⟨some 2,.assign (.tmp 18),none⟩,[]⟩]) .ret))))
theorem in80:InT Tryz.prog 80 1 [.tmp 2] cd80:=InT.mk (by kernel_rfl) [] Tryz.func80 rfl (by kernel_rfl) (by kernel_rfl) (of_decide_eq_true (by kernel_rfl)) (by kernel_rfl)
def cd84:Cd:=(.seq (.reg [⟨⟨some 2,.box 26 (.tmp 0),none⟩,[]⟩,⟨⟨some 4,.assign (.const (.slice none 0 0)),none⟩,[]⟩]) (.seq (.reg [⟨⟨some 7,.fieldAddr 26 (.tmp 2) 0,none⟩,[]⟩,⟨⟨some 8,.load 3 (.tmp 7),none⟩,[]⟩,⟨⟨some 9,.makeSlice 32 (.tmp 8) (.tmp 8),none⟩,[]⟩,⟨⟨some 5,.assign (.tmp 9),none⟩,[]⟩]) (.seq (.seq (.reg [⟨⟨some 6,.assign (.const (.int .i64 0)),none⟩,[]⟩]) (.block 0 (.loop (.seq (.seq (.reg [⟨⟨some 10,.move (.tmp 6),none⟩,[]⟩,⟨⟨some 11,.fieldAddr 26 (.tmp 2) 0,none⟩,[]⟩,⟨⟨some 12,.load 3 (.tmp 11),none⟩,[]⟩,⟨⟨some 13,.binOp .lss 3 (.tmp 10) (.tmp 12) 3,none⟩,[]⟩]) (.cond (.tmp 13) .skip (.exit 0))) (.seq (.block 1 (.reg [⟨⟨some 16,.move (.tmp 5),none⟩,[]⟩,⟨⟨some 17,.move (.tmp 6),none⟩,[]⟩,⟨⟨some 18,.load 26 (.tmp 2),none⟩,[]⟩,⟨⟨some 19,.move (.tmp 6),none⟩,[]⟩,⟨⟨some 20,.call ⟨(.value (.func 147)),#[.tmp 18,.tmp 19],#[26,3]⟩,none⟩,[]⟩,
 ⟨⟨some 21,.indexAddr 32 (.tmp 16) (.tmp 17),none⟩,[]⟩,
  ⟨⟨none,.store 27 (.tmp 21) (.tmp 20),none⟩,[]⟩])) (.reg [⟨⟨some 14,.move (.tmp 6),none⟩,[]⟩,
  ⟨⟨some 15,.binOp .add 3 (.tmp 14) (.const (.int .i64 1)) 3,none⟩,[]⟩,
  ⟨⟨some 6,.assign (.tmp 15),none⟩,[]⟩])))))) (.seq (.reg [⟨⟨some 22,.move (.tmp 5),none⟩,[]⟩,
  ⟨⟨some 23,.move (.tmp 1),none⟩,[]⟩,
  ⟨⟨some 24,.call ⟨(.value (.func 148)),#[.tmp 22,.tmp 23],#[32,3]⟩,none⟩,[]⟩,
  ⟨⟨some 4,.assign (.tmp 24),none⟩,[]⟩]) .ret))))
theorem in84:InT Tryz.prog 84 2 [.tmp 4] cd84:=InT.mk (by kernel_rfl) [] Tryz.func84 rfl (by kernel_rfl) (by kernel_rfl) (of_decide_eq_true (by kernel_rfl)) (by kernel_rfl)
end Go.Proofs.YtlcipphiflcaiaaGreat.Ai
namespace Go.Proofs.YtlcipphiflcaiaaGreat.Ai
open Go Go.RowKit
theorem mk_nils {P:Program}{t e:TypeId}(hu:P.underlying t=some (.slice e))(hc:P.cellsOf e=1)(hby:P.bytesOf e<=64)(hz:zeroA P e=some (.slice none 0 0)){n:Int}(h0:0<=n)(h1:n<=1099511627776)(H:AH) :
  makeSliceA P t (.int .i64 n) (.int .i64 n) H=some (.slice (some ⟨H.length,0,none⟩) n.toNat n.toNat,H ++ [.cells (List.replicate n.toNat (.slice none 0 0)) e false]):=by
 have hb2:n.toNat * P.bytesOf e<=281474976710656:=by
  refine Nat.le_trans (Nat.mul_le_mul_left _ hby) ?_
  omega
 have hzc:(Value.slice none 0 0).cells=#[.slice none 0 0]:=rfl
 have hzs:zerosA (.slice none 0 0) (n.toNat * 1)=List.replicate n.toNat (.slice none 0 0):=by
  unfold zerosA
  rw [hzc,Nat.mul_one]
  apply List.ext_getElem
  ·simp
  ·intro i h1 h2
   simp [Nat.mod_one]
 simp only [makeSliceA,hu,hc,hz]
 rw [if_pos ⟨trivial,h0,by omega,hb2,by omega⟩,if_pos ⟨by simp [plainCs,hzc,plainC],by simp [hzc]⟩,hzs]
def roadsL (n:Nat)(es:List (Int × Int)):List (List Int):=(List.range n).map fun x:Nat=>nbsU es (x:Int) n
theorem roadsL_len (n:Nat)(es:List (Int × Int)):(roadsL n es).length=n:=by simp [roadsL]
theorem roadsL_at (n:Nat)(es:List (Int × Int))(i:Nat)(hi:i<n):(roadsL n es).getD i []=nbsU es i n:=by
 unfold roadsL
 rw [List.getD_eq_getElem?_getD,List.getElem?_map,List.getElem?_range hi];rfl
theorem roadsL_out (n:Nat)(es:List (Int × Int))(i:Nat)(hi:¬ i<n):(roadsL n es).getD i []=[]:=by
 rw [List.getD_eq_getElem?_getD,List.getElem?_eq_none (by rw [roadsL_len];omega)];rfl
theorem roadsL_ok (n:Nat)(es:List (Int × Int)):LOk (roadsL n es).length (roadsL n es):=by
 intro i y hy
 rw [roadsL_len]
 by_cases hi:i<n
 ·rw [roadsL_at n es i hi] at hy
  exact ((nbsU_mem es i n y).1 hy).1
 ·rw [roadsL_out n es i hi] at hy
  simp at hy
theorem roadsL_small (n:Nat)(es:List (Int × Int))(hn:n<=1000000000)(x:Nat):((roadsL n es).getD x []).length<=1000000000:=by
 by_cases hi:x<n
 ·rw [roadsL_at n es x hi]
  have:=nbsU_len es x n
  omega
 ·rw [roadsL_out n es x hi];simp
theorem l2Neighbors_c (n:Int)(v:Value)(es:List (Int × Int))(x:Int)(H:AH)(hr:RowP 115 H v es)(hlen:es.length<=1099511627776)(hn:0<=n/\n<=8) :
  ACalls Tryz.prog 147 [.agg (List.toArray [.int .i64 n,v]),.int .i64 x] H fun r H'=>Own 3 H H' r (nbsU es x n.toNat)/\H<+:H':=by
 refine in147 rfl ?_
 intro Q hQ
 simp (disch:=omega) only [cd147,hr.boxG,SS,eq_self,reduceIte,reduceCtorEq,Nat.reduceEqDiff,Nat.reduceAdd]
 generalize hA:H ++ [AObj.cells [.int .i64 n,v] 26 false]=A
 have pA:H<+:A:=by rw [<- hA];exact List.prefix_append _ _
 have cA:A[H.length]?=some (.cells [.int .i64 n,v] 26 false):=by rw [<- hA];exact at_new ..
 have rA:=hr.pre pA
 try simp (disch:=omega) only [SS,eq_self,reduceIte,reduceCtorEq,Nat.reduceEqDiff,Nat.reduceAdd]
 refine LoopH.by (fun m s H'=>∃ i,m+i=n.toNat/\s 1=.int .i64 x/\s 2=.pointer (some ⟨H.length,0,none⟩)/\s 6=.int .i64 ((i:Nat):Int)/\Own 3 A H' (s 5) (nbsU es x i)/\A<+:H') n.toNat ?_ ?_
 ·exact ⟨0,by simp,rfl,rfl,rfl,.inr ⟨A.length,rfl,Nat.le_refl _,at_new ..⟩,List.prefix_append _ _⟩
 ·rintro m s H' ⟨i,hm,h1,h2,h6,ho,hp⟩
  have hr':=rA.pre hp
  have cH:=pre_at hp cA
  have hl:=nbsU_len es x i
  have hst:nbsU es x (i+1)=nbsU es x i ++ if nearB es x i=true then [(i:Int)] else []:=rfl
  generalize hw:s 5=w at *
  simp (disch:=omega) only [h1,h2,h6,hw,cell_of cH,SS,eq_self,reduceIte,reduceCtorEq,Nat.reduceEqDiff,Nat.reduceAdd]
  refine brD.intro (fun g=>?_) (fun g=>?_)
  ·simp (disch:=omega) only [h1,h2,h6,hw,ld_agg ag26 cs26 cH,SS,eq_self,reduceIte,reduceCtorEq,Nat.reduceEqDiff,Nat.reduceAdd]
   refine CallH.by (l2Near_c n v es x i H' hr' hlen) ?_
   rintro _ B ⟨rfl,pB⟩
   have hoB:=ho.pre pB
   have hpB:=hp.trans pB
   simp (disch:=omega) only [SS,eq_self,reduceIte,reduceCtorEq,Nat.reduceEqDiff,Nat.reduceAdd]
   refine brH.intro (fun e2=>?_) (fun e2=>?_)
   ·obtain ⟨w',H2,k1,k2,k3,k4,k5,k6⟩:=own1_27 hoB hpB (by omega) (i:Int)
    simp (disch:=omega) only [e2,h1,h2,h6,hw,k1,wrap64,SS,eq_self,reduceIte,reduceCtorEq,Nat.reduceEqDiff,Nat.reduceAdd]
    rw [if_pos e2] at hst
    rw [<- hst] at k2
    refine ⟨m - 1,by omega,i+1,?_⟩
    (repeat' first | exact k2 | exact k3 | apply And.intro) <;> first | (simp only [Value.int.injEq,true_and];omega) | omega | rfl | assumption | (simp;done) | (simp;omega)
   ·simp (disch:=omega) only [e2,h1,h2,h6,hw,wrap64,SS,eq_self,reduceIte,reduceCtorEq,Nat.reduceEqDiff,Nat.reduceAdd]
    rw [if_neg (by simpa using e2),List.append_nil] at hst
    rw [<- hst] at hoB
    refine ⟨m - 1,by omega,i+1,?_⟩
    (repeat' first | exact hoB | exact hpB | apply And.intro) <;> first | (simp only [Value.int.injEq,true_and];omega) | omega | rfl | assumption | (simp;done) | (simp;omega)
  ·simp (disch:=omega) only [hw,SS,eq_self,reduceIte,reduceCtorEq,Nat.reduceEqDiff,Nat.reduceAdd]
   refine hQ _ _ _ ?_
   simp (disch:=omega) only [hw,ho.row.tup,SS,eq_self,reduceIte,reduceCtorEq,Nat.reduceEqDiff,Nat.reduceAdd]
   have:i=n.toNat:=by omega
   subst this
   exact ⟨ho.base pA,pA.trans hp⟩
theorem roads_c (n:Int)(v:Value)(es:List (Int × Int))(H:AH)(hr:RowP 115 H v es)(hlen:es.length<=1099511627776)(hg:Grd n es) :
  ACalls Tryz.prog 80 [.agg (List.toArray [.int .i64 n,v])] H fun r H'=>InL H.length H'.length 27 3 H' r (roadsL n.toNat es)/\H<+:H':=by
 have hn:=hg.1
 refine in80 rfl ?_
 intro Q hQ
 simp (disch:=omega) only [cd80,hr.boxG,SS,eq_self,reduceIte,reduceCtorEq,Nat.reduceEqDiff,Nat.reduceAdd]
 generalize hA:H ++ [AObj.cells [.int .i64 n,v] 26 false]=A
 have pA:H<+:A:=by rw [<- hA];exact List.prefix_append _ _
 have cA:A[H.length]?=some (.cells [.int .i64 n,v] 26 false):=by rw [<- hA];exact at_new ..
 have rA:=hr.pre pA
 simp (disch:=omega) only [cell_of (at_app cA _),SS,eq_self,reduceIte,reduceCtorEq,Nat.reduceEqDiff,Nat.reduceAdd]
 have u0:=InU.new H.length 27 3 A pA.length_le
 refine LoopH.by (fun m s H'=>∃ i o us,m+i=n.toNat/\s 1=.pointer (some ⟨H.length,0,none⟩)/\s 3=.slice (some ⟨o,0,none⟩) i i/\s 7=.int .i64 n/\s 8=.int .i64 ((i:Nat):Int)/\A.length<=o/\InU H.length H'.length 27 3 H' o us ((List.range i).map fun x:Nat=>nbsU es (x:Int) n.toNat)/\A<+:H') n.toNat ?_ ?_
 ·refine ⟨0,A.length,[],by simp,rfl,rfl,rfl,rfl,Nat.le_refl _,?_,List.prefix_append _ _⟩
  simpa using u0
 ·rintro m s H' ⟨i,o,us,hm,h1,h3,h7,h8,hoA,hin,hp⟩
  have hr':=rA.pre hp
  have cH:=pre_at hp cA
  have hbl:((List.range i).map fun x:Nat=>nbsU es (x:Int) n.toNat).length=i:=by simp
  have hst:((List.range (i+1)).map fun x:Nat=>nbsU es (x:Int) n.toNat)=((List.range i).map fun x:Nat=>nbsU es (x:Int) n.toNat) ++ [nbsU es i n.toNat]:=by rw [List.range_succ,List.map_append];rfl
  simp (disch:=omega) only [h1,h3,h7,h8,SS,eq_self,reduceIte,reduceCtorEq,Nat.reduceEqDiff,Nat.reduceAdd]
  refine brD.intro (fun g=>?_) (fun g=>?_)
  ·simp (disch:=omega) only [h1,h3,h7,h8,ld_agg ag26 cs26 cH,SS,eq_self,reduceIte,reduceCtorEq,Nat.reduceEqDiff,Nat.reduceAdd]
   refine CallH.by (neighbors_c n v es i H' hr' hlen hg) ?_
   rintro b D ⟨hb,pD⟩
   have hinw:=InI.of hb.mine
   have pHH:=pA.trans hp
   obtain ⟨H3,k1,k2,k3,k4⟩:=(hin.pre pD).app1 (P:=Tryz.prog) (t2:=32) Tryz.underlying32 cs27 (by rw [by27];decide) zk27 hinw pHH.length_le pD.length_le (Nat.le_refl _) (by omega)
   have hbs:buildSliceA Tryz.prog 32 1 [(0,b)] D=some (.slice (some ⟨D.length,0,none⟩) 1 1,D ++ [.cells [b] 27 false]):=by
    obtain ⟨q,eq⟩:=hb.row.shape
    rw [eq]
    exact bs1 Tryz.underlying32 cs27 ze27 ⟨by kernel_rfl,by kernel_rfl⟩ D rfl
   rw [hbl] at k1 k2
   simp (disch:=omega) only [h1,h3,h7,h8,hbs,k1,wrap64,SS,eq_self,reduceIte,reduceCtorEq,Nat.reduceEqDiff,Nat.reduceAdd]
   have f1:A<+:H3:=prefix_of fun j x hx'=>k4 j x (by have:=at_lt hx';omega) (pre_at (hp.trans pD) hx')
   have f2:InU H.length H3.length 27 3 H3 (D.length+1) (us.take i ++ [b]) ((List.range (i+1)).map fun x:Nat=>nbsU es (x:Int) n.toNat):=by
    rw [k3,hst];exact k2
   have hDl:=(hp.trans pD).length_le
   refine ⟨m - 1,by omega,i+1,D.length+1,us.take i ++ [b],by omega,?_⟩
   (repeat' first | exact f1 | exact f2 | apply And.intro) <;> first | (simp only [Value.int.injEq,true_and];omega) | omega | rfl | assumption | (simp;done) | (simp;omega)
  ·simp (disch:=omega) only [h3,SS,eq_self,reduceIte,reduceCtorEq,Nat.reduceEqDiff,Nat.reduceAdd]
   refine hQ _ _ _ ?_
   simp (disch:=omega) only [h3,SS,eq_self,reduceIte,reduceCtorEq,Nat.reduceEqDiff,Nat.reduceAdd]
   have:i=n.toNat:=by omega
   subst this
   refine ⟨?_,pA.trans hp⟩
   have:=hin.inl
   rwa [hbl] at this
theorem l3Far_c (n:Int)(v:Value)(es:List (Int × Int))(i:Nat)(H:AH)(hr:RowP 115 H v es)(hlen:es.length<=1099511627776)(hn:0<=n/\n<=8)(hi:(i:Int)<n) :
  ACalls Tryz.prog 84 [.agg (List.toArray [.int .i64 n,v]),.int .i64 (i:Int)] H fun r H'=>Own 3 H H' r (bfs (roadsL n.toNat es) i)/\H<+:H':=by
 refine in84 rfl ?_
 intro Q hQ
 simp (disch:=omega) only [cd84,hr.boxG,SS,eq_self,reduceIte,reduceCtorEq,Nat.reduceEqDiff,Nat.reduceAdd]
 generalize hA:H ++ [AObj.cells [.int .i64 n,v] 26 false]=A
 have pA:H<+:A:=by rw [<- hA];exact List.prefix_append _ _
 have cA:A[H.length]?=some (.cells [.int .i64 n,v] 26 false):=by rw [<- hA];exact at_new ..
 have rA:=hr.pre pA
 have mk:=mk_nils (P:=Tryz.prog) (t:=32) Tryz.underlying32 cs27 (by rw [by27];decide) ze27 hn.1 (by omega)
 simp (disch:=omega) only [cell_of cA,mk,SS,eq_self,reduceIte,reduceCtorEq,Nat.reduceEqDiff,Nat.reduceAdd]
 have z0:=at_new A (.cells (List.replicate n.toNat (.slice none 0 0)) 27 false)
 refine LoopH.by (fun m s H'=>∃ j us,m+j=n.toNat/\s 1=.int .i64 (i:Int)/\s 2=.pointer (some ⟨H.length,0,none⟩)/\s 5=.slice (some ⟨A.length,0,none⟩) n.toNat n.toNat/\s 6=.int .i64 ((j:Nat):Int)/\us.length=n.toNat/\H'[A.length]?=some (.cells us 27 false)/\(∀ x,x<j->Row 3 H' (us.getD x undef) (nbsU es x n.toNat)/\(us.getD x undef=.slice none 0 0∨A.length<rowO (us.getD x undef)))/\A<+:H') n.toNat ?_ ?_
 ·exact ⟨0,List.replicate n.toNat (.slice none 0 0),by simp,rfl,rfl,rfl,rfl,by simp,z0,fun x hx=>absurd hx (Nat.not_lt_zero x),List.prefix_append _ _⟩
 ·rintro m s H' ⟨j,us,hm,h1,h2,h5,h6,hul,hc,hrows,hp⟩
  have hr':=rA.pre hp
  have cH:=pre_at hp cA
  simp (disch:=omega) only [h1,h2,h5,h6,cell_of cH,SS,eq_self,reduceIte,reduceCtorEq,Nat.reduceEqDiff,Nat.reduceAdd]
  refine brD.intro (fun g=>?_) (fun g=>?_)
  ·simp (disch:=omega) only [h1,h2,h5,h6,ld_agg ag26 cs26 cH,SS,eq_self,reduceIte,reduceCtorEq,Nat.reduceEqDiff,Nat.reduceAdd]
   refine CallH.by (l2Neighbors_c n v es j H' hr' hlen hn) ?_
   rintro b D ⟨hb,pD⟩
   have hcD:=pre_at pD hc
   have hju:j<us.length:=by omega
   have hsh:=hb.row.shape
   obtain ⟨q,eq⟩:=hsh
   have t1:isTup b=false:=by rw [eq];rfl
   have t2:b.cells.toList=[b]:=by rw [eq];rfl
   have hst:=st_at (P:=Tryz.prog) (t:=27) cs27 hcD hju t1 t2
   simp (disch:=omega) only [h1,h2,h5,h6,Int.toNat_natCast,Nat.zero_add,hst,wrap64,SS,eq_self,reduceIte,reduceCtorEq,Nat.reduceEqDiff,Nat.reduceAdd]
   have hlt:=at_lt hc
   have f0:=at_set (d:=.cells (us.set j b) 27 false) hcD
   have f1:A<+:D.set A.length (.cells (us.set j b) 27 false):=pre_set (hp.trans pD) (Nat.le_refl _) _
   have keep:∀ {w:Value} {l:List Int},Row 3 D w l->(w=.slice none 0 0∨A.length<rowO w)->Row 3 (D.set A.length (.cells (us.set j b) 27 false)) w l:=by
    intro w l hw ha
    rcases ha with ha | ha
    ·rcases hw with hw | ⟨o,k,vs,ro,e1,_⟩
     ·exact .inl hw
     ·rw [e1] at ha;cases ha
    ·exact hw.mono fun y hy=>by rw [List.getElem?_set_ne (by omega)];exact hy
   have hbo:b=.slice none 0 0∨A.length<rowO b:=by
    rcases hb with ⟨q,_⟩ | ⟨o,q,ho,_⟩
    ·exact .inl q
    ·refine .inr ?_
     rw [q]
     show A.length<o
     omega
   have f2:∀ x,x<j+1->Row 3 (D.set A.length (.cells (us.set j b) 27 false)) ((us.set j b).getD x undef) (nbsU es x n.toNat)/\((us.set j b).getD x undef=.slice none 0 0∨A.length<rowO ((us.set j b).getD x undef)):=by
    intro x hx
    have hsx:(us.set j b).getD x undef=if j=x then b else us.getD x undef:=by
     rw [List.getD_eq_getElem?_getD,List.getD_eq_getElem?_getD,List.getElem?_set]
     by_cases h:j=x
     ·subst h;rw [if_pos rfl,if_pos rfl,if_pos hju];rfl
     ·rw [if_neg h,if_neg h]
    rw [hsx]
    split
    ·rename_i e
     subst e
     exact ⟨keep hb.row hbo,hbo⟩
    ·rename_i e
     obtain ⟨q1,q2⟩:=hrows x (by omega)
     exact ⟨keep (q1.pre pD) q2,q2⟩
   have f3:(us.set j b).length=n.toNat:=by simp [hul]
   refine ⟨m - 1,by omega,j+1,us.set j b,?_⟩
   (repeat' first | exact f0 | exact f1 | exact f2 | exact f3 | apply And.intro) <;> first | (simp only [Value.int.injEq,true_and];omega) | omega | rfl | assumption | (simp;done) | (simp;omega)
  ·have hj:j=n.toNat:=by omega
   have hrow:RowLB H'.length 27 3 H' (.slice (some ⟨A.length,0,none⟩) n.toNat n.toNat) (roadsL n.toNat es):=by
    refine ⟨us,.inr ⟨A.length,0,us,false,by rw [hul],hc,by omega,by rw [List.drop_zero,List.take_of_length_le (Nat.le_refl _)]⟩,.inr (at_lt hc),by rw [roadsL_len,hul],fun x hx=>?_⟩
    rw [roadsL_len] at hx
    obtain ⟨q1,q2⟩:=hrows x (by omega)
    rw [roadsL_at _ _ _ hx]
    refine ⟨q1,?_⟩
    rcases q1.nil with q | q
    ·exact .inl q.1
    ·exact .inr q
   simp (disch:=omega) only [h1,h2,h5,h6,SS,eq_self,reduceIte,reduceCtorEq,Nat.reduceEqDiff,Nat.reduceAdd]
   refine CallH.by (l2Spread_c _ (roadsL n.toNat es) i H' hrow (roadsL_ok _ _) (by rw [roadsL_len];omega) (by rw [roadsL_len];omega) (roadsL_small _ _ (by omega))) ?_
   rintro u E ⟨hu,pE⟩
   have hpp:=pA.trans hp
   simp (disch:=omega) only [SS,eq_self,reduceIte,reduceCtorEq,Nat.reduceEqDiff,Nat.reduceAdd]
   refine hQ _ _ _ ?_
   simp (disch:=omega) only [hu.row.tup,SS,eq_self,reduceIte,reduceCtorEq,Nat.reduceEqDiff,Nat.reduceAdd]
   exact ⟨hu.base hpp,hpp.trans pE⟩
def prtG (es:List (Int × Int))(T:List Int):List (Int × Int):=T.map fun e=>es.getD e.toNat (0,0)
def EdIn (es:List (Int × Int))(T:List Int):Prop:=∀ e ∈ T,0<=e/\e<es.length
theorem EdIn.sub {es:List (Int × Int)}{T U:List Int}(h:EdIn es T)(hs:∀ x ∈ U,x ∈ T):EdIn es U:=fun e he=>h e (hs e he)
theorem en_eq {n:Int}{es:List (Int × Int)}(hg:Grd n es){e:Int}(h:0<=e/\e<es.length):es.getD e.toNat (0,0)=((enA es e:Int),(enB es e:Int))/\enA es e<enB es e/\(enB es e:Int)<n:=by
 have hl:e.toNat<es.length:=by omega
 have hm:es.getD e.toNat (0,0) ∈ es:=by simp [hl]
 have:=grd_mem hg hm
 unfold enA enB
 refine ⟨Prod.ext ?_ ?_,?_,?_⟩
 ·show _=(((es.getD e.toNat (0,0)).1.toNat:Nat):Int);omega
 ·show _=(((es.getD e.toNat (0,0)).2.toNat:Nat):Int);omega
 ·omega
 ·omega
theorem EdIn.ends {n:Nat}{es:List (Int × Int)}(hg:Grd (n:Int) es){T:List Int}(h:EdIn es T):EndsIn es T n:=fun e he=>by
 have:=en_eq hg (h e he)
 omega
theorem prt_near {n:Int}{es:List (Int × Int)}(hg:Grd n es){T:List Int}(hT:EdIn es T)(a b:Int):nearB (prtG es T) a b=true↔∃ e ∈ T,(a=enA es e/\b=enB es e)∨(b=enA es e/\a=enB es e):=by
 rw [nearB_iff]
 unfold prtG
 rw [List.mem_map,List.mem_map]
 constructor
 ·rintro (⟨e,he,q⟩ | ⟨e,he,q⟩)
  ·rw [(en_eq hg (hT e he)).1,Prod.mk.injEq] at q
   exact ⟨e,he,.inl ⟨q.1.symm,q.2.symm⟩⟩
  ·rw [(en_eq hg (hT e he)).1,Prod.mk.injEq] at q
   exact ⟨e,he,.inr ⟨q.1.symm,q.2.symm⟩⟩
 ·rintro ⟨e,he,⟨q1,q2⟩ | ⟨q1,q2⟩⟩
  ·exact .inl ⟨e,he,by rw [(en_eq hg (hT e he)).1,q1,q2]⟩
  ·exact .inr ⟨e,he,by rw [(en_eq hg (hT e he)).1,q1,q2]⟩
theorem Rch.trans {adj:Int->Int->Prop}{S:Int->Prop}{x y z:Int}(h:Rch adj S x y)(k:Rch adj S y z):Rch adj S x z:=by
 induction k with
 | refl=>exact h
 | step _ h1 h2 ih=>exact .step ih h1 h2
theorem Rch.back {adj:Int->Int->Prop}{S:Int->Prop}(hs:∀ a b,adj a b->adj b a){x z:Int}(h:Rch adj S x z)(hx:S x):Rch adj S z x:=by
 induction h with
 | refl=>exact .refl
 | step h0 h1 h2 ih=>exact (Rch.step .refl (hs _ _ h1) (h0.in_ hx)).trans ih
theorem jn_rch {n:Nat}{es:List (Int × Int)}(hg:Grd (n:Int) es){T:List Int}(hT:EdIn es T){x:Nat}(hx:x<n)(z':Int) :
  Rch (fun a b=>nearB (prtG es T) a b=true) (· ∈ alls n) (x:Int) z'↔∃ z:Nat,z'=z/\z<n/\Jn es T x z:=by
 have ends:=hT.ends hg
 constructor
 ·intro h
  induction h with
  | refl=>exact ⟨x,rfl,hx,.refl x⟩
  | step _ h1 h2 ih =>
   obtain ⟨z,rfl,hz,hj⟩:=ih
   obtain ⟨e,he,q⟩:=(prt_near hg hT _ _).1 h1
   have hm:=ends e he
   rcases q with ⟨q1,q2⟩ | ⟨q1,q2⟩
   ·have:z=enA es e:=by omega
    subst this
    exact ⟨enB es e,q2,hm.2,hj.trans (.edge e he)⟩
   ·have:z=enB es e:=by omega
    subst this
    exact ⟨enA es e,q1,hm.1,hj.trans (.symm (.edge e he))⟩
 ·rintro ⟨z,rfl,hz,hj⟩
  have key:∀ {u v:Nat},Jn es T u v->u<n->Rch (fun a b=>nearB (prtG es T) a b=true) (· ∈ alls n) (u:Int) (v:Int):=by
   intro u v h
   induction h with
   | refl y=>intro _;exact .refl
   | edge e he=>intro _;exact .step .refl ((prt_near hg hT _ _).2 ⟨e,he,.inl ⟨rfl,rfl⟩⟩) ((alls_mem _ _).2 (by have:=ends e he;omega))
   | symm h ih=>intro hu;exact (ih ((Jn.in_ ends h).2 hu)).back (fun a b hab=>by rw [nearB_comm];exact hab) ((alls_mem _ _).2 (by have:=(Jn.in_ ends h).2 hu;omega))
   | trans h1 h2 i1 i2=>intro hu;exact (i1 hu).trans (i2 ((Jn.in_ ends h1).1 hu))
  exact key hj hx
def jnB (es:List (Int × Int))(n:Nat)(T:List Int)(a b:Nat):Bool:=decide (0<=(bfs (roadsL n (prtG es T)) a).getD b 0)
theorem jnB_iff {n:Nat}{es:List (Int × Int)}(hg:Grd (n:Int) es){T:List Int}(hT:EdIn es T){i j:Nat}(hi:i<n)(hj:j<n):jnB es n T i j=true↔Jn es T i j:=by
 have hL:=roadsL_ok n (prtG es T)
 have hl:=roadsL_len n (prtG es T)
 have hi':i<(roadsL n (prtG es T)).length:=by omega
 unfold jnB
 rw [decide_eq_true_eq]
 have hadj:∀ u,u<n->∀ y,y ∈ (roadsL n (prtG es T)).getD u []↔((0<=y/\y<n)/\nearB (prtG es T) u y=true):=fun u hu y=>by rw [roadsL_at _ _ _ hu,nbsU_mem]
 constructor
 ·obtain ⟨q,h⟩:=bfs_DS hL hi'
  have key:∀ (d v:Nat),v<n->(bfs (roadsL n (prtG es T)) i).getD v 0=d->Jn es T i v:=by
   intro d
   induction d with
   | zero =>
    intro v hv hd
    rcases h.di.src v (by omega) (show 0<=(bfs (roadsL n (prtG es T)) i).getD v 0 by omega) with ⟨e,_⟩ | ⟨u,u1,u2,u3,u4⟩
    ·subst e;exact .refl _
    ·have u2':0<=(bfs (roadsL n (prtG es T)) i).getD u 0:=u2
     have u4':(bfs (roadsL n (prtG es T)) i).getD v 0=(bfs (roadsL n (prtG es T)) i).getD u 0+1:=u4
     omega
   | succ d ih =>
    intro v hv hd
    rcases h.di.src v (by omega) (show 0<=(bfs (roadsL n (prtG es T)) i).getD v 0 by omega) with ⟨_,e⟩ | ⟨u,u1,u2,u3,u4⟩
    ·have e':(bfs (roadsL n (prtG es T)) i).getD v 0=0:=e
     omega
    ·have u4':(bfs (roadsL n (prtG es T)) i).getD v 0=(bfs (roadsL n (prtG es T)) i).getD u 0+1:=u4
     have hu:u<n:=by omega
     have hj:=ih u hu (by omega)
     obtain ⟨e,he,c⟩:=(prt_near hg hT _ _).1 ((hadj u hu _).1 u3).2
     rcases c with ⟨c1,c2⟩ | ⟨c1,c2⟩
     ·have e1:u=enA es e:=by omega
      have e2:v=enB es e:=by omega
      rw [e2];exact (e1 ▸ hj).trans (.edge e he)
     ·have e1:u=enB es e:=by omega
      have e2:v=enA es e:=by omega
      rw [e2];exact (e1 ▸ hj).trans (.symm (.edge e he))
  intro h0
  exact key _ j hj (Int.toNat_of_nonneg h0).symm
 ·intro hjn
  have hr:=(jn_rch hg hT hi (j:Int)).2 ⟨j,rfl,hj,hjn⟩
  have key:∀ z:Int,Rch (fun a b=>nearB (prtG es T) a b=true) (· ∈ alls n) (i:Int) z->(0<=z/\z<n)/\0<=(bfs (roadsL n (prtG es T)) i).getD z.toNat 0:=by
   intro z h
   induction h with
   | refl=>refine ⟨by omega,?_⟩;rw [Int.toNat_natCast,bfs_zero hL hi'];omega
   | step _ h1 h2 ih =>
    have hz:=(alls_mem _ _).1 h2
    refine ⟨hz,bfs_clo hL hi' (by omega) ih.2 ((hadj _ (by omega) _).2 ⟨hz,?_⟩)⟩
    rw [Int.toNat_of_nonneg ih.1.1];exact h1
  have:=(key _ hr).2
  rwa [Int.toNat_natCast] at this
def TreL (n:Nat)(es:List (Int × Int))(T:List Int):Prop:=T.length+1=n/\T.Pairwise (· < ·)/\EdIn es T/\Conn es T n
abbrev ed1 (es:List (Int × Int))(e:Int):Int:=(es.getD e.toNat (0,0)).1
abbrev ed2 (es:List (Int × Int))(e:Int):Int:=(es.getD e.toNat (0,0)).2
def seenL (es:List (Int × Int))(xs:List Int):List Int:=xs.flatMap fun e=>[ed1 es e,ed2 es e]
theorem seenL_snoc (es:List (Int × Int))(xs:List Int)(e:Int):seenL es (xs ++ [e])=seenL es xs ++ [ed1 es e,ed2 es e]:=by simp [seenL]
theorem seenL_len (es:List (Int × Int))(xs:List Int):(seenL es xs).length=2 * xs.length:=by
 induction xs with
 | nil=>rfl
 | cons a xs ih=>simp only [seenL,List.flatMap_cons,List.length_append] at ih ⊢;simp only [List.length_cons,List.length_nil,ih];omega
def rsOk (n:Int)(xs:List Int)(i:Nat):Prop:=(0<=xs.getD i 0/\xs.getD i 0<=n - 1)/\(0<i->xs.getD (i - 1) 0<xs.getD i 0)
instance (n:Int) (xs:List Int) (i:Nat):Decidable (rsOk n xs i):=by unfold rsOk;infer_instance
def frOk (es:List (Int × Int))(xs:List Int)(i:Nat):Prop:=ed1 es (xs.getD i 0) ∉ seenL es (xs.take i)/\ed2 es (xs.getD i 0) ∉ seenL es (xs.take i)
instance (es:List (Int × Int)) (xs:List Int) (i:Nat):Decidable (frOk es xs i):=by unfold frOk;infer_instance
def MtU (es:List (Int × Int))(xs:List Int)(k:Nat):Prop:=∀ i,i<k->rsOk es.length xs i/\frOk es xs i
instance (es:List (Int × Int)) (xs:List Int) (k:Nat):Decidable (MtU es xs k):=by unfold MtU;infer_instance
theorem MtU.zero (es:List (Int × Int))(xs:List Int):MtU es xs 0:=fun i h=>absurd h (Nat.not_lt_zero i)
theorem MtU.succ {es:List (Int × Int)}{xs:List Int}{k:Nat}(h:MtU es xs k)(h1:rsOk es.length xs k)(h2:frOk es xs k):MtU es xs (k+1):=by
 intro i hi
 rcases Nat.lt_succ_iff_lt_or_eq.1 hi with g | g
 ·exact h i g
 ·rw [g];exact ⟨h1,h2⟩
theorem MtU.no {es:List (Int × Int)}{xs:List Int}{k i:Nat}(hi:i<k)(h:¬ (rsOk es.length xs i/\frOk es xs i)):¬ MtU es xs k:=fun g=>h (g i hi)
def frE (es:List (Int × Int))(ed:List Int)(e:Int):Prop:=ed1 es e ∉ seenL es ed/\ed2 es e ∉ seenL es ed
instance (es:List (Int × Int)) (ed:List Int) (e:Int):Decidable (frE es ed e):=by unfold frE;infer_instance
def mall (es:List (Int × Int)):Nat->List Int->List (List Int)
 | 0,_=>[]
 | k+1,ed=>(if frE es ed ((es.length - (k+1):Nat):Int) then (ed ++ [((es.length - (k+1):Nat):Int)]) :: mall es k (ed ++ [((es.length - (k+1):Nat):Int)]) else []) ++ mall es k ed
theorem nodupM_le:∀ (n:Nat) (l:List Int),l.Nodup->(∀ x ∈ l,0<=x/\x<n)->l.length<=n
 | 0,l,_,h=>by
  cases l with
  | nil=>simp
  | cons x l=>have:=h x (by simp);omega
 | n+1,l,hd,h=>by
  have h1:=nodupM_le n (l.erase (n:Int)) (hd.erase _) (fun x hx=>by
   have:=(hd.mem_erase_iff).1 hx
   have h2:=h x this.2
   have:x ≠ (n:Int):=this.1
   omega)
  have:l.length<=(l.erase (n:Int)).length+1:=by
   rw [List.length_erase]
   split <;> omega
  omega
def Mgo (n:Int)(es:List (Int × Int))(ed:List Int):Prop:=(seenL es ed).Nodup/\∀ z ∈ seenL es ed,0<=z/\z<n
theorem Mgo.nil (n:Int)(es:List (Int × Int)):Mgo n es []:=⟨by simp [seenL],fun z hz=>by simp [seenL] at hz⟩
theorem Mgo.snoc {n:Int}{es:List (Int × Int)}{ed:List Int}{e:Int}(hg:Grd n es)(h:Mgo n es ed)(he:e.toNat<es.length)(hf:frE es ed e):Mgo n es (ed ++ [e]):=by
 obtain ⟨a1,a2,a3,_⟩:=hg.2 e.toNat he
 have b1:ed1 es e<ed2 es e:=a2
 have b2:0<=ed1 es e:=a1
 have b3:ed2 es e<n:=a3
 refine ⟨?_,?_⟩
 ·rw [seenL_snoc,List.nodup_append]
  refine ⟨h.1,?_,?_⟩
  ·simp;omega
  ·intro x hx y hy hxy
   subst hxy
   simp only [List.mem_cons,List.not_mem_nil,or_false] at hy
   rcases hy with rfl | rfl
   ·exact hf.1 hx
   ·exact hf.2 hx
 ·intro z hz
  rw [seenL_snoc,List.mem_append] at hz
  rcases hz with hz | hz
  ·exact h.2 z hz
  ·simp only [List.mem_cons,List.not_mem_nil,or_false] at hz
   omega
theorem Mgo.all {n:Int}{es:List (Int × Int)}(hg:Grd n es):∀ (k:Nat) (ed:List Int),k<=es.length->Mgo n es ed->∀ x ∈ mall es k ed,Mgo n es x
 | 0,ed,_,h,x,hx=>by simp [mall] at hx
 | k+1,ed,hk,h,x,hx=>by
  simp only [mall,List.mem_append] at hx
  rcases hx with hx | hx
  ·split at hx
   ·rename_i hf
    have h2:=h.snoc hg (by rw [Int.toNat_natCast];omega) hf
    simp only [List.mem_cons] at hx
    rcases hx with rfl | hx
    ·exact h2
    ·exact Mgo.all hg k _ (by omega) h2 x hx
   ·simp at hx
  ·exact Mgo.all hg k ed (by omega) h x hx
theorem Mgo.len {n:Int}{es:List (Int × Int)}{ed:List Int}(hn:0<=n)(h:Mgo n es ed):2 * ed.length<=n.toNat:=by
 have:=nodupM_le n.toNat (seenL es ed) h.1 (fun z hz=>by have:=h.2 z hz;omega)
 rw [seenL_len] at this
 exact this
def cd126:Cd:=(.seq (.reg [⟨⟨some 4,.assign (.const (.int .i64 0)),none⟩,[]⟩]) (.seq (.seq (.reg [⟨⟨some 9,.move (.tmp 0),none⟩,[]⟩,⟨⟨some 10,.call ⟨(.builtin .len),#[.tmp 9],#[27]⟩,none⟩,[]⟩,⟨⟨some 11,.move (.const (.int .i64 0)),none⟩,[]⟩]) (.block 0 (.loop (.seq (.reg [⟨⟨some 12,.binOp .lss 3 (.tmp 11) (.tmp 10) 3,none⟩,[]⟩]) (.seq (.cond (.tmp 12) .skip (.exit 0)) (.seq (.block 1 (.seq (.reg [⟨⟨some 13,.move (.tmp 11),none⟩,[]⟩,⟨⟨some 14,.indexAddr 27 (.tmp 9) (.tmp 11),none⟩,[]⟩,⟨⟨some 15,.load 3 (.tmp 14),none⟩,[]⟩,⟨⟨some 5,.assign (.tmp 13),none⟩,[]⟩,⟨⟨some 6,.assign (.tmp 15),none⟩,[]⟩]) (.seq (.seq (.reg [⟨⟨some 16,.move (.tmp 5),none⟩,[]⟩,⟨⟨some 17,.move (.tmp 1),none⟩,[]⟩,⟨⟨some 18,.call ⟨(.builtin .len),#[.tmp 17],#[27]⟩,none⟩,[]⟩,⟨⟨some 19,.binOp .geq 3 (.tmp 16) (.tmp 18) 3,none⟩,[]⟩]) (.cond (.tmp 19) (.seq (.reg [⟨⟨some 4,.assign (.const (.int .i64 1)),none⟩,[]⟩]) .ret) .skip)) (.seq (.reg [⟨⟨some 20,.move (.tmp 1),none⟩,[]⟩,⟨⟨some 21,.move (.tmp 5),none⟩,[]⟩,⟨⟨some 22,.indexAddr 27 (.tmp 20) (.tmp 21),none⟩,[]⟩,
 ⟨⟨some 23,.load 3 (.tmp 22),none⟩,[]⟩,
  ⟨⟨some 7,.assign (.tmp 23),none⟩,[]⟩]) (.seq (.reg [⟨⟨some 24,.move (.tmp 6),none⟩,[]⟩,
  ⟨⟨some 25,.move (.tmp 7),none⟩,[]⟩,
  ⟨⟨some 26,.call ⟨(.value (.func 167)),#[.tmp 24,.tmp 25],#[3,3]⟩,none⟩,[]⟩,
  ⟨⟨some 8,.assign (.tmp 26),none⟩,[]⟩]) (.seq (.reg [⟨⟨some 27,.move (.tmp 8),none⟩,[]⟩,
  ⟨⟨some 28,.binOp .neq 3 (.tmp 27) (.const (.int .i64 0)) 3,none⟩,[]⟩]) (.cond (.tmp 28) (.seq (.reg [⟨⟨some 29,.move (.tmp 8),none⟩,[]⟩,
  ⟨⟨some 4,.assign (.tmp 29),none⟩,[]⟩]) .ret) .skip))))))) (.reg [⟨⟨some 30,.binOp .add 3 (.tmp 11) (.const (.int .i64 1)) 3,none⟩,[]⟩,
  ⟨⟨some 11,.move (.tmp 30),none⟩,[]⟩]))))))) (.seq (.seq (.reg [⟨⟨some 31,.move (.tmp 0),none⟩,[]⟩,
  ⟨⟨some 32,.call ⟨(.builtin .len),#[.tmp 31],#[27]⟩,none⟩,[]⟩,
  ⟨⟨some 33,.move (.tmp 1),none⟩,[]⟩,
  ⟨⟨some 34,.call ⟨(.builtin .len),#[.tmp 33],#[27]⟩,none⟩,[]⟩,
  ⟨⟨some 35,.binOp .lss 3 (.tmp 32) (.tmp 34) 3,none⟩,[]⟩]) (.cond (.tmp 35) (.seq (.reg [⟨⟨some 4,.assign (.const (.int .i64 (-1))),none⟩,[]⟩]) .ret) .skip)) (.seq (.reg [⟨⟨some 4,.assign (.const (.int .i64 0)),none⟩,[]⟩]) .ret))))
theorem in126:InT Tryz.prog 126 2 [.tmp 4] cd126:=InT.mk (by kernel_rfl) [] Tryz.func126 rfl (by kernel_rfl) (by kernel_rfl) (of_decide_eq_true (by kernel_rfl)) (by kernel_rfl)
def cd223:Cd:=(.seq (.reg [⟨⟨some 10,.assign (.const (.int .i64 0)),none⟩,[]⟩,⟨⟨some 11,.assign (.const (.int .i64 0)),none⟩,[]⟩]) (.seq (.seq (.reg [⟨⟨some 12,.move (.tmp 4),none⟩,[]⟩,⟨⟨some 13,.move (.tmp 0),none⟩,[]⟩,⟨⟨some 14,.move (.tmp 2),none⟩,[]⟩,⟨⟨some 15,.indexAddr 32 (.tmp 13) (.tmp 14),none⟩,[]⟩,⟨⟨some 16,.load 27 (.tmp 15),none⟩,[]⟩,⟨⟨some 17,.move (.tmp 0),none⟩,[]⟩,⟨⟨some 18,.move (.tmp 1),none⟩,[]⟩,⟨⟨some 19,.indexAddr 32 (.tmp 17) (.tmp 18),none⟩,[]⟩,⟨⟨some 20,.load 27 (.tmp 19),none⟩,[]⟩,⟨⟨some 21,.call ⟨(.value (.tmp 12)),#[.tmp 16,.tmp 20],#[27,27]⟩,none⟩,[]⟩,⟨⟨some 22,.binOp .lss 3 (.tmp 21) (.const (.int .i64 0)) 3,none⟩,[]⟩]) (.cond (.tmp 22) (.seq (.reg [⟨⟨some 23,.move (.tmp 3),none⟩,[]⟩,
 ⟨⟨some 24,.nilCheck (.tmp 23),none⟩,[]⟩,
  ⟨⟨some 25,.load 3 (.tmp 24),none⟩,[]⟩,
  ⟨⟨some 26,.binOp .add 3 (.tmp 25) (.const (.int .i64 1)) 3,none⟩,[]⟩,
  ⟨⟨some 27,.nilCheck (.tmp 23),none⟩,[]⟩,
  ⟨⟨none,.store 3 (.tmp 27) (.tmp 26),none⟩,[]⟩]) (.seq (.reg [⟨⟨some 28,.move (.tmp 2),none⟩,[]⟩,
  ⟨⟨some 29,.move (.tmp 1),none⟩,[]⟩,
  ⟨⟨some 10,.assign (.tmp 28),none⟩,[]⟩,
  ⟨⟨some 11,.assign (.tmp 29),none⟩,[]⟩]) .ret)) .skip)) (.seq (.reg [⟨⟨some 30,.move (.tmp 1),none⟩,[]⟩,
  ⟨⟨some 31,.move (.tmp 2),none⟩,[]⟩,
  ⟨⟨some 10,.assign (.tmp 30),none⟩,[]⟩,
  ⟨⟨some 11,.assign (.tmp 31),none⟩,[]⟩]) .ret)))
theorem in223:InT Tryz.prog 223 5 [.tmp 10,.tmp 11] cd223:=InT.mk (by kernel_rfl) [(1,[(0,false),(1,false),(2,false),(3,false),(4,false),(5,false),(6,false),(7,false),(8,false),(9,true),(10,false)])] Tryz.func223 rfl (by kernel_rfl) (by kernel_rfl) (of_decide_eq_true (by kernel_rfl)) (by kernel_rfl)
def cd219:Cd:=(.seq (.reg [⟨⟨some 12,.assign (.const (.int .i64 0)),none⟩,[]⟩]) (.seq (.reg [⟨⟨some 14,.move (.tmp 0),none⟩,[]⟩,⟨⟨some 15,.move (.tmp 1),none⟩,[]⟩,⟨⟨some 16,.move (.tmp 2),none⟩,[]⟩,⟨⟨some 17,.move (.tmp 4),none⟩,[]⟩,⟨⟨some 18,.move (.tmp 5),none⟩,[]⟩,⟨⟨some 19,.call ⟨(.value (.func 223)),#[.tmp 14,.tmp 15,.tmp 16,.tmp 17,.tmp 18],#[32,3,3,187,41]⟩,none⟩,[]⟩,⟨⟨some 13,.move (.tmp 19),none⟩,[]⟩,⟨⟨some 20,.extract (.tmp 13) 0,none⟩,[]⟩,⟨⟨some 21,.extract (.tmp 13) 1,none⟩,[]⟩,⟨⟨some 1,.assign (.tmp 20),none⟩,[]⟩,⟨⟨some 2,.assign (.tmp 21),none⟩,[]⟩]) (.seq (.reg [⟨⟨some 23,.move (.tmp 0),none⟩,[]⟩,⟨⟨some 24,.move (.tmp 2),none⟩,[]⟩,
 ⟨⟨some 25,.move (.tmp 3),none⟩,[]⟩,⟨⟨some 26,.move (.tmp 4),none⟩,[]⟩,⟨⟨some 27,.move (.tmp 5),none⟩,[]⟩,⟨⟨some 28,.call ⟨(.value (.func 223)),#[.tmp 23,.tmp 24,.tmp 25,.tmp 26,.tmp 27],#[32,3,3,187,41]⟩,none⟩,[]⟩,⟨⟨some 22,.move (.tmp 28),none⟩,[]⟩,⟨⟨some 29,.extract (.tmp 22) 0,none⟩,[]⟩,⟨⟨some 30,.extract (.tmp 22) 1,none⟩,[]⟩,⟨⟨some 2,.assign (.tmp 29),none⟩,[]⟩,⟨⟨some 3,.assign (.tmp 30),none⟩,[]⟩]) (.seq (.reg [⟨⟨some 32,.move (.tmp 0),none⟩,[]⟩,⟨⟨some 33,.move (.tmp 1),none⟩,[]⟩,⟨⟨some 34,.move (.tmp 2),none⟩,[]⟩,⟨⟨some 35,.move (.tmp 4),none⟩,[]⟩,
 ⟨⟨some 36,.move (.tmp 5),none⟩,[]⟩,
  ⟨⟨some 37,.call ⟨(.value (.func 223)),#[.tmp 32,.tmp 33,.tmp 34,.tmp 35,.tmp 36],#[32,3,3,187,41]⟩,none⟩,[]⟩,
  ⟨⟨some 31,.move (.tmp 37),none⟩,[]⟩,
  ⟨⟨some 38,.extract (.tmp 31) 0,none⟩,[]⟩,
  ⟨⟨some 39,.extract (.tmp 31) 1,none⟩,[]⟩,
  ⟨⟨some 1,.assign (.tmp 38),none⟩,[]⟩,
  ⟨⟨some 2,.assign (.tmp 39),none⟩,[]⟩]) (.seq (.reg [⟨⟨some 40,.move (.tmp 2),none⟩,[]⟩,
  ⟨⟨some 12,.assign (.tmp 40),none⟩,[]⟩]) .ret)))))
theorem in219:InT Tryz.prog 219 6 [.tmp 12] cd219:=InT.mk (by kernel_rfl) [] Tryz.func219 rfl (by kernel_rfl) (by kernel_rfl) (of_decide_eq_true (by kernel_rfl)) (by kernel_rfl)
def cd218:Cd:=(.seq (.reg [⟨⟨some 8,.assign (.const (.int .i64 0)),none⟩,[]⟩]) (.seq (.reg [⟨⟨some 9,.move (.tmp 0),none⟩,[]⟩,
 ⟨⟨some 10,.move (.tmp 1),none⟩,[]⟩,
 ⟨⟨some 11,.binOp .sub 3 (.tmp 10) (.const (.int .i64 1)) 3,none⟩,[]⟩,
 ⟨⟨some 12,.move (.tmp 1),none⟩,[]⟩,
 ⟨⟨some 13,.move (.tmp 1),none⟩,[]⟩,
 ⟨⟨some 14,.binOp .add 3 (.tmp 13) (.const (.int .i64 1)) 3,none⟩,[]⟩,
 ⟨⟨some 15,.move (.tmp 2),none⟩,[]⟩,
 ⟨⟨some 16,.move (.tmp 3),none⟩,[]⟩,
 ⟨⟨some 17,.call ⟨(.value (.func 219)),#[.tmp 9,.tmp 11,.tmp 12,.tmp 14,.tmp 15,.tmp 16],#[32,3,3,3,187,41]⟩,none⟩,[]⟩,
 ⟨⟨some 8,.assign (.tmp 17),none⟩,[]⟩]) .ret))
theorem in218:InT Tryz.prog 218 4 [.tmp 8] cd218:=InT.mk (by kernel_rfl) [] Tryz.func218 rfl (by kernel_rfl) (by kernel_rfl) (of_decide_eq_true (by kernel_rfl)) (by kernel_rfl)
def cd192:Cd:=(.seq (.reg [⟨⟨some 8,.assign (.const (.bool false)),none⟩,[]⟩]) (.seq (.reg [⟨⟨some 13,.move (.tmp 1),none⟩,[]⟩,⟨⟨some 14,.binOp .add 3 (.tmp 13) (.const (.int .i64 1)) 3,none⟩,[]⟩,⟨⟨some 9,.assign (.tmp 14),none⟩,[]⟩]) (.seq (.seq (.reg [⟨⟨some 10,.assign (.const (.int .i64 0)),none⟩,[]⟩]) (.block 0 (.loop (.seq (.seq (.reg [⟨⟨some 15,.move (.tmp 10),none⟩,[]⟩,⟨⟨some 16,.binOp .lss 3 (.tmp 15) (.const (.int .i64 5)) 3,none⟩,[]⟩]) (.cond (.tmp 16) .skip (.exit 0))) (.seq (.block 1 (.seq (.block 2 (.loop (.seq (.seq (.reg [⟨⟨some 19,.move (.tmp 9),none⟩,[]⟩,⟨⟨some 20,.move (.tmp 2),none⟩,[]⟩,⟨⟨some 21,.binOp .lss 3 (.tmp 19) (.tmp 20) 3,none⟩,[]⟩,⟨⟨some 22,.move (.tmp 21),none⟩,[]⟩,⟨⟨some 23,.move (.tmp 3),some (22,true)⟩,[]⟩,⟨⟨some 24,.move (.tmp 0),some (22,true)⟩,[]⟩,⟨⟨some 25,.move (.tmp 9),some (22,true)⟩,[]⟩,⟨⟨some 26,.indexAddr 32 (.tmp 24) (.tmp 25),some (22,true)⟩,[]⟩,⟨⟨some 27,.load 27 (.tmp 26),some (22,true)⟩,[]⟩,
 ⟨⟨some 28,.move (.tmp 0),some (22,true)⟩,[]⟩,⟨⟨some 29,.move (.tmp 9),some (22,true)⟩,[]⟩,⟨⟨some 30,.binOp .sub 3 (.tmp 29) (.const (.int .i64 1)) 3,some (22,true)⟩,[]⟩,⟨⟨some 31,.indexAddr 32 (.tmp 28) (.tmp 30),some (22,true)⟩,[]⟩,⟨⟨some 32,.load 27 (.tmp 31),some (22,true)⟩,[]⟩,⟨⟨some 33,.call ⟨(.value (.tmp 23)),#[.tmp 27,.tmp 32],#[27,27]⟩,some (22,true)⟩,[]⟩,⟨⟨some 34,.binOp .lss 3 (.tmp 33) (.const (.int .i64 0)) 3,some (22,true)⟩,[]⟩,⟨⟨some 35,.unOp .not 4 (.tmp 34),some (22,true)⟩,[]⟩,⟨⟨some 36,.pick (.tmp 22) (.tmp 35) (.const (.bool false)),none⟩,[]⟩]) (.cond (.tmp 36) .skip (.exit 2))) (.block 3 (.reg [⟨⟨some 37,.move (.tmp 9),none⟩,[]⟩,⟨⟨some 38,.binOp .add 3 (.tmp 37) (.const (.int .i64 1)) 3,none⟩,[]⟩,⟨⟨some 9,.assign (.tmp 38),none⟩,[]⟩]))))) (.seq (.seq (.reg [⟨⟨some 39,.move (.tmp 9),none⟩,[]⟩,⟨⟨some 40,.move (.tmp 2),none⟩,[]⟩,
 ⟨⟨some 41,.binOp .eql 3 (.tmp 39) (.tmp 40) 3,none⟩,[]⟩]) (.cond (.tmp 41) (.seq (.reg [⟨⟨some 8,.assign (.const (.bool true)),none⟩,[]⟩]) .ret) .skip)) (.seq (.seq (.reg [⟨⟨some 42,.move (.tmp 2),none⟩,[]⟩,⟨⟨some 43,.move (.tmp 1),none⟩,[]⟩,⟨⟨some 44,.binOp .sub 3 (.tmp 42) (.tmp 43) 3,none⟩,[]⟩,⟨⟨some 45,.binOp .lss 3 (.tmp 44) (.const (.int .i64 50)) 3,none⟩,[]⟩]) (.cond (.tmp 45) (.seq (.reg [⟨⟨some 8,.assign (.const (.bool false)),none⟩,[]⟩]) .ret) .skip)) (.seq (.reg [⟨⟨some 46,.move (.tmp 0),none⟩,[]⟩,⟨⟨some 47,.move (.tmp 9),none⟩,[]⟩,⟨⟨some 48,.move (.tmp 0),none⟩,[]⟩,⟨⟨some 49,.move (.tmp 9),none⟩,[]⟩,⟨⟨some 50,.binOp .sub 3 (.tmp 49) (.const (.int .i64 1)) 3,none⟩,[]⟩,⟨⟨some 51,.move (.tmp 0),none⟩,[]⟩,⟨⟨some 52,.move (.tmp 9),none⟩,[]⟩,⟨⟨some 53,.binOp .sub 3 (.tmp 52) (.const (.int .i64 1)) 3,none⟩,[]⟩,⟨⟨some 54,.indexAddr 32 (.tmp 51) (.tmp 53),none⟩,[]⟩,
 ⟨⟨some 55,.load 27 (.tmp 54),none⟩,[]⟩,⟨⟨some 56,.move (.tmp 0),none⟩,[]⟩,⟨⟨some 57,.move (.tmp 9),none⟩,[]⟩,⟨⟨some 58,.indexAddr 32 (.tmp 56) (.tmp 57),none⟩,[]⟩,⟨⟨some 59,.load 27 (.tmp 58),none⟩,[]⟩,⟨⟨some 60,.indexAddr 32 (.tmp 46) (.tmp 47),none⟩,[]⟩,⟨⟨none,.store 27 (.tmp 60) (.tmp 55),none⟩,[]⟩,⟨⟨some 61,.indexAddr 32 (.tmp 48) (.tmp 50),none⟩,[]⟩,⟨⟨none,.store 27 (.tmp 61) (.tmp 59),none⟩,[]⟩]) (.seq (.seq (.reg [⟨⟨some 62,.move (.tmp 9),none⟩,[]⟩,⟨⟨some 63,.move (.tmp 1),none⟩,[]⟩,⟨⟨some 64,.binOp .sub 3 (.tmp 62) (.tmp 63) 3,none⟩,[]⟩,⟨⟨some 65,.binOp .geq 3 (.tmp 64) (.const (.int .i64 2)) 3,none⟩,[]⟩]) (.cond (.tmp 65) (.seq (.reg [⟨⟨some 66,.move (.tmp 9),none⟩,[]⟩,
 ⟨⟨some 67,.binOp .sub 3 (.tmp 66) (.const (.int .i64 1)) 3,none⟩,[]⟩,⟨⟨some 11,.assign (.tmp 67),none⟩,[]⟩]) (.block 4 (.loop (.seq (.seq (.reg [⟨⟨some 68,.move (.tmp 11),none⟩,[]⟩,⟨⟨some 69,.binOp .geq 3 (.tmp 68) (.const (.int .i64 1)) 3,none⟩,[]⟩]) (.cond (.tmp 69) .skip (.exit 4))) (.seq (.block 5 (.seq (.seq (.reg [⟨⟨some 72,.move (.tmp 3),none⟩,[]⟩,⟨⟨some 73,.move (.tmp 0),none⟩,[]⟩,⟨⟨some 74,.move (.tmp 11),none⟩,[]⟩,⟨⟨some 75,.indexAddr 32 (.tmp 73) (.tmp 74),none⟩,[]⟩,⟨⟨some 76,.load 27 (.tmp 75),none⟩,[]⟩,⟨⟨some 77,.move (.tmp 0),none⟩,[]⟩,⟨⟨some 78,.move (.tmp 11),none⟩,[]⟩,⟨⟨some 79,.binOp .sub 3 (.tmp 78) (.const (.int .i64 1)) 3,none⟩,[]⟩,⟨⟨some 80,.indexAddr 32 (.tmp 77) (.tmp 79),none⟩,[]⟩,⟨⟨some 81,.load 27 (.tmp 80),none⟩,[]⟩,
 ⟨⟨some 82,.call ⟨(.value (.tmp 72)),#[.tmp 76,.tmp 81],#[27,27]⟩,none⟩,[]⟩,⟨⟨some 83,.binOp .lss 3 (.tmp 82) (.const (.int .i64 0)) 3,none⟩,[]⟩,⟨⟨some 84,.unOp .not 4 (.tmp 83),none⟩,[]⟩]) (.cond (.tmp 84) (.exit 4) .skip)) (.reg [⟨⟨some 85,.move (.tmp 0),none⟩,[]⟩,⟨⟨some 86,.move (.tmp 11),none⟩,[]⟩,⟨⟨some 87,.move (.tmp 0),none⟩,[]⟩,⟨⟨some 88,.move (.tmp 11),none⟩,[]⟩,⟨⟨some 89,.binOp .sub 3 (.tmp 88) (.const (.int .i64 1)) 3,none⟩,[]⟩,⟨⟨some 90,.move (.tmp 0),none⟩,[]⟩,⟨⟨some 91,.move (.tmp 11),none⟩,[]⟩,⟨⟨some 92,.binOp .sub 3 (.tmp 91) (.const (.int .i64 1)) 3,none⟩,[]⟩,⟨⟨some 93,.indexAddr 32 (.tmp 90) (.tmp 92),none⟩,[]⟩,⟨⟨some 94,.load 27 (.tmp 93),none⟩,[]⟩,
 ⟨⟨some 95,.move (.tmp 0),none⟩,[]⟩,⟨⟨some 96,.move (.tmp 11),none⟩,[]⟩,⟨⟨some 97,.indexAddr 32 (.tmp 95) (.tmp 96),none⟩,[]⟩,⟨⟨some 98,.load 27 (.tmp 97),none⟩,[]⟩,⟨⟨some 99,.indexAddr 32 (.tmp 85) (.tmp 86),none⟩,[]⟩,⟨⟨none,.store 27 (.tmp 99) (.tmp 94),none⟩,[]⟩,⟨⟨some 100,.indexAddr 32 (.tmp 87) (.tmp 89),none⟩,[]⟩,⟨⟨none,.store 27 (.tmp 100) (.tmp 98),none⟩,[]⟩]))) (.reg [⟨⟨some 70,.move (.tmp 11),none⟩,[]⟩,⟨⟨some 71,.binOp .sub 3 (.tmp 70) (.const (.int .i64 1)) 3,none⟩,[]⟩,⟨⟨some 11,.assign (.tmp 71),none⟩,[]⟩])))))) .skip)) (.seq (.reg [⟨⟨some 101,.move (.tmp 2),none⟩,[]⟩,⟨⟨some 102,.move (.tmp 9),none⟩,[]⟩,⟨⟨some 103,.binOp .sub 3 (.tmp 101) (.tmp 102) 3,none⟩,[]⟩,
 ⟨⟨some 104,.binOp .geq 3 (.tmp 103) (.const (.int .i64 2)) 3,none⟩,[]⟩]) (.cond (.tmp 104) (.seq (.reg [⟨⟨some 105,.move (.tmp 9),none⟩,[]⟩,⟨⟨some 106,.binOp .add 3 (.tmp 105) (.const (.int .i64 1)) 3,none⟩,[]⟩,⟨⟨some 12,.assign (.tmp 106),none⟩,[]⟩]) (.block 6 (.loop (.seq (.seq (.reg [⟨⟨some 107,.move (.tmp 12),none⟩,[]⟩,⟨⟨some 108,.move (.tmp 2),none⟩,[]⟩,⟨⟨some 109,.binOp .lss 3 (.tmp 107) (.tmp 108) 3,none⟩,[]⟩]) (.cond (.tmp 109) .skip (.exit 6))) (.seq (.block 7 (.seq (.seq (.reg [⟨⟨some 112,.move (.tmp 3),none⟩,[]⟩,⟨⟨some 113,.move (.tmp 0),none⟩,[]⟩,⟨⟨some 114,.move (.tmp 12),none⟩,[]⟩,⟨⟨some 115,.indexAddr 32 (.tmp 113) (.tmp 114),none⟩,[]⟩,⟨⟨some 116,.load 27 (.tmp 115),none⟩,[]⟩,⟨⟨some 117,.move (.tmp 0),none⟩,[]⟩,⟨⟨some 118,.move (.tmp 12),none⟩,[]⟩,⟨⟨some 119,.binOp .sub 3 (.tmp 118) (.const (.int .i64 1)) 3,none⟩,[]⟩,
 ⟨⟨some 120,.indexAddr 32 (.tmp 117) (.tmp 119),none⟩,[]⟩,⟨⟨some 121,.load 27 (.tmp 120),none⟩,[]⟩,⟨⟨some 122,.call ⟨(.value (.tmp 112)),#[.tmp 116,.tmp 121],#[27,27]⟩,none⟩,[]⟩,⟨⟨some 123,.binOp .lss 3 (.tmp 122) (.const (.int .i64 0)) 3,none⟩,[]⟩,⟨⟨some 124,.unOp .not 4 (.tmp 123),none⟩,[]⟩]) (.cond (.tmp 124) (.exit 6) .skip)) (.reg [⟨⟨some 125,.move (.tmp 0),none⟩,[]⟩,⟨⟨some 126,.move (.tmp 12),none⟩,[]⟩,⟨⟨some 127,.move (.tmp 0),none⟩,[]⟩,⟨⟨some 128,.move (.tmp 12),none⟩,[]⟩,⟨⟨some 129,.binOp .sub 3 (.tmp 128) (.const (.int .i64 1)) 3,none⟩,[]⟩,⟨⟨some 130,.move (.tmp 0),none⟩,[]⟩,⟨⟨some 131,.move (.tmp 12),none⟩,[]⟩,⟨⟨some 132,.binOp .sub 3 (.tmp 131) (.const (.int .i64 1)) 3,none⟩,[]⟩,
 ⟨⟨some 133,.indexAddr 32 (.tmp 130) (.tmp 132),none⟩,[]⟩,⟨⟨some 134,.load 27 (.tmp 133),none⟩,[]⟩,⟨⟨some 135,.move (.tmp 0),none⟩,[]⟩,⟨⟨some 136,.move (.tmp 12),none⟩,[]⟩,⟨⟨some 137,.indexAddr 32 (.tmp 135) (.tmp 136),none⟩,[]⟩,⟨⟨some 138,.load 27 (.tmp 137),none⟩,[]⟩,⟨⟨some 139,.indexAddr 32 (.tmp 125) (.tmp 126),none⟩,[]⟩,⟨⟨none,.store 27 (.tmp 139) (.tmp 134),none⟩,[]⟩,⟨⟨some 140,.indexAddr 32 (.tmp 127) (.tmp 129),none⟩,[]⟩,⟨⟨none,.store 27 (.tmp 140) (.tmp 138),none⟩,[]⟩]))) (.reg [⟨⟨some 110,.move (.tmp 12),none⟩,[]⟩,⟨⟨some 111,.binOp .add 3 (.tmp 110) (.const (.int .i64 1)) 3,none⟩,[]⟩,⟨⟨some 12,.assign (.tmp 111),none⟩,[]⟩])))))) .skip)))))))) (.reg [⟨⟨some 17,.move (.tmp 10),none⟩,[]⟩,
 ⟨⟨some 18,.binOp .add 3 (.tmp 17) (.const (.int .i64 1)) 3,none⟩,[]⟩,
  ⟨⟨some 10,.assign (.tmp 18),none⟩,[]⟩])))))) (.seq (.reg [⟨⟨some 8,.assign (.const (.bool false)),none⟩,[]⟩]) .ret))))
theorem in192:InT Tryz.prog 192 4 [.tmp 8] cd192:=InT.mk (by kernel_rfl) [(5,[(0,false),(1,false),(2,false),(3,false),(4,false),(5,false),(6,false),(7,false),(8,false),(9,false),(10,false),(11,false),(12,false),(13,false),(14,true),(15,false),(16,false),(17,false)]),(11,[(0,false),(1,false),(2,false),(3,false),(4,false),(5,false),(6,false),(7,false),(8,false),(9,false),(10,false),(11,false),(12,false),(13,false),(14,false),(15,true),(16,false),(17,true)]),(16,[(0,false),(1,false),(2,false),(3,false),(4,false),(5,false),(6,false),(7,false),(8,false),(9,false),(10,true),(11,false),(12,false)]),(17,[(0,false),(1,false),(2,false),(3,false),(4,false),(5,false),(6,false),(7,false),(8,false),(9,false),(10,false),(11,false),(12,false),(13,false),(14,false),(15,true),(16,false),(17,true)]),(22,[(0,false),(1,false),(2,false),(3,false),(4,false),(5,false),(6,false),(7,false),(8,false),(9,false),(10,true),(11,false),(12,false)]),(23,[(0,false),(1,false),(2,false),(3,false),(4,false),(5,false),(6,false),(7,false),(8,false),(9,false),(10,false),(11,false),(12,false),(13,false),(14,false),(15,true),(16,false),(17,true)])] Tryz.func192 rfl (by kernel_rfl) (by kernel_rfl) (of_decide_eq_true (by kernel_rfl)) (by kernel_rfl)
def cd187:Cd:=(.seq (.reg [⟨⟨some 10,.move (.tmp 1),none⟩,[]⟩,⟨⟨some 11,.binOp .add 3 (.tmp 10) (.const (.int .i64 1)) 3,none⟩,[]⟩,⟨⟨some 8,.assign (.tmp 11),none⟩,[]⟩]) (.block 0 (.loop (.seq (.seq (.reg [⟨⟨some 12,.move (.tmp 8),none⟩,[]⟩,⟨⟨some 13,.move (.tmp 2),none⟩,[]⟩,⟨⟨some 14,.binOp .lss 3 (.tmp 12) (.tmp 13) 3,none⟩,[]⟩]) (.cond (.tmp 14) .skip (.exit 0))) (.seq (.block 1 (.seq (.reg [⟨⟨some 17,.move (.tmp 8),none⟩,[]⟩,⟨⟨some 9,.assign (.tmp 17),none⟩,[]⟩]) (.block 2 (.loop (.seq (.seq (.reg [⟨⟨some 18,.move (.tmp 9),none⟩,[]⟩,⟨⟨some 19,.move (.tmp 1),none⟩,[]⟩,⟨⟨some 20,.binOp .gtr 3 (.tmp 18) (.tmp 19) 3,none⟩,[]⟩,⟨⟨some 21,.move (.tmp 20),none⟩,[]⟩,⟨⟨some 22,.move (.tmp 3),some (21,true)⟩,[]⟩,⟨⟨some 23,.move (.tmp 0),some (21,true)⟩,[]⟩,⟨⟨some 24,.move (.tmp 9),some (21,true)⟩,[]⟩,
 ⟨⟨some 25,.indexAddr 32 (.tmp 23) (.tmp 24),some (21,true)⟩,[]⟩,⟨⟨some 26,.load 27 (.tmp 25),some (21,true)⟩,[]⟩,⟨⟨some 27,.move (.tmp 0),some (21,true)⟩,[]⟩,⟨⟨some 28,.move (.tmp 9),some (21,true)⟩,[]⟩,⟨⟨some 29,.binOp .sub 3 (.tmp 28) (.const (.int .i64 1)) 3,some (21,true)⟩,[]⟩,⟨⟨some 30,.indexAddr 32 (.tmp 27) (.tmp 29),some (21,true)⟩,[]⟩,⟨⟨some 31,.load 27 (.tmp 30),some (21,true)⟩,[]⟩,⟨⟨some 32,.call ⟨(.value (.tmp 22)),#[.tmp 26,.tmp 31],#[27,27]⟩,some (21,true)⟩,[]⟩,⟨⟨some 33,.binOp .lss 3 (.tmp 32) (.const (.int .i64 0)) 3,some (21,true)⟩,[]⟩,⟨⟨some 34,.pick (.tmp 21) (.tmp 33) (.const (.bool false)),none⟩,[]⟩]) (.cond (.tmp 34) .skip (.exit 2))) (.seq (.block 3 (.reg [⟨⟨some 37,.move (.tmp 0),none⟩,[]⟩,⟨⟨some 38,.move (.tmp 9),none⟩,[]⟩,⟨⟨some 39,.move (.tmp 0),none⟩,[]⟩,
 ⟨⟨some 40,.move (.tmp 9),none⟩,[]⟩,⟨⟨some 41,.binOp .sub 3 (.tmp 40) (.const (.int .i64 1)) 3,none⟩,[]⟩,⟨⟨some 42,.move (.tmp 0),none⟩,[]⟩,⟨⟨some 43,.move (.tmp 9),none⟩,[]⟩,⟨⟨some 44,.binOp .sub 3 (.tmp 43) (.const (.int .i64 1)) 3,none⟩,[]⟩,⟨⟨some 45,.indexAddr 32 (.tmp 42) (.tmp 44),none⟩,[]⟩,⟨⟨some 46,.load 27 (.tmp 45),none⟩,[]⟩,⟨⟨some 47,.move (.tmp 0),none⟩,[]⟩,⟨⟨some 48,.move (.tmp 9),none⟩,[]⟩,⟨⟨some 49,.indexAddr 32 (.tmp 47) (.tmp 48),none⟩,[]⟩,⟨⟨some 50,.load 27 (.tmp 49),none⟩,[]⟩,⟨⟨some 51,.indexAddr 32 (.tmp 37) (.tmp 38),none⟩,[]⟩,
 ⟨⟨none,.store 27 (.tmp 51) (.tmp 46),none⟩,[]⟩,
  ⟨⟨some 52,.indexAddr 32 (.tmp 39) (.tmp 41),none⟩,[]⟩,
  ⟨⟨none,.store 27 (.tmp 52) (.tmp 50),none⟩,[]⟩])) (.reg [⟨⟨some 35,.move (.tmp 9),none⟩,[]⟩,
  ⟨⟨some 36,.binOp .sub 3 (.tmp 35) (.const (.int .i64 1)) 3,none⟩,[]⟩,
  ⟨⟨some 9,.assign (.tmp 36),none⟩,[]⟩]))))))) (.reg [⟨⟨some 15,.move (.tmp 8),none⟩,[]⟩,
  ⟨⟨some 16,.binOp .add 3 (.tmp 15) (.const (.int .i64 1)) 3,none⟩,[]⟩,
  ⟨⟨some 8,.assign (.tmp 16),none⟩,[]⟩]))))))
theorem in187:InT Tryz.prog 187 4 [] cd187:=InT.mk (by kernel_rfl) [(4,[(0,false),(1,false),(2,false),(3,false),(4,false),(5,false),(6,false),(7,false),(8,false),(9,false),(10,false),(11,false),(12,false),(13,false),(14,true),(15,false),(16,false)]),(6,[(0,false),(1,false),(2,false),(3,false),(4,false),(5,false),(6,false),(7,false),(8,false),(9,false),(10,false),(11,false),(12,false),(13,false),(14,false),(15,true),(16,false),(17,true)])] Tryz.func187 rfl (by kernel_rfl) (by kernel_rfl) (of_decide_eq_true (by kernel_rfl)) (by kernel_rfl)
def cd190:Cd:=(.seq (.reg [⟨⟨some 8,.assign (.const (.int .i64 0)),none⟩,[]⟩,⟨⟨some 9,.assign (.const (.int .i64 0)),none⟩,[]⟩]) (.seq (.reg [⟨⟨some 15,.move (.tmp 2),none⟩,[]⟩,⟨⟨some 16,.move (.tmp 1),none⟩,[]⟩,⟨⟨some 17,.binOp .sub 3 (.tmp 15) (.tmp 16) 3,none⟩,[]⟩,⟨⟨some 10,.assign (.tmp 17),none⟩,[]⟩]) (.seq (.reg [⟨⟨some 11,.alloc 3,none⟩,[]⟩]) (.seq (.reg [⟨⟨some 18,.move (.tmp 1),none⟩,[]⟩,⟨⟨some 19,.move (.tmp 10),none⟩,[]⟩,⟨⟨some 20,.binOp .quo 3 (.tmp 19) (.const (.int .i64 4)) 3,none⟩,[]⟩,⟨⟨some 21,.binOp .mul 3 (.tmp 20) (.const (.int .i64 1)) 3,none⟩,[]⟩,⟨⟨some 22,.binOp .add 3 (.tmp 18) (.tmp 21) 3,none⟩,[]⟩,⟨⟨some 12,.assign (.tmp 22),none⟩,[]⟩]) (.seq (.reg [⟨⟨some 23,.move (.tmp 1),none⟩,[]⟩,⟨⟨some 24,.move (.tmp 10),none⟩,[]⟩,⟨⟨some 25,.binOp .quo 3 (.tmp 24) (.const (.int .i64 4)) 3,none⟩,[]⟩,
 ⟨⟨some 26,.binOp .mul 3 (.tmp 25) (.const (.int .i64 2)) 3,none⟩,[]⟩,⟨⟨some 27,.binOp .add 3 (.tmp 23) (.tmp 26) 3,none⟩,[]⟩,⟨⟨some 13,.assign (.tmp 27),none⟩,[]⟩]) (.seq (.reg [⟨⟨some 28,.move (.tmp 1),none⟩,[]⟩,⟨⟨some 29,.move (.tmp 10),none⟩,[]⟩,⟨⟨some 30,.binOp .quo 3 (.tmp 29) (.const (.int .i64 4)) 3,none⟩,[]⟩,⟨⟨some 31,.binOp .mul 3 (.tmp 30) (.const (.int .i64 3)) 3,none⟩,[]⟩,⟨⟨some 32,.binOp .add 3 (.tmp 28) (.tmp 31) 3,none⟩,[]⟩,⟨⟨some 14,.assign (.tmp 32),none⟩,[]⟩]) (.seq (.seq (.reg [⟨⟨some 33,.move (.tmp 10),none⟩,[]⟩,⟨⟨some 34,.binOp .geq 3 (.tmp 33) (.const (.int .i64 8)) 3,none⟩,[]⟩]) (.cond (.tmp 34) (.seq (.seq (.reg [⟨⟨some 35,.move (.tmp 10),none⟩,[]⟩,⟨⟨some 36,.binOp .geq 3 (.tmp 35) (.const (.int .i64 50)) 3,none⟩,[]⟩]) (.cond (.tmp 36) (.seq (.reg [⟨⟨some 37,.move (.tmp 0),none⟩,[]⟩,⟨⟨some 38,.move (.tmp 12),none⟩,[]⟩,⟨⟨some 39,.move (.tmp 3),none⟩,[]⟩,
 ⟨⟨some 40,.call ⟨(.value (.func 218)),#[.tmp 37,.tmp 38,.tmp 11,.tmp 39],#[32,3,187,41]⟩,none⟩,[]⟩,⟨⟨some 12,.assign (.tmp 40),none⟩,[]⟩]) (.seq (.reg [⟨⟨some 41,.move (.tmp 0),none⟩,[]⟩,⟨⟨some 42,.move (.tmp 13),none⟩,[]⟩,⟨⟨some 43,.move (.tmp 3),none⟩,[]⟩,⟨⟨some 44,.call ⟨(.value (.func 218)),#[.tmp 41,.tmp 42,.tmp 11,.tmp 43],#[32,3,187,41]⟩,none⟩,[]⟩,⟨⟨some 13,.assign (.tmp 44),none⟩,[]⟩]) (.reg [⟨⟨some 45,.move (.tmp 0),none⟩,[]⟩,⟨⟨some 46,.move (.tmp 14),none⟩,[]⟩,⟨⟨some 47,.move (.tmp 3),none⟩,[]⟩,⟨⟨some 48,.call ⟨(.value (.func 218)),#[.tmp 45,.tmp 46,.tmp 11,.tmp 47],#[32,3,187,41]⟩,none⟩,[]⟩,⟨⟨some 14,.assign (.tmp 48),none⟩,[]⟩]))) .skip)) (.reg [⟨⟨some 49,.move (.tmp 0),none⟩,[]⟩,⟨⟨some 50,.move (.tmp 12),none⟩,[]⟩,⟨⟨some 51,.move (.tmp 13),none⟩,[]⟩,
 ⟨⟨some 52,.move (.tmp 14),none⟩,[]⟩,
  ⟨⟨some 53,.move (.tmp 3),none⟩,[]⟩,
  ⟨⟨some 54,.call ⟨(.value (.func 219)),#[.tmp 49,.tmp 50,.tmp 51,.tmp 52,.tmp 11,.tmp 53],#[32,3,3,3,187,41]⟩,none⟩,[]⟩,
  ⟨⟨some 13,.assign (.tmp 54),none⟩,[]⟩])) .skip)) (.seq (.reg [⟨⟨some 55,.load 3 (.tmp 11),none⟩,[]⟩]) (.block 0 (.seq (.reg [⟨⟨some 58,.binOp .eql 3 (.tmp 55) (.const (.int .i64 0)) 3,none⟩,[]⟩,
  ⟨⟨some 57,.assign (.tmp 58),none⟩,[]⟩]) (.cond (.tmp 57) (.seq (.reg [⟨⟨some 59,.move (.tmp 13),none⟩,[]⟩,
  ⟨⟨some 8,.assign (.tmp 59),none⟩,[]⟩,
  ⟨⟨some 9,.assign (.const (.int .i64 1)),none⟩,[]⟩]) .ret) (.seq (.reg [⟨⟨some 61,.binOp .eql 3 (.tmp 55) (.const (.int .i64 12)) 3,none⟩,[]⟩,
  ⟨⟨some 60,.assign (.tmp 61),none⟩,[]⟩]) (.cond (.tmp 60) (.seq (.reg [⟨⟨some 62,.move (.tmp 13),none⟩,[]⟩,
  ⟨⟨some 8,.assign (.tmp 62),none⟩,[]⟩,
  ⟨⟨some 9,.assign (.const (.int .i64 2)),none⟩,[]⟩]) .ret) (.seq (.reg [⟨⟨some 56,.move (.tmp 13),none⟩,[]⟩,
  ⟨⟨some 8,.assign (.tmp 56),none⟩,[]⟩,
  ⟨⟨some 9,.assign (.const (.int .i64 0)),none⟩,[]⟩]) .ret))))))))))))))
theorem in190:InT Tryz.prog 190 4 [.tmp 8,.tmp 9] cd190:=InT.mk (by kernel_rfl) [] Tryz.func190 rfl (by kernel_rfl) (by kernel_rfl) (of_decide_eq_true (by kernel_rfl)) (by kernel_rfl)
def cd165:Cd:=(.seq (.reg [⟨⟨some 10,.assign (.const (.bool true)),none⟩,[]⟩]) (.seq (.reg [⟨⟨some 11,.assign (.const (.bool true)),none⟩,[]⟩]) (.block 0 (.loop (.block 1 (.seq (.reg [⟨⟨some 21,.move (.tmp 2),none⟩,[]⟩,⟨⟨some 22,.move (.tmp 1),none⟩,[]⟩,⟨⟨some 23,.binOp .sub 3 (.tmp 21) (.tmp 22) 3,none⟩,[]⟩,⟨⟨some 12,.assign (.tmp 23),none⟩,[]⟩]) (.seq (.seq (.reg [⟨⟨some 24,.move (.tmp 12),none⟩,[]⟩,⟨⟨some 25,.binOp .leq 3 (.tmp 24) (.const (.int .i64 12)) 3,none⟩,[]⟩]) (.cond (.tmp 25) (.seq (.reg [⟨⟨some 26,.move (.tmp 0),none⟩,[]⟩,⟨⟨some 27,.move (.tmp 1),none⟩,[]⟩,⟨⟨some 28,.move (.tmp 2),none⟩,[]⟩,⟨⟨some 29,.move (.tmp 4),none⟩,[]⟩,⟨⟨some 30,.call ⟨(.value (.func 187)),#[.tmp 26,.tmp 27,.tmp 28,.tmp 29],#[32,3,3,41]⟩,none⟩,[]⟩]) .ret) .skip)) (.seq (.seq (.reg [⟨⟨some 31,.move (.tmp 3),none⟩,[]⟩,⟨⟨some 32,.binOp .eql 3 (.tmp 31) (.const (.int .i64 0)) 3,none⟩,[]⟩]) (.cond (.tmp 32) (.seq (.reg [⟨⟨some 33,.move (.tmp 0),none⟩,[]⟩,⟨⟨some 34,.move (.tmp 1),none⟩,[]⟩,⟨⟨some 35,.move (.tmp 2),none⟩,[]⟩,
 ⟨⟨some 36,.move (.tmp 4),none⟩,[]⟩,⟨⟨some 37,.call ⟨(.value (.func 188)),#[.tmp 33,.tmp 34,.tmp 35,.tmp 36],#[32,3,3,41]⟩,none⟩,[]⟩]) .ret) .skip)) (.seq (.seq (.reg [⟨⟨some 38,.move (.tmp 10),none⟩,[]⟩,⟨⟨some 39,.unOp .not 4 (.tmp 38),none⟩,[]⟩]) (.cond (.tmp 39) (.seq (.reg [⟨⟨some 40,.move (.tmp 0),none⟩,[]⟩,⟨⟨some 41,.move (.tmp 1),none⟩,[]⟩,⟨⟨some 42,.move (.tmp 2),none⟩,[]⟩,⟨⟨some 43,.move (.tmp 4),none⟩,[]⟩,⟨⟨some 44,.call ⟨(.value (.func 189)),#[.tmp 40,.tmp 41,.tmp 42,.tmp 43],#[32,3,3,41]⟩,none⟩,[]⟩]) (.reg [⟨⟨some 45,.move (.tmp 3),none⟩,[]⟩,⟨⟨some 46,.binOp .sub 3 (.tmp 45) (.const (.int .i64 1)) 3,none⟩,[]⟩,⟨⟨some 3,.assign (.tmp 46),none⟩,[]⟩])) .skip)) (.seq (.reg [⟨⟨some 48,.move (.tmp 0),none⟩,[]⟩,⟨⟨some 49,.move (.tmp 1),none⟩,[]⟩,⟨⟨some 50,.move (.tmp 2),none⟩,[]⟩,⟨⟨some 51,.move (.tmp 4),none⟩,[]⟩,
 ⟨⟨some 52,.call ⟨(.value (.func 190)),#[.tmp 48,.tmp 49,.tmp 50,.tmp 51],#[32,3,3,41]⟩,none⟩,[]⟩,⟨⟨some 47,.move (.tmp 52),none⟩,[]⟩,⟨⟨some 53,.extract (.tmp 47) 0,none⟩,[]⟩,⟨⟨some 54,.extract (.tmp 47) 1,none⟩,[]⟩,⟨⟨some 13,.assign (.tmp 53),none⟩,[]⟩,⟨⟨some 14,.assign (.tmp 54),none⟩,[]⟩]) (.seq (.seq (.reg [⟨⟨some 55,.move (.tmp 14),none⟩,[]⟩,⟨⟨some 56,.binOp .eql 162 (.tmp 55) (.const (.int .i64 2)) 162,none⟩,[]⟩]) (.cond (.tmp 56) (.seq (.reg [⟨⟨some 57,.move (.tmp 0),none⟩,[]⟩,⟨⟨some 58,.move (.tmp 1),none⟩,[]⟩,⟨⟨some 59,.move (.tmp 2),none⟩,[]⟩,⟨⟨some 60,.move (.tmp 4),none⟩,[]⟩,⟨⟨some 61,.call ⟨(.value (.func 191)),#[.tmp 57,.tmp 58,.tmp 59,.tmp 60],#[32,3,3,41]⟩,none⟩,[]⟩]) (.seq (.reg [⟨⟨some 62,.move (.tmp 2),none⟩,[]⟩,⟨⟨some 63,.binOp .sub 3 (.tmp 62) (.const (.int .i64 1)) 3,none⟩,[]⟩,
 ⟨⟨some 64,.move (.tmp 13),none⟩,[]⟩,⟨⟨some 65,.move (.tmp 1),none⟩,[]⟩,⟨⟨some 66,.binOp .sub 3 (.tmp 64) (.tmp 65) 3,none⟩,[]⟩,⟨⟨some 67,.binOp .sub 3 (.tmp 63) (.tmp 66) 3,none⟩,[]⟩,⟨⟨some 13,.assign (.tmp 67),none⟩,[]⟩]) (.reg [⟨⟨some 14,.assign (.const (.int .i64 1)),none⟩,[]⟩]))) .skip)) (.seq (.seq (.reg [⟨⟨some 68,.move (.tmp 10),none⟩,[]⟩,⟨⟨some 69,.move (.tmp 68),none⟩,[]⟩,⟨⟨some 70,.move (.tmp 11),some (69,true)⟩,[]⟩,⟨⟨some 71,.pick (.tmp 69) (.tmp 70) (.const (.bool false)),none⟩,[]⟩,⟨⟨some 72,.move (.tmp 71),none⟩,[]⟩,⟨⟨some 73,.move (.tmp 14),some (72,true)⟩,[]⟩,⟨⟨some 74,.binOp .eql 162 (.tmp 73) (.const (.int .i64 1)) 162,some (72,true)⟩,[]⟩,⟨⟨some 75,.pick (.tmp 72) (.tmp 74) (.const (.bool false)),none⟩,[]⟩]) (.cond (.tmp 75) (.seq (.reg [⟨⟨some 76,.move (.tmp 0),none⟩,[]⟩,
 ⟨⟨some 77,.move (.tmp 1),none⟩,[]⟩,⟨⟨some 78,.move (.tmp 2),none⟩,[]⟩,⟨⟨some 79,.move (.tmp 4),none⟩,[]⟩,⟨⟨some 80,.call ⟨(.value (.func 192)),#[.tmp 76,.tmp 77,.tmp 78,.tmp 79],#[32,3,3,41]⟩,none⟩,[]⟩]) (.cond (.tmp 80) .ret .skip)) .skip)) (.seq (.seq (.reg [⟨⟨some 81,.move (.tmp 1),none⟩,[]⟩,⟨⟨some 82,.binOp .gtr 3 (.tmp 81) (.const (.int .i64 0)) 3,none⟩,[]⟩,⟨⟨some 83,.move (.tmp 82),none⟩,[]⟩,⟨⟨some 84,.move (.tmp 4),some (83,true)⟩,[]⟩,⟨⟨some 85,.move (.tmp 0),some (83,true)⟩,[]⟩,⟨⟨some 86,.move (.tmp 1),some (83,true)⟩,[]⟩,⟨⟨some 87,.binOp .sub 3 (.tmp 86) (.const (.int .i64 1)) 3,some (83,true)⟩,[]⟩,⟨⟨some 88,.indexAddr 32 (.tmp 85) (.tmp 87),some (83,true)⟩,[]⟩,⟨⟨some 89,.load 27 (.tmp 88),some (83,true)⟩,[]⟩,
 ⟨⟨some 90,.move (.tmp 0),some (83,true)⟩,[]⟩,⟨⟨some 91,.move (.tmp 13),some (83,true)⟩,[]⟩,⟨⟨some 92,.indexAddr 32 (.tmp 90) (.tmp 91),some (83,true)⟩,[]⟩,⟨⟨some 93,.load 27 (.tmp 92),some (83,true)⟩,[]⟩,⟨⟨some 94,.call ⟨(.value (.tmp 84)),#[.tmp 89,.tmp 93],#[27,27]⟩,some (83,true)⟩,[]⟩,⟨⟨some 95,.binOp .lss 3 (.tmp 94) (.const (.int .i64 0)) 3,some (83,true)⟩,[]⟩,⟨⟨some 96,.unOp .not 4 (.tmp 95),some (83,true)⟩,[]⟩,⟨⟨some 97,.pick (.tmp 83) (.tmp 96) (.const (.bool false)),none⟩,[]⟩]) (.cond (.tmp 97) (.seq (.reg [⟨⟨some 98,.move (.tmp 0),none⟩,[]⟩,⟨⟨some 99,.move (.tmp 1),none⟩,[]⟩,⟨⟨some 100,.move (.tmp 2),none⟩,[]⟩,⟨⟨some 101,.move (.tmp 13),none⟩,[]⟩,⟨⟨some 102,.move (.tmp 4),none⟩,[]⟩,
 ⟨⟨some 103,.call ⟨(.value (.func 193)),#[.tmp 98,.tmp 99,.tmp 100,.tmp 101,.tmp 102],#[32,3,3,3,41]⟩,none⟩,[]⟩,⟨⟨some 15,.assign (.tmp 103),none⟩,[]⟩]) (.seq (.reg [⟨⟨some 104,.move (.tmp 15),none⟩,[]⟩,⟨⟨some 1,.assign (.tmp 104),none⟩,[]⟩]) (.exit 1))) .skip)) (.seq (.reg [⟨⟨some 106,.move (.tmp 0),none⟩,[]⟩,⟨⟨some 107,.move (.tmp 1),none⟩,[]⟩,⟨⟨some 108,.move (.tmp 2),none⟩,[]⟩,⟨⟨some 109,.move (.tmp 13),none⟩,[]⟩,⟨⟨some 110,.move (.tmp 4),none⟩,[]⟩,⟨⟨some 111,.call ⟨(.value (.func 194)),#[.tmp 106,.tmp 107,.tmp 108,.tmp 109,.tmp 110],#[32,3,3,3,41]⟩,none⟩,[]⟩,⟨⟨some 105,.move (.tmp 111),none⟩,[]⟩,⟨⟨some 112,.extract (.tmp 105) 0,none⟩,[]⟩,⟨⟨some 113,.extract (.tmp 105) 1,none⟩,[]⟩,⟨⟨some 16,.assign (.tmp 112),none⟩,[]⟩,
 ⟨⟨some 17,.assign (.tmp 113),none⟩,[]⟩]) (.seq (.reg [⟨⟨some 114,.move (.tmp 17),none⟩,[]⟩,⟨⟨some 11,.assign (.tmp 114),none⟩,[]⟩]) (.seq (.reg [⟨⟨some 115,.move (.tmp 16),none⟩,[]⟩,⟨⟨some 116,.move (.tmp 1),none⟩,[]⟩,⟨⟨some 117,.binOp .sub 3 (.tmp 115) (.tmp 116) 3,none⟩,[]⟩,⟨⟨some 118,.move (.tmp 2),none⟩,[]⟩,⟨⟨some 119,.move (.tmp 16),none⟩,[]⟩,⟨⟨some 120,.binOp .sub 3 (.tmp 118) (.tmp 119) 3,none⟩,[]⟩,⟨⟨some 18,.assign (.tmp 117),none⟩,[]⟩,⟨⟨some 19,.assign (.tmp 120),none⟩,[]⟩]) (.seq (.reg [⟨⟨some 121,.move (.tmp 12),none⟩,[]⟩,⟨⟨some 122,.binOp .quo 3 (.tmp 121) (.const (.int .i64 8)) 3,none⟩,[]⟩,⟨⟨some 20,.assign (.tmp 122),none⟩,[]⟩]) (.seq (.reg [⟨⟨some 123,.move (.tmp 18),none⟩,[]⟩,⟨⟨some 124,.move (.tmp 19),none⟩,[]⟩,
 ⟨⟨some 125,.binOp .lss 3 (.tmp 123) (.tmp 124) 3,none⟩,[]⟩]) (.cond (.tmp 125) (.seq (.reg [⟨⟨some 126,.move (.tmp 18),none⟩,[]⟩,⟨⟨some 127,.move (.tmp 20),none⟩,[]⟩,⟨⟨some 128,.binOp .geq 3 (.tmp 126) (.tmp 127) 3,none⟩,[]⟩,⟨⟨some 10,.assign (.tmp 128),none⟩,[]⟩]) (.seq (.reg [⟨⟨some 129,.move (.tmp 0),none⟩,[]⟩,⟨⟨some 130,.move (.tmp 1),none⟩,[]⟩,⟨⟨some 131,.move (.tmp 16),none⟩,[]⟩,⟨⟨some 132,.move (.tmp 3),none⟩,[]⟩,⟨⟨some 133,.move (.tmp 4),none⟩,[]⟩,⟨⟨some 134,.call ⟨(.value (.func 165)),#[.tmp 129,.tmp 130,.tmp 131,.tmp 132,.tmp 133],#[32,3,3,3,41]⟩,none⟩,[]⟩]) (.reg [⟨⟨some 135,.move (.tmp 16),none⟩,[]⟩,⟨⟨some 136,.binOp .add 3 (.tmp 135) (.const (.int .i64 1)) 3,none⟩,[]⟩,⟨⟨some 1,.assign (.tmp 136),none⟩,[]⟩]))) (.seq (.reg [⟨⟨some 137,.move (.tmp 19),none⟩,[]⟩,⟨⟨some 138,.move (.tmp 20),none⟩,[]⟩,
 ⟨⟨some 139,.binOp .geq 3 (.tmp 137) (.tmp 138) 3,none⟩,[]⟩,
  ⟨⟨some 10,.assign (.tmp 139),none⟩,[]⟩]) (.seq (.reg [⟨⟨some 140,.move (.tmp 0),none⟩,[]⟩,
  ⟨⟨some 141,.move (.tmp 16),none⟩,[]⟩,
  ⟨⟨some 142,.binOp .add 3 (.tmp 141) (.const (.int .i64 1)) 3,none⟩,[]⟩,
  ⟨⟨some 143,.move (.tmp 2),none⟩,[]⟩,
  ⟨⟨some 144,.move (.tmp 3),none⟩,[]⟩,
  ⟨⟨some 145,.move (.tmp 4),none⟩,[]⟩,
  ⟨⟨some 146,.call ⟨(.value (.func 165)),#[.tmp 140,.tmp 142,.tmp 143,.tmp 144,.tmp 145],#[32,3,3,3,41]⟩,none⟩,[]⟩]) (.reg [⟨⟨some 147,.move (.tmp 16),none⟩,[]⟩,
  ⟨⟨some 2,.assign (.tmp 147),none⟩,[]⟩]))))))))))))))))))))))
theorem in165:InT Tryz.prog 165 5 [] cd165:=InT.mk (by kernel_rfl) [(17,[(0,false),(1,false),(2,false),(3,false),(4,false),(5,false),(6,false),(7,false),(8,false),(9,false),(10,false),(11,false),(12,false),(13,true),(14,false),(15,false),(16,false)])] Tryz.func165 rfl (by kernel_rfl) (by kernel_rfl) (of_decide_eq_true (by kernel_rfl)) (by kernel_rfl)
end Go.Proofs.YtlcipphiflcaiaaGreat.Ai
namespace Go.Proofs.YtlcipphiflcaiaaGreat.Ai
open Go Go.RowKit
def cmpL:List Int->List Int->Int
 | [],[]=>0
 | [],_ :: _ => -1
 | _ :: _,[]=>1
 | a :: xs,b :: ys=>if cmpI a b ≠ 0 then cmpI a b else cmpL xs ys
theorem cmpL_nil (ys:List Int):cmpL [] ys=if 0<ys.length then -1 else 0:=by
 cases ys with
 | nil=>rfl
 | cons b bs=>simp [cmpL]
theorem cmpL_step (xs ys:List Int)(i:Nat)(hi:i<xs.length):cmpL (xs.drop i) (ys.drop i)=if ys.length<=i then 1 else if cmpI (xs.getD i 0) (ys.getD i 0) ≠ 0 then cmpI (xs.getD i 0) (ys.getD i 0) else cmpL (xs.drop (i+1)) (ys.drop (i+1)):=by
 have hx:xs.getD i 0=xs[i]:=by simp [hi]
 rw [List.drop_eq_getElem_cons hi]
 by_cases hj:ys.length<=i
 ·rw [if_pos hj,List.drop_of_length_le hj];rfl
 ·have hj':i<ys.length:=by omega
  have hy:ys.getD i 0=ys[i]:=by simp [hj']
  rw [if_neg hj,List.drop_eq_getElem_cons hj',hx,hy];rfl
abbrev fnCmp:Value:=.func (.func 126) #[] (List.toArray [])
theorem CmpL_c (v w:Value)(xs ys:List Int)(H:AH)(hr:Row 3 H v xs)(hr2:Row 3 H w ys)(hlen:xs.length<=1099511627776)(hlen2:ys.length<=1099511627776) :
  ACalls Tryz.prog 126 [v,w] H fun r H'=>r=.int .i64 (cmpL xs ys)/\H=H':=by
 refine in126 rfl ?_
 intro Q hQ
 simp (disch:=omega) only [cd126,hr.len Tryz.underlying27,SS,eq_self,reduceIte,reduceCtorEq,Nat.reduceEqDiff,Nat.reduceAdd]
 refine LoopH.by (fun m s H'=>∃ i,m+i=xs.length/\s 0=v/\s 1=w/\s 9=v/\s 10=.int .i64 (xs.length:Int)/\s 11=.int .i64 ((i:Nat):Int)/\H=H'/\cmpL xs ys=cmpL (xs.drop i) (ys.drop i)/\(i<=ys.length∨i=0)) xs.length ?_ ?_
 ·exact ⟨0,by simp,rfl,rfl,rfl,rfl,rfl,rfl,by simp,.inr rfl⟩
 ·rintro m s H' ⟨i,hm,h0,h1,h9,h10,h11,rfl,hc,hy⟩
  simp (disch:=omega) only [h0,h1,h9,h10,h11,SS,eq_self,reduceIte,reduceCtorEq,Nat.reduceEqDiff,Nat.reduceAdd]
  refine brD.intro (fun g=>?_) (fun g=>?_)
  ·have hi:i<xs.length:=by omega
   rw [cmpL_step xs ys i hi] at hc
   simp (disch:=omega) only [h0,h1,h9,h10,h11,hr.ix Tryz.underlying27 cs3,hr.cell,Int.toNat_natCast,hr2.len Tryz.underlying27,SS,eq_self,reduceIte,reduceCtorEq,Nat.reduceEqDiff,Nat.reduceAdd]
   refine brD.intro (fun e=>?_) (fun e=>?_)
   ·simp (disch:=omega) only [SS,eq_self,reduceIte,reduceCtorEq,Nat.reduceEqDiff,Nat.reduceAdd]
    refine hQ _ _ _ ?_
    simp (disch:=omega) only [SS,eq_self,reduceIte,reduceCtorEq,Nat.reduceEqDiff,Nat.reduceAdd]
    rw [hc,if_pos (by omega)]
   ·have hj:i<ys.length:=by omega
    rw [if_neg (by omega)] at hc
    simp (disch:=omega) only [h0,h1,h9,h10,h11,hr2.ix Tryz.underlying27 cs3,hr2.cell,Int.toNat_natCast,SS,eq_self,reduceIte,reduceCtorEq,Nat.reduceEqDiff,Nat.reduceAdd]
    refine CallH.by (Compare_c _ _ H) ?_
    rintro _ _ ⟨rfl,rfl⟩
    simp (disch:=omega) only [SS,eq_self,reduceIte,reduceCtorEq,Nat.reduceEqDiff,Nat.reduceAdd]
    refine brD.intro (fun e2=>?_) (fun e2=>?_) <;> simp (disch:=omega) only [h0,h1,h9,h10,h11,wrap64,SS,eq_self,reduceIte,reduceCtorEq,Nat.reduceEqDiff,Nat.reduceAdd]
    ·refine hQ _ _ _ ?_
     simp (disch:=omega) only [SS,eq_self,reduceIte,reduceCtorEq,Nat.reduceEqDiff,Nat.reduceAdd]
     rw [hc,if_pos e2]
    ·rw [if_neg e2] at hc
     have f1:i+1<=ys.length∨i+1=0:=.inl hj
     refine ⟨m - 1,by omega,i+1,?_⟩
     (repeat' first | exact hc | exact f1 | apply And.intro) <;> first | (simp only [Value.int.injEq,true_and];omega) | omega | rfl | assumption | (simp;done) | (simp;omega)
  ·have hxe:i=xs.length:=by omega
   rw [hxe,List.drop_length,cmpL_nil] at hc
   simp (disch:=omega) only [h0,h1,hr.len Tryz.underlying27,hr2.len Tryz.underlying27,SS,eq_self,reduceIte,reduceCtorEq,Nat.reduceEqDiff,Nat.reduceAdd]
   refine brD.intro (fun e=>?_) (fun e=>?_) <;> simp (disch:=omega) only [SS,eq_self,reduceIte,reduceCtorEq,Nat.reduceEqDiff,Nat.reduceAdd]
   ·refine hQ _ _ _ ?_
    simp (disch:=omega) only [SS,eq_self,reduceIte,reduceCtorEq,Nat.reduceEqDiff,Nat.reduceAdd]
    rw [hc,if_pos (by simp;omega)]
   ·refine hQ _ _ _ ?_
    simp (disch:=omega) only [SS,eq_self,reduceIte,reduceCtorEq,Nat.reduceEqDiff,Nat.reduceAdd]
    rw [hc,if_neg (by simp;omega)]
def SrtL (ls:List (List Int)):Prop:=∀ i j,i<j->j<ls.length->0<cmpL (ls.getD j []) (ls.getD i [])
structure Sts (H:AH) (v:Value) (us:List Value) (ls:List (List Int)):Prop where
 row:RowV 27 H v us
 len:us.length=ls.length
 each:∀ i,i<ls.length->Row 3 H (us.getD i undef) (ls.getD i [])
 small:∀ i,i<ls.length->(ls.getD i []).length<=1099511627776
 bnd:ls.length<=60000
 srt:SrtL ls
theorem Sts.pre {H H':AH}{v:Value}{us:List Value}{ls:List (List Int)}(h:Sts H v us ls)(hp:H<+:H'):Sts H' v us ls:=⟨h.row.pre hp,h.len,fun i hi=>(h.each i hi).pre hp,h.small,h.bnd,h.srt⟩
theorem cmpL_self:∀ xs:List Int,cmpL xs xs=0
 | []=>rfl
 | a :: xs=>by
  have:cmpI a a=0:=by unfold cmpI;rw [if_neg (by omega),if_neg (by omega)]
  rw [cmpL,if_neg (by rw [this];decide)];exact cmpL_self xs
theorem Sts.le {H:AH}{v:Value}{us:List Value}{ls:List (List Int)}(h:Sts H v us ls){i j:Nat}(hij:i<=j)(hj:j<ls.length):¬ cmpL (ls.getD j []) (ls.getD i [])<0:=by
 by_cases e:i=j
 ·subst e;rw [cmpL_self];omega
 ·have:=h.srt i j (by omega) hj;omega
section
variable {v:Value} {us:List Value} {ls:List (List Int)} {H:AH}
theorem Sts.cell (h:Sts H v us ls){i:Nat}(hi:i<ls.length):cellA H (rowO v) (rowK v+i)=some (us.getD i undef):=h.row.cell (by have:=h.len;omega)
theorem Sts.cmp (h:Sts H v us ls){i j:Nat}(hi:i<ls.length)(hj:j<ls.length) :
  ACalls Tryz.prog 126 [us.getD i undef,us.getD j undef] H fun r H'=>r=.int .i64 (cmpL (ls.getD i []) (ls.getD j []))/\H=H':=CmpL_c _ _ _ _ H (h.each i hi) (h.each j hj) (h.small i hi) (h.small j hj)
theorem order2_c (h:Sts H v us ls)(a b:Nat)(p:Value)(hab:a<=b)(hb:b<ls.length) :
  ACalls Tryz.prog 223 [v,.int .i64 (a:Int),.int .i64 (b:Int),p,fnCmp] H fun r H'=>r=.tuple (List.toArray [.int .i64 (a:Int),.int .i64 (b:Int)])/\H=H':=by
 refine in223 rfl ?_
 intro Q hQ
 have hl:=h.len
 have hca:=h.cell (show a<ls.length by omega)
 have hcb:=h.cell hb
 simp (disch:=omega) only [cd223,h.row.ix Tryz.underlying32 cs27,Int.toNat_natCast,hca,hcb,SS,eq_self,reduceIte,reduceCtorEq,Nat.reduceEqDiff,Nat.reduceAdd]
 refine CallH.by (h.cmp hb (show a<ls.length by omega)) ?_
 rintro _ _ ⟨rfl,rfl⟩
 simp (disch:=omega) only [SS,eq_self,reduceIte,reduceCtorEq,Nat.reduceEqDiff,Nat.reduceAdd]
 refine brD.intro (fun e=>absurd e (h.le hab hb)) (fun e=>?_)
 simp (disch:=omega) only [SS,eq_self,reduceIte,reduceCtorEq,Nat.reduceEqDiff,Nat.reduceAdd]
 refine hQ _ _ _ ?_
 simp (disch:=omega) only [SS,eq_self,reduceIte,reduceCtorEq,Nat.reduceEqDiff,Nat.reduceAdd]
theorem median_c (h:Sts H v us ls)(a b c:Nat)(p:Value)(hab:a<=b)(hbc:b<=c)(hc:c<ls.length) :
  ACalls Tryz.prog 219 [v,.int .i64 (a:Int),.int .i64 (b:Int),.int .i64 (c:Int),p,fnCmp] H fun r H'=>r=.int .i64 (b:Int)/\H=H':=by
 refine in219 rfl ?_
 intro Q hQ
 simp (disch:=omega) only [cd219,SS,eq_self,reduceIte,reduceCtorEq,Nat.reduceEqDiff,Nat.reduceAdd]
 refine CallH.by (order2_c h a b p hab (by omega)) ?_
 rintro _ _ ⟨rfl,rfl⟩
 simp (disch:=omega) only [SS,eq_self,reduceIte,reduceCtorEq,Nat.reduceEqDiff,Nat.reduceAdd]
 refine CallH.by (order2_c h b c p hbc hc) ?_
 rintro _ _ ⟨rfl,rfl⟩
 simp (disch:=omega) only [SS,eq_self,reduceIte,reduceCtorEq,Nat.reduceEqDiff,Nat.reduceAdd]
 refine CallH.by (order2_c h a b p hab (by omega)) ?_
 rintro _ _ ⟨rfl,rfl⟩
 simp (disch:=omega) only [SS,eq_self,reduceIte,reduceCtorEq,Nat.reduceEqDiff,Nat.reduceAdd]
 refine hQ _ _ _ ?_
 simp (disch:=omega) only [SS,eq_self,reduceIte,reduceCtorEq,Nat.reduceEqDiff,Nat.reduceAdd]
theorem medianAdj_c (h:Sts H v us ls)(a:Nat)(p:Value)(ha:1<=a)(hc:a+1<ls.length) :
  ACalls Tryz.prog 218 [v,.int .i64 (a:Int),p,fnCmp] H fun r H'=>r=.int .i64 (a:Int)/\H=H':=by
 refine in218 rfl ?_
 intro Q hQ
 have hb:=h.bnd
 have e1:(a:Int) - 1=((a - 1:Nat):Int):=by omega
 have e2:(a:Int)+1=((a+1:Nat):Int):=by omega
 simp (disch:=omega) only [cd218,wrap64,e1,e2,SS,eq_self,reduceIte,reduceCtorEq,Nat.reduceEqDiff,Nat.reduceAdd]
 refine CallH.by (median_c h (a - 1) a (a+1) p (by omega) (by omega) hc) ?_
 rintro _ _ ⟨rfl,rfl⟩
 simp (disch:=omega) only [SS,eq_self,reduceIte,reduceCtorEq,Nat.reduceEqDiff,Nat.reduceAdd]
 refine hQ _ _ _ ?_
 simp (disch:=omega) only [SS,eq_self,reduceIte,reduceCtorEq,Nat.reduceEqDiff,Nat.reduceAdd]
theorem partialIns_c (h:Sts H v us ls)(h1:1<=ls.length) :
  ACalls Tryz.prog 192 [v,.int .i64 0,.int .i64 (ls.length:Int),fnCmp] H fun r H'=>r=.bool true/\H=H':=by
 refine in192 rfl ?_
 intro Q hQ
 have hb:=h.bnd
 have hl:=h.len
 simp (disch:=omega) only [cd192,wrap64,SS,eq_self,reduceIte,reduceCtorEq,Nat.reduceEqDiff,Nat.reduceAdd]
 refine LoopH.by (fun m s H'=>s 0=v/\s 2=.int .i64 (ls.length:Int)/\s 3=fnCmp/\s 9=.int .i64 1/\s 10=.int .i64 0/\H=H') 0 ?_ ?_
 ·exact ⟨rfl,rfl,rfl,rfl,rfl,rfl⟩
 ·rintro m s H' ⟨h0,h2,h3,h9,h10,rfl⟩
  simp (disch:=omega) only [h0,h2,h3,h9,h10,SS,eq_self,reduceIte,reduceCtorEq,Nat.reduceEqDiff,Nat.reduceAdd]
  refine brD.intro (fun _=>?_) (fun g=>absurd (by decide) g)
  simp (disch:=omega) only [h0,h2,h3,h9,h10,SS,eq_self,reduceIte,reduceCtorEq,Nat.reduceEqDiff,Nat.reduceAdd]
  refine LoopH.by (fun m' s' H'=>∃ i,m'+i=ls.length/\1<=i/\s' 0=v/\s' 2=.int .i64 (ls.length:Int)/\s' 3=fnCmp/\s' 9=.int .i64 ((i:Nat):Int)/\H=H') (ls.length - 1) ?_ ?_
  ·exact ⟨1,by omega,by omega,by simp [SS,eq_self,reduceIte,reduceCtorEq,Nat.reduceEqDiff,Nat.reduceAdd,h0],by simp [SS,eq_self,reduceIte,reduceCtorEq,Nat.reduceEqDiff,Nat.reduceAdd,h2],by simp [SS,eq_self,reduceIte,reduceCtorEq,Nat.reduceEqDiff,Nat.reduceAdd,h3],by simp [SS,eq_self,reduceIte,reduceCtorEq,Nat.reduceEqDiff,Nat.reduceAdd,h9],rfl⟩
  ·rintro m' s' H' ⟨i,hm,hi1,g0,g2,g3,g9,rfl⟩
   have e1:(i:Int) - 1=((i - 1:Nat):Int):=by omega
   simp (disch:=omega) only [g0,g2,g3,g9,SS,eq_self,reduceIte,reduceCtorEq,Nat.reduceEqDiff,Nat.reduceAdd]
   refine brD.intro (fun g=>?_) (fun g=>?_)
   ·have hi:i<ls.length:=by omega
    have hc1:=h.cell hi
    have hc2:=h.cell (show i - 1<ls.length by omega)
    simp (disch:=omega) only [g,g0,g2,g3,g9,wrap64,e1,h.row.ix Tryz.underlying32 cs27,Int.toNat_natCast,hc1,hc2,SS,eq_self,reduceIte,reduceCtorEq,Nat.reduceEqDiff,Nat.reduceAdd]
    refine CallH.by (h.cmp hi (show i - 1<ls.length by omega)) ?_
    rintro _ _ ⟨rfl,rfl⟩
    simp (disch:=omega) only [g,SS,eq_self,reduceIte,reduceCtorEq,Nat.reduceEqDiff,Nat.reduceAdd]
    refine brD.intro (fun e=>absurd e (h.le (by omega) hi)) (fun e=>?_)
    simp (disch:=omega) only [g,e,g0,g2,g3,g9,wrap64,SS,eq_self,reduceIte,reduceCtorEq,Nat.reduceEqDiff,Nat.reduceAdd]
    refine ⟨m' - 1,by omega,i+1,?_⟩
    (repeat' apply And.intro) <;> first | (simp only [Value.int.injEq,true_and];omega) | omega | rfl | assumption | (simp;done) | (simp;omega)
   ·have hi:i=ls.length:=by omega
    subst hi
    simp (disch:=omega) only [g,g0,g2,g3,g9,SS,eq_self,reduceIte,reduceCtorEq,Nat.reduceEqDiff,Nat.reduceAdd]
    refine hQ _ _ _ ?_
    simp (disch:=omega) only [SS,eq_self,reduceIte,reduceCtorEq,Nat.reduceEqDiff,Nat.reduceAdd]
theorem insCmp_c (h:Sts H v us ls) :
  ACalls Tryz.prog 187 [v,.int .i64 0,.int .i64 (ls.length:Int),fnCmp] H fun r H'=>H=H':=by
 refine in187 rfl ?_
 intro Q hQ
 have hb:=h.bnd
 have hl:=h.len
 simp (disch:=omega) only [cd187,wrap64,SS,eq_self,reduceIte,reduceCtorEq,Nat.reduceEqDiff,Nat.reduceAdd]
 refine LoopH.by (fun m s H'=>∃ i,m+i=ls.length+1/\1<=i/\s 0=v/\s 1=.int .i64 0/\s 2=.int .i64 (ls.length:Int)/\s 3=fnCmp/\s 8=.int .i64 ((i:Nat):Int)/\H=H') ls.length ?_ ?_
 ·exact ⟨1,by omega,by omega,rfl,rfl,rfl,rfl,rfl,rfl⟩
 ·rintro m s H' ⟨i,hm,hi1,h0,h1,h2,h3,h8,rfl⟩
  simp (disch:=omega) only [h0,h1,h2,h3,h8,SS,eq_self,reduceIte,reduceCtorEq,Nat.reduceEqDiff,Nat.reduceAdd]
  refine brD.intro (fun g=>?_) (fun g=>?_)
  ·have hi:i<ls.length:=by omega
   have e1:(i:Int) - 1=((i - 1:Nat):Int):=by omega
   have hc1:=h.cell hi
   have hc2:=h.cell (show i - 1<ls.length by omega)
   simp (disch:=omega) only [h0,h1,h2,h3,h8,SS,eq_self,reduceIte,reduceCtorEq,Nat.reduceEqDiff,Nat.reduceAdd]
   refine LoopH.by (fun m' s' H'=>s' 0=v/\s' 1=.int .i64 0/\s' 2=.int .i64 (ls.length:Int)/\s' 3=fnCmp/\s' 8=.int .i64 ((i:Nat):Int)/\s' 9=.int .i64 ((i:Nat):Int)/\H=H') 0 ?_ ?_
   ·simp only [SS,eq_self,reduceIte,reduceCtorEq,Nat.reduceEqDiff,Nat.reduceAdd,h0,h1,h2,h3,h8]
   ·rintro m' s' H' ⟨g0,g1,g2,g3,g8,g9,rfl⟩
    have hgt:(i:Int) > 0:=by omega
    simp (disch:=omega) only [g0,g1,g2,g3,g8,g9,SS,eq_self,reduceIte,reduceCtorEq,Nat.reduceEqDiff,Nat.reduceAdd]
    refine brD.intro (fun q=>?_) (fun q=>absurd hgt q)
    simp (disch:=omega) only [q,g0,g1,g2,g3,g8,g9,wrap64,e1,h.row.ix Tryz.underlying32 cs27,Int.toNat_natCast,hc1,hc2,SS,eq_self,reduceIte,reduceCtorEq,Nat.reduceEqDiff,Nat.reduceAdd]
    refine CallH.by (h.cmp hi (show i - 1<ls.length by omega)) ?_
    rintro _ _ ⟨rfl,rfl⟩
    simp (disch:=omega) only [q,SS,eq_self,reduceIte,reduceCtorEq,Nat.reduceEqDiff,Nat.reduceAdd]
    refine brD.intro (fun e=>absurd e (h.le (by omega) hi)) (fun e=>?_)
    simp (disch:=omega) only [q,e,g0,g1,g2,g3,g8,g9,wrap64,SS,eq_self,reduceIte,reduceCtorEq,Nat.reduceEqDiff,Nat.reduceAdd]
    refine ⟨m - 1,by omega,i+1,?_⟩
    (repeat' apply And.intro) <;> first | (simp only [Value.int.injEq,true_and];omega) | omega | rfl | assumption | (simp;done) | (simp;omega)
  ·simp (disch:=omega) only [SS,eq_self,reduceIte,reduceCtorEq,Nat.reduceEqDiff,Nat.reduceAdd]
   refine hQ _ _ _ ?_
   simp (disch:=omega) only [SS,eq_self,reduceIte,reduceCtorEq,Nat.reduceEqDiff,Nat.reduceAdd]
theorem choosePivot_c (h:Sts H v us ls)(h1:13<=ls.length) :
    ACalls Tryz.prog 190 [v,.int .i64 0,.int .i64 (ls.length:Int),fnCmp] H fun r H'=>(∃ j:Int,r=.tuple (List.toArray [.int .i64 j,.int .i64 1]))/\H<+:H':=by
  refine in190 rfl ?_
  intro Q hQ
  have hb:=h.bnd
  have hl:=h.len
  obtain ⟨q,hqd⟩:∃ q,ls.length / 4=q:=⟨_,rfl⟩
  have hq:IntKind.i64.wrap ((ls.length:Int).tdiv 4)=(q:Int):=by
    rw [Int.tdiv_eq_ediv_of_nonneg (by omega),wrap64 (by omega) (by omega)]
    omega
  have e1:(0:Int)+(q:Int) * 1=(q:Int):=by omega
  have e2:(0:Int)+(q:Int) * 2=((2 * q:Nat):Int):=by omega
  have e3:(0:Int)+(q:Int) * 3=((3 * q:Nat):Int):=by omega
  have e0:(ls.length:Int) - 0=(ls.length:Int):=by omega
  simp (disch:=omega) only [cd190,alloc_int,wrap64,e0,hq,e1,e2,e3,SS,eq_self,reduceIte,reduceCtorEq,Nat.reduceEqDiff,Nat.reduceAdd]
  generalize hA:H ++ [AObj.cells [.int .i64 0] 3 false]=A
  have pA:H<+:A:=by rw [<- hA];exact List.prefix_append _ _
  have cA:A[H.length]?=some (.cells [.int .i64 0] 3 false):=by rw [<- hA];exact at_new ..
  have hA2:=h.pre pA
  refine brD.intro (fun g=>?_) (fun g=>absurd (show (ls.length:Int) ≥ 8 by omega) g)
  simp (disch:=omega) only [SS,eq_self,reduceIte,reduceCtorEq,Nat.reduceEqDiff,Nat.reduceAdd]
  refine brD.intro (fun g2=>?_) (fun g2=>?_)
  . simp (disch:=omega) only [SS,eq_self,reduceIte,reduceCtorEq,Nat.reduceEqDiff,Nat.reduceAdd]
    refine CallH.by (medianAdj_c hA2 q _ (by omega) (by omega)) ?_
    rintro _ _ ⟨rfl,rfl⟩
    simp (disch:=omega) only [SS,eq_self,reduceIte,reduceCtorEq,Nat.reduceEqDiff,Nat.reduceAdd]
    refine CallH.by (medianAdj_c hA2 (2 * q) _ (by omega) (by omega)) ?_
    rintro _ _ ⟨rfl,rfl⟩
    simp (disch:=omega) only [SS,eq_self,reduceIte,reduceCtorEq,Nat.reduceEqDiff,Nat.reduceAdd]
    refine CallH.by (medianAdj_c hA2 (3 * q) _ (by omega) (by omega)) ?_
    rintro _ _ ⟨rfl,rfl⟩
    simp (disch:=omega) only [SS,eq_self,reduceIte,reduceCtorEq,Nat.reduceEqDiff,Nat.reduceAdd]
    refine CallH.by (median_c hA2 q (2 * q) (3 * q) _ (by omega) (by omega) (by omega)) ?_
    rintro _ _ ⟨rfl,rfl⟩
    simp (disch:=omega) only [cell_of cA,SS,eq_self,reduceIte,reduceCtorEq,Nat.reduceEqDiff,Nat.reduceAdd]
    first
      | (refine brD.intro (fun _=>?_) (fun g3=>absurd rfl g3)
         simp (disch:=omega) only [SS,eq_self,reduceIte,reduceCtorEq,Nat.reduceEqDiff,Nat.reduceAdd])
      | skip
    refine hQ _ _ _ ?_
    simp (disch:=omega) only [SS,eq_self,reduceIte,reduceCtorEq,Nat.reduceEqDiff,Nat.reduceAdd]
    exact ⟨⟨_,rfl⟩,pA⟩
  . simp (disch:=omega) only [SS,eq_self,reduceIte,reduceCtorEq,Nat.reduceEqDiff,Nat.reduceAdd]
    refine CallH.by (median_c hA2 q (2 * q) (3 * q) _ (by omega) (by omega) (by omega)) ?_
    rintro _ _ ⟨rfl,rfl⟩
    simp (disch:=omega) only [cell_of cA,SS,eq_self,reduceIte,reduceCtorEq,Nat.reduceEqDiff,Nat.reduceAdd]
    first
      | (refine brD.intro (fun _=>?_) (fun g3=>absurd rfl g3)
         simp (disch:=omega) only [SS,eq_self,reduceIte,reduceCtorEq,Nat.reduceEqDiff,Nat.reduceAdd])
      | skip
    refine hQ _ _ _ ?_
    simp (disch:=omega) only [SS,eq_self,reduceIte,reduceCtorEq,Nat.reduceEqDiff,Nat.reduceAdd]
    exact ⟨⟨_,rfl⟩,pA⟩
theorem pdqCmp_c (h:Sts H v us ls)(lim:Int)(hlim:lim ≠ 0∨ls.length<=12) :
  ACalls Tryz.prog 165 [v,.int .i64 0,.int .i64 (ls.length:Int),.int .i64 lim,fnCmp] H fun r H'=>H<+:H':=by
 refine in165 rfl ?_
 intro Q hQ
 have hb:=h.bnd
 have e0:(ls.length:Int) - 0=(ls.length:Int):=by omega
 simp (disch:=omega) only [cd165,SS,eq_self,reduceIte,reduceCtorEq,Nat.reduceEqDiff,Nat.reduceAdd]
 refine LoopH.by (fun m s H'=>s 0=v/\s 1=.int .i64 0/\s 2=.int .i64 (ls.length:Int)/\s 3=.int .i64 lim/\s 4=fnCmp/\s 10=.bool true/\s 11=.bool true/\H=H') 0 ?_ ?_
 ·exact ⟨rfl,rfl,rfl,rfl,rfl,rfl,rfl,rfl⟩
 ·rintro m s H' ⟨h0,h1,h2,h3,h4,h10,h11,rfl⟩
  simp (disch:=omega) only [h0,h1,h2,h3,h4,h10,h11,wrap64,e0,SS,eq_self,reduceIte,reduceCtorEq,Nat.reduceEqDiff,Nat.reduceAdd]
  refine brD.intro (fun g=>?_) (fun g=>?_)
  ·simp (disch:=omega) only [h0,h1,h2,h3,h4,h10,h11,SS,eq_self,reduceIte,reduceCtorEq,Nat.reduceEqDiff,Nat.reduceAdd]
   refine CallH.by (insCmp_c h) ?_
   rintro _ _ rfl
   simp (disch:=omega) only [SS,eq_self,reduceIte,reduceCtorEq,Nat.reduceEqDiff,Nat.reduceAdd]
   refine hQ _ _ _ ?_
   simp (disch:=omega) only [SS,eq_self,reduceIte,reduceCtorEq,Nat.reduceEqDiff,Nat.reduceAdd]
   exact List.prefix_refl _
  ·have hlim':lim ≠ 0:=hlim.resolve_right (by omega)
   simp (disch:=omega) only [h0,h1,h2,h3,h4,h10,h11,SS,eq_self,reduceIte,reduceCtorEq,Nat.reduceEqDiff,Nat.reduceAdd]
   refine brD.intro (fun g2=>absurd g2 hlim') (fun g2=>?_)
   simp (disch:=omega) only [h0,h1,h2,h3,h4,h10,h11,SS,eq_self,reduceIte,reduceCtorEq,Nat.reduceEqDiff,Nat.reduceAdd]
   refine CallH.by (choosePivot_c h (by omega)) ?_
   rintro _ A ⟨⟨j,rfl⟩,pA⟩
   simp (disch:=omega) only [h0,h1,h2,h3,h4,h10,h11,SS,eq_self,reduceIte,reduceCtorEq,Nat.reduceEqDiff,Nat.reduceAdd]
   refine brD.intro (fun g3=>absurd g3 (by decide)) (fun g3=>?_)
   simp (disch:=omega) only [h0,h1,h2,h3,h4,h10,h11,SS,eq_self,reduceIte,reduceCtorEq,Nat.reduceEqDiff,Nat.reduceAdd]
   refine CallH.by (partialIns_c (h.pre pA) (by omega)) ?_
   rintro _ _ ⟨rfl,rfl⟩
   simp (disch:=omega) only [SS,eq_self,reduceIte,reduceCtorEq,Nat.reduceEqDiff,Nat.reduceAdd]
   refine hQ _ _ _ ?_
   simp (disch:=omega) only [SS,eq_self,reduceIte,reduceCtorEq,Nat.reduceEqDiff,Nat.reduceAdd]
   exact pA
end
def cd125:Cd:=(.seq (.reg [⟨⟨some 5,.move (.tmp 0),none⟩,[]⟩,
 ⟨⟨some 6,.call ⟨(.builtin .len),#[.tmp 5],#[32]⟩,none⟩,[]⟩,
 ⟨⟨some 4,.assign (.tmp 6),none⟩,[]⟩]) (.reg [⟨⟨some 7,.move (.tmp 0),none⟩,[]⟩,
 ⟨⟨some 8,.move (.tmp 4),none⟩,[]⟩,
 ⟨⟨some 9,.move (.tmp 4),none⟩,[]⟩,
 ⟨⟨some 10,.convert 3 94 (.tmp 9),none⟩,[]⟩,
 ⟨⟨some 11,.call ⟨(.value (.func 166)),#[.tmp 10],#[94]⟩,none⟩,[]⟩,
 ⟨⟨some 12,.move (.tmp 1),none⟩,[]⟩,
 ⟨⟨some 13,.call ⟨(.value (.func 165)),#[.tmp 7,(.const (.int .i64 0)),.tmp 8,.tmp 11,.tmp 12],#[32,3,3,3,41]⟩,none⟩,[]⟩]))
theorem in125:InT Tryz.prog 125 2 [] cd125:=InT.mk (by kernel_rfl) [] Tryz.func125 rfl (by kernel_rfl) (by kernel_rfl) (of_decide_eq_true (by kernel_rfl)) (by kernel_rfl)
end Go.Proofs.YtlcipphiflcaiaaGreat.Ai
namespace Go.Proofs.YtlcipphiflcaiaaGreat.Ai
open Go Go.RowKit
theorem str_at {P:Program}{t:TypeId}(hu:P.underlying t=some .string)(s:ByteArray)(hz:s.size=256)(hp:∀ i:Fin 256,0<i.1->1<=(s.data.getD i.1 0).toNat)(k:IntKind)(n:Nat)(h0:0<n)(h1:n<256):∃ b:Nat,1<=b/\b<256/\indexA P t (.string s) (.int k (n:Int))=some (.int .u8 (b:Int)):=by
 have hl:n<s.data.size:=by have:s.data.size=256:=hz;omega
 have hlt:n<s.size:=by omega
 have e1:s[(n:Int).toNat]?=some s[n]:=by rw [Int.toNat_natCast];simp [hlt]
 have e2:=hp ⟨n,h1⟩ h0
 have e3:s.data.getD n 0=s[n]:=by
  rw [Array.getD_eq_getD_getElem?,Array.getElem?_eq_getElem hl];rfl
 refine ⟨s[n].toNat,?_,UInt8.toNat_lt _,?_⟩
 ·rw [<- e3];exact e2
 ·simp only [indexA,hu,if_pos (show (0:Int)<=n by omega),e1]
theorem Len64b_c (n:Nat)(H:AH)(h0:0<n)(hn:n<65536):ACalls Tryz.prog 196 [.int .u64 (n:Int)] H fun r H'=>(∃ k:Int,r=.int .i64 k/\1<=k)/\H=H':=by
 refine in196 rfl ?_
 intro Q hQ
 have k8:binA Tryz.prog .shr 65 (.int .u64 (n:Int)) (.int .u64 8)=some (.int .u64 ((n / 256:Nat):Int)):=by
  simp only [binA,shiftA]
  rw [if_pos (.inr trivial),if_neg (by decide)]
  congr 2
  have:(2 ^ min (8:Int).toNat IntKind.u64.bits:Int)=256:=by decide
  rw [this,Int.fdiv_eq_ediv_of_nonneg _ (by decide)]
  omega
 simp (disch:=omega) only [cd196,SS,eq_self,reduceIte,reduceCtorEq,Nat.reduceEqDiff,Nat.reduceAdd]
 refine brD.intro (fun h=>absurd h (by omega)) (fun _=>?_)
 simp (disch:=omega) only [SS,eq_self,reduceIte,reduceCtorEq,Nat.reduceEqDiff,Nat.reduceAdd]
 refine brD.intro (fun h=>absurd h (by omega)) (fun _=>?_)
 simp (disch:=omega) only [SS,eq_self,reduceIte,reduceCtorEq,Nat.reduceEqDiff,Nat.reduceAdd]
 refine brD.intro (fun h=>?_) (fun h=>?_)
 ·have hw:IntKind.u8.wrap ((n / 256:Nat):Int)=((n / 256:Nat):Int):=wrapU8 (by omega) (by omega)
  simp (disch:=omega) only [k8,hw,wrap64,SS,eq_self,reduceIte,reduceCtorEq,Nat.reduceEqDiff,Nat.reduceAdd]
  generalize hs:(ByteArray.mk _)=s
  have hz:s.size=256:=by rw [<- hs];rfl
  have hp:∀ i:Fin 256,0<i.1->1<=(s.data.getD i.1 0).toNat:=by rw [<- hs];decide +kernel
  obtain ⟨b,hb1,hb2,hb⟩:=str_at (P:=Tryz.prog) Tryz.underlying9 s hz hp .u8 (n / 256) (by omega) (by omega)
  simp (disch:=omega) only [hb,wrap64,SS,eq_self,reduceIte,reduceCtorEq,Nat.reduceEqDiff,Nat.reduceAdd]
  refine hQ _ _ _ ?_
  simp (disch:=omega) only [SS,eq_self,reduceIte,reduceCtorEq,Nat.reduceEqDiff,Nat.reduceAdd]
  exact ⟨_,rfl,by omega⟩
 ·have hw:IntKind.u8.wrap (n:Int)=(n:Int):=wrapU8 (by omega) (by omega)
  simp (disch:=omega) only [hw,wrap64,SS,eq_self,reduceIte,reduceCtorEq,Nat.reduceEqDiff,Nat.reduceAdd]
  generalize hs:(ByteArray.mk _)=s
  have hz:s.size=256:=by rw [<- hs];rfl
  have hp:∀ i:Fin 256,0<i.1->1<=(s.data.getD i.1 0).toNat:=by rw [<- hs];decide +kernel
  obtain ⟨b,hb1,hb2,hb⟩:=str_at (P:=Tryz.prog) Tryz.underlying9 s hz hp .u8 n (by omega) (by omega)
  simp (disch:=omega) only [hb,wrap64,SS,eq_self,reduceIte,reduceCtorEq,Nat.reduceEqDiff,Nat.reduceAdd]
  refine hQ _ _ _ ?_
  simp (disch:=omega) only [SS,eq_self,reduceIte,reduceCtorEq,Nat.reduceEqDiff,Nat.reduceAdd]
  exact ⟨_,rfl,by omega⟩
theorem Lenb_c (n:Nat)(H:AH)(h0:0<n)(hn:n<65536):ACalls Tryz.prog 166 [.int .u64 (n:Int)] H fun r H'=>(∃ k:Int,r=.int .i64 k/\1<=k)/\H=H':=by
 refine in166 rfl ?_
 intro Q hQ
 simp (disch:=omega) only [cd166,SS,eq_self,reduceIte,reduceCtorEq,Nat.reduceEqDiff,Nat.reduceAdd]
 refine CallH.by (Len64b_c n H h0 hn) ?_
 rintro _ _ ⟨⟨k,rfl,hk⟩,rfl⟩
 simp (disch:=omega) only [SS,eq_self,reduceIte,reduceCtorEq,Nat.reduceEqDiff,Nat.reduceAdd]
 refine hQ _ _ _ ?_
 simp (disch:=omega) only [SS,eq_self,reduceIte,reduceCtorEq,Nat.reduceEqDiff,Nat.reduceAdd]
 exact ⟨_,rfl,hk⟩
theorem str_z {P:Program}{t:TypeId}(hu:P.underlying t=some .string)(s:ByteArray)(hz:s.size=256)(k:IntKind)(n:Nat)(h1:n<256):∃ b:Nat,b<256/\indexA P t (.string s) (.int k (n:Int))=some (.int .u8 (b:Int)):=by
 have hlt:n<s.size:=by omega
 have e1:s[(n:Int).toNat]?=some s[n]:=by rw [Int.toNat_natCast];simp [hlt]
 refine ⟨s[n].toNat,UInt8.toNat_lt _,?_⟩
 simp only [indexA,hu,if_pos (show (0:Int)<=n by omega),e1]
theorem Len64z_c (n:Nat)(H:AH)(h0:n=0):ACalls Tryz.prog 196 [.int .u64 (n:Int)] H fun r H'=>(∃ k:Int,r=.int .i64 k)/\H=H':=by
 refine in196 rfl ?_
 intro Q hQ
 simp (disch:=omega) only [cd196,SS,eq_self,reduceIte,reduceCtorEq,Nat.reduceEqDiff,Nat.reduceAdd]
 refine brD.intro (fun h=>absurd h (by omega)) (fun _=>?_)
 simp (disch:=omega) only [SS,eq_self,reduceIte,reduceCtorEq,Nat.reduceEqDiff,Nat.reduceAdd]
 refine brD.intro (fun h=>absurd h (by omega)) (fun _=>?_)
 simp (disch:=omega) only [SS,eq_self,reduceIte,reduceCtorEq,Nat.reduceEqDiff,Nat.reduceAdd]
 refine brD.intro (fun h=>absurd h (by omega)) (fun _=>?_)
 have hw:IntKind.u8.wrap (n:Int)=(n:Int):=wrapU8 (by omega) (by omega)
 simp (disch:=omega) only [hw,wrap64,SS,eq_self,reduceIte,reduceCtorEq,Nat.reduceEqDiff,Nat.reduceAdd]
 generalize hs:(ByteArray.mk _)=s
 have hz:s.size=256:=by rw [<- hs];rfl
 obtain ⟨b,hb2,hb⟩:=str_z (P:=Tryz.prog) Tryz.underlying9 s hz .u8 n (by omega)
 simp (disch:=omega) only [hb,wrap64,SS,eq_self,reduceIte,reduceCtorEq,Nat.reduceEqDiff,Nat.reduceAdd]
 refine hQ _ _ _ ?_
 simp (disch:=omega) only [SS,eq_self,reduceIte,reduceCtorEq,Nat.reduceEqDiff,Nat.reduceAdd]
 exact ⟨_,rfl⟩
theorem Lenz_c (n:Nat)(H:AH)(h0:n=0):ACalls Tryz.prog 166 [.int .u64 (n:Int)] H fun r H'=>(∃ k:Int,r=.int .i64 k)/\H=H':=by
 refine in166 rfl ?_
 intro Q hQ
 simp (disch:=omega) only [cd166,SS,eq_self,reduceIte,reduceCtorEq,Nat.reduceEqDiff,Nat.reduceAdd]
 refine CallH.by (Len64z_c n H h0) ?_
 rintro _ _ ⟨⟨k,rfl⟩,rfl⟩
 simp (disch:=omega) only [SS,eq_self,reduceIte,reduceCtorEq,Nat.reduceEqDiff,Nat.reduceAdd]
 refine hQ _ _ _ ?_
 simp (disch:=omega) only [SS,eq_self,reduceIte,reduceCtorEq,Nat.reduceEqDiff,Nat.reduceAdd]
 exact ⟨_,rfl⟩
theorem SortFunc_c {H:AH}{v:Value}{us:List Value}{ls:List (List Int)}(h:Sts H v us ls) :
  ACalls Tryz.prog 125 [v,fnCmp] H fun r H'=>H<+:H':=by
 refine in125 rfl ?_
 intro Q hQ
 have hb:=h.bnd
 have hl:=h.len
 have hU:IntKind.u64.wrap (ls.length:Int)=(ls.length:Int):=by rw [IntKind.wrap_u64];omega
 simp (disch:=omega) only [cd125,h.row.len Tryz.underlying32,hl,hU,SS,eq_self,reduceIte,reduceCtorEq,Nat.reduceEqDiff,Nat.reduceAdd]
 by_cases h1:1<=ls.length
 rotate_left
 ·refine CallH.by (Lenz_c ls.length H (by omega)) ?_
  rintro _ _ ⟨⟨k,rfl⟩,rfl⟩
  simp (disch:=omega) only [SS,eq_self,reduceIte,reduceCtorEq,Nat.reduceEqDiff,Nat.reduceAdd]
  refine CallH.by (pdqCmp_c h k (.inr (by omega))) ?_
  rintro _ B hB
  simp (disch:=omega) only [SS,eq_self,reduceIte,reduceCtorEq,Nat.reduceEqDiff,Nat.reduceAdd]
  refine hQ _ _ _ ?_
  simp (disch:=omega) only [SS,eq_self,reduceIte,reduceCtorEq,Nat.reduceEqDiff,Nat.reduceAdd]
  exact hB
 refine CallH.by (Lenb_c ls.length H (by omega) (by omega)) ?_
 rintro _ _ ⟨⟨k,rfl,hk⟩,rfl⟩
 simp (disch:=omega) only [SS,eq_self,reduceIte,reduceCtorEq,Nat.reduceEqDiff,Nat.reduceAdd]
 refine CallH.by (pdqCmp_c h k (.inl (by omega))) ?_
 rintro _ B hB
 simp (disch:=omega) only [SS,eq_self,reduceIte,reduceCtorEq,Nat.reduceEqDiff,Nat.reduceAdd]
 refine hQ _ _ _ ?_
 simp (disch:=omega) only [SS,eq_self,reduceIte,reduceCtorEq,Nat.reduceEqDiff,Nat.reduceAdd]
 exact hB
theorem cmpL_pre:∀ (p a b:List Int),cmpL (p ++ a) (p ++ b)=cmpL a b
 | [],a,b=>rfl
 | x :: p,a,b=>by
  show cmpL (x :: (p ++ a)) (x :: (p ++ b))=_
  rw [cmpL]
  have:cmpI x x=0:=by unfold cmpI;simp
  simp only [this]
  simpa using cmpL_pre p a b
theorem srtL_of {ls:List (List Int)}(h:ls.Pairwise fun x y=>0<cmpL y x):SrtL ls:=by
 intro i j hij hj
 rw [List.pairwise_iff_getElem] at h
 have:=h i j (by omega) hj hij
 have e1:ls.getD i []=ls[i]:=by simp [show i<ls.length by omega]
 have e2:ls.getD j []=ls[j]:=by simp [hj]
 rw [e1,e2];exact this
theorem cmpL_head (p r q:List Int){e f:Int}(h:e<f):0<cmpL (p ++ f :: q) (p ++ e :: r):=by
 rw [cmpL_pre,cmpL]
 have h1:cmpI f e=1:=by
  unfold cmpI
  have a:¬ f<e:=by omega
  simp [a,h]
 rw [h1,if_pos (by decide)];decide
def Fst (es:List (Int × Int))(T:List Int):Prop:=∀ k,k<T.length->¬ Jn es (T.take k) (enA es (T.getD k 0)) (enB es (T.getD k 0))
theorem Fst.nil (es:List (Int × Int)):Fst es []:=fun k hk=>absurd hk (Nat.not_lt_zero k)
theorem Fst.snoc {es:List (Int × Int)}{T:List Int}{e:Int}(h:Fst es T)(he:¬ Jn es T (enA es e) (enB es e)):Fst es (T ++ [e]):=by
 intro k hk
 rw [List.length_append,List.length_singleton] at hk
 by_cases g:k<T.length
 ·have e1:(T ++ [e]).getD k 0=T.getD k 0:=by
   rw [List.getD_eq_getElem?_getD,List.getElem?_append_left g,<- List.getD_eq_getElem?_getD]
  rw [e1,List.take_append_of_le_length (by omega)]
  exact h k g
 ·have:k=T.length:=by omega
  subst this
  have e1:(T ++ [e]).getD T.length 0=e:=by
   rw [List.getD_eq_getElem?_getD,List.getElem?_append_right (Nat.le_refl _)];simp
  rw [e1,List.take_append_of_le_length (Nat.le_refl _),List.take_length]
  exact he
structure Beg (n:Nat) (es:List (Int × Int)) (k:Nat) (T:List Int):Prop where
 fst:Fst es T
 asc:T.Pairwise (· < ·)
 low:∀ e ∈ T,0<=e/\e<((es.length - k:Nat):Int)
 len:T.length+1<=n
theorem Beg.ed {n:Nat}{es:List (Int × Int)}{k:Nat}{T:List Int}(h:Beg n es k T):EdIn es T:=fun e he=>by have:=h.low e he;omega
theorem Beg.nil {n:Nat}(hn:1<=n)(es:List (Int × Int)):Beg n es es.length []:=⟨Fst.nil es,.nil,fun e he=>by simp at he,hn⟩
theorem Beg.skip {n:Nat}{es:List (Int × Int)}{k:Nat}{T:List Int}(h:Beg n es (k+1) T):Beg n es k T:=⟨h.fst,h.asc,fun e he=>by have:=h.low e he;omega,h.len⟩
theorem Beg.snoc {n:Nat}{es:List (Int × Int)}(hg:Grd (n:Int) es){k:Nat}{T:List Int}(h:Beg n es (k+1) T)(hk:k+1<=es.length)(hl:T.length+1 ≠ n)(hj:¬ jnB es n T (enA es ((es.length - (k+1):Nat):Int)) (enB es ((es.length - (k+1):Nat):Int))=true):Beg n es k (T ++ [((es.length - (k+1):Nat):Int)]):=by
 have he:(0:Int)<=((es.length - (k+1):Nat):Int)/\((es.length - (k+1):Nat):Int)<es.length:=by omega
 have hen:=en_eq hg he
 refine ⟨h.fst.snoc fun q=>hj ((jnB_iff hg h.ed (by omega) (by omega)).2 q),?_,fun e hm=>?_,by have:=h.len;simp;omega⟩
 ·rw [List.pairwise_append]
  exact ⟨h.asc,by simp,fun a ha b hb=>by rw [List.mem_singleton.1 hb];exact (h.low a ha).2⟩
 ·rcases List.mem_append.1 hm with q | q
  ·have:=h.low e q;omega
  ·rw [List.mem_singleton.1 q];omega
end Go.Proofs.YtlcipphiflcaiaaGreat.Ai
namespace Go.Proofs.YtlcipphiflcaiaaGreat.Ai
open Go Go.RowKit
structure JS (n:Nat) (J:List Int) (rt d:Nat->Nat):Prop where
 len:J.length=n
 nxt:∀ x,x<n->∃ y:Nat,J.getD x 0=(y:Int)/\y<n/\rt y=rt x/\(y=x->rt x=x)/\(y ≠ x->d y<d x)
 top:∀ x,x<n->rt x<n/\J.getD (rt x) 0=(rt x:Int)
theorem JS.rr {n:Nat}{J:List Int}{rt d:Nat->Nat}(h:JS n J rt d){x:Nat}(hx:x<n):rt (rt x)=rt x:=by
 obtain ⟨t1,t2⟩:=h.top x hx
 obtain ⟨y,y1,_,y3,y4,_⟩:=h.nxt (rt x) t1
 exact y4 (by rw [t2] at y1;omega)
theorem alls_at {n x:Nat}(h:x<n):(alls n).getD x 0=(x:Int):=by simp [alls,h]
theorem JS.zero (n:Nat):JS n (alls n) id fun _=>0 :=
 ⟨by simp [alls],fun x hx=>⟨x,alls_at hx,hx,rfl,fun _=>rfl,fun q=>absurd rfl q⟩,fun x hx=>⟨hx,alls_at hx⟩⟩
theorem getD_setI (xs:List Int)(j v:Nat)(d:Int)(hj:j<xs.length):(xs.set j d).getD v 0=if j=v then d else xs.getD v 0:=by
 simp only [List.getD_eq_getElem?_getD,List.getElem?_set]
 split
 ·rename_i e
  subst e
  first | rfl | (rw [if_pos hj];rfl)
 ·rfl
theorem JS.join {n:Nat}{J:List Int}{rt d:Nat->Nat}(h:JS n J rt d){a b:Nat}(ha:a<n)(hb:b<n) :
  ∃ d',JS n (J.set (rt a) (rt b:Int)) (fun x=>if rt x=rt a then rt b else rt x) d':=by
 have ra:=h.rr ha
 have rb:=h.rr hb
 have ta:=h.top a ha
 have tb:=h.top b hb
 have hl:rt a<J.length:=by rw [h.len];exact ta.1
 refine ⟨fun x=>if rt x=rt a/\rt a ≠ rt b then d x+d (rt b)+1 else d x,by rw [List.length_set];exact h.len,fun x hx=>?_,fun x hx=>?_⟩
 ·rw [getD_setI _ _ _ _ hl]
  by_cases e:rt a=x
  ·refine ⟨rt b,if_pos e,tb.1,?_,fun q=>?_,fun q=>?_⟩
   ·show (if rt (rt b)=rt a then rt b else rt (rt b))=if rt x=rt a then rt b else rt x
    rw [rb,<- e,ra,if_pos rfl]
    split <;> rfl
   ·show (if rt x=rt a then rt b else rt x)=x
    rw [<- e,ra,if_pos rfl,q,e]
   ·show (if rt (rt b)=rt a/\rt a ≠ rt b then _ else _)<(if rt x=rt a/\rt a ≠ rt b then _ else _)
    have hne:rt a ≠ rt b:=fun g=>q (by rw [<- g,e])
    rw [rb,if_neg (fun g=>hne g.1.symm),<- e,ra,if_pos ⟨rfl,hne⟩]
    omega
  ·obtain ⟨y,y1,y2,y3,y4,y5⟩:=h.nxt x hx
   refine ⟨y,by rw [if_neg e];exact y1,y2,?_,fun q=>?_,fun q=>?_⟩
   ·show (if rt y=rt a then rt b else rt y)=if rt x=rt a then rt b else rt x
    rw [y3]
   ·show (if rt x=rt a then rt b else rt x)=x
    have:=y4 q
    rw [this,if_neg fun g=>e g.symm]
   ·show (if rt y=rt a/\rt a ≠ rt b then _ else _)<(if rt x=rt a/\rt a ≠ rt b then _ else _)
    have:=y5 q
    rw [y3]
    split <;> omega
 ·show (if rt x=rt a then rt b else rt x)<n/\(J.set (rt a) (rt b:Int)).getD (if rt x=rt a then rt b else rt x) 0=((if rt x=rt a then rt b else rt x:Nat):Int)
  rw [getD_setI _ _ _ _ hl]
  have tx:=h.top x hx
  by_cases e:rt x=rt a
  ·rw [if_pos e]
   refine ⟨tb.1,?_⟩
   split
   ·rfl
   ·exact tb.2
  ·rw [if_neg e,if_neg fun g=>e g.symm]
   exact tx
def JR (es:List (Int × Int))(T:List Int)(n:Nat)(J:List Int):Prop:=∃ rt d,JS n J rt d/\∀ u v,u<n->v<n->(Jn es T u v↔rt u=rt v)
theorem JR.zero (es:List (Int × Int))(n:Nat):JR es [] n (alls n):=⟨_,_,JS.zero n,fun u v _ _=>⟨fun h=>h.nil,fun h=>by have:u=v:=h;subst this;exact .refl u⟩⟩
theorem JR.congr {es:List (Int × Int)}{T U:List Int}{n:Nat}{J:List Int}(h:JR es T n J)(hs:∀ x,x ∈ T↔x ∈ U):JR es U n J:=by
 obtain ⟨rt,d,h1,h2⟩:=h
 exact ⟨rt,d,h1,fun u v hu hv=>⟨fun q=>(h2 u v hu hv).1 (q.mono fun x hx=>(hs x).2 hx),fun q=>((h2 u v hu hv).2 q).mono fun x hx=>(hs x).1 hx⟩⟩
theorem JS.rel {es:List (Int × Int)}{T U:List Int}{n:Nat}{J:List Int}{rt d:Nat->Nat}(h:JS n J rt d)(hr:∀ u v,u<n->v<n->(Jn es T u v↔rt u=rt v)){e:Int}(ha:enA es e<n)(hb:enB es e<n)(hs:∀ x,x ∈ U↔x ∈ T∨x=e) :
  JR es U n (J.set (rt (enA es e)) (rt (enB es e):Int)):=by
 obtain ⟨d',hj⟩:=h.join ha hb
 refine ⟨_,d',hj,fun u v hu hv=>?_⟩
 show _↔(if rt u=rt (enA es e) then rt (enB es e) else rt u)=if rt v=rt (enA es e) then rt (enB es e) else rt v
 have sub:∀ x ∈ T,x ∈ U:=fun x hx=>(hs x).2 (.inl hx)
 constructor
 ·intro hj
  rcases Jn.add (fun x hx=>(hs x).1 hx) hj with q | ⟨q1,q2⟩ | ⟨q1,q2⟩
  ·rw [(hr u v hu hv).1 q]
  ·rw [if_pos ((hr _ _ hu ha).1 q1),<- (hr _ _ hb hv).1 q2]
   split <;> rfl
  ·have e2:=(hr _ _ ha hv).1 q2
   rw [if_pos e2.symm,(hr _ _ hu hb).1 q1]
   split <;> rfl
 ·intro hq
  have ed:Jn es U (enA es e) (enB es e):=.edge e ((hs e).2 (.inr rfl))
  split at hq <;> split at hq
  ·rename_i g1 g2
   exact ((hr u v hu hv).2 (g1.trans g2.symm)).mono sub
  ·rename_i g1 g2
   exact (((hr _ _ hu ha).2 g1).mono sub).trans (ed.trans (((hr _ _ hb hv).2 hq).mono sub))
  ·rename_i g1 g2
   exact (((hr _ _ hu hb).2 hq).mono sub).trans (ed.symm.trans (((hr _ _ ha hv).2 g2.symm).mono sub))
  ·exact ((hr u v hu hv).2 hq).mono sub
noncomputable instance (n:Nat) (es:List (Int × Int)) (T:List Int):Decidable (TreL n es T):=Classical.propDecidable _
end Go.Proofs.YtlcipphiflcaiaaGreat.Ai
namespace Go.Proofs.YtlcipphiflcaiaaGreat.Ai
open Go Go.RowKit
def Sm (o:List Int):Prop:=o.Pairwise (· < ·)/\∀ z ∈ o,0<=z/\z<8
theorem Sm.len {o:List Int}(h:Sm o):o.length<=8:=by
 have:=nodup_le (a:=o) (b:=(List.range 8).map fun z:Nat=>(z:Int)) (lt_nodup h.1) fun x hx=>by
  have:=h.2 x hx
  exact List.mem_map.2 ⟨x.toNat,List.mem_range.2 (by omega),by omega⟩
 simpa using this
theorem Sm.put {o:List Int}(h:Sm o){x:Int}(hx:0<=x/\x<8):Sm (put o x):=by
 refine ⟨put_sorted _ _ h.1,fun z hz=>?_⟩
 rcases (put_mem _ _ _).1 hz with rfl | hz
 ·exact hx
 ·exact h.2 z hz
theorem Sm.nil:Sm []:=⟨List.Pairwise.nil,fun z hz=>by simp at hz⟩
theorem Sm.one {x:Int}(hx:0<=x/\x<8):Sm [x]:=⟨List.pairwise_singleton _ _,fun z hz=>by simp at hz;subst hz;exact hx⟩
theorem end_cell3 (P:Program)(a b c:Nat)(t:TypeId)(R:Value->AH->Prop)(s:Sl)(H:AH)(v w x:Value)(h:loadA P t (s a) H=some v)(ht:isTup v=false)(hb:s b=w)(hw:isTup w=false)(hc:s c=x)(hx:isTup x=false)(hr:R (.tuple (List.toArray [v,w,x])) H):endA P [.cell a t,.tmp b,.tmp c] R .ret s H:=by
 subst hb
 subst hc
 simp only [endA,resA,h,ht]
 simp [hw,hx,outA]
 exact hr
end Go.Proofs.YtlcipphiflcaiaaGreat.Ai
