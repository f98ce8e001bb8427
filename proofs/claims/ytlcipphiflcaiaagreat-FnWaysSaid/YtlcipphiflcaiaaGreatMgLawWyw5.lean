/- Texts of this claim, joined: Dsl, DfL, WyP, Lst, Chg, Spc, MarkS, OrN, AdjP, Adj, WyI, WyJ, App9, WyS, SlW, Cyc, SwapC, TkH, LayP, SpP, SrtO. -/
import Derived.Test.YtlcipphiflcaiaaGreatProg
import Derived.KernelRfl
import Derived.Test.YtlcipphiflcaiaaGreatMgLawWyw4
set_option linter.unusedVariables false
set_option linter.unusedSimpArgs false
set_option maxHeartbeats 8000000
set_option maxRecDepth 20000
namespace Go.Proofs.YtlcipphiflcaiaaGreat.Ai
open Go Go.RowKit
def cd105:Cd:=(.seq (.reg [⟨⟨some 3,.box 26 (.tmp 1),none⟩,[]⟩,⟨⟨some 4,.assign (.const (.int .i64 0)),none⟩,[]⟩]) (.seq (.seq (.reg [⟨⟨some 5,.fieldAddr 26 (.tmp 3) 0,none⟩,[]⟩,⟨⟨some 6,.load 3 (.tmp 5),none⟩,[]⟩,⟨⟨some 7,.binOp .lss 3 (.tmp 6) (.const (.int .i64 1)) 3,none⟩,[]⟩,⟨⟨some 8,.move (.tmp 7),none⟩,[]⟩,⟨⟨some 9,.fieldAddr 26 (.tmp 3) 0,some (8,false)⟩,[]⟩,⟨⟨some 10,.load 3 (.tmp 9),some (8,false)⟩,[]⟩,⟨⟨some 11,.binOp .gtr 3 (.tmp 10) (.const (.int .i64 8)) 3,some (8,false)⟩,[]⟩,⟨⟨some 12,.pick (.tmp 8) (.const (.bool true)) (.tmp 11),none⟩,[]⟩,⟨⟨some 13,.move (.tmp 12),none⟩,[]⟩,⟨⟨some 14,.move (.tmp 0),some (13,false)⟩,[]⟩,⟨⟨some 15,.call ⟨(.value (.func 86)),#[.tmp 14,(.const (.int .i64 24))],#[64,3]⟩,some (13,false)⟩,[]⟩,
 ⟨⟨some 16,.pick (.tmp 13) (.const (.bool true)) (.tmp 15),none⟩,[]⟩]) (.cond (.tmp 16) (.seq (.reg [⟨⟨some 17,.move (.tmp 0),none⟩,[]⟩,
  ⟨⟨some 18,.buildSlice 27 4 #[(0,(.const (.int .i64 (-1)))),(1,(.const (.int .i64 0))),(2,(.const (.int .i64 8))),(3,(.const (.int .i64 4611686018427387904)))],none⟩,[]⟩,
  ⟨⟨some 19,.call ⟨(.value (.func 108)),#[.tmp 17,.tmp 18],#[64,27]⟩,none⟩,[]⟩,
  ⟨⟨some 4,.assign (.tmp 19),none⟩,[]⟩]) .ret) .skip)) (.seq (.reg [⟨⟨some 20,.move (.tmp 0),none⟩,[]⟩,
  ⟨⟨some 21,.fieldAddr 26 (.tmp 3) 0,none⟩,[]⟩,
  ⟨⟨some 22,.load 3 (.tmp 21),none⟩,[]⟩,
  ⟨⟨some 23,.call ⟨(.value (.func 107)),#[.tmp 20,.tmp 22],#[64,3]⟩,none⟩,[]⟩,
  ⟨⟨some 4,.assign (.tmp 23),none⟩,[]⟩]) .ret)))
theorem in105:InT Tryz.prog 105 2 [.tmp 4] cd105:=InT.mk (by kernel_rfl) [] Tryz.func105 rfl (by kernel_rfl) (by kernel_rfl) (of_decide_eq_true (by kernel_rfl)) (by kernel_rfl)
end Go.Proofs.YtlcipphiflcaiaaGreat.Ai
namespace Go.Proofs.YtlcipphiflcaiaaGreat.Ai
open Go Go.RowKit
def LsOk (p:List Int):Prop:=p.length<=30/\∀ y ∈ p,I64 y
theorem row_keeps {e:TypeId}{H H':AH}{o:Nat}{v:Value}{xs:List Int}(h:Row e H v xs)(hv:v=.slice none 0 0∨rowO v ≠ o)(hk:Keeps o H H'):Row e H' v xs:=by
 rcases hv with e1 | e1
 ·rcases h with z | ⟨_,_,_,_,z,_⟩
  ·exact .inl z
  ·rw [e1] at z;cases z
 ·exact h.mono fun y hy=>hk.2 _ _ e1 hy
theorem rowP_keeps {e:TypeId}{H H':AH}{o:Nat}{v:Value}{xs:List (Int × Int)}(h:RowP e H v xs)(hv:v=.slice none 0 0∨rowO v ≠ o)(hk:Keeps o H H'):RowP e H' v xs:=by
 rcases hv with e1 | e1
 ·exact .inl ⟨e1,h.nilv e1⟩
 ·exact h.mono fun y hy=>hk.2 _ _ e1 hy
structure SlSt (H:AH) (o gp:Nat) (n:Int) (w:Value) (es:List (Int × Int)) (a:Value) (p:List Int) (v:Value) (us:List Value) (N:Nat) (K:AH):Prop where
 eo:o=H.length+1
 c0:K[H.length]?=some (.cells [.int .i64 0,.slice none 0 0] 26 false)
 cg:K[gp]?=some (.cells [.int .i64 n,w] 26 false)
 gp2:H.length+2<=gp
 rw_:RowP 115 K w es
 lw:w=.slice none 0 0∨H.length+2<=rowO w
 ra:Row 3 K a p
 la:a=.slice none 0 0∨H.length+2<=rowO a
 cr:Cur K o v us N
 pr:H<+:K
theorem SlSt.keeps {H:AH}{o gp:Nat}{n:Int}{w:Value}{es:List (Int × Int)}{a:Value}{p:List Int}{v:Value}{us:List Value}{N M:Nat}{K L:AH}(h:SlSt H o gp n w es a p v us N K)(hk:Keeps o K L)(hc:Cur L o v us M):SlSt H o gp n w es a p v us M L:=by
 have e:=h.eo
 have g:=h.gp2
 exact ⟨e,hk.2 _ _ (by omega) h.c0,hk.2 _ _ (by omega) h.cg,g,rowP_keeps h.rw_ (h.lw.imp id fun q=>by omega) hk,h.lw,row_keeps h.ra (h.la.imp id fun q=>by omega) hk,h.la,hc,prefix_of fun j y hy=>hk.2 j y (by have:=at_lt hy;omega) (pre_at h.pr hy)⟩
theorem SlSt.pre {H:AH}{o gp:Nat}{n:Int}{w:Value}{es:List (Int × Int)}{a:Value}{p:List Int}{v:Value}{us:List Value}{N:Nat}{K L:AH}(h:SlSt H o gp n w es a p v us N K)(hp:K<+:L):SlSt H o gp n w es a p v us N L :=
 h.keeps (.of_pre hp) (h.cr.pre hp)
theorem SlSt.more {H:AH}{o gp:Nat}{n:Int}{w:Value}{es:List (Int × Int)}{a:Value}{p:List Int}{v:Value}{us:List Value}{N M:Nat}{K:AH}(h:SlSt H o gp n w es a p v us N K)(hm:N<=M):SlSt H o gp n w es a p v us M K :=
 { h with cr:=h.cr.more hm }
theorem SlSt.fin {H:AH}{o gp:Nat}{n:Int}{w:Value}{es:List (Int × Int)}{a:Value}{p:List Int}{v:Value}{us:List Value}{N:Nat}{K:AH}(h:SlSt H o gp n w es a p v us N K){b:Value}{q:List Int}(hb:Row 3 K b q)(lb:b=.slice none 0 0∨H.length+2<=rowO b) :
  (K.set H.length (.cells [.int .i64 n,w] 26 false))[H.length]?=some (.cells [.int .i64 n,w] 26 false)/\RowP 115 (K.set H.length (.cells [.int .i64 n,w] 26 false)) w es/\Row 3 (K.set H.length (.cells [.int .i64 n,w] 26 false)) a p/\Row 3 (K.set H.length (.cells [.int .i64 n,w] 26 false)) b q/\H<+:(K.set H.length (.cells [.int .i64 n,w] 26 false)):=by
 have hk:Keeps H.length K (K.set H.length (.cells [.int .i64 n,w] 26 false)):=⟨by simp,fun j y hj hy=>by rw [List.getElem?_set_ne (fun e=>hj e.symm)];exact hy⟩
 exact ⟨at_set h.c0,rowP_keeps h.rw_ (h.lw.imp id fun q=>by omega) hk,row_keeps h.ra (h.la.imp id fun q=>by omega) hk,row_keeps hb (lb.imp id fun q=>by omega) hk,prefix_of fun j y hy=>hk.2 j y (by have:=at_lt hy;omega) (pre_at h.pr hy)⟩
theorem row_lt {e:TypeId}{K:AH}{v:Value}{xs:List Int}(h:Row e K v xs):v=.slice none 0 0∨rowO v<K.length:=by
 rcases h with z | ⟨o,k,vs,ro,z,z2,_⟩
 ·exact .inl z.1
 ·right;rw [z];exact at_lt z2
theorem rowP_lt {e:TypeId}{K:AH}{v:Value}{xs:List (Int × Int)}(h:RowP e K v xs):v=.slice none 0 0∨rowO v<K.length:=by
 rcases h with z | ⟨o,k,vs,ro,z,z2,_⟩
 ·exact .inl z.1
 ·right;rw [z];exact at_lt z2
theorem rowP_ne {K:AH}{j:Nat}{v:Value}{xs:List (Int × Int)}{cs:List Value}(h:RowP 115 K v xs)(hj:K[j]?=some (.cells cs 26 false)):v=.slice none 0 0∨rowO v ≠ j:=by
 rcases h with z | ⟨o,k,vs,ro,z,z2,_⟩
 ·exact .inl z.1
 ·right
  rw [z]
  intro e
  have e':o=j:=e
  subst e'
  have:=z2.symm.trans hj
  simp at this
def Frs (H:AH)(o gp:Nat)(w a b:Value):Prop:=rowO b ≠ H.length/\rowO b ≠ o/\rowO b ≠ gp/\(w=.slice none 0 0∨rowO w ≠ rowO b)/\(a=.slice none 0 0∨rowO a ≠ rowO b)
theorem SlSt.frs {H:AH}{o gp:Nat}{n:Int}{w:Value}{es:List (Int × Int)}{a:Value}{p:List Int}{v:Value}{us:List Value}{N:Nat}{K:AH}(h:SlSt H o gp n w es a p v us N K){b:Value}(hb:K.length<=rowO b):Frs H o gp w a b:=by
 have h1:=at_lt h.c0
 have h2:=at_lt h.cg
 have h3:o<K.length:=by
  obtain ⟨_,_,g,_⟩:=h.cr.cur
  exact at_lt g
 exact ⟨by omega,by omega,by omega,(rowP_lt h.rw_).imp id fun q=>by omega,(row_lt h.ra).imp id fun q=>by omega⟩
theorem SlSt.kept {H:AH}{o gp:Nat}{n:Int}{w:Value}{es:List (Int × Int)}{a:Value}{p:List Int}{v:Value}{us:List Value}{N:Nat}{K L:AH}(h:SlSt H o gp n w es a p v us N K)(hB:Byt H v us){b:Value}(hf:Frs H o gp w a b)(hk:Kept b K L)(hp:H<+:L):SlSt H o gp n w es a p v us N L:=by
 obtain ⟨f1,f2,f3,f4,f5⟩:=hf
 have hK:∀ (j:Nat) (y:AObj),j ≠ rowO b->K[j]?=some y->L[j]?=some y:=fun j y hj hy=>hk j y (.inr hj) hy
 refine ⟨h.eo,hK _ _ (fun e=>f1 e.symm) h.c0,hK _ _ (fun e=>f3 e.symm) h.cg,h.gp2,?_,h.lw,?_,h.la,?_,hp⟩
 ·rcases f4 with e | e
  ·exact .inl ⟨e,h.rw_.nilv e⟩
  ·exact h.rw_.mono fun y hy=>hK _ _ e hy
 ·rcases f5 with e1 | e1
  ·rcases h.ra with z | ⟨_,_,_,_,z,_⟩
   ·exact .inl z
   ·rw [e1] at z;cases z
  ·exact h.ra.mono fun y hy=>hK _ _ e1 hy
 ·obtain ⟨x1,x2,x3,x4⟩:=h.cr.cur
  exact ⟨⟨x1,x2,hK _ _ (fun e=>f2 e.symm) x3,x4⟩,hB.row.pre hp,h.cr.byt,h.cr.ap,h.cr.le⟩
theorem SlSt.app {H:AH}{o gp:Nat}{n:Int}{w:Value}{es:List (Int × Int)}{a:Value}{p:List Int}{v:Value}{us:List Value}{N:Nat}{K:AH}(h:SlSt H o gp n w es a p v us N K)(hB:Byt H v us){b:Value}{q:List Int}(hb:Own 3 H K b q)(hf:Frs H o gp w a b)(hq:q.length<=1000)(x:Int) :
  ∃ b' L,appendA Tryz.prog 27 27 b (.slice (some ⟨K.length,0,none⟩) 1 1) (K ++ [.cells [.int .i64 x] 3 false])=some (b',L)/\isTup b'=false/\Own 3 H L b' (q ++ [x])/\Frs H o gp w a b'/\SlSt H o gp n w es a p v us N L:=by
 obtain ⟨b',L,j1,j2,j3,j4,j5,j6⟩:=own1_27 hb h.pr (by omega) x
 have hL:=h.kept hB hf j4 j3
 exact ⟨b',L,j1,j6,j2,h.frs j5,hL⟩
def DrawR (H:AH)(r:Value)(H':AH):Prop:=∃ (n:Int) (w a b:Value) (es:List (Int × Int)) (p q:List Int),r=.tuple (List.toArray [.agg (List.toArray [.int .i64 n,w]),a,b])/\RowP 115 H' w es/\es.length<=200/\I64 n/\Sml es/\Row 3 H' a p/\LsOk p/\Row 3 H' b q/\LsOk q/\H<+:H'
theorem node_c {H:AH}{o:Nat}{v w:Value}{us:List Value}{N:Nat}{es:List (Int × Int)}(h:Cur H o v us N)(hN:N<=99000000)(n:Int)(hw:RowP 115 H w es) :
  ACalls Tryz.prog 105 [.pointer (some ⟨o,0,none⟩),.agg (List.toArray [.int .i64 n,w])] H fun r H'=>(∃ e:Int,r=.int .i64 e /\ -1<=e/\e<=4611686018427387904)/\Cur H' o v us (N+3)/\Keeps o H H':=by
 have ho:o<H.length:=by
  obtain ⟨_,_,g,_⟩:=h.cur
  exact at_lt g
 refine in105 rfl ?_
 intro Q hQ
 simp (disch:=omega) only [cd105,hw.boxG,SS,eq_self,reduceIte,reduceCtorEq,Nat.reduceEqDiff,Nat.reduceAdd]
 generalize hA:H ++ [AObj.cells [.int .i64 n,w] 26 false]=A
 have pA:H<+:A:=by rw [<- hA];exact List.prefix_append _ _
 have cA:A[H.length]?=some (.cells [.int .i64 n,w] 26 false):=by rw [<- hA];exact at_new ..
 have rA:=hw.pre pA
 have lA:A.length=H.length+1:=by rw [<- hA];simp
 have blK1:∀ H0:AH,buildSliceA Tryz.prog 27 4 [(0,.int .i64 (-1)),(1,.int .i64 0),(2,.int .i64 8),(3,.int .i64 4611686018427387904)] H0=some (.slice (some ⟨H0.length,0,none⟩) 4 4,H0 ++ [.cells [.int .i64 (-1),.int .i64 0,.int .i64 8,.int .i64 4611686018427387904] 3 false]):=fun H0=>by kernel_rfl
 have amg:∀ {K:AH} {M:Nat},Cur K o v us M->M<=N+1->Keeps o H K->ACalls Tryz.prog 108 [.pointer (some ⟨o,0,none⟩),.slice (some ⟨K.length,0,none⟩) 4 4] (K ++ [.cells [.int .i64 (-1),.int .i64 0,.int .i64 8,.int .i64 4611686018427387904] 3 false]) fun r H'=>(∃ e:Int,r=.int .i64 e /\ -1<=e/\e<=4611686018427387904)/\Cur H' o v us (N+3)/\Keeps o H H':=by
  intro K M hC hM hK
  have pX:K<+:K ++ [AObj.cells [.int .i64 (-1),.int .i64 0,.int .i64 8,.int .i64 4611686018427387904] 3 false]:=List.prefix_append _ _
  have wX:Row 3 (K ++ [AObj.cells [.int .i64 (-1),.int .i64 0,.int .i64 8,.int .i64 4611686018427387904] 3 false]) (.slice (some ⟨K.length,0,none⟩) 4 4) [-1,0,8,4611686018427387904]:=.inr ⟨K.length,0,_,false,rfl,at_new ..,by simp,rfl⟩
  refine (among_c (hC.pre pX) (by omega) wX (by have:=hK.1;show K.length ≠ o;omega) (by simp)).mono fun r H' hr=>?_
  obtain ⟨⟨x,rfl,hx⟩,x1,x2⟩:=hr
  exact ⟨⟨x,rfl,by simp at hx;omega⟩,x1.more (by omega),hK.trans ((Keeps.of_pre pX).trans x2.keeps)⟩
 simp (disch:=omega) only [cell_of cA,SS,eq_self,reduceIte,reduceCtorEq,Nat.reduceEqDiff,Nat.reduceAdd]
 by_cases e1:n<1
 ·simp (disch:=omega) only [decide_eq_true e1,blK1,SS,eq_self,reduceIte,reduceCtorEq,Nat.reduceEqDiff,Nat.reduceAdd]
  refine CallH.by (amg (h.pre pA) (by omega) (.of_pre pA)) ?_
  rintro _ D ⟨⟨e,rfl,he⟩,hD⟩
  simp (disch:=omega) only [SS,eq_self,reduceIte,reduceCtorEq,Nat.reduceEqDiff,Nat.reduceAdd]
  refine hQ _ _ _ ?_
  simp (disch:=omega) only [SS,eq_self,reduceIte,reduceCtorEq,Nat.reduceEqDiff,Nat.reduceAdd]
  exact ⟨⟨e,rfl,he⟩,hD⟩
 simp (disch:=omega) only [decide_eq_false e1,cell_of cA,SS,eq_self,reduceIte,reduceCtorEq,Nat.reduceEqDiff,Nat.reduceAdd]
 by_cases e2:(8:Int)<n
 ·simp (disch:=omega) only [decide_eq_true e2,blK1,SS,eq_self,reduceIte,reduceCtorEq,Nat.reduceEqDiff,Nat.reduceAdd]
  refine CallH.by (amg (h.pre pA) (by omega) (.of_pre pA)) ?_
  rintro _ D ⟨⟨e,rfl,he⟩,hD⟩
  simp (disch:=omega) only [SS,eq_self,reduceIte,reduceCtorEq,Nat.reduceEqDiff,Nat.reduceAdd]
  refine hQ _ _ _ ?_
  simp (disch:=omega) only [SS,eq_self,reduceIte,reduceCtorEq,Nat.reduceEqDiff,Nat.reduceAdd]
  exact ⟨⟨e,rfl,he⟩,hD⟩
 simp (disch:=omega) only [decide_eq_false e2,SS,eq_self,reduceIte,reduceCtorEq,Nat.reduceEqDiff,Nat.reduceAdd]
 refine CallH.by (one_c (h.pre pA) (by omega) 24 (by omega)) ?_
 rintro _ D ⟨⟨b,rfl⟩,hCD,oD⟩
 have kHD:Keeps o H D:=(Keeps.of_pre pA).trans oD.keeps
 have cD:=oD.2 _ _ (by omega) cA
 simp (disch:=omega) only [SS,eq_self,reduceIte,reduceCtorEq,Nat.reduceEqDiff,Nat.reduceAdd]
 cases b with
 | true =>
  refine brH.intro (fun _=>?_) (fun q=>by cases q)
  simp (disch:=omega) only [blK1,SS,eq_self,reduceIte,reduceCtorEq,Nat.reduceEqDiff,Nat.reduceAdd]
  refine CallH.by (amg hCD (by omega) kHD) ?_
  rintro _ E ⟨⟨e,rfl,he⟩,hE⟩
  simp (disch:=omega) only [SS,eq_self,reduceIte,reduceCtorEq,Nat.reduceEqDiff,Nat.reduceAdd]
  refine hQ _ _ _ ?_
  simp (disch:=omega) only [SS,eq_self,reduceIte,reduceCtorEq,Nat.reduceEqDiff,Nat.reduceAdd]
  exact ⟨⟨e,rfl,he⟩,hE⟩
 | false =>
  refine brH.intro (fun q=>by cases q) (fun _=>?_)
  simp (disch:=omega) only [cell_of cD,SS,eq_self,reduceIte,reduceCtorEq,Nat.reduceEqDiff,Nat.reduceAdd]
  refine CallH.by (pick_c hCD (by omega) n (by omega)) ?_
  rintro _ E ⟨⟨k,rfl,hk⟩,hCE,oE⟩
  simp (disch:=omega) only [SS,eq_self,reduceIte,reduceCtorEq,Nat.reduceEqDiff,Nat.reduceAdd]
  refine hQ _ _ _ ?_
  simp (disch:=omega) only [SS,eq_self,reduceIte,reduceCtorEq,Nat.reduceEqDiff,Nat.reduceAdd]
  exact ⟨⟨(k:Int),rfl,by omega,by omega⟩,hCE.more (by omega),kHD.trans oE.keeps⟩
def dfF (a b:List Int):Nat->List Int
 | 0=>[]
 | k+1=>dfF a b k ++ (if a.getD k 0 ≠ b.getD k 0 then [(k:Int)] else [])
def dfL (a b:List Int):List Int:=dfF a b a.length
theorem dfF_len (a b:List Int):∀ k,(dfF a b k).length<=k
 | 0=>Nat.le_refl _
 | k+1=>by
  have:=dfF_len a b k
  simp only [dfF,List.length_append]
  split <;> simp <;> omega
def wT (far:List Int)(rec:Int->List Int->List (List Int))(d:Int)(b:List Int):List Int->List (List Int)
 | []=>[]
 | y :: r=>(if far.getD y.toNat 0=d then rec y (b ++ [y]) else []) ++ wT far rec d b r
def wA (L:List (List Int))(far:List Int):Nat->Int->List Int->List (List Int)
 | 0,_,b=>[b]
 | d+1,x,b=>wT far (wA L far d) (d:Int) b (L.getD x.toNat [])
def wNT (far:List Int)(rec:Int->Nat)(d:Int):List Int->Nat
 | []=>0
 | y :: r=>(if far.getD y.toNat 0=d then rec y else 0)+wNT far rec d r
def wN (L:List (List Int))(far:List Int):Nat->Int->Nat
 | 0,_=>1
 | d+1,x=>wNT far (wN L far d) (d:Int) (L.getD x.toNat [])
theorem wT_len {far:List Int}{rec:Int->List Int->List (List Int)}{cnt:Int->Nat}(h:∀ y b,(rec y b).length=cnt y)(d:Int)(b:List Int):∀ l,(wT far rec d b l).length=wNT far cnt d l
 | []=>rfl
 | y :: r=>by
  simp only [wT,wNT,List.length_append,wT_len h d b r]
  split <;> simp [h]
theorem wA_len (L:List (List Int))(far:List Int):∀ d x b,(wA L far d x b).length=wN L far d x
 | 0,_,_=>rfl
 | d+1,x,b=>wT_len (wA_len L far d) _ _ _
theorem wNT_append (far:List Int)(rec:Int->Nat)(d:Int):∀ l m,wNT far rec d (l ++ m)=wNT far rec d l+wNT far rec d m
 | [],m=>by simp [wNT]
 | y :: r,m=>by simp only [List.cons_append,wNT,wNT_append far rec d r m];omega
theorem wT_mem {far:List Int}{rec:Int->List Int->List (List Int)}{d:Int}{b:List Int}{w:List Int}:∀ {l},w ∈ wT far rec d b l->∃ y ∈ l,far.getD y.toNat 0=d/\w ∈ rec y (b ++ [y])
 | [],h=>by simp [wT] at h
 | y :: r,h=>by
  simp only [wT,List.mem_append] at h
  rcases h with h | h
  ·split at h
   ·rename_i e;exact ⟨y,by simp,e,h⟩
   ·simp at h
  ·obtain ⟨z,h1,h2⟩:=wT_mem h
   exact ⟨z,by simp [h1],h2⟩
theorem wA_pre (L:List (List Int))(far:List Int):∀ d x b,∀ w ∈ wA L far d x b,∃ r,w=b ++ r/\r.length=d/\∀ z ∈ r,∃ u:Nat,z ∈ L.getD u []
 | 0,x,b,w,h=>by
  simp only [wA,List.mem_singleton] at h
  exact ⟨[],by simp [h],rfl,by simp⟩
 | d+1,x,b,w,h=>by
  obtain ⟨y,h1,_,h3⟩:=wT_mem (show w ∈ wT far (wA L far d) (d:Int) b (L.getD x.toNat []) from h)
  obtain ⟨r,r1,r2,r3⟩:=wA_pre L far d y (b ++ [y]) w h3
  refine ⟨y :: r,by rw [r1];simp,by simp [r2],fun z hz=>?_⟩
  rcases List.mem_cons.1 hz with rfl | hz
  ·exact ⟨x.toNat,h1⟩
  ·exact r3 z hz
theorem wT_pw {L:List (List Int)}{far:List Int}{d:Nat}{b:List Int}(ih:∀ x b,(wA L far d x b).Pairwise fun x y=>0<cmpL y x):∀ l:List Int,l.Pairwise (· < ·)->(wT far (wA L far d) (d:Int) b l).Pairwise fun x y=>0<cmpL y x
  | [],_=>.nil
  | y :: r,hl=>by
    have hl':=List.pairwise_cons.1 hl
    simp only [wT]
    rw [List.pairwise_append]
    refine ⟨by split
               . exact ih _ _
               . exact .nil,wT_pw ih r hl'.2,fun u hu v hv=>?_⟩
    split at hu
    . obtain ⟨p,p1,_,_⟩:=wA_pre L far d y _ u hu
      obtain ⟨z,z1,_,z3⟩:=wT_mem hv
      obtain ⟨q,q1,_,_⟩:=wA_pre L far d z _ v z3
      rw [p1,q1,List.append_assoc,List.append_assoc]
      exact cmpL_head b p q (hl'.1 z z1)
    . simp at hu
theorem wA_pw {L:List (List Int)}(hs:∀ x,(L.getD x []).Pairwise (· < ·))(far:List Int):∀ d x b,(wA L far d x b).Pairwise fun x y=>0<cmpL y x
 | 0,x,b=>by simp [wA]
 | d+1,x,b=>wT_pw (wA_pw hs far d) _ (hs _)
def mprod (m:Nat):Nat:=[1,1,2,3,4,6,9].getD m 0
theorem mprod_mul:∀ k c:Fin 7,k.1+c.1<=6->k.1 * mprod c.1<=mprod (k.1+c.1):=by decide
theorem mprod_le:∀ c:Fin 7,mprod c.1<=9:=by decide
theorem wNT_le {far:List Int}{rec:Int->Nat}{d:Int}{M:Nat}:∀ {l:List Int},(∀ y ∈ l,far.getD y.toNat 0=d->rec y<=M)->wNT far rec d l<=(l.countP fun y=>decide (far.getD y.toNat 0=d)) * M
 | [],_=>by simp [wNT]
 | y :: r,h=>by
  have ih:=wNT_le (l:=r) fun z hz=>h z (by simp [hz])
  simp only [wNT,List.countP_cons]
  by_cases e:far.getD y.toNat 0=d
  ·have:=h y (by simp) e
   rw [if_pos e,if_pos (by simpa using e),Nat.add_mul,Nat.one_mul];omega
  ·rw [if_neg e,if_neg (by simpa using e),Nat.add_zero];omega
theorem nodup_leA {α:Type}[DecidableEq α]:∀ (l m:List α),l.Nodup->(∀ x ∈ l,x ∈ m)->l.length<=m.length
 | [],m,_,_=>Nat.zero_le _
 | a :: l,m,hn,h=>by
  have ha:=h a (by simp)
  have hn':=List.nodup_cons.1 hn
  have:=nodup_leA l (m.erase a) hn'.2 (fun x hx=>(List.mem_erase_of_ne (fun e=>by subst e;exact hn'.1 hx)).2 (h x (by simp [hx])))
  rw [List.length_erase_of_mem ha] at this
  have:0<m.length:=List.length_pos_of_mem ha
  simp only [List.length_cons]
  omega
theorem cnt_one (y:Nat):∀ n,(List.range n).countP (fun z=>z == y)=if y<n then 1 else 0
 | 0=>by simp
 | n+1=>by
  rw [List.range_succ,List.countP_append,cnt_one y n]
  simp only [List.countP_cons,List.countP_nil,beq_iff_eq]
  split <;> split <;> (try split) <;> omega
theorem nodup_cnt {p:Nat->Bool}{n:Nat}{l:List Int}(hn:l.Nodup)(h:∀ y ∈ l,0<=y/\y<n):(l.countP fun y=>p y.toNat)<=(List.range n).countP p:=by
 rw [List.countP_eq_length_filter,List.countP_eq_length_filter,<- List.length_map (f:=fun z:Int=>z.toNat)]
 refine nodup_leA _ _ ?_ ?_
 ·rw [List.Nodup,List.pairwise_map]
  refine List.Pairwise.imp_of_mem ?_ (hn.filter _)
  intro a b ha hb hab e
  have h1:=h a (List.mem_filter.1 ha).1
  have h2:=h b (List.mem_filter.1 hb).1
  omega
 ·intro y hy
  obtain ⟨z,hz,rfl⟩:=List.mem_map.1 hy
  obtain ⟨h1,h2⟩:=List.mem_filter.1 hz
  have:=h z h1
  exact List.mem_filter.2 ⟨List.mem_range.2 (by omega),h2⟩
def lowC (n:Nat)(far:List Int)(d:Nat):Nat:=(List.range n).countP fun z=>decide (1<=far.getD z 0/\far.getD z 0<d)
def atC (n:Nat)(far:List Int)(d:Nat):Nat:=(List.range n).countP fun z=>decide (far.getD z 0=d)
theorem cnt_or {p q r:Nat->Bool}:∀ l:List Nat,(∀ x,r x=(p x || q x))->(∀ x,¬ (p x=true/\q x=true))->l.countP r=l.countP p+l.countP q
 | [],_,_=>by simp
 | x :: l,h1,h2=>by
  have ih:=cnt_or l h1 h2
  have a:=h1 x
  have b:=h2 x
  simp only [List.countP_cons,ih]
  cases hp:p x <;> cases hq:q x <;> rw [hp,hq] at a <;> simp [a] <;> first | omega | exact absurd ⟨hp,hq⟩ b
theorem lowC_succ (n:Nat)(far:List Int)(d:Nat)(hd:1<=d):lowC n far (d+1)=lowC n far d+atC n far d:=by
 unfold lowC atC
 refine cnt_or _ (fun x=>?_) fun x h=>?_
 ·rw [<- Bool.decide_or]
  exact decide_eq_decide.2 (by omega)
 ·simp only [decide_eq_true_eq] at h;omega
theorem lowC_le {n:Nat}{far:List Int}{d x t:Nat}(hx:x<n)(ht:t<n)(h0:far.getD t 0=0)(hd:far.getD x 0=d)(hd1:1<=d):lowC n far d+2<=n:=by
 have h1:(List.range n).countP (fun z=>decide (1<=far.getD z 0/\far.getD z 0<d) || (z == x || z == t))<=n:=by
  have:=List.countP_le_length (p:=fun z=>decide (1<=far.getD z 0/\far.getD z 0<d) || (z == x || z == t)) (l:=List.range n)
  rwa [List.length_range] at this
 have hne:x ≠ t:=fun e=>by rw [e,h0] at hd;omega
 have cx:∀ y,y<n->(List.range n).countP (fun z=>z == y)=1:=fun y hy=>by rw [cnt_one,if_pos hy]
 have h2:=cnt_or (p:=fun z=>decide (1<=far.getD z 0/\far.getD z 0<d)) (q:=fun z=>z == x || z == t) (r:=fun z=>decide (1<=far.getD z 0/\far.getD z 0<d) || (z == x || z == t)) (List.range n) (fun _=>rfl) fun z h=>by
  simp only [decide_eq_true_eq,Bool.or_eq_true,beq_iff_eq] at h
  rcases h.2 with e | e
  ·rw [e,hd] at h;omega
  ·rw [e,h0] at h;omega
 have h3:=cnt_or (p:=fun z=>z == x) (q:=fun z=>z == t) (r:=fun z=>z == x || z == t) (List.range n) (fun _=>rfl) fun z h=>by
  simp only [beq_iff_eq] at h;omega
 rw [h2,h3,cx x hx,cx t ht] at h1
 exact h1
theorem wN_le {n t:Nat}{L:List (List Int)}{far:List Int}(hn8:n<=8)(ht:t<n)(hl:∀ x,(L.getD x []).Nodup/\∀ y ∈ L.getD x [],0<=y/\y<n)(h0:far.getD t 0=0)(hu:∀ y,y<n->far.getD y 0=0->y=t):∀ (d:Nat) (x:Nat),x<n->far.getD x 0=d->1<=d->wN L far d x<=mprod (lowC n far d)
 | 0,_,_,_,h=>by omega
 | d+1,x,hx,hd,_=>by
  have hlow:=lowC_le hx ht h0 hd (by omega)
  show wNT far (wN L far d) (d:Int) (L.getD (x:Int).toNat [])<=_
  rw [Int.toNat_natCast]
  obtain ⟨nd,rg⟩:=hl x
  have hk:=nodup_cnt (p:=fun z=>decide (far.getD z 0=d)) nd rg
  by_cases e:d=0
  ·subst e
   have h1:=wNT_le (far:=far) (rec:=wN L far 0) (d:=((0:Nat):Int)) (M:=1) (l:=L.getD x []) fun y _ _=>Nat.le_refl _
   have h2:(List.range n).countP (fun z=>decide (far.getD z 0=((0:Nat):Int)))<=(List.range n).countP fun z=>z == t:=by
    refine List.countP_mono_left fun z hz hd=>?_
    simp only [decide_eq_true_eq] at hd
    simp only [beq_iff_eq]
    exact hu z (List.mem_range.1 hz) (by simpa using hd)
   have h3:(List.range n).countP (fun z=>z == t)=1:=by rw [cnt_one,if_pos ht]
   have h4:lowC n far (0+1)=0:=by
    unfold lowC
    rw [List.countP_eq_zero]
    intro z _
    simp only [decide_eq_true_eq];omega
   rw [h4]
   show _<=1
   omega
  ·have ih:∀ y ∈ L.getD x [],far.getD y.toNat 0=(d:Int)->wN L far d y<=mprod (lowC n far d):=fun y hy hyd=>by
    have hr:=rg y hy
    have:=wN_le hn8 ht hl h0 hu d y.toNat (by omega) hyd (by omega)
    rwa [Int.toNat_of_nonneg hr.1] at this
   have h1:=wNT_le (far:=far) (rec:=wN L far d) (d:=(d:Int)) ih
   rw [lowC_succ n far d (by omega)] at hlow ⊢
   have h2:=mprod_mul ⟨atC n far d,by omega⟩ ⟨lowC n far d,by omega⟩ (by simp only;omega)
   simp only at h2
   rw [Nat.add_comm] at h2
   refine Nat.le_trans h1 (Nat.le_trans (Nat.mul_le_mul_right _ hk) h2)
theorem wN_nine {n t:Nat}{L:List (List Int)}{far:List Int}(hn8:n<=8)(ht:t<n)(hl:∀ x,(L.getD x []).Nodup/\∀ y ∈ L.getD x [],0<=y/\y<n)(h0:far.getD t 0=0)(hu:∀ y,y<n->far.getD y 0=0->y=t){d x:Nat}(hx:x<n)(hd:far.getD x 0=d):wN L far d x<=9:=by
 by_cases e:d=0
 ·subst e;show 1<=9;omega
 ·have h1:=wN_le hn8 ht hl h0 hu d x hx hd (by omega)
  have h2:=lowC_le hx ht h0 hd (by omega)
  have:=mprod_le ⟨lowC n far d,by omega⟩
  simp only at this
  omega
theorem roadsL_asc (n:Nat)(es:List (Int × Int))(x:Nat):((roadsL n es).getD x []).Pairwise (· < ·):=by
 by_cases hx:x<n
 ·rw [roadsL_at n es x hx]
  have:∀ k,(nbsU es (x:Int) k).Pairwise (· < ·):=by
   intro k
   induction k with
   | zero=>exact .nil
   | succ k ih =>
    simp only [nbsU]
    rw [List.pairwise_append]
    refine ⟨ih,by split <;> simp,fun a ha b hb=>?_⟩
    have:=((nbsU_mem es (x:Int) k a).1 ha).1
    split at hb
    ·rw [List.mem_singleton] at hb;omega
    ·simp at hb
  exact this n
 ·rw [roadsL_out n es x hx];exact .nil
def farG (n:Int)(es:List (Int × Int))(t:Int):List Int:=bfs (roadsL n.toNat es) t.toNat
abbrev WsOk (n:Int)(es:List (Int × Int))(s t:Int):Prop:=Grd n es/\(0<=s/\s<n)/\(0<=t/\t<n)
def wsL (n:Int)(es:List (Int × Int))(s t:Int):List (List Int) :=
 if WsOk n es s t/\0<=(farG n es t).getD s.toNat 0 then wA (roadsL n.toNat es) (farG n es t) ((farG n es t).getD s.toNat 0).toNat s [s] else []
def chB (x y:List Int):Bool:=decide ((dfL x y).length=1)
structure FarOk (N:Nat) (L:List (List Int)) (far:List Int) (t:Nat):Prop where
 tl:t<N
 ll:L.length=N
 fl:far.length=N
 lok:LOk N L
 asc:∀ x,(L.getD x []).Pairwise (· < ·)
 zero:far.getD t 0=0
 uniq:∀ y,y<N->far.getD y 0=0->y=t
 lo:∀ y,y<N -> -1<=far.getD y 0/\far.getD y 0<N
theorem farG_ok {n:Int}{es:List (Int × Int)}{s t:Int}(h:WsOk n es s t):FarOk n.toNat (roadsL n.toNat es) (farG n es t) t.toNat:=by
 have hl:=roadsL_len n.toNat es
 have hL:=roadsL_ok n.toNat es
 have ht:t.toNat<(roadsL n.toNat es).length:=by rw [hl];omega
 obtain ⟨q,hq⟩:=bfs_DI hL ht
 have hz:=bfs_zero hL ht
 refine ⟨by omega,hl,?_,by rw [hl] at hL;exact hL,fun x=>roadsL_asc _ _ _,hz,fun y hy e=>?_,fun y hy=>?_⟩
 ·have:=hq.bi.len
  rw [hl] at this;exact this
 ·have e':(bfs (roadsL n.toNat es) t.toNat).getD y 0=0:=e
  rcases hq.src y (by omega) (show 0<=(bfs (roadsL n.toNat es) t.toNat).getD y 0 by omega) with ⟨g,_⟩ | ⟨u,u1,u2,u3,u4⟩
  ·exact g
  ·have u2':0<=(bfs (roadsL n.toNat es) t.toNat).getD u 0:=u2
   have u4':(bfs (roadsL n.toNat es) t.toNat).getD y 0=(bfs (roadsL n.toNat es) t.toNat).getD u 0+1:=u4
   omega
 ·have h1:=hq.bi.lo y (by omega)
  have h2:=hq.bi.len_le
  rw [hl] at h2
  have h1a : -1<=(bfs (roadsL n.toNat es) t.toNat).getD y 0:=h1.1
  have h1':(bfs (roadsL n.toNat es) t.toNat).getD y 0<(q.length:Nat):=h1.2
  have h2':q.length<=n.toNat:=h2
  exact ⟨h1a,by show (bfs (roadsL n.toNat es) t.toNat).getD y 0<_;omega⟩
theorem FarOk.nine {N t:Nat}{L:List (List Int)}{far:List Int}(h:FarOk N L far t)(h8:N<=8){d x:Nat}(hx:x<N)(hd:far.getD x 0=d):wN L far d x<=9 :=
 wN_nine h8 h.tl (fun x=>⟨(h.asc x).imp fun h e=>by omega,h.lok x⟩) h.zero h.uniq hx hd
theorem wsL_ok {n:Int}{es:List (Int × Int)}{s t:Int}:SrtL (wsL n es s t)/\(wsL n es s t).length<=9/\(∃ k,k<=8/\∀ l ∈ wsL n es s t,l.length=k)/\∀ l ∈ wsL n es s t,∀ x ∈ l,0<=x/\x<8:=by
 unfold wsL
 split
 ·rename_i h
  obtain ⟨h,h0⟩:=h
  have hf:=farG_ok h
  have h8:=h.1.1
  generalize farG n es t=far at *
  generalize roadsL n.toNat es=L at *
  have hb:=hf.lo s.toNat (by omega)
  obtain ⟨d,hd⟩:∃ d:Nat,far.getD s.toNat 0=d:=⟨(far.getD s.toNat 0).toNat,by omega⟩
  rw [hd,Int.toNat_natCast]
  have hlen:∀ l ∈ wA L far d s [s],l.length=d+1:=fun l hl=>by
   obtain ⟨r,r1,r2,_⟩:=wA_pre L far d s [s] l hl
   rw [r1];simp;omega
  refine ⟨srtL_of (wA_pw hf.asc far d s [s]),?_,⟨d+1,by omega,hlen⟩,fun l hl x hx=>?_⟩
  ·rw [wA_len]
   have:=hf.nine (by omega) (d:=d) (x:=s.toNat) (by omega) hd
   rwa [Int.toNat_of_nonneg h.2.1.1] at this
  ·obtain ⟨r,r1,_,r3⟩:=wA_pre L far d s [s] l hl
   rw [r1] at hx
   rcases List.mem_append.1 hx with q | q
   ·rw [List.mem_singleton] at q;omega
   ·obtain ⟨u,hu⟩:=r3 x q
    have:=hf.lok u x hu
    omega
 ·refine ⟨fun i j _ hj=>by simp at hj,by simp,⟨0,by omega,by simp⟩,by simp⟩
structure LSt (HB:AH) (fx:List (Nat × AObj)) (pe:Nat) (F:Nat->Prop) (H:AH) (ed:List Int):Prop where
 fix:∀ q ∈ fx,H[q.1]?=some q.2/\¬ F q.1/\q.1 ≠ pe
 e:∃ oe zs,H[pe]?=some (.cells [.slice (some ⟨oe,0,none⟩) ed.length ed.length] 27 false)/\H[oe]?=some (.cells (ints zs) 3 false)/\zs.take ed.length=ed/\¬ F oe/\oe ≠ pe/\(∀ q ∈ fx,q.1 ≠ oe)/\HB.length<=oe
 out:¬ F pe
 lo:HB.length<=pe
 pre:HB<+:H
section
variable {HB:AH} {fx:List (Nat × AObj)} {pe:Nat} {F F':Nat->Prop} {H H':AH} {ed:List Int}
theorem LSt.cb (h:LSt HB fx pe F H ed)(hlive:∀ o,F o->HB.length<=o)(hF:∀ o,F' o->F o∨H.length<=o)(hk:∀ o y,¬ F o->H[o]?=some y->H'[o]?=some y):LSt HB fx pe F' H' ed:=by
 obtain ⟨oe,zs,e1,e2,e3,e4,e5⟩:=h.e
 have no:∀ {o x},¬ F o->H[o]?=some x->¬ F' o:=fun ho hx hf=>by
  rcases hF _ hf with g | g
  ·exact ho g
  ·have:=at_lt hx;omega
 refine ⟨fun q hq=>?_,⟨oe,zs,hk _ _ h.out e1,hk _ _ e4 e2,e3,no e4 e2,e5⟩,no h.out e1,h.lo,?_⟩
 ·obtain ⟨q1,q2,q3⟩:=h.fix q hq
  exact ⟨hk _ _ q2 q1,no q2 q1,q3⟩
 ·exact prefix_of fun o x hx=>hk o x (fun hf=>by have:=hlive o hf;have:=at_lt hx;omega) (pre_at h.pre hx)
theorem LSt.row (h:LSt HB fx pe F H ed):∃ w,cellA H pe 0=some w/\Row 3 H w ed/\¬ F (rowO w)/\isTup w=false:=by
 obtain ⟨oe,zs,e1,e2,e3,e4,e5⟩:=h.e
 refine ⟨_,cell_of e1 0,?_,e4,rfl⟩
 have hzl:ed.length<=zs.length:=by
  have:=congrArg List.length e3
  rw [List.length_take] at this;omega
 refine .inr ⟨oe,0,ints zs,false,rfl,e2,by rw [ints_len];omega,?_⟩
 rw [List.drop_zero]
 have:(ints zs).take ed.length=ints (zs.take ed.length):=by simp [ints,List.map_take]
 rw [this,e3]
theorem LSt.push (h:LSt HB fx pe F H ed)(hlive:∀ o,F o->o<H.length)(hb:ed.length<=1048576)(x:Int) :
  ∃ w H2 H3,cellA H pe 0=some (.slice (some w) ed.length ed.length)/\appendA Tryz.prog 27 27 (.slice (some w) ed.length ed.length) (.slice (some ⟨H.length,0,none⟩) 1 1) (H ++ [.cells [.int .i64 x] 3 false])=some (.slice (some ⟨H.length+1,0,none⟩) (ed.length+1) (ed.length+1),H2) /\
   storeA Tryz.prog 27 (.pointer (some ⟨pe,0,none⟩)) (.slice (some ⟨H.length+1,0,none⟩) (ed.length+1) (ed.length+1)) H2=some H3/\LSt HB fx pe F H3 (ed ++ [x])/\(∀ o y,F o->H[o]?=some y->H3[o]?=some y)/\H.length<=H3.length /\
   ∀ o y,o ≠ pe->(∀ w',cellA H pe 0=some w'->o ≠ rowO w')->H[o]?=some y->H3[o]?=some y:=by
 obtain ⟨oe,zs,e1,e2,e3,e4,e8,e5,e9⟩:=h.e
 have hzl:ed.length<=zs.length:=by
  have:=congrArg List.length e3
  rw [List.length_take] at this;omega
 have k1:=app_q (P:=Tryz.prog) (t:=27) (k:=0) (n:=ed.length) (c:=ed.length) (x:=x) Tryz.underlying27 cs3 (by rw [by3];decide) zk3 e2 (by omega) (by omega)
 rw [List.drop_zero,e3] at k1
 have at_:∀ {o y},o ≠ oe->H[o]?=some y->(H.set oe .dead ++ [AObj.cells [.int .i64 x] 3 false,.cells (ints (ed ++ [x])) 3 false])[o]?=some y:=by
  intro o y ho hy
  rw [List.getElem?_append_left (by simpa using at_lt hy),List.getElem?_set_ne (fun e=>ho e.symm)]
  exact hy
 have a1:=at_ (fun e=>e8 e.symm) e1
 have hst:=st_at (P:=Tryz.prog) (t:=27) (i:=0) (y:=.slice (some ⟨H.length+1,0,none⟩) (ed.length+1) (ed.length+1)) cs27 a1 (by show 0<1;decide) rfl rfl
 have l1:=at_lt e1
 have l2:=at_lt e2
 have aw:∀ {o y},o ≠ oe->o ≠ pe->H[o]?=some y->((H.set oe .dead ++ [AObj.cells [.int .i64 x] 3 false,.cells (ints (ed ++ [x])) 3 false]).set pe (.cells ([Value.slice (some ⟨oe,0,none⟩) ed.length ed.length].set 0 (.slice (some ⟨H.length+1,0,none⟩) (ed.length+1) (ed.length+1))) 27 false))[o]?=some y:=by
  intro o y ho1 ho2 hy
  rw [List.getElem?_set_ne (fun e=>ho2 e.symm)]
  exact at_ ho1 hy
 have lo:=h.lo
 refine ⟨_,_,_,cell_of e1 0,k1,hst,⟨fun q hq=>?_,⟨H.length+1,ed ++ [x],?_,?_,?_,?_,by omega,fun q hq=>?_,by have:=h.pre.length_le;omega⟩,h.out,h.lo,?_⟩,?_,by simp,?_⟩
 ·obtain ⟨q1,q2,q3⟩:=h.fix q hq
  exact ⟨aw (e5 q hq) q3 q1,q2,q3⟩
 ·rw [List.getElem?_set_self (by simp;omega)]
  simp
 ·rw [List.getElem?_set_ne (by omega),List.getElem?_append_right (by simp)]
  simp
 ·rw [List.take_of_length_le (Nat.le_refl _)]
 ·intro hf;have:=hlive _ hf;omega
 ·have:=at_lt (h.fix q hq).1;omega
 ·exact prefix_of fun o y hy=>aw (by have:=at_lt hy;omega) (by have:=at_lt hy;omega) (pre_at h.pre hy)
 ·intro o y hf hy
  exact aw (fun e=>e4 (e ▸ hf)) (fun e=>h.out (e ▸ hf)) hy
 ·intro o y ho1 ho2 hy
  exact aw (ho2 _ (cell_of e1 0)) ho1 hy
theorem LSt.pop {x:Int}(h:LSt HB fx pe F H (ed ++ [x])) :
  ∃ w c,cellA H pe 0=some (.slice (some w) (ed.length+1) c)/\sliceA Tryz.prog 27 (.slice (some w) (ed.length+1) c) none (some (.int .i64 (ed.length:Int))) none H=some (.slice (some w) ed.length ed.length) /\
   ∃ H3,storeA Tryz.prog 27 (.pointer (some ⟨pe,0,none⟩)) (.slice (some w) ed.length ed.length) H=some H3/\LSt HB fx pe F H3 ed/\(∀ o y,F o->H[o]?=some y->H3[o]?=some y)/\H3.length=H.length:=by
 obtain ⟨oe,zs,e1,e2,e3,e4,e8,e5,e9⟩:=h.e
 have hl:(ed ++ [x]).length=ed.length+1:=by simp
 rw [hl] at e1 e3
 have hz:zs.take ed.length=ed:=by
  have:=congrArg (List.take ed.length) e3
  rw [List.take_take,Nat.min_eq_left (by omega)] at this
  simpa using this
 have hsl:=sl_own (P:=Tryz.prog) (t:=27) (k:=0) (n:=ed.length+1) (c:=ed.length+1) Tryz.underlying27 cs3 e2 lo_none (bound_some (k:=.i64) (i:=(ed.length:Int)) (by omega) (ed.length+1)) (Nat.zero_le _) (by omega)
 simp only [Int.toNat_natCast,Nat.add_zero,Nat.sub_zero] at hsl
 have hst:=st_at (P:=Tryz.prog) (t:=27) (i:=0) (y:=.slice (some ⟨oe,0,none⟩) ed.length ed.length) cs27 e1 (by show 0<1;decide) rfl rfl
 have aw:∀ {o y},o ≠ pe->H[o]?=some y->(H.set pe (.cells ([Value.slice (some ⟨oe,0,none⟩) (ed.length+1) (ed.length+1)].set 0 (.slice (some ⟨oe,0,none⟩) ed.length ed.length)) 27 false))[o]?=some y:=by
  intro o y ho hy
  rw [List.getElem?_set_ne (fun e=>ho e.symm)];exact hy
 have lo:=h.lo
 refine ⟨_,_,cell_of e1 0,hsl,_,hst,⟨fun q hq=>?_,⟨oe,zs,?_,aw e8 e2,hz,e4,e8,e5,e9⟩,h.out,h.lo,?_⟩,fun o y hf hy=>aw (fun e=>h.out (e ▸ hf)) hy,by simp⟩
 ·obtain ⟨q1,q2,q3⟩:=h.fix q hq
  exact ⟨aw q3 q1,q2,q3⟩
 ·rw [List.getElem?_set_self (at_lt e1)];rfl
 ·exact prefix_of fun o y hy=>aw (by have:=at_lt hy;omega) (pre_at h.pre hy)
end
def Obs (o:Nat)(us:List Value)(ls:List (List Int))(j:Nat):Prop:=j=o∨∃ i,i<ls.length/\us.getD i undef ≠ .slice none 0 0/\j=rowO (us.getD i undef)
theorem InU.refit2 {lo hi:Nat}{e2 e:TypeId}{H H':AH}{o:Nat}{us:List Value}{ls:List (List Int)}(h:InU lo hi e2 e H o us ls)(hk:∀ j y,Obs o us ls j->H[j]?=some y->H'[j]?=some y):InU lo H'.length e2 e H' o us ls:=by
 obtain ⟨h1,h2,h3,h4,h5,h6⟩:=h
 have k3:=hk _ _ (.inl rfl) h3
 refine ⟨h1,at_lt k3,k3,h4,fun i hi=>⟨?_,(h5 i hi).2⟩,h6⟩
 rcases (h5 i hi).1 with g | ⟨oo,zs,g1,g2,g3,g4,g5⟩
 ·exact .inl g
 ·have:=hk oo _ (.inr ⟨i,hi,(by rw [g1];intro e;cases e),(by rw [g1];rfl)⟩) g4
  exact .inr ⟨oo,zs,g1,g2,at_lt this,this,g5⟩
theorem InU.obs {lo hi:Nat}{e2 e:TypeId}{H:AH}{o:Nat}{us:List Value}{ls:List (List Int)}(h:InU lo hi e2 e H o us ls){j:Nat}(hj:Obs o us ls j):lo<=j/\j<hi:=by
 obtain ⟨h1,h2,h3,h4,h5,h6⟩:=h
 rcases hj with rfl | ⟨i,hi,hn,rfl⟩
 ·exact ⟨h1,h2⟩
 ·rcases (h5 i hi).1.at_ with g | g
  ·exact absurd g hn
  ·exact g
theorem getD_snoc {us:List Value}{n i:Nat}{c:Value}(hn:n<=us.length):(us.take n ++ [c]).getD i undef=if i<n then us.getD i undef else if i=n then c else undef:=by
 rw [List.getD_eq_getElem?_getD,List.getElem?_append]
 have hl:(us.take n).length=n:=by simp;omega
 rw [hl]
 split
 ·rw [List.getElem?_take,if_pos (by assumption),List.getD_eq_getElem?_getD]
 ·split
  ·rename_i h;subst h;simp
  ·rw [List.getElem?_eq_none (by simp;omega)];rfl
def IOut (HB:AH)(po:Nat)(out:List (List Int))(F:Nat->Prop)(H:AH):Prop :=
 ∃ o us,H[po]?=some (.cells [.slice (some ⟨o,0,none⟩) out.length out.length] 32 false)/\InU HB.length H.length 27 3 H o us out/\HB.length<=po/\¬ Obs o us out po/\F=fun j=>j=po∨Obs o us out j
theorem IOut.live {HB H:AH}{po:Nat}{out:List (List Int)}{F:Nat->Prop}(h:IOut HB po out F H){o:Nat}(ho:F o):o<H.length/\HB.length<=o:=by
 obtain ⟨oo,us,h1,h2,h3,h4,rfl⟩:=h
 have ho':o=po∨Obs oo us out o:=ho
 rcases ho' with rfl | hj
 ·exact ⟨at_lt h1,h3⟩
 ·have:=h2.obs hj
  exact ⟨this.2,this.1⟩
theorem IOut.keep {HB H H':AH}{po:Nat}{out:List (List Int)}{F:Nat->Prop}(h:IOut HB po out F H)(hk:∀ o y,F o->H[o]?=some y->H'[o]?=some y):IOut HB po out F H':=by
 obtain ⟨oo,us,h1,h2,h3,h4,rfl⟩:=h
 exact ⟨oo,us,hk _ _ (.inl rfl) h1,h2.refit2 fun j y hj hy=>hk _ _ (.inr hj) hy,h3,h4,rfl⟩
theorem IOut.push {HB H C:AH}{po:Nat}{out:List (List Int)}{F:Nat->Prop}(h:IOut HB po out F H)(hp:HB<+:H){c:Value}{xs:List Int}(pC:H<+:C)(hc:Own 3 H C c xs)(hb:out.length<=1000000000) :
  ∃ w H3 H4,cellA H po 0=some (.slice (some w) out.length out.length)/\cellA C po 0=some (.slice (some w) out.length out.length)/\buildSliceA Tryz.prog 32 1 [(0,c)] C=some (.slice (some ⟨C.length,0,none⟩) 1 1,C ++ [.cells [c] 27 false]) /\
   appendA Tryz.prog 32 32 (.slice (some w) out.length out.length) (.slice (some ⟨C.length,0,none⟩) 1 1) (C ++ [.cells [c] 27 false])=some (.slice (some ⟨C.length+1,0,none⟩) (out.length+1) (out.length+1),H3) /\
   storeA Tryz.prog 32 (.pointer (some ⟨po,0,none⟩)) (.slice (some ⟨C.length+1,0,none⟩) (out.length+1) (out.length+1)) H3=some H4 /\
   ∃ F',IOut HB po (out ++ [xs]) F' H4/\(∀ o,F' o->F o∨H.length<=o)/\∀ o y,¬ F o->H[o]?=some y->H4[o]?=some y:=by
 obtain ⟨o,us,h2,h3,h4,h7,rfl⟩:=h
 have c2:=pre_at pC h2
 have hinw:=InI.of hc.mine
 obtain ⟨H3,k1,k2,k3,k4⟩:=(h3.pre pC).app1 (P:=Tryz.prog) (t2:=32) Tryz.underlying32 cs27 (by rw [by27];decide) zk27 hinw hp.length_le pC.length_le (Nat.le_refl _) (by omega)
 have hbs:buildSliceA Tryz.prog 32 1 [(0,c)] C=some (.slice (some ⟨C.length,0,none⟩) 1 1,C ++ [.cells [c] 27 false]):=by
  obtain ⟨q,eq⟩:=hc.row.shape
  rw [eq]
  exact bs1 Tryz.underlying32 cs27 ze27 ⟨by kernel_rfl,by kernel_rfl⟩ C rfl
 have lC:=pC.length_le
 have l2:=at_lt h2
 have d2:=k4 po _ (fun e=>h7 (.inl e)) c2
 have hst:=st_at (P:=Tryz.prog) (t:=32) (i:=0) (y:=.slice (some ⟨C.length+1,0,none⟩) (out.length+1) (out.length+1)) cs32 d2 (by show 0<1;decide) rfl rfl
 have e2:(H3.set po (.cells ([Value.slice (some ⟨o,0,none⟩) out.length out.length].set 0 (.slice (some ⟨C.length+1,0,none⟩) (out.length+1) (out.length+1))) 32 false))[po]?=some (.cells [.slice (some ⟨C.length+1,0,none⟩) (out.length+1) (out.length+1)] 32 false):=by
  rw [List.getElem?_set_self (by omega)];rfl
 have hal:(out ++ [xs]).length=out.length+1:=by simp
 have hcO:c=.slice none 0 0∨H.length<=rowO c:=by
  rcases hc with ⟨q,_⟩ | ⟨oc,q,hoc,_⟩
  ·exact .inl q
  ·exact .inr (by rw [q];exact hoc)
 have hul:=h3.2.2.2.1
 have aw2:Away po (C.length+1) (us.take out.length ++ [c]) (out ++ [xs]):=by
  refine ⟨by omega,fun i hi=>?_⟩
  rw [hal] at hi
  rw [getD_snoc hul]
  split
  ·rename_i hi2
   by_cases hn:us.getD i undef=.slice none 0 0
   ·exact .inl hn
   ·exact .inr fun e=>h7 (.inr ⟨i,hi2,hn,e.symm⟩)
  ·rw [if_pos (by omega)]
   exact hcO.imp id fun q=>by omega
 have k2':=(k2.wide (Nat.le_refl _) (Nat.le_of_eq k3.symm):InU HB.length H3.length 27 3 H3 _ _ _)
 refine ⟨_,H3,_,cell_of h2 0,cell_of c2 0,hbs,k1,hst,fun j=>j=po∨Obs (C.length+1) (us.take out.length ++ [c]) (out ++ [xs]) j,⟨C.length+1,us.take out.length ++ [c],by rw [hal];exact e2,?_,h4,?_,rfl⟩,?_,?_⟩
 ·have:=k2'.moveq aw2 (H':=H3.set po (.cells ([Value.slice (some ⟨o,0,none⟩) out.length out.length].set 0 (.slice (some ⟨C.length+1,0,none⟩) (out.length+1) (out.length+1))) 32 false)) (fun j y hj hy=>by rw [List.getElem?_set_ne (fun e=>hj e.symm)];exact hy)
  simpa using this
 ·rintro (e | ⟨i,hi,hn,e⟩)
  ·omega
  ·rcases aw2.2 i hi with q | q
   ·exact hn q
   ·exact q e.symm
 ·rintro j (e | e | ⟨i,hi,hn,e⟩)
  ·exact .inl (.inl e)
  ·exact .inr (by omega)
  ·rw [getD_snoc hul] at hn e
   rw [hal] at hi
   by_cases hi2:i<out.length
   ·rw [if_pos hi2] at hn e
    exact .inl (.inr (.inr ⟨i,hi2,hn,e⟩))
   ·rw [if_neg hi2,if_pos (by omega)] at hn e
    rcases hcO with q | q
    ·exact absurd q hn
    ·exact .inr (by omega)
 ·intro j y hj hy
  rw [List.getElem?_set_ne (fun e=>hj (.inl e.symm))]
  exact k4 j y (fun e=>hj (.inr (.inl e))) (pre_at pC hy)
def cd154:Cd:=(.seq (.reg [⟨⟨some 4,.assign (.const (.slice none 0 0)),none⟩,[]⟩]) (.seq (.reg [⟨⟨some 8,.buildSlice 27 0 #[],none⟩,[]⟩,⟨⟨some 5,.assign (.tmp 8),none⟩,[]⟩]) (.seq (.seq (.reg [⟨⟨some 9,.move (.tmp 0),none⟩,[]⟩,⟨⟨some 10,.call ⟨(.builtin .len),#[.tmp 9],#[27]⟩,none⟩,[]⟩,⟨⟨some 11,.move (.const (.int .i64 0)),none⟩,[]⟩]) (.block 0 (.loop (.seq (.reg [⟨⟨some 12,.binOp .lss 3 (.tmp 11) (.tmp 10) 3,none⟩,[]⟩]) (.seq (.cond (.tmp 12) .skip (.exit 0)) (.seq (.block 1 (.seq (.reg [⟨⟨some 13,.move (.tmp 11),none⟩,[]⟩,⟨⟨some 14,.indexAddr 27 (.tmp 9) (.tmp 11),none⟩,[]⟩,⟨⟨some 15,.load 3 (.tmp 14),none⟩,[]⟩,⟨⟨some 6,.assign (.tmp 13),none⟩,[]⟩,⟨⟨some 7,.assign (.tmp 15),none⟩,[]⟩]) (.seq (.reg [⟨⟨some 16,.move (.tmp 1),none⟩,[]⟩,⟨⟨some 17,.move (.tmp 6),none⟩,[]⟩,⟨⟨some 18,.indexAddr 27 (.tmp 16) (.tmp 17),none⟩,[]⟩,⟨⟨some 19,.load 3 (.tmp 18),none⟩,[]⟩,⟨⟨some 20,.move (.tmp 7),none⟩,[]⟩,
 ⟨⟨some 21,.binOp .neq 3 (.tmp 19) (.tmp 20) 3,none⟩,[]⟩]) (.cond (.tmp 21) (.reg [⟨⟨some 22,.move (.tmp 5),none⟩,[]⟩,
  ⟨⟨some 23,.move (.tmp 6),none⟩,[]⟩,
  ⟨⟨some 24,.buildSlice 27 1 #[(0,.tmp 23)],none⟩,[]⟩,
  ⟨⟨some 25,.call ⟨(.builtin .append),#[.tmp 22,.tmp 24],#[27,27]⟩,none⟩,[]⟩,
  ⟨⟨some 5,.assign (.tmp 25),none⟩,[]⟩]) .skip)))) (.reg [⟨⟨some 26,.binOp .add 3 (.tmp 11) (.const (.int .i64 1)) 3,none⟩,[]⟩,
  ⟨⟨some 11,.move (.tmp 26),none⟩,[]⟩]))))))) (.seq (.reg [⟨⟨some 27,.move (.tmp 5),none⟩,[]⟩,
  ⟨⟨some 4,.assign (.tmp 27),none⟩,[]⟩]) .ret))))
theorem in154:InT Tryz.prog 154 2 [.tmp 4] cd154:=InT.mk (by kernel_rfl) [] Tryz.func154 rfl (by kernel_rfl) (by kernel_rfl) (of_decide_eq_true (by kernel_rfl)) (by kernel_rfl)
def cd156:Cd:=(.seq (.reg [⟨⟨some 4,.assign (.const (.slice none 0 0)),none⟩,[]⟩]) (.seq (.reg [⟨⟨some 7,.buildSlice 27 0 #[],none⟩,[]⟩,⟨⟨some 5,.assign (.tmp 7),none⟩,[]⟩]) (.seq (.seq (.reg [⟨⟨some 6,.assign (.const (.int .i64 0)),none⟩,[]⟩]) (.block 0 (.loop (.seq (.seq (.reg [⟨⟨some 8,.move (.tmp 6),none⟩,[]⟩,⟨⟨some 9,.move (.tmp 0),none⟩,[]⟩,⟨⟨some 10,.call ⟨(.builtin .len),#[.tmp 9],#[27]⟩,none⟩,[]⟩,⟨⟨some 11,.binOp .lss 3 (.tmp 8) (.tmp 10) 3,none⟩,[]⟩]) (.cond (.tmp 11) .skip (.exit 0))) (.seq (.block 1 (.seq (.reg [⟨⟨some 14,.move (.tmp 0),none⟩,[]⟩,⟨⟨some 15,.move (.tmp 6),none⟩,[]⟩,⟨⟨some 16,.indexAddr 27 (.tmp 14) (.tmp 15),none⟩,[]⟩,⟨⟨some 17,.load 3 (.tmp 16),none⟩,[]⟩,⟨⟨some 18,.move (.tmp 1),none⟩,[]⟩,⟨⟨some 19,.move (.tmp 6),none⟩,[]⟩,⟨⟨some 20,.indexAddr 27 (.tmp 18) (.tmp 19),none⟩,[]⟩,⟨⟨some 21,.load 3 (.tmp 20),none⟩,[]⟩,
 ⟨⟨some 22,.binOp .neq 3 (.tmp 17) (.tmp 21) 3,none⟩,[]⟩]) (.cond (.tmp 22) (.reg [⟨⟨some 23,.move (.tmp 5),none⟩,[]⟩,
  ⟨⟨some 24,.move (.tmp 6),none⟩,[]⟩,
  ⟨⟨some 25,.buildSlice 27 1 #[(0,.tmp 24)],none⟩,[]⟩,
  ⟨⟨some 26,.call ⟨(.builtin .append),#[.tmp 23,.tmp 25],#[27,27]⟩,none⟩,[]⟩,
  ⟨⟨some 5,.assign (.tmp 26),none⟩,[]⟩]) .skip))) (.reg [⟨⟨some 12,.move (.tmp 6),none⟩,[]⟩,
  ⟨⟨some 13,.binOp .add 3 (.tmp 12) (.const (.int .i64 1)) 3,none⟩,[]⟩,
  ⟨⟨some 6,.assign (.tmp 13),none⟩,[]⟩])))))) (.seq (.reg [⟨⟨some 27,.move (.tmp 5),none⟩,[]⟩,
  ⟨⟨some 4,.assign (.tmp 27),none⟩,[]⟩]) .ret))))
theorem in156:InT Tryz.prog 156 2 [.tmp 4] cd156:=InT.mk (by kernel_rfl) [(5,[(0,false),(1,false),(2,false),(3,false),(4,false),(5,false),(6,false),(7,false),(8,false)])] Tryz.func156 rfl (by kernel_rfl) (by kernel_rfl) (of_decide_eq_true (by kernel_rfl)) (by kernel_rfl)
end Go.Proofs.YtlcipphiflcaiaaGreat.Ai
namespace Go.Proofs.YtlcipphiflcaiaaGreat.Ai
open Go Go.RowKit
theorem places_c (v w:Value)(xs ys:List Int)(H:AH)(hr:Row 3 H v xs)(hs:Row 3 H w ys)(hlen:xs.length<=1048576)(hl:ys.length=xs.length) :
  ACalls Tryz.prog 154 [v,w] H fun r H'=>Own 3 H H' r (dfL xs ys)/\H<+:H':=by
 refine in154 rfl ?_
 intro Q hQ
 simp (disch:=omega) only [cd154,SS,eq_self,reduceIte,reduceCtorEq,Nat.reduceEqDiff,Nat.reduceAdd]
 generalize hA:H ++ [AObj.cells [] 3 false]=A
 have pA:H<+:A:=by rw [<- hA];exact List.prefix_append _ _
 have cA:A[H.length]?=some (.cells (ints []) 3 false):=by rw [<- hA];exact at_new ..
 have own0:Own 3 H A (.slice (some ⟨H.length,0,none⟩) 0 0) (dfF xs ys 0):=.inr ⟨H.length,rfl,Nat.le_refl _,cA⟩
 simp (disch:=omega) only [(hr.pre pA).len Tryz.underlying27,SS,eq_self,reduceIte,reduceCtorEq,Nat.reduceEqDiff,Nat.reduceAdd]
 refine LoopH.by (fun m s H'=>∃ (i:Nat),m+i=xs.length/\s 0=v/\s 1=w/\s 9=v/\s 10=.int .i64 (xs.length:Int)/\s 11=.int .i64 ((i:Nat):Int)/\Own 3 H H' (s 5) (dfF xs ys i)/\H<+:H') xs.length ?_ ?_
 ·refine ⟨0,?_⟩
  simp (disch:=omega) only [SS,eq_self,reduceIte,reduceCtorEq,Nat.reduceEqDiff,Nat.reduceAdd]
  (repeat' first | exact own0 | exact pA | apply And.intro) <;> first | (simp only [Value.int.injEq,true_and];omega) | omega | rfl | assumption | (simp;done) | (simp;omega)
 rintro m s H' ⟨i,hm,k0,k1,k9,k10,k11,ho,hp⟩
 generalize hU:s 5=U at *
 simp (disch:=omega) only [k0,k1,k9,k10,k11,hU,SS,eq_self,reduceIte,reduceCtorEq,Nat.reduceEqDiff,Nat.reduceAdd]
 refine brD.intro (fun q=>?_) (fun q=>?_)
 ·have hi:i<xs.length:=by omega
  have hx:=(hr.pre hp).cell hi
  have hy:=(hs.pre hp).cell (show i<ys.length by omega)
  simp (disch:=omega) only [k0,k1,k9,k10,k11,hU,(hr.pre hp).ix Tryz.underlying27 cs3,(hs.pre hp).ix Tryz.underlying27 cs3,Int.toNat_natCast,hx,hy,SS,eq_self,reduceIte,reduceCtorEq,Nat.reduceEqDiff,Nat.reduceAdd]
  refine brD.intro (fun e=>?_) (fun e=>?_)
  ·have hd:dfF xs ys (i+1)=dfF xs ys i ++ [(i:Int)]:=by rw [dfF,if_pos (by omega)]
   obtain ⟨U',H2,j1,j2,j3,j4,j5,j6⟩:=own1_27 ho hp (by have:=dfF_len xs ys i;omega) (i:Int)
   rw [<- hd] at j2
   simp (disch:=omega) only [e,k0,k1,k9,k10,k11,hU,j1,wrap64,SS,eq_self,reduceIte,reduceCtorEq,Nat.reduceEqDiff,Nat.reduceAdd]
   refine ⟨m - 1,by omega,i+1,?_⟩
   (repeat' first | exact j2 | exact j3 | apply And.intro) <;> first | (simp only [Value.int.injEq,true_and];omega) | omega | rfl | assumption | (simp;done) | (simp;omega)
  ·have hd:dfF xs ys (i+1)=dfF xs ys i:=by rw [dfF,if_neg (by omega),List.append_nil]
   rw [<- hd] at ho
   simp (disch:=omega) only [e,k0,k1,k9,k10,k11,hU,wrap64,SS,eq_self,reduceIte,reduceCtorEq,Nat.reduceEqDiff,Nat.reduceAdd]
   refine ⟨m - 1,by omega,i+1,?_⟩
   (repeat' first | exact ho | exact hp | apply And.intro) <;> first | (simp only [Value.int.injEq,true_and];omega) | omega | rfl | assumption | (simp;done) | (simp;omega)
 ·simp (disch:=omega) only [hU,SS,eq_self,reduceIte,reduceCtorEq,Nat.reduceEqDiff,Nat.reduceAdd]
  refine hQ _ _ _ ?_
  simp (disch:=omega) only [hU,ho.row.tup,SS,eq_self,reduceIte,reduceCtorEq,Nat.reduceEqDiff,Nat.reduceAdd]
  have hi:i=xs.length:=by omega
  subst hi
  exact ⟨ho,hp⟩
theorem l5Changed_c (v w:Value)(xs ys:List Int)(H:AH)(hr:Row 3 H v xs)(hs:Row 3 H w ys)(hlen:xs.length<=1048576)(hl:ys.length=xs.length) :
  ACalls Tryz.prog 156 [v,w] H fun r H'=>Own 3 H H' r (dfL xs ys)/\H<+:H':=by
 refine in156 rfl ?_
 intro Q hQ
 simp (disch:=omega) only [cd156,SS,eq_self,reduceIte,reduceCtorEq,Nat.reduceEqDiff,Nat.reduceAdd]
 generalize hA:H ++ [AObj.cells [] 3 false]=A
 have pA:H<+:A:=by rw [<- hA];exact List.prefix_append _ _
 have cA:A[H.length]?=some (.cells (ints []) 3 false):=by rw [<- hA];exact at_new ..
 have own0:Own 3 H A (.slice (some ⟨H.length,0,none⟩) 0 0) (dfF xs ys 0):=.inr ⟨H.length,rfl,Nat.le_refl _,cA⟩
 refine LoopH.by (fun m s H'=>∃ (i:Nat),m+i=xs.length/\s 0=v/\s 1=w/\s 6=.int .i64 ((i:Nat):Int)/\Own 3 H H' (s 5) (dfF xs ys i)/\H<+:H') xs.length ?_ ?_
 ·refine ⟨0,?_⟩
  simp (disch:=omega) only [SS,eq_self,reduceIte,reduceCtorEq,Nat.reduceEqDiff,Nat.reduceAdd]
  (repeat' first | exact own0 | exact pA | apply And.intro) <;> first | (simp only [Value.int.injEq,true_and];omega) | omega | rfl | assumption | (simp;done) | (simp;omega)
 rintro m s H' ⟨i,hm,k0,k1,k6,ho,hp⟩
 generalize hU:s 5=U at *
 simp (disch:=omega) only [k0,k1,k6,hU,(hr.pre hp).len Tryz.underlying27,SS,eq_self,reduceIte,reduceCtorEq,Nat.reduceEqDiff,Nat.reduceAdd]
 refine brD.intro (fun q=>?_) (fun q=>?_)
 ·have hi:i<xs.length:=by omega
  have hx:=(hr.pre hp).cell hi
  have hy:=(hs.pre hp).cell (show i<ys.length by omega)
  simp (disch:=omega) only [k0,k1,k6,hU,(hr.pre hp).ix Tryz.underlying27 cs3,(hs.pre hp).ix Tryz.underlying27 cs3,Int.toNat_natCast,hx,hy,SS,eq_self,reduceIte,reduceCtorEq,Nat.reduceEqDiff,Nat.reduceAdd]
  refine brD.intro (fun e=>?_) (fun e=>?_)
  ·have hd:dfF xs ys (i+1)=dfF xs ys i ++ [(i:Int)]:=by rw [dfF,if_pos (by omega)]
   obtain ⟨U',H2,j1,j2,j3,j4,j5,j6⟩:=own1_27 ho hp (by have:=dfF_len xs ys i;omega) (i:Int)
   rw [<- hd] at j2
   simp (disch:=omega) only [e,k0,k1,k6,hU,j1,wrap64,SS,eq_self,reduceIte,reduceCtorEq,Nat.reduceEqDiff,Nat.reduceAdd]
   refine ⟨m - 1,by omega,i+1,?_⟩
   (repeat' first | exact j2 | exact j3 | apply And.intro) <;> first | (simp only [Value.int.injEq,true_and];omega) | omega | rfl | assumption | (simp;done) | (simp;omega)
  ·have hd:dfF xs ys (i+1)=dfF xs ys i:=by rw [dfF,if_neg (by omega),List.append_nil]
   rw [<- hd] at ho
   simp (disch:=omega) only [e,k0,k1,k6,hU,wrap64,SS,eq_self,reduceIte,reduceCtorEq,Nat.reduceEqDiff,Nat.reduceAdd]
   refine ⟨m - 1,by omega,i+1,?_⟩
   (repeat' first | exact ho | exact hp | apply And.intro) <;> first | (simp only [Value.int.injEq,true_and];omega) | omega | rfl | assumption | (simp;done) | (simp;omega)
 ·simp (disch:=omega) only [hU,SS,eq_self,reduceIte,reduceCtorEq,Nat.reduceEqDiff,Nat.reduceAdd]
  refine hQ _ _ _ ?_
  simp (disch:=omega) only [hU,ho.row.tup,SS,eq_self,reduceIte,reduceCtorEq,Nat.reduceEqDiff,Nat.reduceAdd]
  have hi:i=xs.length:=by omega
  subst hi
  exact ⟨ho,hp⟩
def cd56:Cd:=(.seq (.reg [⟨⟨some 4,.alloc 34,none⟩,[]⟩]) (.seq (.reg [⟨⟨some 10,.move (.tmp 0),none⟩,[]⟩,⟨⟨some 11,.build 34 #[(0,.tmp 10)],none⟩,[]⟩,⟨⟨some 5,.alloc 34,none⟩,[]⟩,⟨⟨none,.store 34 (.tmp 5) (.tmp 11),none⟩,[]⟩]) (.seq (.reg [⟨⟨some 12,.fieldAddr 34 (.tmp 5) 0,none⟩,[]⟩,⟨⟨some 13,.load 32 (.tmp 12),none⟩,[]⟩,⟨⟨some 14,.call ⟨(.value (.func 125)),#[.tmp 13,(.func 126)],#[32,41]⟩,none⟩,[]⟩]) (.seq (.seq (.reg [⟨⟨some 15,.fieldAddr 34 (.tmp 5) 0,none⟩,[]⟩,⟨⟨some 16,.load 32 (.tmp 15),none⟩,[]⟩,⟨⟨some 17,.call ⟨(.builtin .len),#[.tmp 16],#[32]⟩,none⟩,[]⟩,⟨⟨some 18,.move (.const (.int .i64 0)),none⟩,[]⟩]) (.block 0 (.loop (.seq (.reg [⟨⟨some 19,.binOp .lss 3 (.tmp 18) (.tmp 17) 3,none⟩,[]⟩]) (.seq (.cond (.tmp 19) .skip (.exit 0)) (.seq (.block 1 (.seq (.reg [⟨⟨some 20,.move (.tmp 18),none⟩,[]⟩,⟨⟨some 21,.indexAddr 32 (.tmp 16) (.tmp 18),none⟩,[]⟩,⟨⟨some 22,.load 27 (.tmp 21),none⟩,[]⟩,⟨⟨some 6,.assign (.tmp 20),none⟩,[]⟩,
 ⟨⟨some 7,.assign (.tmp 22),none⟩,[]⟩]) (.seq (.reg [⟨⟨some 23,.fieldAddr 34 (.tmp 5) 0,none⟩,[]⟩,⟨⟨some 24,.load 32 (.tmp 23),none⟩,[]⟩,⟨⟨some 25,.move (.tmp 6),none⟩,[]⟩,⟨⟨some 26,.binOp .add 3 (.tmp 25) (.const (.int .i64 1)) 3,none⟩,[]⟩,⟨⟨some 27,.slice 32 (.tmp 24) (some (.tmp 26)) none none,none⟩,[]⟩,⟨⟨some 28,.call ⟨(.builtin .len),#[.tmp 27],#[32]⟩,none⟩,[]⟩,⟨⟨some 29,.move (.const (.int .i64 0)),none⟩,[]⟩]) (.block 2 (.loop (.seq (.reg [⟨⟨some 30,.binOp .lss 3 (.tmp 29) (.tmp 28) 3,none⟩,[]⟩]) (.seq (.cond (.tmp 30) .skip (.exit 2)) (.seq (.block 3 (.seq (.reg [⟨⟨some 31,.move (.tmp 29),none⟩,[]⟩,⟨⟨some 32,.indexAddr 32 (.tmp 27) (.tmp 29),none⟩,[]⟩,⟨⟨some 33,.load 27 (.tmp 32),none⟩,[]⟩,⟨⟨some 8,.assign (.tmp 31),none⟩,[]⟩,⟨⟨some 9,.assign (.tmp 33),none⟩,[]⟩]) (.seq (.reg [⟨⟨some 34,.move (.tmp 1),none⟩,[]⟩,⟨⟨some 35,.move (.tmp 7),none⟩,[]⟩,
 ⟨⟨some 36,.move (.tmp 9),none⟩,[]⟩,⟨⟨some 37,.call ⟨(.value (.tmp 34)),#[.tmp 35,.tmp 36],#[27,27]⟩,none⟩,[]⟩]) (.cond (.tmp 37) (.reg [⟨⟨some 38,.fieldAddr 34 (.tmp 5) 1,none⟩,[]⟩,⟨⟨some 39,.load 24 (.tmp 38),none⟩,[]⟩,⟨⟨some 40,.move (.tmp 6),none⟩,[]⟩,⟨⟨some 41,.move (.tmp 6),none⟩,[]⟩,⟨⟨some 42,.binOp .add 3 (.tmp 41) (.const (.int .i64 1)) 3,none⟩,[]⟩,⟨⟨some 43,.move (.tmp 8),none⟩,[]⟩,⟨⟨some 44,.binOp .add 3 (.tmp 42) (.tmp 43) 3,none⟩,[]⟩,⟨⟨some 45,.build 115 #[(0,.tmp 40),(1,.tmp 44)],none⟩,[]⟩,⟨⟨some 46,.buildSlice 24 1 #[(0,.tmp 45)],none⟩,[]⟩,⟨⟨some 47,.call ⟨(.builtin .append),#[.tmp 39,.tmp 46],#[24,24]⟩,none⟩,[]⟩,⟨⟨some 48,.fieldAddr 34 (.tmp 5) 1,none⟩,[]⟩,
 ⟨⟨none,.store 24 (.tmp 48) (.tmp 47),none⟩,[]⟩]) .skip)))) (.reg [⟨⟨some 49,.binOp .add 3 (.tmp 29) (.const (.int .i64 1)) 3,none⟩,[]⟩,
  ⟨⟨some 29,.move (.tmp 49),none⟩,[]⟩]))))))))) (.reg [⟨⟨some 50,.binOp .add 3 (.tmp 18) (.const (.int .i64 1)) 3,none⟩,[]⟩,
  ⟨⟨some 18,.move (.tmp 50),none⟩,[]⟩]))))))) (.seq (.reg [⟨⟨some 51,.load 34 (.tmp 5),none⟩,[]⟩,
  ⟨⟨none,.store 34 (.tmp 4) (.tmp 51),none⟩,[]⟩]) .ret)))))
theorem in56:InT Tryz.prog 56 2 [.cell 4 34] cd56:=InT.mk (by kernel_rfl) [] Tryz.func56 rfl (by kernel_rfl) (by kernel_rfl) (of_decide_eq_true (by kernel_rfl)) (by kernel_rfl)
end Go.Proofs.YtlcipphiflcaiaaGreat.Ai
namespace Go.Proofs.YtlcipphiflcaiaaGreat.Ai
open Go Go.RowKit
theorem alloc_sp (H:AH):allocA Tryz.prog 34 H=some (.pointer (some ⟨H.length,0,none⟩),H ++ [.cells [.slice none 0 0,.slice none 0 0] 34 false]):=by kernel_rfl
theorem bld_sp1 (p:Option Addr)(n c:Nat):buildA Tryz.prog 34 [(0,.slice p n c)]=some (.agg (List.toArray [.slice p n c,.slice none 0 0])):=by kernel_rfl
theorem bld_sp2 (p q:Option Addr)(n c m d:Nat):buildA Tryz.prog 34 [(0,.slice p n c),(1,.slice q m d)]=some (.agg (List.toArray [.slice p n c,.slice q m d])):=by kernel_rfl
theorem bld_sp0:buildA Tryz.prog 34 []=some (.agg (List.toArray [.slice none 0 0,.slice none 0 0])):=by kernel_rfl
theorem st_ss {e:TypeId}{H:AH}{o:Nat}{vs:List Value}(ho:H[o]?=some (.cells vs e false))(hv:vs.length=2)(p q:Option Addr)(n c m d:Nat) :
  storeA Tryz.prog 34 (.pointer (some ⟨o,0,none⟩)) (.agg (List.toArray [.slice p n c,.slice q m d])) H=some (H.set o (.cells [.slice p n c,.slice q m d] e false)):=by
 simp only [storeA,ho,cs34]
 have hcl:(Value.agg (List.toArray [.slice p n c,.slice q m d])).cells.toList=[.slice p n c,.slice q m d]:=rfl
 rw [hcl,if_pos ⟨rfl,rfl,by decide,by rw [hv];exact Nat.le_refl 2⟩]
 have:putAt vs 0 [.slice p n c,.slice q m d]=[.slice p n c,.slice q m d]:=by
  unfold putAt
  rw [List.take_zero,List.nil_append,List.drop_of_length_le (by simp;omega),List.append_nil]
 rw [this]
theorem end_cell2 (P:Program)(a b:Nat)(t:TypeId)(R:Value->AH->Prop)(s:Sl)(H:AH)(v w:Value)(h:loadA P t (s a) H=some v)(ht:isTup v=false)(hb:s b=w)(hw:isTup w=false)(hr:R (.tuple (List.toArray [v,w])) H):endA P [.cell a t,.tmp b] R .ret s H:=by
 subst hb
 simp only [endA,resA,h,ht]
 simp [hw,outA]
 exact hr
def stpI (p:List Int->List Int->Bool)(ls:List (List Int))(i:Nat):Nat->List (Int × Int)
 | 0=>[]
 | k+1=>stpI p ls i k ++ if p (ls.getD i []) (ls.getD (i+1+k) [])=true then [((i:Int),((i+1+k:Nat):Int))] else []
def stpO (p:List Int->List Int->Bool)(ls:List (List Int)):Nat->List (Int × Int)
 | 0=>[]
 | i+1=>stpO p ls i ++ stpI p ls i (ls.length - (i+1))
theorem stpI_len (p:List Int->List Int->Bool)(ls:List (List Int))(i k:Nat):(stpI p ls i k).length<=k:=by
 induction k with
 | zero=>simp [stpI]
 | succ k ih=>simp only [stpI,List.length_append];split <;> simp <;> omega
theorem stpO_len (p:List Int->List Int->Bool)(ls:List (List Int))(i:Nat):(stpO p ls i).length<=i * ls.length:=by
 induction i with
 | zero=>simp [stpO]
 | succ i ih =>
  have:=stpI_len p ls i (ls.length - (i+1))
  simp only [stpO,List.length_append,Nat.add_mul,Nat.one_mul]
  omega
abbrev steps (p:List Int->List Int->Bool)(ls:List (List Int)):List (Int × Int):=stpO p ls ls.length
def StepFn (HB:AH)(fS:FuncId)(caps:List Value)(ls:List (List Int))(p:List Int->List Int->Bool):Prop :=
 ∀ (a b:Value) (x y:List Int) (H:AH),HB<+:H->Row 3 H a x->Row 3 H b y->x ∈ ls->y ∈ ls->ACalls Tryz.prog fS (a :: b :: caps) H fun r H'=>r=.bool (p x y)/\H<+:H'
theorem spaceOf_c {HB H:AH}{v:Value}{us:List Value}{ls:List (List Int)}(h:Sts H v us ls)(hls:ls.length<=1000)(fS:FuncId)(caps:List Value)(p:List Int->List Int->Bool)(hS:StepFn HB fS caps ls p)(hp:HB<+:H) :
  ACalls Tryz.prog 56 [v,.func (.func fS) #[] (List.toArray caps)] H fun r H'=>∃ st,r=.agg (List.toArray [v,st])/\MineP 115 H H' st (steps p ls)/\H<+:H':=by
 refine in56 rfl ?_
 intro Q hQ
 have hul:=h.len
 obtain ⟨pv,hpv⟩:=h.row.shape
 have hb1:=bld_sp1 pv us.length us.length
 rw [<- hpv] at hb1
 simp (disch:=omega) only [cd56,alloc_sp,hb1,SS,eq_self,reduceIte,reduceCtorEq,Nat.reduceEqDiff,Nat.reduceAdd]
 generalize hA:H ++ [AObj.cells [.slice none 0 0,.slice none 0 0] 34 false]=A
 have pA:H<+:A:=by rw [<- hA];exact List.prefix_append _ _
 have cA:A[H.length]?=some (.cells [.slice none 0 0,.slice none 0 0] 34 false):=by rw [<- hA];exact at_new ..
 have lA:A.length=H.length+1:=by rw [<- hA];simp
 have st1:=st_ss (at_new A (.cells [.slice none 0 0,.slice none 0 0] 34 false)) rfl pv none us.length us.length 0 0
 rw [set_new,<- hpv] at st1
 simp (disch:=omega) only [st1,cell_new,SS,eq_self,reduceIte,reduceCtorEq,Nat.reduceEqDiff,Nat.reduceAdd]
 generalize hB:A ++ [AObj.cells [v,.slice none 0 0] 34 false]=B
 have pB:A<+:B:=by rw [<- hB];exact List.prefix_append _ _
 have cB:B[A.length]?=some (.cells [v,.slice none 0 0] 34 false):=by rw [<- hB];exact at_new ..
 have lB:B.length=A.length+1:=by rw [<- hB];simp
 have pHB:=pA.trans pB
 refine CallH.by (SortFunc_c (h.pre pHB)) ?_
 rintro _ C pC
 have pHC:=pHB.trans pC
 have lC:=pC.length_le
 have cC:=pre_at pC cB
 have cC0:=pre_at (pB.trans pC) cA
 simp (disch:=omega) only [cell_of cC,h.row.len Tryz.underlying32,hul,SS,eq_self,reduceIte,reduceCtorEq,Nat.reduceEqDiff,Nat.reduceAdd]
 refine LoopH.by (fun m s H'=>∃ i st,m+i=ls.length/\s 1=.func (.func fS) #[] (List.toArray caps)/\s 4=.pointer (some ⟨H.length,0,none⟩)/\s 5=.pointer (some ⟨A.length,0,none⟩)/\s 16=v/\s 17=.int .i64 (ls.length:Int)/\s 18=.int .i64 ((i:Nat):Int)/\H'[A.length]?=some (.cells [v,st] 34 false)/\H'[H.length]?=some (.cells [.slice none 0 0,.slice none 0 0] 34 false)/\(st=.slice none 0 0∨B.length<=rowO st)/\MineP 115 H H' st (stpO p ls i)/\H<+:H') ls.length ?_ ?_
 ·exact ⟨0,.slice none 0 0,by simp,rfl,rfl,rfl,rfl,rfl,rfl,cC,cC0,.inl rfl,.inl ⟨rfl,rfl⟩,pHC⟩
 rintro m s H' ⟨i,st,hm,s1,s4,s5,s16,s17,s18,hc5,hc4,hst,hmn,hpp⟩
 simp (disch:=omega) only [s1,s4,s5,s16,s17,s18,SS,eq_self,reduceIte,reduceCtorEq,Nat.reduceEqDiff,Nat.reduceAdd]
 refine brD.intro (fun g=>?_) (fun g=>?_)
 rotate_left
 ·have hi:i=ls.length:=by omega
  subst hi
  have hst2:isTup st=false:=hmn.row.tup
  obtain ⟨q,hq⟩:=hmn.row.shape
  have hstA:=st_ss hc4 rfl pv q us.length us.length (stpO p ls ls.length).length (stpO p ls ls.length).length
  rw [<- hpv,<- hq] at hstA
  simp (disch:=omega) only [s4,s5,ld_agg ag34 cs34 hc5,hstA,SS,eq_self,reduceIte,reduceCtorEq,Nat.reduceEqDiff,Nat.reduceAdd]
  have d4:=at_set (d:=.cells [v,st] 34 false) hc4
  refine hQ _ _ _ (end_cell _ _ _ _ _ _ (.agg (List.toArray [v,st])) ?_ rfl ⟨st,rfl,?_,?_⟩)
  ·simp (disch:=omega) only [s4,ld_agg ag34 cs34 d4,SS,eq_self,reduceIte,reduceCtorEq,Nat.reduceEqDiff,Nat.reduceAdd]
  ·rcases hst with e | e
   ·rcases hmn with hm0 | ⟨o,zs,q1,_⟩
    ·exact .inl hm0
    ·rw [e] at q1;cases q1
   ·refine hmn.keepL ?_
    intro hl y hy
    rw [List.getElem?_set_ne (by omega)]
    exact hy
  ·exact pre_set hpp (Nat.le_refl _) _
 have hi:i<ls.length:=by omega
 have hH':=h.pre hpp
 have hci:=hH'.cell hi
 have hri:=hH'.each i hi
 have hmi:ls.getD i [] ∈ ls:=by simp [hi]
 have hsl:=hH'.row.slice (P:=Tryz.prog) (t:=32) Tryz.underlying32 cs27 (bound_some (k:=.i64) (i:=(i:Int)+1) (by omega) 0) (hi_none us.length) (show ((i:Int)+1).toNat<=us.length by omega) (Nat.le_refl _)
 have hi1:((i:Int)+1).toNat=i+1:=by omega
 rw [hi1] at hsl
 obtain ⟨hsl1,hsl2,hsl3⟩:=hsl
 have hdl:(us.drop (i+1)).take (us.length - (i+1))=us.drop (i+1):=by rw [List.take_of_length_le (by simp)]
 rw [hdl] at hsl2
 have hdn:((us.drop (i+1)).length:Int)=((ls.length - (i+1):Nat):Int):=by simp;omega
 simp (disch:=omega) only [s1,s4,s5,s16,s17,s18,hH'.row.ix Tryz.underlying32 cs27,Int.toNat_natCast,hci,cell_of hc5,wrap64,hsl1,hsl2.len Tryz.underlying32,hdn,SS,eq_self,reduceIte,reduceCtorEq,Nat.reduceEqDiff,Nat.reduceAdd]
 refine LoopH.by (fun m' s' H''=>∃ j st',m'+j=ls.length - (i+1)/\s' 1=.func (.func fS) #[] (List.toArray caps)/\s' 4=.pointer (some ⟨H.length,0,none⟩)/\s' 5=.pointer (some ⟨A.length,0,none⟩)/\s' 6=.int .i64 ((i:Nat):Int)/\s' 7=us.getD i undef/\s' 16=v/\s' 17=.int .i64 (ls.length:Int)/\s' 18=.int .i64 ((i:Nat):Int)/\s' 27=subV v (i+1) us.length/\s' 28=.int .i64 ((ls.length - (i+1):Nat):Int)/\s' 29=.int .i64 ((j:Nat):Int)/\H''[A.length]?=some (.cells [v,st'] 34 false)/\H''[H.length]?=some (.cells [.slice none 0 0,.slice none 0 0] 34 false)/\(st'=.slice none 0 0∨B.length<=rowO st')/\MineP 115 H H'' st' (stpO p ls i ++ stpI p ls i j)/\H<+:H'') (ls.length - (i+1)) ?_ ?_
 ·refine ⟨0,st,by simp,?_⟩
  simp only [SS,eq_self,reduceIte,reduceCtorEq,Nat.reduceEqDiff,Nat.reduceAdd,s1,s4,s5,s16,s17,s18]
  have f0:MineP 115 H H' st (stpO p ls i ++ stpI p ls i 0):=by rw [stpI,List.append_nil];exact hmn
  (repeat' first | exact hc5 | exact hc4 | exact hst | exact f0 | exact hpp | apply And.intro) <;> first | (simp only [Value.int.injEq,true_and];omega) | omega | rfl | assumption | (simp;done) | (simp;omega)
 ·rintro m' s' H'' ⟨j,st',hm',g1,g4,g5,g6,g7,g16,g17,g18,g27,g28,g29,hc5',hc4',hst',hmn',hpp'⟩
  simp (disch:=omega) only [g1,g4,g5,g6,g7,g16,g17,g18,g27,g28,g29,SS,eq_self,reduceIte,reduceCtorEq,Nat.reduceEqDiff,Nat.reduceAdd]
  refine brD.intro (fun q=>?_) (fun q=>?_)
  ·have hj:i+1+j<ls.length:=by omega
   have hH2:=h.pre hpp'
   have hsl':=hH2.row.slice (P:=Tryz.prog) (t:=32) Tryz.underlying32 cs27 (bound_some (k:=.i64) (i:=(i:Int)+1) (by omega) 0) (hi_none us.length) (show ((i:Int)+1).toNat<=us.length by omega) (Nat.le_refl _)
   rw [hi1,hdl] at hsl'
   obtain ⟨_,hsr,_⟩:=hsl'
   have hjd:j<(us.drop (i+1)).length:=by simp;omega
   have hcj:=hsr.cell hjd
   have hdd:(us.drop (i+1)).getD j undef=us.getD (i+1+j) undef:=by
    rw [List.getD_eq_getElem?_getD,List.getD_eq_getElem?_getD,List.getElem?_drop]
   rw [hdd] at hcj
   have hmj:ls.getD (i+1+j) [] ∈ ls:=by simp [hj]
   simp (disch:=omega) only [g1,g4,g5,g6,g7,g16,g17,g18,g27,g28,g29,hsr.ix Tryz.underlying32 cs27,Int.toNat_natCast,hcj,SS,eq_self,reduceIte,reduceCtorEq,Nat.reduceEqDiff,Nat.reduceAdd]
   refine CallH.by (hS _ _ _ _ H'' (hp.trans hpp') (hH2.each i hi) (hH2.each (i+1+j) hj) hmi hmj) ?_
   rintro _ D ⟨rfl,pD⟩
   have hcD5:=pre_at pD hc5'
   have hcD4:=pre_at pD hc4'
   have hpD:=hpp'.trans pD
   have hmD:=hmn'.pre pD
   have hsl1:=stpO_len p ls i
   have hsl2:=stpI_len p ls i j
   have hmul:i * ls.length<=1000 * 1000:=Nat.mul_le_mul (by omega) hls
   have lD:=hpD.length_le
   have l5:=at_lt hc5'
   simp (disch:=omega) only [SS,eq_self,reduceIte,reduceCtorEq,Nat.reduceEqDiff,Nat.reduceAdd]
   refine brH.intro (fun e=>?_) (fun e=>?_)
   ·have hstep:stpI p ls i (j+1)=stpI p ls i j ++ [((i:Int),((i+1+j:Nat):Int))]:=by rw [stpI,if_pos e]
    obtain ⟨st2,H3,k1,k2,k3,k4,k5,k6⟩:=own1_24 hmD hpD (by rw [List.length_append];omega) (i:Int) ((i+1+j:Nat):Int)
    have hne:st'=.slice none 0 0∨∀ o,o<B.length->o ≠ rowO st':=hst'.imp id fun q o ho=>by omega
    have d5:H3[A.length]?=some (.cells [v,st'] 34 false):=k4 _ _ (hne.imp id fun q=>q _ (by omega)) hcD5
    have d4:H3[H.length]?=some (.cells [.slice none 0 0,.slice none 0 0] 34 false):=k4 _ _ (hne.imp id fun q=>q _ (by omega)) hcD4
    obtain ⟨q2,hq2⟩:=k2.row.shape
    have t1:isTup st2=false:=k6
    have t2:st2.cells.toList=[st2]:=by rw [hq2];rfl
    have hst3:=st_at (P:=Tryz.prog) (t:=24) (i:=1) (y:=st2) cs24 d5 (by show 1<2;decide) t1 t2
    have hidx:(i:Int)+1+(j:Int)=((i+1+j:Nat):Int):=by omega
    have lDB:B.length<=D.length:=by have:=hpp'.length_le;have:=pD.length_le;omega
    simp (disch:=omega) only [e,g1,g4,g5,g6,g7,g16,g17,g18,g27,g28,g29,cell_of hcD5,build_a2,wrap64,hidx,k1,hst3,SS,eq_self,reduceIte,reduceCtorEq,Nat.reduceEqDiff,Nat.reduceAdd]
    have f5:(H3.set A.length (.cells ([v,st'].set 1 st2) 34 false))[A.length]?=some (.cells [v,st2] 34 false):=by
     rw [List.getElem?_set_self (at_lt d5)];rfl
    have f4:(H3.set A.length (.cells ([v,st'].set 1 st2) 34 false))[H.length]?=some (.cells [.slice none 0 0,.slice none 0 0] 34 false):=by
     rw [List.getElem?_set_ne (by omega)];exact d4
    have fs':st2=.slice none 0 0∨B.length<=rowO st2:=.inr (by omega)
    have fm:MineP 115 H (H3.set A.length (.cells ([v,st'].set 1 st2) 34 false)) st2 (stpO p ls i ++ stpI p ls i (j+1)):=by
     rw [hstep,<- List.append_assoc]
     exact k2.keepL fun hl y hy=>by rw [List.getElem?_set_ne (by omega)];exact hy
    have fp:H<+:H3.set A.length (.cells ([v,st'].set 1 st2) 34 false):=pre_set k3 (by omega) _
    refine ⟨m' - 1,by omega,j+1,st2,?_⟩
    (repeat' first | exact f5 | exact f4 | exact fs' | exact fm | exact fp | apply And.intro) <;> first | (simp only [Value.int.injEq,true_and];omega) | omega | rfl | assumption | (simp;done) | (simp;omega)
   ·have hstep:stpI p ls i (j+1)=stpI p ls i j:=by rw [stpI,if_neg (by rw [e];decide),List.append_nil]
    rw [<- hstep] at hmD
    simp (disch:=omega) only [e,g1,g4,g5,g6,g7,g16,g17,g18,g27,g28,g29,wrap64,SS,eq_self,reduceIte,reduceCtorEq,Nat.reduceEqDiff,Nat.reduceAdd]
    refine ⟨m' - 1,by omega,j+1,st',?_⟩
    (repeat' first | exact hcD5 | exact hcD4 | exact hst' | exact hmD | exact hpD | apply And.intro) <;> first | (simp only [Value.int.injEq,true_and];omega) | omega | rfl | assumption | (simp;done) | (simp;omega)
  ·have hjj:j=ls.length - (i+1):=by omega
   subst hjj
   have hstO:stpO p ls (i+1)=stpO p ls i ++ stpI p ls i (ls.length - (i+1)):=rfl
   rw [<- hstO] at hmn'
   simp (disch:=omega) only [g1,g4,g5,g6,g7,g16,g17,g18,g27,g28,g29,wrap64,SS,eq_self,reduceIte,reduceCtorEq,Nat.reduceEqDiff,Nat.reduceAdd]
   refine ⟨m - 1,by omega,i+1,st',?_⟩
   (repeat' first | exact hc5' | exact hc4' | exact hst' | exact hmn' | exact hpp' | apply And.intro) <;> first | (simp only [Value.int.injEq,true_and];omega) | omega | rfl | assumption | (simp;done) | (simp;omega)
def SpRow (H:AH)(a b:Value)(ls:List (List Int))(ps:List (Int × Int)):Prop:=(∃ bd,RowLB bd 27 3 H a ls)/\RowP 115 H b ps
def SpIn (lo hi:Nat)(H:AH)(a b:Value)(ls:List (List Int))(ps:List (Int × Int)):Prop:=∃ mid,lo<=mid/\mid<=hi/\InL lo mid 27 3 H a ls/\InP mid hi 115 H b ps
theorem SpIn.row {lo hi:Nat}{H:AH}{a b:Value}{ls:List (List Int)}{ps:List (Int × Int)}(h:SpIn lo hi H a b ls ps):SpRow H a b ls ps:=by
 obtain ⟨mid,h1,h2,h3,h4⟩:=h
 exact ⟨⟨_,h3.row⟩,h4.row.1⟩
theorem SpIn.pre {lo hi:Nat}{H H':AH}{a b:Value}{ls:List (List Int)}{ps:List (Int × Int)}(h:SpIn lo hi H a b ls ps)(hp:H<+:H'):SpIn lo hi H' a b ls ps:=by
 obtain ⟨mid,h1,h2,h3,h4⟩:=h
 exact ⟨mid,h1,h2,h3.pre hp,h4.pre hp⟩
theorem SpIn.keep {lo hi lo' hi':Nat}{H H':AH}{a b:Value}{ls:List (List Int)}{ps:List (Int × Int)}(h:SpIn lo hi H a b ls ps)(he:ElseR lo' hi' H H')(hl:hi<=lo'∨hi'<=lo):SpIn lo hi H' a b ls ps:=by
 obtain ⟨mid,h1,h2,h3,h4⟩:=h
 exact ⟨mid,h1,h2,h3.keep he (by omega),h4.keep he (by omega)⟩
theorem SpRow.pre {H H':AH}{a b:Value}{ls:List (List Int)}{ps:List (Int × Int)}(h:SpRow H a b ls ps)(hp:H<+:H'):SpRow H' a b ls ps:=⟨h.1.imp fun _ q=>q.pre hp,h.2.pre hp⟩
theorem SpRow.shape {H:AH}{a b:Value}{ls:List (List Int)}{ps:List (Int × Int)}(h:SpRow H a b ls ps):(∃ p n c,a=.slice p n c)/\∃ p n c,b=.slice p n c:=by
 obtain ⟨⟨bd,us,h1,_⟩,h2⟩:=h
 obtain ⟨p,e⟩:=h1.shape
 obtain ⟨q,e2⟩:=h2.shape
 exact ⟨⟨_,_,_,e⟩,⟨_,_,_,e2⟩⟩
theorem SpRow.box {H G:AH}{a b:Value}{ls:List (List Int)}{ps:List (Int × Int)}(h:SpRow G a b ls ps):boxA Tryz.prog 34 (.agg (List.toArray [a,b])) H=some (.pointer (some ⟨H.length,0,none⟩),H ++ [.cells [a,b] 34 false]):=by
 obtain ⟨⟨p,n,c,rfl⟩,⟨q,m,d,rfl⟩⟩:=h.shape
 kernel_rfl
theorem SpRow.store {e:TypeId}{H G:AH}{o:Nat}{vs:List Value}{a b:Value}{ls:List (List Int)}{ps:List (Int × Int)}(h:SpRow G a b ls ps)(ho:H[o]?=some (.cells vs e false))(hv:vs.length=2) :
  storeA Tryz.prog 34 (.pointer (some ⟨o,0,none⟩)) (.agg (List.toArray [a,b])) H=some (H.set o (.cells [a,b] e false)):=by
 obtain ⟨⟨p,n,c,rfl⟩,⟨q,m,d,rfl⟩⟩:=h.shape
 exact st_ss ho hv p q n c m d
def cd55:Cd:=(.seq (.reg [⟨⟨some 1,.box 34 (.tmp 0),none⟩,[]⟩,⟨⟨some 2,.alloc 34,none⟩,[]⟩,⟨⟨some 3,.assign (.const (.bool false)),none⟩,[]⟩]) (.seq (.seq (.reg [⟨⟨some 4,.fieldAddr 34 (.tmp 1) 0,none⟩,[]⟩,⟨⟨some 5,.load 32 (.tmp 4),none⟩,[]⟩,⟨⟨some 6,.call ⟨(.builtin .len),#[.tmp 5],#[32]⟩,none⟩,[]⟩,⟨⟨some 7,.binOp .gtr 3 (.tmp 6) (.const (.int .i64 300)) 3,none⟩,[]⟩,⟨⟨some 8,.move (.tmp 7),none⟩,[]⟩,⟨⟨some 9,.fieldAddr 34 (.tmp 1) 1,some (8,false)⟩,[]⟩,⟨⟨some 10,.load 24 (.tmp 9),some (8,false)⟩,[]⟩,⟨⟨some 11,.call ⟨(.builtin .len),#[.tmp 10],#[24]⟩,some (8,false)⟩,[]⟩,⟨⟨some 12,.binOp .gtr 3 (.tmp 11) (.const (.int .i64 6000)) 3,some (8,false)⟩,[]⟩,⟨⟨some 13,.pick (.tmp 8) (.const (.bool true)) (.tmp 12),none⟩,[]⟩]) (.cond (.tmp 13) (.seq (.reg [⟨⟨some 14,.build 34 #[],none⟩,[]⟩,
 ⟨⟨none,.store 34 (.tmp 2) (.tmp 14),none⟩,[]⟩,
  ⟨⟨some 3,.assign (.const (.bool false)),none⟩,[]⟩]) .ret) .skip)) (.seq (.reg [⟨⟨some 15,.load 34 (.tmp 1),none⟩,[]⟩,
  ⟨⟨none,.store 34 (.tmp 2) (.tmp 15),none⟩,[]⟩,
  ⟨⟨some 3,.assign (.const (.bool true)),none⟩,[]⟩]) .ret)))
theorem in55:InT Tryz.prog 55 1 [.cell 2 34,.tmp 3] cd55:=InT.mk (by kernel_rfl) [] Tryz.func55 rfl (by kernel_rfl) (by kernel_rfl) (of_decide_eq_true (by kernel_rfl)) (by kernel_rfl)
end Go.Proofs.YtlcipphiflcaiaaGreat.Ai
namespace Go.Proofs.YtlcipphiflcaiaaGreat.Ai
open Go Go.RowKit
theorem orNone_c (a b:Value)(ls:List (List Int))(ps:List (Int × Int))(H:AH)(hr:SpRow H a b ls ps)(hl:ls.length<=300)(hp:ps.length<=6000) :
  ACalls Tryz.prog 55 [.agg (List.toArray [a,b])] H fun r H'=>r=.tuple (List.toArray [.agg (List.toArray [a,b]),.bool true])/\H<+:H':=by
 refine in55 rfl ?_
 intro Q hQ
 simp (disch:=omega) only [cd55,hr.box,SS,eq_self,reduceIte,reduceCtorEq,Nat.reduceEqDiff,Nat.reduceAdd]
 generalize hA0:H ++ [AObj.cells [a,b] 34 false]=A0
 have pA0:H<+:A0:=by rw [<- hA0];exact List.prefix_append _ _
 have cA0:A0[H.length]?=some (.cells [a,b] 34 false):=by rw [<- hA0];exact at_new ..
 simp (disch:=omega) only [alloc_sp,SS,eq_self,reduceIte,reduceCtorEq,Nat.reduceEqDiff,Nat.reduceAdd]
 generalize hA:A0 ++ [AObj.cells [.slice none 0 0,.slice none 0 0] 34 false]=A
 have pA:A0<+:A:=by rw [<- hA];exact List.prefix_append _ _
 have cA:A[A0.length]?=some (.cells [.slice none 0 0,.slice none 0 0] 34 false):=by rw [<- hA];exact at_new ..
 have cB:=pre_at pA cA0
 have rA:=hr.pre (pA0.trans pA)
 obtain ⟨bd,us,r1,r2,r3⟩:=rA.1
 have g1:¬ (300<(us.length:Int)):=by omega
 have g2:¬ (6000<(ps.length:Int)):=by omega
 have hst:=rA.store cA rfl
 simp (disch:=omega) only [cell_of cB,r1.len Tryz.underlying32,rA.2.len Tryz.underlying24,decide_eq_false g1,decide_eq_false g2,ld_agg ag34 cs34 cB,hst,SS,eq_self,reduceIte,reduceCtorEq,Nat.reduceEqDiff,Nat.reduceAdd]
 have d4:=at_set (d:=.cells [a,b] 34 false) cA
 refine hQ _ _ _ (end_cell2 _ _ _ _ _ _ _ (.agg (List.toArray [a,b])) (.bool true) ?_ rfl ?_ rfl ⟨rfl,?_⟩)
 ·simp (disch:=omega) only [ld_agg ag34 cs34 d4,SS,eq_self,reduceIte,reduceCtorEq,Nat.reduceEqDiff,Nat.reduceAdd]
 ·simp (disch:=omega) only [SS,eq_self,reduceIte,reduceCtorEq,Nat.reduceEqDiff,Nat.reduceAdd]
 ·exact pre_set (pA0.trans pA) (by have:=pA0.length_le;omega) _
def adj1 (L:List (List Int))(e:Int × Int):List (List Int):=(L.set e.1.toNat (L.getD e.1.toNat [] ++ [e.2])).set e.2.toNat (L.getD e.2.toNat [] ++ [e.1])
def adjL (n:Nat)(ps:List (Int × Int)):List (List Int):=ps.foldl adj1 (List.replicate n [])
theorem adj1_len (L:List (List Int))(e:Int × Int):(adj1 L e).length=L.length:=by simp [adj1]
theorem adjF_len:∀ (ps:List (Int × Int)) (L:List (List Int)),(ps.foldl adj1 L).length=L.length
 | [],L=>rfl
 | e :: ps,L=>by rw [List.foldl_cons,adjF_len ps,adj1_len]
theorem adjL_len (n:Nat)(ps:List (Int × Int)):(adjL n ps).length=n:=by unfold adjL;rw [adjF_len];simp
theorem mk_lists {n:Int}(h0:0<=n)(h1:n<=1099511627776)(H:AH) :
  makeSliceA Tryz.prog 32 (.int .i64 n) (.int .i64 n) H=some (.slice (some ⟨H.length,0,none⟩) n.toNat n.toNat,H ++ [.cells (List.replicate n.toNat (.slice none 0 0)) 27 false]):=by
 have hb2:n.toNat * Tryz.prog.bytesOf 27<=281474976710656:=by
  rw [by27];omega
 have hzc:(Value.slice none 0 0).cells=#[.slice none 0 0]:=rfl
 have hzs:zerosA (.slice none 0 0) (n.toNat * 1)=List.replicate n.toNat (.slice none 0 0):=by
  unfold zerosA
  rw [hzc,Nat.mul_one]
  apply List.ext_getElem
  ·simp
  ·intro i h1 h2
   simp [Nat.mod_one]
 simp only [makeSliceA,Tryz.underlying32,cs27,ze27]
 rw [if_pos ⟨trivial,h0,by omega,hb2,by omega⟩,if_pos ⟨by simp [plainCs,hzc,plainC],by simp [hzc]⟩,hzs]
theorem own_base {e:TypeId}{H0 H1 H:AH}{v:Value}{xs:List Int}(h:Own e H0 H v xs)(hl:H1.length<=H0.length):Own e H1 H v xs:=by
 rcases h with h | ⟨o,h1,h2,h3⟩
 ·exact .inl h
 ·exact .inr ⟨o,h1,by omega,h3⟩
theorem own_keep {e:TypeId}{H0 H H':AH}{v:Value}{xs:List Int}(h:Own e H0 H v xs)(hh:∀ y,v ≠ .slice none 0 0->H[rowO v]?=some y->H'[rowO v]?=some y):Own e H0 H' v xs:=by
 rcases h with h | ⟨o,h1,h2,h3⟩
 ·exact .inl h
 ·exact .inr ⟨o,h1,h2,by subst h1;exact hh _ (by intro e;cases e) h3⟩
theorem own_nil {e:TypeId}{H0 H:AH}{v:Value}{xs:List Int}(h:Own e H0 H v xs):v=.slice none 0 0∨(H0.length<=rowO v/\rowO v<H.length):=by
 rcases h with h | ⟨o,h1,h2,h3⟩
 ·exact .inl h.1
 ·subst h1;exact .inr ⟨h2,at_lt h3⟩
structure Adj (C G:AH) (o:Nat) (us:List Value) (L:List (List Int)):Prop where
 at_:G[o]?=some (.cells us 27 false)
 olt:o<C.length
 len:us.length=L.length
 el:∀ i,i<L.length->Own 3 C G (us.getD i undef) (L.getD i [])
 ap:∀ i j,i ≠ j->i<L.length->j<L.length->Apart (us.getD i undef) (us.getD j undef)
 keep:∀ (j:Nat) (y:AObj),j ≠ o->C[j]?=some y->G[j]?=some y
 le:C.length<=G.length
theorem Adj.ne {C G:AH}{o:Nat}{us:List Value}{L:List (List Int)}(h:Adj C G o us L){i:Nat}(hi:i<L.length):us.getD i undef=.slice none 0 0∨rowO (us.getD i undef) ≠ o:=by
 rcases own_nil (h.el i hi) with g | g
 ·exact .inl g
 ·right;have:=h.olt;omega
theorem Adj.inU {C G:AH}{o lo:Nat}{us:List Value}{L:List (List Int)}(h:Adj C G o us L)(hlo:lo<=o):InU lo G.length 27 3 G o us L:=by
 have:=h.olt
 refine ⟨hlo,at_lt h.at_,h.at_,by rw [h.len];exact Nat.le_refl _,fun i hi=>⟨(InI.of (h.el i hi).mine).wide (by omega) (Nat.le_refl _),h.ne hi⟩,h.ap⟩
theorem Adj.pre {C G G':AH}{o:Nat}{us:List Value}{L:List (List Int)}(h:Adj C G o us L)(hp:G<+:G'):Adj C G' o us L :=
 ⟨pre_at hp h.at_,h.olt,h.len,fun i hi=>own_keep (h.el i hi) fun y _ hy=>pre_at hp hy,h.ap,fun j y hj hy=>pre_at hp (h.keep j y hj hy),Nat.le_trans h.le hp.length_le⟩
theorem Adj.upd1 {C G K:AH}{o x:Nat}{us:List Value}{L:List (List Int)}(h:Adj C G o us L)(hx:x<L.length){v1:Value}{l1:List Int}
  (h1:Own 3 C K v1 l1)(g1:G.length<=rowO v1)(hl:G.length<=K.length)
  (hk:∀ (j:Nat) (z:AObj),(us.getD x undef=.slice none 0 0∨j ≠ rowO (us.getD x undef))->G[j]?=some z->K[j]?=some z) :
  Adj C (K.set o (.cells (us.set x v1) 27 false)) o (us.set x v1) (L.set x l1):=by
 have hol:=h.olt
 have hle:=h.le
 have hul:=h.len
 have ax:us.getD x undef=.slice none 0 0∨o ≠ rowO (us.getD x undef):=(h.ne hx).imp id fun e=>fun q=>e q.symm
 have ko:=hk o _ ax h.at_
 have gu:∀ i,(us.set x v1).getD i undef=if x=i then (if x<us.length then v1 else undef) else us.getD i undef:=by
  intro i
  rw [List.getD_eq_getElem?_getD,List.getElem?_set]
  by_cases e1:x=i
  ·rw [if_pos e1,if_pos e1,if_pos (by omega),if_pos (by omega)];rfl
  ·rw [if_neg e1,if_neg e1,List.getD_eq_getElem?_getD]
 have gl:∀ i,(L.set x l1).getD i []=if x=i then (if x<L.length then l1 else []) else L.getD i []:=by
  intro i
  rw [List.getD_eq_getElem?_getD,List.getElem?_set]
  by_cases e1:x=i
  ·rw [if_pos e1,if_pos e1,if_pos (by omega),if_pos (by omega)];rfl
  ·rw [if_neg e1,if_neg e1,List.getD_eq_getElem?_getD]
 have setk:∀ {j:Nat} {z:AObj},j ≠ o->K[j]?=some z->(K.set o (.cells (us.set x v1) 27 false))[j]?=some z:=fun hj hz=>by
  rw [List.getElem?_set_ne (fun e=>hj e.symm)];exact hz
 have old:∀ i,i<L.length->i ≠ x->us.getD i undef ≠ .slice none 0 0->rowO (us.getD i undef)<G.length/\∀ z,G[rowO (us.getD i undef)]?=some z->K[rowO (us.getD i undef)]?=some z:=by
  intro i hi ix hn
  rcases own_nil (h.el i hi) with q | q
  ·exact absurd q hn
  refine ⟨q.2,fun z hz=>hk _ _ ?_ hz⟩
  rcases h.ap i x ix hi hx with q1 | q1 | q1
  ·exact .inl q1
  ·exact absurd q1 hn
  ·exact .inr q1
 refine ⟨at_set ko,hol,by simp [hul],fun i hi=>?_,fun i j hij hi hj=>?_,fun j z hj hz=>?_,by simp;omega⟩
 ·rw [List.length_set] at hi
  rw [gu,gl]
  by_cases e1:x=i
  ·rw [if_pos e1,if_pos e1,if_pos (by omega),if_pos (by omega)]
   exact own_keep h1 fun z _ hz=>setk (by omega) hz
  ·rw [if_neg e1,if_neg e1]
   refine own_keep (h.el i hi) fun z hn hz=>?_
   have hq:=old i hi (fun e=>e1 e.symm) hn
   refine setk ?_ (hq.2 z hz)
   rcases h.ne hi with q | q
   ·exact absurd q hn
   ·exact q
 ·rw [List.length_set] at hi hj
  have far:∀ (q:Nat) (v:Value),q<L.length->q ≠ x->G.length<=rowO v->us.getD q undef=.slice none 0 0∨rowO (us.getD q undef) ≠ rowO v:=by
   intro q v hq qx hv
   by_cases hn:us.getD q undef=.slice none 0 0
   ·exact .inl hn
   ·right;have:=(old q hq qx hn).1;omega
  rw [gu,gu]
  by_cases e1:x=i
  ·rw [if_pos e1,if_pos (by omega),if_neg (show ¬ x=j by omega)]
   rcases far j v1 hj (by omega) g1 with q | q
   ·exact .inl q
   ·exact .inr (.inr fun e=>q e.symm)
  ·rw [if_neg e1]
   by_cases e4:x=j
   ·rw [if_pos e4,if_pos (by omega)]
    rcases far i v1 hi (fun e=>e1 e.symm) g1 with q | q
    ·exact .inr (.inl q)
    ·exact .inr (.inr q)
   ·rw [if_neg e4];exact h.ap i j hij hi hj
 ·refine setk hj ?_
  have hC:us.getD x undef=.slice none 0 0∨j ≠ rowO (us.getD x undef):=by
   have hjl:=at_lt hz
   rcases own_nil (h.el x hx) with g | g
   ·exact .inl g
   ·right;omega
  exact hk j z hC (h.keep j z hj hz)
theorem Adj.same {C G K:AH}{o x:Nat}{us:List Value}{L:List (List Int)}(h:Adj C G o us L)(hx:x<L.length)(h1:Own 3 C K (us.getD x undef) (L.getD x []))(he:Else (us.getD x undef) G K):Adj C K o us L:=by
 have ax:us.getD x undef=.slice none 0 0∨o ≠ rowO (us.getD x undef):=(h.ne hx).imp id fun e=>fun q=>e q.symm
 refine ⟨he.2 _ _ ax h.at_,h.olt,h.len,fun i hi=>?_,h.ap,fun j z hj hz=>he.2 _ _ ?_ (h.keep j z hj hz),by rw [he.1];exact h.le⟩
 ·by_cases e:i=x
  ·subst e;exact h1
  ·refine own_keep (h.el i hi) fun z hn hz=>he.2 _ _ ?_ hz
   rcases h.ap i x e hi hx with q | q | q
   ·exact .inl q
   ·exact absurd q hn
   ·exact .inr q
 ·have hjl:=at_lt hz
  rcases own_nil (h.el x hx) with g | g
  ·exact .inl g
  ·right;omega
theorem Adj.app1 {C G:AH}{o x:Nat}{us:List Value}{L:List (List Int)}(h:Adj C G o us L)(hx:x<L.length)(hb:(L.getD x []).length<=1000000)(y:Int) :
  ∃ v K,appendA Tryz.prog 27 27 (us.getD x undef) (.slice (some ⟨G.length,0,none⟩) 1 1) (G ++ [.cells [.int .i64 y] 3 false])=some (v,K) /\
   (∀ (j:Nat) (z:AObj),(us.getD x undef=.slice none 0 0∨j ≠ rowO (us.getD x undef))->G[j]?=some z->K[j]?=some z)/\K[o]?=some (.cells us 27 false)/\isTup v=false/\v.cells.toList=[v] /\
   Adj C (K.set o (.cells (us.set x v) 27 false)) o (us.set x v) (L.set x (L.getD x [] ++ [y])):=by
 have hox:=h.el x hx
 have hle:=h.le
 have hlC:(G.take C.length).length=C.length:=by simp;omega
 have ox2:Own 3 (G.take C.length) G (us.getD x undef) (L.getD x []):=own_base hox (by omega)
 obtain ⟨v,K,j1,j2,j3,j4,j5,j6⟩:=own1_27 ox2 (List.take_prefix _ _) (by omega) y
 have hjC:Own 3 C K v (L.getD x [] ++ [y]):=own_base j2 (by omega)
 have ax:us.getD x undef=.slice none 0 0∨o ≠ rowO (us.getD x undef):=(h.ne hx).imp id fun e=>fun q=>e q.symm
 have hlK:G.length<=K.length:=by
  rcases own_nil hjC with q | q
  ·have h1:(L.getD x [] ++ [y]).length=0:=by
    rcases hjC with ⟨_,q1⟩ | ⟨o',q1,_⟩
    ·rw [q1];rfl
    ·rw [q1] at q;cases q
   simp at h1
  ·omega
 obtain ⟨p,hp⟩:=j2.row.shape
 exact ⟨v,K,j1,fun j z hj hz=>j4 j z hj hz,j4 o _ ax h.at_,j6,by rw [hp];rfl,h.upd1 hx hjC j5 hlK fun j z hj hz=>j4 j z hj hz⟩
def cd157:Cd:=(.seq (.seq (.reg [⟨⟨some 10,.move (.tmp 0),none⟩,[]⟩,⟨⟨some 11,.load 3 (.tmp 1),none⟩,[]⟩,⟨⟨some 12,.binOp .eql 3 (.tmp 10) (.tmp 11) 3,none⟩,[]⟩]) (.cond (.tmp 12) (.seq (.reg [⟨⟨some 13,.load 32 (.tmp 2),none⟩,[]⟩,⟨⟨some 14,.load 27 (.tmp 3),none⟩,[]⟩,⟨⟨some 15,.call ⟨(.value (.func 50)),#[.tmp 14],#[27]⟩,none⟩,[⟨some 13,.load 32 (.tmp 2),none⟩]⟩,⟨⟨some 16,.buildSlice 32 1 #[(0,.tmp 15)],none⟩,[]⟩,⟨⟨some 17,.call ⟨(.builtin .append),#[.tmp 13,.tmp 16],#[32,32]⟩,none⟩,[]⟩,⟨⟨none,.store 32 (.tmp 2) (.tmp 17),none⟩,[]⟩]) .ret) .skip)) (.seq (.reg [⟨⟨some 18,.load 32 (.tmp 4),none⟩,[]⟩,⟨⟨some 19,.move (.tmp 0),none⟩,[]⟩,⟨⟨some 20,.indexAddr 32 (.tmp 18) (.tmp 19),none⟩,[]⟩,⟨⟨some 21,.load 27 (.tmp 20),none⟩,[]⟩,⟨⟨some 22,.call ⟨(.builtin .len),#[.tmp 21],#[27]⟩,none⟩,[]⟩,
 ⟨⟨some 23,.move (.const (.int .i64 0)),none⟩,[]⟩]) (.block 0 (.loop (.seq (.reg [⟨⟨some 24,.binOp .lss 3 (.tmp 23) (.tmp 22) 3,none⟩,[]⟩]) (.seq (.cond (.tmp 24) .skip (.exit 0)) (.seq (.block 1 (.seq (.reg [⟨⟨some 25,.indexAddr 27 (.tmp 21) (.tmp 23),none⟩,[]⟩,⟨⟨some 26,.load 3 (.tmp 25),none⟩,[]⟩,⟨⟨some 9,.assign (.tmp 26),none⟩,[]⟩]) (.seq (.reg [⟨⟨some 27,.load 27 (.tmp 5),none⟩,[]⟩,⟨⟨some 28,.move (.tmp 9),none⟩,[]⟩,⟨⟨some 29,.indexAddr 27 (.tmp 27) (.tmp 28),none⟩,[]⟩,⟨⟨some 30,.load 3 (.tmp 29),none⟩,[]⟩,⟨⟨some 31,.load 27 (.tmp 5),none⟩,[]⟩,⟨⟨some 32,.move (.tmp 0),none⟩,[]⟩,⟨⟨some 33,.indexAddr 27 (.tmp 31) (.tmp 32),none⟩,[]⟩,⟨⟨some 34,.load 3 (.tmp 33),none⟩,[]⟩,⟨⟨some 35,.binOp .sub 3 (.tmp 34) (.const (.int .i64 1)) 3,none⟩,[]⟩,⟨⟨some 36,.binOp .eql 3 (.tmp 30) (.tmp 35) 3,none⟩,[]⟩]) (.cond (.tmp 36) (.seq (.reg [⟨⟨some 37,.load 27 (.tmp 3),none⟩,[]⟩,
 ⟨⟨some 38,.move (.tmp 9),none⟩,[]⟩,
  ⟨⟨some 39,.buildSlice 27 1 #[(0,.tmp 38)],none⟩,[]⟩,
  ⟨⟨some 40,.call ⟨(.builtin .append),#[.tmp 37,.tmp 39],#[27,27]⟩,none⟩,[]⟩,
  ⟨⟨none,.store 27 (.tmp 3) (.tmp 40),none⟩,[]⟩]) (.seq (.reg [⟨⟨some 41,.load 145 (.tmp 6),none⟩,[]⟩,
  ⟨⟨some 42,.move (.tmp 9),none⟩,[]⟩,
  ⟨⟨some 43,.call ⟨(.value (.tmp 41)),#[.tmp 42],#[3]⟩,none⟩,[]⟩]) (.reg [⟨⟨some 44,.load 27 (.tmp 3),none⟩,[]⟩,
  ⟨⟨some 45,.load 27 (.tmp 3),none⟩,[]⟩,
  ⟨⟨some 46,.call ⟨(.builtin .len),#[.tmp 45],#[27]⟩,none⟩,[]⟩,
  ⟨⟨some 47,.binOp .sub 3 (.tmp 46) (.const (.int .i64 1)) 3,none⟩,[]⟩,
  ⟨⟨some 48,.slice 27 (.tmp 44) none (some (.tmp 47)) none,none⟩,[]⟩,
  ⟨⟨none,.store 27 (.tmp 3) (.tmp 48),none⟩,[]⟩]))) .skip)))) (.reg [⟨⟨some 49,.binOp .add 3 (.tmp 23) (.const (.int .i64 1)) 3,none⟩,[]⟩,
  ⟨⟨some 23,.move (.tmp 49),none⟩,[]⟩]))))))))
theorem in157:InT Tryz.prog 157 7 [] cd157:=InT.mk (by kernel_rfl) [(1,[(0,false),(1,false),(2,true),(3,false),(4,true),(5,true)]),(5,[(0,false),(1,false),(2,false),(3,false),(4,false),(5,false),(6,false),(7,false),(8,false),(9,false)])] Tryz.func157 rfl (by kernel_rfl) (by kernel_rfl) (of_decide_eq_true (by kernel_rfl)) (by kernel_rfl)
def cd101:Cd:=(.seq (.reg [⟨⟨some 3,.box 26 (.tmp 0),none⟩,[]⟩,⟨⟨some 5,.box 3 (.tmp 2),none⟩,[]⟩,⟨⟨some 6,.assign (.const (.slice none 0 0)),none⟩,[]⟩]) (.seq (.reg [⟨⟨some 12,.buildSlice 32 0 #[],none⟩,[]⟩,⟨⟨some 13,.load 26 (.tmp 3),none⟩,[]⟩,⟨⟨some 14,.call ⟨(.value (.func 80)),#[.tmp 13],#[26]⟩,none⟩,[]⟩,⟨⟨some 7,.alloc 32,none⟩,[]⟩,⟨⟨some 8,.alloc 32,none⟩,[]⟩,⟨⟨none,.store 32 (.tmp 7) (.tmp 12),none⟩,[]⟩,⟨⟨none,.store 32 (.tmp 8) (.tmp 14),none⟩,[]⟩]) (.seq (.reg [⟨⟨some 15,.load 32 (.tmp 8),none⟩,[]⟩,⟨⟨some 16,.load 3 (.tmp 5),none⟩,[]⟩,⟨⟨some 17,.call ⟨(.value (.func 67)),#[.tmp 15,.tmp 16],#[32,3]⟩,none⟩,[]⟩,⟨⟨some 9,.alloc 27,none⟩,[]⟩,
 ⟨⟨none,.store 27 (.tmp 9) (.tmp 17),none⟩,[]⟩]) (.seq (.seq (.reg [⟨⟨some 18,.load 27 (.tmp 9),none⟩,[]⟩,⟨⟨some 19,.move (.tmp 1),none⟩,[]⟩,⟨⟨some 20,.indexAddr 27 (.tmp 18) (.tmp 19),none⟩,[]⟩,⟨⟨some 21,.load 3 (.tmp 20),none⟩,[]⟩,⟨⟨some 22,.binOp .lss 3 (.tmp 21) (.const (.int .i64 0)) 3,none⟩,[]⟩]) (.cond (.tmp 22) (.seq (.reg [⟨⟨some 23,.load 32 (.tmp 7),none⟩,[]⟩,⟨⟨some 6,.assign (.tmp 23),none⟩,[]⟩]) .ret) .skip)) (.seq (.reg [⟨⟨some 24,.move (.tmp 1),none⟩,[]⟩,⟨⟨some 25,.buildSlice 27 1 #[(0,.tmp 24)],none⟩,[]⟩,⟨⟨some 10,.alloc 27,none⟩,[]⟩,⟨⟨none,.store 27 (.tmp 10) (.tmp 25),none⟩,[]⟩]) (.seq (.reg [⟨⟨some 11,.alloc 145,none⟩,[]⟩]) (.seq (.reg [⟨⟨some 26,.makeFunc (Fn.func 157) #[] #[.tmp 5,.tmp 7,.tmp 10,.tmp 8,.tmp 9,.tmp 11],none⟩,[]⟩,⟨⟨none,.store 145 (.tmp 11) (.tmp 26),none⟩,[]⟩]) (.seq (.reg [⟨⟨some 27,.load 145 (.tmp 11),none⟩,[]⟩,⟨⟨some 28,.move (.tmp 1),none⟩,[]⟩,⟨⟨some 29,.call ⟨(.value (.tmp 27)),#[.tmp 28],#[3]⟩,none⟩,[]⟩]) (.seq (.reg [⟨⟨some 30,.load 32 (.tmp 7),none⟩,[]⟩,
 ⟨⟨some 6,.assign (.tmp 30),none⟩,[]⟩]) .ret)))))))))
theorem in101:InT Tryz.prog 101 3 [.tmp 6] cd101:=InT.mk (by kernel_rfl) [] Tryz.func101 rfl (by kernel_rfl) (by kernel_rfl) (of_decide_eq_true (by kernel_rfl)) (by kernel_rfl)
end Go.Proofs.YtlcipphiflcaiaaGreat.Ai
namespace Go.Proofs.YtlcipphiflcaiaaGreat.Ai
open Go Go.RowKit
theorem agW:isAggA Tryz.prog 145=some false:=by kernel_rfl
theorem csW:Tryz.prog.cellsOf 145=1:=by kernel_rfl
theorem alloc_slW (H:AH):allocA Tryz.prog 27 H=some (.pointer (some ⟨H.length,0,none⟩),H ++ [.cells [.slice none 0 0] 27 false]):=by kernel_rfl
theorem alloc_llW (H:AH):allocA Tryz.prog 32 H=some (.pointer (some ⟨H.length,0,none⟩),H ++ [.cells [.slice none 0 0] 32 false]):=by kernel_rfl
theorem alloc_fW (H:AH):allocA Tryz.prog 145 H=some (.pointer (some ⟨H.length,0,none⟩),H ++ [.cells [.nilFunc] 145 false]):=by kernel_rfl
theorem box_iW (H:AH)(k:Int):boxA Tryz.prog 3 (.int .i64 k) H=some (.pointer (some ⟨H.length,0,none⟩),H ++ [.cells [.int .i64 k] 3 false]):=by kernel_rfl
theorem mkf_6W (f:Fn)(p q r t u w:Option Addr):makeFuncA f [] [.pointer p,.pointer q,.pointer r,.pointer t,.pointer u,.pointer w]=some (.func f #[] (List.toArray [.pointer p,.pointer q,.pointer r,.pointer t,.pointer u,.pointer w])):=rfl
abbrev wayClo (pt po pe pr pfar pf:Nat):Value:=.func (.func 157) #[] (List.toArray [.pointer (some ⟨pt,0,none⟩),.pointer (some ⟨po,0,none⟩),.pointer (some ⟨pe,0,none⟩),.pointer (some ⟨pr,0,none⟩),.pointer (some ⟨pfar,0,none⟩),.pointer (some ⟨pf,0,none⟩)])
structure WayR (H:AH) (L:List (List Int)) (far:List Int) (t pt po pe pr pfar pf:Nat) (vr vf:Value) (us:List Value):Prop where
 t:cellA H pt 0=some (.int .i64 (t:Int))
 r:cellA H pr 0=some vr
 f:cellA H pfar 0=some vf
 c:H[pf]?=some (.cells [wayClo pt po pe pr pfar pf] 145 false)
 rows:RowV 27 H vr us/\us.length=L.length/\∀ i,i<L.length->Row 3 H (us.getD i undef) (L.getD i [])
 far:Row 3 H vf far
theorem wayRec_c {HB:AH}{fx:List (Nat × AObj)}{N t:Nat}{L:List (List Int)}{far:List Int}(hF:FarOk N L far t)(h8:N<=8)(pt po pe pr pfar pf:Nat)(vr vf:Value)(us:List Value)
  (hR:∀ {F H ed},LSt HB fx pe F H ed->WayR H L far t pt po pe pr pfar pf vr vf us) :
  ∀ (d x:Nat) (ed:List Int) (out:List (List Int)) (F:Nat->Prop) (H:AH),x<N->far.getD x 0=(d:Int)->ed.length+d<=100->out.length+wN L far d x<=1000000->IOut HB po out F H->LSt HB fx pe F H ed ->
   ACalls Tryz.prog 157 [.int .i64 (x:Int),.pointer (some ⟨pt,0,none⟩),.pointer (some ⟨po,0,none⟩),.pointer (some ⟨pe,0,none⟩),.pointer (some ⟨pr,0,none⟩),.pointer (some ⟨pfar,0,none⟩),.pointer (some ⟨pf,0,none⟩)] H fun r H' =>
    ∃ F',IOut HB po (out ++ wA L far d x ed) F' H'/\LSt HB fx pe F' H' ed:=by
 intro d
 have hll:=hF.ll
 have hfl:=hF.fl
 induction d with
 | zero =>
  intro x ed out F H hx hd hed hout hO hL
  have hxt:=hF.uniq x hx hd
  subst hxt
  refine in157 rfl ?_
  intro Q hQ
  obtain ⟨w,hw1,hw2,hw3,hw4⟩:=hL.row
  have q:=hR hL
  simp (disch:=omega) only [cd157,q.t,SS,eq_self,reduceIte,reduceCtorEq,Nat.reduceEqDiff,Nat.reduceAdd]
  have hO1:=hO
  obtain ⟨o,us1,hpo,_⟩:=hO1
  simp (disch:=omega) only [cell_of hpo,hw1,SS,eq_self,reduceIte,reduceCtorEq,Nat.reduceEqDiff,Nat.reduceAdd]
  refine CallH.by (Clone_c w ed H hw2 (by omega)) ?_
  rintro c C ⟨hc,pC⟩
  have hout':out.length+1<=1000000:=hout
  obtain ⟨w2,H3,H4,p0,p1,p2,p3,p4,F',hO4,hF4,hk4⟩:=hO.push hL.pre pC hc (by omega)
  have hww:=p0.symm.trans (cell_of hpo 0)
  simp only [List.getElem?_cons_zero,Option.some.injEq,Value.slice.injEq] at hww
  obtain ⟨hww,_,_⟩:=hww
  subst hww
  simp (disch:=omega) only [p1,p2,p3,p4,SS,eq_self,reduceIte,reduceCtorEq,Nat.reduceEqDiff,Nat.reduceAdd]
  refine hQ _ _ _ ?_
  simp (disch:=omega) only [SS,eq_self,reduceIte,reduceCtorEq,Nat.reduceEqDiff,Nat.reduceAdd]
  exact ⟨F',hO4,hL.cb (fun o ho=>(hO.live ho).2) hF4 hk4⟩
 | succ d ih =>
  intro x ed out F H hx hd hed hout hO hL
  refine in157 rfl ?_
  intro Q hQ
  have q:=hR hL
  have hne:¬ (x:Int)=(t:Int):=fun e=>by
   have:x=t:=by omega
   subst this
   rw [hF.zero] at hd;omega
  obtain ⟨ru,lu,eu⟩:=q.rows
  have hcx:=ru.cell (show x<us.length by omega)
  have hrow:=eu x (by omega)
  simp (disch:=omega) only [cd157,q.t,decide_eq_false hne,q.r,ru.ix Tryz.underlying32 cs27,Int.toNat_natCast,hcx,hrow.len Tryz.underlying27,SS,eq_self,reduceIte,reduceCtorEq,Nat.reduceEqDiff,Nat.reduceAdd]
  have eM:wA L far (d+1) (x:Int) ed=wT far (wA L far d) (d:Int) ed (L.getD x []):=by rw [wA,Int.toNat_natCast]
  have eN:wN L far (d+1) (x:Int)=wNT far (wN L far d) (d:Int) (L.getD x []):=by rw [wN,Int.toNat_natCast]
  rw [eM] at hQ
  rw [eN] at hout
  have hlx:=hF.lok x
  generalize hxs:L.getD x []=xs at *
  generalize hvx:us.getD x undef=vx at *
  have hsl:xs.length<=8:=by
   have:=nodup_leA (xs.map fun z=>z.toNat) (List.range N) (by
    rw [List.Nodup,List.pairwise_map]
    have ha:=hF.asc x
    rw [hxs] at ha
    refine List.Pairwise.imp_of_mem ?_ ha
    intro a b ha hb hab e
    have:=hlx a ha
    have:=hlx b hb
    omega) (fun y hy=>by
    obtain ⟨z,hz,rfl⟩:=List.mem_map.1 hy
    have:=hlx z hz
    exact List.mem_range.2 (by omega))
   rw [List.length_map,List.length_range] at this
   omega
  have rowH:∀ {F' H' ed'},LSt HB fx pe F' H' ed'->Row 3 H' vx xs:=fun h=>by
   have:=(hR h).rows.2.2 x (by omega)
   rwa [hxs,hvx] at this
  refine LoopH.by (fun m s H'=>∃ (k:Nat) (out':List (List Int)) (F':Nat->Prop),m+k=xs.length/\s 0=.int .i64 (x:Int)/\s 1=.pointer (some ⟨pt,0,none⟩)/\s 2=.pointer (some ⟨po,0,none⟩)/\s 3=.pointer (some ⟨pe,0,none⟩)/\s 4=.pointer (some ⟨pr,0,none⟩)/\s 5=.pointer (some ⟨pfar,0,none⟩)/\s 6=.pointer (some ⟨pf,0,none⟩)/\s 21=vx/\s 22=.int .i64 (xs.length:Int)/\s 23=.int .i64 ((k:Nat):Int) /\
   out' ++ wT far (wA L far d) (d:Int) ed (xs.drop k)=out ++ wT far (wA L far d) (d:Int) ed xs/\out'.length+wNT far (wN L far d) (d:Int) (xs.drop k)<=1000000/\IOut HB po out' F' H'/\LSt HB fx pe F' H' ed) xs.length ?_ ?_
  ·exact ⟨0,out,F,by simp,rfl,rfl,rfl,rfl,rfl,rfl,rfl,rfl,rfl,rfl,rfl,hout,hO,hL⟩
  rintro m s H' ⟨k,out',F',hm,h0,h1,h2,h3,h4,h5,h6,h21,h22,h23,hT,hcnt,hO',hL'⟩
  have hx':=rowH hL'
  have q':=hR hL'
  simp (disch:=omega) only [h0,h1,h2,h3,h4,h5,h6,h21,h22,h23,SS,eq_self,reduceIte,reduceCtorEq,Nat.reduceEqDiff,Nat.reduceAdd]
  refine brD.intro (fun g=>?_) (fun g=>?_)
  rotate_left
  ·have hk:k=xs.length:=by omega
   subst hk
   simp (disch:=omega) only [SS,eq_self,reduceIte,reduceCtorEq,Nat.reduceEqDiff,Nat.reduceAdd]
   refine hQ _ _ _ ?_
   simp (disch:=omega) only [SS,eq_self,reduceIte,reduceCtorEq,Nat.reduceEqDiff,Nat.reduceAdd]
   rw [List.drop_length] at hT
   rw [<- hT]
   simp only [wT,List.append_nil]
   exact ⟨F',hO',hL'⟩
  have hk:k<xs.length:=by omega
  have hym:xs.getD k 0 ∈ xs:=by simp [hk]
  have hyr:=hlx _ hym
  have hck:=hx'.cell hk
  obtain ⟨y,hy⟩:∃ y:Nat,xs.getD k 0=y:=⟨(xs.getD k 0).toNat,by omega⟩
  rw [hy] at hck hyr
  have hdrop:xs.drop k=(y:Int) :: xs.drop (k+1):=by
   rw [List.drop_eq_getElem_cons hk]
   congr 1
   rw [<- hy];simp [hk]
  rw [hdrop,wT,Int.toNat_natCast] at hT
  rw [hdrop,wNT,Int.toNat_natCast] at hcnt
  have hfr:=q'.far
  have hcy:=hfr.cell (show y<far.length by omega)
  have hcx:=hfr.cell (show x<far.length by omega)
  rw [hd] at hcx
  have hw1:IntKind.i64.wrap (((d+1:Nat):Int) - 1)=(d:Int):=by rw [wrap64 (by omega) (by omega)];omega
  simp (disch:=omega) only [h0,h1,h2,h3,h4,h5,h6,h21,h22,h23,hx'.ix Tryz.underlying27 cs3,Int.toNat_natCast,hck,q'.f,hfr.ix Tryz.underlying27 cs3,hcy,hcx,hw1,SS,eq_self,reduceIte,reduceCtorEq,Nat.reduceEqDiff,Nat.reduceAdd]
  by_cases e:far.getD y 0=(d:Int)
  ·rw [if_pos e] at hT hcnt
   obtain ⟨w',hw1',hw2',hw3',hw4'⟩:=hL'.row
   obtain ⟨w3,H2,H3,p1,p2,p3,hL3,hk3,hl3,_⟩:=hL'.push (fun o ho=>(hO'.live ho).1) (by omega) (y:Int)
   have hO3:=hO'.keep hk3
   have q3:=hR hL3
   have hff:=q3.c
   simp (disch:=omega) only [decide_eq_true e,h0,h1,h2,h3,h4,h5,h6,h21,h22,h23,p1,p2,p3,ld_one agW,cell_of hff,SS,eq_self,reduceIte,reduceCtorEq,Nat.reduceEqDiff,Nat.reduceAdd]
   refine CallH.by (ih y (ed ++ [(y:Int)]) out' F' H3 (by omega) e (by simp;omega) (by omega) hO3 hL3) ?_
   rintro _ H4 ⟨F4,hO4,hL4⟩
   obtain ⟨w4,c4,r1,r2,H5,r3,hL5,hk5,hl5⟩:=hL4.pop
   have hO5:=hO4.keep hk5
   have f2:(out' ++ wA L far d (y:Int) (ed ++ [(y:Int)])).length+wNT far (wN L far d) (d:Int) (xs.drop (k+1))<=1000000:=by rw [List.length_append,wA_len];omega
   have f3:(out' ++ wA L far d (y:Int) (ed ++ [(y:Int)])) ++ wT far (wA L far d) (d:Int) ed (xs.drop (k+1))=out ++ wT far (wA L far d) (d:Int) ed xs:=by rw [<- hT,List.append_assoc]
   have hcl:((ed.length+1:Nat):Int) - 1=(ed.length:Int):=by omega
   simp (disch:=omega) only [h0,h1,h2,h3,h4,h5,h6,h21,h22,h23,r1,hcl,r2,r3,wrap64,SS,eq_self,reduceIte,reduceCtorEq,Nat.reduceEqDiff,Nat.reduceAdd]
   refine ⟨m - 1,by omega,k+1,out' ++ wA L far d (y:Int) (ed ++ [(y:Int)]),F4,?_⟩
   (repeat' first | exact f2 | exact f3 | exact hO5 | exact hL5 | apply And.intro) <;> first | (simp only [Value.int.injEq,true_and];omega) | omega | rfl | assumption | (simp;done) | (simp;omega)
  ·rw [if_neg e,List.nil_append] at hT
   rw [if_neg e,Nat.zero_add] at hcnt
   simp (disch:=omega) only [decide_eq_false e,h0,h1,h2,h3,h4,h5,h6,h21,h22,h23,wrap64,SS,eq_self,reduceIte,reduceCtorEq,Nat.reduceEqDiff,Nat.reduceAdd]
   refine ⟨m - 1,by omega,k+1,out',F',?_⟩
   (repeat' first | exact hT | exact hcnt | exact hO' | exact hL' | apply And.intro) <;> first | (simp only [Value.int.injEq,true_and];omega) | omega | rfl | assumption | (simp;done) | (simp;omega)
def objs (G:AH)(p:Nat->Bool):List (Nat × AObj):=(List.range G.length).filterMap fun i=>if p i=true then G[i]?.map fun y=>(i,y) else none
theorem objs_mem {G:AH}{p:Nat->Bool}{q:Nat × AObj}:q ∈ objs G p↔p q.1=true/\G[q.1]?=some q.2:=by
 unfold objs
 rw [List.mem_filterMap]
 constructor
 ·rintro ⟨i,hi,h⟩
  split at h
  ·rename_i hp
   rw [Option.map_eq_some_iff] at h
   obtain ⟨y,h1,rfl⟩:=h
   exact ⟨hp,h1⟩
  ·cases h
 ·rintro ⟨h1,h2⟩
  refine ⟨q.1,List.mem_range.2 (at_lt h2),?_⟩
  rw [if_pos h1,h2];rfl
theorem ways_c (n:Int)(v:Value)(es:List (Int × Int))(s t:Int)(H:AH)(hr:RowP 115 H v es)(hlen:es.length<=1099511627776)(hw:WsOk n es s t) :
  ACalls Tryz.prog 101 [.agg (List.toArray [.int .i64 n,v]),.int .i64 s,.int .i64 t] H fun r H'=>InL H.length H'.length 27 3 H' r (wsL n es s t)/\H<+:H':=by
 have hF:=farG_ok hw
 obtain ⟨hg,hs,ht⟩:=hw
 have h8:=hg.1
 obtain ⟨sN,rfl⟩:∃ k:Nat,s=k:=⟨s.toNat,by omega⟩
 obtain ⟨tN,rfl⟩:∃ k:Nat,t=k:=⟨t.toNat,by omega⟩
 have hWs:wsL n es (sN:Int) (tN:Int)=if 0<=(farG n es (tN:Int)).getD sN 0 then wA (roadsL n.toNat es) (farG n es (tN:Int)) ((farG n es (tN:Int)).getD sN 0).toNat (sN:Int) [(sN:Int)] else []:=by
  unfold wsL
  rw [Int.toNat_natCast]
  by_cases e:0<=(farG n es (tN:Int)).getD sN 0
  ·rw [if_pos ⟨⟨hg,hs,ht⟩,e⟩,if_pos e]
  ·rw [if_neg (fun q=>e q.2),if_neg e]
 refine in101 rfl ?_
 intro Q hQ
 rw [hWs] at hQ
 simp (disch:=omega) only [cd101,hr.boxG,box_iW,SS,eq_self,reduceIte,reduceCtorEq,Nat.reduceEqDiff,Nat.reduceAdd]
 generalize hA:H ++ [AObj.cells [.int .i64 n,v] 26 false]=A
 have pA:H<+:A:=by rw [<- hA];exact List.prefix_append _ _
 have cA:A[H.length]?=some (.cells [.int .i64 n,v] 26 false):=by rw [<- hA];exact at_new ..
 have rA:=hr.pre pA
 have lA:A.length=H.length+1:=by rw [<- hA];simp
 generalize hB:A ++ [AObj.cells [.int .i64 (tN:Int)] 3 false]=B
 have pB:A<+:B:=by rw [<- hB];exact List.prefix_append _ _
 have cB:B[A.length]?=some (.cells [.int .i64 (tN:Int)] 3 false):=by rw [<- hB];exact at_new ..
 have lB:B.length=A.length+1:=by rw [<- hB];simp
 generalize hC:B ++ [AObj.cells [] 27 false]=C
 have pC:B<+:C:=by rw [<- hC];exact List.prefix_append _ _
 have cC:C[B.length]?=some (.cells [] 27 false):=by rw [<- hC];exact at_new ..
 have lC:C.length=B.length+1:=by rw [<- hC];simp
 have pAC:=pB.trans pC
 simp (disch:=omega) only [ld_agg ag26 cs26 (pre_at pAC cA),SS,eq_self,reduceIte,reduceCtorEq,Nat.reduceEqDiff,Nat.reduceAdd]
 refine CallH.by (roads_c n v es C (rA.pre pAC) hlen hg) ?_
 rintro vr D ⟨hL,pD⟩
 have lD:=pD.length_le
 have hrl:=roadsL_len n.toNat es
 obtain ⟨us,ru,lu,eu⟩:=hL.parts
 obtain ⟨pv,hpv⟩:=ru.shape
 simp (disch:=omega) only [alloc_llW,SS,eq_self,reduceIte,reduceCtorEq,Nat.reduceEqDiff,Nat.reduceAdd]
 generalize hE1:D ++ [AObj.cells [.slice none 0 0] 32 false]=E1
 have pE1:D<+:E1:=by rw [<- hE1];exact List.prefix_append _ _
 have cE1:E1[D.length]?=some (.cells [.slice none 0 0] 32 false):=by rw [<- hE1];exact at_new ..
 have lE1:E1.length=D.length+1:=by rw [<- hE1];simp
 generalize hE2:E1 ++ [AObj.cells [.slice none 0 0] 32 false]=E2
 have pE2:E1<+:E2:=by rw [<- hE2];exact List.prefix_append _ _
 have cE2:E2[E1.length]?=some (.cells [.slice none 0 0] 32 false):=by rw [<- hE2];exact at_new ..
 have lE2:E2.length=E1.length+1:=by rw [<- hE2];simp
 have s1:=st_at (P:=Tryz.prog) (t:=32) (i:=0) (y:=.slice (some ⟨B.length,0,none⟩) 0 0) cs32 (pre_at pE2 cE1) (by show 0<1;decide) rfl rfl
 rw [List.set_cons_zero] at s1
 generalize hE3:E2.set D.length (.cells [.slice (some ⟨B.length,0,none⟩) 0 0] 32 false)=E3 at *
 have at3:∀ {o y},o ≠ D.length->E2[o]?=some y->E3[o]?=some y:=fun ho hy=>by rw [<- hE3,List.getElem?_set_ne (fun e=>ho e.symm)];exact hy
 have l3:E3.length=E2.length:=by rw [<- hE3];simp
 have c3:E3[D.length]?=some (.cells [.slice (some ⟨B.length,0,none⟩) 0 0] 32 false):=by rw [<- hE3,List.getElem?_set_self (by omega)]
 have s2:=st_at (P:=Tryz.prog) (t:=32) (i:=0) (y:=vr) cs32 (at3 (by omega) cE2) (by show 0<1;decide) (by rw [hpv];rfl) (by rw [hpv];rfl)
 rw [List.set_cons_zero] at s2
 generalize hE4:E3.set E1.length (.cells [vr] 32 false)=E4 at *
 have at4:∀ {o y},o ≠ E1.length->E3[o]?=some y->E4[o]?=some y:=fun ho hy=>by rw [<- hE4,List.getElem?_set_ne (fun e=>ho e.symm)];exact hy
 have l4:E4.length=E3.length:=by rw [<- hE4];simp
 have c4:E4[E1.length]?=some (.cells [vr] 32 false):=by rw [<- hE4,List.getElem?_set_self (by omega)]
 have old4:∀ {o y},o<D.length->D[o]?=some y->E4[o]?=some y:=fun ho hy=>at4 (by omega) (at3 (by omega) (pre_at (pE1.trans pE2) hy))
 have pD4:D<+:E4:=prefix_of fun o y hy=>old4 (at_lt hy) hy
 have d4:=at4 (by omega) c3
 have hL4:=hL.pre pD4
 simp (disch:=omega) only [s1,s2,cell_of c4,cell_of (pre_at pD4 (pre_at (pC.trans pD) cB)),SS,eq_self,reduceIte,reduceCtorEq,Nat.reduceEqDiff,Nat.reduceAdd]
 refine CallH.by (spread_c vr (roadsL n.toNat es) tN E4 hL4.row (roadsL_ok _ _) (by omega) (by omega) (roadsL_small _ _ (by omega))) ?_
 rintro vf F ⟨hf,pF⟩
 have lF:=pF.length_le
 have hfar:farG n es (tN:Int)=bfs (roadsL n.toNat es) tN:=by unfold farG;rw [Int.toNat_natCast]
 rw [Int.toNat_natCast] at hF
 rw [<- hfar] at hf
 have hb:=hF.lo sN (by omega)
 have hfl:=hF.fl
 generalize farG n es (tN:Int)=far at *
 generalize roadsL n.toNat es=L at *
 obtain ⟨pf0,hpf0⟩:=hf.row.shape
 have st7:=st_at (P:=Tryz.prog) (t:=27) (i:=0) (y:=vf) cs27 (at_new F (.cells [.slice none 0 0] 27 false)) (by show 0<1;decide) (by rw [hpf0];rfl) (by rw [hpf0];rfl)
 rw [set_new,List.set_cons_zero] at st7
 simp (disch:=omega) only [alloc_slW,st7,SS,eq_self,reduceIte,reduceCtorEq,Nat.reduceEqDiff,Nat.reduceAdd]
 generalize hG:F ++ [AObj.cells [vf] 27 false]=G
 have pG:F<+:G:=by rw [<- hG];exact List.prefix_append _ _
 have cG:G[F.length]?=some (.cells [vf] 27 false):=by rw [<- hG];exact at_new ..
 have lG:G.length=F.length+1:=by rw [<- hG];simp
 have hfG:=hf.row.pre pG
 have hcs:=hfG.cell (show sN<far.length by omega)
 have p4G:=pF.trans pG
 have pHD:=pA.trans (pAC.trans pD)
 have pH4:=pHD.trans pD4
 have pHG:=pH4.trans p4G
 simp (disch:=omega) only [cell_of cG,hfG.ix Tryz.underlying27 cs3,Int.toNat_natCast,hcs,SS,eq_self,reduceIte,reduceCtorEq,Nat.reduceEqDiff,Nat.reduceAdd]
 refine brD.intro (fun e=>?_) (fun e=>?_)
 ·simp (disch:=omega) only [cell_of (pre_at p4G d4),SS,eq_self,reduceIte,reduceCtorEq,Nat.reduceEqDiff,Nat.reduceAdd]
  refine hQ _ _ _ ?_
  simp (disch:=omega) only [SS,eq_self,reduceIte,reduceCtorEq,Nat.reduceEqDiff,Nat.reduceAdd]
  rw [if_neg (by omega)]
  exact ⟨.inr ⟨B.length,[],rfl,by omega,by omega,pre_at p4G (pre_at pD4 (pre_at pD cC)),Nat.le_refl _,fun i hi=>absurd hi (by simp),fun i j _ hi _=>absurd hi (by simp)⟩,pHG⟩
 rw [if_pos (by omega)] at hQ
 obtain ⟨d,hd⟩:∃ d:Nat,far.getD sN 0=d:=⟨(far.getD sN 0).toNat,by omega⟩
 rw [hd,Int.toNat_natCast] at hQ
 simp (disch:=omega) only [SS,eq_self,reduceIte,reduceCtorEq,Nat.reduceEqDiff,Nat.reduceAdd]
 generalize hI:G ++ [AObj.cells [.int .i64 (sN:Int)] 3 false]=I
 have pI:G<+:I:=by rw [<- hI];exact List.prefix_append _ _
 have cI:I[G.length]?=some (.cells (ints [(sN:Int)]) 3 false):=by rw [<- hI];exact at_new ..
 have lI:I.length=G.length+1:=by rw [<- hI];simp
 have st9:=st_at (P:=Tryz.prog) (t:=27) (i:=0) (y:=.slice (some ⟨G.length,0,none⟩) 1 1) cs27 (at_new I (.cells [.slice none 0 0] 27 false)) (by show 0<1;decide) rfl rfl
 rw [set_new,List.set_cons_zero] at st9
 simp (disch:=omega) only [alloc_slW,st9,alloc_fW,mkf_6W,SS,eq_self,reduceIte,reduceCtorEq,Nat.reduceEqDiff,Nat.reduceAdd]
 generalize hJ:I ++ [AObj.cells [.slice (some ⟨G.length,0,none⟩) 1 1] 27 false]=J
 have pJ:I<+:J:=by rw [<- hJ];exact List.prefix_append _ _
 have cJ:J[I.length]?=some (.cells [.slice (some ⟨G.length,0,none⟩) 1 1] 27 false):=by rw [<- hJ];exact at_new ..
 have lJ:J.length=I.length+1:=by rw [<- hJ];simp
 have st11:=st_at (P:=Tryz.prog) (t:=145) (i:=0) (y:=wayClo A.length D.length I.length E1.length F.length J.length) csW (at_new J (.cells [.nilFunc] 145 false)) (by show 0<1;decide) rfl rfl
 rw [set_new,List.set_cons_zero] at st11
 simp (disch:=omega) only [st11,ld_one agW,cell_new,SS,eq_self,reduceIte,reduceCtorEq,Nat.reduceEqDiff,Nat.reduceAdd]
 generalize hK:J ++ [AObj.cells [wayClo A.length D.length I.length E1.length F.length J.length] 145 false]=K
 have pK:J<+:K:=by rw [<- hK];exact List.prefix_append _ _
 have cK:K[J.length]?=some (.cells [wayClo A.length D.length I.length E1.length F.length J.length] 145 false):=by rw [<- hK];exact at_new ..
 have lK:K.length=J.length+1:=by rw [<- hK];simp
 have pGK:=pI.trans (pJ.trans pK)
 have p4K:=p4G.trans pGK
 have pHK:=pH4.trans p4K
 have gpo:=pre_at p4K d4
 have goo:=pre_at p4K (pre_at pD4 (pre_at pD cC))
 have gpe:=pre_at pK cJ
 have goe:=pre_at (pJ.trans pK) cI
 have gt:=pre_at p4K (pre_at pD4 (pre_at (pC.trans pD) cB))
 have gr:=pre_at p4K c4
 have gf:=pre_at pGK cG
 have nob:∀ j,j ≠ B.length->¬ Obs B.length [] [] j:=by
  rintro j hj (e | ⟨i,hi,_⟩)
  ·exact hj e
  ·simp at hi
 have hO:IOut H D.length [] (fun j=>j=D.length∨Obs B.length [] [] j) K :=
  ⟨B.length,[],gpo,⟨by omega,by omega,goo,Nat.le_refl _,fun i hi=>absurd hi (by simp),fun i j _ hi _=>absurd hi (by simp)⟩,by omega,nob _ (by omega),rfl⟩
 have nF:∀ {j},j ≠ D.length->j ≠ B.length->¬ ((fun j=>j=D.length∨Obs B.length [] [] j) j):=fun h1 h2 h=>h.elim h1 (nob _ h2)
 have hLS:LSt H (objs K fun i=>decide (i ≠ D.length/\i ≠ B.length/\i ≠ I.length/\i ≠ G.length)) I.length (fun j=>j=D.length∨Obs B.length [] [] j) K [(sN:Int)]:=by
  refine ⟨fun q hq=>?_,⟨G.length,[(sN:Int)],gpe,goe,rfl,nF (by omega) (by omega),by omega,fun q hq=>?_,by omega⟩,nF (by omega) (by omega),by omega,pHK⟩
  ·obtain ⟨q1,q2⟩:=objs_mem.1 hq
   have q1:=of_decide_eq_true q1
   exact ⟨q2,nF q1.1 q1.2.1,q1.2.2.1⟩
  ·obtain ⟨q1,_⟩:=objs_mem.1 hq
   exact (of_decide_eq_true q1).2.2.2
 have hfK:=hf.row.pre (pG.trans pGK)
 have hvf:vf=.slice none 0 0∨(E4.length<=rowO vf/\rowO vf<F.length):=own_nil hf
 have hR:∀ {F':Nat->Prop} {H':AH} {ed:List Int},LSt H (objs K fun i=>decide (i ≠ D.length/\i ≠ B.length/\i ≠ I.length/\i ≠ G.length)) I.length F' H' ed->WayR H' L far tN A.length D.length I.length E1.length F.length J.length vr vf us:=by
  intro F' H' ed h
  have keep:∀ {j:Nat} {y:AObj},j ≠ D.length->j ≠ B.length->j ≠ I.length->j ≠ G.length->K[j]?=some y->H'[j]?=some y:=fun h1 h2 h3 h4 hy=>(h.fix (_,_) (objs_mem.2 ⟨decide_eq_true ⟨h1,h2,h3,h4⟩,hy⟩)).1
  have cells:∀ {w:Value} {e:TypeId} {H0:AH},(w=.slice none 0 0∨(C.length<=rowO w/\rowO w<D.length)∨(E4.length<=rowO w/\rowO w<F.length))->w ≠ .slice none 0 0->∀ y,K[rowO w]?=some y->H'[rowO w]?=some y:=fun hw hn y hy=>by
   rcases hw with q | q | q
   ·exact absurd q hn
   ·exact keep (by omega) (by omega) (by omega) (by omega) hy
   ·exact keep (by omega) (by omega) (by omega) (by omega) hy
  refine ⟨cell_of (keep (by omega) (by omega) (by omega) (by omega) gt) 0,cell_of (keep (by omega) (by omega) (by omega) (by omega) gr) 0,cell_of (keep (by omega) (by omega) (by omega) (by omega) gf) 0,keep (by omega) (by omega) (by omega) (by omega) cK,⟨?_,lu,fun i hi=>?_⟩,?_⟩
  ·have hvr:vr=.slice none 0 0∨(C.length<=rowO vr/\rowO vr<D.length):=by
    rcases hL with q | ⟨o,us',q,q1,q2,_⟩
    ·exact .inl q.1
    ·right;rw [q];exact ⟨q1,q2⟩
   rcases ru.pre (pD4.trans p4K) with q | q
   ·exact .inl q
   ·refine RowV.mono (.inr q) fun y hy=>?_
    rcases hvr with g | g
    ·obtain ⟨o',k',_,_,g1,_⟩:=q
     rw [g] at g1;cases g1
    ·exact keep (by omega) (by omega) (by omega) (by omega) hy
  ·have hi1:=eu i hi
   have hi2:=hi1.at_
   rcases hi1.row.1.pre (pD4.trans p4K) with q | q
   ·exact .inl q
   ·refine Row.mono (.inr q) fun y hy=>?_
    rcases hi2 with g | g
    ·obtain ⟨o',k',_,_,g1,_⟩:=q
     rw [g] at g1;cases g1
    ·exact keep (by omega) (by omega) (by omega) (by omega) hy
  ·rcases hfK with q | q
   ·exact .inl q
   ·refine Row.mono (.inr q) fun y hy=>?_
    rcases hvf with g | g
    ·obtain ⟨o',k',_,_,g1,_⟩:=q
     rw [g] at g1;cases g1
    ·exact keep (by omega) (by omega) (by omega) (by omega) hy
 have h9:=hF.nine (by omega) (show sN<n.toNat by omega) hd
 refine CallH.by (wayRec_c hF (by omega) A.length D.length I.length E1.length F.length J.length vr vf us hR d sN [(sN:Int)] [] _ K (by omega) hd (by simp;omega) (by simp;omega) hO hLS) ?_
 rintro _ H' ⟨F',hO',hL'⟩
 obtain ⟨o,us',h1,h2,_⟩:=hO'
 simp (disch:=omega) only [cell_of h1,SS,eq_self,reduceIte,reduceCtorEq,Nat.reduceEqDiff,Nat.reduceAdd]
 refine hQ _ _ _ ?_
 simp (disch:=omega) only [SS,eq_self,reduceIte,reduceCtorEq,Nat.reduceEqDiff,Nat.reduceAdd]
 exact ⟨h2.inl,hL'.pre⟩
def cd100:Cd:=(.seq (.reg [⟨⟨some 3,.box 26 (.tmp 0),none⟩,[]⟩,⟨⟨some 6,.assign (.const (.bool false)),none⟩,[]⟩]) (.seq (.reg [⟨⟨some 7,.load 26 (.tmp 3),none⟩,[]⟩,⟨⟨some 8,.call ⟨(.value (.func 64)),#[.tmp 7],#[26]⟩,none⟩,[]⟩,⟨⟨some 9,.move (.tmp 8),none⟩,[]⟩,⟨⟨some 10,.move (.tmp 1),some (9,true)⟩,[]⟩,⟨⟨some 11,.fieldAddr 26 (.tmp 3) 0,some (9,true)⟩,[]⟩,⟨⟨some 12,.load 3 (.tmp 11),some (9,true)⟩,[]⟩,⟨⟨some 13,.binOp .sub 3 (.tmp 12) (.const (.int .i64 1)) 3,some (9,true)⟩,[]⟩,⟨⟨some 14,.call ⟨(.value (.func 102)),#[.tmp 10,(.const (.int .i64 0)),.tmp 13],#[3,3,3]⟩,some (9,true)⟩,[]⟩,⟨⟨some 15,.pick (.tmp 9) (.tmp 14) (.const (.bool false)),none⟩,[]⟩,⟨⟨some 16,.move (.tmp 15),none⟩,[]⟩,⟨⟨some 17,.move (.tmp 2),some (16,true)⟩,[]⟩,
 ⟨⟨some 18,.fieldAddr 26 (.tmp 3) 0,some (16,true)⟩,[]⟩,
  ⟨⟨some 19,.load 3 (.tmp 18),some (16,true)⟩,[]⟩,
  ⟨⟨some 20,.binOp .sub 3 (.tmp 19) (.const (.int .i64 1)) 3,some (16,true)⟩,[]⟩,
  ⟨⟨some 21,.call ⟨(.value (.func 102)),#[.tmp 17,(.const (.int .i64 0)),.tmp 20],#[3,3,3]⟩,some (16,true)⟩,[]⟩,
  ⟨⟨some 22,.pick (.tmp 16) (.tmp 21) (.const (.bool false)),none⟩,[]⟩,
  ⟨⟨some 6,.assign (.tmp 22),none⟩,[]⟩]) .ret))
theorem in100:InT Tryz.prog 100 3 [.tmp 6] cd100:=InT.mk (by kernel_rfl) [] Tryz.func100 rfl (by kernel_rfl) (by kernel_rfl) (of_decide_eq_true (by kernel_rfl)) (by kernel_rfl)
def cd36:Cd:=(.seq (.reg [⟨⟨some 3,.box 26 (.tmp 0),none⟩,[]⟩,⟨⟨some 6,.assign (.const (.slice none 0 0)),none⟩,[]⟩,⟨⟨some 7,.assign (.const (.bool false)),none⟩,[]⟩]) (.seq (.seq (.reg [⟨⟨some 9,.load 26 (.tmp 3),none⟩,[]⟩,⟨⟨some 10,.move (.tmp 1),none⟩,[]⟩,⟨⟨some 11,.move (.tmp 2),none⟩,[]⟩,⟨⟨some 12,.call ⟨(.value (.func 100)),#[.tmp 9,.tmp 10,.tmp 11],#[26,3,3]⟩,none⟩,[]⟩,⟨⟨some 13,.unOp .not 4 (.tmp 12),none⟩,[]⟩]) (.cond (.tmp 13) (.seq (.reg [⟨⟨some 6,.assign (.const (.slice none 0 0)),none⟩,[]⟩,⟨⟨some 7,.assign (.const (.bool false)),none⟩,[]⟩]) .ret) .skip)) (.seq (.reg [⟨⟨some 14,.load 26 (.tmp 3),none⟩,[]⟩,⟨⟨some 15,.move (.tmp 1),none⟩,[]⟩,⟨⟨some 16,.move (.tmp 2),none⟩,[]⟩,⟨⟨some 17,.call ⟨(.value (.func 101)),#[.tmp 14,.tmp 15,.tmp 16],#[26,3,3]⟩,none⟩,[]⟩,⟨⟨some 8,.assign (.tmp 17),none⟩,[]⟩]) (.seq (.seq (.reg [⟨⟨some 18,.move (.tmp 8),none⟩,[]⟩,
 ⟨⟨some 19,.call ⟨(.builtin .len),#[.tmp 18],#[32]⟩,none⟩,[]⟩,
  ⟨⟨some 20,.call ⟨(.value (.func 102)),#[.tmp 19,(.const (.int .i64 1)),(.const (.int .i64 300))],#[3,3,3]⟩,none⟩,[]⟩,
  ⟨⟨some 21,.unOp .not 4 (.tmp 20),none⟩,[]⟩]) (.cond (.tmp 21) (.seq (.reg [⟨⟨some 6,.assign (.const (.slice none 0 0)),none⟩,[]⟩,
  ⟨⟨some 7,.assign (.const (.bool false)),none⟩,[]⟩]) .ret) .skip)) (.seq (.reg [⟨⟨some 22,.move (.tmp 8),none⟩,[]⟩,
  ⟨⟨some 6,.assign (.tmp 22),none⟩,[]⟩,
  ⟨⟨some 7,.assign (.const (.bool true)),none⟩,[]⟩]) .ret)))))
theorem in36:InT Tryz.prog 36 3 [.tmp 6,.tmp 7] cd36:=InT.mk (by kernel_rfl) [] Tryz.func36 rfl (by kernel_rfl) (by kernel_rfl) (of_decide_eq_true (by kernel_rfl)) (by kernel_rfl)
def cd96:Cd:=(.seq (.reg [⟨⟨some 4,.assign (.const (.bool false)),none⟩,[]⟩]) (.seq (.reg [⟨⟨some 5,.move (.tmp 0),none⟩,[]⟩,
 ⟨⟨some 6,.move (.tmp 1),none⟩,[]⟩,
 ⟨⟨some 7,.call ⟨(.value (.func 154)),#[.tmp 5,.tmp 6],#[27,27]⟩,none⟩,[]⟩,
 ⟨⟨some 8,.call ⟨(.builtin .len),#[.tmp 7],#[27]⟩,none⟩,[]⟩,
 ⟨⟨some 9,.binOp .eql 3 (.tmp 8) (.const (.int .i64 1)) 3,none⟩,[]⟩,
 ⟨⟨some 4,.assign (.tmp 9),none⟩,[]⟩]) .ret))
theorem in96:InT Tryz.prog 96 2 [.tmp 4] cd96:=InT.mk (by kernel_rfl) [] Tryz.func96 rfl (by kernel_rfl) (by kernel_rfl) (of_decide_eq_true (by kernel_rfl)) (by kernel_rfl)
def cd34:Cd:=(.seq (.reg [⟨⟨some 3,.box 26 (.tmp 0),none⟩,[]⟩,⟨⟨some 6,.alloc 34,none⟩,[]⟩,⟨⟨some 7,.assign (.const (.bool false)),none⟩,[]⟩]) (.seq (.reg [⟨⟨some 11,.load 26 (.tmp 3),none⟩,[]⟩,⟨⟨some 12,.move (.tmp 1),none⟩,[]⟩,⟨⟨some 13,.move (.tmp 2),none⟩,[]⟩,⟨⟨some 14,.call ⟨(.value (.func 36)),#[.tmp 11,.tmp 12,.tmp 13],#[26,3,3]⟩,none⟩,[]⟩,⟨⟨some 10,.move (.tmp 14),none⟩,[]⟩,⟨⟨some 15,.extract (.tmp 10) 0,none⟩,[]⟩,⟨⟨some 16,.extract (.tmp 10) 1,none⟩,[]⟩,⟨⟨some 8,.assign (.tmp 15),none⟩,[]⟩,⟨⟨some 9,.assign (.tmp 16),none⟩,[]⟩]) (.seq (.seq (.reg [⟨⟨some 17,.move (.tmp 9),none⟩,[]⟩,⟨⟨some 18,.unOp .not 4 (.tmp 17),none⟩,[]⟩]) (.cond (.tmp 18) (.seq (.reg [⟨⟨some 19,.build 34 #[],none⟩,[]⟩,
 ⟨⟨none,.store 34 (.tmp 6) (.tmp 19),none⟩,[]⟩,
  ⟨⟨some 7,.assign (.const (.bool false)),none⟩,[]⟩]) .ret) .skip)) (.seq (.reg [⟨⟨some 20,.move (.tmp 8),none⟩,[]⟩,
  ⟨⟨some 21,.call ⟨(.value (.func 56)),#[.tmp 20,(.func 96)],#[32,37]⟩,none⟩,[]⟩,
  ⟨⟨some 22,.call ⟨(.value (.func 55)),#[.tmp 21],#[34]⟩,none⟩,[]⟩,
  ⟨⟨some 23,.extract (.tmp 22) 0,none⟩,[]⟩,
  ⟨⟨some 24,.extract (.tmp 22) 1,none⟩,[]⟩,
  ⟨⟨none,.store 34 (.tmp 6) (.tmp 23),none⟩,[]⟩,
  ⟨⟨some 7,.assign (.tmp 24),none⟩,[]⟩]) .ret))))
theorem in34:InT Tryz.prog 34 3 [.cell 6 34,.tmp 7] cd34:=InT.mk (by kernel_rfl) [] Tryz.func34 rfl (by kernel_rfl) (by kernel_rfl) (of_decide_eq_true (by kernel_rfl)) (by kernel_rfl)
end Go.Proofs.YtlcipphiflcaiaaGreat.Ai
namespace Go.Proofs.YtlcipphiflcaiaaGreat.Ai
open Go Go.RowKit
theorem stpO_le_sq (p:List Int->List Int->Bool)(ls:List (List Int)){N:Nat}(h:ls.length<=N):(steps p ls).length<=N * N:=Nat.le_trans (stpO_len p ls ls.length) (Nat.mul_le_mul h h)
theorem isTwo_c (n:Int)(v:Value)(es:List (Int × Int))(s t:Int)(H:AH)(hr:RowP 115 H v es)(hlen:es.length<=1099511627776) :
  ACalls Tryz.prog 100 [.agg (List.toArray [.int .i64 n,v]),.int .i64 s,.int .i64 t] H fun r H'=>r=.bool (decide (WsOk n es s t))/\H<+:H':=by
 refine in100 rfl ?_
 intro Q hQ
 simp (disch:=omega) only [cd100,hr.boxG,SS,eq_self,reduceIte,reduceCtorEq,Nat.reduceEqDiff,Nat.reduceAdd]
 generalize hA:H ++ [AObj.cells [.int .i64 n,v] 26 false]=A
 have pA:H<+:A:=by rw [<- hA];exact List.prefix_append _ _
 have cA:A[H.length]?=some (.cells [.int .i64 n,v] 26 false):=by rw [<- hA];exact at_new ..
 have rA:=hr.pre pA
 simp (disch:=omega) only [ld_agg ag26 cs26 cA,SS,eq_self,reduceIte,reduceCtorEq,Nat.reduceEqDiff,Nat.reduceAdd]
 refine CallH.by (IsGraph_c n v es A rA hlen) ?_
 rintro _ B ⟨rfl,pB⟩
 have cB:=pre_at pB cA
 have pHB:=pA.trans pB
 by_cases e:Grd n es
 rotate_left
 ·simp (disch:=omega) only [decide_eq_false e,SS,eq_self,reduceIte,reduceCtorEq,Nat.reduceEqDiff,Nat.reduceAdd]
  refine hQ _ _ _ ?_
  simp (disch:=omega) only [SS,eq_self,reduceIte,reduceCtorEq,Nat.reduceEqDiff,Nat.reduceAdd]
  exact ⟨by rw [decide_eq_false (fun h=>e h.1)],pHB⟩
 have hn:=e.1
 have hw:IntKind.i64.wrap (n - 1)=n - 1:=wrap64 (by omega) (by omega)
 simp (disch:=omega) only [decide_eq_true e,cell_of cB,hw,SS,eq_self,reduceIte,reduceCtorEq,Nat.reduceEqDiff,Nat.reduceAdd]
 refine CallH.by (between_c s 0 (n - 1) B) ?_
 rintro _ _ ⟨rfl,rfl⟩
 by_cases e1:0<=s/\s<=n - 1
 rotate_left
 ·simp (disch:=omega) only [decide_eq_false e1,SS,eq_self,reduceIte,reduceCtorEq,Nat.reduceEqDiff,Nat.reduceAdd]
  refine hQ _ _ _ ?_
  simp (disch:=omega) only [SS,eq_self,reduceIte,reduceCtorEq,Nat.reduceEqDiff,Nat.reduceAdd]
  exact ⟨by rw [decide_eq_false (fun h=>e1 ⟨h.2.1.1,by have:=h.2.1.2;omega⟩)],pHB⟩
 simp (disch:=omega) only [decide_eq_true e1,cell_of cB,hw,SS,eq_self,reduceIte,reduceCtorEq,Nat.reduceEqDiff,Nat.reduceAdd]
 refine CallH.by (between_c t 0 (n - 1) B) ?_
 rintro _ _ ⟨rfl,rfl⟩
 simp (disch:=omega) only [SS,eq_self,reduceIte,reduceCtorEq,Nat.reduceEqDiff,Nat.reduceAdd]
 refine hQ _ _ _ ?_
 simp (disch:=omega) only [SS,eq_self,reduceIte,reduceCtorEq,Nat.reduceEqDiff,Nat.reduceAdd]
 refine ⟨?_,pHB⟩
 rw [Value.bool.injEq,decide_eq_decide]
 exact ⟨fun h=>⟨e,by omega,by omega⟩,fun h=>by have:=h.2.2;omega⟩
theorem ShortestWays_c (n:Int)(v:Value)(es:List (Int × Int))(s t:Int)(H:AH)(hr:RowP 115 H v es)(hlen:es.length<=1099511627776) :
  ACalls Tryz.prog 36 [.agg (List.toArray [.int .i64 n,v]),.int .i64 s,.int .i64 t] H fun r H'=>(∃ g,r=.tuple (List.toArray [g,.bool (decide (0<(wsL n es s t).length))])/\InL H.length H'.length 27 3 H' g (wsL n es s t))/\H<+:H':=by
 refine in36 rfl ?_
 intro Q hQ
 simp (disch:=omega) only [cd36,hr.boxG,SS,eq_self,reduceIte,reduceCtorEq,Nat.reduceEqDiff,Nat.reduceAdd]
 generalize hA:H ++ [AObj.cells [.int .i64 n,v] 26 false]=A
 have pA:H<+:A:=by rw [<- hA];exact List.prefix_append _ _
 have cA:A[H.length]?=some (.cells [.int .i64 n,v] 26 false):=by rw [<- hA];exact at_new ..
 have rA:=hr.pre pA
 simp (disch:=omega) only [ld_agg ag26 cs26 cA,SS,eq_self,reduceIte,reduceCtorEq,Nat.reduceEqDiff,Nat.reduceAdd]
 refine CallH.by (isTwo_c n v es s t A rA hlen) ?_
 rintro _ B ⟨rfl,pB⟩
 have cB:=pre_at pB cA
 have pHB:=pA.trans pB
 by_cases e:WsOk n es s t
 rotate_left
 ·have hw:wsL n es s t=[]:=by unfold wsL;rw [if_neg (fun q=>e q.1)]
  simp (disch:=omega) only [decide_eq_false e,SS,eq_self,reduceIte,reduceCtorEq,Nat.reduceEqDiff,Nat.reduceAdd]
  refine hQ _ _ _ ?_
  simp (disch:=omega) only [SS,eq_self,reduceIte,reduceCtorEq,Nat.reduceEqDiff,Nat.reduceAdd]
  rw [hw]
  exact ⟨⟨_,by simp,.inl ⟨rfl,rfl⟩⟩,pHB⟩
 simp (disch:=omega) only [decide_eq_true e,ld_agg ag26 cs26 cB,SS,eq_self,reduceIte,reduceCtorEq,Nat.reduceEqDiff,Nat.reduceAdd]
 refine CallH.by (ways_c n v es s t B (rA.pre pB) hlen e) ?_
 rintro g C ⟨hL,pC⟩
 have h9:=(wsL_ok (n:=n) (es:=es) (s:=s) (t:=t)).2.1
 generalize wsL n es s t=ls at *
 obtain ⟨us,r1,r2,r3⟩:=hL.parts
 simp (disch:=omega) only [r1.len Tryz.underlying32,SS,eq_self,reduceIte,reduceCtorEq,Nat.reduceEqDiff,Nat.reduceAdd]
 refine CallH.by (between_c _ _ _ C) ?_
 rintro _ _ ⟨rfl,rfl⟩
 by_cases e2:0<ls.length
 ·have e3:(1:Int)<=(us.length:Int)/\(us.length:Int)<=300:=by omega
  simp (disch:=omega) only [decide_eq_true e3,SS,eq_self,reduceIte,reduceCtorEq,Nat.reduceEqDiff,Nat.reduceAdd]
  refine hQ _ _ _ ?_
  simp (disch:=omega) only [r1.tup,SS,eq_self,reduceIte,reduceCtorEq,Nat.reduceEqDiff,Nat.reduceAdd]
  rw [decide_eq_true e2]
  exact ⟨⟨g,rfl,hL.wide pHB.length_le (Nat.le_refl _)⟩,pHB.trans pC⟩
 ·have e3:¬ ((1:Int)<=(us.length:Int)/\(us.length:Int)<=300):=by omega
  have hnil:ls=[]:=List.length_eq_zero_iff.1 (by omega)
  simp (disch:=omega) only [decide_eq_false e3,SS,eq_self,reduceIte,reduceCtorEq,Nat.reduceEqDiff,Nat.reduceAdd]
  refine hQ _ _ _ ?_
  simp (disch:=omega) only [SS,eq_self,reduceIte,reduceCtorEq,Nat.reduceEqDiff,Nat.reduceAdd]
  rw [decide_eq_false e2,hnil]
  exact ⟨⟨_,rfl,.inl ⟨rfl,rfl⟩⟩,pHB.trans pC⟩
theorem isChange_c (v w:Value)(xs ys:List Int)(H:AH)(hr:Row 3 H v xs)(hs:Row 3 H w ys)(hlen:xs.length<=1048576)(hl:ys.length=xs.length) :
  ACalls Tryz.prog 96 [v,w] H fun r H'=>r=.bool (chB xs ys)/\H<+:H':=by
 refine in96 rfl ?_
 intro Q hQ
 simp (disch:=omega) only [cd96,SS,eq_self,reduceIte,reduceCtorEq,Nat.reduceEqDiff,Nat.reduceAdd]
 refine CallH.by (places_c v w xs ys H hr hs hlen hl) ?_
 rintro d A ⟨hd,pA⟩
 simp (disch:=omega) only [hd.row.len Tryz.underlying27,SS,eq_self,reduceIte,reduceCtorEq,Nat.reduceEqDiff,Nat.reduceAdd]
 refine hQ _ _ _ ?_
 simp (disch:=omega) only [SS,eq_self,reduceIte,reduceCtorEq,Nat.reduceEqDiff,Nat.reduceAdd]
 refine ⟨?_,pA⟩
 unfold chB
 rw [Value.bool.injEq,decide_eq_decide]
 omega
def wsB (n:Int)(es:List (Int × Int))(s t:Int):Bool:=decide (0<(wsL n es s t).length)
def wsP (n:Int)(es:List (Int × Int))(s t:Int):List (Int × Int):=steps chB (wsL n es s t)
theorem WyI_c (s t:Int)(n:Int)(v:Value)(es:List (Int × Int))(H:AH)(hr:RowP 115 H v es)(hlen:es.length<=1099511627776)(hes:∀ y ∈ es,I64 y.1/\I64 y.2)(hn:I64 n) :
  ACalls Tryz.prog 34 [.agg (List.toArray [.int .i64 n,v]),.int .i64 s,.int .i64 t] H fun r H'=>∃ a b,r=.tuple (List.toArray [.agg (List.toArray [a,b]),.bool (wsB n es s t)])/\SpIn H.length H'.length H' a b (wsL n es s t) (wsP n es s t)/\H<+:H':=by
 refine in34 rfl ?_
 intro Q hQ
 simp (disch:=omega) only [cd34,hr.boxG,SS,eq_self,reduceIte,reduceCtorEq,Nat.reduceEqDiff,Nat.reduceAdd]
 generalize hA0:H ++ [AObj.cells [.int .i64 n,v] 26 false]=A0
 have pA0:H<+:A0:=by rw [<- hA0];exact List.prefix_append _ _
 have cA0:A0[H.length]?=some (.cells [.int .i64 n,v] 26 false):=by rw [<- hA0];exact at_new ..
 have rA0:=hr.pre pA0
 simp (disch:=omega) only [alloc_sp,SS,eq_self,reduceIte,reduceCtorEq,Nat.reduceEqDiff,Nat.reduceAdd]
 generalize hA:A0 ++ [AObj.cells [.slice none 0 0,.slice none 0 0] 34 false]=A
 have pA1:A0<+:A:=by rw [<- hA];exact List.prefix_append _ _
 have lA0:A0.length=H.length+1:=by rw [<- hA0];simp
 have cS:A[A0.length]?=some (.cells [.slice none 0 0,.slice none 0 0] 34 false):=by rw [<- hA];exact at_new ..
 have lA:A.length=A0.length+1:=by rw [<- hA];simp
 have pA:=pA0.trans pA1
 have cA:=pre_at pA1 cA0
 have rA:=rA0.pre pA1
 simp (disch:=omega) only [ld_agg ag26 cs26 cA,SS,eq_self,reduceIte,reduceCtorEq,Nat.reduceEqDiff,Nat.reduceAdd]
 refine CallH.by (ShortestWays_c n v es s t A rA hlen) ?_
 rintro _ C ⟨⟨a,rfl,hL⟩,pC⟩
 have cSC:=pre_at pC cS
 have pHC:=pA.trans pC
 have lC:=pC.length_le
 obtain ⟨hsrt,h9,⟨k,k8,hk⟩,_⟩:=wsL_ok (n:=n) (es:=es) (s:=s) (t:=t)
 have hB:wsB n es s t=decide (0<(wsL n es s t).length):=rfl
 have hP:wsP n es s t=steps chB (wsL n es s t):=rfl
 rw [hB,hP] at hQ
 generalize wsL n es s t=ls at *
 simp (disch:=omega) only [SS,eq_self,reduceIte,reduceCtorEq,Nat.reduceEqDiff,Nat.reduceAdd]
 by_cases e:0<ls.length
 rotate_left
 ·have hnil:ls=[]:=List.length_eq_zero_iff.1 (by omega)
  have hstore0:=st_ss cSC rfl none none 0 0 0 0
  simp (disch:=omega) only [decide_eq_false e,bld_sp0,hstore0,SS,eq_self,reduceIte,reduceCtorEq,Nat.reduceEqDiff,Nat.reduceAdd]
  have d4:=at_set (d:=.cells [.slice none 0 0,.slice none 0 0] 34 false) cSC
  refine hQ _ _ _ (end_cell2 _ _ _ _ _ _ _ (.agg (List.toArray [.slice none 0 0,.slice none 0 0])) (.bool false) ?_ rfl ?_ rfl ⟨_,_,by rw [decide_eq_false e],⟨H.length,Nat.le_refl _,by simp;omega,?_,?_⟩,?_⟩)
  ·simp (disch:=omega) only [ld_agg ag34 cs34 d4,SS,eq_self,reduceIte,reduceCtorEq,Nat.reduceEqDiff,Nat.reduceAdd]
  ·simp (disch:=omega) only [SS,eq_self,reduceIte,reduceCtorEq,Nat.reduceEqDiff,Nat.reduceAdd]
  ·rw [hnil];exact .inl ⟨rfl,rfl⟩
  ·rw [hnil];exact .inl ⟨rfl,rfl⟩
  ·exact pre_set pHC (by omega) _
 obtain ⟨us,r1,r2,r3⟩:=hL.parts
 have hsts:Sts C a us ls:=⟨r1,r2,fun i hi=>(r3 i hi).row.1,fun i hi=>by
  have:ls.getD i [] ∈ ls:=by simp [hi]
  have:=hk _ this;omega,by omega,hsrt⟩
 have hS:StepFn C 96 [] ls chB:=fun va vb x y H2 hp2 hv hw hx hy=>(isChange_c va vb x y H2 hv hw (by have:=hk _ hx;omega) (by rw [hk _ hx,hk _ hy])).mono fun r H' hh=>hh
 have hstp:=stpO_le_sq chB ls h9
 simp (disch:=omega) only [decide_eq_true e,SS,eq_self,reduceIte,reduceCtorEq,Nat.reduceEqDiff,Nat.reduceAdd]
 refine CallH.by (spaceOf_c hsts (by omega) 96 [] chB hS (List.prefix_refl _)) ?_
 rintro _ D ⟨st,rfl,hst,pD⟩
 have hrowD:SpRow D a st ls (steps chB ls):=⟨⟨_,(hL.row).pre pD⟩,hst.row⟩
 simp (disch:=omega) only [SS,eq_self,reduceIte,reduceCtorEq,Nat.reduceEqDiff,Nat.reduceAdd]
 refine CallH.by (orNone_c a st _ _ D hrowD (by omega) (by omega)) ?_
 rintro _ E ⟨rfl,pE⟩
 have hrowE:=hrowD.pre pE
 have cSE:=pre_at (pD.trans pE) cSC
 have hstore:=hrowE.store cSE rfl
 simp (disch:=omega) only [hstore,SS,eq_self,reduceIte,reduceCtorEq,Nat.reduceEqDiff,Nat.reduceAdd]
 have d4:=at_set (d:=.cells [a,st] 34 false) cSE
 have lD:=pD.length_le
 have lE:=pE.length_le
 refine hQ _ _ _ (end_cell2 _ _ _ _ _ _ _ (.agg (List.toArray [a,st])) (.bool true) ?_ rfl ?_ rfl ⟨a,st,by rw [decide_eq_true e],⟨C.length,by omega,by simp;omega,?_,?_⟩,?_⟩)
 ·simp (disch:=omega) only [ld_agg ag34 cs34 d4,SS,eq_self,reduceIte,reduceCtorEq,Nat.reduceEqDiff,Nat.reduceAdd]
 ·simp (disch:=omega) only [SS,eq_self,reduceIte,reduceCtorEq,Nat.reduceEqDiff,Nat.reduceAdd]
 ·rcases hL.pre (pD.trans pE) with q | ⟨o,us',q1,q2⟩
  ·exact .inl q
  ·refine .inr ⟨o,us',q1,(q2.move fun j y hj1 hj2 hy=>?_).wide (by omega) (Nat.le_refl _)⟩
   rw [List.getElem?_set_ne (by omega)];exact hy
 ·have hI:=InP.of (hst.pre pE)
  rcases hI with q | ⟨o,zs,q1,q2,q3,q4,q5⟩
  ·exact .inl q
  ·exact .inr ⟨o,zs,q1,q2,by simpa using q3,by rw [List.getElem?_set_ne (by omega)];exact q4,q5⟩
 ·exact pre_set (pHC.trans (pD.trans pE)) (by omega) _
theorem bsRowS {H0:AH}{v:Value}{xs:List Int}(h:Row 3 H0 v xs)(K:AH):buildSliceA Tryz.prog 32 1 [(0,v)] K=some (.slice (some ⟨K.length,0,none⟩) 1 1,K ++ [.cells [v] 27 false]):=by
 obtain ⟨q,eq⟩:=h.shape
 rw [eq]
 exact bs1 Tryz.underlying32 cs27 ze27 ⟨by kernel_rfl,by kernel_rfl⟩ K rfl
theorem InU.app1w {P:Program}{t2 e2 e:TypeId}(hu:P.underlying t2=some (.slice e2))(hc:P.cellsOf e2=1)(hby:P.bytesOf e2<=64)(hz:zeroOk P e2=true){lo hi hi2:Nat}{H:AH}{o:Nat}{us:List Value}{w:Value}{ls:List (List Int)}{l:List Int}
  (h:InU lo hi e2 e H o us ls)(hw:InI lo hi2 e H w l)(hwo:w=.slice none 0 0∨rowO w ≠ o)(aw:∀ i,i<ls.length->Apart (us.getD i undef) w)(hl2:hi<=H.length)(hl3:hi2<=H.length)(hb:ls.length<=1099511627775) :
  ∃ H',appendA P t2 t2 (.slice (some ⟨o,0,none⟩) ls.length ls.length) (.slice (some ⟨H.length,0,none⟩) 1 1) (H ++ [.cells [w] e2 false])=some (.slice (some ⟨H.length+1,0,none⟩) (ls.length+1) (ls.length+1),H') /\
   InU lo (H.length+2) e2 e H' (H.length+1) (us.take ls.length ++ [w]) (ls ++ [l])/\H'.length=H.length+2/\(∀ (j:Nat) (y:AObj),j ≠ o->H[j]?=some y->H'[j]?=some y):=by
 have bb:∀ n:Nat,n<=1099511627776->n * P.bytesOf e2<=140737488355328:=fun n hn=>by
  refine Nat.le_trans (Nat.mul_le_mul_left _ hby) ?_
  omega
 have hsc:sliceCells P e2 (.slice (some ⟨H.length,0,none⟩) 1 1) (H ++ [.cells [w] e2 false])=some (1,[w]):=by
  simp only [sliceCells,at_new,hc];simp
 obtain ⟨h2,h3,h4,h5,h6,h7⟩:=h
 have ho:=at_lt h4
 have hlt:o<(H ++ [AObj.cells [w] e2 false]).length:=by simp;omega
 have keep:∀ (j:Nat) (y:AObj),j ≠ o->H[j]?=some y->((H ++ [AObj.cells [w] e2 false]).set o AObj.dead ++ [AObj.cells (us.take ls.length ++ [w]) e2 false])[j]?=some y:=by
  intro j y hj hy
  exact at_old (at_app hy _) (fun e=>hj e.symm) _
 refine ⟨(H ++ [AObj.cells [w] e2 false]).set o AObj.dead ++ [AObj.cells (us.take ls.length ++ [w]) e2 false],?_,?_,by simp,keep⟩
 ·have ho2:(H ++ [AObj.cells [w] e2 false])[o]?=some (.cells us e2 false):=at_app h4 _
  simp only [appendA,hu,hc,hsc,hz,ho2]
  rw [if_pos (by simp),if_neg (by simp),if_pos ⟨trivial,by omega,bb _ (by omega),by omega,trivial⟩]
  simp
 ·have hul:(us.take ls.length).length=ls.length:=by simp;omega
  have uat:∀ i,i<ls.length->(us.take ls.length ++ [w]).getD i undef=us.getD i undef:=by
   intro i hi'
   rw [List.getD_eq_getElem?_getD,List.getD_eq_getElem?_getD,List.getElem?_append_left (by omega),List.getElem?_take,if_pos hi']
  have ulast:(us.take ls.length ++ [w]).getD ls.length undef=w:=by
   rw [List.getD_eq_getElem?_getD,List.getElem?_append_right (by omega),hul];simp
  have lat:∀ i,i<ls.length->(ls ++ [l]).getD i []=ls.getD i []:=by
   intro i hi'
   rw [List.getD_eq_getElem?_getD,List.getD_eq_getElem?_getD,List.getElem?_append_left hi']
  have llast:(ls ++ [l]).getD ls.length []=l:=by
   rw [List.getD_eq_getElem?_getD,List.getElem?_append_right (by omega)];simp
  refine ⟨by omega,by omega,?_,by simp;omega,?_,?_⟩
  ·rw [List.getElem?_append_right (by simp)];simp
  ·intro i hi'
   simp only [List.length_append,List.length_cons,List.length_nil] at hi'
   by_cases hc':i<ls.length
   ·rw [uat i hc',lat i hc']
    obtain ⟨k1,k2⟩:=h6 i hc'
    refine ⟨(k1.move fun y hn hy=>?_).wide (Nat.le_refl _) (by omega),?_⟩
    ·rcases k2 with g | g
     ·exact absurd g hn
     ·exact keep _ _ g hy
    ·rcases k1.at_ with g | g
     ·exact .inl g
     ·exact .inr (by omega)
   ·obtain rfl:i=ls.length:=by omega
    rw [ulast,llast]
    refine ⟨(hw.move fun y hn hy=>?_).wide (Nat.le_refl _) (by omega),?_⟩
    ·rcases hwo with g | g
     ·exact absurd g hn
     ·exact keep _ _ g hy
    ·rcases hw.at_ with g | g
     ·exact .inl g
     ·exact .inr (by omega)
  ·intro i j hij hi' hj'
   simp only [List.length_append,List.length_cons,List.length_nil] at hi' hj'
   by_cases ci:i<ls.length <;> by_cases cj:j<ls.length
   ·rw [uat i ci,uat j cj];exact h7 i j hij ci cj
   ·obtain rfl:j=ls.length:=by omega
    rw [uat i ci,ulast];exact aw i ci
   ·obtain rfl:i=ls.length:=by omega
    rw [uat j cj,ulast]
    rcases aw j cj with g | g | g
    ·exact .inr (.inl g)
    ·exact .inl g
    ·exact .inr (.inr fun e=>g e.symm)
   ·omega
def cd97:Cd:=(.seq (.reg [⟨⟨some 3,.box 26 (.tmp 0),none⟩,[]⟩,⟨⟨some 6,.assign (.const (.bool false)),none⟩,[]⟩]) (.seq (.reg [⟨⟨some 7,.load 26 (.tmp 3),none⟩,[]⟩,⟨⟨some 8,.call ⟨(.value (.func 136)),#[.tmp 7],#[26]⟩,none⟩,[]⟩,⟨⟨some 9,.move (.tmp 8),none⟩,[]⟩,⟨⟨some 10,.move (.tmp 1),some (9,true)⟩,[]⟩,⟨⟨some 11,.fieldAddr 26 (.tmp 3) 0,some (9,true)⟩,[]⟩,⟨⟨some 12,.load 3 (.tmp 11),some (9,true)⟩,[]⟩,⟨⟨some 13,.binOp .sub 3 (.tmp 12) (.const (.int .i64 1)) 3,some (9,true)⟩,[]⟩,⟨⟨some 14,.call ⟨(.value (.func 114)),#[.tmp 10,(.const (.int .i64 0)),.tmp 13],#[3,3,3]⟩,some (9,true)⟩,[]⟩,⟨⟨some 15,.pick (.tmp 9) (.tmp 14) (.const (.bool false)),none⟩,[]⟩,⟨⟨some 16,.move (.tmp 15),none⟩,[]⟩,⟨⟨some 17,.move (.tmp 2),some (16,true)⟩,[]⟩,
 ⟨⟨some 18,.fieldAddr 26 (.tmp 3) 0,some (16,true)⟩,[]⟩,
  ⟨⟨some 19,.load 3 (.tmp 18),some (16,true)⟩,[]⟩,
  ⟨⟨some 20,.binOp .sub 3 (.tmp 19) (.const (.int .i64 1)) 3,some (16,true)⟩,[]⟩,
  ⟨⟨some 21,.call ⟨(.value (.func 114)),#[.tmp 17,(.const (.int .i64 0)),.tmp 20],#[3,3,3]⟩,some (16,true)⟩,[]⟩,
  ⟨⟨some 22,.pick (.tmp 16) (.tmp 21) (.const (.bool false)),none⟩,[]⟩,
  ⟨⟨some 6,.assign (.tmp 22),none⟩,[]⟩]) .ret))
theorem in97:InT Tryz.prog 97 3 [.tmp 6] cd97:=InT.mk (by kernel_rfl) [] Tryz.func97 rfl (by kernel_rfl) (by kernel_rfl) (of_decide_eq_true (by kernel_rfl)) (by kernel_rfl)
def cd103:Cd:=(.seq (.reg [⟨⟨some 3,.box 26 (.tmp 0),none⟩,[]⟩,⟨⟨some 6,.assign (.const (.int .i64 0)),none⟩,[]⟩]) (.seq (.seq (.reg [⟨⟨some 10,.move (.tmp 1),none⟩,[]⟩,⟨⟨some 11,.move (.tmp 2),none⟩,[]⟩,⟨⟨some 12,.indexAddr 27 (.tmp 10) (.tmp 11),none⟩,[]⟩,⟨⟨some 13,.load 3 (.tmp 12),none⟩,[]⟩,⟨⟨some 14,.binOp .eql 3 (.tmp 13) (.const (.int .i64 0)) 3,none⟩,[]⟩]) (.cond (.tmp 14) (.seq (.reg [⟨⟨some 6,.assign (.const (.int .i64 1)),none⟩,[]⟩]) .ret) .skip)) (.seq (.reg [⟨⟨some 7,.assign (.const (.int .i64 0)),none⟩,[]⟩]) (.seq (.reg [⟨⟨some 15,.load 26 (.tmp 3),none⟩,[]⟩,⟨⟨some 16,.move (.tmp 2),none⟩,[]⟩,⟨⟨some 17,.call ⟨(.value (.func 147)),#[.tmp 15,.tmp 16],#[26,3]⟩,none⟩,[]⟩,⟨⟨some 8,.assign (.tmp 17),none⟩,[]⟩]) (.seq (.seq (.reg [⟨⟨some 9,.assign (.const (.int .i64 0)),none⟩,[]⟩]) (.block 0 (.loop (.seq (.seq (.reg [⟨⟨some 18,.move (.tmp 9),none⟩,[]⟩,⟨⟨some 19,.move (.tmp 8),none⟩,[]⟩,⟨⟨some 20,.call ⟨(.builtin .len),#[.tmp 19],#[27]⟩,none⟩,[]⟩,⟨⟨some 21,.binOp .lss 3 (.tmp 18) (.tmp 20) 3,none⟩,[]⟩]) (.cond (.tmp 21) .skip (.exit 0))) (.seq (.block 1 (.seq (.reg [⟨⟨some 24,.move (.tmp 1),none⟩,[]⟩,
 ⟨⟨some 25,.move (.tmp 2),none⟩,[]⟩,⟨⟨some 26,.indexAddr 27 (.tmp 24) (.tmp 25),none⟩,[]⟩,⟨⟨some 27,.load 3 (.tmp 26),none⟩,[]⟩,⟨⟨some 28,.binOp .gtr 3 (.tmp 27) (.const (.int .i64 0)) 3,none⟩,[]⟩,⟨⟨some 29,.move (.tmp 28),none⟩,[]⟩,⟨⟨some 30,.move (.tmp 1),some (29,true)⟩,[]⟩,⟨⟨some 31,.move (.tmp 8),some (29,true)⟩,[]⟩,⟨⟨some 32,.move (.tmp 9),some (29,true)⟩,[]⟩,⟨⟨some 33,.indexAddr 27 (.tmp 31) (.tmp 32),some (29,true)⟩,[]⟩,⟨⟨some 34,.load 3 (.tmp 33),some (29,true)⟩,[]⟩,⟨⟨some 35,.indexAddr 27 (.tmp 30) (.tmp 34),some (29,true)⟩,[]⟩,⟨⟨some 36,.load 3 (.tmp 35),some (29,true)⟩,[]⟩,
 ⟨⟨some 37,.move (.tmp 1),some (29,true)⟩,[]⟩,⟨⟨some 38,.move (.tmp 2),some (29,true)⟩,[]⟩,⟨⟨some 39,.indexAddr 27 (.tmp 37) (.tmp 38),some (29,true)⟩,[]⟩,⟨⟨some 40,.load 3 (.tmp 39),some (29,true)⟩,[]⟩,⟨⟨some 41,.binOp .sub 3 (.tmp 40) (.const (.int .i64 1)) 3,some (29,true)⟩,[]⟩,⟨⟨some 42,.binOp .eql 3 (.tmp 36) (.tmp 41) 3,some (29,true)⟩,[]⟩,⟨⟨some 43,.pick (.tmp 29) (.tmp 42) (.const (.bool false)),none⟩,[]⟩]) (.cond (.tmp 43) (.reg [⟨⟨some 44,.move (.tmp 7),none⟩,[]⟩,⟨⟨some 45,.load 26 (.tmp 3),none⟩,[]⟩,⟨⟨some 46,.move (.tmp 1),none⟩,[]⟩,⟨⟨some 47,.move (.tmp 8),none⟩,[]⟩,⟨⟨some 48,.move (.tmp 9),none⟩,[]⟩,⟨⟨some 49,.indexAddr 27 (.tmp 47) (.tmp 48),none⟩,[]⟩,
 ⟨⟨some 50,.load 3 (.tmp 49),none⟩,[]⟩,
  ⟨⟨some 51,.call ⟨(.value (.func 103)),#[.tmp 45,.tmp 46,.tmp 50],#[26,27,3]⟩,none⟩,[]⟩,
  ⟨⟨some 52,.binOp .add 3 (.tmp 44) (.tmp 51) 3,none⟩,[]⟩,
  ⟨⟨some 7,.assign (.tmp 52),none⟩,[]⟩]) .skip))) (.reg [⟨⟨some 22,.move (.tmp 9),none⟩,[]⟩,
  ⟨⟨some 23,.binOp .add 3 (.tmp 22) (.const (.int .i64 1)) 3,none⟩,[]⟩,
  ⟨⟨some 9,.assign (.tmp 23),none⟩,[]⟩])))))) (.seq (.reg [⟨⟨some 53,.move (.tmp 7),none⟩,[]⟩,
  ⟨⟨some 6,.assign (.tmp 53),none⟩,[]⟩]) .ret))))))
theorem in103:InT Tryz.prog 103 3 [.tmp 6] cd103:=InT.mk (by kernel_rfl) [(8,[(0,false),(1,false),(2,false),(3,false),(4,false),(5,false),(6,false),(7,false),(8,false),(9,false),(10,false),(11,false),(12,false),(13,false),(14,false),(15,false),(16,false),(17,false),(18,false),(19,false)]),(9,[(0,false),(1,false),(2,false),(3,false),(4,false),(5,false),(6,false),(7,true),(8,false),(9,true)])] Tryz.func103 rfl (by kernel_rfl) (by kernel_rfl) (of_decide_eq_true (by kernel_rfl)) (by kernel_rfl)
def cd155:Cd:=(.seq (.reg [⟨⟨some 4,.box 26 (.tmp 0),none⟩,[]⟩,⟨⟨some 8,.assign (.const (.slice none 0 0)),none⟩,[]⟩]) (.seq (.reg [⟨⟨some 12,.move (.tmp 2),none⟩,[]⟩,⟨⟨some 13,.move (.tmp 2),none⟩,[]⟩,⟨⟨some 14,.call ⟨(.builtin .len),#[.tmp 13],#[27]⟩,none⟩,[]⟩,⟨⟨some 15,.binOp .sub 3 (.tmp 14) (.const (.int .i64 1)) 3,none⟩,[]⟩,⟨⟨some 16,.indexAddr 27 (.tmp 12) (.tmp 15),none⟩,[]⟩,⟨⟨some 17,.load 3 (.tmp 16),none⟩,[]⟩,⟨⟨some 9,.assign (.tmp 17),none⟩,[]⟩]) (.seq (.seq (.reg [⟨⟨some 18,.move (.tmp 1),none⟩,[]⟩,⟨⟨some 19,.move (.tmp 9),none⟩,[]⟩,⟨⟨some 20,.indexAddr 27 (.tmp 18) (.tmp 19),none⟩,[]⟩,⟨⟨some 21,.load 3 (.tmp 20),none⟩,[]⟩,⟨⟨some 22,.binOp .eql 3 (.tmp 21) (.const (.int .i64 0)) 3,none⟩,[]⟩]) (.cond (.tmp 22) (.seq (.reg [⟨⟨some 23,.move (.tmp 3),none⟩,[]⟩,
 ⟨⟨some 24,.move (.tmp 2),none⟩,[]⟩,⟨⟨some 25,.buildSlice 32 1 #[(0,.tmp 24)],none⟩,[]⟩,⟨⟨some 26,.call ⟨(.builtin .append),#[.tmp 23,.tmp 25],#[32,32]⟩,none⟩,[]⟩,⟨⟨some 8,.assign (.tmp 26),none⟩,[]⟩]) .ret) .skip)) (.seq (.reg [⟨⟨some 27,.load 26 (.tmp 4),none⟩,[]⟩,⟨⟨some 28,.move (.tmp 9),none⟩,[]⟩,⟨⟨some 29,.call ⟨(.value (.func 147)),#[.tmp 27,.tmp 28],#[26,3]⟩,none⟩,[]⟩,⟨⟨some 10,.assign (.tmp 29),none⟩,[]⟩]) (.seq (.seq (.reg [⟨⟨some 11,.assign (.const (.int .i64 0)),none⟩,[]⟩]) (.block 0 (.loop (.seq (.seq (.reg [⟨⟨some 30,.move (.tmp 11),none⟩,[]⟩,⟨⟨some 31,.move (.tmp 10),none⟩,[]⟩,⟨⟨some 32,.call ⟨(.builtin .len),#[.tmp 31],#[27]⟩,none⟩,[]⟩,⟨⟨some 33,.binOp .lss 3 (.tmp 30) (.tmp 32) 3,none⟩,[]⟩]) (.cond (.tmp 33) .skip (.exit 0))) (.seq (.block 1 (.seq (.reg [⟨⟨some 36,.move (.tmp 1),none⟩,[]⟩,⟨⟨some 37,.move (.tmp 10),none⟩,[]⟩,⟨⟨some 38,.move (.tmp 11),none⟩,[]⟩,
 ⟨⟨some 39,.indexAddr 27 (.tmp 37) (.tmp 38),none⟩,[]⟩,⟨⟨some 40,.load 3 (.tmp 39),none⟩,[]⟩,⟨⟨some 41,.indexAddr 27 (.tmp 36) (.tmp 40),none⟩,[]⟩,⟨⟨some 42,.load 3 (.tmp 41),none⟩,[]⟩,⟨⟨some 43,.move (.tmp 1),none⟩,[]⟩,⟨⟨some 44,.move (.tmp 9),none⟩,[]⟩,⟨⟨some 45,.indexAddr 27 (.tmp 43) (.tmp 44),none⟩,[]⟩,⟨⟨some 46,.load 3 (.tmp 45),none⟩,[]⟩,⟨⟨some 47,.binOp .sub 3 (.tmp 46) (.const (.int .i64 1)) 3,none⟩,[]⟩,⟨⟨some 48,.binOp .eql 3 (.tmp 42) (.tmp 47) 3,none⟩,[]⟩]) (.cond (.tmp 48) (.reg [⟨⟨some 49,.load 26 (.tmp 4),none⟩,[]⟩,⟨⟨some 50,.move (.tmp 1),none⟩,[]⟩,⟨⟨some 51,.move (.tmp 2),none⟩,[]⟩,
 ⟨⟨some 53,.move (.tmp 10),none⟩,[]⟩,⟨⟨some 54,.move (.tmp 11),none⟩,[]⟩,⟨⟨some 55,.indexAddr 27 (.tmp 53) (.tmp 54),none⟩,[]⟩,⟨⟨some 56,.load 3 (.tmp 55),none⟩,[]⟩,⟨⟨some 57,.buildSlice 27 1 #[(0,.tmp 56)],none⟩,[]⟩,⟨⟨some 59,.move (.tmp 3),none⟩,[]⟩,⟨⟨some 52,.call ⟨(.value (.func 117)),#[.tmp 51],#[27]⟩,none⟩,[⟨some 57,.buildSlice 27 1 #[(0,.tmp 56)],none⟩,⟨some 56,.load 3 (.tmp 55),none⟩,⟨some 49,.load 26 (.tmp 4),none⟩]⟩,⟨⟨some 58,.call ⟨(.builtin .append),#[.tmp 52,.tmp 57],#[27,27]⟩,none⟩,[⟨some 49,.load 26 (.tmp 4),none⟩]⟩,⟨⟨some 60,.call ⟨(.value (.func 155)),#[.tmp 49,.tmp 50,.tmp 58,.tmp 59],#[26,27,27,32]⟩,none⟩,[]⟩,⟨⟨some 3,.assign (.tmp 60),none⟩,[]⟩]) .skip))) (.reg [⟨⟨some 34,.move (.tmp 11),none⟩,[]⟩,⟨⟨some 35,.binOp .add 3 (.tmp 34) (.const (.int .i64 1)) 3,none⟩,[]⟩,⟨⟨some 11,.assign (.tmp 35),none⟩,[]⟩])))))) (.seq (.reg [⟨⟨some 61,.move (.tmp 3),none⟩,[]⟩,
 ⟨⟨some 8,.assign (.tmp 61),none⟩,[]⟩]) .ret))))))
theorem in155:InT Tryz.prog 155 4 [.tmp 8] cd155:=InT.mk (by kernel_rfl) [(8,[(0,false),(1,false),(2,false),(3,false),(4,false),(5,false),(6,false),(7,false),(8,false),(9,false),(10,false),(11,false),(12,false)]),(9,[(0,false),(1,false),(2,false),(4,false),(5,false),(6,false),(7,false),(8,false),(10,false),(3,true),(9,true),(11,true),(12,true)])] Tryz.func155 rfl (by kernel_rfl) (by kernel_rfl) (of_decide_eq_true (by kernel_rfl)) (by kernel_rfl)
def cd98:Cd:=(.seq (.reg [⟨⟨some 3,.box 26 (.tmp 0),none⟩,[]⟩,⟨⟨some 6,.assign (.const (.slice none 0 0)),none⟩,[]⟩]) (.seq (.reg [⟨⟨some 8,.load 26 (.tmp 3),none⟩,[]⟩,⟨⟨some 9,.move (.tmp 2),none⟩,[]⟩,⟨⟨some 10,.call ⟨(.value (.func 84)),#[.tmp 8,.tmp 9],#[26,3]⟩,none⟩,[]⟩,⟨⟨some 7,.assign (.tmp 10),none⟩,[]⟩]) (.seq (.seq (.reg [⟨⟨some 11,.move (.tmp 7),none⟩,[]⟩,⟨⟨some 12,.move (.tmp 1),none⟩,[]⟩,⟨⟨some 13,.indexAddr 27 (.tmp 11) (.tmp 12),none⟩,[]⟩,⟨⟨some 14,.load 3 (.tmp 13),none⟩,[]⟩,⟨⟨some 15,.binOp .lss 3 (.tmp 14) (.const (.int .i64 0)) 3,none⟩,[]⟩,⟨⟨some 16,.move (.tmp 15),none⟩,[]⟩,⟨⟨some 17,.load 26 (.tmp 3),some (16,false)⟩,[]⟩,⟨⟨some 18,.move (.tmp 7),some (16,false)⟩,[]⟩,
 ⟨⟨some 19,.move (.tmp 1),some (16,false)⟩,[]⟩,
  ⟨⟨some 20,.call ⟨(.value (.func 103)),#[.tmp 17,.tmp 18,.tmp 19],#[26,27,3]⟩,some (16,false)⟩,[]⟩,
  ⟨⟨some 21,.binOp .gtr 3 (.tmp 20) (.const (.int .i64 300)) 3,some (16,false)⟩,[]⟩,
  ⟨⟨some 22,.pick (.tmp 16) (.const (.bool true)) (.tmp 21),none⟩,[]⟩]) (.cond (.tmp 22) (.seq (.reg [⟨⟨some 23,.buildSlice 32 0 #[],none⟩,[]⟩,
  ⟨⟨some 6,.assign (.tmp 23),none⟩,[]⟩]) .ret) .skip)) (.seq (.reg [⟨⟨some 24,.load 26 (.tmp 3),none⟩,[]⟩,
  ⟨⟨some 25,.move (.tmp 7),none⟩,[]⟩,
  ⟨⟨some 26,.move (.tmp 1),none⟩,[]⟩,
  ⟨⟨some 27,.buildSlice 27 1 #[(0,.tmp 26)],none⟩,[]⟩,
  ⟨⟨some 28,.buildSlice 32 0 #[],none⟩,[]⟩,
  ⟨⟨some 29,.call ⟨(.value (.func 155)),#[.tmp 24,.tmp 25,.tmp 27,.tmp 28],#[26,27,27,32]⟩,none⟩,[]⟩,
  ⟨⟨some 6,.assign (.tmp 29),none⟩,[]⟩]) .ret))))
theorem in98:InT Tryz.prog 98 3 [.tmp 6] cd98:=InT.mk (by kernel_rfl) [] Tryz.func98 rfl (by kernel_rfl) (by kernel_rfl) (of_decide_eq_true (by kernel_rfl)) (by kernel_rfl)
def cd99:Cd:=(.seq (.reg [⟨⟨some 2,.alloc 34,none⟩,[]⟩]) (.seq (.reg [⟨⟨some 6,.move (.tmp 0),none⟩,[]⟩,⟨⟨some 7,.buildSlice 24 0 #[],none⟩,[]⟩,⟨⟨some 8,.build 34 #[(0,.tmp 6),(1,.tmp 7)],none⟩,[]⟩,⟨⟨some 3,.alloc 34,none⟩,[]⟩,⟨⟨none,.store 34 (.tmp 3) (.tmp 8),none⟩,[]⟩]) (.seq (.seq (.reg [⟨⟨some 4,.assign (.const (.int .i64 0)),none⟩,[]⟩]) (.block 0 (.loop (.seq (.seq (.reg [⟨⟨some 9,.move (.tmp 4),none⟩,[]⟩,⟨⟨some 10,.move (.tmp 0),none⟩,[]⟩,⟨⟨some 11,.call ⟨(.builtin .len),#[.tmp 10],#[32]⟩,none⟩,[]⟩,⟨⟨some 12,.binOp .lss 3 (.tmp 9) (.tmp 11) 3,none⟩,[]⟩]) (.cond (.tmp 12) .skip (.exit 0))) (.seq (.block 1 (.seq (.reg [⟨⟨some 15,.move (.tmp 4),none⟩,[]⟩,⟨⟨some 16,.binOp .add 3 (.tmp 15) (.const (.int .i64 1)) 3,none⟩,[]⟩,⟨⟨some 5,.assign (.tmp 16),none⟩,[]⟩]) (.block 2 (.loop (.seq (.seq (.reg [⟨⟨some 17,.move (.tmp 5),none⟩,[]⟩,⟨⟨some 18,.move (.tmp 0),none⟩,[]⟩,⟨⟨some 19,.call ⟨(.builtin .len),#[.tmp 18],#[32]⟩,none⟩,[]⟩,
 ⟨⟨some 20,.binOp .lss 3 (.tmp 17) (.tmp 19) 3,none⟩,[]⟩]) (.cond (.tmp 20) .skip (.exit 2))) (.seq (.block 3 (.seq (.reg [⟨⟨some 23,.move (.tmp 0),none⟩,[]⟩,⟨⟨some 24,.move (.tmp 4),none⟩,[]⟩,⟨⟨some 25,.indexAddr 32 (.tmp 23) (.tmp 24),none⟩,[]⟩,⟨⟨some 26,.load 27 (.tmp 25),none⟩,[]⟩,⟨⟨some 27,.move (.tmp 0),none⟩,[]⟩,⟨⟨some 28,.move (.tmp 5),none⟩,[]⟩,⟨⟨some 29,.indexAddr 32 (.tmp 27) (.tmp 28),none⟩,[]⟩,⟨⟨some 30,.load 27 (.tmp 29),none⟩,[]⟩,⟨⟨some 31,.call ⟨(.value (.func 156)),#[.tmp 26,.tmp 30],#[27,27]⟩,none⟩,[]⟩,⟨⟨some 32,.call ⟨(.builtin .len),#[.tmp 31],#[27]⟩,none⟩,[]⟩,⟨⟨some 33,.binOp .eql 3 (.tmp 32) (.const (.int .i64 1)) 3,none⟩,[]⟩]) (.cond (.tmp 33) (.reg [⟨⟨some 34,.fieldAddr 34 (.tmp 3) 1,none⟩,[]⟩,⟨⟨some 35,.load 24 (.tmp 34),none⟩,[]⟩,
 ⟨⟨some 36,.move (.tmp 4),none⟩,[]⟩,
  ⟨⟨some 37,.move (.tmp 5),none⟩,[]⟩,
  ⟨⟨some 38,.build 115 #[(0,.tmp 36),(1,.tmp 37)],none⟩,[]⟩,
  ⟨⟨some 39,.buildSlice 24 1 #[(0,.tmp 38)],none⟩,[]⟩,
  ⟨⟨some 40,.call ⟨(.builtin .append),#[.tmp 35,.tmp 39],#[24,24]⟩,none⟩,[]⟩,
  ⟨⟨some 41,.fieldAddr 34 (.tmp 3) 1,none⟩,[]⟩,
  ⟨⟨none,.store 24 (.tmp 41) (.tmp 40),none⟩,[]⟩]) .skip))) (.reg [⟨⟨some 21,.move (.tmp 5),none⟩,[]⟩,
  ⟨⟨some 22,.binOp .add 3 (.tmp 21) (.const (.int .i64 1)) 3,none⟩,[]⟩,
  ⟨⟨some 5,.assign (.tmp 22),none⟩,[]⟩]))))))) (.reg [⟨⟨some 13,.move (.tmp 4),none⟩,[]⟩,
  ⟨⟨some 14,.binOp .add 3 (.tmp 13) (.const (.int .i64 1)) 3,none⟩,[]⟩,
  ⟨⟨some 4,.assign (.tmp 14),none⟩,[]⟩])))))) (.seq (.reg [⟨⟨some 42,.load 34 (.tmp 3),none⟩,[]⟩,
  ⟨⟨none,.store 34 (.tmp 2) (.tmp 42),none⟩,[]⟩]) .ret))))
theorem in99:InT Tryz.prog 99 1 [.cell 2 34] cd99:=InT.mk (by kernel_rfl) [(8,[(0,false),(1,false),(2,false),(3,false),(4,false),(5,false),(6,false),(7,false),(8,true),(9,false),(10,false)])] Tryz.func99 rfl (by kernel_rfl) (by kernel_rfl) (of_decide_eq_true (by kernel_rfl)) (by kernel_rfl)
def cd35:Cd:=(.seq (.reg [⟨⟨some 3,.box 26 (.tmp 0),none⟩,[]⟩,⟨⟨some 6,.alloc 34,none⟩,[]⟩,⟨⟨some 7,.assign (.const (.bool false)),none⟩,[]⟩]) (.seq (.seq (.reg [⟨⟨some 9,.load 26 (.tmp 3),none⟩,[]⟩,⟨⟨some 10,.move (.tmp 1),none⟩,[]⟩,⟨⟨some 11,.move (.tmp 2),none⟩,[]⟩,⟨⟨some 12,.call ⟨(.value (.func 97)),#[.tmp 9,.tmp 10,.tmp 11],#[26,3,3]⟩,none⟩,[]⟩,⟨⟨some 13,.unOp .not 4 (.tmp 12),none⟩,[]⟩]) (.cond (.tmp 13) (.seq (.reg [⟨⟨some 14,.build 34 #[],none⟩,[]⟩,⟨⟨none,.store 34 (.tmp 6) (.tmp 14),none⟩,[]⟩,⟨⟨some 7,.assign (.const (.bool false)),none⟩,[]⟩]) .ret) .skip)) (.seq (.reg [⟨⟨some 15,.load 26 (.tmp 3),none⟩,[]⟩,⟨⟨some 16,.move (.tmp 1),none⟩,[]⟩,⟨⟨some 17,.move (.tmp 2),none⟩,[]⟩,⟨⟨some 18,.call ⟨(.value (.func 98)),#[.tmp 15,.tmp 16,.tmp 17],#[26,3,3]⟩,none⟩,[]⟩,
 ⟨⟨some 8,.assign (.tmp 18),none⟩,[]⟩]) (.seq (.seq (.reg [⟨⟨some 19,.move (.tmp 8),none⟩,[]⟩,
  ⟨⟨some 20,.call ⟨(.builtin .len),#[.tmp 19],#[32]⟩,none⟩,[]⟩,
  ⟨⟨some 21,.binOp .eql 3 (.tmp 20) (.const (.int .i64 0)) 3,none⟩,[]⟩]) (.cond (.tmp 21) (.seq (.reg [⟨⟨some 22,.build 34 #[],none⟩,[]⟩,
  ⟨⟨none,.store 34 (.tmp 6) (.tmp 22),none⟩,[]⟩,
  ⟨⟨some 7,.assign (.const (.bool false)),none⟩,[]⟩]) .ret) .skip)) (.seq (.reg [⟨⟨some 23,.move (.tmp 8),none⟩,[]⟩,
  ⟨⟨some 24,.call ⟨(.value (.func 99)),#[.tmp 23],#[32]⟩,none⟩,[]⟩,
  ⟨⟨none,.store 34 (.tmp 6) (.tmp 24),none⟩,[]⟩,
  ⟨⟨some 7,.assign (.const (.bool true)),none⟩,[]⟩]) .ret)))))
theorem in35:InT Tryz.prog 35 3 [.cell 6 34,.tmp 7] cd35:=InT.mk (by kernel_rfl) [] Tryz.func35 rfl (by kernel_rfl) (by kernel_rfl) (of_decide_eq_true (by kernel_rfl)) (by kernel_rfl)
end Go.Proofs.YtlcipphiflcaiaaGreat.Ai
namespace Go.Proofs.YtlcipphiflcaiaaGreat.Ai
open Go Go.RowKit
theorem l7Ends_c (n:Int)(v:Value)(es:List (Int × Int))(s t:Int)(H:AH)(hr:RowP 115 H v es)(hlen:es.length<=1099511627776) :
  ACalls Tryz.prog 97 [.agg (List.toArray [.int .i64 n,v]),.int .i64 s,.int .i64 t] H fun r H'=>r=.bool (decide (WsOk n es s t))/\H<+:H':=by
 refine in97 rfl ?_
 intro Q hQ
 simp (disch:=omega) only [cd97,hr.boxG,SS,eq_self,reduceIte,reduceCtorEq,Nat.reduceEqDiff,Nat.reduceAdd]
 generalize hA:H ++ [AObj.cells [.int .i64 n,v] 26 false]=A
 have pA:H<+:A:=by rw [<- hA];exact List.prefix_append _ _
 have cA:A[H.length]?=some (.cells [.int .i64 n,v] 26 false):=by rw [<- hA];exact at_new ..
 have rA:=hr.pre pA
 simp (disch:=omega) only [ld_agg ag26 cs26 cA,SS,eq_self,reduceIte,reduceCtorEq,Nat.reduceEqDiff,Nat.reduceAdd]
 refine CallH.by (l2Good_c n v es A rA hlen) ?_
 rintro _ B ⟨rfl,pB⟩
 have cB:=pre_at pB cA
 have pHB:=pA.trans pB
 by_cases e:Grd n es
 rotate_left
 ·simp (disch:=omega) only [decide_eq_false e,SS,eq_self,reduceIte,reduceCtorEq,Nat.reduceEqDiff,Nat.reduceAdd]
  refine hQ _ _ _ ?_
  simp (disch:=omega) only [SS,eq_self,reduceIte,reduceCtorEq,Nat.reduceEqDiff,Nat.reduceAdd]
  exact ⟨by rw [decide_eq_false (fun h=>e h.1)],pHB⟩
 have hn:=e.1
 have hw:IntKind.i64.wrap (n - 1)=n - 1:=wrap64 (by omega) (by omega)
 simp (disch:=omega) only [decide_eq_true e,cell_of cB,hw,SS,eq_self,reduceIte,reduceCtorEq,Nat.reduceEqDiff,Nat.reduceAdd]
 refine CallH.by (l1In_c s 0 (n - 1) B) ?_
 rintro _ _ ⟨rfl,rfl⟩
 by_cases e1:0<=s/\s<=n - 1
 rotate_left
 ·simp (disch:=omega) only [decide_eq_false e1,SS,eq_self,reduceIte,reduceCtorEq,Nat.reduceEqDiff,Nat.reduceAdd]
  refine hQ _ _ _ ?_
  simp (disch:=omega) only [SS,eq_self,reduceIte,reduceCtorEq,Nat.reduceEqDiff,Nat.reduceAdd]
  exact ⟨by rw [decide_eq_false (fun h=>e1 ⟨h.2.1.1,by have:=h.2.1.2;omega⟩)],pHB⟩
 simp (disch:=omega) only [decide_eq_true e1,cell_of cB,hw,SS,eq_self,reduceIte,reduceCtorEq,Nat.reduceEqDiff,Nat.reduceAdd]
 refine CallH.by (l1In_c t 0 (n - 1) B) ?_
 rintro _ _ ⟨rfl,rfl⟩
 simp (disch:=omega) only [SS,eq_self,reduceIte,reduceCtorEq,Nat.reduceEqDiff,Nat.reduceAdd]
 refine hQ _ _ _ ?_
 simp (disch:=omega) only [SS,eq_self,reduceIte,reduceCtorEq,Nat.reduceEqDiff,Nat.reduceAdd]
 refine ⟨?_,pHB⟩
 rw [Value.bool.injEq,decide_eq_decide]
 exact ⟨fun h=>⟨e,by omega,by omega⟩,fun h=>by have:=h.2.2;omega⟩
theorem l7Count_c (n:Int)(v vf:Value)(es:List (Int × Int))(hg:Grd n es)(hlen:es.length<=1099511627776){far:List Int}{t:Nat}(hF:FarOk n.toNat (roadsL n.toNat es) far t):∀ (d x:Nat) (H:AH),x<n.toNat->far.getD x 0=(d:Int)->RowP 115 H v es->Row 3 H vf far ->
  ACalls Tryz.prog 103 [.agg (List.toArray [.int .i64 n,v]),vf,.int .i64 (x:Int)] H fun r H'=>r=.int .i64 ((wN (roadsL n.toNat es) far d (x:Int):Nat):Int)/\H<+:H':=by
 intro d
 have h8:=hg.1
 have hfl:=hF.fl
 induction d with
 | zero =>
  intro x H hx hd hr hf
  refine in103 rfl ?_
  intro Q hQ
  have hc:=hf.cell (show x<far.length by omega)
  rw [hd] at hc
  simp (disch:=omega) only [cd103,hr.boxG,SS,eq_self,reduceIte,reduceCtorEq,Nat.reduceEqDiff,Nat.reduceAdd]
  generalize hA:H ++ [AObj.cells [.int .i64 n,v] 26 false]=A
  have pA:H<+:A:=by rw [<- hA];exact List.prefix_append _ _
  have cA:A[H.length]?=some (.cells [.int .i64 n,v] 26 false):=by rw [<- hA];exact at_new ..
  have rA:=hr.pre pA
  have hcA:=(hf.pre pA).cell (show x<far.length by omega)
  rw [hd] at hcA
  have h00:((0:Nat):Int)=0:=rfl
  simp (disch:=omega) only [hf.ix Tryz.underlying27 cs3,Int.toNat_natCast,hcA,decide_eq_true h00,SS,eq_self,reduceIte,reduceCtorEq,Nat.reduceEqDiff,Nat.reduceAdd]
  refine hQ _ _ _ ?_
  simp (disch:=omega) only [SS,eq_self,reduceIte,reduceCtorEq,Nat.reduceEqDiff,Nat.reduceAdd]
  exact ⟨rfl,pA⟩
 | succ d ih =>
  intro x H hx hd hr hf
  have h9:=hF.nine (by omega) hx hd
  have hdb:=hF.lo x hx
  rw [hd] at hdb
  refine in103 rfl ?_
  intro Q hQ
  simp (disch:=omega) only [cd103,hr.boxG,SS,eq_self,reduceIte,reduceCtorEq,Nat.reduceEqDiff,Nat.reduceAdd]
  generalize hA:H ++ [AObj.cells [.int .i64 n,v] 26 false]=A
  have pA:H<+:A:=by rw [<- hA];exact List.prefix_append _ _
  have cA:A[H.length]?=some (.cells [.int .i64 n,v] 26 false):=by rw [<- hA];exact at_new ..
  have rA:=hr.pre pA
  have hcA:=(hf.pre pA).cell (show x<far.length by omega)
  rw [hd] at hcA
  have hne:¬ (((d+1:Nat):Int)=0):=by omega
  simp (disch:=omega) only [hf.ix Tryz.underlying27 cs3,Int.toNat_natCast,hcA,decide_eq_false hne,ld_agg ag26 cs26 cA,SS,eq_self,reduceIte,reduceCtorEq,Nat.reduceEqDiff,Nat.reduceAdd]
  refine CallH.by (l2Neighbors_c n v es (x:Int) A rA hlen h8) ?_
  rintro w B ⟨hw,pB⟩
  rw [<- roadsL_at n.toNat es x hx] at hw
  have eN:wN (roadsL n.toNat es) far (d+1) (x:Int)=wNT far (wN (roadsL n.toNat es) far d) (d:Int) ((roadsL n.toNat es).getD x []):=by rw [wN,Int.toNat_natCast]
  rw [eN] at hQ h9
  have hlx:=hF.lok x
  have hsm:=roadsL_small n.toNat es (by omega) x
  have hw0:=hw.row
  generalize roadsL n.toNat es=L at *
  generalize hxs:L.getD x []=xs at *
  have pHB:=pA.trans pB
  simp (disch:=omega) only [SS,eq_self,reduceIte,reduceCtorEq,Nat.reduceEqDiff,Nat.reduceAdd]
  refine LoopH.by (fun m s H'=>∃ (k:Nat),m+k=xs.length/\s 1=vf/\s 2=.int .i64 (x:Int)/\s 3=.pointer (some ⟨H.length,0,none⟩)/\s 7=.int .i64 ((wNT far (wN L far d) (d:Int) (xs.take k):Nat):Int)/\s 8=w/\s 9=.int .i64 ((k:Nat):Int)/\B<+:H') xs.length ?_ ?_
  ·exact ⟨0,by simp,rfl,rfl,rfl,rfl,rfl,rfl,List.prefix_refl _⟩
  rintro m s H' ⟨k,hm,h1,h2,h3,h7,h8s,h9s,pp⟩
  have hwH:=hw0.pre pp
  have hfH:=hf.pre (pHB.trans pp)
  have cH:=pre_at (pB.trans pp) cA
  simp (disch:=omega) only [h1,h2,h3,h7,h8s,h9s,hwH.len Tryz.underlying27,SS,eq_self,reduceIte,reduceCtorEq,Nat.reduceEqDiff,Nat.reduceAdd]
  refine brD.intro (fun g=>?_) (fun g=>?_)
  rotate_left
  ·have hk:k=xs.length:=by omega
   subst hk
   simp (disch:=omega) only [h7,SS,eq_self,reduceIte,reduceCtorEq,Nat.reduceEqDiff,Nat.reduceAdd]
   refine hQ _ _ _ ?_
   simp (disch:=omega) only [SS,eq_self,reduceIte,reduceCtorEq,Nat.reduceEqDiff,Nat.reduceAdd]
   rw [List.take_length]
   exact ⟨rfl,pHB.trans pp⟩
  have hk:k<xs.length:=by omega
  have hym:xs.getD k 0 ∈ xs:=by simp [hk]
  have hyr:=hlx _ hym
  have hck:=hwH.cell hk
  have htk:xs.take (k+1)=xs.take k ++ [xs.getD k 0]:=by
   rw [List.take_add_one,List.getElem?_eq_getElem hk]
   simp [hk]
  have htot:wNT far (wN L far d) (d:Int) (xs.take (k+1))<=9:=by
   refine Nat.le_trans ?_ h9
   conv=>rhs;rw [<- List.take_append_drop (k+1) xs]
   rw [wNT_append];omega
  obtain ⟨y,hy⟩:∃ y:Nat,xs.getD k 0=y:=⟨(xs.getD k 0).toNat,by omega⟩
  rw [hy] at hck hyr htk
  have hstep:wNT far (wN L far d) (d:Int) (xs.take (k+1))=wNT far (wN L far d) (d:Int) (xs.take k)+if far.getD y 0=(d:Int) then wN L far d (y:Int) else 0:=by
   rw [htk,wNT_append]
   simp only [wNT,Int.toNat_natCast,Nat.add_zero]
  have hcy:=hfH.cell (show y<far.length by omega)
  have hcx:=hfH.cell (show x<far.length by omega)
  rw [hd] at hcx
  have hw1:IntKind.i64.wrap (((d+1:Nat):Int) - 1)=(d:Int):=by rw [wrap64 (by omega) (by omega)];omega
  have hgt:(0:Int)<((d+1:Nat):Int):=by omega
  simp (disch:=omega) only [h1,h2,h3,h7,h8s,h9s,hwH.ix Tryz.underlying27 cs3,hfH.ix Tryz.underlying27 cs3,Int.toNat_natCast,hck,hcx,hcy,decide_eq_true hgt,hw1,SS,eq_self,reduceIte,reduceCtorEq,Nat.reduceEqDiff,Nat.reduceAdd]
  by_cases e:far.getD y 0=(d:Int)
  ·rw [if_pos e] at hstep
   simp (disch:=omega) only [decide_eq_true e,h1,h2,h3,h7,h8s,h9s,hwH.ix Tryz.underlying27 cs3,Int.toNat_natCast,hck,ld_agg ag26 cs26 cH,SS,eq_self,reduceIte,reduceCtorEq,Nat.reduceEqDiff,Nat.reduceAdd]
   refine CallH.by (ih y H' (by omega) e (hr.pre (pHB.trans pp)) hfH) ?_
   rintro _ K ⟨rfl,pK⟩
   have hwr:IntKind.i64.wrap (((wNT far (wN L far d) (d:Int) (xs.take k):Nat):Int)+((wN L far d (y:Int):Nat):Int))=((wNT far (wN L far d) (d:Int) (xs.take (k+1)):Nat):Int):=by
    rw [wrap64 (by omega) (by omega)];omega
   have pK2:=pp.trans pK
   simp (disch:=omega) only [h1,h2,h3,h7,h8s,h9s,hwr,wrap64,SS,eq_self,reduceIte,reduceCtorEq,Nat.reduceEqDiff,Nat.reduceAdd]
   refine ⟨m - 1,by omega,k+1,?_⟩
   (repeat' first | exact pK2 | apply And.intro) <;> first | (simp only [Value.int.injEq,true_and];omega) | omega | rfl | assumption | (simp;done) | (simp;omega)
  ·rw [if_neg e,Nat.add_zero] at hstep
   simp (disch:=omega) only [decide_eq_false e,h1,h2,h3,h7,h8s,h9s,<- hstep,wrap64,SS,eq_self,reduceIte,reduceCtorEq,Nat.reduceEqDiff,Nat.reduceAdd]
   refine ⟨m - 1,by omega,k+1,?_⟩
   (repeat' first | exact pp | apply And.intro) <;> first | (simp only [Value.int.injEq,true_and];omega) | omega | rfl | assumption | (simp;done) | (simp;omega)
theorem l7More_c (n:Int)(v vf:Value)(es:List (Int × Int))(hg:Grd n es)(hlen:es.length<=1099511627776){far:List Int}{t:Nat}(hF:FarOk n.toNat (roadsL n.toNat es) far t)(B0:AH)(hr:RowP 115 B0 v es)(hf:Row 3 B0 vf far) :
  ∀ (d x:Nat) (w:Value) (b:List Int) (o hi:Nat) (us:List Value) (ls:List (List Int)) (H:AH),x<n.toNat->far.getD x 0=(d:Int)->0<b.length->b.length+d<=100->b.getD (b.length - 1) 0=(x:Int)->InI B0.length H.length 3 H w b->(w=.slice none 0 0∨rowO w ≠ o)->(∀ i,i<ls.length->Apart (us.getD i undef) w)->InU B0.length hi 27 3 H o us ls->hi<=H.length->B0<+:H->ls.length+wN (roadsL n.toNat es) far d (x:Int)<=1000000 ->
  ACalls Tryz.prog 155 [.agg (List.toArray [.int .i64 n,v]),vf,w,.slice (some ⟨o,0,none⟩) ls.length ls.length] H fun r H'=>∃ o' us',r=.slice (some ⟨o',0,none⟩) (ls ++ wA (roadsL n.toNat es) far d (x:Int) b).length (ls ++ wA (roadsL n.toNat es) far d (x:Int) b).length/\InU B0.length H'.length 27 3 H' o' us' (ls ++ wA (roadsL n.toNat es) far d (x:Int) b) /\
   (∀ (j:Nat) (y:AObj),j ≠ o->H[j]?=some y->H'[j]?=some y)/\H.length<=H'.length/\(o'=o∨H.length<=o'):=by
 intro d
 have h8:=hg.1
 have hfl:=hF.fl
 induction d with
 | zero =>
  intro x w b o hi us ls H hx hd hb hbd hbx hwi hwo hwa hin hhi pB0 hls
  refine in155 rfl ?_
  intro Q hQ
  have hw:=hwi.row.1
  have hrH:=hr.pre pB0
  have hfH:=hf.pre pB0
  have hls':ls.length+1<=1000000:=hls
  simp (disch:=omega) only [cd155,hrH.boxG,SS,eq_self,reduceIte,reduceCtorEq,Nat.reduceEqDiff,Nat.reduceAdd]
  generalize hA:H ++ [AObj.cells [.int .i64 n,v] 26 false]=A
  have pA:H<+:A:=by rw [<- hA];exact List.prefix_append _ _
  have cA:A[H.length]?=some (.cells [.int .i64 n,v] 26 false):=by rw [<- hA];exact at_new ..
  have rA:=hrH.pre pA
  have hwA:=hw.pre pA
  have hcb:=hwA.cell (show b.length - 1<b.length by omega)
  rw [hbx] at hcb
  have hcA:=(hfH.pre pA).cell (show x<far.length by omega)
  rw [hd] at hcA
  have hw1:IntKind.i64.wrap ((b.length:Int) - 1)=((b.length - 1:Nat):Int):=by rw [wrap64 (by omega) (by omega)];omega
  have lA:A.length=H.length+1:=by rw [<- hA];simp
  have hwi2:InI B0.length A.length 3 A w b:=(hwi.move fun y _ hy=>pre_at pA hy).wide (Nat.le_refl _) (by omega)
  have hlo:=hin.1
  have hlo2:=hin.2.1
  obtain ⟨H3,k1,k2,k3,k4⟩:=(hin.pre pA).app1w (P:=Tryz.prog) (t2:=32) Tryz.underlying32 cs27 (by rw [by27];decide) zk27 hwi2 hwo hwa (by omega) (Nat.le_refl _) (by omega)
  have h00:((0:Nat):Int)=0:=rfl
  simp (disch:=omega) only [hwA.len Tryz.underlying27,hw1,hwA.ix Tryz.underlying27 cs3,Int.toNat_natCast,hcb,hfH.ix Tryz.underlying27 cs3,hcA,decide_eq_true h00,bsRowS hwA A,k1,SS,eq_self,reduceIte,reduceCtorEq,Nat.reduceEqDiff,Nat.reduceAdd]
  refine hQ _ _ _ ?_
  simp (disch:=omega) only [SS,eq_self,reduceIte,reduceCtorEq,Nat.reduceEqDiff,Nat.reduceAdd]
  have e:wA (roadsL n.toNat es) far 0 (x:Int) b=[b]:=rfl
  rw [e]
  refine ⟨A.length+1,us.take ls.length ++ [w],by simp,by rw [k3];exact k2,fun j y hj hy=>k4 j y hj (pre_at pA hy),by omega,by omega⟩
 | succ d ih =>
  intro x w b o hi us ls H hx hd hb hbd hbx hwi hwo hwa hin hhi pB0 hls
  refine in155 rfl ?_
  intro Q hQ
  have hw:=hwi.row.1
  have hrH:=hr.pre pB0
  have hfH:=hf.pre pB0
  simp (disch:=omega) only [cd155,hrH.boxG,SS,eq_self,reduceIte,reduceCtorEq,Nat.reduceEqDiff,Nat.reduceAdd]
  generalize hA:H ++ [AObj.cells [.int .i64 n,v] 26 false]=A
  have pA:H<+:A:=by rw [<- hA];exact List.prefix_append _ _
  have cA:A[H.length]?=some (.cells [.int .i64 n,v] 26 false):=by rw [<- hA];exact at_new ..
  have rA:=hrH.pre pA
  have hwA:=hw.pre pA
  have hcb:=hwA.cell (show b.length - 1<b.length by omega)
  rw [hbx] at hcb
  have hcA:=(hfH.pre pA).cell (show x<far.length by omega)
  rw [hd] at hcA
  have hw1:IntKind.i64.wrap ((b.length:Int) - 1)=((b.length - 1:Nat):Int):=by rw [wrap64 (by omega) (by omega)];omega
  have lA:A.length=H.length+1:=by rw [<- hA];simp
  have hne:¬ (((d+1:Nat):Int)=0):=by omega
  have hlo:=hin.1
  have hlo2:=hin.2.1
  simp (disch:=omega) only [hwA.len Tryz.underlying27,hw1,hwA.ix Tryz.underlying27 cs3,Int.toNat_natCast,hcb,hfH.ix Tryz.underlying27 cs3,hcA,decide_eq_false hne,ld_agg ag26 cs26 cA,SS,eq_self,reduceIte,reduceCtorEq,Nat.reduceEqDiff,Nat.reduceAdd]
  refine CallH.by (l2Neighbors_c n v es (x:Int) A rA hlen h8) ?_
  rintro nb B ⟨hnb,pB⟩
  rw [<- roadsL_at n.toNat es x hx] at hnb
  have eN:wN (roadsL n.toNat es) far (d+1) (x:Int)=wNT far (wN (roadsL n.toNat es) far d) (d:Int) ((roadsL n.toNat es).getD x []):=by rw [wN,Int.toNat_natCast]
  have eM:wA (roadsL n.toNat es) far (d+1) (x:Int) b=wT far (wA (roadsL n.toNat es) far d) (d:Int) b ((roadsL n.toNat es).getD x []):=by rw [wA,Int.toNat_natCast]
  rw [eM] at hQ
  rw [eN] at hls
  have hlx:=hF.lok x
  have hsm:=roadsL_small n.toNat es (by omega) x
  generalize roadsL n.toNat es=L at *
  generalize hxs:L.getD x []=xs at *
  have pHB:=pA.trans pB
  have lB:=pB.length_le
  have cB:=pre_at pB cA
  have hnO:nb=.slice none 0 0∨(A.length<=rowO nb/\rowO nb<B.length):=by
   rcases InI.of hnb.mine with q | ⟨oo,zs,q1,q2,q3,_⟩
   ·exact .inl q.1
   ·right;rw [q1];exact ⟨q2,q3⟩
  have hwO:=hwo
  have hnb0:=hnb.row
  have hinB:=(hin.pre pHB).wide (Nat.le_refl _) (show hi<=B.length by omega)
  have hb0:b.length<=100:=by omega
  simp (disch:=omega) only [SS,eq_self,reduceIte,reduceCtorEq,Nat.reduceEqDiff,Nat.reduceAdd]
  refine LoopH.by (fun m s H'=>∃ (k o':Nat) (us':List Value) (ls':List (List Int)),m+k=xs.length/\s 1=vf/\s 2=w/\s 3=.slice (some ⟨o',0,none⟩) ls'.length ls'.length/\s 4=.pointer (some ⟨H.length,0,none⟩)/\s 9=.int .i64 (x:Int)/\s 10=nb/\s 11=.int .i64 ((k:Nat):Int) /\
   ls' ++ wT far (wA L far d) (d:Int) b (xs.drop k)=ls ++ wT far (wA L far d) (d:Int) b xs/\ls'.length+wNT far (wN L far d) (d:Int) (xs.drop k)<=1000000/\InU B0.length H'.length 27 3 H' o' us' ls'/\(o'=o∨B.length<=o')/\(∀ (j:Nat) (y:AObj),j ≠ o->B[j]?=some y->H'[j]?=some y)/\B.length<=H'.length) xs.length ?_ ?_
  ·exact ⟨0,o,us,ls,by simp,rfl,rfl,rfl,rfl,rfl,rfl,rfl,rfl,hls,hinB,.inl rfl,fun j y _ hy=>hy,Nat.le_refl _⟩
  rintro m s H' ⟨k,o',us',ls',hm,h1,h2,h3,h4,h9,h10,h11,hT,hl',hin',ho',hk,hAl⟩
  have hkA:Kept (.slice (some ⟨o,0,none⟩) 0 0) B H':=fun j y hj hy=>by
   rcases hj with hj | hj
   ·cases hj
   ·exact hk j y hj hy
  have hoB:o<hi:=hlo2
  have apw:Apart w (.slice (some ⟨o,0,none⟩) 0 0):=by
   rcases hwO with q | q
   ·exact .inr (.inl q)
   ·refine .inr (.inr ?_)
    show rowO w ≠ o
    exact q
  have apn:Apart nb (.slice (some ⟨o,0,none⟩) 0 0):=by
   rcases hnO with q | q
   ·exact .inr (.inl q)
   ·refine .inr (.inr ?_)
    show rowO nb ≠ o
    omega
  have hw':Row 3 H' w b:=(hw.pre pHB).kept apw hkA
  have hn':Row 3 H' nb xs:=hnb0.kept apn hkA
  have pB0H:B0<+:H':=prefix_of fun j y hy=>hk j y (by have:=at_lt hy;omega) (pre_at (pB0.trans pHB) hy)
  have hf':=hf.pre pB0H
  have cH:H'[H.length]?=some (.cells [.int .i64 n,v] 26 false):=hk _ _ (by omega) cB
  simp (disch:=omega) only [h1,h2,h3,h4,h9,h10,h11,hn'.len Tryz.underlying27,SS,eq_self,reduceIte,reduceCtorEq,Nat.reduceEqDiff,Nat.reduceAdd]
  refine brD.intro (fun g1=>?_) (fun g1=>?_)
  rotate_left
  ·simp (disch:=omega) only [h3,SS,eq_self,reduceIte,reduceCtorEq,Nat.reduceEqDiff,Nat.reduceAdd]
   refine hQ _ _ _ ?_
   simp (disch:=omega) only [SS,eq_self,reduceIte,reduceCtorEq,Nat.reduceEqDiff,Nat.reduceAdd]
   have hk0:k=xs.length:=by omega
   subst hk0
   rw [List.drop_length] at hT
   have e0:ls'=ls ++ wT far (wA L far d) (d:Int) b xs:=by rw [<- hT];simp [wT]
   rw [<- e0]
   exact ⟨o',us',rfl,hin',fun j y hj hy=>hk j y hj (pre_at pHB hy),by omega,by omega⟩
  have hk1:k<xs.length:=by omega
  have hym:xs.getD k 0 ∈ xs:=by simp [hk1]
  have hyr:=hlx _ hym
  have hck:=hn'.cell hk1
  obtain ⟨y,hy⟩:∃ y:Nat,xs.getD k 0=y:=⟨(xs.getD k 0).toNat,by omega⟩
  rw [hy] at hck hyr
  have hdrop:xs.drop k=(y:Int) :: xs.drop (k+1):=by
   rw [List.drop_eq_getElem_cons hk1]
   congr 1
   rw [<- hy];simp [hk1]
  rw [hdrop,wT,Int.toNat_natCast] at hT
  rw [hdrop,wNT,Int.toNat_natCast] at hl'
  have hcy:=hf'.cell (show y<far.length by omega)
  have hcx:=hf'.cell (show x<far.length by omega)
  rw [hd] at hcx
  have hw2:IntKind.i64.wrap (((d+1:Nat):Int) - 1)=(d:Int):=by rw [wrap64 (by omega) (by omega)];omega
  simp (disch:=omega) only [h1,h2,h3,h4,h9,h10,h11,hn'.ix Tryz.underlying27 cs3,hf'.ix Tryz.underlying27 cs3,Int.toNat_natCast,hck,hcx,hcy,hw2,SS,eq_self,reduceIte,reduceCtorEq,Nat.reduceEqDiff,Nat.reduceAdd]
  by_cases e:far.getD y 0=(d:Int)
  ·rw [if_pos e] at hT hl'
   simp (disch:=omega) only [decide_eq_true e,h1,h2,h3,h4,h9,h10,h11,hn'.ix Tryz.underlying27 cs3,Int.toNat_natCast,hck,ld_agg ag26 cs26 cH,SS,eq_self,reduceIte,reduceCtorEq,Nat.reduceEqDiff,Nat.reduceAdd]
   generalize hG2:H' ++ [AObj.cells [.int .i64 (y:Int)] 3 false]=G2
   have pG2:H'<+:G2:=by rw [<- hG2];exact List.prefix_append _ _
   have at1:G2[H'.length]?=some (.cells [.int .i64 (y:Int)] 3 false):=by rw [<- hG2];exact at_new ..
   have lG2:G2.length=H'.length+1:=by rw [<- hG2];simp
   refine CallH.by (l1Own_c w b G2 (hw'.pre pG2) (by omega)) ?_
   rintro w1 C ⟨hc,pC⟩
   have hx1:Row 3 C (.slice (some ⟨H'.length,0,none⟩) 1 1) [(y:Int)]:=.inr ⟨H'.length,0,[.int .i64 (y:Int)],false,rfl,pre_at pC at1,by simp,rfl⟩
   have hkeq:C[H'.length]?=G2[H'.length]?:=by rw [pre_at pC at1,at1]
   obtain ⟨v',H2,j1,j2,j3,j4,j5⟩:=hc.app (P:=Tryz.prog) (t:=27) Tryz.underlying27 cs3 (by rw [by3];decide) zk3 hx1 pC (by simp only [List.length_cons,List.length_nil];omega)
   have hckC:=(hn'.pre (pG2.trans pC)).cell hk1
   rw [hy] at hckC
   have lH2:=j3.length_le
   have lC:=pC.length_le
   have ho1:=hin'.2.1
   have hin0:=InI.of j2.mine
   have lB0:=pB0H.length_le
   have hinw:=hin0.wide (show B0.length<=G2.length by omega) (Nat.le_refl _)
   have hvo:v'=.slice none 0 0∨rowO v' ≠ o':=by
    rcases hin0.at_ with q | q
    ·exact .inl q
    ·right;omega
   have hva:∀ i,i<ls'.length->Apart (us'.getD i undef) v':=fun i hi'=>by
    rcases (hin'.2.2.2.2.1 i hi').1.at_ with q | q
    ·exact .inr (.inl q)
    ·rcases hin0.at_ with q2 | q2
     ·exact .inl q2
     ·exact .inr (.inr (by omega))
   have j3':=pG2.trans j3
   have hinH:=hin'.pre j3'
   have hlast:(b ++ [(y:Int)]).getD ((b ++ [(y:Int)]).length - 1) 0=(y:Int):=by simp
   have hrec:=ih y v' (b ++ [(y:Int)]) o' H'.length us' ls' H2 (by omega) e (by simp) (by simp;omega) hlast hinw hvo hva hinH (by omega) (pB0H.trans j3') (by omega)
   simp (disch:=omega) only [h1,h2,h3,h4,h9,h10,h11,hn'.ix Tryz.underlying27 cs3,Int.toNat_natCast,hck,ld_agg ag26 cs26 cH,ld_agg ag26 cs26 (pre_at pG2 cH),ld_agg ag26 cs26 (pre_at (pG2.trans pC) cH),ld_agg ag26 cs26 (pre_at j3' cH),hkeq,hckC,j1,SS,eq_self,reduceIte,reduceCtorEq,Nat.reduceEqDiff,Nat.reduceAdd]
   refine CallH.by hrec ?_
   rintro _ H3 ⟨o2,us2,rfl,i1,i2,i3,i4⟩
   have f1:o2=o∨B.length<=o2:=by omega
   have f2:∀ (j:Nat) (y:AObj),j ≠ o->B[j]?=some y->H3[j]?=some y:=fun j y hj hy=>by
    refine i2 j y ?_ (pre_at j3' (hk j y hj hy))
    rcases ho' with q1 | q1
    ·rw [q1];exact hj
    ·have:=at_lt hy;omega
   have f3:(ls' ++ wA L far d (y:Int) (b ++ [(y:Int)])).length+wNT far (wN L far d) (d:Int) (xs.drop (k+1))<=1000000:=by rw [List.length_append,wA_len];omega
   have f4:(ls' ++ wA L far d (y:Int) (b ++ [(y:Int)])) ++ wT far (wA L far d) (d:Int) b (xs.drop (k+1))=ls ++ wT far (wA L far d) (d:Int) b xs:=by rw [<- hT,List.append_assoc]
   have f5:B.length<=H3.length:=by omega
   simp (disch:=omega) only [h1,h2,h3,h4,h9,h10,h11,wrap64,SS,eq_self,reduceIte,reduceCtorEq,Nat.reduceEqDiff,Nat.reduceAdd]
   refine ⟨m - 1,by omega,k+1,o2,us2,ls' ++ wA L far d (y:Int) (b ++ [(y:Int)]),?_⟩
   (repeat' first | exact f4 | exact f3 | exact i1 | exact f1 | exact f2 | exact f5 | apply And.intro) <;> first | (simp only [Value.int.injEq,true_and];omega) | omega | rfl | assumption | (simp;done) | (simp;omega)
  ·rw [if_neg e,List.nil_append] at hT
   rw [if_neg e,Nat.zero_add] at hl'
   simp (disch:=omega) only [decide_eq_false e,h1,h2,h3,h4,h9,h10,h11,wrap64,SS,eq_self,reduceIte,reduceCtorEq,Nat.reduceEqDiff,Nat.reduceAdd]
   refine ⟨m - 1,by omega,k+1,o',us',ls',?_⟩
   (repeat' first | exact hT | exact hl' | exact hin' | exact ho' | exact hk | exact hAl | apply And.intro) <;> first | (simp only [Value.int.injEq,true_and];omega) | omega | rfl | assumption | (simp;done) | (simp;omega)
theorem l7Ways_c (n:Int)(v:Value)(es:List (Int × Int))(s t:Int)(H:AH)(hr:RowP 115 H v es)(hlen:es.length<=1099511627776)(hw:WsOk n es s t) :
  ACalls Tryz.prog 98 [.agg (List.toArray [.int .i64 n,v]),.int .i64 s,.int .i64 t] H fun r H'=>InL H.length H'.length 27 3 H' r (wsL n es s t)/\H<+:H':=by
 have hF:=farG_ok hw
 obtain ⟨hg,hs,ht⟩:=hw
 have h8:=hg.1
 obtain ⟨sN,rfl⟩:∃ k:Nat,s=k:=⟨s.toNat,by omega⟩
 obtain ⟨tN,rfl⟩:∃ k:Nat,t=k:=⟨t.toNat,by omega⟩
 have hWs:wsL n es (sN:Int) (tN:Int)=if 0<=(farG n es (tN:Int)).getD sN 0 then wA (roadsL n.toNat es) (farG n es (tN:Int)) ((farG n es (tN:Int)).getD sN 0).toNat (sN:Int) [(sN:Int)] else []:=by
  unfold wsL
  rw [Int.toNat_natCast]
  by_cases e:0<=(farG n es (tN:Int)).getD sN 0
  ·rw [if_pos ⟨⟨hg,hs,ht⟩,e⟩,if_pos e]
  ·rw [if_neg (fun q=>e q.2),if_neg e]
 refine in98 rfl ?_
 intro Q hQ
 rw [hWs] at hQ
 simp (disch:=omega) only [cd98,hr.boxG,SS,eq_self,reduceIte,reduceCtorEq,Nat.reduceEqDiff,Nat.reduceAdd]
 generalize hA:H ++ [AObj.cells [.int .i64 n,v] 26 false]=A
 have pA:H<+:A:=by rw [<- hA];exact List.prefix_append _ _
 have cA:A[H.length]?=some (.cells [.int .i64 n,v] 26 false):=by rw [<- hA];exact at_new ..
 have rA:=hr.pre pA
 simp (disch:=omega) only [ld_agg ag26 cs26 cA,SS,eq_self,reduceIte,reduceCtorEq,Nat.reduceEqDiff,Nat.reduceAdd]
 refine CallH.by (l3Far_c n v es tN A rA hlen h8 (by omega)) ?_
 rintro vf B ⟨hf,pB⟩
 have hfar:farG n es (tN:Int)=bfs (roadsL n.toNat es) tN:=by unfold farG;rw [Int.toNat_natCast]
 rw [Int.toNat_natCast] at hF
 rw [<- hfar] at hf
 have hb:=hF.lo sN (by omega)
 have hfl:=hF.fl
 generalize farG n es (tN:Int)=far at *
 have hcs:=hf.row.cell (show sN<far.length by omega)
 have cB:=pre_at pB cA
 have pHB:=pA.trans pB
 simp (disch:=omega) only [hf.row.ix Tryz.underlying27 cs3,Int.toNat_natCast,hcs,SS,eq_self,reduceIte,reduceCtorEq,Nat.reduceEqDiff,Nat.reduceAdd]
 by_cases e:far.getD sN 0<0
 ·simp (disch:=omega) only [decide_eq_true e,SS,eq_self,reduceIte,reduceCtorEq,Nat.reduceEqDiff,Nat.reduceAdd]
  refine hQ _ _ _ ?_
  simp (disch:=omega) only [SS,eq_self,reduceIte,reduceCtorEq,Nat.reduceEqDiff,Nat.reduceAdd]
  rw [if_neg (by omega)]
  have u0:=InU.new H.length 27 3 B pHB.length_le
  refine ⟨?_,pre_app pHB _⟩
  have:=u0.inl
  simpa using this
 rw [if_pos (by omega)] at hQ
 obtain ⟨d,hd⟩:∃ d:Nat,far.getD sN 0=d:=⟨(far.getD sN 0).toNat,by omega⟩
 rw [hd,Int.toNat_natCast] at hQ
 have h9:=hF.nine (by omega) (show sN<n.toNat by omega) hd
 rw [hd] at hb
 simp (disch:=omega) only [decide_eq_false e,ld_agg ag26 cs26 cB,SS,eq_self,reduceIte,reduceCtorEq,Nat.reduceEqDiff,Nat.reduceAdd]
 refine CallH.by (l7Count_c n v vf es hg hlen hF d sN B (by omega) hd (rA.pre pB) hf.row) ?_
 rintro _ C ⟨rfl,pC⟩
 have cC:=pre_at pC cB
 have h300:¬ (300:Int)<((wN (roadsL n.toNat es) far d (sN:Int):Nat):Int):=by omega
 simp (disch:=omega) only [decide_eq_false h300,ld_agg ag26 cs26 cC,SS,eq_self,reduceIte,reduceCtorEq,Nat.reduceEqDiff,Nat.reduceAdd]
 generalize hD:C ++ [AObj.cells [.int .i64 (sN:Int)] 3 false]=D
 have pD:C<+:D:=by rw [<- hD];exact List.prefix_append _ _
 have cD:D[C.length]?=some (.cells (ints [(sN:Int)]) 3 false):=by rw [<- hD];exact at_new ..
 have lD:D.length=C.length+1:=by rw [<- hD];simp
 generalize hE:D ++ [AObj.cells [] 27 false]=E
 have pE:D<+:E:=by rw [<- hE];exact List.prefix_append _ _
 have cE:E[D.length]?=some (.cells [] 27 false):=by rw [<- hE];exact at_new ..
 have lE:E.length=D.length+1:=by rw [<- hE];simp
 have pBE:=pC.trans (pD.trans pE)
 have lC:=pC.length_le
 have hwi:InI B.length E.length 3 E (.slice (some ⟨C.length,0,none⟩) 1 1) [(sN:Int)]:=.inr ⟨C.length,[(sN:Int)],rfl,lC,by omega,pre_at pE cD,rfl⟩
 have hin:InU B.length E.length 27 3 E D.length [] []:=⟨by omega,by omega,cE,Nat.le_refl _,fun i hi=>absurd hi (by simp),fun i j _ hi _=>absurd hi (by simp)⟩
 refine CallH.by (l7More_c n v vf es hg hlen hF B (rA.pre pB) hf.row d sN (.slice (some ⟨C.length,0,none⟩) 1 1) [(sN:Int)] D.length E.length [] [] E (by omega) hd (by simp) (by simp;omega) rfl hwi (.inr (by show C.length ≠ D.length;omega)) (fun i hi=>absurd hi (by simp)) hin (Nat.le_refl _) pBE (by simp;omega)) ?_
 rintro _ G ⟨o',us',rfl,i1,i2,i3,i4⟩
 simp (disch:=omega) only [SS,eq_self,reduceIte,reduceCtorEq,Nat.reduceEqDiff,Nat.reduceAdd]
 refine hQ _ _ _ ?_
 simp (disch:=omega) only [SS,eq_self,reduceIte,reduceCtorEq,Nat.reduceEqDiff,Nat.reduceAdd]
 have lHB:=pHB.length_le
 rw [List.nil_append] at i1
 refine ⟨i1.inl.wide lHB (Nat.le_refl _),pHB.trans (prefix_of fun j y hy=>i2 j y (by have:=at_lt hy;omega) (pre_at pBE hy))⟩
theorem l7Turns_c {H:AH}{a:Value}{ls:List (List Int)}{lo:Nat}(hL:InL lo H.length 27 3 H a ls)(h9:ls.length<=9){len:Nat}(hlen:len<=8)(hk:∀ l ∈ ls,l.length=len) :
  ACalls Tryz.prog 99 [a] H fun r H'=>∃ b,r=.agg (List.toArray [a,b])/\InP H.length H'.length 115 H' b (steps chB ls)/\H<+:H':=by
 refine in99 rfl ?_
 intro Q hQ
 obtain ⟨us,r1,r2,r3⟩:=hL.parts
 obtain ⟨pa,hpa⟩:=r1.shape
 simp (disch:=omega) only [cd99,alloc_sp,SS,eq_self,reduceIte,reduceCtorEq,Nat.reduceEqDiff,Nat.reduceAdd]
 generalize hA:H ++ [AObj.cells [.slice none 0 0,.slice none 0 0] 34 false]=A
 have pA:H<+:A:=by rw [<- hA];exact List.prefix_append _ _
 have cA:A[H.length]?=some (.cells [.slice none 0 0,.slice none 0 0] 34 false):=by rw [<- hA];exact at_new ..
 have lA:A.length=H.length+1:=by rw [<- hA];simp
 generalize hE:A ++ [AObj.cells [] 115 false]=E
 have pE:A<+:E:=by rw [<- hE];exact List.prefix_append _ _
 have lE:E.length=A.length+1:=by rw [<- hE];simp
 have m0:MineP 115 A E (.slice (some ⟨A.length,0,none⟩) 0 0) []:=by rw [<- hE];exact MineP.nil0 (P:=Tryz.prog) A A (Nat.le_refl _)
 have hb2:=bld_sp2 pa (some ⟨A.length,0,none⟩) us.length us.length 0 0
 rw [<- hpa] at hb2
 have st1:=st_ss (at_new E (.cells [.slice none 0 0,.slice none 0 0] 34 false)) rfl pa (some ⟨A.length,0,none⟩) us.length us.length 0 0
 rw [set_new,<- hpa] at st1
 simp (disch:=omega) only [hb2,alloc_sp,st1,SS,eq_self,reduceIte,reduceCtorEq,Nat.reduceEqDiff,Nat.reduceAdd]
 generalize hG:E ++ [AObj.cells [a,.slice (some ⟨A.length,0,none⟩) 0 0] 34 false]=G
 have pG:E<+:G:=by rw [<- hG];exact List.prefix_append _ _
 have cG:G[E.length]?=some (.cells [a,.slice (some ⟨A.length,0,none⟩) 0 0] 34 false):=by rw [<- hG];exact at_new ..
 have lG:G.length=E.length+1:=by rw [<- hG];simp
 have pAG:=pE.trans pG
 have rowA:∀ {H'},A<+:H'->RowV 27 H' a us:=fun hp=>r1.pre (pA.trans hp)
 have rowI:∀ {H'} (i:Nat),i<ls.length->A<+:H'->Row 3 H' (us.getD i undef) (ls.getD i []):=fun i hi hp=>(r3 i hi).row.1.pre (pA.trans hp)
 have sm:∀ i,i<ls.length->(ls.getD i []).length=len:=fun i hi=>hk _ (by simp [hi])
 refine LoopH.by (fun m s H'=>∃ i st,m+i=ls.length/\s 0=a/\s 2=.pointer (some ⟨H.length,0,none⟩)/\s 3=.pointer (some ⟨E.length,0,none⟩)/\s 4=.int .i64 ((i:Nat):Int)/\H'[E.length]?=some (.cells [a,st] 34 false)/\(rowO st=A.length∨G.length<=rowO st)/\st ≠ .slice none 0 0/\MineP 115 A H' st (stpO chB ls i)/\A<+:H') ls.length ?_ ?_
 ·exact ⟨0,.slice (some ⟨A.length,0,none⟩) 0 0,by simp,rfl,rfl,rfl,rfl,cG,.inl rfl,(by intro e;cases e),m0.pre pG,pAG⟩
 rintro m s H' ⟨i,st,hm,s0,s2,s3,s4,hc5,hst,hsn,hmn,hpp⟩
 simp (disch:=omega) only [s0,s2,s3,s4,(rowA hpp).len Tryz.underlying32,r2,SS,eq_self,reduceIte,reduceCtorEq,Nat.reduceEqDiff,Nat.reduceAdd]
 refine brD.intro (fun g=>?_) (fun g=>?_)
 rotate_left
 ·have hi:i=ls.length:=by omega
  subst hi
  have hrow:SpRow H' a st ls (stpO chB ls ls.length):=⟨⟨_,hL.row.pre (pA.trans hpp)⟩,hmn.row⟩
  have cAH:=pre_at hpp cA
  have hstore:=hrow.store cAH rfl
  simp (disch:=omega) only [s0,s2,s3,s4,ld_agg ag34 cs34 hc5,hstore,SS,eq_self,reduceIte,reduceCtorEq,Nat.reduceEqDiff,Nat.reduceAdd]
  have d4:=at_set (d:=.cells [a,st] 34 false) cAH
  have lH':=hpp.length_le
  refine hQ _ _ _ (end_cell _ _ _ _ _ _ (.agg (List.toArray [a,st])) ?_ rfl ⟨st,rfl,?_,?_⟩)
  ·simp (disch:=omega) only [s2,ld_agg ag34 cs34 d4,SS,eq_self,reduceIte,reduceCtorEq,Nat.reduceEqDiff,Nat.reduceAdd]
  ·rcases InP.of hmn with q | ⟨o,zs,q1,q2,q3,q4,q5⟩
   ·exact .inl q
   ·exact .inr ⟨o,zs,q1,by omega,by simpa using q3,by rw [List.getElem?_set_ne (by omega)];exact q4,q5⟩
  ·exact pre_set (pA.trans hpp) (by omega) _
 have hi:i<ls.length:=by omega
 simp (disch:=omega) only [s0,s2,s3,s4,wrap64,SS,eq_self,reduceIte,reduceCtorEq,Nat.reduceEqDiff,Nat.reduceAdd]
 refine LoopH.by (fun m' s' H''=>∃ j st',m'+j=ls.length - (i+1)/\s' 0=a/\s' 2=.pointer (some ⟨H.length,0,none⟩)/\s' 3=.pointer (some ⟨E.length,0,none⟩)/\s' 4=.int .i64 ((i:Nat):Int)/\s' 5=.int .i64 ((i+1+j:Nat):Int)/\H''[E.length]?=some (.cells [a,st'] 34 false)/\(rowO st'=A.length∨G.length<=rowO st')/\st' ≠ .slice none 0 0/\MineP 115 A H'' st' (stpO chB ls i ++ stpI chB ls i j)/\A<+:H'') (ls.length - (i+1)) ?_ ?_
 ·refine ⟨0,st,by simp,?_⟩
  simp only [SS,eq_self,reduceIte,reduceCtorEq,Nat.reduceEqDiff,Nat.reduceAdd,s0,s2,s3,s4]
  have f0:MineP 115 A H' st (stpO chB ls i ++ stpI chB ls i 0):=by rw [stpI,List.append_nil];exact hmn
  (repeat' first | exact hc5 | exact hst | exact hsn | exact f0 | exact hpp | apply And.intro) <;> first | (simp only [Value.int.injEq,true_and];omega) | omega | rfl | assumption | (simp;done) | (simp;omega)
 ·rintro m' s' H'' ⟨j,st',hm',g0,g2,g3,g4,g5,hc5',hst',hsn',hmn',hpp'⟩
  simp (disch:=omega) only [g0,g2,g3,g4,g5,(rowA hpp').len Tryz.underlying32,r2,SS,eq_self,reduceIte,reduceCtorEq,Nat.reduceEqDiff,Nat.reduceAdd]
  refine brD.intro (fun q=>?_) (fun q=>?_)
  ·have hj:i+1+j<ls.length:=by omega
   have hci:=(rowA hpp').cell (show i<us.length by omega)
   have hcj:=(rowA hpp').cell (show i+1+j<us.length by omega)
   have hgi:=sm i hi
   have hgj:=sm _ hj
   simp (disch:=omega) only [g0,g2,g3,g4,g5,(rowA hpp').ix Tryz.underlying32 cs27,Int.toNat_natCast,hci,hcj,SS,eq_self,reduceIte,reduceCtorEq,Nat.reduceEqDiff,Nat.reduceAdd]
   refine CallH.by (l5Changed_c _ _ _ _ H'' (rowI i hi hpp') (rowI (i+1+j) hj hpp') (by omega) (by omega)) ?_
   rintro u K ⟨hu,pK⟩
   have hcK:=pre_at pK hc5'
   have hpK:=hpp'.trans pK
   have hmK:=hmn'.pre pK
   have hur:=hu.row
   have hsl1:=stpO_len chB ls i
   have hsl2:=stpI_len chB ls i j
   have hmul:i * ls.length<=9 * 9:=Nat.mul_le_mul (by omega) (by omega)
   have lK:=hpK.length_le
   have l5:=at_lt hc5'
   have hne:∀ o,o=E.length->o ≠ rowO st':=fun o ho=>by omega
   have hjl:((dfL (ls.getD i []) (ls.getD (i+1+j) [])).length:Int)=1↔chB (ls.getD i []) (ls.getD (i+1+j) [])=true:=by
    unfold chB;rw [decide_eq_true_eq];omega
   simp (disch:=omega) only [g0,g2,g3,g4,g5,hur.len Tryz.underlying27,SS,eq_self,reduceIte,reduceCtorEq,Nat.reduceEqDiff,Nat.reduceAdd]
   refine brD.intro (fun e1=>?_) (fun e1=>?_)
   ·have ht:=hjl.1 e1
    have hstep:stpI chB ls i (j+1)=stpI chB ls i j ++ [((i:Int),((i+1+j:Nat):Int))]:=by rw [stpI,if_pos ht]
    obtain ⟨st2,H3,k1,k2,k3,k4,k5,k6⟩:=own1_24 hmK hpK (by rw [List.length_append];omega) (i:Int) ((i+1+j:Nat):Int)
    have d5:H3[E.length]?=some (.cells [a,st'] 34 false):=k4 _ _ (.inr (hne _ rfl)) hcK
    obtain ⟨q2,hq2⟩:=k2.row.shape
    have t2:st2.cells.toList=[st2]:=by rw [hq2];rfl
    have hst3:=st_at (P:=Tryz.prog) (t:=24) (i:=1) (y:=st2) cs24 d5 (by show 1<2;decide) k6 t2
    have lGK:G.length<=K.length:=by have:=pK.length_le;omega
    simp (disch:=omega) only [e1,g0,g2,g3,g4,g5,cell_of hcK,build_a2,wrap64,k1,hst3,SS,eq_self,reduceIte,reduceCtorEq,Nat.reduceEqDiff,Nat.reduceAdd]
    have f5:(H3.set E.length (.cells ([a,st'].set 1 st2) 34 false))[E.length]?=some (.cells [a,st2] 34 false):=by
     rw [List.getElem?_set_self (at_lt d5)];rfl
    have fs1:rowO st2=A.length∨G.length<=rowO st2:=.inr (by omega)
    have fs2:st2 ≠ .slice none 0 0:=by
     intro hh
     rw [hh] at k5
     have:rowO (Value.slice none 0 0)=0:=rfl
     omega
    have fm:MineP 115 A (H3.set E.length (.cells ([a,st'].set 1 st2) 34 false)) st2 (stpO chB ls i ++ stpI chB ls i (j+1)):=by
     rw [hstep,<- List.append_assoc]
     exact k2.keepL fun hl y hy=>by rw [List.getElem?_set_ne (by omega)];exact hy
    have fp:A<+:H3.set E.length (.cells ([a,st'].set 1 st2) 34 false):=pre_set k3 (by omega) _
    refine ⟨m' - 1,by omega,j+1,st2,?_⟩
    (repeat' first | exact f5 | exact fs1 | exact fs2 | exact fm | exact fp | apply And.intro) <;> first | (simp only [Value.int.injEq,true_and];omega) | omega | rfl | assumption | (simp;done) | (simp;omega)
   ·have ht:¬ chB (ls.getD i []) (ls.getD (i+1+j) [])=true:=fun h=>e1 (hjl.2 h)
    have hstep:stpI chB ls i (j+1)=stpI chB ls i j:=by rw [stpI,if_neg ht,List.append_nil]
    rw [<- hstep] at hmK
    simp (disch:=omega) only [e1,g0,g2,g3,g4,g5,wrap64,SS,eq_self,reduceIte,reduceCtorEq,Nat.reduceEqDiff,Nat.reduceAdd]
    refine ⟨m' - 1,by omega,j+1,st',?_⟩
    (repeat' first | exact hcK | exact hst' | exact hsn' | exact hmK | exact hpK | apply And.intro) <;> first | (simp only [Value.int.injEq,true_and];omega) | omega | rfl | assumption | (simp;done) | (simp;omega)
  ·have hjj:j=ls.length - (i+1):=by omega
   subst hjj
   have hstO:stpO chB ls (i+1)=stpO chB ls i ++ stpI chB ls i (ls.length - (i+1)):=rfl
   rw [<- hstO] at hmn'
   simp (disch:=omega) only [g0,g2,g3,g4,g5,wrap64,SS,eq_self,reduceIte,reduceCtorEq,Nat.reduceEqDiff,Nat.reduceAdd]
   refine ⟨m - 1,by omega,i+1,st',?_⟩
   (repeat' first | exact hc5' | exact hst' | exact hsn' | exact hmn' | exact hpp' | apply And.intro) <;> first | (simp only [Value.int.injEq,true_and];omega) | omega | rfl | assumption | (simp;done) | (simp;omega)
theorem WyS_c (s t:Int)(n:Int)(v:Value)(es:List (Int × Int))(H:AH)(hr:RowP 115 H v es)(hlen:es.length<=1099511627776)(hes:∀ y ∈ es,I64 y.1/\I64 y.2)(hn:I64 n) :
  ACalls Tryz.prog 35 [.agg (List.toArray [.int .i64 n,v]),.int .i64 s,.int .i64 t] H fun r H'=>∃ a b,r=.tuple (List.toArray [.agg (List.toArray [a,b]),.bool (wsB n es s t)])/\SpIn H.length H'.length H' a b (wsL n es s t) (wsP n es s t)/\H<+:H':=by
 refine in35 rfl ?_
 intro Q hQ
 simp (disch:=omega) only [cd35,hr.boxG,SS,eq_self,reduceIte,reduceCtorEq,Nat.reduceEqDiff,Nat.reduceAdd]
 generalize hA0:H ++ [AObj.cells [.int .i64 n,v] 26 false]=A0
 have pA0:H<+:A0:=by rw [<- hA0];exact List.prefix_append _ _
 have cA0:A0[H.length]?=some (.cells [.int .i64 n,v] 26 false):=by rw [<- hA0];exact at_new ..
 have rA0:=hr.pre pA0
 simp (disch:=omega) only [alloc_sp,SS,eq_self,reduceIte,reduceCtorEq,Nat.reduceEqDiff,Nat.reduceAdd]
 generalize hA:A0 ++ [AObj.cells [.slice none 0 0,.slice none 0 0] 34 false]=A
 have pA1:A0<+:A:=by rw [<- hA];exact List.prefix_append _ _
 have lA0:A0.length=H.length+1:=by rw [<- hA0];simp
 have cS:A[A0.length]?=some (.cells [.slice none 0 0,.slice none 0 0] 34 false):=by rw [<- hA];exact at_new ..
 have lA:A.length=A0.length+1:=by rw [<- hA];simp
 have pA:=pA0.trans pA1
 have cA:=pre_at pA1 cA0
 have rA:=rA0.pre pA1
 simp (disch:=omega) only [ld_agg ag26 cs26 cA,SS,eq_self,reduceIte,reduceCtorEq,Nat.reduceEqDiff,Nat.reduceAdd]
 refine CallH.by (l7Ends_c n v es s t A rA hlen) ?_
 rintro _ B ⟨rfl,pB⟩
 have cB:=pre_at pB cA
 have cSB:=pre_at pB cS
 have pHB:=pA.trans pB
 have lB:=pB.length_le
 have no:∀ {G:AH},A<+:G->wsL n es s t=[]->∀ sl:Sl,sl 6=.pointer (some ⟨A0.length,0,none⟩)->sl 7=.bool false->endA Tryz.prog [.cell 6 34,.tmp 7] (fun r H'=>∃ a b,r=.tuple (List.toArray [.agg (List.toArray [a,b]),.bool (wsB n es s t)])/\SpIn H.length H'.length H' a b (wsL n es s t) (wsP n es s t)/\H<+:H') .ret sl (G.set A0.length (.cells [.slice none 0 0,.slice none 0 0] 34 false)):=by
  intro G pG h sl s2 s3
  have cSG:=pre_at pG cS
  have lG:=pG.length_le
  have d4:=at_set (d:=.cells [.slice none 0 0,.slice none 0 0] 34 false) cSG
  have hB:wsB n es s t=false:=by unfold wsB;rw [h];rfl
  have hP:wsP n es s t=[]:=by unfold wsP;rw [h];rfl
  refine end_cell2 _ _ _ _ _ _ _ (.agg (List.toArray [.slice none 0 0,.slice none 0 0])) (.bool false) ?_ rfl s3 rfl ⟨_,_,by rw [hB],⟨H.length,Nat.le_refl _,by simp;omega,?_,?_⟩,?_⟩
  ·simp (disch:=omega) only [s2,ld_agg ag34 cs34 d4,SS,eq_self,reduceIte,reduceCtorEq,Nat.reduceEqDiff,Nat.reduceAdd]
  ·rw [h];exact .inl ⟨rfl,rfl⟩
  ·rw [hP];exact .inl ⟨rfl,rfl⟩
  ·exact pre_set (pA.trans pG) (by omega) _
 by_cases e:WsOk n es s t
 rotate_left
 ·have hstore0:=st_ss cSB rfl none none 0 0 0 0
  simp (disch:=omega) only [decide_eq_false e,bld_sp0,hstore0,SS,eq_self,reduceIte,reduceCtorEq,Nat.reduceEqDiff,Nat.reduceAdd]
  refine hQ _ _ _ (no pB (by unfold wsL;rw [if_neg (fun q=>e q.1)]) _ ?_ ?_) <;> simp (disch:=omega) only [SS,eq_self,reduceIte,reduceCtorEq,Nat.reduceEqDiff,Nat.reduceAdd]
 simp (disch:=omega) only [decide_eq_true e,ld_agg ag26 cs26 cB,SS,eq_self,reduceIte,reduceCtorEq,Nat.reduceEqDiff,Nat.reduceAdd]
 refine CallH.by (l7Ways_c n v es s t B (rA.pre pB) hlen e) ?_
 rintro a C ⟨hL,pC⟩
 have pBC:=pB.trans pC
 have cSC:=pre_at pBC cS
 have lC:=pC.length_le
 obtain ⟨hsrt,h9,⟨k,k8,hk⟩,_⟩:=wsL_ok (n:=n) (es:=es) (s:=s) (t:=t)
 have hB:wsB n es s t=decide (0<(wsL n es s t).length):=rfl
 have hP:wsP n es s t=steps chB (wsL n es s t):=rfl
 obtain ⟨us,r1,r2,r3⟩:=hL.parts
 by_cases e2:(wsL n es s t).length=0
 ·have hnil:=List.length_eq_zero_iff.1 e2
  have e3:((us.length:Nat):Int)=0:=by omega
  have hstore0:=st_ss cSC rfl none none 0 0 0 0
  simp (disch:=omega) only [r1.len Tryz.underlying32,decide_eq_true e3,bld_sp0,hstore0,SS,eq_self,reduceIte,reduceCtorEq,Nat.reduceEqDiff,Nat.reduceAdd]
  refine hQ _ _ _ (no pBC hnil _ ?_ ?_) <;> simp (disch:=omega) only [SS,eq_self,reduceIte,reduceCtorEq,Nat.reduceEqDiff,Nat.reduceAdd]
 rw [hB,hP,decide_eq_true (show 0<(wsL n es s t).length by omega)] at hQ
 clear no
 generalize wsL n es s t=ls at *
 have e3:¬ ((us.length:Nat):Int)=0:=by omega
 simp (disch:=omega) only [r1.len Tryz.underlying32,decide_eq_false e3,SS,eq_self,reduceIte,reduceCtorEq,Nat.reduceEqDiff,Nat.reduceAdd]
 refine CallH.by (l7Turns_c hL h9 k8 hk) ?_
 rintro _ D ⟨b,rfl,hp,pD⟩
 have lD:=pD.length_le
 have cSD:=pre_at pD cSC
 have hrow:SpRow D a b ls (steps chB ls):=⟨⟨_,(hL.row).pre pD⟩,by
  rcases hp with ⟨q1,q2⟩ | ⟨o,zs,q1,q2,q3,q4,q5⟩
  ·exact (show MineP 115 D D b (steps chB ls) from .inl ⟨q1,q2⟩).row
  ·exact (show MineP 115 C D b (steps chB ls) from .inr ⟨o,zs,q1,q2,q4,q5⟩).row⟩
 have hstore:=hrow.store cSD rfl
 simp (disch:=omega) only [hstore,SS,eq_self,reduceIte,reduceCtorEq,Nat.reduceEqDiff,Nat.reduceAdd]
 have d4:=at_set (d:=.cells [a,b] 34 false) cSD
 refine hQ _ _ _ (end_cell2 _ _ _ _ _ _ _ (.agg (List.toArray [a,b])) (.bool true) ?_ rfl ?_ rfl ⟨a,b,rfl,⟨C.length,by omega,by simp;omega,?_,?_⟩,?_⟩)
 ·simp (disch:=omega) only [ld_agg ag34 cs34 d4,SS,eq_self,reduceIte,reduceCtorEq,Nat.reduceEqDiff,Nat.reduceAdd]
 ·simp (disch:=omega) only [SS,eq_self,reduceIte,reduceCtorEq,Nat.reduceEqDiff,Nat.reduceAdd]
 ·rcases hL.pre pD with q | ⟨o,us',q1,q2⟩
  ·exact .inl q
  ·refine .inr ⟨o,us',q1,(q2.move fun j y hj1 hj2 hy=>?_).wide (by omega) (Nat.le_refl _)⟩
   rw [List.getElem?_set_ne (by omega)];exact hy
 ·rcases hp with q | ⟨o,zs,q1,q2,q3,q4,q5⟩
  ·exact .inl q
  ·exact .inr ⟨o,zs,q1,q2,by simpa using q3,by rw [List.getElem?_set_ne (by omega)];exact q4,q5⟩
 ·exact pre_set (pA.trans (pBC.trans pD)) (by omega) _
structure BdO (nx:List Int->List (List Int)) (st:List (List Int × Int)) (k:Nat):Prop where
 mono:∀ i j,i<=j->j<st.length->(st.getD i ([],0)).2<=(st.getD j ([],0)).2
 near:∀ j,k<st.length->j<st.length->(st.getD j ([],0)).2<=(st.getD k ([],0)).2+1
 ed:∀ j,j<k->∀ c ∈ nx (st.getD j ([],0)).1,∃ e ∈ st,e.1=c/\e.2<=(st.getD j ([],0)).2+1
theorem BdO.step {nx:List Int->List (List Int)}{st:List (List Int × Int)}{k:Nat}(h:BdO nx st k)(hk:k<st.length):BdO nx (bdIn ((st.getD k ([],0)).2+1) (nx (st.getD k ([],0)).1) st) (k+1):=by
 generalize hu:st.getD k ([],0)=u at *
 obtain ⟨t,ht⟩:=bdIn_pre (u.2+1) (nx u.1) st
 have hle:st.length<=(bdIn (u.2+1) (nx u.1) st).length:=by rw [<- ht];simp
 have keep:∀ j,j<st.length->(bdIn (u.2+1) (nx u.1) st).getD j ([],0)=st.getD j ([],0):=by
  intro j hj
  rw [<- ht,List.getD_eq_getElem?_getD,List.getElem?_append_left hj,<- List.getD_eq_getElem?_getD]
 have gm:∀ {l:List (List Int × Int)} {j:Nat},j<l.length->l.getD j ([],0) ∈ l:=fun {l j} hj=>by simp [hj]
 have new:∀ j,st.length<=j->j<(bdIn (u.2+1) (nx u.1) st).length->((bdIn (u.2+1) (nx u.1) st).getD j ([],0)).2=u.2+1:=by
  intro j h1 h2
  have e1:(bdIn (u.2+1) (nx u.1) st).getD j ([],0)=t.getD (j - st.length) ([],0):=by
   rw [<- ht,List.getD_eq_getElem?_getD,List.getElem?_append_right h1,<- List.getD_eq_getElem?_getD]
  have hjt:j - st.length<t.length:=by
   have:=congrArg List.length ht
   rw [List.length_append] at this
   omega
  have hmt:=gm (l:=t) hjt
  rw [<- e1] at hmt
  have key:∀ (l:List (List Int)) (s t:List (List Int × Int)),s ++ t=bdIn (u.2+1) l s->∀ e ∈ t,e.2=u.2+1:=by
   intro l
   induction l with
   | nil =>
    intro s t h e he
    have:t=[]:=by simpa [bdIn] using h
    rw [this] at he;simp at he
   | cons b r ih =>
    intro s t h e he
    simp only [bdIn] at h
    split at h
    ·exact ih s t h e he
    ·obtain ⟨q,hq⟩:=bdIn_pre (u.2+1) r (s ++ [(b,u.2+1)])
     rw [<- hq,List.append_assoc] at h
     have h':=List.append_cancel_left h
     rw [h'] at he
     rcases List.mem_append.1 he with g | g
     ·rw [List.mem_singleton] at g;rw [g]
     ·exact ih (s ++ [(b,u.2+1)]) q hq e g
  exact key _ st t ht _ hmt
 have nr:∀ j,j<st.length->(st.getD j ([],0)).2<=u.2+1:=fun j hj=>by have:=h.near j hk hj;rw [hu] at this;exact this
 have mono':∀ i j,i<=j->j<(bdIn (u.2+1) (nx u.1) st).length->((bdIn (u.2+1) (nx u.1) st).getD i ([],0)).2<=((bdIn (u.2+1) (nx u.1) st).getD j ([],0)).2:=by
  intro i j hij hj
  by_cases g1:j<st.length
  ·rw [keep i (by omega),keep j g1];exact h.mono i j hij g1
  ·rw [new j (by omega) hj]
   by_cases g2:i<st.length
   ·rw [keep i g2];exact nr i g2
   ·rw [new i (by omega) (by omega)];omega
 refine ⟨mono',fun j hk1 hj=>?_,fun j hj c hc=>?_⟩
 ·have h1:=mono' k (k+1) (by omega) hk1
  rw [keep k hk,hu] at h1
  by_cases g1:j<st.length
  ·rw [keep j g1];have:=nr j g1;omega
  ·rw [new j (by omega) hj];omega
 ·rw [keep j (by omega)] at hc ⊢
  by_cases e:j=k
  ·subst e
   rw [hu] at hc ⊢
   obtain ⟨x,hx,hx2⟩:=List.mem_map.1 (bdIn_get (u.2+1) (nx u.1) st c hc)
   refine ⟨x,hx,hx2,?_⟩
   obtain ⟨i,hi,e1⟩:=List.mem_iff_getElem.1 hx
   have e2:(bdIn (u.2+1) (nx u.1) st).getD i ([],0)=x:=by simp [hi,e1]
   rw [<- e2]
   by_cases g1:i<st.length
   ·rw [keep i g1];exact nr i g1
   ·rw [new i (by omega) hi];omega
  ·obtain ⟨x,hx,hx2,hx3⟩:=h.ed j (by omega) c hc
   exact ⟨x,by rw [<- ht];exact List.mem_append_left _ hx,hx2,hx3⟩
theorem BdO.zero (nx:List Int->List (List Int))(p:List Int):BdO nx [(p,0)] 0:=by
 refine ⟨fun i j hij hj=>?_,fun j _ hj=>?_,fun j hj=>absurd hj (Nat.not_lt_zero j)⟩
 ·have hj':j<1:=hj
  have e1:i=0:=by omega
  have e2:j=0:=by omega
  rw [e1,e2];exact Int.le_refl _
 ·have hj':j<1:=hj
  have e2:j=0:=by omega
  rw [e2];omega
inductive Wlk (es:List (Int × Int)) (sl:Bool):Nat->List Int->List Int->Prop
 | nil (b:List Int):Wlk es sl 0 b b
 | cons {k:Nat} {b c d:List Int} (h:Wlk es sl k b c) (hd:d ∈ nxt es sl c):Wlk es sl (k+1) b d
theorem Wlk.front {es:List (Int × Int)}{sl:Bool}{k:Nat}{b c d:List Int}(hc:c ∈ nxt es sl b)(h:Wlk es sl k c d):Wlk es sl (k+1) b d:=by
 induction h with
 | nil=>exact .cons (.nil b) hc
 | cons h1 h2 ih=>exact .cons (ih hc) h2
theorem Wlk.bd {n:Nat}{es:List (Int × Int)}(hg:Grd (n:Int) es){sl:Bool}{k:Nat}{b c:List Int}(hb:Bd n b)(h:Wlk es sl k b c):Bd n c:=by
 induction h with
 | nil=>exact hb
 | cons h1 h2 ih=>exact nxt_bd hg sl (ih hb) _ h2
theorem Wlk.back {n:Nat}{es:List (Int × Int)}(hg:Grd (n:Int) es){sl:Bool}{k:Nat}{b c:List Int}(hb:Bd n b)(h:Wlk es sl k b c):Wlk es sl k c b:=by
 induction h with
 | nil=>exact .nil _
 | cons h1 h2 ih=>exact .front (nxt_back hg sl (h1.bd hg hb) h2) (ih hb)
def Ph (p s0:List Int)(x:Nat)(c:List Int)(y:Int):Prop:=(c=[]/\y=x)∨(Way p (x:Int) c y/\(x:Int) ∉ s0/\∀ z ∈ c,z ∉ s0)
theorem Ph.len {p s0:List Int}{x:Nat}{c:List Int}{y:Int}(h:Ph p s0 x c y):c.length<=p.length:=by
 rcases h with ⟨rfl,_⟩ | ⟨h,_,_⟩
 ·simp
 ·exact h.len.2
theorem Ph.next {p s0:List Int}{x:Nat}{c:List Int}{y:Int}(hp:Prm p)(hx:x<p.length)(h:Ph p s0 x c y)(hy:y ∉ s0 ++ c):Ph p s0 x (c ++ [y]) (p.getD y.toNat 0):=by
 rw [List.mem_append,not_or] at hy
 rcases h with ⟨rfl,rfl⟩ | ⟨h,h1,h2⟩
 ·right
  refine ⟨by have:=Way.first hp hx;simpa using this,hy.1,fun z hz=>?_⟩
  simp at hz;rw [hz];exact hy.1
 ·right
  have hne:y ≠ x:=fun e=>hy.2 (by
   have hl:=h.len
   have:=getD_mem (show 0<c.length by omega)
   rw [h.head] at this
   rw [e];exact this)
  refine ⟨h.next hp hne,h1,fun z hz=>?_⟩
  rcases List.mem_append.1 hz with g | g
  ·exact h2 z g
  ·simp at g;rw [g];exact hy.1
theorem Ph.done {p s0:List Int}{x:Nat}{c:List Int}{y:Int}(hp:Prm p)(h:Ph p s0 x c y)(hs:Shut p s0)(hy:y ∈ s0 ++ c) :
  (c=[]/\(x:Int) ∈ s0)∨(c ≠ []/\(x:Int) ∉ s0/\c=cycC p x/\Shut p (s0 ++ c)):=by
 rcases h with ⟨rfl,rfl⟩ | ⟨h,h1,h2⟩
 ·rw [List.append_nil] at hy;exact .inl ⟨rfl,hy⟩
 ·have ho:=h.out hs h2
  have hc:y ∈ c:=(List.mem_append.1 hy).resolve_left ho
  have e:=h.back hp hc
  subst e
  exact .inr ⟨h.ne,h1,h.done,h.shut hp hs⟩
theorem InL.tup {lo hi:Nat}{e2 e:TypeId}{H:AH}{v:Value}{ls:List (List Int)}(h:InL lo hi e2 e H v ls):isTup v=false:=by
 rcases h with ⟨h,_⟩ | ⟨o,us,h,_⟩ <;> rw [h] <;> rfl
theorem roads_sym (n:Nat)(es:List (Int × Int)):Sym (roadsL n es):=by
 intro u v hu hv h
 rw [roadsL_len] at hu hv
 rw [roadsL_at n es u hu,nbsU_mem] at h
 rw [roadsL_at n es v hv,nbsU_mem]
 exact ⟨⟨by omega,by omega⟩,by rw [nearB_comm];exact h.2⟩
theorem wT_in {far:List Int}{rec:Int->List Int->List (List Int)}{d:Int}{b:List Int}{w:List Int}{y:Int}:∀ {l},y ∈ l->far.getD y.toNat 0=d->w ∈ rec y (b ++ [y])->w ∈ wT far rec d b l
 | [],h,_,_=>by simp at h
 | z :: r,h,h1,h2=>by
  simp only [wT,List.mem_append]
  rcases List.mem_cons.1 h with rfl | h
  ·left;rw [if_pos h1];exact h2
  ·exact .inr (wT_in h h1 h2)
theorem wA_at {N:Nat}{L:List (List Int)}{far a:List Int}(hL:LOk N L)(ha:∀ u y:Nat,u<N->(y:Int) ∈ L.getD u []->0<=a.getD u 0->0<=a.getD y 0/\a.getD y 0<=a.getD u 0+1) :
  ∀ (d x:Nat) (b:List Int),0<b.length->b.getD (b.length - 1) 0=(x:Int)->x<N->far.getD x 0=(d:Int)->0<=a.getD x 0->∀ w ∈ wA L far d (x:Int) b,∀ i,i<=d ->
   ∃ u:Nat,u<N/\w.getD (b.length - 1+i) 0=(u:Int)/\far.getD u 0=(d:Int) - i/\0<=a.getD u 0/\a.getD u 0<=a.getD x 0+i
 | 0,x,b,hb,hl,hx,hd,h0,w,h,i,hi=>by
  simp only [wA,List.mem_singleton] at h
  subst h
  have:i=0:=by omega
  subst this
  exact ⟨x,hx,by simpa using hl,by omega,h0,by omega⟩
 | d+1,x,b,hb,hl,hx,hd,h0,w,h,i,hi=>by
  obtain ⟨y,h1,h2,h3⟩:=wT_mem (show w ∈ wT far (wA L far d) (d:Int) b (L.getD (x:Int).toNat []) from h)
  rw [Int.toNat_natCast] at h1
  have hy:=hL _ y h1
  obtain ⟨k,rfl⟩:∃ k:Nat,y=k:=⟨y.toNat,by omega⟩
  rw [Int.toNat_natCast] at h2
  have hk:=ha x k hx h1 h0
  cases i with
  | zero =>
   obtain ⟨r,r1,_,_⟩:=wA_pre L far d k _ w h3
   refine ⟨x,hx,?_,by omega,h0,by omega⟩
   rw [r1,List.append_assoc,Nat.add_zero,List.getD_eq_getElem?_getD,List.getElem?_append_left (by omega),<- List.getD_eq_getElem?_getD]
   exact hl
  | succ i =>
   have:=wA_at hL ha d k (b ++ [(k:Int)]) (by simp) (by simp) (by omega) h2 hk.1 w h3 i (by omega)
   obtain ⟨u,u1,u2,u3,u4,u5⟩:=this
   refine ⟨u,u1,?_,by omega,u4,by omega⟩
   rw [<- u2]
   congr 1
   simp only [List.length_append,List.length_singleton]
   omega
theorem wA_on {N t:Nat}{L:List (List Int)}(hl:L.length=N)(hL:LOk N L)(hs:Sym L)(ht:t<N):∀ (d x:Nat) (b:List Int),x<N->(bfs L t).getD x 0=(d:Int)->∃ w,w ∈ wA L (bfs L t) d (x:Int) b
 | 0,x,b,_,_=>⟨b,by simp [wA]⟩
 | d+1,x,b,hx,hd=>by
  have hL':LOk L.length L:=by rw [hl];exact hL
  obtain ⟨q,hDI⟩:=bfs_DI hL' (i:=t) (by omega)
  rcases hDI.src x (by omega) (show 0<=(bfs L t).getD x 0 by omega) with ⟨_,e⟩ | ⟨u,u1,u2,u3,u4⟩
  ·have e':(bfs L t).getD x 0=0:=e
   omega
  ·have u4':(bfs L t).getD x 0=(bfs L t).getD u 0+1:=u4
   obtain ⟨w,hw⟩:=wA_on hl hL hs ht d u (b ++ [(u:Int)]) (by omega) (by omega)
   refine ⟨w,?_⟩
   show w ∈ wT (bfs L t) (wA L (bfs L t) d) (d:Int) b (L.getD (x:Int).toNat [])
   refine wT_in (y:=(u:Int)) ?_ (by rw [Int.toNat_natCast];omega) hw
   rw [Int.toNat_natCast]
   exact hs u x u1 (by omega) u3
theorem wA_to {N s t D:Nat}{L:List (List Int)}(hl:L.length=N)(hL:LOk N L)(hs:Sym L)(hsN:s<N)(ht:t<N)(hD:(bfs L t).getD s 0=(D:Int)) :
  ∀ (i x:Nat),x<N->(bfs L s).getD x 0=(i:Int)->(bfs L t).getD x 0=(D:Int) - i->i<=D->∃ p:List Int,p.length=i+1/\p.getD i 0=(x:Int)/\∀ w ∈ wA L (bfs L t) (D - i) (x:Int) p,w ∈ wA L (bfs L t) D (s:Int) [(s:Int)]
 | 0,x,hx,ha,hb,hi=>by
  have hL':LOk L.length L:=by rw [hl];exact hL
  obtain ⟨q,hDI⟩:=bfs_DI hL' (i:=s) (by omega)
  have e:x=s:=by
   rcases hDI.src x (by omega) (show 0<=(bfs L s).getD x 0 by omega) with ⟨e,_⟩ | ⟨u,u1,u2,u3,u4⟩
   ·exact e
   ·have u2':0<=(bfs L s).getD u 0:=u2
    have u4':(bfs L s).getD x 0=(bfs L s).getD u 0+1:=u4
    omega
  subst e
  exact ⟨[(x:Int)],rfl,rfl,fun w hw=>hw⟩
 | i+1,x,hx,ha,hb,hi=>by
  have hL':LOk L.length L:=by rw [hl];exact hL
  obtain ⟨q,hDI⟩:=bfs_DI hL' (i:=s) (by omega)
  rcases hDI.src x (by omega) (show 0<=(bfs L s).getD x 0 by omega) with ⟨_,e⟩ | ⟨u,u1,u2,u3,u4⟩
  ·have e':(bfs L s).getD x 0=0:=e
   omega
  ·have u2':0<=(bfs L s).getD u 0:=u2
   have u4':(bfs L s).getD x 0=(bfs L s).getD u 0+1:=u4
   have hux:(u:Int) ∈ L.getD x []:=hs u x u1 (by omega) u3
   have e1:=bfs_edge hL' (i:=t) (by omega) (u:=x) (by omega) (by omega) hux
   rw [Int.toNat_natCast] at e1
   have e2:=bfs_back hL' hs (i:=s) (w:=t) (by omega) (by omega) i u (by omega) (by omega) ((bfs L t).getD u 0).toNat (by omega)
   have hbu:(bfs L t).getD u 0=(D:Int) - i:=by omega
   obtain ⟨p,p1,p2,p3⟩:=wA_to hl hL hs hsN ht hD i u (by omega) (by omega) hbu (by omega)
   refine ⟨p ++ [(x:Int)],by simp [p1],?_,fun w hw=>p3 w ?_⟩
   ·rw [List.getD_eq_getElem?_getD,List.getElem?_append_right (by omega),p1];simp
   ·have e3:D - i=(D - (i+1))+1:=by omega
    rw [e3]
    show w ∈ wT (bfs L t) (wA L (bfs L t) (D - (i+1))) ((D - (i+1):Nat):Int) p (L.getD (u:Int).toNat [])
    refine wT_in (y:=(x:Int)) (by rw [Int.toNat_natCast];exact u3) (by rw [Int.toNat_natCast];omega) hw
def layD (n:Int)(es:List (Int × Int))(s t:Int)(d:Nat):List Int :=
 ((List.range n.toNat).filter fun x:Nat=>decide ((farG n es s).getD x 0=(d:Int)/\(farG n es t).getD x 0=(farG n es s).getD t.toNat 0 - d)).map fun x:Nat=>(x:Int)
def layL (n:Int)(es:List (Int × Int))(s t:Int):List (List Int) :=
 if WsOk n es s t then (List.range ((farG n es s).getD t.toNat 0+1).toNat).map (layD n es s t) else []
theorem farG_sym {n:Int}{es:List (Int × Int)}{s t:Int}(h:WsOk n es s t):(farG n es s).getD t.toNat 0=(farG n es t).getD s.toNat 0:=by
 have hl:=roadsL_len n.toNat es
 have hL:=roadsL_ok n.toNat es
 have hS:=roads_sym n.toNat es
 have h1:=farG_ok h
 have h2:=farG_ok (show WsOk n es t s from ⟨h.1,h.2.2,h.2.1⟩)
 have l1:=h1.lo s.toNat (by omega)
 have l2:=h2.lo t.toNat (by omega)
 unfold farG at *
 by_cases g:0<=(bfs (roadsL n.toNat es) s.toNat).getD t.toNat 0
 ·exact (bfs_sym hL hS (i:=s.toNat) (j:=t.toNat) (by omega) (by omega) g).symm
 ·by_cases g2:0<=(bfs (roadsL n.toNat es) t.toNat).getD s.toNat 0
  ·exact bfs_sym hL hS (i:=t.toNat) (j:=s.toNat) (by omega) (by omega) g2
  ·omega
theorem lay_ways {n:Int}{es:List (Int × Int)}{s t:Int}(h:WsOk n es s t) :
  (∀ w ∈ wsL n es s t,w.length=(layL n es s t).length)/\(wsL n es s t=[]->layL n es s t=[]) /\
  ∀ d,d<(layL n es s t).length->(layL n es s t).getD d []=layD n es s t d/\∀ x:Int,x ∈ layD n es s t d↔∃ w ∈ wsL n es s t,w.getD d 0=x:=by
 have hl:=roadsL_len n.toNat es
 have hL:=roadsL_ok n.toNat es
 have hS:=roads_sym n.toNat es
 have hsy:=farG_sym h
 have h1:=farG_ok h
 have l1:=h1.lo s.toNat (by omega)
 have hlen:(layL n es s t).length=((farG n es s).getD t.toNat 0+1).toNat:=by
  unfold layL;rw [if_pos h,List.length_map,List.length_range]
 have hat:∀ d,d<(layL n es s t).length->(layL n es s t).getD d []=layD n es s t d:=by
  intro d hd
  rw [hlen] at hd
  unfold layL;rw [if_pos h,List.getD_eq_getElem?_getD,List.getElem?_map,List.getElem?_range hd];rfl
 by_cases g:0<=(farG n es t).getD s.toNat 0
 rotate_left
 ·have hw:wsL n es s t=[]:=by unfold wsL;rw [if_neg fun q=>g q.2]
  have hz:layL n es s t=[]:=List.eq_nil_of_length_eq_zero (by rw [hlen];omega)
  rw [hw,hz]
  exact ⟨by simp,fun _=>rfl,fun d hd=>by simp at hd⟩
 obtain ⟨D,hD⟩:∃ D:Nat,(farG n es t).getD s.toNat 0=D:=⟨((farG n es t).getD s.toNat 0).toNat,by omega⟩
 have hw:wsL n es s t=wA (roadsL n.toNat es) (farG n es t) D s [s]:=by unfold wsL;rw [if_pos ⟨h,g⟩,hD,Int.toNat_natCast]
 have hlen':(layL n es s t).length=D+1:=by rw [hlen,hsy,hD];omega
 have hs0:=h.2.1
 have ht0:=h.2.2
 obtain ⟨sN,rfl⟩:∃ k:Nat,s=k:=⟨s.toNat,by omega⟩
 obtain ⟨tN,rfl⟩:∃ k:Nat,t=k:=⟨t.toNat,by omega⟩
 have layD_mem:∀ d (x:Int),x ∈ layD n es sN tN d↔∃ u:Nat,u<n.toNat/\(u:Int)=x/\(farG n es sN).getD u 0=(d:Int)/\(farG n es tN).getD u 0=(D:Int) - d:=by
  intro d x
  unfold layD
  rw [List.mem_map]
  rw [hsy,hD]
  constructor
  ·rintro ⟨u,hu,rfl⟩
   rw [List.mem_filter,List.mem_range,decide_eq_true_eq] at hu
   exact ⟨u,hu.1,rfl,hu.2⟩
  ·rintro ⟨u,u1,rfl,u2,u3⟩
   exact ⟨u,by rw [List.mem_filter,List.mem_range,decide_eq_true_eq];exact ⟨u1,u2,u3⟩,rfl⟩
 simp only [Int.toNat_natCast] at *
 have hL':LOk n.toNat (roadsL n.toNat es):=by rw [hl] at hL;exact hL
 have hsN:sN<n.toNat:=by omega
 have htN:tN<n.toNat:=by omega
 have hz:(farG n es sN).getD sN 0=0:=by
  have:=bfs_zero hL (i:=sN) (by omega)
  unfold farG;rw [Int.toNat_natCast];exact this
 have hA:∀ u y:Nat,u<n.toNat->(y:Int) ∈ (roadsL n.toNat es).getD u []->0<=(farG n es sN).getD u 0->0<=(farG n es sN).getD y 0/\(farG n es sN).getD y 0<=(farG n es sN).getD u 0+1:=by
  intro u y hu hy h0
  unfold farG at *
  rw [Int.toNat_natCast] at *
  have:=bfs_edge hL (i:=sN) (by omega) (u:=u) (by omega) h0 hy
  rw [Int.toNat_natCast] at this
  exact this
 have fin:∀ w ∈ wsL n es sN tN,∀ i,i<=D->∃ u:Nat,u<n.toNat/\w.getD i 0=(u:Int)/\(farG n es sN).getD u 0=(i:Int)/\(farG n es tN).getD u 0=(D:Int) - i:=by
  intro w hwm i hi
  rw [hw] at hwm
  obtain ⟨u,u1,u2,u3,u4,u5⟩:=wA_at hL' hA D sN [(sN:Int)] (by simp) rfl hsN hD (by omega) w hwm i hi
  refine ⟨u,u1,by simpa using u2,?_,u3⟩
  rw [hz] at u5
  have e2:=bfs_back hL hS (i:=sN) (w:=tN) (by omega) (by omega) ((farG n es sN).getD u 0).toNat u (by omega) (by
   show _=_
   have:(bfs (roadsL n.toNat es) sN).getD u 0=(farG n es sN).getD u 0:=by unfold farG;rw [Int.toNat_natCast]
   omega) ((farG n es tN).getD u 0).toNat (by
   have:(bfs (roadsL n.toNat es) tN).getD u 0=(farG n es tN).getD u 0:=by unfold farG;rw [Int.toNat_natCast]
   omega)
  have e3:(bfs (roadsL n.toNat es) tN).getD sN 0=(D:Int):=by rw [<- hD];unfold farG;rw [Int.toNat_natCast]
  omega
 refine ⟨fun w hwm=>?_,fun e=>?_,fun d hd=>⟨hat d hd,fun x=>?_⟩⟩
 ·rw [hw] at hwm
  obtain ⟨r,r1,r2,_⟩:=wA_pre _ _ _ _ _ w hwm
  rw [hlen',r1];simp;omega
 ·exfalso
  obtain ⟨w,hwm⟩:=wA_on hl hL' hS htN D sN [(sN:Int)] hsN (by rw [<- hD];unfold farG;rw [Int.toNat_natCast])
  have:farG n es tN=bfs (roadsL n.toNat es) tN:=by unfold farG;rw [Int.toNat_natCast]
  rw [hw,this] at e
  rw [e] at hwm
  simp at hwm
 ·rw [layD_mem]
  constructor
  ·rintro ⟨u,u1,rfl,u2,u3⟩
   have e1:(bfs (roadsL n.toNat es) sN).getD u 0=(d:Int):=by rw [<- u2];unfold farG;rw [Int.toNat_natCast]
   have e2:(bfs (roadsL n.toNat es) tN).getD u 0=(D:Int) - d:=by rw [<- u3];unfold farG;rw [Int.toNat_natCast]
   have e3:(bfs (roadsL n.toNat es) tN).getD sN 0=(D:Int):=by rw [<- hD];unfold farG;rw [Int.toNat_natCast]
   obtain ⟨p,p1,p2,p3⟩:=wA_to hl hL' hS hsN htN e3 d u u1 e1 e2 (by omega)
   obtain ⟨w,hwm⟩:=wA_on hl hL' hS htN (D - d) u p u1 (by omega)
   have hwm2:=p3 w hwm
   obtain ⟨r,r1,_,_⟩:=wA_pre _ _ _ _ _ w hwm
   refine ⟨w,?_,?_⟩
   ·rw [hw]
    have:farG n es tN=bfs (roadsL n.toNat es) tN:=by unfold farG;rw [Int.toNat_natCast]
    rw [this];exact hwm2
   ·rw [r1,List.getD_eq_getElem?_getD,List.getElem?_append_left (by omega),<- List.getD_eq_getElem?_getD]
    exact p2
  ·rintro ⟨w,hwm,rfl⟩
   obtain ⟨u,u1,u2,u3,u4⟩:=fin w hwm d (by omega)
   exact ⟨u,u1,u2.symm,u3,u4⟩
theorem cmpI_swap (a b:Int):cmpI b a = - cmpI a b:=by unfold cmpI;split <;> split <;> (try split) <;> omega
theorem cmpI_lt {a b:Int}:cmpI a b<0↔a<b:=by unfold cmpI;split <;> (try split) <;> omega
theorem cmpI_eq {a b:Int}:cmpI a b=0↔a=b:=by unfold cmpI;split <;> (try split) <;> omega
theorem cmpL_swap:∀ a b:List Int,cmpL b a = - cmpL a b
 | [],[]=>rfl
 | [],_ :: _=>rfl
 | _ :: _,[]=>rfl
 | x :: a,y :: b=>by
  rw [cmpL,cmpL,cmpI_swap x y]
  by_cases h:cmpI x y=0
  ·rw [if_neg (by omega),if_neg (by omega)];exact cmpL_swap a b
  ·rw [if_pos (by omega),if_pos h]
theorem cmpL_zero:∀ {a b:List Int},cmpL a b=0->a=b
 | [],[],_=>rfl
 | [],_ :: _,h=>by simp [cmpL] at h
 | _ :: _,[],h=>by simp [cmpL] at h
 | x :: a,y :: b,h=>by
  rw [cmpL] at h
  by_cases e:cmpI x y=0
  ·rw [if_neg (by omega)] at h
   rw [cmpI_eq.1 e,cmpL_zero h]
  ·rw [if_pos e] at h;exact absurd h e
theorem cmpL_trans:∀ {a b c:List Int},cmpL a b<0->cmpL b c<0->cmpL a c<0
 | [],[],_,h,_=>by simp [cmpL] at h
 | [],_ :: _,[],_,h=>by simp [cmpL] at h
 | [],_ :: _,_ :: _,_,_=>by simp [cmpL]
 | _ :: _,[],_,h,_=>by simp [cmpL] at h
 | _ :: _,_ :: _,[],_,h=>by simp [cmpL] at h
 | x :: a,y :: b,z :: c,h1,h2=>by
  rw [cmpL] at h1 h2 ⊢
  have e1:=cmpI_lt (a:=x) (b:=y)
  have e2:=cmpI_lt (a:=y) (b:=z)
  have e3:=cmpI_lt (a:=x) (b:=z)
  have f1:=cmpI_eq (a:=x) (b:=y)
  have f2:=cmpI_eq (a:=y) (b:=z)
  have f3:=cmpI_eq (a:=x) (b:=z)
  by_cases q1:cmpI x y=0 <;> by_cases q2:cmpI y z=0
  ·rw [if_neg (by omega)] at h1 h2
   rw [if_neg (by omega)]
   exact cmpL_trans h1 h2
  ·rw [if_pos q2] at h2
   rw [if_pos (by omega)];omega
  ·rw [if_pos q1] at h1
   rw [if_pos (by omega)];omega
  ·rw [if_pos q1] at h1
   rw [if_pos q2] at h2
   rw [if_pos (by omega)];omega
theorem srt_lt {ls:List (List Int)}(h:SrtL ls){i j:Nat}(hij:i<j)(hj:j<ls.length):cmpL (ls.getD i []) (ls.getD j [])<0:=by
 have:=h i j hij hj
 rw [cmpL_swap];omega
theorem srt_uniq {ls:List (List Int)}(h:SrtL ls){i j:Nat}(hi:i<ls.length)(hj:j<ls.length)(e:ls.getD i []=ls.getD j []):i=j:=by
 rcases Nat.lt_trichotomy i j with q | q | q
 ·have:=srt_lt h q hj;rw [e,cmpL_self] at this;omega
 ·exact q
 ·have:=srt_lt h q hi;rw [e,cmpL_self] at this;omega
theorem srt_dn {ls:List (List Int)}(h:SrtL ls){t:List Int}{i j:Nat}(hij:i<=j)(hj:j<ls.length)(hc:cmpL (ls.getD j []) t<0):cmpL (ls.getD i []) t<0:=by
 by_cases e:i=j
 ·subst e;exact hc
 ·exact cmpL_trans (srt_lt h (by omega) hj) hc
theorem mem_at {ls:List (List Int)}{t:List Int}(h:t ∈ ls):∃ i,i<ls.length/\ls.getD i []=t:=by
 obtain ⟨i,hi,e⟩:=List.mem_iff_getElem.1 h
 exact ⟨i,hi,by simp [hi,e]⟩
def nxS (L:List (List Int))(far:List Int)(i:Int):Int:=((L.getD i.toNat []).find? fun k=>decide (far.getD k.toNat 0=far.getD i.toNat 0 - 1)).getD i
def wyS (L:List (List Int))(far:List Int)(j:Int):Nat->Int->List Int
 | 0,i=>[i]
 | f+1,i=>if i=j then [i] else i :: wyS L far j f (nxS L far i)
theorem wyS_head (L:List (List Int))(far:List Int)(j:Int)(f:Nat)(i:Int):wyS L far j f i=i :: (wyS L far j f i).tail:=by
 cases f with
 | zero=>rfl
 | succ f=>simp only [wyS];split <;> rfl
theorem wyS_end (L:List (List Int))(far:List Int)(j:Int)(f:Nat):wyS L far j f j=[j]:=by
 cases f with
 | zero=>rfl
 | succ f=>rw [wyS,if_pos rfl]
section
variable {L:List (List Int)} (hL:LOk L.length L) (hs:Sym L) {j:Nat} (hj:j<L.length)
include hL hs hj
theorem nx_ok {d:Nat}{i:Nat}(hi:i<L.length)(hd:(bfs L j).getD i 0=((d+1:Nat):Int)):nxS L (bfs L j) (i:Int) ∈ L.getD i []/\(bfs L j).getD (nxS L (bfs L j) (i:Int)).toNat 0=(d:Int)/\((L.getD i []).find? fun k=>decide ((bfs L j).getD k.toNat 0=(bfs L j).getD i 0 - 1))=some (nxS L (bfs L j) (i:Int)):=by
 obtain ⟨q,h⟩:=bfs_DI hL hj
 have hex:∃ k ∈ L.getD i [],(bfs L j).getD k.toNat 0=(bfs L j).getD i 0 - 1:=by
  rcases h.src i hi (show 0<=(bfs L j).getD i 0 by omega) with ⟨_,e1⟩ | ⟨u,u1,u2,u3,u4⟩
  ·have e1':(bfs L j).getD i 0=0:=e1
   omega
  ·have u4':(bfs L j).getD i 0=(bfs L j).getD u 0+1:=u4
   exact ⟨(u:Int),hs u i u1 hi u3,by rw [Int.toNat_natCast];omega⟩
 unfold nxS
 rw [Int.toNat_natCast]
 cases hf:(L.getD i []).find? fun k=>decide ((bfs L j).getD k.toNat 0=(bfs L j).getD i 0 - 1) with
 | none =>
  obtain ⟨k,k1,k2⟩:=hex
  have:=List.find?_eq_none.1 hf k k1
  simp only [decide_eq_true_eq] at this
  exact absurd k2 this
 | some k =>
  have h1:=List.mem_of_find?_eq_some hf
  have h2:=List.find?_some hf
  simp only [decide_eq_true_eq] at h2
  exact ⟨h1,by show (bfs L j).getD k.toNat 0=d;omega,rfl⟩
theorem far_pos {i:Nat}(hi:i<L.length)(h0:0<=(bfs L j).getD i 0)(hne:i ≠ j):1<=(bfs L j).getD i 0:=by
 have _:=hs
 obtain ⟨q,h⟩:=bfs_DI hL hj
 rcases h.src i hi h0 with ⟨e1,_⟩ | ⟨u,u1,u2,u3,u4⟩
 ·exact absurd e1 hne
 ·have u2':0<=(bfs L j).getD u 0:=u2
  have u4':(bfs L j).getD i 0=(bfs L j).getD u 0+1:=u4
  omega
theorem wy_len:∀ (d i:Nat),i<L.length->(bfs L j).getD i 0=(d:Int)->(wyS L (bfs L j) (j:Int) d (i:Int)).length=d+1/\∀ z ∈ wyS L (bfs L j) (j:Int) d (i:Int),0<=z/\z<L.length
 | 0,i,hi,hd=>by
  refine ⟨rfl,fun z hz=>?_⟩
  simp only [wyS,List.mem_singleton] at hz
  omega
 | d+1,i,hi,hd=>by
  have hne:¬ (i:Int)=j:=fun e=>by
   have:i=j:=by omega
   subst this
   rw [bfs_zero hL hj] at hd
   omega
  obtain ⟨h1,h2,_⟩:=nx_ok hL hs hj hi hd
  have hr:=hL i _ h1
  obtain ⟨k,hk⟩:∃ k:Nat,nxS L (bfs L j) (i:Int)=k:=⟨(nxS L (bfs L j) (i:Int)).toNat,by omega⟩
  rw [hk,Int.toNat_natCast] at h2
  have ih:=wy_len d k (by omega) h2
  simp only [wyS]
  rw [if_neg hne,hk]
  refine ⟨by rw [List.length_cons,ih.1],fun z hz=>?_⟩
  rcases List.mem_cons.1 hz with rfl | hz
  ·omega
  ·exact ih.2 z hz
end
def cd224:Cd:=(.seq (.reg [⟨⟨some 8,.assign (.const (.int .i64 0)),none⟩,[]⟩,⟨⟨some 9,.assign (.const (.int .i64 0)),none⟩,[]⟩]) (.seq (.seq (.reg [⟨⟨some 10,.move (.tmp 0),none⟩,[]⟩,⟨⟨some 11,.move (.tmp 2),none⟩,[]⟩,⟨⟨some 12,.indexAddr 27 (.tmp 10) (.tmp 11),none⟩,[]⟩,⟨⟨some 13,.load 3 (.tmp 12),none⟩,[]⟩,⟨⟨some 14,.move (.tmp 0),none⟩,[]⟩,⟨⟨some 15,.move (.tmp 1),none⟩,[]⟩,⟨⟨some 16,.indexAddr 27 (.tmp 14) (.tmp 15),none⟩,[]⟩,⟨⟨some 17,.load 3 (.tmp 16),none⟩,[]⟩,⟨⟨some 18,.call ⟨(.value (.func 209)),#[.tmp 13,.tmp 17],#[3,3]⟩,none⟩,[]⟩]) (.cond (.tmp 18) (.seq (.reg [⟨⟨some 19,.move (.tmp 3),none⟩,[]⟩,⟨⟨some 20,.nilCheck (.tmp 19),none⟩,[]⟩,⟨⟨some 21,.load 3 (.tmp 20),none⟩,[]⟩,
 ⟨⟨some 22,.binOp .add 3 (.tmp 21) (.const (.int .i64 1)) 3,none⟩,[]⟩,
  ⟨⟨some 23,.nilCheck (.tmp 19),none⟩,[]⟩,
  ⟨⟨none,.store 3 (.tmp 23) (.tmp 22),none⟩,[]⟩]) (.seq (.reg [⟨⟨some 24,.move (.tmp 2),none⟩,[]⟩,
  ⟨⟨some 25,.move (.tmp 1),none⟩,[]⟩,
  ⟨⟨some 8,.assign (.tmp 24),none⟩,[]⟩,
  ⟨⟨some 9,.assign (.tmp 25),none⟩,[]⟩]) .ret)) .skip)) (.seq (.reg [⟨⟨some 26,.move (.tmp 1),none⟩,[]⟩,
  ⟨⟨some 27,.move (.tmp 2),none⟩,[]⟩,
  ⟨⟨some 8,.assign (.tmp 26),none⟩,[]⟩,
  ⟨⟨some 9,.assign (.tmp 27),none⟩,[]⟩]) .ret)))
theorem in224:InT Tryz.prog 224 4 [.tmp 8,.tmp 9] cd224:=InT.mk (by kernel_rfl) [(1,[(0,false),(1,false),(2,false),(3,false),(4,false),(5,false),(6,false),(7,false),(8,true)])] Tryz.func224 rfl (by kernel_rfl) (by kernel_rfl) (of_decide_eq_true (by kernel_rfl)) (by kernel_rfl)
def cd222:Cd:=(.seq (.reg [⟨⟨some 10,.assign (.const (.int .i64 0)),none⟩,[]⟩]) (.seq (.reg [⟨⟨some 12,.move (.tmp 0),none⟩,[]⟩,⟨⟨some 13,.move (.tmp 1),none⟩,[]⟩,⟨⟨some 14,.move (.tmp 2),none⟩,[]⟩,⟨⟨some 15,.move (.tmp 4),none⟩,[]⟩,⟨⟨some 16,.call ⟨(.value (.func 224)),#[.tmp 12,.tmp 13,.tmp 14,.tmp 15],#[27,3,3,187]⟩,none⟩,[]⟩,⟨⟨some 11,.move (.tmp 16),none⟩,[]⟩,⟨⟨some 17,.extract (.tmp 11) 0,none⟩,[]⟩,⟨⟨some 18,.extract (.tmp 11) 1,none⟩,[]⟩,⟨⟨some 1,.assign (.tmp 17),none⟩,[]⟩,⟨⟨some 2,.assign (.tmp 18),none⟩,[]⟩]) (.seq (.reg [⟨⟨some 20,.move (.tmp 0),none⟩,[]⟩,⟨⟨some 21,.move (.tmp 2),none⟩,[]⟩,⟨⟨some 22,.move (.tmp 3),none⟩,[]⟩,
 ⟨⟨some 23,.move (.tmp 4),none⟩,[]⟩,⟨⟨some 24,.call ⟨(.value (.func 224)),#[.tmp 20,.tmp 21,.tmp 22,.tmp 23],#[27,3,3,187]⟩,none⟩,[]⟩,⟨⟨some 19,.move (.tmp 24),none⟩,[]⟩,⟨⟨some 25,.extract (.tmp 19) 0,none⟩,[]⟩,⟨⟨some 26,.extract (.tmp 19) 1,none⟩,[]⟩,⟨⟨some 2,.assign (.tmp 25),none⟩,[]⟩,⟨⟨some 3,.assign (.tmp 26),none⟩,[]⟩]) (.seq (.reg [⟨⟨some 28,.move (.tmp 0),none⟩,[]⟩,⟨⟨some 29,.move (.tmp 1),none⟩,[]⟩,⟨⟨some 30,.move (.tmp 2),none⟩,[]⟩,⟨⟨some 31,.move (.tmp 4),none⟩,[]⟩,⟨⟨some 32,.call ⟨(.value (.func 224)),#[.tmp 28,.tmp 29,.tmp 30,.tmp 31],#[27,3,3,187]⟩,none⟩,[]⟩,⟨⟨some 27,.move (.tmp 32),none⟩,[]⟩,
 ⟨⟨some 33,.extract (.tmp 27) 0,none⟩,[]⟩,
  ⟨⟨some 34,.extract (.tmp 27) 1,none⟩,[]⟩,
  ⟨⟨some 1,.assign (.tmp 33),none⟩,[]⟩,
  ⟨⟨some 2,.assign (.tmp 34),none⟩,[]⟩]) (.seq (.reg [⟨⟨some 35,.move (.tmp 2),none⟩,[]⟩,
  ⟨⟨some 10,.assign (.tmp 35),none⟩,[]⟩]) .ret)))))
theorem in222:InT Tryz.prog 222 5 [.tmp 10] cd222:=InT.mk (by kernel_rfl) [] Tryz.func222 rfl (by kernel_rfl) (by kernel_rfl) (of_decide_eq_true (by kernel_rfl)) (by kernel_rfl)
def cd221:Cd:=(.seq (.reg [⟨⟨some 6,.assign (.const (.int .i64 0)),none⟩,[]⟩]) (.seq (.reg [⟨⟨some 7,.move (.tmp 0),none⟩,[]⟩,
 ⟨⟨some 8,.move (.tmp 1),none⟩,[]⟩,
 ⟨⟨some 9,.binOp .sub 3 (.tmp 8) (.const (.int .i64 1)) 3,none⟩,[]⟩,
 ⟨⟨some 10,.move (.tmp 1),none⟩,[]⟩,
 ⟨⟨some 11,.move (.tmp 1),none⟩,[]⟩,
 ⟨⟨some 12,.binOp .add 3 (.tmp 11) (.const (.int .i64 1)) 3,none⟩,[]⟩,
 ⟨⟨some 13,.move (.tmp 2),none⟩,[]⟩,
 ⟨⟨some 14,.call ⟨(.value (.func 222)),#[.tmp 7,.tmp 9,.tmp 10,.tmp 12,.tmp 13],#[27,3,3,3,187]⟩,none⟩,[]⟩,
 ⟨⟨some 6,.assign (.tmp 14),none⟩,[]⟩]) .ret))
theorem in221:InT Tryz.prog 221 3 [.tmp 6] cd221:=InT.mk (by kernel_rfl) [] Tryz.func221 rfl (by kernel_rfl) (by kernel_rfl) (of_decide_eq_true (by kernel_rfl)) (by kernel_rfl)
def cd208:Cd:=(.seq (.reg [⟨⟨some 6,.assign (.const (.bool false)),none⟩,[]⟩]) (.seq (.reg [⟨⟨some 11,.move (.tmp 1),none⟩,[]⟩,⟨⟨some 12,.binOp .add 3 (.tmp 11) (.const (.int .i64 1)) 3,none⟩,[]⟩,⟨⟨some 7,.assign (.tmp 12),none⟩,[]⟩]) (.seq (.seq (.reg [⟨⟨some 8,.assign (.const (.int .i64 0)),none⟩,[]⟩]) (.block 0 (.loop (.seq (.seq (.reg [⟨⟨some 13,.move (.tmp 8),none⟩,[]⟩,⟨⟨some 14,.binOp .lss 3 (.tmp 13) (.const (.int .i64 5)) 3,none⟩,[]⟩]) (.cond (.tmp 14) .skip (.exit 0))) (.seq (.block 1 (.seq (.block 2 (.loop (.seq (.seq (.reg [⟨⟨some 17,.move (.tmp 7),none⟩,[]⟩,⟨⟨some 18,.move (.tmp 2),none⟩,[]⟩,⟨⟨some 19,.binOp .lss 3 (.tmp 17) (.tmp 18) 3,none⟩,[]⟩,⟨⟨some 20,.move (.tmp 19),none⟩,[]⟩,⟨⟨some 21,.move (.tmp 0),some (20,true)⟩,[]⟩,⟨⟨some 22,.move (.tmp 7),some (20,true)⟩,[]⟩,⟨⟨some 23,.indexAddr 27 (.tmp 21) (.tmp 22),some (20,true)⟩,[]⟩,⟨⟨some 24,.load 3 (.tmp 23),some (20,true)⟩,[]⟩,⟨⟨some 25,.move (.tmp 0),some (20,true)⟩,[]⟩,
 ⟨⟨some 26,.move (.tmp 7),some (20,true)⟩,[]⟩,⟨⟨some 27,.binOp .sub 3 (.tmp 26) (.const (.int .i64 1)) 3,some (20,true)⟩,[]⟩,⟨⟨some 28,.indexAddr 27 (.tmp 25) (.tmp 27),some (20,true)⟩,[]⟩,⟨⟨some 29,.load 3 (.tmp 28),some (20,true)⟩,[]⟩,⟨⟨some 30,.call ⟨(.value (.func 209)),#[.tmp 24,.tmp 29],#[3,3]⟩,some (20,true)⟩,[]⟩,⟨⟨some 31,.unOp .not 4 (.tmp 30),some (20,true)⟩,[]⟩,⟨⟨some 32,.pick (.tmp 20) (.tmp 31) (.const (.bool false)),none⟩,[]⟩]) (.cond (.tmp 32) .skip (.exit 2))) (.block 3 (.reg [⟨⟨some 33,.move (.tmp 7),none⟩,[]⟩,⟨⟨some 34,.binOp .add 3 (.tmp 33) (.const (.int .i64 1)) 3,none⟩,[]⟩,⟨⟨some 7,.assign (.tmp 34),none⟩,[]⟩]))))) (.seq (.seq (.reg [⟨⟨some 35,.move (.tmp 7),none⟩,[]⟩,⟨⟨some 36,.move (.tmp 2),none⟩,[]⟩,⟨⟨some 37,.binOp .eql 3 (.tmp 35) (.tmp 36) 3,none⟩,[]⟩]) (.cond (.tmp 37) (.seq (.reg [⟨⟨some 6,.assign (.const (.bool true)),none⟩,[]⟩]) .ret) .skip)) (.seq (.seq (.reg [⟨⟨some 38,.move (.tmp 2),none⟩,[]⟩,⟨⟨some 39,.move (.tmp 1),none⟩,[]⟩,
 ⟨⟨some 40,.binOp .sub 3 (.tmp 38) (.tmp 39) 3,none⟩,[]⟩,⟨⟨some 41,.binOp .lss 3 (.tmp 40) (.const (.int .i64 50)) 3,none⟩,[]⟩]) (.cond (.tmp 41) (.seq (.reg [⟨⟨some 6,.assign (.const (.bool false)),none⟩,[]⟩]) .ret) .skip)) (.seq (.reg [⟨⟨some 42,.move (.tmp 0),none⟩,[]⟩,⟨⟨some 43,.move (.tmp 7),none⟩,[]⟩,⟨⟨some 44,.move (.tmp 0),none⟩,[]⟩,⟨⟨some 45,.move (.tmp 7),none⟩,[]⟩,⟨⟨some 46,.binOp .sub 3 (.tmp 45) (.const (.int .i64 1)) 3,none⟩,[]⟩,⟨⟨some 47,.move (.tmp 0),none⟩,[]⟩,⟨⟨some 48,.move (.tmp 7),none⟩,[]⟩,⟨⟨some 49,.binOp .sub 3 (.tmp 48) (.const (.int .i64 1)) 3,none⟩,[]⟩,⟨⟨some 50,.indexAddr 27 (.tmp 47) (.tmp 49),none⟩,[]⟩,⟨⟨some 51,.load 3 (.tmp 50),none⟩,[]⟩,⟨⟨some 52,.move (.tmp 0),none⟩,[]⟩,
 ⟨⟨some 53,.move (.tmp 7),none⟩,[]⟩,⟨⟨some 54,.indexAddr 27 (.tmp 52) (.tmp 53),none⟩,[]⟩,⟨⟨some 55,.load 3 (.tmp 54),none⟩,[]⟩,⟨⟨some 56,.indexAddr 27 (.tmp 42) (.tmp 43),none⟩,[]⟩,⟨⟨none,.store 3 (.tmp 56) (.tmp 51),none⟩,[]⟩,⟨⟨some 57,.indexAddr 27 (.tmp 44) (.tmp 46),none⟩,[]⟩,⟨⟨none,.store 3 (.tmp 57) (.tmp 55),none⟩,[]⟩]) (.seq (.seq (.reg [⟨⟨some 58,.move (.tmp 7),none⟩,[]⟩,⟨⟨some 59,.move (.tmp 1),none⟩,[]⟩,⟨⟨some 60,.binOp .sub 3 (.tmp 58) (.tmp 59) 3,none⟩,[]⟩,⟨⟨some 61,.binOp .geq 3 (.tmp 60) (.const (.int .i64 2)) 3,none⟩,[]⟩]) (.cond (.tmp 61) (.seq (.reg [⟨⟨some 62,.move (.tmp 7),none⟩,[]⟩,⟨⟨some 63,.binOp .sub 3 (.tmp 62) (.const (.int .i64 1)) 3,none⟩,[]⟩,⟨⟨some 9,.assign (.tmp 63),none⟩,[]⟩]) (.block 4 (.loop (.seq (.seq (.reg [⟨⟨some 64,.move (.tmp 9),none⟩,[]⟩,
 ⟨⟨some 65,.binOp .geq 3 (.tmp 64) (.const (.int .i64 1)) 3,none⟩,[]⟩]) (.cond (.tmp 65) .skip (.exit 4))) (.seq (.block 5 (.seq (.seq (.reg [⟨⟨some 68,.move (.tmp 0),none⟩,[]⟩,⟨⟨some 69,.move (.tmp 9),none⟩,[]⟩,⟨⟨some 70,.indexAddr 27 (.tmp 68) (.tmp 69),none⟩,[]⟩,⟨⟨some 71,.load 3 (.tmp 70),none⟩,[]⟩,⟨⟨some 72,.move (.tmp 0),none⟩,[]⟩,⟨⟨some 73,.move (.tmp 9),none⟩,[]⟩,⟨⟨some 74,.binOp .sub 3 (.tmp 73) (.const (.int .i64 1)) 3,none⟩,[]⟩,⟨⟨some 75,.indexAddr 27 (.tmp 72) (.tmp 74),none⟩,[]⟩,⟨⟨some 76,.load 3 (.tmp 75),none⟩,[]⟩,⟨⟨some 77,.call ⟨(.value (.func 209)),#[.tmp 71,.tmp 76],#[3,3]⟩,none⟩,[]⟩,⟨⟨some 78,.unOp .not 4 (.tmp 77),none⟩,[]⟩]) (.cond (.tmp 78) (.exit 4) .skip)) (.reg [⟨⟨some 79,.move (.tmp 0),none⟩,[]⟩,⟨⟨some 80,.move (.tmp 9),none⟩,[]⟩,
 ⟨⟨some 81,.move (.tmp 0),none⟩,[]⟩,⟨⟨some 82,.move (.tmp 9),none⟩,[]⟩,⟨⟨some 83,.binOp .sub 3 (.tmp 82) (.const (.int .i64 1)) 3,none⟩,[]⟩,⟨⟨some 84,.move (.tmp 0),none⟩,[]⟩,⟨⟨some 85,.move (.tmp 9),none⟩,[]⟩,⟨⟨some 86,.binOp .sub 3 (.tmp 85) (.const (.int .i64 1)) 3,none⟩,[]⟩,⟨⟨some 87,.indexAddr 27 (.tmp 84) (.tmp 86),none⟩,[]⟩,⟨⟨some 88,.load 3 (.tmp 87),none⟩,[]⟩,⟨⟨some 89,.move (.tmp 0),none⟩,[]⟩,⟨⟨some 90,.move (.tmp 9),none⟩,[]⟩,⟨⟨some 91,.indexAddr 27 (.tmp 89) (.tmp 90),none⟩,[]⟩,⟨⟨some 92,.load 3 (.tmp 91),none⟩,[]⟩,
 ⟨⟨some 93,.indexAddr 27 (.tmp 79) (.tmp 80),none⟩,[]⟩,⟨⟨none,.store 3 (.tmp 93) (.tmp 88),none⟩,[]⟩,⟨⟨some 94,.indexAddr 27 (.tmp 81) (.tmp 83),none⟩,[]⟩,⟨⟨none,.store 3 (.tmp 94) (.tmp 92),none⟩,[]⟩]))) (.reg [⟨⟨some 66,.move (.tmp 9),none⟩,[]⟩,⟨⟨some 67,.binOp .sub 3 (.tmp 66) (.const (.int .i64 1)) 3,none⟩,[]⟩,⟨⟨some 9,.assign (.tmp 67),none⟩,[]⟩])))))) .skip)) (.seq (.reg [⟨⟨some 95,.move (.tmp 2),none⟩,[]⟩,⟨⟨some 96,.move (.tmp 7),none⟩,[]⟩,⟨⟨some 97,.binOp .sub 3 (.tmp 95) (.tmp 96) 3,none⟩,[]⟩,⟨⟨some 98,.binOp .geq 3 (.tmp 97) (.const (.int .i64 2)) 3,none⟩,[]⟩]) (.cond (.tmp 98) (.seq (.reg [⟨⟨some 99,.move (.tmp 7),none⟩,[]⟩,⟨⟨some 100,.binOp .add 3 (.tmp 99) (.const (.int .i64 1)) 3,none⟩,[]⟩,⟨⟨some 10,.assign (.tmp 100),none⟩,[]⟩]) (.block 6 (.loop (.seq (.seq (.reg [⟨⟨some 101,.move (.tmp 10),none⟩,[]⟩,⟨⟨some 102,.move (.tmp 2),none⟩,[]⟩,
 ⟨⟨some 103,.binOp .lss 3 (.tmp 101) (.tmp 102) 3,none⟩,[]⟩]) (.cond (.tmp 103) .skip (.exit 6))) (.seq (.block 7 (.seq (.seq (.reg [⟨⟨some 106,.move (.tmp 0),none⟩,[]⟩,⟨⟨some 107,.move (.tmp 10),none⟩,[]⟩,⟨⟨some 108,.indexAddr 27 (.tmp 106) (.tmp 107),none⟩,[]⟩,⟨⟨some 109,.load 3 (.tmp 108),none⟩,[]⟩,⟨⟨some 110,.move (.tmp 0),none⟩,[]⟩,⟨⟨some 111,.move (.tmp 10),none⟩,[]⟩,⟨⟨some 112,.binOp .sub 3 (.tmp 111) (.const (.int .i64 1)) 3,none⟩,[]⟩,⟨⟨some 113,.indexAddr 27 (.tmp 110) (.tmp 112),none⟩,[]⟩,⟨⟨some 114,.load 3 (.tmp 113),none⟩,[]⟩,⟨⟨some 115,.call ⟨(.value (.func 209)),#[.tmp 109,.tmp 114],#[3,3]⟩,none⟩,[]⟩,⟨⟨some 116,.unOp .not 4 (.tmp 115),none⟩,[]⟩]) (.cond (.tmp 116) (.exit 6) .skip)) (.reg [⟨⟨some 117,.move (.tmp 0),none⟩,[]⟩,⟨⟨some 118,.move (.tmp 10),none⟩,[]⟩,
 ⟨⟨some 119,.move (.tmp 0),none⟩,[]⟩,⟨⟨some 120,.move (.tmp 10),none⟩,[]⟩,⟨⟨some 121,.binOp .sub 3 (.tmp 120) (.const (.int .i64 1)) 3,none⟩,[]⟩,⟨⟨some 122,.move (.tmp 0),none⟩,[]⟩,⟨⟨some 123,.move (.tmp 10),none⟩,[]⟩,⟨⟨some 124,.binOp .sub 3 (.tmp 123) (.const (.int .i64 1)) 3,none⟩,[]⟩,⟨⟨some 125,.indexAddr 27 (.tmp 122) (.tmp 124),none⟩,[]⟩,⟨⟨some 126,.load 3 (.tmp 125),none⟩,[]⟩,⟨⟨some 127,.move (.tmp 0),none⟩,[]⟩,⟨⟨some 128,.move (.tmp 10),none⟩,[]⟩,⟨⟨some 129,.indexAddr 27 (.tmp 127) (.tmp 128),none⟩,[]⟩,⟨⟨some 130,.load 3 (.tmp 129),none⟩,[]⟩,
 ⟨⟨some 131,.indexAddr 27 (.tmp 117) (.tmp 118),none⟩,[]⟩,
  ⟨⟨none,.store 3 (.tmp 131) (.tmp 126),none⟩,[]⟩,
  ⟨⟨some 132,.indexAddr 27 (.tmp 119) (.tmp 121),none⟩,[]⟩,
  ⟨⟨none,.store 3 (.tmp 132) (.tmp 130),none⟩,[]⟩]))) (.reg [⟨⟨some 104,.move (.tmp 10),none⟩,[]⟩,
  ⟨⟨some 105,.binOp .add 3 (.tmp 104) (.const (.int .i64 1)) 3,none⟩,[]⟩,
  ⟨⟨some 10,.assign (.tmp 105),none⟩,[]⟩])))))) .skip)))))))) (.reg [⟨⟨some 15,.move (.tmp 8),none⟩,[]⟩,
  ⟨⟨some 16,.binOp .add 3 (.tmp 15) (.const (.int .i64 1)) 3,none⟩,[]⟩,
  ⟨⟨some 8,.assign (.tmp 16),none⟩,[]⟩])))))) (.seq (.reg [⟨⟨some 6,.assign (.const (.bool false)),none⟩,[]⟩]) .ret))))
theorem in208:InT Tryz.prog 208 3 [.tmp 6] cd208:=InT.mk (by kernel_rfl) [(5,[(0,false),(1,false),(2,false),(3,false),(4,false),(5,false),(6,false),(7,false),(8,false),(9,false),(10,false),(11,false),(12,false),(13,true),(14,false),(15,false)]),(11,[(0,false),(1,false),(2,false),(3,false),(4,false),(5,false),(6,false),(7,false),(8,false),(9,false),(10,false),(11,false),(12,false),(13,false),(14,false),(15,true),(16,false),(17,true)]),(16,[(0,false),(1,false),(2,false),(3,false),(4,false),(5,false),(6,false),(7,false),(8,false),(9,true),(10,false)]),(17,[(0,false),(1,false),(2,false),(3,false),(4,false),(5,false),(6,false),(7,false),(8,false),(9,false),(10,false),(11,false),(12,false),(13,false),(14,false),(15,true),(16,false),(17,true)]),(22,[(0,false),(1,false),(2,false),(3,false),(4,false),(5,false),(6,false),(7,false),(8,false),(9,true),(10,false)]),(23,[(0,false),(1,false),(2,false),(3,false),(4,false),(5,false),(6,false),(7,false),(8,false),(9,false),(10,false),(11,false),(12,false),(13,false),(14,false),(15,true),(16,false),(17,true)])] Tryz.func208 rfl (by kernel_rfl) (by kernel_rfl) (of_decide_eq_true (by kernel_rfl)) (by kernel_rfl)
def cd206:Cd:=(.seq (.reg [⟨⟨some 6,.assign (.const (.int .i64 0)),none⟩,[]⟩,⟨⟨some 7,.assign (.const (.int .i64 0)),none⟩,[]⟩]) (.seq (.reg [⟨⟨some 13,.move (.tmp 2),none⟩,[]⟩,⟨⟨some 14,.move (.tmp 1),none⟩,[]⟩,⟨⟨some 15,.binOp .sub 3 (.tmp 13) (.tmp 14) 3,none⟩,[]⟩,⟨⟨some 8,.assign (.tmp 15),none⟩,[]⟩]) (.seq (.reg [⟨⟨some 9,.alloc 3,none⟩,[]⟩]) (.seq (.reg [⟨⟨some 16,.move (.tmp 1),none⟩,[]⟩,⟨⟨some 17,.move (.tmp 8),none⟩,[]⟩,⟨⟨some 18,.binOp .quo 3 (.tmp 17) (.const (.int .i64 4)) 3,none⟩,[]⟩,⟨⟨some 19,.binOp .mul 3 (.tmp 18) (.const (.int .i64 1)) 3,none⟩,[]⟩,⟨⟨some 20,.binOp .add 3 (.tmp 16) (.tmp 19) 3,none⟩,[]⟩,⟨⟨some 10,.assign (.tmp 20),none⟩,[]⟩]) (.seq (.reg [⟨⟨some 21,.move (.tmp 1),none⟩,[]⟩,⟨⟨some 22,.move (.tmp 8),none⟩,[]⟩,⟨⟨some 23,.binOp .quo 3 (.tmp 22) (.const (.int .i64 4)) 3,none⟩,[]⟩,
 ⟨⟨some 24,.binOp .mul 3 (.tmp 23) (.const (.int .i64 2)) 3,none⟩,[]⟩,⟨⟨some 25,.binOp .add 3 (.tmp 21) (.tmp 24) 3,none⟩,[]⟩,⟨⟨some 11,.assign (.tmp 25),none⟩,[]⟩]) (.seq (.reg [⟨⟨some 26,.move (.tmp 1),none⟩,[]⟩,⟨⟨some 27,.move (.tmp 8),none⟩,[]⟩,⟨⟨some 28,.binOp .quo 3 (.tmp 27) (.const (.int .i64 4)) 3,none⟩,[]⟩,⟨⟨some 29,.binOp .mul 3 (.tmp 28) (.const (.int .i64 3)) 3,none⟩,[]⟩,⟨⟨some 30,.binOp .add 3 (.tmp 26) (.tmp 29) 3,none⟩,[]⟩,⟨⟨some 12,.assign (.tmp 30),none⟩,[]⟩]) (.seq (.seq (.reg [⟨⟨some 31,.move (.tmp 8),none⟩,[]⟩,⟨⟨some 32,.binOp .geq 3 (.tmp 31) (.const (.int .i64 8)) 3,none⟩,[]⟩]) (.cond (.tmp 32) (.seq (.seq (.reg [⟨⟨some 33,.move (.tmp 8),none⟩,[]⟩,⟨⟨some 34,.binOp .geq 3 (.tmp 33) (.const (.int .i64 50)) 3,none⟩,[]⟩]) (.cond (.tmp 34) (.seq (.reg [⟨⟨some 35,.move (.tmp 0),none⟩,[]⟩,⟨⟨some 36,.move (.tmp 10),none⟩,[]⟩,⟨⟨some 37,.call ⟨(.value (.func 221)),#[.tmp 35,.tmp 36,.tmp 9],#[27,3,187]⟩,none⟩,[]⟩,
 ⟨⟨some 10,.assign (.tmp 37),none⟩,[]⟩]) (.seq (.reg [⟨⟨some 38,.move (.tmp 0),none⟩,[]⟩,⟨⟨some 39,.move (.tmp 11),none⟩,[]⟩,⟨⟨some 40,.call ⟨(.value (.func 221)),#[.tmp 38,.tmp 39,.tmp 9],#[27,3,187]⟩,none⟩,[]⟩,⟨⟨some 11,.assign (.tmp 40),none⟩,[]⟩]) (.reg [⟨⟨some 41,.move (.tmp 0),none⟩,[]⟩,⟨⟨some 42,.move (.tmp 12),none⟩,[]⟩,⟨⟨some 43,.call ⟨(.value (.func 221)),#[.tmp 41,.tmp 42,.tmp 9],#[27,3,187]⟩,none⟩,[]⟩,⟨⟨some 12,.assign (.tmp 43),none⟩,[]⟩]))) .skip)) (.reg [⟨⟨some 44,.move (.tmp 0),none⟩,[]⟩,⟨⟨some 45,.move (.tmp 10),none⟩,[]⟩,⟨⟨some 46,.move (.tmp 11),none⟩,[]⟩,⟨⟨some 47,.move (.tmp 12),none⟩,[]⟩,⟨⟨some 48,.call ⟨(.value (.func 222)),#[.tmp 44,.tmp 45,.tmp 46,.tmp 47,.tmp 9],#[27,3,3,3,187]⟩,none⟩,[]⟩,⟨⟨some 11,.assign (.tmp 48),none⟩,[]⟩])) .skip)) (.seq (.reg [⟨⟨some 49,.load 3 (.tmp 9),none⟩,[]⟩]) (.block 0 (.seq (.reg [⟨⟨some 52,.binOp .eql 3 (.tmp 49) (.const (.int .i64 0)) 3,none⟩,[]⟩,
 ⟨⟨some 51,.assign (.tmp 52),none⟩,[]⟩]) (.cond (.tmp 51) (.seq (.reg [⟨⟨some 53,.move (.tmp 11),none⟩,[]⟩,
  ⟨⟨some 6,.assign (.tmp 53),none⟩,[]⟩,
  ⟨⟨some 7,.assign (.const (.int .i64 1)),none⟩,[]⟩]) .ret) (.seq (.reg [⟨⟨some 55,.binOp .eql 3 (.tmp 49) (.const (.int .i64 12)) 3,none⟩,[]⟩,
  ⟨⟨some 54,.assign (.tmp 55),none⟩,[]⟩]) (.cond (.tmp 54) (.seq (.reg [⟨⟨some 56,.move (.tmp 11),none⟩,[]⟩,
  ⟨⟨some 6,.assign (.tmp 56),none⟩,[]⟩,
  ⟨⟨some 7,.assign (.const (.int .i64 2)),none⟩,[]⟩]) .ret) (.seq (.reg [⟨⟨some 50,.move (.tmp 11),none⟩,[]⟩,
  ⟨⟨some 6,.assign (.tmp 50),none⟩,[]⟩,
  ⟨⟨some 7,.assign (.const (.int .i64 0)),none⟩,[]⟩]) .ret))))))))))))))
theorem in206:InT Tryz.prog 206 3 [.tmp 6,.tmp 7] cd206:=InT.mk (by kernel_rfl) [] Tryz.func206 rfl (by kernel_rfl) (by kernel_rfl) (of_decide_eq_true (by kernel_rfl)) (by kernel_rfl)
end Go.Proofs.YtlcipphiflcaiaaGreat.Ai
namespace Go.Proofs.YtlcipphiflcaiaaGreat.Ai
open Go Go.RowKit
section
variable {v:Value} {xs:List Int} {H:AH}
theorem ascO_at (hs:xs.Pairwise (· < ·)){i j:Nat}(hij:i<=j)(hj:j<xs.length):¬ xs.getD j 0<xs.getD i 0:=by
 by_cases e:i=j
 ·subst e;omega
 ·have:=(List.pairwise_iff_getElem.1 hs) i j (by omega) hj (by omega)
  have e1:xs.getD i 0=xs[i]:=by simp [show i<xs.length by omega]
  have e2:xs.getD j 0=xs[j]:=by simp [hj]
  omega
theorem order2O_c (hr:Row 3 H v xs)(hs:xs.Pairwise (· < ·))(a b:Nat)(p:Value)(hab:a<=b)(hb:b<xs.length) :
  ACalls Tryz.prog 224 [v,.int .i64 (a:Int),.int .i64 (b:Int),p] H fun r H'=>r=.tuple (List.toArray [.int .i64 (a:Int),.int .i64 (b:Int)])/\H=H':=by
 refine in224 rfl ?_
 intro Q hQ
 have hca:=hr.cell (show a<xs.length by omega)
 have hcb:=hr.cell hb
 simp (disch:=omega) only [cd224,hr.ix Tryz.underlying27 cs3,Int.toNat_natCast,hca,hcb,SS,eq_self,reduceIte,reduceCtorEq,Nat.reduceEqDiff,Nat.reduceAdd]
 refine CallH.by (Less_c _ _ H) ?_
 rintro _ _ ⟨rfl,rfl⟩
 simp (disch:=omega) only [decide_eq_false (ascO_at hs hab hb),SS,eq_self,reduceIte,reduceCtorEq,Nat.reduceEqDiff,Nat.reduceAdd]
 refine hQ _ _ _ ?_
 simp (disch:=omega) only [SS,eq_self,reduceIte,reduceCtorEq,Nat.reduceEqDiff,Nat.reduceAdd]
theorem medianO_c (hr:Row 3 H v xs)(hs:xs.Pairwise (· < ·))(a b c:Nat)(p:Value)(hab:a<=b)(hbc:b<=c)(hc:c<xs.length) :
  ACalls Tryz.prog 222 [v,.int .i64 (a:Int),.int .i64 (b:Int),.int .i64 (c:Int),p] H fun r H'=>r=.int .i64 (b:Int)/\H=H':=by
 refine in222 rfl ?_
 intro Q hQ
 simp (disch:=omega) only [cd222,SS,eq_self,reduceIte,reduceCtorEq,Nat.reduceEqDiff,Nat.reduceAdd]
 refine CallH.by (order2O_c hr hs a b p hab (by omega)) ?_
 rintro _ _ ⟨rfl,rfl⟩
 simp (disch:=omega) only [SS,eq_self,reduceIte,reduceCtorEq,Nat.reduceEqDiff,Nat.reduceAdd]
 refine CallH.by (order2O_c hr hs b c p hbc hc) ?_
 rintro _ _ ⟨rfl,rfl⟩
 simp (disch:=omega) only [SS,eq_self,reduceIte,reduceCtorEq,Nat.reduceEqDiff,Nat.reduceAdd]
 refine CallH.by (order2O_c hr hs a b p hab (by omega)) ?_
 rintro _ _ ⟨rfl,rfl⟩
 simp (disch:=omega) only [SS,eq_self,reduceIte,reduceCtorEq,Nat.reduceEqDiff,Nat.reduceAdd]
 refine hQ _ _ _ ?_
 simp (disch:=omega) only [SS,eq_self,reduceIte,reduceCtorEq,Nat.reduceEqDiff,Nat.reduceAdd]
theorem medianAdjO_c (hr:Row 3 H v xs)(hs:xs.Pairwise (· < ·))(hb:xs.length<=60000)(a:Nat)(p:Value)(ha:1<=a)(hc:a+1<xs.length) :
  ACalls Tryz.prog 221 [v,.int .i64 (a:Int),p] H fun r H'=>r=.int .i64 (a:Int)/\H=H':=by
 refine in221 rfl ?_
 intro Q hQ
 have e1:(a:Int) - 1=((a - 1:Nat):Int):=by omega
 have e2:(a:Int)+1=((a+1:Nat):Int):=by omega
 simp (disch:=omega) only [cd221,wrap64,e1,e2,SS,eq_self,reduceIte,reduceCtorEq,Nat.reduceEqDiff,Nat.reduceAdd]
 refine CallH.by (medianO_c hr hs (a - 1) a (a+1) p (by omega) (by omega) hc) ?_
 rintro _ _ ⟨rfl,rfl⟩
 simp (disch:=omega) only [SS,eq_self,reduceIte,reduceCtorEq,Nat.reduceEqDiff,Nat.reduceAdd]
 refine hQ _ _ _ ?_
 simp (disch:=omega) only [SS,eq_self,reduceIte,reduceCtorEq,Nat.reduceEqDiff,Nat.reduceAdd]
theorem partialInsO_c (hr:Row 3 H v xs)(hs:xs.Pairwise (· < ·))(hb:xs.length<=60000)(h1:1<=xs.length) :
  ACalls Tryz.prog 208 [v,.int .i64 0,.int .i64 (xs.length:Int)] H fun r H'=>r=.bool true/\H=H':=by
 refine in208 rfl ?_
 intro Q hQ
 simp (disch:=omega) only [cd208,wrap64,SS,eq_self,reduceIte,reduceCtorEq,Nat.reduceEqDiff,Nat.reduceAdd]
 refine LoopH.by (fun m s H'=>s 0=v/\s 2=.int .i64 (xs.length:Int)/\s 7=.int .i64 1/\s 8=.int .i64 0/\H=H') 0 ?_ ?_
 ·exact ⟨rfl,rfl,rfl,rfl,rfl⟩
 ·rintro m s H' ⟨h0,h2,h9,h10,rfl⟩
  simp (disch:=omega) only [h0,h2,h9,h10,SS,eq_self,reduceIte,reduceCtorEq,Nat.reduceEqDiff,Nat.reduceAdd]
  refine brD.intro (fun _=>?_) (fun g=>absurd (by decide) g)
  simp (disch:=omega) only [h0,h2,h9,h10,SS,eq_self,reduceIte,reduceCtorEq,Nat.reduceEqDiff,Nat.reduceAdd]
  refine LoopH.by (fun m' s' H'=>∃ i,m'+i=xs.length/\1<=i/\s' 0=v/\s' 2=.int .i64 (xs.length:Int)/\s' 7=.int .i64 ((i:Nat):Int)/\H=H') (xs.length - 1) ?_ ?_
  ·exact ⟨1,by omega,by omega,by simp [SS,eq_self,reduceIte,reduceCtorEq,Nat.reduceEqDiff,Nat.reduceAdd,h0],by simp [SS,eq_self,reduceIte,reduceCtorEq,Nat.reduceEqDiff,Nat.reduceAdd,h2],by simp [SS,eq_self,reduceIte,reduceCtorEq,Nat.reduceEqDiff,Nat.reduceAdd,h9],rfl⟩
  ·rintro m' s' H' ⟨i,hm,hi1,g0,g2,g9,rfl⟩
   have e1:(i:Int) - 1=((i - 1:Nat):Int):=by omega
   simp (disch:=omega) only [g0,g2,g9,SS,eq_self,reduceIte,reduceCtorEq,Nat.reduceEqDiff,Nat.reduceAdd]
   refine brD.intro (fun g=>?_) (fun g=>?_)
   ·have hi:i<xs.length:=by omega
    have hc1:=hr.cell hi
    have hc2:=hr.cell (show i - 1<xs.length by omega)
    simp (disch:=omega) only [g,g0,g2,g9,wrap64,e1,hr.ix Tryz.underlying27 cs3,Int.toNat_natCast,hc1,hc2,SS,eq_self,reduceIte,reduceCtorEq,Nat.reduceEqDiff,Nat.reduceAdd]
    refine CallH.by (Less_c _ _ H) ?_
    rintro _ _ ⟨rfl,rfl⟩
    simp (disch:=omega) only [g,decide_eq_false (ascO_at hs (show i - 1<=i by omega) hi),g0,g2,g9,wrap64,SS,eq_self,reduceIte,reduceCtorEq,Nat.reduceEqDiff,Nat.reduceAdd]
    refine ⟨m' - 1,by omega,i+1,?_⟩
    (repeat' apply And.intro) <;> first | (simp only [Value.int.injEq,true_and];omega) | omega | rfl | assumption | (simp;done) | (simp;omega)
   ·have hi:i=xs.length:=by omega
    subst hi
    simp (disch:=omega) only [g,g0,g2,g9,SS,eq_self,reduceIte,reduceCtorEq,Nat.reduceEqDiff,Nat.reduceAdd]
    refine hQ _ _ _ ?_
    simp (disch:=omega) only [SS,eq_self,reduceIte,reduceCtorEq,Nat.reduceEqDiff,Nat.reduceAdd]
theorem insO_c (hr:Row 3 H v xs)(hs:xs.Pairwise (· < ·))(hb:xs.length<=60000) :
  ACalls Tryz.prog 203 [v,.int .i64 0,.int .i64 (xs.length:Int)] H fun r H'=>H=H':=by
 refine in203 rfl ?_
 intro Q hQ
 simp (disch:=omega) only [cd203,wrap64,SS,eq_self,reduceIte,reduceCtorEq,Nat.reduceEqDiff,Nat.reduceAdd]
 refine LoopH.by (fun m s H'=>∃ i,m+i=xs.length+1/\1<=i/\s 0=v/\s 1=.int .i64 0/\s 2=.int .i64 (xs.length:Int)/\s 6=.int .i64 ((i:Nat):Int)/\H=H') xs.length ?_ ?_
 ·exact ⟨1,by omega,by omega,rfl,rfl,rfl,rfl,rfl⟩
 ·rintro m s H' ⟨i,hm,hi1,h0,h1,h2,h8,rfl⟩
  simp (disch:=omega) only [h0,h1,h2,h8,SS,eq_self,reduceIte,reduceCtorEq,Nat.reduceEqDiff,Nat.reduceAdd]
  refine brD.intro (fun g=>?_) (fun g=>?_)
  ·have hi:i<xs.length:=by omega
   have e1:(i:Int) - 1=((i - 1:Nat):Int):=by omega
   have hc1:=hr.cell hi
   have hc2:=hr.cell (show i - 1<xs.length by omega)
   simp (disch:=omega) only [h0,h1,h2,h8,SS,eq_self,reduceIte,reduceCtorEq,Nat.reduceEqDiff,Nat.reduceAdd]
   refine LoopH.by (fun m' s' H'=>s' 0=v/\s' 1=.int .i64 0/\s' 2=.int .i64 (xs.length:Int)/\s' 6=.int .i64 ((i:Nat):Int)/\s' 7=.int .i64 ((i:Nat):Int)/\H=H') 0 ?_ ?_
   ·simp only [SS,eq_self,reduceIte,reduceCtorEq,Nat.reduceEqDiff,Nat.reduceAdd,h0,h1,h2,h8]
   ·rintro m' s' H' ⟨g0,g1,g2,g8,g9,rfl⟩
    have hgt:(i:Int) > 0:=by omega
    simp (disch:=omega) only [g0,g1,g2,g8,g9,SS,eq_self,reduceIte,reduceCtorEq,Nat.reduceEqDiff,Nat.reduceAdd]
    refine brD.intro (fun q=>?_) (fun q=>absurd hgt q)
    simp (disch:=omega) only [q,g0,g1,g2,g8,g9,wrap64,e1,hr.ix Tryz.underlying27 cs3,Int.toNat_natCast,hc1,hc2,SS,eq_self,reduceIte,reduceCtorEq,Nat.reduceEqDiff,Nat.reduceAdd]
    refine CallH.by (Less_c _ _ H) ?_
    rintro _ _ ⟨rfl,rfl⟩
    simp (disch:=omega) only [q,decide_eq_false (ascO_at hs (show i - 1<=i by omega) hi),g0,g1,g2,g8,g9,wrap64,SS,eq_self,reduceIte,reduceCtorEq,Nat.reduceEqDiff,Nat.reduceAdd]
    refine ⟨m - 1,by omega,i+1,?_⟩
    (repeat' apply And.intro) <;> first | (simp only [Value.int.injEq,true_and];omega) | omega | rfl | assumption | (simp;done) | (simp;omega)
  ·simp (disch:=omega) only [SS,eq_self,reduceIte,reduceCtorEq,Nat.reduceEqDiff,Nat.reduceAdd]
   refine hQ _ _ _ ?_
   simp (disch:=omega) only [SS,eq_self,reduceIte,reduceCtorEq,Nat.reduceEqDiff,Nat.reduceAdd]
theorem choosePivotO_c (hr:Row 3 H v xs)(hs:xs.Pairwise (· < ·))(hb:xs.length<=60000)(h1:13<=xs.length) :
    ACalls Tryz.prog 206 [v,.int .i64 0,.int .i64 (xs.length:Int)] H fun r H'=>(∃ j:Int,r=.tuple (List.toArray [.int .i64 j,.int .i64 1]))/\H<+:H':=by
  refine in206 rfl ?_
  intro Q hQ
  obtain ⟨q,hqd⟩:∃ q,xs.length / 4=q:=⟨_,rfl⟩
  have hq:IntKind.i64.wrap ((xs.length:Int).tdiv 4)=(q:Int):=by
    rw [Int.tdiv_eq_ediv_of_nonneg (by omega),wrap64 (by omega) (by omega)]
    omega
  have e1:(0:Int)+(q:Int) * 1=(q:Int):=by omega
  have e2:(0:Int)+(q:Int) * 2=((2 * q:Nat):Int):=by omega
  have e3:(0:Int)+(q:Int) * 3=((3 * q:Nat):Int):=by omega
  have e0:(xs.length:Int) - 0=(xs.length:Int):=by omega
  simp (disch:=omega) only [cd206,alloc_int,wrap64,e0,hq,e1,e2,e3,SS,eq_self,reduceIte,reduceCtorEq,Nat.reduceEqDiff,Nat.reduceAdd]
  generalize hA:H ++ [AObj.cells [.int .i64 0] 3 false]=A
  have pA:H<+:A:=by rw [<- hA];exact List.prefix_append _ _
  have cA:A[H.length]?=some (.cells [.int .i64 0] 3 false):=by rw [<- hA];exact at_new ..
  have hA2:=hr.pre pA
  refine brD.intro (fun g=>?_) (fun g=>absurd (show (xs.length:Int) ≥ 8 by omega) g)
  simp (disch:=omega) only [SS,eq_self,reduceIte,reduceCtorEq,Nat.reduceEqDiff,Nat.reduceAdd]
  refine brD.intro (fun g2=>?_) (fun g2=>?_)
  . simp (disch:=omega) only [SS,eq_self,reduceIte,reduceCtorEq,Nat.reduceEqDiff,Nat.reduceAdd]
    refine CallH.by (medianAdjO_c hA2 hs hb q _ (by omega) (by omega)) ?_
    rintro _ _ ⟨rfl,rfl⟩
    simp (disch:=omega) only [SS,eq_self,reduceIte,reduceCtorEq,Nat.reduceEqDiff,Nat.reduceAdd]
    refine CallH.by (medianAdjO_c hA2 hs hb (2 * q) _ (by omega) (by omega)) ?_
    rintro _ _ ⟨rfl,rfl⟩
    simp (disch:=omega) only [SS,eq_self,reduceIte,reduceCtorEq,Nat.reduceEqDiff,Nat.reduceAdd]
    refine CallH.by (medianAdjO_c hA2 hs hb (3 * q) _ (by omega) (by omega)) ?_
    rintro _ _ ⟨rfl,rfl⟩
    simp (disch:=omega) only [SS,eq_self,reduceIte,reduceCtorEq,Nat.reduceEqDiff,Nat.reduceAdd]
    refine CallH.by (medianO_c hA2 hs q (2 * q) (3 * q) _ (by omega) (by omega) (by omega)) ?_
    rintro _ _ ⟨rfl,rfl⟩
    simp (disch:=omega) only [cell_of cA,SS,eq_self,reduceIte,reduceCtorEq,Nat.reduceEqDiff,Nat.reduceAdd]
    first
      | (refine brD.intro (fun _=>?_) (fun g3=>absurd rfl g3)
         simp (disch:=omega) only [SS,eq_self,reduceIte,reduceCtorEq,Nat.reduceEqDiff,Nat.reduceAdd])
      | skip
    refine hQ _ _ _ ?_
    simp (disch:=omega) only [SS,eq_self,reduceIte,reduceCtorEq,Nat.reduceEqDiff,Nat.reduceAdd]
    exact ⟨⟨_,rfl⟩,pA⟩
  . simp (disch:=omega) only [SS,eq_self,reduceIte,reduceCtorEq,Nat.reduceEqDiff,Nat.reduceAdd]
    refine CallH.by (medianO_c hA2 hs q (2 * q) (3 * q) _ (by omega) (by omega) (by omega)) ?_
    rintro _ _ ⟨rfl,rfl⟩
    simp (disch:=omega) only [cell_of cA,SS,eq_self,reduceIte,reduceCtorEq,Nat.reduceEqDiff,Nat.reduceAdd]
    first
      | (refine brD.intro (fun _=>?_) (fun g3=>absurd rfl g3)
         simp (disch:=omega) only [SS,eq_self,reduceIte,reduceCtorEq,Nat.reduceEqDiff,Nat.reduceAdd])
      | skip
    refine hQ _ _ _ ?_
    simp (disch:=omega) only [SS,eq_self,reduceIte,reduceCtorEq,Nat.reduceEqDiff,Nat.reduceAdd]
    exact ⟨⟨_,rfl⟩,pA⟩
theorem pdqO_c (hr:Row 3 H v xs)(hs:xs.Pairwise (· < ·))(hb:xs.length<=60000)(lim:Int)(hlim:lim ≠ 0∨xs.length<=12) :
  ACalls Tryz.prog 172 [v,.int .i64 0,.int .i64 (xs.length:Int),.int .i64 lim] H fun r H'=>H<+:H':=by
 refine in172 rfl ?_
 intro Q hQ
 have e0:(xs.length:Int) - 0=(xs.length:Int):=by omega
 simp (disch:=omega) only [cd172,SS,eq_self,reduceIte,reduceCtorEq,Nat.reduceEqDiff,Nat.reduceAdd]
 refine LoopH.by (fun m s H'=>s 0=v/\s 1=.int .i64 0/\s 2=.int .i64 (xs.length:Int)/\s 3=.int .i64 lim/\s 8=.bool true/\s 9=.bool true/\H=H') 0 ?_ ?_
 ·exact ⟨rfl,rfl,rfl,rfl,rfl,rfl,rfl⟩
 ·rintro m s H' ⟨h0,h1,h2,h3,h10,h11,rfl⟩
  simp (disch:=omega) only [h0,h1,h2,h3,h10,h11,wrap64,e0,SS,eq_self,reduceIte,reduceCtorEq,Nat.reduceEqDiff,Nat.reduceAdd]
  refine brD.intro (fun g=>?_) (fun g=>?_)
  ·simp (disch:=omega) only [h0,h1,h2,h3,h10,h11,SS,eq_self,reduceIte,reduceCtorEq,Nat.reduceEqDiff,Nat.reduceAdd]
   refine CallH.by (insO_c hr hs hb) ?_
   rintro _ _ rfl
   simp (disch:=omega) only [SS,eq_self,reduceIte,reduceCtorEq,Nat.reduceEqDiff,Nat.reduceAdd]
   refine hQ _ _ _ ?_
   simp (disch:=omega) only [SS,eq_self,reduceIte,reduceCtorEq,Nat.reduceEqDiff,Nat.reduceAdd]
   exact List.prefix_refl _
  ·have hlim':lim ≠ 0:=hlim.resolve_right (by omega)
   simp (disch:=omega) only [h0,h1,h2,h3,h10,h11,SS,eq_self,reduceIte,reduceCtorEq,Nat.reduceEqDiff,Nat.reduceAdd]
   refine brD.intro (fun g2=>absurd g2 hlim') (fun g2=>?_)
   simp (disch:=omega) only [h0,h1,h2,h3,h10,h11,SS,eq_self,reduceIte,reduceCtorEq,Nat.reduceEqDiff,Nat.reduceAdd]
   refine CallH.by (choosePivotO_c hr hs hb (by omega)) ?_
   rintro _ A ⟨⟨j,rfl⟩,pA⟩
   simp (disch:=omega) only [h0,h1,h2,h3,h10,h11,SS,eq_self,reduceIte,reduceCtorEq,Nat.reduceEqDiff,Nat.reduceAdd]
   refine brD.intro (fun g3=>absurd g3 (by decide)) (fun g3=>?_)
   simp (disch:=omega) only [h0,h1,h2,h3,h10,h11,SS,eq_self,reduceIte,reduceCtorEq,Nat.reduceEqDiff,Nat.reduceAdd]
   refine CallH.by (partialInsO_c (hr.pre pA) hs hb (by omega)) ?_
   rintro _ _ ⟨rfl,rfl⟩
   simp (disch:=omega) only [SS,eq_self,reduceIte,reduceCtorEq,Nat.reduceEqDiff,Nat.reduceAdd]
   refine hQ _ _ _ ?_
   simp (disch:=omega) only [SS,eq_self,reduceIte,reduceCtorEq,Nat.reduceEqDiff,Nat.reduceAdd]
   exact pA
theorem SortO_c (hr:Row 3 H v xs)(hs:xs.Pairwise (· < ·))(hb:xs.length<=60000) :
  ACalls Tryz.prog 134 [v] H fun r H'=>H<+:H':=by
 refine in134 rfl ?_
 intro Q hQ
 have hU:IntKind.u64.wrap (xs.length:Int)=(xs.length:Int):=by rw [IntKind.wrap_u64];omega
 simp (disch:=omega) only [cd134,hr.len Tryz.underlying27,hU,SS,eq_self,reduceIte,reduceCtorEq,Nat.reduceEqDiff,Nat.reduceAdd]
 by_cases h1:1<=xs.length
 rotate_left
 ·refine CallH.by (Lenz_c xs.length H (by omega)) ?_
  rintro _ _ ⟨⟨k,rfl⟩,rfl⟩
  simp (disch:=omega) only [SS,eq_self,reduceIte,reduceCtorEq,Nat.reduceEqDiff,Nat.reduceAdd]
  refine CallH.by (pdqO_c hr hs hb k (.inr (by omega))) ?_
  rintro _ B hB
  simp (disch:=omega) only [SS,eq_self,reduceIte,reduceCtorEq,Nat.reduceEqDiff,Nat.reduceAdd]
  refine hQ _ _ _ ?_
  simp (disch:=omega) only [SS,eq_self,reduceIte,reduceCtorEq,Nat.reduceEqDiff,Nat.reduceAdd]
  exact hB
 refine CallH.by (Lenb_c xs.length H (by omega) (by omega)) ?_
 rintro _ _ ⟨⟨k,rfl,hk⟩,rfl⟩
 simp (disch:=omega) only [SS,eq_self,reduceIte,reduceCtorEq,Nat.reduceEqDiff,Nat.reduceAdd]
 refine CallH.by (pdqO_c hr hs hb k (.inl (by omega))) ?_
 rintro _ B hB
 simp (disch:=omega) only [SS,eq_self,reduceIte,reduceCtorEq,Nat.reduceEqDiff,Nat.reduceAdd]
 refine hQ _ _ _ ?_
 simp (disch:=omega) only [SS,eq_self,reduceIte,reduceCtorEq,Nat.reduceEqDiff,Nat.reduceAdd]
 exact hB
end
end Go.Proofs.YtlcipphiflcaiaaGreat.Ai
