/- Texts of this claim, joined: PermP, CycP, IdxP, SrtP, PrmC, TreP, BfsP, PutP, PartP, Ty, Arr, Grf, Base, Sort, Good, Near, ReachP, BfsQ, Bag, Rep, Bfs, Roads, Bits. -/
import Derived.Test.YtlcipphiflcaiaaGreatProg
import Derived.KernelRfl
import Derived.Laws.BitsLemmas
import Derived.Laws.Bits64
import Derived.Test.YtlcipphiflcaiaaGreatMgLawLtl2
set_option linter.unusedVariables false
set_option linter.unusedSimpArgs false
set_option maxHeartbeats 8000000
set_option maxRecDepth 20000
namespace Go.Proofs.YtlcipphiflcaiaaGreat.Ai
open Go Go.RowKit
def Asc (ys:List Int):Prop:=∀ i j,i<j->j<ys.length->ys.getD i 0<=ys.getD j 0
def Rsg (n:Int)(ys:List Int):Prop:=∀ i,i<ys.length->(0<=ys.getD i 0/\ys.getD i 0<=n - 1)/\(0<i->ys.getD (i - 1) 0<ys.getD i 0)
def Prm (p:List Int):Prop:=p.length<=8/\∀ x,x<p.length->(x:Int) ∈ p
instance (p:List Int):Decidable (Prm p):=inferInstanceAs (Decidable (_/\_))
theorem pos_ex {ys:List Int}{x:Int}(h:x ∈ ys):∃ i,i<ys.length/\ys.getD i 0=x:=by
 obtain ⟨i,hi,e⟩:=List.getElem_of_mem h
 exact ⟨i,hi,by simp [hi,e]⟩
theorem asc_at {ys:List Int}(ha:Asc ys)(h:∀ x,x<ys.length->(x:Int) ∈ ys):∀ i,i<ys.length->ys.getD i 0=i:=by
 have ex:∀ x,∃ i,x<ys.length->(i<ys.length/\ys.getD i 0=x):=by
  intro x
  by_cases hx:x<ys.length
  ·obtain ⟨i,hi⟩:=pos_ex (h x hx);exact ⟨i,fun _=>hi⟩
  ·exact ⟨0,fun e=>absurd e hx⟩
 let pos:Nat->Nat:=fun x=>Classical.choose (ex x)
 have hp:∀ x,x<ys.length->pos x<ys.length/\ys.getD (pos x) 0=x:=fun x hx=>Classical.choose_spec (ex x) hx
 have mono:∀ x,x+1<ys.length->pos x<pos (x+1):=by
  intro x hx
  have h1:=hp x (by omega)
  have h2:=hp (x+1) hx
  rcases Nat.lt_trichotomy (pos x) (pos (x+1)) with h3 | h3 | h3
  ·exact h3
  ·rw [h3] at h1;rw [h1.2] at h2;omega
  ·have:=ha _ _ h3 h1.1
   rw [h1.2,h2.2] at this;omega
 have lo:∀ x,x<ys.length->x<=pos x:=by
  intro x
  induction x with
  | zero=>intro _;omega
  | succ x ih =>
   intro hx
   have:=ih (by omega)
   have:=mono x hx
   omega
 have hi':∀ d x,x+d+1=ys.length->pos x<=x:=by
  intro d
  induction d with
  | zero=>intro x hx;have:=(hp x (by omega)).1;omega
  | succ d ih =>
   intro x hx
   have:=ih (x+1) (by omega)
   have:=mono x (by omega)
   omega
 intro i hi
 have h1:=lo i hi
 have h2:=hi' (ys.length - i - 1) i (by omega)
 have h3:=hp i hi
 have:pos i=i:=by omega
 rw [this] at h3
 exact h3.2
theorem prm_at {p:List Int}(h:Prm p){ys:List Int}(hp:ys.Perm p)(ha:Asc ys):∀ i,i<ys.length->ys.getD i 0=i :=
 asc_at ha (fun x hx=>hp.mem_iff.2 (h.2 x (by have:=hp.length_eq;omega)))
theorem prm_range {p:List Int}(h:Prm p):(∀ i,i<p.length->0<=p.getD i 0/\p.getD i 0<p.length)/\∀ i j,i<p.length->j<p.length->p.getD i 0=p.getD j 0->i=j:=by
 have hm:=List.mergeSort_perm p (fun x y=>decide (x<=y))
 have hs:(p.mergeSort (fun x y=>decide (x<=y))).Pairwise (fun x y=>decide (x<=y)=true):=List.pairwise_mergeSort (fun a b c h1 h2=>by simp at *;omega) (fun a b=>by simp;omega) p
 have ha:Asc (p.mergeSort (fun x y=>decide (x<=y))):=by
  intro i j hij hj
  rw [List.pairwise_iff_getElem] at hs
  have:=hs i j (by omega) hj hij
  simp only [decide_eq_true_eq] at this
  rw [List.getD_eq_getElem?_getD,List.getD_eq_getElem?_getD,List.getElem?_eq_getElem hj,List.getElem?_eq_getElem (show i<(p.mergeSort (fun x y=>decide (x<=y))).length by omega)]
  exact this
 have hat:=prm_at h hm ha
 have hl:=hm.length_eq
 generalize p.mergeSort (fun x y=>decide (x<=y))=ys at *
 have mem:∀ y ∈ p,0<=y/\y<p.length:=by
  intro y hy
  obtain ⟨i,hi,e⟩:=pos_ex (hm.mem_iff.2 hy)
  rw [hat i hi] at e
  omega
 have nd:ys.Nodup:=by
  rw [List.Nodup,List.pairwise_iff_getElem]
  intro i j hi hj hij e
  have h1:=hat i hi
  have h2:=hat j hj
  simp only [List.getD_eq_getElem?_getD,List.getElem?_eq_getElem hi,List.getElem?_eq_getElem hj,Option.getD_some] at h1 h2
  omega
 have pd:p.Nodup:=hm.nodup_iff.1 nd
 refine ⟨fun i hi=>mem _ (by simp [hi]),fun i j hi hj e=>?_⟩
 rw [List.Nodup,List.pairwise_iff_getElem] at pd
 simp only [List.getD_eq_getElem?_getD,List.getElem?_eq_getElem hi,List.getElem?_eq_getElem hj,Option.getD_some] at e
 rcases Nat.lt_trichotomy i j with g | g | g
 ·exact absurd e (pd i j hi hj g)
 ·exact g
 ·exact absurd e.symm (pd j i hj hi g)
def orb (p:List Int)(x y:Int):Nat->List Int
 | 0=>[]
 | n+1=>if y=x then [] else y :: orb p x (p.getD y.toNat 0) n
def cycC (p:List Int)(x:Int):List Int:=x :: orb p x (p.getD x.toNat 0) p.length
theorem orb_self (p:List Int)(x:Int)(n:Nat):orb p x x n=[]:=by cases n <;> simp [orb]
structure Way (p:List Int) (x:Int) (c:List Int) (y:Int):Prop where
 rng:∀ z ∈ c,0<=z/\z<p.length
 nd:c.Nodup
 ne:c ≠ []
 head:c.getD 0 0=x
 step:∀ i,i+1<c.length->c.getD (i+1) 0=p.getD (c.getD i 0).toNat 0
 last:y=p.getD (c.getD (c.length - 1) 0).toNat 0
 tail:cycC p x=c ++ orb p x y (p.length+1 - c.length)
theorem nodup_len (n:Nat):∀ (c:List Int),c.Nodup->(∀ z ∈ c,0<=z/\z<(n:Int))->c.length<=n:=by
 induction n with
 | zero =>
  intro c _ h
  cases c with
  | nil=>simp
  | cons z c=>have:=h z (by simp);omega
 | succ n ih =>
  intro c hn h
  have hn':=hn.erase (n:Int)
  have hl:c.length<=(c.erase (n:Int)).length+1:=by
   rw [List.length_erase];split <;> omega
  have:=ih (c.erase (n:Int)) hn' (fun z hz=>by
   have h1:=h z (List.mem_of_mem_erase hz)
   have h2:z ≠ n:=fun e=>by
    subst e
    exact (hn.not_mem_erase) hz
   omega)
  omega
theorem Way.len {p:List Int}{x y:Int}{c:List Int}(h:Way p x c y):1<=c.length/\c.length<=p.length:=by
 refine ⟨?_,nodup_len _ c h.nd h.rng⟩
 have:=h.ne
 cases c with
 | nil=>exact absurd rfl this
 | cons _ _=>simp
theorem getD_mem {c:List Int}{i:Nat}(h:i<c.length):c.getD i 0 ∈ c:=by simp [h]
theorem Way.yrng {p:List Int}{x y:Int}{c:List Int}(hp:Prm p)(h:Way p x c y):0<=y/\y<p.length:=by
 have hl:=h.len
 have:=h.rng _ (getD_mem (show c.length - 1<c.length by omega))
 rw [h.last]
 exact (prm_range hp).1 _ (by omega)
theorem Way.back {p:List Int}{x y:Int}{c:List Int}(hp:Prm p)(h:Way p x c y)(hy:y ∈ c):y=x:=by
 have hl:=h.len
 obtain ⟨i,hi,e⟩:=pos_ex hy
 by_cases h0:i=0
 ·subst h0;rw [<- e,h.head]
 ·have h1:=h.step (i - 1) (by omega)
  rw [show i - 1+1=i from by omega,e,h.last] at h1
  have r1:=h.rng _ (getD_mem (show c.length - 1<c.length by omega))
  have r2:=h.rng _ (getD_mem (show i - 1<c.length by omega))
  have:=(prm_range hp).2 _ _ (by omega) (by omega) h1
  have e2:c.getD (c.length - 1) 0=c.getD (i - 1) 0:=by omega
  have nd:=h.nd
  rw [List.Nodup,List.pairwise_iff_getElem] at nd
  simp only [List.getD_eq_getElem?_getD,List.getElem?_eq_getElem (show c.length - 1<c.length by omega),List.getElem?_eq_getElem (show i - 1<c.length by omega),Option.getD_some] at e2
  exact absurd e2.symm (nd (i - 1) (c.length - 1) (by omega) (by omega) (by omega))
set_option linter.unusedVariables false in
theorem Way.first {p:List Int}(hp:Prm p){x:Nat}(hx:x<p.length):Way p (x:Int) [(x:Int)] (p.getD x 0) :=
 ⟨fun z hz=>by simp at hz;omega,by simp,by simp,rfl,fun i hi=>by simp at hi,by simp,by simp [cycC]⟩
set_option linter.unusedVariables false in
theorem Way.next {p:List Int}{x y:Int}{c:List Int}(hp:Prm p)(h:Way p x c y)(hy:y ≠ x):Way p x (c ++ [y]) (p.getD y.toNat 0):=by
 have hl:=h.len
 have hyr:=h.yrng hp
 have hni:y ∉ c:=fun hm=>hy (h.back hp hm)
 have hnd:(c ++ [y]).Nodup:=List.nodup_append.2 ⟨h.nd,by simp,fun a ha b hb e=>by simp at hb;subst hb;exact hni (e ▸ ha)⟩
 have hlen:=nodup_len p.length (c ++ [y]) hnd (fun z hz=>by
  rcases List.mem_append.1 hz with g | g
  ·exact h.rng z g
  ·simp at g;rw [g];exact hyr)
 simp only [List.length_append,List.length_cons,List.length_nil] at hlen
 have at1:∀ i,i<c.length->(c ++ [y]).getD i 0=c.getD i 0:=fun i hi=>by
  rw [List.getD_eq_getElem?_getD,List.getD_eq_getElem?_getD,List.getElem?_append_left hi]
 have at2:(c ++ [y]).getD c.length 0=y:=by
  rw [List.getD_eq_getElem?_getD,List.getElem?_append_right (Nat.le_refl _)];simp
 refine ⟨fun z hz=>?_,hnd,by simp,by rw [at1 0 (by omega)];exact h.head,fun i hi=>?_,?_,?_⟩
 ·rcases List.mem_append.1 hz with g | g
  ·exact h.rng z g
  ·simp at g;rw [g];exact hyr
 ·simp only [List.length_append,List.length_cons,List.length_nil] at hi
  by_cases c1:i+1<c.length
  ·rw [at1 _ c1,at1 _ (by omega)];exact h.step i c1
  ·have:i=c.length - 1:=by omega
   subst this
   rw [show c.length - 1+1=c.length from by omega,at2,at1 _ (by omega)]
   exact h.last
 ·simp only [List.length_append,List.length_cons,List.length_nil,Nat.add_sub_cancel]
  rw [at2]
 ·have:=h.tail
  obtain ⟨n,hn⟩:∃ n,p.length+1 - c.length=n+1:=⟨p.length - c.length,by omega⟩
  rw [hn] at this
  simp only [orb,if_neg hy] at this
  rw [this]
  simp only [List.length_append,List.length_cons,List.length_nil,List.append_assoc,List.cons_append,List.nil_append]
  rw [show p.length+1 - (c.length+(0+1))=n from by omega]
theorem Way.done {p:List Int}{x:Int}{c:List Int}(h:Way p x c x):c=cycC p x:=by
 rw [h.tail,orb_self,List.append_nil]
def Shut (p s:List Int):Prop:=(∀ z ∈ s,0<=z/\z<p.length)/\∀ z:Nat,z<p.length->p.getD z 0 ∈ s->(z:Int) ∈ s
theorem Way.out {p s:List Int}{x y:Int}{c:List Int}(h:Way p x c y)(hs:Shut p s)(hd:∀ z ∈ c,z ∉ s):y ∉ s:=by
 have hl:=h.len
 have hm:=getD_mem (show c.length - 1<c.length by omega)
 have r:=h.rng _ hm
 intro hy
 rw [h.last] at hy
 have:=hs.2 (c.getD (c.length - 1) 0).toNat (by omega) hy
 rw [show (((c.getD (c.length - 1) 0).toNat:Nat):Int)=c.getD (c.length - 1) 0 from by omega] at this
 exact hd _ hm this
def idxP (p:Int->Bool):List Int->Nat->Int
 | [],_ => -1
 | x :: xs,k=>if p x=true then (k:Int) else idxP p xs (k+1)
theorem idxP_step (p:Int->Bool)(xs:List Int)(i:Nat)(hi:i<xs.length):idxP p (xs.drop i) i=if p (xs.getD i 0)=true then (i:Int) else idxP p (xs.drop (i+1)) (i+1):=by
 rw [List.drop_eq_getElem_cons hi]
 simp [idxP,hi]
theorem idxP_any (p:Int->Bool):∀ (xs:List Int) (k:Nat),(0<=idxP p xs k)↔xs.any p=true
 | [],k=>by simp [idxP]
 | x :: xs,k=>by
  simp only [idxP,List.any_cons]
  cases h:p x with
  | true=>simp
  | false=>simp [idxP_any p xs (k+1)]
def ax (q:List Int)(x:Int):Int:=idxP (fun y=>decide (x=y)) q 0
theorem idxP_at (p:Int->Bool):∀ (xs:List Int) (k:Nat),xs.any p=true->∃ i:Nat,i<xs.length/\idxP p xs k=((k+i:Nat):Int)/\p (xs.getD i 0)=true
 | [],k,h=>by simp at h
 | x :: xs,k,h=>by
  by_cases hx:p x=true
  ·exact ⟨0,by simp,by simp [idxP,hx],by simpa using hx⟩
  ·have:xs.any p=true:=by simpa [hx] using h
   obtain ⟨i,h1,h2,h3⟩:=idxP_at p xs (k+1) this
   refine ⟨i+1,by simpa using h1,?_,by simpa using h3⟩
   rw [idxP,if_neg hx,h2]
   congr 1;omega
theorem ax_at {q:List Int}{x:Int}(h:x ∈ q):∃ i:Nat,i<q.length/\ax q x=(i:Int)/\q.getD i 0=x:=by
 obtain ⟨i,h1,h2,h3⟩:=idxP_at (fun y=>decide (x=y)) q 0 (by simpa using h)
 refine ⟨i,h1,by rw [ax,h2];congr 1;omega,?_⟩
 have:=of_decide_eq_true h3
 exact this.symm
def swp (p:List Int)(a b:Nat):List Int:=(p.set a (p.getD b 0)).set b (p.getD a 0)
theorem swp_len (p:List Int)(a b:Nat):(swp p a b).length=p.length:=by simp [swp]
theorem swp_at (p:List Int)(a b k:Nat)(ha:a<p.length)(hb:b<p.length)(hk:k<p.length):(swp p a b).getD k 0=if k=b then p.getD a 0 else if k=a then p.getD b 0 else p.getD k 0:=by
 unfold swp
 rw [List.getD_eq_getElem?_getD,List.getElem?_set]
 by_cases h1:b=k
 ·subst h1
  rw [if_pos rfl,if_pos (by simpa using hb),if_pos rfl];rfl
 ·rw [if_neg h1,if_neg (fun e=>h1 e.symm),List.getElem?_set]
  by_cases h2:a=k
  ·subst h2
   rw [if_pos rfl,if_pos ha,if_pos rfl];rfl
  ·rw [if_neg h2,if_neg (fun e=>h2 e.symm),<- List.getD_eq_getElem?_getD]
theorem mem_getD {q:List Int}{k:Nat}(h:k<q.length):q.getD k 0 ∈ q:=by simp [h]
theorem swp_prm {p:List Int}(h:Prm p){a b:Nat}(ha:a<p.length)(hb:b<p.length):Prm (swp p a b):=by
 refine ⟨by rw [swp_len];exact h.1,fun x hx=>?_⟩
 rw [swp_len] at hx
 obtain ⟨i,hi,e⟩:=pos_ex (h.2 x hx)
 have mk:∀ k,k<p.length->(swp p a b).getD k 0=x->(x:Int) ∈ swp p a b:=fun k hk e=>by
  rw [<- e];exact mem_getD (by rw [swp_len];exact hk)
 by_cases h1:i=a
 ·subst h1;exact mk b hb (by rw [swp_at p _ b b ha hb hb,if_pos rfl];exact e)
 ·by_cases h2:i=b
  ·subst h2
   by_cases h3:a=i
   ·exact absurd h3.symm h1
   ·exact mk a ha (by rw [swp_at p a _ a ha hb ha,if_neg h3,if_pos rfl];exact e)
  ·exact mk i hi (by rw [swp_at p a b i ha hb hi,if_neg h2,if_neg h1];exact e)
structure SrtOk (p:List Int) (x:Nat) (o:List (Int × Int)) (q:List Int):Prop where
 prm:Prm q
 len:q.length=p.length
 fix:∀ y,y<x->q.getD y 0=y
 few:o.length<=x
theorem SrtOk.place {p:List Int}{x:Nat}{o:List (Int × Int)}{q:List Int}(h:SrtOk p x o q)(hx:x<p.length):∃ i:Nat,x<=i/\i<p.length/\ax q x=(i:Int)/\q.getD i 0=x/\(q.getD x 0=x↔i=x):=by
 obtain ⟨i,h1,h2,h3⟩:=ax_at (h.prm.2 x (by rw [h.len];exact hx))
 have hl:=h.len
 refine ⟨i,?_,by omega,h2,h3,fun e=>?_,fun e=>by rw [<- e];rw [h3];rw [e]⟩
 ·by_cases hlt:i<x
  ·have:=h.fix i hlt
   omega
  ·omega
 ·exact (prm_range h.prm).2 i x h1 (by omega) (by rw [h3,e])
theorem SrtOk.stay {p:List Int}{x:Nat}{o:List (Int × Int)}{q:List Int}(h:SrtOk p x o q)(e:q.getD x 0=x):SrtOk p (x+1) o q :=
 ⟨h.prm,h.len,fun y hy=>by
  by_cases hc:y=x
  ·subst hc;exact e
  ·exact h.fix y (by omega),by have:=h.few;omega⟩
theorem SrtOk.next {p:List Int}{x i:Nat}{o:List (Int × Int)}{q:List Int}(h:SrtOk p x o q)(hx:x<p.length)(h1:x<=i)(h2:i<p.length)(h3:q.getD i 0=x)(hne:i ≠ x):SrtOk p (x+1) (o ++ [((x:Int),(i:Int))]) (swp q x i):=by
 have hl:=h.len
 refine ⟨swp_prm h.prm (by omega) (by omega),by rw [swp_len];exact hl,fun y hy=>?_,by have:=h.few;simp;omega⟩
 rw [swp_at q x i y (by omega) (by omega) (by omega),if_neg (by omega)]
 by_cases hc:y=x
 ·rw [if_pos hc,h3,hc]
 ·rw [if_neg hc];exact h.fix y (by omega)
def swOk (n:Nat)(s:Int × Int):Prop:=0<=s.1/\s.1<s.2/\s.2<n
instance (n:Nat) (s:Int × Int):Decidable (swOk n s):=inferInstanceAs (Decidable (_/\_))
def plcOk (p:List Int)(ss:List (Int × Int)):Prop:=Prm p/\∀ s ∈ ss,swOk p.length s
instance (p:List Int) (ss:List (Int × Int)):Decidable (plcOk p ss):=inferInstanceAs (Decidable (_/\_))
def Mn (R:Nat->Nat->Prop)(x:Nat):Prop:=∀ y,R x y->x<=y
open Classical in
noncomputable def cls (R:Nat->Nat->Prop)(n:Nat):Nat:=(List.range n).countP fun x=>decide (Mn R x)
theorem least_of {P:Nat->Prop}:∀ n,P n->∃ m,P m/\∀ k,P k->m<=k:=by
 intro n
 induction n using Nat.strongRecOn with
 | ind n ih =>
  intro h
  by_cases q:∃ k,k<n/\P k
  ·obtain ⟨k,k1,k2⟩:=q
   exact ih k k1 k2
  ·exact ⟨n,h,fun k hk=>Nat.le_of_not_lt fun g=>q ⟨k,g,hk⟩⟩
theorem cls_join {R R':Nat->Nat->Prop}{n a b:Nat}(h0:∀ x,R x x)(h1:∀ {x y},R x y->R y x)(h2:∀ {x y z},R x y->R y z->R x z)
  (hJ:∀ {u v},R' u v->R u v∨(R u a/\R b v)∨(R u b/\R a v)):cls R n<=cls R' n+1:=by
 obtain ⟨ma,a1,a2⟩:=least_of (P:=fun x=>R a x) a (h0 a)
 obtain ⟨mb,b1,b2⟩:=least_of (P:=fun x=>R b x) b (h0 b)
 have key:∀ x,Mn R x->x ≠ max ma mb->Mn R' x:=by
  intro x hx hne y hy
  rcases hJ hy with g | ⟨g1,g2⟩ | ⟨g1,g2⟩
  ·exact hx y g
  ·have e:x=ma:=Nat.le_antisymm (hx ma (h2 g1 a1)) (a2 x (h1 g1))
   have:=b2 y g2
   omega
  ·have e:x=mb:=Nat.le_antisymm (hx mb (h2 g1 b1)) (b2 x (h1 g1))
   have:=a2 y g2
   omega
 unfold cls
 have:∀ l:List Nat,l.Nodup->l.countP (fun x=>@decide (Mn R x) (Classical.propDecidable _))<=l.countP (fun x=>@decide (Mn R' x) (Classical.propDecidable _))+(if max ma mb ∈ l then 1 else 0):=by
  intro l
  induction l with
  | nil=>intro _;simp
  | cons x l ih =>
   intro hn
   have hn':=List.nodup_cons.1 hn
   have ih:=ih hn'.2
   rw [List.countP_cons,List.countP_cons]
   by_cases e:x=max ma mb
   ·have hnot:max ma mb ∉ l:=by rw [<- e];exact hn'.1
    rw [if_neg hnot] at ih
    rw [if_pos (show max ma mb ∈ x :: l by rw [<- e];simp)]
    split <;> split <;> omega
   ·have hiff:(max ma mb ∈ x :: l)=(max ma mb ∈ l):=by
     rw [List.mem_cons];exact propext ⟨fun h=>h.resolve_left (fun q=>e q.symm),.inr⟩
    simp only [hiff]
    by_cases hx:Mn R x
    ·have hy:=key x hx e
     have d1:@decide (Mn R x) (Classical.propDecidable _)=true:=by simpa using hx
     have d2:@decide (Mn R' x) (Classical.propDecidable _)=true:=by simpa using hy
     rw [if_pos d1,if_pos d2];omega
    ·have d1:¬ @decide (Mn R x) (Classical.propDecidable _)=true:=by simpa using hx
     rw [if_neg d1]
     split <;> omega
 have h:=this (List.range n) List.nodup_range
 split at h <;> omega
theorem cls_more {R R':Nat->Nat->Prop}{n m:Nat}(hm:m<n)(h:∀ x,Mn R x->Mn R' x)(h1:Mn R' m)(h2:¬ Mn R m):cls R n+1<=cls R' n:=by
 unfold cls
 have:∀ l:List Nat,l.countP (fun x=>@decide (Mn R x) (Classical.propDecidable _))+(if m ∈ l then 1 else 0)<=l.countP (fun x=>@decide (Mn R' x) (Classical.propDecidable _)):=by
  intro l
  induction l with
  | nil=>simp
  | cons x l ih =>
   rw [List.countP_cons,List.countP_cons]
   by_cases e:x=m
   ·subst e
    have d1:¬ @decide (Mn R x) (Classical.propDecidable _)=true:=by simpa using h2
    have d2:@decide (Mn R' x) (Classical.propDecidable _)=true:=by simpa using h1
    rw [if_neg d1,if_pos d2,if_pos (by simp)]
    split at ih <;> omega
   ·have hiff:(m ∈ x :: l)=(m ∈ l):=by
     rw [List.mem_cons];exact propext ⟨fun h=>h.resolve_left (fun q=>e q.symm),.inr⟩
    simp only [hiff]
    by_cases hx:Mn R x
    ·have hy:=h x hx
     have d1:@decide (Mn R x) (Classical.propDecidable _)=true:=by simpa using hx
     have d2:@decide (Mn R' x) (Classical.propDecidable _)=true:=by simpa using hy
     rw [if_pos d1,if_pos d2];omega
    ·have d1:¬ @decide (Mn R x) (Classical.propDecidable _)=true:=by simpa using hx
     rw [if_neg d1]
     omega
 have h:=this (List.range n)
 rw [if_pos (List.mem_range.2 hm)] at h
 exact h
def enA (es:List (Int × Int))(e:Int):Nat:=(es.getD e.toNat (0,0)).1.toNat
def enB (es:List (Int × Int))(e:Int):Nat:=(es.getD e.toNat (0,0)).2.toNat
inductive Jn (es:List (Int × Int)) (T:List Int):Nat->Nat->Prop
 | refl (x:Nat):Jn es T x x
 | edge (e:Int) (h:e ∈ T):Jn es T (enA es e) (enB es e)
 | symm {x y:Nat} (h:Jn es T x y):Jn es T y x
 | trans {x y z:Nat} (h1:Jn es T x y) (h2:Jn es T y z):Jn es T x z
theorem Jn.mono {es:List (Int × Int)}{T U:List Int}(hs:∀ e ∈ T,e ∈ U){x y:Nat}(h:Jn es T x y):Jn es U x y:=by
 induction h with
 | refl x=>exact .refl x
 | edge e h=>exact .edge e (hs e h)
 | symm _ ih=>exact .symm ih
 | trans _ _ i1 i2=>exact .trans i1 i2
theorem Jn.add {es:List (Int × Int)}{T U:List Int}{e:Int}(hs:∀ x ∈ U,x ∈ T∨x=e){u v:Nat}(h:Jn es U u v) :
  Jn es T u v∨(Jn es T u (enA es e)/\Jn es T (enB es e) v)∨(Jn es T u (enB es e)/\Jn es T (enA es e) v):=by
 induction h with
 | refl x=>exact .inl (.refl x)
 | edge x h =>
  rcases hs x h with q | q
  ·exact .inl (.edge x q)
  ·subst q;exact .inr (.inl ⟨.refl _,.refl _⟩)
 | symm _ ih =>
  rcases ih with q | ⟨q1,q2⟩ | ⟨q1,q2⟩
  ·exact .inl q.symm
  ·exact .inr (.inr ⟨q2.symm,q1.symm⟩)
  ·exact .inr (.inl ⟨q2.symm,q1.symm⟩)
 | trans _ _ i1 i2 =>
  rcases i1 with q | ⟨q1,q2⟩ | ⟨q1,q2⟩ <;> rcases i2 with p | ⟨p1,p2⟩ | ⟨p1,p2⟩
  ·exact .inl (q.trans p)
  ·exact .inr (.inl ⟨q.trans p1,p2⟩)
  ·exact .inr (.inr ⟨q.trans p1,p2⟩)
  ·exact .inr (.inl ⟨q1,q2.trans p⟩)
  ·exact .inr (.inl ⟨q1,p2⟩)
  ·exact .inl (q1.trans p2)
  ·exact .inr (.inr ⟨q1,q2.trans p⟩)
  ·exact .inl (q1.trans p2)
  ·exact .inr (.inr ⟨q1,p2⟩)
theorem Jn.same {es:List (Int × Int)}{T U:List Int}{e:Int}(hs:∀ x ∈ U,x ∈ T∨x=e)(hj:Jn es T (enA es e) (enB es e)){u v:Nat}(h:Jn es U u v):Jn es T u v:=by
 rcases Jn.add hs h with q | ⟨q1,q2⟩ | ⟨q1,q2⟩
 ·exact q
 ·exact q1.trans (hj.trans q2)
 ·exact q1.trans (hj.symm.trans q2)
theorem Jn.nil {es:List (Int × Int)}{x y:Nat}(h:Jn es [] x y):x=y:=by
 induction h with
 | refl=>rfl
 | edge e h=>simp at h
 | symm _ ih=>exact ih.symm
 | trans _ _ i1 i2=>exact i1.trans i2
def EndsIn (es:List (Int × Int))(T:List Int)(n:Nat):Prop:=∀ e ∈ T,enA es e<n/\enB es e<n
theorem Jn.in_ {es:List (Int × Int)}{T:List Int}{n:Nat}(hT:EndsIn es T n){x y:Nat}(h:Jn es T x y):x<n↔y<n:=by
 induction h with
 | refl=>exact Iff.rfl
 | edge e h=>exact ⟨fun _=>(hT e h).2,fun _=>(hT e h).1⟩
 | symm _ ih=>exact ih.symm
 | trans _ _ i1 i2=>exact i1.trans i2
theorem cls_nil (es:List (Int × Int))(n:Nat):cls (Jn es []) n=n:=by
 have:∀ x,Mn (Jn es []) x:=fun x y h=>Nat.le_of_eq h.nil
 unfold cls
 rw [List.countP_eq_length.2 (fun x _=>by simpa using this x),List.length_range]
theorem cls_add {es:List (Int × Int)}{T U:List Int}{e:Int}(hs:∀ x ∈ U,x ∈ T∨x=e)(n:Nat):cls (Jn es T) n<=cls (Jn es U) n+1 :=
 cls_join (a:=enA es e) (b:=enB es e) (fun x=>.refl x) (fun h=>h.symm) (fun h k=>h.trans k) (fun h=>Jn.add hs h)
theorem cls_eq {R R':Nat->Nat->Prop}{n:Nat}(h:∀ x y,R x y↔R' x y):cls R n=cls R' n:=by
 have:R=R':=by funext x y;exact propext (h x y)
 rw [this]
theorem cls_le (es:List (Int × Int))(n:Nat):∀ T:List Int,n<=cls (Jn es T) n+T.length
 | []=>by rw [cls_nil];simp
 | e :: T=>by
  have h1:=cls_le es n T
  have h2:=cls_add (es:=es) (T:=T) (U:=e :: T) (e:=e) (fun x hx=>(List.mem_cons.1 hx).symm) n
  simp only [List.length_cons];omega
theorem cls_two {es:List (Int × Int)}{T U:List Int}{e:Int}{n:Nat}(hs:∀ x ∈ T,x ∈ U)(he:e ∈ U)(ha:enA es e<n)(hb:enB es e<n)(hn:¬ Jn es T (enA es e) (enB es e)):cls (Jn es U) n+1<=cls (Jn es T) n:=by
 obtain ⟨ma,a1,a2⟩:=least_of (P:=fun x=>Jn es T (enA es e) x) _ (.refl _)
 obtain ⟨mb,b1,b2⟩:=least_of (P:=fun x=>Jn es T (enB es e) x) _ (.refl _)
 have la:=a2 _ (.refl _)
 have lb:=b2 _ (.refl _)
 have hne:ma ≠ mb:=fun q=>hn (by subst q;exact a1.trans b1.symm)
 have hU:Jn es U ma mb:=(a1.mono hs).symm.trans ((Jn.edge e he).trans (b1.mono hs))
 by_cases g:ma<mb
 ·exact cls_more (m:=mb) (by omega) (fun x hx y hy=>hx y (hy.mono hs)) (fun y hy=>b2 y (b1.trans hy)) (fun q=>by have:=q ma hU.symm;omega)
 ·exact cls_more (m:=ma) (by omega) (fun x hx y hy=>hx y (hy.mono hs)) (fun y hy=>a2 y (a1.trans hy)) (fun q=>by have:=q mb hU;omega)
def Conn (es:List (Int × Int))(T:List Int)(n:Nat):Prop:=∀ x y,x<n->y<n->Jn es T x y
theorem conn_cls {es:List (Int × Int)}{T:List Int}{n:Nat}(h:Conn es T n):cls (Jn es T) n<=1:=by
 unfold cls
 have key:∀ k,k<=n->(List.range k).countP (fun x=>@decide (Mn (Jn es T) x) (Classical.propDecidable _))<=1:=by
  intro k
  induction k with
  | zero=>intro _;simp
  | succ k ih =>
   intro hk
   rw [List.range_succ,List.countP_append]
   by_cases g:k=0
   ·subst g;simp [List.countP_cons];split <;> omega
   ·have hm:¬ Mn (Jn es T) k:=fun q=>by have:=q 0 (h k 0 (by omega) (by omega));omega
    have hi:=ih (by omega)
    have hz:List.countP (fun x=>@decide (Mn (Jn es T) x) (Classical.propDecidable _)) [k]=0:=by
     rw [List.countP_eq_zero]
     intro x hx
     rw [List.mem_singleton] at hx
     subst hx
     simpa using hm
    omega
 exact key n (Nat.le_refl _)
theorem cls_conn {es:List (Int × Int)}{T:List Int}{n:Nat}(h:cls (Jn es T) n<=1):Conn es T n:=by
 intro x y hx hy
 refine Classical.byContradiction fun hn=>?_
 obtain ⟨mx,a1,a2⟩:=least_of (P:=fun z=>Jn es T x z) _ (.refl _)
 obtain ⟨my,b1,b2⟩:=least_of (P:=fun z=>Jn es T y z) _ (.refl _)
 have la:=a2 _ (.refl _)
 have lb:=b2 _ (.refl _)
 have hne:mx ≠ my:=fun q=>hn (by subst q;exact a1.trans b1.symm)
 have m1:Mn (Jn es T) mx:=fun z hz=>a2 z (a1.trans hz)
 have m2:Mn (Jn es T) my:=fun z hz=>b2 z (b1.trans hz)
 have:2<=cls (Jn es T) n:=by
  unfold cls
  have key:∀ l:List Nat,l.Nodup->(if mx ∈ l then 1 else 0)+(if my ∈ l then 1 else 0)<=l.countP (fun x=>@decide (Mn (Jn es T) x) (Classical.propDecidable _)):=by
   intro l
   induction l with
   | nil=>intro _;simp
   | cons z l ih =>
    intro hn'
    have hz:=List.nodup_cons.1 hn'
    have ih:=ih hz.2
    rw [List.countP_cons]
    by_cases e1:z=mx
    ·subst e1
     have d1:@decide (Mn (Jn es T) z) (Classical.propDecidable _)=true:=by simpa using m1
     rw [if_neg hz.1] at ih
     have d2:(my ∈ z :: l)=(my ∈ l):=by rw [List.mem_cons];exact propext ⟨fun q=>q.resolve_left (fun q=>hne q.symm),.inr⟩
     simp only [d2,d1,if_true,List.mem_cons,true_or]
     omega
    ·by_cases e2:z=my
     ·subst e2
      have d1:@decide (Mn (Jn es T) z) (Classical.propDecidable _)=true:=by simpa using m2
      rw [if_neg hz.1] at ih
      have d2:(mx ∈ z :: l)=(mx ∈ l):=by rw [List.mem_cons];exact propext ⟨fun q=>q.resolve_left (fun q=>e1 q.symm),.inr⟩
      simp only [d2,d1,if_true,List.mem_cons,true_or]
      omega
     ·have d1:(mx ∈ z :: l)=(mx ∈ l):=by rw [List.mem_cons];exact propext ⟨fun q=>q.resolve_left (fun q=>e1 q.symm),.inr⟩
      have d2:(my ∈ z :: l)=(my ∈ l):=by rw [List.mem_cons];exact propext ⟨fun q=>q.resolve_left (fun q=>e2 q.symm),.inr⟩
      simp only [d1,d2]
      exact Nat.le_trans ih (Nat.le_add_right _ _)
  have:=key (List.range n) List.nodup_range
  rw [if_pos (List.mem_range.2 (by omega)),if_pos (List.mem_range.2 (by omega))] at this
  exact this
 omega
def wo1 (T:List Int)(e:Int):List Int:=T.filter fun y=>decide (y ≠ e)
theorem wo1_mem {T:List Int}{e x:Int}:x ∈ wo1 T e↔x ∈ T/\x ≠ e:=by simp [wo1]
theorem wo1_len {T:List Int}(hn:T.Nodup){e:Int}(he:e ∈ T):(wo1 T e).length+1=T.length:=by
 induction T with
 | nil=>simp at he
 | cons x T ih =>
  have hx:=List.nodup_cons.1 hn
  by_cases g:x=e
  ·subst g
   have:wo1 (x :: T) x=T:=by
    unfold wo1
    rw [List.filter_cons]
    simp only [ne_eq,not_true_eq_false,decide_false,Bool.false_eq_true,if_false]
    rw [List.filter_eq_self]
    intro y hy
    simp only [decide_eq_true_eq]
    exact fun q=>hx.1 (q ▸ hy)
   rw [this];rfl
  ·have:wo1 (x :: T) e=x :: wo1 T e:=by unfold wo1;rw [List.filter_cons];simp [g]
   rw [this]
   have:=ih hx.2 ((List.mem_cons.1 he).resolve_left (fun q=>g q.symm))
   simp only [List.length_cons];omega
structure Tree (es:List (Int × Int)) (T:List Int) (n:Nat):Prop where
 nd:T.Nodup
 len:T.length+1=n
 conn:Conn es T n
 ends:EndsIn es T n
theorem Tree.cover {es:List (Int × Int)}{T:List Int}{n:Nat}(h:Tree es T n){e:Int}:∀ x ∈ T,x ∈ wo1 T e∨x=e:=fun x hx=>by
 by_cases g:x=e
 ·exact .inr g
 ·exact .inl (wo1_mem.2 ⟨hx,g⟩)
theorem Tree.bridge {es:List (Int × Int)}{T:List Int}{n:Nat}(h:Tree es T n){e:Int}(he:e ∈ T):¬ Jn es (wo1 T e) (enA es e) (enB es e):=by
 intro hj
 have c:Conn es (wo1 T e) n:=fun x y hx hy=>Jn.same h.cover hj (h.conn x y hx hy)
 have h1:=conn_cls c
 have h2:=cls_le es n (wo1 T e)
 have h3:=wo1_len h.nd he
 have h4:=h.len
 omega
theorem Tree.split {es:List (Int × Int)}{T:List Int}{n:Nat}(h:Tree es T n){e:Int}(he:e ∈ T){x:Nat}(hx:x<n):Jn es (wo1 T e) x (enA es e)∨Jn es (wo1 T e) x (enB es e):=by
 rcases Jn.add h.cover (h.conn x (enA es e) hx (h.ends e he).1) with q | ⟨q,_⟩ | ⟨q,_⟩
 ·exact .inl q
 ·exact .inl q
 ·exact .inr q
theorem Tree.cut {es:List (Int × Int)}{T:List Int}{n:Nat}(h:Tree es T n){e:Int}(he:e ∈ T){u v:Nat}(hu:u<n)(hv:v<n):¬ Jn es (wo1 T e) u v↔¬ (Jn es (wo1 T e) (enA es e) u↔Jn es (wo1 T e) (enA es e) v):=by
 constructor
 ·intro hn hiff
  by_cases g:Jn es (wo1 T e) (enA es e) u
  ·exact hn (g.symm.trans (hiff.1 g))
  ·have g2:¬ Jn es (wo1 T e) (enA es e) v:=fun q=>g (hiff.2 q)
   have a:=(h.split he hu).resolve_left fun q=>g q.symm
   have b:=(h.split he hv).resolve_left fun q=>g2 q.symm
   exact hn (a.trans b.symm)
 ·intro hn hj
  exact hn ⟨fun q=>q.trans hj,fun q=>q.trans hj.symm⟩
def Cir (es:List (Int × Int))(T:List Int)(f e:Int):Prop:=e ∈ T/\¬ Jn es (wo1 T e) (enA es f) (enB es f)
theorem Tree.swap {es:List (Int × Int)}{T U:List Int}{n:Nat}(h:Tree es T n){e f:Int}(hc:Cir es T f e)(hf:f ∉ T)(hfe:enA es f<n/\enB es f<n)(hU:U.Perm (wo1 T e ++ [f])):Tree es U n:=by
 have hm:∀ x,x ∈ U↔x ∈ wo1 T e∨x=f:=fun x=>by rw [hU.mem_iff];simp
 have sub:∀ x ∈ wo1 T e,x ∈ U:=fun x hx=>(hm x).2 (.inl hx)
 have hfU:f ∈ U:=(hm f).2 (.inr rfl)
 have hab:Jn es U (enA es e) (enB es e):=by
  have hf1:Jn es U (enA es f) (enB es f):=.edge f hfU
  have hb:=h.split hc.1 hfe.1
  have hb2:=h.split hc.1 hfe.2
  rcases hb with q | q <;> rcases hb2 with p | p
  ·exact absurd (q.trans p.symm) hc.2
  ·exact (q.mono sub).symm.trans (hf1.trans (p.mono sub))
  ·exact (p.mono sub).symm.trans (hf1.symm.trans (q.mono sub))
  ·exact absurd (q.trans p.symm) hc.2
 have hall:∀ x,x<n->Jn es U x (enA es e):=fun x hx=>by
  rcases h.split hc.1 hx with q | q
  ·exact q.mono sub
  ·exact (q.mono sub).trans hab.symm
 refine ⟨?_,?_,fun x y hx hy=>(hall x hx).trans (hall y hy).symm,fun x hx=>?_⟩
 ·rw [hU.nodup_iff,List.nodup_append]
  refine ⟨h.nd.sublist List.filter_sublist,by simp,fun a ha b hb=>?_⟩
  rw [List.mem_singleton] at hb
  subst hb
  exact fun q=>hf (q ▸ (wo1_mem.1 ha).1)
 ·rw [hU.length_eq,List.length_append]
  have:=wo1_len h.nd hc.1
  have:=h.len
  simp only [List.length_cons,List.length_nil];omega
 ·rcases (hm x).1 hx with q | q
  ·exact h.ends x (wo1_mem.1 q).1
  ·subst q;exact hfe
theorem Tree.noswap {es:List (Int × Int)}{T U:List Int}{n:Nat}(h:Tree es T n){e f:Int}(he:e ∈ T)(hc:¬ Cir es T f e)(hU:∀ x ∈ U,x ∈ wo1 T e∨x=f):¬ Conn es U n:=by
 intro hcn
 have hj:Jn es (wo1 T e) (enA es f) (enB es f):=Classical.byContradiction fun q=>hc ⟨he,q⟩
 exact h.bridge he (Jn.same hU hj (hcn _ _ (h.ends e he).1 (h.ends e he).2))
theorem Tree.round {es:List (Int × Int)}{T:List Int}{n:Nat}(h:Tree es T n){f:Int}(hfe:enA es f<n/\enB es f<n){C:List Int}(hC:∀ e,Cir es T f e->e ∈ C):Jn es C (enA es f) (enB es f):=by
 have key:∀ (k:Nat) (S:List Int),(∀ e ∈ S,e ∈ T)->S.Nodup->S.length=k->Jn es S (enA es f) (enB es f)->Jn es C (enA es f) (enB es f):=by
  intro k
  induction k with
  | zero =>
   intro S _ _ hl hj
   rw [List.eq_nil_of_length_eq_zero hl] at hj
   exact hj.mono (fun e he=>by simp at he)
  | succ k ih =>
   intro S hS hnd hl hj
   by_cases g:∀ e ∈ S,Cir es T f e
   ·exact hj.mono fun e he=>hC e (g e he)
   ·obtain ⟨e,he,hce⟩:∃ e,e ∈ S/\¬ Cir es T f e:=by
     refine Classical.byContradiction fun q=>g fun e he=>Classical.byContradiction fun q2=>q ⟨e,he,q2⟩
    have hTe:=hS e he
    have huv:Jn es (wo1 T e) (enA es f) (enB es f):=Classical.byContradiction fun q=>hce ⟨hTe,q⟩
    have sub:∀ x ∈ wo1 S e,x ∈ wo1 T e:=fun x hx=>wo1_mem.2 ⟨hS x (wo1_mem.1 hx).1,(wo1_mem.1 hx).2⟩
    have cov:∀ x ∈ S,x ∈ wo1 S e∨x=e:=fun x hx=>by
     by_cases g:x=e
     ·exact .inr g
     ·exact .inl (wo1_mem.2 ⟨hx,g⟩)
    refine ih (wo1 S e) (fun x hx=>hS x (wo1_mem.1 hx).1) (hnd.sublist List.filter_sublist) (by have:=wo1_len hnd he;omega) ?_
    rcases Jn.add cov hj with q | ⟨q1,q2⟩ | ⟨q1,q2⟩
    ·exact q
    ·exact absurd ((q1.mono sub).symm.trans (huv.trans (q2.mono sub).symm)) (h.bridge hTe)
    ·exact absurd ((q2.mono sub).trans (huv.symm.trans (q1.mono sub))) (h.bridge hTe)
 exact key T.length T (fun _ h=>h) h.nd rfl (h.conn _ _ hfe.1 hfe.2)
theorem tree_iff {es:List (Int × Int)}{T:List Int}{n:Nat}(hnd:T.Nodup)(hl:T.length+1=n)(he:EndsIn es T n) :
  (∀ k,k<T.length->¬ Jn es (T.take k) (enA es (T.getD k 0)) (enB es (T.getD k 0)))↔Conn es T n:=by
 have gm:∀ k,k<T.length->T.take (k+1)=T.take k ++ [T.getD k 0]:=fun k hk=>by
  rw [List.take_succ_eq_append_getElem hk];simp [hk]
 have gin:∀ k,k<T.length->T.getD k 0 ∈ T:=fun k hk=>by simp [hk]
 constructor
 ·intro h
  have key:∀ k,k<=T.length->cls (Jn es (T.take k)) n+k<=n:=by
   intro k
   induction k with
   | zero=>intro _;rw [List.take_zero,cls_nil];omega
   | succ k ih =>
    intro hk
    have:=ih (by omega)
    have:=cls_two (es:=es) (T:=T.take k) (U:=T.take (k+1)) (e:=T.getD k 0) (n:=n) (fun x hx=>by rw [gm k hk];simp [hx]) (by rw [gm k hk];simp) (he _ (gin k hk)).1 (he _ (gin k hk)).2 (h k hk)
    omega
  have:=key T.length (Nat.le_refl _)
  rw [List.take_length] at this
  exact cls_conn (by omega)
 ·intro hc k hk hj
  have key:∀ d,k+1+d<=T.length->n<=cls (Jn es (T.take (k+1+d))) n+k+d:=by
   intro d
   induction d with
   | zero =>
    intro _
    have h1:=cls_le es n (T.take k)
    rw [List.length_take,Nat.min_eq_left (by omega)] at h1
    have:cls (Jn es (T.take (k+1))) n=cls (Jn es (T.take k)) n:=cls_eq fun x y=>⟨fun q=>Jn.same (e:=T.getD k 0) (fun z hz=>by rw [gm k hk] at hz;simpa using hz) hj q,fun q=>q.mono fun z hz=>by rw [gm k hk];simp [hz]⟩
    rw [Nat.add_zero,this];omega
   | succ d ih =>
    intro hd
    have:=ih (by omega)
    have h2:=cls_add (es:=es) (T:=T.take (k+1+d)) (U:=T.take (k+1+(d+1))) (e:=T.getD (k+1+d) 0) (fun z hz=>by
     rw [show k+1+(d+1)=(k+1+d)+1 from rfl,gm _ (by omega)] at hz;simpa using hz) n
    omega
  have h3:=key (T.length - (k+1)) (by omega)
  rw [show k+1+(T.length - (k+1))=T.length from by omega,List.take_length] at h3
  have:=conn_cls hc
  omega
def bfsIn (d:Int):List Int->List Int × List Int->List Int × List Int
 | [],st=>st
 | j :: r,st=>if st.1.getD j.toNat 0<0 then bfsIn d r (st.1.set j.toNat d,st.2 ++ [j]) else bfsIn d r st
def bfsF (L:List (List Int)):Nat->List Int × List Int->Nat->List Int
 | 0,st,_=>st.1
 | f+1,st,k=>if k<st.2.length then bfsF L f (bfsIn (st.1.getD (st.2.getD k 0).toNat 0+1) (L.getD (st.2.getD k 0).toNat []) st) (k+1) else st.1
def bfs0 (N i:Nat):List Int:=(List.replicate N (-1)).set i 0
def bfs (L:List (List Int))(i:Nat):List Int:=bfsF L (L.length+1) (bfs0 L.length i,[(i:Int)]) 0
def LOk (N:Nat)(L:List (List Int)):Prop:=∀ i,∀ y ∈ L.getD i [],0<=y/\y<N
structure BI (N:Nat) (st:List Int × List Int):Prop where
 len:st.1.length=N
 q:∀ x ∈ st.2,(0<=x/\x<N)/\0<=st.1.getD x.toNat 0
 lo:∀ v,v<N -> -1<=st.1.getD v 0/\st.1.getD v 0<st.2.length
 cnt:st.2.length+st.1.countP (·<0)=N
theorem countP_set_neg (xs:List Int)(j:Nat)(d:Int)(hj:j<xs.length)(h:xs.getD j 0<0)(hd:0<=d):(xs.set j d).countP (·<0)+1=xs.countP (·<0):=by
 induction xs generalizing j with
 | nil=>simp at hj
 | cons x xs ih =>
  cases j with
  | zero =>
   have hx:x<0:=by simpa using h
   simp only [List.set_cons_zero,List.countP_cons]
   simp only [decide_eq_true_eq]
   rw [if_neg (by omega),if_pos hx]
  | succ j =>
   have:=ih j (by simpa using hj) (by simpa using h)
   simp only [List.set_cons_succ,List.countP_cons]
   omega
theorem BI.len_le {N:Nat}{st:List Int × List Int}(h:BI N st):st.2.length<=N:=by have:=h.cnt;omega
theorem getD_setB (xs:List Int)(j v:Nat)(d:Int)(hv:v<xs.length):(xs.set j d).getD v 0=if j=v then d else xs.getD v 0:=by
 rw [List.getD_eq_getElem?_getD,List.getD_eq_getElem?_getD,List.getElem?_set]
 by_cases h:j=v
 ·subst h;rw [if_pos rfl,if_pos rfl,if_pos hv];rfl
 ·rw [if_neg h,if_neg h]
theorem BI.put {N:Nat}{st:List Int × List Int}(h:BI N st){j d:Int}(hj:0<=j/\j<N)(hn:st.1.getD j.toNat 0<0)(hd:0<=d/\d<=st.2.length):BI N (st.1.set j.toNat d,st.2 ++ [j]):=by
 have hl:=h.len
 refine ⟨by simp [hl],?_,?_,?_⟩
 ·intro x hx
  simp only [List.mem_append,List.mem_cons,List.not_mem_nil,or_false] at hx
  rcases hx with hx | rfl
  ·obtain ⟨h1,h2⟩:=h.q x hx
   refine ⟨h1,?_⟩
   show 0<=(st.1.set j.toNat d).getD x.toNat 0
   rw [getD_setB _ _ _ _ (by omega)]
   split <;> omega
  ·refine ⟨hj,?_⟩
   show 0<=(st.1.set x.toNat d).getD x.toNat 0
   rw [getD_setB _ _ _ _ (by omega),if_pos rfl];omega
 ·intro v hv
  have:=h.lo v hv
  show -1<=(st.1.set j.toNat d).getD v 0/\(st.1.set j.toNat d).getD v 0<((st.2 ++ [j]).length:Nat)
  rw [getD_setB _ _ _ _ (by omega)]
  simp only [List.length_append,List.length_cons,List.length_nil]
  split <;> omega
 ·have:=countP_set_neg st.1 j.toNat d (by omega) hn hd.1
  have:=h.cnt
  show (st.2 ++ [j]).length+(st.1.set j.toNat d).countP (·<0)=N
  simp only [List.length_append,List.length_cons,List.length_nil]
  omega
theorem bfs0_BI (N i:Nat)(hi:i<N):BI N (bfs0 N i,[(i:Int)]):=by
 have hat:∀ v,v<N->(bfs0 N i).getD v 0=if i=v then 0 else -1:=by
  intro v hv
  unfold bfs0
  rw [getD_setB _ _ _ _ (by simpa using hv)]
  split
  ·rfl
  ·rw [List.getD_eq_getElem?_getD,List.getElem?_replicate,if_pos hv];rfl
 refine ⟨by simp [bfs0],?_,?_,?_⟩
 ·intro x hx
  simp only [List.mem_cons,List.not_mem_nil,or_false] at hx
  subst hx
  refine ⟨by omega,?_⟩
  show 0<=(bfs0 N i).getD (i:Int).toNat 0
  rw [Int.toNat_natCast,hat i hi,if_pos rfl];omega
 ·intro v hv
  show -1<=(bfs0 N i).getD v 0/\(bfs0 N i).getD v 0<_
  rw [hat v hv]
  simp only [List.length_cons,List.length_nil]
  split <;> omega
 ·show [(i:Int)].length+(bfs0 N i).countP (·<0)=N
  have:=countP_set_neg (List.replicate N (-1)) i 0 (by simpa using hi) (by rw [List.getD_eq_getElem?_getD,List.getElem?_replicate,if_pos hi];decide) (by omega)
  have h2:(List.replicate N (-1:Int)).countP (·<0)=N:=by rw [List.countP_replicate];simp
  unfold bfs0
  simp only [List.length_cons,List.length_nil]
  omega
theorem BI.inn {N:Nat}{d:Int}:∀ (l:List Int) {st:List Int × List Int},BI N st->(∀ y ∈ l,0<=y/\y<N)->(0<=d/\d<=st.2.length)->BI N (bfsIn d l st)
 | [],st,h,_,_=>h
 | j :: r,st,h,hl,hd=>by
  simp only [bfsIn]
  split
  ·rename_i hn
   refine BI.inn r (h.put (hl j (by simp)) hn hd) (fun y hy=>hl y (by simp [hy])) ?_
   simp only [List.length_append,List.length_cons,List.length_nil]
   omega
  ·exact BI.inn r h (fun y hy=>hl y (by simp [hy])) hd
theorem bfsF_done (L:List (List Int))(f:Nat)(st:List Int × List Int)(k:Nat)(h:st.2.length<=k):bfsF L f st k=st.1:=by
 cases f with
 | zero=>rfl
 | succ f=>simp only [bfsF];rw [if_neg (by omega)]
theorem bfsF_step (L:List (List Int))(f:Nat)(st:List Int × List Int)(k:Nat)(h:k<st.2.length):bfsF L (f+1) st k=bfsF L f (bfsIn (st.1.getD (st.2.getD k 0).toNat 0+1) (L.getD (st.2.getD k 0).toNat []) st) (k+1):=by
 simp only [bfsF];rw [if_pos h]
theorem bfsIn_pre (d:Int):∀ (l:List Int) (st:List Int × List Int),st.2<+:(bfsIn d l st).2
 | [],st=>List.prefix_refl _
 | j :: r,st=>by
  simp only [bfsIn]
  split
  ·exact (List.prefix_append st.2 [j]).trans (bfsIn_pre d r (st.1.set j.toNat d,st.2 ++ [j]))
  ·exact bfsIn_pre d r st
theorem bfs_BI (L:List (List Int))(hL:LOk L.length L):∀ (f:Nat) (st:List Int × List Int) (k:Nat),BI L.length st->∃ q,BI L.length (bfsF L f st k,q)
 | 0,st,k,h=>⟨st.2,h⟩
 | f+1,st,k,h=>by
  simp only [bfsF]
  split
  ·rename_i hk
   have hm:st.2.getD k 0 ∈ st.2:=by simp [hk]
   obtain ⟨h1,h2⟩:=h.q _ hm
   have h3:=h.lo (st.2.getD k 0).toNat (by omega)
   exact bfs_BI L hL f _ _ (BI.inn _ h (hL _) (by omega))
  ·exact ⟨st.2,h⟩
theorem bfs_rng (L:List (List Int))(hL:LOk L.length L)(i:Nat)(hi:i<L.length):(bfs L i).length=L.length/\∀ v,v<L.length -> -1<=(bfs L i).getD v 0/\(bfs L i).getD v 0<L.length:=by
 obtain ⟨q,h⟩:=bfs_BI L hL (L.length+1) _ 0 (bfs0_BI L.length i hi)
 have:=h.len_le
 refine ⟨h.len,fun v hv=>?_⟩
 have:=h.lo v hv
 exact ⟨this.1,by have h2:(bfs L i).getD v 0<(q.length:Int):=this.2;have h3:q.length<=L.length:=h.len_le;omega⟩
def put:List Int->Int->List Int
 | [],x=>[x]
 | y :: ys,x=>if y<x then y :: put ys x else if y=x then y :: ys else x :: y :: ys
theorem putAt_eq0 (l:List Int)(x:Int):∀ k,k<=l.length->(∀ j,j<k->l.getD j 0<x)->(k<l.length->x<=l.getD k 0)->put l x=if k<l.length/\l.getD k 0=x then l else l.take k ++ x :: l.drop k:=by
 induction l with
 | nil=>intro k hk _ _;simp at hk;subst hk;simp [put]
 | cons y ys ih =>
  intro k hk h1 h2
  cases k with
  | zero =>
   have:=h2 (by simp)
   simp only [List.getD_cons_zero] at this
   simp only [put]
   rw [if_neg (by omega)]
   by_cases e:y=x
   ·rw [if_pos e,if_pos ⟨by simp,by simpa using e⟩]
   ·rw [if_neg e,if_neg (by rintro ⟨_,h⟩;exact e (by simpa using h))];simp
  | succ k =>
   have:=h1 0 (by omega)
   simp only [List.getD_cons_zero] at this
   simp only [put]
   rw [if_pos this,ih k (by simpa using hk) (fun j hj=>by have:=h1 (j+1) (by omega);simpa using this) (fun hkk=>by have:=h2 (by simp;omega);simpa using this)]
   by_cases c:k<ys.length/\ys.getD k 0=x
   ·rw [if_pos c,if_pos (by simpa using c)]
   ·rw [if_neg c,if_neg (by simpa using c)];simp
theorem put_perm (l:List Int)(x:Int)(h:x ∉ l):(put l x).Perm (x :: l):=by
 induction l with
 | nil=>exact List.Perm.refl _
 | cons y ys ih =>
  simp only [List.mem_cons,not_or] at h
  simp only [put]
  split
  ·exact ((ih h.2).cons y).trans (List.Perm.swap x y ys)
  ·rw [if_neg (fun e=>h.1 e.symm)]
theorem put_mem (l:List Int)(x y:Int):y ∈ put l x↔y=x∨y ∈ l:=by
 induction l with
 | nil=>simp [put]
 | cons z zs ih =>
  simp only [put]
  split
  ·simp only [List.mem_cons,ih]
   constructor
   ·rintro (h | h | h)
    ·exact .inr (.inl h)
    ·exact .inl h
    ·exact .inr (.inr h)
   ·rintro (h | h | h)
    ·exact .inr (.inl h)
    ·exact .inl h
    ·exact .inr (.inr h)
  ·split
   ·rename_i h1 h2
    subst h2
    simp
   ·simp
theorem put_sorted (l:List Int)(x:Int)(h:l.Pairwise (· < ·)):(put l x).Pairwise (· < ·):=by
 induction l with
 | nil=>simp [put]
 | cons y ys ih =>
  simp only [List.pairwise_cons] at h
  simp only [put]
  split
  ·rename_i h1
   rw [List.pairwise_cons]
   refine ⟨fun z hz=>?_,ih h.2⟩
   rcases (put_mem ys x z).1 hz with e | e
   ·rw [e];exact h1
   ·exact h.1 z e
  ·split
   ·rw [List.pairwise_cons];exact h
   ·rename_i h1 h2
    rw [List.pairwise_cons]
    refine ⟨fun z hz=>?_,by rw [List.pairwise_cons];exact h⟩
    rcases List.mem_cons.1 hz with e | e
    ·rw [e];omega
    ·have:=h.1 z e;omega
def puts (xs:List Int):List Int:=xs.foldl put []
theorem puts_step (xs:List Int)(x:Int):puts (xs ++ [x])=put (puts xs) x:=by simp [puts]
theorem puts_perm:∀ (n:Nat) (xs:List Int),xs.length=n->xs.Nodup->(puts xs).Perm xs/\(puts xs).Pairwise (· < ·):=by
 intro n
 induction n with
 | zero=>intro xs h _;have:xs=[]:=List.eq_nil_of_length_eq_zero h;subst this;exact ⟨List.Perm.refl _,List.Pairwise.nil⟩
 | succ n ih =>
  intro xs h hn
  rcases List.eq_nil_or_concat xs with e | ⟨ys,x,e⟩
  ·subst e;simp at h
  ·subst e
   rw [List.concat_eq_append] at h hn ⊢
   have hn':=List.nodup_append.1 hn
   obtain ⟨i1,i2⟩:=ih ys (by simpa using h) hn'.1
   have hx:x ∉ ys:=fun hm=>hn'.2.2 x hm x (by simp) rfl
   have hx2:x ∉ puts ys:=fun hm=>hx (i1.mem_iff.1 hm)
   rw [puts_step]
   refine ⟨?_,put_sorted _ _ i2⟩
   exact (put_perm _ _ hx2).trans ((i1.cons x).trans (List.perm_append_singleton x ys).symm)
def ptIn:List Int->List Bool × List Int->List Bool × List Int
 | [],st=>st
 | j :: r,st=>if st.1.getD j.toNat false=true then ptIn r st else ptIn r (st.1.set j.toNat true,st.2 ++ [j])
def ptF (L:List (List Int)):Nat->List Bool × List Int->Nat->List Bool × List Int
 | 0,st,_=>st
 | f+1,st,k=>if k<st.2.length then ptF L f (ptIn (L.getD (st.2.getD k 0).toNat []) st) (k+1) else st
structure PI (N C:Nat) (st:List Bool × List Int):Prop where
 len:st.1.length=N
 q:∀ x ∈ st.2,(0<=x/\x<N)/\st.1.getD x.toNat false=true
 nd:st.2.Nodup
 cnt:st.2.length+st.1.countP (fun b=>!b)=C
 le:C<=N
theorem getD_setBool (xs:List Bool)(j v:Nat)(d:Bool)(hv:v<xs.length):(xs.set j d).getD v false=if j=v then d else xs.getD v false:=by
 rw [List.getD_eq_getElem?_getD,List.getD_eq_getElem?_getD,List.getElem?_set]
 by_cases h:j=v
 ·subst h;rw [if_pos rfl,if_pos rfl,if_pos hv];rfl
 ·rw [if_neg h,if_neg h]
theorem countP_set_true:∀ (xs:List Bool) (j:Nat),j<xs.length->xs.getD j false=false->(xs.set j true).countP (fun b=>!b)+1=xs.countP (fun b=>!b)
 | [],j,h,_=>by simp at h
 | x :: xs,0,_,h=>by
  have hx:x=false:=by simpa using h
  subst hx
  simp [List.countP_cons]
 | x :: xs,j+1,hj,h=>by
  have:=countP_set_true xs j (by simpa using hj) (by simpa using h)
  simp only [List.set_cons_succ,List.countP_cons]
  omega
theorem PI.len_le {N C:Nat}{st:List Bool × List Int}(h:PI N C st):st.2.length<=N:=by have:=h.cnt;have:=h.le;omega
theorem PI.put {N C:Nat}{st:List Bool × List Int}(h:PI N C st){j:Int}(hj:0<=j/\j<N)(hn:¬ st.1.getD j.toNat false=true):PI N C (st.1.set j.toNat true,st.2 ++ [j]):=by
 have hl:=h.len
 have hf:st.1.getD j.toNat false=false:=by simpa using hn
 refine ⟨by simp [hl],?_,?_,?_,h.le⟩
 ·intro x hx
  simp only [List.mem_append,List.mem_cons,List.not_mem_nil,or_false] at hx
  rcases hx with hx | rfl
  ·obtain ⟨h1,h2⟩:=h.q x hx
   refine ⟨h1,?_⟩
   show (st.1.set j.toNat true).getD x.toNat false=true
   rw [getD_setBool _ _ _ _ (by omega)]
   split
   ·rfl
   ·exact h2
  ·refine ⟨hj,?_⟩
   show (st.1.set x.toNat true).getD x.toNat false=true
   rw [getD_setBool _ _ _ _ (by omega),if_pos rfl]
 ·rw [List.nodup_append]
  refine ⟨h.nd,by simp,?_⟩
  intro a ha b hb hab
  simp only [List.mem_cons,List.not_mem_nil,or_false] at hb
  subst hab;subst hb
  exact hn (h.q a ha).2
 ·have:=countP_set_true st.1 j.toNat (by omega) hf
  have:=h.cnt
  show (st.2 ++ [j]).length+(st.1.set j.toNat true).countP (fun b=>!b)=C
  simp only [List.length_append,List.length_cons,List.length_nil]
  omega
theorem PI.first {N:Nat}{s:List Bool}(hs:s.length=N){k:Nat}(hk:k<N)(hn:¬ s.getD k false=true):PI N (s.countP fun b=>!b) (s.set k true,[(k:Int)]):=by
 have hf:s.getD k false=false:=by simpa using hn
 refine ⟨by simp [hs],?_,by simp,?_,?_⟩
 ·intro x hx
  simp only [List.mem_cons,List.not_mem_nil,or_false] at hx
  subst hx
  refine ⟨by omega,?_⟩
  show (s.set k true).getD (k:Int).toNat false=true
  rw [Int.toNat_natCast,getD_setBool _ _ _ _ (by omega),if_pos rfl]
 ·have:=countP_set_true s k (by omega) hf
  show [(k:Int)].length+(s.set k true).countP (fun b=>!b)=_
  simp only [List.length_cons,List.length_nil]
  omega
 ·rw [<- hs];exact List.countP_le_length
theorem PI.inn {N C:Nat}:∀ (l:List Int) {st:List Bool × List Int},PI N C st->(∀ y ∈ l,0<=y/\y<N)->PI N C (ptIn l st)
 | [],st,h,_=>h
 | j :: r,st,h,hl=>by
  simp only [ptIn]
  split
  ·exact PI.inn r h (fun y hy=>hl y (by simp [hy]))
  ·rename_i hn
   exact PI.inn r (h.put (hl j (by simp)) hn) (fun y hy=>hl y (by simp [hy]))
theorem ptIn_pre:∀ (l:List Int) (st:List Bool × List Int),st.2<+:(ptIn l st).2
 | [],st=>List.prefix_refl _
 | j :: r,st=>by
  simp only [ptIn]
  split
  ·exact ptIn_pre r st
  ·exact (List.prefix_append st.2 [j]).trans (ptIn_pre r (st.1.set j.toNat true,st.2 ++ [j]))
theorem cs3:Tryz.prog.cellsOf 3=1:=by kernel_rfl
theorem by3:Tryz.prog.bytesOf 3=8:=by kernel_rfl
theorem ag3:isAggA Tryz.prog 3=some false:=by kernel_rfl
theorem ze3:zeroA Tryz.prog 3=some (.int .i64 0):=by kernel_rfl
theorem zk3:zeroOk Tryz.prog 3=true:=by kernel_rfl
theorem ag4:isAggA Tryz.prog 4=some false:=by kernel_rfl
theorem ag5:isAggA Tryz.prog 5=some false:=by kernel_rfl
theorem ag9:isAggA Tryz.prog 9=some false:=by kernel_rfl
theorem cs24:Tryz.prog.cellsOf 24=1:=by kernel_rfl
theorem ag24:isAggA Tryz.prog 24=some false:=by kernel_rfl
theorem cs26:Tryz.prog.cellsOf 26=2:=by kernel_rfl
theorem ag26:isAggA Tryz.prog 26=some true:=by kernel_rfl
theorem cs27:Tryz.prog.cellsOf 27=1:=by kernel_rfl
theorem by27:Tryz.prog.bytesOf 27=24:=by kernel_rfl
theorem ag27:isAggA Tryz.prog 27=some false:=by kernel_rfl
theorem ze27:zeroA Tryz.prog 27=some (.slice none 0 0):=by kernel_rfl
theorem zk27:zeroOk Tryz.prog 27=true:=by kernel_rfl
theorem cs32:Tryz.prog.cellsOf 32=1:=by kernel_rfl
theorem ag32:isAggA Tryz.prog 32=some false:=by kernel_rfl
theorem cs34:Tryz.prog.cellsOf 34=2:=by kernel_rfl
theorem ag34:isAggA Tryz.prog 34=some true:=by kernel_rfl
theorem ag65:isAggA Tryz.prog 65=some false:=by kernel_rfl
theorem ag68:isAggA Tryz.prog 68=some false:=by kernel_rfl
theorem ag76:isAggA Tryz.prog 76=some false:=by kernel_rfl
theorem ag80:isAggA Tryz.prog 80=some false:=by kernel_rfl
theorem ag91:isAggA Tryz.prog 91=some false:=by kernel_rfl
theorem ag94:isAggA Tryz.prog 94=some false:=by kernel_rfl
theorem cs95:Tryz.prog.cellsOf 95=1:=by kernel_rfl
theorem ag95:isAggA Tryz.prog 95=some false:=by kernel_rfl
theorem ze95:zeroA Tryz.prog 95=some (.int .u64 0):=by kernel_rfl
theorem ag97:isAggA Tryz.prog 97=some false:=by kernel_rfl
theorem ag106:isAggA Tryz.prog 106=some false:=by kernel_rfl
theorem ag110:isAggA Tryz.prog 110=some false:=by kernel_rfl
theorem cs115:Tryz.prog.cellsOf 115=2:=by kernel_rfl
theorem by115:Tryz.prog.bytesOf 115=16:=by kernel_rfl
theorem ag115:isAggA Tryz.prog 115=some true:=by kernel_rfl
theorem ze115:zeroA Tryz.prog 115=some (.agg #[(.int .i64 0),(.int .i64 0)]):=by kernel_rfl
theorem zk115:zeroOk Tryz.prog 115=true:=by kernel_rfl
theorem ag117:isAggA Tryz.prog 117=some false:=by kernel_rfl
theorem ag118:isAggA Tryz.prog 118=some false:=by kernel_rfl
theorem ag123:isAggA Tryz.prog 123=some false:=by kernel_rfl
theorem ag126:isAggA Tryz.prog 126=some false:=by kernel_rfl
theorem ag134:isAggA Tryz.prog 134=some false:=by kernel_rfl
theorem ag169:isAggA Tryz.prog 169=some false:=by kernel_rfl
theorem ag180:isAggA Tryz.prog 180=some false:=by kernel_rfl
theorem own1_24 {H0 H:AH}{v:Value}{ps:List (Int × Int)}(h:MineP 115 H0 H v ps)(hp:H0<+:H)(hb:ps.length<=1099511627775)(a b:Int):∃ v' H',appendA Tryz.prog 24 24 v (.slice (some ⟨H.length,0,none⟩) 1 1) (H ++ [.cells [.int .i64 a,.int .i64 b] 115 false])=some (v',H')/\MineP 115 H0 H' v' (ps ++ [(a,b)])/\H0<+:H'/\Kept v H H'/\H.length<=rowO v'/\isTup v'=false:=MineP.app1 Tryz.underlying24 cs115 (by rw [by115];decide) zk115 h hp hb a b
theorem mks27 {n:Int}(h0:0<=n)(h1:n<=1099511627776)(H:AH):makeSliceA Tryz.prog 27 (.int .i64 n) (.int .i64 n) H=some (.slice (some ⟨H.length,0,none⟩) n.toNat n.toNat,H ++ [.cells (ints (List.replicate n.toNat 0)) 3 false]):=mk_ints Tryz.underlying27 cs3 (by rw [by3];decide) ze3 h0 h1 H
theorem own1_27 {H0 H:AH}{v:Value}{ys:List Int}(h:Own 3 H0 H v ys)(hp:H0<+:H)(hb:ys.length<=1099511627775)(x:Int):∃ v' H',appendA Tryz.prog 27 27 v (.slice (some ⟨H.length,0,none⟩) 1 1) (H ++ [.cells [.int .i64 x] 3 false])=some (v',H')/\Own 3 H0 H' v' (ys ++ [x])/\H0<+:H'/\Kept v H H'/\H.length<=rowO v'/\isTup v'=false:=Own.app1 Tryz.underlying27 cs3 (by rw [by3];decide) zk3 h hp hb x
theorem own1_117 {H0 H:AH}{v:Value}{ys:List Int}(h:Own 3 H0 H v ys)(hp:H0<+:H)(hb:ys.length<=1099511627775)(x:Int):∃ v' H',appendA Tryz.prog 117 117 v (.slice (some ⟨H.length,0,none⟩) 1 1) (H ++ [.cells [.int .i64 x] 3 false])=some (v',H')/\Own 3 H0 H' v' (ys ++ [x])/\H0<+:H'/\Kept v H H'/\H.length<=rowO v'/\isTup v'=false:=Own.app1 Tryz.underlying117 cs3 (by rw [by3];decide) zk3 h hp hb x
theorem ST:(∀ p H,loadA Tryz.prog 3 (.pointer (some p)) H=cellA H p.block p.off) /\
    (∀ p H,loadA Tryz.prog 4 (.pointer (some p)) H=cellA H p.block p.off) /\
    (∀ a b,binA Tryz.prog .eql 4 (.bool a) (.bool b)=some (.bool (decide (a=b)))) /\
    (∀ a b,binA Tryz.prog .neq 4 (.bool a) (.bool b)=some (.bool (decide (a ≠ b)))) /\
    (∀ p H,loadA Tryz.prog 5 (.pointer (some p)) H=cellA H p.block p.off) /\
    (∀ p H,loadA Tryz.prog 9 (.pointer (some p)) H=cellA H p.block p.off) /\
    (∀ p H,loadA Tryz.prog 24 (.pointer (some p)) H=cellA H p.block p.off) /\
    (∀ H,buildSliceA Tryz.prog 24 0 [] H=some (.slice (some ⟨H.length,0,none⟩) 0 0,H ++ [.cells [] 115 false])) /\
    (∀ H a b,buildSliceA Tryz.prog 24 1 [(0,.agg (List.toArray [a,b]))] H=some (.slice (some ⟨H.length,0,none⟩) 1 1,H ++ [.cells [a,b] 115 false])) /\
    (∀ (p:Addr) (n c:Nat) (k:IntKind) {i:Int},0<=i->i<(n:Int)->indexAddrA Tryz.prog 24 (.slice (some p) n c) (.int k i)=some (.pointer (some ⟨p.block,p.off+2 * i.toNat,none⟩))) /\
    (∀ a n c m d,binA Tryz.prog .eql 24 (.slice a n c) (.slice none m d)=some (.bool (a.isNone))) /\
    (∀ a n c m d,binA Tryz.prog .neq 24 (.slice a n c) (.slice none m d)=some (.bool (!a.isNone))) /\
    (∀ x H,lenS Tryz.prog 24 x H=lenA Tryz.prog 24 x) /\
    (∀ p n c,lenA Tryz.prog 24 (.slice p n c)=some (.int .i64 n)) /\
    (∀ (p:Addr),fieldAddrA Tryz.prog 26 (.pointer (some p)) 0=some (.pointer (some ⟨p.block,p.off,none⟩))) /\
    (∀ (p:Addr),fieldAddrA Tryz.prog 26 (.pointer (some p)) 1=some (.pointer (some ⟨p.block,p.off+1,none⟩))) /\
    (∀ p H,loadA Tryz.prog 27 (.pointer (some p)) H=cellA H p.block p.off) /\
    (∀ (p:Addr) (n c:Nat) (k:IntKind) {i:Int},0<=i->i<(n:Int)->indexAddrA Tryz.prog 27 (.slice (some p) n c) (.int k i)=some (.pointer (some ⟨p.block,p.off+i.toNat,none⟩))) /\
    (∀ H,buildSliceA Tryz.prog 27 0 [] H=some (.slice (some ⟨H.length,0,none⟩) 0 0,H ++ [.cells [] 3 false])) /\
    (∀ H k0 x0,buildSliceA Tryz.prog 27 1 [(0,(.int k0 x0))] H=some (.slice (some ⟨H.length,0,none⟩) 1 1,H ++ [.cells [(.int k0 x0)] 3 false])) /\
    (∀ H k0 x0 k1 x1,buildSliceA Tryz.prog 27 2 [(0,(.int k0 x0)),(1,(.int k1 x1))] H=some (.slice (some ⟨H.length,0,none⟩) 2 2,H ++ [.cells [(.int k0 x0),(.int k1 x1)] 3 false])) /\
    (∀ H k0 x0 k1 x1 k2 x2,buildSliceA Tryz.prog 27 3 [(0,(.int k0 x0)),(1,(.int k1 x1)),(2,(.int k2 x2))] H=some (.slice (some ⟨H.length,0,none⟩) 3 3,H ++ [.cells [(.int k0 x0),(.int k1 x1),(.int k2 x2)] 3 false])) /\
    (∀ a n c m d,binA Tryz.prog .eql 27 (.slice a n c) (.slice none m d)=some (.bool (a.isNone))) /\
    (∀ a n c m d,binA Tryz.prog .neq 27 (.slice a n c) (.slice none m d)=some (.bool (!a.isNone))) /\
    (∀ x H,lenS Tryz.prog 27 x H=lenA Tryz.prog 27 x) /\
    (∀ p n c,lenA Tryz.prog 27 (.slice p n c)=some (.int .i64 n)) /\
    (∀ p H,loadA Tryz.prog 32 (.pointer (some p)) H=cellA H p.block p.off) /\
    (∀ (p:Addr) (n c:Nat) (k:IntKind) {i:Int},0<=i->i<(n:Int)->indexAddrA Tryz.prog 32 (.slice (some p) n c) (.int k i)=some (.pointer (some ⟨p.block,p.off+i.toNat,none⟩))) /\
    (∀ H,buildSliceA Tryz.prog 32 0 [] H=some (.slice (some ⟨H.length,0,none⟩) 0 0,H ++ [.cells [] 27 false])) /\
    (∀ H p0 n0 c0,buildSliceA Tryz.prog 32 1 [(0,(.slice p0 n0 c0))] H=some (.slice (some ⟨H.length,0,none⟩) 1 1,H ++ [.cells [(.slice p0 n0 c0)] 27 false])) /\
    (∀ H p0 n0 c0 p1 n1 c1,buildSliceA Tryz.prog 32 2 [(0,(.slice p0 n0 c0)),(1,(.slice p1 n1 c1))] H=some (.slice (some ⟨H.length,0,none⟩) 2 2,H ++ [.cells [(.slice p0 n0 c0),(.slice p1 n1 c1)] 27 false])) /\
    (∀ H p0 n0 c0 p1 n1 c1 p2 n2 c2,buildSliceA Tryz.prog 32 3 [(0,(.slice p0 n0 c0)),(1,(.slice p1 n1 c1)),(2,(.slice p2 n2 c2))] H=some (.slice (some ⟨H.length,0,none⟩) 3 3,H ++ [.cells [(.slice p0 n0 c0),(.slice p1 n1 c1),(.slice p2 n2 c2)] 27 false])) /\
    (∀ a n c m d,binA Tryz.prog .eql 32 (.slice a n c) (.slice none m d)=some (.bool (a.isNone))) /\
    (∀ a n c m d,binA Tryz.prog .neq 32 (.slice a n c) (.slice none m d)=some (.bool (!a.isNone))) /\
    (∀ x H,lenS Tryz.prog 32 x H=lenA Tryz.prog 32 x) /\
    (∀ p n c,lenA Tryz.prog 32 (.slice p n c)=some (.int .i64 n)) /\
    (∀ (p:Addr),fieldAddrA Tryz.prog 34 (.pointer (some p)) 0=some (.pointer (some ⟨p.block,p.off,none⟩))) /\
    (∀ (p:Addr),fieldAddrA Tryz.prog 34 (.pointer (some p)) 1=some (.pointer (some ⟨p.block,p.off+1,none⟩))) /\
    (∀ p H,loadA Tryz.prog 65 (.pointer (some p)) H=cellA H p.block p.off) /\
    (∀ p H,loadA Tryz.prog 68 (.pointer (some p)) H=cellA H p.block p.off) /\
    (∀ p H,loadA Tryz.prog 76 (.pointer (some p)) H=cellA H p.block p.off) /\
    (∀ p H,loadA Tryz.prog 80 (.pointer (some p)) H=cellA H p.block p.off) /\
    (∀ p H,loadA Tryz.prog 91 (.pointer (some p)) H=cellA H p.block p.off) /\
    (∀ p H,loadA Tryz.prog 94 (.pointer (some p)) H=cellA H p.block p.off) /\
    (∀ p H,loadA Tryz.prog 95 (.pointer (some p)) H=cellA H p.block p.off) /\
    (∀ p H,loadA Tryz.prog 97 (.pointer (some p)) H=cellA H p.block p.off) /\
    (∀ p H,loadA Tryz.prog 106 (.pointer (some p)) H=cellA H p.block p.off) /\
    (∀ p H,loadA Tryz.prog 110 (.pointer (some p)) H=cellA H p.block p.off) /\
    (∀ (p:Addr) (n c:Nat) (k:IntKind) {i:Int},0<=i->i<(n:Int)->indexAddrA Tryz.prog 110 (.slice (some p) n c) (.int k i)=some (.pointer (some ⟨p.block,p.off+i.toNat,none⟩))) /\
    (∀ H,buildSliceA Tryz.prog 110 0 [] H=some (.slice (some ⟨H.length,0,none⟩) 0 0,H ++ [.cells [] 95 false])) /\
    (∀ H k0 x0,buildSliceA Tryz.prog 110 1 [(0,(.int k0 x0))] H=some (.slice (some ⟨H.length,0,none⟩) 1 1,H ++ [.cells [(.int k0 x0)] 95 false])) /\
    (∀ H k0 x0 k1 x1,buildSliceA Tryz.prog 110 2 [(0,(.int k0 x0)),(1,(.int k1 x1))] H=some (.slice (some ⟨H.length,0,none⟩) 2 2,H ++ [.cells [(.int k0 x0),(.int k1 x1)] 95 false])) /\
    (∀ H k0 x0 k1 x1 k2 x2,buildSliceA Tryz.prog 110 3 [(0,(.int k0 x0)),(1,(.int k1 x1)),(2,(.int k2 x2))] H=some (.slice (some ⟨H.length,0,none⟩) 3 3,H ++ [.cells [(.int k0 x0),(.int k1 x1),(.int k2 x2)] 95 false])) /\
    (∀ a n c m d,binA Tryz.prog .eql 110 (.slice a n c) (.slice none m d)=some (.bool (a.isNone))) /\
    (∀ a n c m d,binA Tryz.prog .neq 110 (.slice a n c) (.slice none m d)=some (.bool (!a.isNone))) /\
    (∀ x H,lenS Tryz.prog 110 x H=lenA Tryz.prog 110 x) /\
    (∀ p n c,lenA Tryz.prog 110 (.slice p n c)=some (.int .i64 n)) /\
    (∀ (p:Addr) (k:IntKind),indexAddrA Tryz.prog 115 (.pointer (some p)) (.int k 0)=some (.pointer (some ⟨p.block,p.off,none⟩))) /\
    (∀ (p:Addr) (k:IntKind),indexAddrA Tryz.prog 115 (.pointer (some p)) (.int k 1)=some (.pointer (some ⟨p.block,p.off+1,none⟩))) /\
    (∀ p H,loadA Tryz.prog 117 (.pointer (some p)) H=cellA H p.block p.off) /\
    (∀ (p:Addr) (n c:Nat) (k:IntKind) {i:Int},0<=i->i<(n:Int)->indexAddrA Tryz.prog 117 (.slice (some p) n c) (.int k i)=some (.pointer (some ⟨p.block,p.off+i.toNat,none⟩))) /\
    (∀ H,buildSliceA Tryz.prog 117 0 [] H=some (.slice (some ⟨H.length,0,none⟩) 0 0,H ++ [.cells [] 3 false])) /\
    (∀ H k0 x0,buildSliceA Tryz.prog 117 1 [(0,(.int k0 x0))] H=some (.slice (some ⟨H.length,0,none⟩) 1 1,H ++ [.cells [(.int k0 x0)] 3 false])) /\
    (∀ H k0 x0 k1 x1,buildSliceA Tryz.prog 117 2 [(0,(.int k0 x0)),(1,(.int k1 x1))] H=some (.slice (some ⟨H.length,0,none⟩) 2 2,H ++ [.cells [(.int k0 x0),(.int k1 x1)] 3 false])) /\
    (∀ H k0 x0 k1 x1 k2 x2,buildSliceA Tryz.prog 117 3 [(0,(.int k0 x0)),(1,(.int k1 x1)),(2,(.int k2 x2))] H=some (.slice (some ⟨H.length,0,none⟩) 3 3,H ++ [.cells [(.int k0 x0),(.int k1 x1),(.int k2 x2)] 3 false])) /\
    (∀ a n c m d,binA Tryz.prog .eql 117 (.slice a n c) (.slice none m d)=some (.bool (a.isNone))) /\
    (∀ a n c m d,binA Tryz.prog .neq 117 (.slice a n c) (.slice none m d)=some (.bool (!a.isNone))) /\
    (∀ x H,lenS Tryz.prog 117 x H=lenA Tryz.prog 117 x) /\
    (∀ p n c,lenA Tryz.prog 117 (.slice p n c)=some (.int .i64 n)) /\
    (∀ p H,loadA Tryz.prog 118 (.pointer (some p)) H=cellA H p.block p.off) /\
    (∀ p H,loadA Tryz.prog 123 (.pointer (some p)) H=cellA H p.block p.off) /\
    (∀ p H,loadA Tryz.prog 126 (.pointer (some p)) H=cellA H p.block p.off) /\
    (∀ p H,loadA Tryz.prog 134 (.pointer (some p)) H=cellA H p.block p.off) /\
    (∀ p H,loadA Tryz.prog 169 (.pointer (some p)) H=cellA H p.block p.off) /\
    (∀ p H,loadA Tryz.prog 180 (.pointer (some p)) H=cellA H p.block p.off) /\
    (∀ k n,convA Tryz.prog 3 5 (.int k n)=some (.int .u8 (IntKind.u8.wrap n))) /\
    (∀ k n,convA Tryz.prog 3 65 (.int k n)=some (.int .u64 (IntKind.u64.wrap n))) /\
    (∀ k n,convA Tryz.prog 3 94 (.int k n)=some (.int .u64 (IntKind.u64.wrap n))) /\
    (∀ k n,convA Tryz.prog 3 95 (.int k n)=some (.int .u64 (IntKind.u64.wrap n))) /\
    (∀ k n,convA Tryz.prog 3 169 (.int k n)=some (.int .u32 (IntKind.u32.wrap n))) /\
    (∀ k n,convA Tryz.prog 5 3 (.int k n)=some (.int .i64 (IntKind.i64.wrap n))) /\
    (∀ k n,convA Tryz.prog 5 65 (.int k n)=some (.int .u64 (IntKind.u64.wrap n))) /\
    (∀ k n,convA Tryz.prog 5 94 (.int k n)=some (.int .u64 (IntKind.u64.wrap n))) /\
    (∀ k n,convA Tryz.prog 5 95 (.int k n)=some (.int .u64 (IntKind.u64.wrap n))) /\
    (∀ k n,convA Tryz.prog 5 169 (.int k n)=some (.int .u32 (IntKind.u32.wrap n))) /\
    (∀ k n,convA Tryz.prog 65 3 (.int k n)=some (.int .i64 (IntKind.i64.wrap n))) /\
    (∀ k n,convA Tryz.prog 65 5 (.int k n)=some (.int .u8 (IntKind.u8.wrap n))) /\
    (∀ k n,convA Tryz.prog 65 94 (.int k n)=some (.int .u64 (IntKind.u64.wrap n))) /\
    (∀ k n,convA Tryz.prog 65 95 (.int k n)=some (.int .u64 (IntKind.u64.wrap n))) /\
    (∀ k n,convA Tryz.prog 65 169 (.int k n)=some (.int .u32 (IntKind.u32.wrap n))) /\
    (∀ k n,convA Tryz.prog 94 3 (.int k n)=some (.int .i64 (IntKind.i64.wrap n))) /\
    (∀ k n,convA Tryz.prog 94 5 (.int k n)=some (.int .u8 (IntKind.u8.wrap n))) /\
    (∀ k n,convA Tryz.prog 94 65 (.int k n)=some (.int .u64 (IntKind.u64.wrap n))) /\
    (∀ k n,convA Tryz.prog 94 95 (.int k n)=some (.int .u64 (IntKind.u64.wrap n))) /\
    (∀ k n,convA Tryz.prog 94 169 (.int k n)=some (.int .u32 (IntKind.u32.wrap n))) /\
    (∀ k n,convA Tryz.prog 95 3 (.int k n)=some (.int .i64 (IntKind.i64.wrap n))) /\
    (∀ k n,convA Tryz.prog 95 5 (.int k n)=some (.int .u8 (IntKind.u8.wrap n))) /\
    (∀ k n,convA Tryz.prog 95 65 (.int k n)=some (.int .u64 (IntKind.u64.wrap n))) /\
    (∀ k n,convA Tryz.prog 95 94 (.int k n)=some (.int .u64 (IntKind.u64.wrap n))) /\
    (∀ k n,convA Tryz.prog 95 169 (.int k n)=some (.int .u32 (IntKind.u32.wrap n))) /\
    (∀ k n,convA Tryz.prog 169 3 (.int k n)=some (.int .i64 (IntKind.i64.wrap n))) /\
    (∀ k n,convA Tryz.prog 169 5 (.int k n)=some (.int .u8 (IntKind.u8.wrap n))) /\
    (∀ k n,convA Tryz.prog 169 65 (.int k n)=some (.int .u64 (IntKind.u64.wrap n))) /\
    (∀ k n,convA Tryz.prog 169 94 (.int k n)=some (.int .u64 (IntKind.u64.wrap n))) /\
    (∀ k n,convA Tryz.prog 169 95 (.int k n)=some (.int .u64 (IntKind.u64.wrap n))) :=
  ⟨ld_one ag3,
   ld_one ag4,
   eq_bool_eql Tryz.underlying4,
   eq_bool_neq Tryz.underlying4,
   ld_one ag5,
   ld_one ag9,
   ld_one ag24,
   bsP0 Tryz.underlying24 cs115 ze115 ⟨by kernel_rfl,by kernel_rfl⟩,
   bsP1 Tryz.underlying24 cs115 ze115,
   ix_two Tryz.underlying24 cs115,
   eq_nil_eql Tryz.underlying24,
   eq_nil_neq Tryz.underlying24,
   lenS_sl (by decide),
   ln_sl Tryz.underlying24,
   fun p=>by kernel_rfl,
   fun p=>by kernel_rfl,
   ld_one ag27,
   ix_one Tryz.underlying27 cs3,
   bs0 Tryz.underlying27 cs3 ze3 ⟨by kernel_rfl,by kernel_rfl⟩,
   fun H _ _=>bs1 Tryz.underlying27 cs3 ze3 ⟨by kernel_rfl,by kernel_rfl⟩ H rfl,
   fun H _ _ _ _=>bs2 Tryz.underlying27 cs3 ze3 ⟨by kernel_rfl,by kernel_rfl⟩ H rfl rfl,
   fun H _ _ _ _ _ _=>bs3 Tryz.underlying27 cs3 ze3 ⟨by kernel_rfl,by kernel_rfl⟩ H rfl rfl rfl,
   eq_nil_eql Tryz.underlying27,
   eq_nil_neq Tryz.underlying27,
   lenS_sl (by decide),
   ln_sl Tryz.underlying27,
   ld_one ag32,
   ix_one Tryz.underlying32 cs27,
   bs0 Tryz.underlying32 cs27 ze27 ⟨by kernel_rfl,by kernel_rfl⟩,
   fun H _ _ _=>bs1 Tryz.underlying32 cs27 ze27 ⟨by kernel_rfl,by kernel_rfl⟩ H rfl,
   fun H _ _ _ _ _ _=>bs2 Tryz.underlying32 cs27 ze27 ⟨by kernel_rfl,by kernel_rfl⟩ H rfl rfl,
   fun H _ _ _ _ _ _ _ _ _=>bs3 Tryz.underlying32 cs27 ze27 ⟨by kernel_rfl,by kernel_rfl⟩ H rfl rfl rfl,
   eq_nil_eql Tryz.underlying32,
   eq_nil_neq Tryz.underlying32,
   lenS_sl (by decide),
   ln_sl Tryz.underlying32,
   fun p=>by kernel_rfl,
   fun p=>by kernel_rfl,
   ld_one ag65,
   ld_one ag68,
   ld_one ag76,
   ld_one ag80,
   ld_one ag91,
   ld_one ag94,
   ld_one ag95,
   ld_one ag97,
   ld_one ag106,
   ld_one ag110,
   ix_one Tryz.underlying110 cs95,
   bs0 Tryz.underlying110 cs95 ze95 ⟨by kernel_rfl,by kernel_rfl⟩,
   fun H _ _=>bs1 Tryz.underlying110 cs95 ze95 ⟨by kernel_rfl,by kernel_rfl⟩ H rfl,
   fun H _ _ _ _=>bs2 Tryz.underlying110 cs95 ze95 ⟨by kernel_rfl,by kernel_rfl⟩ H rfl rfl,
   fun H _ _ _ _ _ _=>bs3 Tryz.underlying110 cs95 ze95 ⟨by kernel_rfl,by kernel_rfl⟩ H rfl rfl rfl,
   eq_nil_eql Tryz.underlying110,
   eq_nil_neq Tryz.underlying110,
   lenS_sl (by decide),
   ln_sl Tryz.underlying110,
   fun p k=>ix_arr Tryz.underlying115 cs3 p k (by decide) (by decide),
   fun p k=>ix_arr Tryz.underlying115 cs3 p k (by decide) (by decide),
   ld_one ag117,
   ix_one Tryz.underlying117 cs3,
   bs0 Tryz.underlying117 cs3 ze3 ⟨by kernel_rfl,by kernel_rfl⟩,
   fun H _ _=>bs1 Tryz.underlying117 cs3 ze3 ⟨by kernel_rfl,by kernel_rfl⟩ H rfl,
   fun H _ _ _ _=>bs2 Tryz.underlying117 cs3 ze3 ⟨by kernel_rfl,by kernel_rfl⟩ H rfl rfl,
   fun H _ _ _ _ _ _=>bs3 Tryz.underlying117 cs3 ze3 ⟨by kernel_rfl,by kernel_rfl⟩ H rfl rfl rfl,
   eq_nil_eql Tryz.underlying117,
   eq_nil_neq Tryz.underlying117,
   lenS_sl (by decide),
   ln_sl Tryz.underlying117,
   ld_one ag118,
   ld_one ag123,
   ld_one ag126,
   ld_one ag134,
   ld_one ag169,
   ld_one ag180,
   fun _ _=>by simp only [convA,Tryz.underlying3,Tryz.underlying5],
   fun _ _=>by simp only [convA,Tryz.underlying3,Tryz.underlying65],
   fun _ _=>by simp only [convA,Tryz.underlying3,Tryz.underlying94],
   fun _ _=>by simp only [convA,Tryz.underlying3,Tryz.underlying95],
   fun _ _=>by simp only [convA,Tryz.underlying3,Tryz.underlying169],
   fun _ _=>by simp only [convA,Tryz.underlying5,Tryz.underlying3],
   fun _ _=>by simp only [convA,Tryz.underlying5,Tryz.underlying65],
   fun _ _=>by simp only [convA,Tryz.underlying5,Tryz.underlying94],
   fun _ _=>by simp only [convA,Tryz.underlying5,Tryz.underlying95],
   fun _ _=>by simp only [convA,Tryz.underlying5,Tryz.underlying169],
   fun _ _=>by simp only [convA,Tryz.underlying65,Tryz.underlying3],
   fun _ _=>by simp only [convA,Tryz.underlying65,Tryz.underlying5],
   fun _ _=>by simp only [convA,Tryz.underlying65,Tryz.underlying94],
   fun _ _=>by simp only [convA,Tryz.underlying65,Tryz.underlying95],
   fun _ _=>by simp only [convA,Tryz.underlying65,Tryz.underlying169],
   fun _ _=>by simp only [convA,Tryz.underlying94,Tryz.underlying3],
   fun _ _=>by simp only [convA,Tryz.underlying94,Tryz.underlying5],
   fun _ _=>by simp only [convA,Tryz.underlying94,Tryz.underlying65],
   fun _ _=>by simp only [convA,Tryz.underlying94,Tryz.underlying95],
   fun _ _=>by simp only [convA,Tryz.underlying94,Tryz.underlying169],
   fun _ _=>by simp only [convA,Tryz.underlying95,Tryz.underlying3],
   fun _ _=>by simp only [convA,Tryz.underlying95,Tryz.underlying5],
   fun _ _=>by simp only [convA,Tryz.underlying95,Tryz.underlying65],
   fun _ _=>by simp only [convA,Tryz.underlying95,Tryz.underlying94],
   fun _ _=>by simp only [convA,Tryz.underlying95,Tryz.underlying169],
   fun _ _=>by simp only [convA,Tryz.underlying169,Tryz.underlying3],
   fun _ _=>by simp only [convA,Tryz.underlying169,Tryz.underlying5],
   fun _ _=>by simp only [convA,Tryz.underlying169,Tryz.underlying65],
   fun _ _=>by simp only [convA,Tryz.underlying169,Tryz.underlying94],
   fun _ _=>by simp only [convA,Tryz.underlying169,Tryz.underlying95]⟩
theorem SS : type_of% S ∧ type_of% S1 ∧ type_of% S2 ∧ type_of% S3 ∧ type_of% S4 ∧ type_of% S5 ∧ type_of% ST := ⟨S,S1,S2,S3,S4,S5,ST⟩
theorem alloc_a2 (H:AH):allocA Tryz.prog 115 H=some (.pointer (some ⟨H.length,0,none⟩),H ++ [.cells [.int .i64 0,.int .i64 0] 115 false]):=by kernel_rfl
theorem build_a2 (a b:Int):buildA Tryz.prog 115 [(0,.int .i64 a),(1,.int .i64 b)]=some (.agg (List.toArray [.int .i64 a,.int .i64 b])):=by kernel_rfl
theorem store_a2 (H:AH)(vs:List Value)(hv:vs.length=2)(a b:Value):storeA Tryz.prog 115 (.pointer (some ⟨H.length,0,none⟩)) (.agg (List.toArray [a,b])) (H ++ [.cells vs 115 false])=some (H ++ [.cells [a,b] 115 false]) :=
 st_new rfl (by rw [cs115];rfl) (by rw [cs115];decide) (by rw [cs115];exact hv)
theorem end_cell (P:Program)(a:Nat)(t:TypeId)(R:Value->AH->Prop)(s:Sl)(H:AH)(v:Value)(h:loadA P t (s a) H=some v)(ht:isTup v=false)(hr:R v H):endA P [.cell a t] R .ret s H:=by
 simp only [endA,resA,h,ht]
 simp [outA]
 exact hr
theorem box_a2 (H:AH)(x y:Value):boxA Tryz.prog 115 (.agg (List.toArray [x,y])) H=some (.pointer (some ⟨H.length,0,none⟩),H ++ [.cells [x,y] 115 false]):=by kernel_rfl
theorem st_a2 {H:AH}{o:Nat}{vs:List Value}{e:TypeId}(ho:H[o]?=some (.cells vs e false))(hv:vs.length=2)(a b:Value):storeA Tryz.prog 115 (.pointer (some ⟨o,0,none⟩)) (.agg (List.toArray [a,b])) H=some (H.set o (.cells [a,b] e false)):=by
 simp only [storeA,ho,cs115]
 have hcl:(Value.agg (List.toArray [a,b])).cells.toList=[a,b]:=rfl
 rw [hcl,if_pos ⟨rfl,rfl,by decide,by rw [hv];exact Nat.le_refl 2⟩]
 have:putAt vs 0 [a,b]=[a,b]:=by
  unfold putAt
  rw [List.take_zero,List.nil_append,List.drop_of_length_le (by simp;omega),List.append_nil]
 rw [this]
theorem ld_a2 {H:AH}{o:Nat}{a b:Value}{e:TypeId}{ro:Bool}(ho:H[o]?=some (.cells [a,b] e ro)):loadA Tryz.prog 115 (.pointer (some ⟨o,0,none⟩)) H=some (.agg (List.toArray [a,b])) :=
 ld_two ag115 cs115 (by rw [cell_of ho];rfl) (by rw [cell_of ho];rfl)
theorem st_at {P:Program}{t e:TypeId}(hc:P.cellsOf t=1){H:AH}{o i:Nat}{vs:List Value}{y:Value}(ho:H[o]?=some (.cells vs e false))(hi:i<vs.length)(h1:isTup y=false)(h2:y.cells.toList=[y]) :
  storeA P t (.pointer (some ⟨o,i,none⟩)) y H=some (H.set o (.cells (vs.set i y) e false)):=by
 simp only [storeA,ho]
 rw [h2,if_pos ⟨h1,by rw [hc];rfl,by omega,by simp;omega⟩]
 have:putAt vs i [y]=vs.set i y:=by
  unfold putAt
  rw [List.set_eq_take_append_cons_drop,if_pos hi]
  simp
 rw [this]
theorem ld_agg {P:Program}{t e:TypeId}(h:isAggA P t=some true)(hc:P.cellsOf t=2){H:AH}{o:Nat}{a b:Value}{ro:Bool}(ho:H[o]?=some (.cells [a,b] e ro)):loadA P t (.pointer (some ⟨o,0,none⟩)) H=some (.agg (List.toArray [a,b])) :=
 ld_two h hc (by rw [cell_of ho];rfl) (by rw [cell_of ho];rfl)
section
variable {e:TypeId} {G H:AH} {v:Value} {ps:List (Int × Int)}
theorem RowP.boxG (h:RowP e G v ps)(n:Int):boxA Tryz.prog 26 (.agg (List.toArray [.int .i64 n,v])) H=some (.pointer (some ⟨H.length,0,none⟩),H ++ [.cells [.int .i64 n,v] 26 false]):=by
 obtain ⟨q,rfl⟩:=h.shape;kernel_rfl
end
theorem alloc_G (H:AH):allocA Tryz.prog 26 H=some (.pointer (some ⟨H.length,0,none⟩),H ++ [.cells [.int .i64 0,.slice none 0 0] 26 false]):=by kernel_rfl
theorem st_G {e e2:TypeId}{G H:AH}{v:Value}{ps:List (Int × Int)}(h:RowP e2 G v ps){o:Nat}{vs:List Value}(ho:H[o]?=some (.cells vs e false))(hv:vs.length=2)(n:Int) :
  storeA Tryz.prog 26 (.pointer (some ⟨o,0,none⟩)) (.agg (List.toArray [.int .i64 n,v])) H=some (H.set o (.cells [.int .i64 n,v] e false)):=by
 obtain ⟨q,rfl⟩:=h.shape
 simp only [storeA,ho,cs26]
 have hcl:(Value.agg (List.toArray [.int .i64 n,.slice q ps.length ps.length])).cells.toList=[.int .i64 n,.slice q ps.length ps.length]:=rfl
 rw [hcl,if_pos ⟨rfl,rfl,by decide,by rw [hv];exact Nat.le_refl 2⟩]
 have:putAt vs 0 [.int .i64 n,.slice q ps.length ps.length]=[.int .i64 n,.slice q ps.length ps.length]:=by
  unfold putAt
  rw [List.take_zero,List.nil_append,List.drop_of_length_le (by simp;omega),List.append_nil]
 rw [this]
theorem MineP.keepL {e:TypeId}{H0 H H':AH}{v:Value}{ps:List (Int × Int)}(h:MineP e H0 H v ps)(hh:H0.length<=rowO v->∀ y,H[rowO v]?=some y->H'[rowO v]?=some y):MineP e H0 H' v ps:=by
 rcases h with h | ⟨o,zs,h1,h2,h3,h4⟩
 ·exact .inl h
 ·subst h1;exact .inr ⟨o,zs,rfl,h2,hh h2 _ h3,h4⟩
theorem cell_new (H:AH)(vs:List Value)(e:TypeId)(ro:Bool)(i:Nat):cellA (H ++ [.cells vs e ro]) H.length i=vs[i]?:=cell_of (at_new ..) i
def cd114:Cd:=(.seq (.reg [⟨⟨some 6,.assign (.const (.bool false)),none⟩,[]⟩]) (.seq (.reg [⟨⟨some 7,.move (.tmp 0),none⟩,[]⟩,
 ⟨⟨some 8,.move (.tmp 1),none⟩,[]⟩,
 ⟨⟨some 9,.binOp .geq 3 (.tmp 7) (.tmp 8) 3,none⟩,[]⟩,
 ⟨⟨some 10,.move (.tmp 9),none⟩,[]⟩,
 ⟨⟨some 11,.move (.tmp 0),some (10,true)⟩,[]⟩,
 ⟨⟨some 12,.move (.tmp 2),some (10,true)⟩,[]⟩,
 ⟨⟨some 13,.binOp .leq 3 (.tmp 11) (.tmp 12) 3,some (10,true)⟩,[]⟩,
 ⟨⟨some 14,.pick (.tmp 10) (.tmp 13) (.const (.bool false)),none⟩,[]⟩,
 ⟨⟨some 6,.assign (.tmp 14),none⟩,[]⟩]) .ret))
theorem in114:InT Tryz.prog 114 3 [.tmp 6] cd114:=InT.mk (by kernel_rfl) [] Tryz.func114 rfl (by kernel_rfl) (by kernel_rfl) (of_decide_eq_true (by kernel_rfl)) (by kernel_rfl)
def cd102:Cd:=(.seq (.reg [⟨⟨some 6,.assign (.const (.bool false)),none⟩,[]⟩]) (.seq (.reg [⟨⟨some 7,.move (.tmp 0),none⟩,[]⟩,
 ⟨⟨some 8,.move (.tmp 1),none⟩,[]⟩,
 ⟨⟨some 9,.binOp .geq 3 (.tmp 7) (.tmp 8) 3,none⟩,[]⟩,
 ⟨⟨some 10,.move (.tmp 9),none⟩,[]⟩,
 ⟨⟨some 11,.move (.tmp 0),some (10,true)⟩,[]⟩,
 ⟨⟨some 12,.move (.tmp 2),some (10,true)⟩,[]⟩,
 ⟨⟨some 13,.binOp .leq 3 (.tmp 11) (.tmp 12) 3,some (10,true)⟩,[]⟩,
 ⟨⟨some 14,.pick (.tmp 10) (.tmp 13) (.const (.bool false)),none⟩,[]⟩,
 ⟨⟨some 6,.assign (.tmp 14),none⟩,[]⟩]) .ret))
theorem in102:InT Tryz.prog 102 3 [.tmp 6] cd102:=InT.mk (by kernel_rfl) [] Tryz.func102 rfl (by kernel_rfl) (by kernel_rfl) (of_decide_eq_true (by kernel_rfl)) (by kernel_rfl)
end Go.Proofs.YtlcipphiflcaiaaGreat.Ai
namespace Go.Proofs.YtlcipphiflcaiaaGreat.Ai
open Go Go.RowKit
theorem l1In_c (a b c:Int)(H:AH):ACalls Tryz.prog 114 [.int .i64 a,.int .i64 b,.int .i64 c] H fun r H'=>r=.bool (decide (b<=a/\a<=c))/\H=H':=by
 refine in114 rfl ?_
 intro Q hQ
 simp (disch:=omega) only [cd114,SS,eq_self,reduceIte,reduceCtorEq,Nat.reduceEqDiff,Nat.reduceAdd]
 refine brD.intro (fun h=>?_) (fun h=>?_) <;> simp (disch:=omega) only [h,SS,eq_self,reduceIte,reduceCtorEq,Nat.reduceEqDiff,Nat.reduceAdd] <;> refine hQ _ _ _ ?_ <;> simp (disch:=omega) only [h,SS,eq_self,reduceIte,reduceCtorEq,Nat.reduceEqDiff,Nat.reduceAdd] <;> simp [h]
theorem between_c (a b c:Int)(H:AH):ACalls Tryz.prog 102 [.int .i64 a,.int .i64 b,.int .i64 c] H fun r H'=>r=.bool (decide (b<=a/\a<=c))/\H=H':=by
 refine in102 rfl ?_
 intro Q hQ
 simp (disch:=omega) only [cd102,SS,eq_self,reduceIte,reduceCtorEq,Nat.reduceEqDiff,Nat.reduceAdd]
 refine brD.intro (fun h=>?_) (fun h=>?_) <;> simp (disch:=omega) only [h,SS,eq_self,reduceIte,reduceCtorEq,Nat.reduceEqDiff,Nat.reduceAdd] <;> refine hQ _ _ _ ?_ <;> simp (disch:=omega) only [h,SS,eq_self,reduceIte,reduceCtorEq,Nat.reduceEqDiff,Nat.reduceAdd] <;> simp [h]
def cd197:Cd:=(.seq (.reg [⟨⟨some 2,.assign (.const (.bool false)),none⟩,[]⟩]) (.seq (.reg [⟨⟨some 3,.move (.tmp 0),none⟩,[]⟩,
 ⟨⟨some 4,.move (.tmp 0),none⟩,[]⟩,
 ⟨⟨some 5,.binOp .neq 3 (.tmp 3) (.tmp 4) 3,none⟩,[]⟩,
 ⟨⟨some 2,.assign (.tmp 5),none⟩,[]⟩]) .ret))
theorem in197:InT Tryz.prog 197 1 [.tmp 2] cd197:=InT.mk (by kernel_rfl) [] Tryz.func197 rfl (by kernel_rfl) (by kernel_rfl) (of_decide_eq_true (by kernel_rfl)) (by kernel_rfl)
def cd209:Cd:=(.seq (.reg [⟨⟨some 4,.assign (.const (.bool false)),none⟩,[]⟩]) (.seq (.reg [⟨⟨some 5,.move (.tmp 0),none⟩,[]⟩,⟨⟨some 6,.call ⟨(.value (.func 197)),#[.tmp 5],#[3]⟩,none⟩,[]⟩,⟨⟨some 7,.move (.tmp 6),none⟩,[]⟩,⟨⟨some 8,.move (.tmp 1),some (7,true)⟩,[]⟩,⟨⟨some 9,.call ⟨(.value (.func 197)),#[.tmp 8],#[3]⟩,some (7,true)⟩,[]⟩,⟨⟨some 10,.unOp .not 4 (.tmp 9),some (7,true)⟩,[]⟩,⟨⟨some 11,.pick (.tmp 7) (.tmp 10) (.const (.bool false)),none⟩,[]⟩,⟨⟨some 12,.move (.tmp 11),none⟩,[]⟩,⟨⟨some 13,.move (.tmp 0),some (12,false)⟩,[]⟩,⟨⟨some 14,.move (.tmp 1),some (12,false)⟩,[]⟩,⟨⟨some 15,.binOp .lss 3 (.tmp 13) (.tmp 14) 3,some (12,false)⟩,[]⟩,⟨⟨some 16,.pick (.tmp 12) (.const (.bool true)) (.tmp 15),none⟩,[]⟩,
 ⟨⟨some 4,.assign (.tmp 16),none⟩,[]⟩]) .ret))
theorem in209:InT Tryz.prog 209 2 [.tmp 4] cd209:=InT.mk (by kernel_rfl) [] Tryz.func209 rfl (by kernel_rfl) (by kernel_rfl) (of_decide_eq_true (by kernel_rfl)) (by kernel_rfl)
def cd203:Cd:=(.seq (.reg [⟨⟨some 8,.move (.tmp 1),none⟩,[]⟩,⟨⟨some 9,.binOp .add 3 (.tmp 8) (.const (.int .i64 1)) 3,none⟩,[]⟩,⟨⟨some 6,.assign (.tmp 9),none⟩,[]⟩]) (.block 0 (.loop (.seq (.seq (.reg [⟨⟨some 10,.move (.tmp 6),none⟩,[]⟩,⟨⟨some 11,.move (.tmp 2),none⟩,[]⟩,⟨⟨some 12,.binOp .lss 3 (.tmp 10) (.tmp 11) 3,none⟩,[]⟩]) (.cond (.tmp 12) .skip (.exit 0))) (.seq (.block 1 (.seq (.reg [⟨⟨some 15,.move (.tmp 6),none⟩,[]⟩,⟨⟨some 7,.assign (.tmp 15),none⟩,[]⟩]) (.block 2 (.loop (.seq (.seq (.reg [⟨⟨some 16,.move (.tmp 7),none⟩,[]⟩,⟨⟨some 17,.move (.tmp 1),none⟩,[]⟩,⟨⟨some 18,.binOp .gtr 3 (.tmp 16) (.tmp 17) 3,none⟩,[]⟩,⟨⟨some 19,.move (.tmp 18),none⟩,[]⟩,⟨⟨some 20,.move (.tmp 0),some (19,true)⟩,[]⟩,⟨⟨some 21,.move (.tmp 7),some (19,true)⟩,[]⟩,⟨⟨some 22,.indexAddr 27 (.tmp 20) (.tmp 21),some (19,true)⟩,[]⟩,
 ⟨⟨some 23,.load 3 (.tmp 22),some (19,true)⟩,[]⟩,⟨⟨some 24,.move (.tmp 0),some (19,true)⟩,[]⟩,⟨⟨some 25,.move (.tmp 7),some (19,true)⟩,[]⟩,⟨⟨some 26,.binOp .sub 3 (.tmp 25) (.const (.int .i64 1)) 3,some (19,true)⟩,[]⟩,⟨⟨some 27,.indexAddr 27 (.tmp 24) (.tmp 26),some (19,true)⟩,[]⟩,⟨⟨some 28,.load 3 (.tmp 27),some (19,true)⟩,[]⟩,⟨⟨some 29,.call ⟨(.value (.func 209)),#[.tmp 23,.tmp 28],#[3,3]⟩,some (19,true)⟩,[]⟩,⟨⟨some 30,.pick (.tmp 19) (.tmp 29) (.const (.bool false)),none⟩,[]⟩]) (.cond (.tmp 30) .skip (.exit 2))) (.seq (.block 3 (.reg [⟨⟨some 33,.move (.tmp 0),none⟩,[]⟩,⟨⟨some 34,.move (.tmp 7),none⟩,[]⟩,⟨⟨some 35,.move (.tmp 0),none⟩,[]⟩,⟨⟨some 36,.move (.tmp 7),none⟩,[]⟩,⟨⟨some 37,.binOp .sub 3 (.tmp 36) (.const (.int .i64 1)) 3,none⟩,[]⟩,
 ⟨⟨some 38,.move (.tmp 0),none⟩,[]⟩,⟨⟨some 39,.move (.tmp 7),none⟩,[]⟩,⟨⟨some 40,.binOp .sub 3 (.tmp 39) (.const (.int .i64 1)) 3,none⟩,[]⟩,⟨⟨some 41,.indexAddr 27 (.tmp 38) (.tmp 40),none⟩,[]⟩,⟨⟨some 42,.load 3 (.tmp 41),none⟩,[]⟩,⟨⟨some 43,.move (.tmp 0),none⟩,[]⟩,⟨⟨some 44,.move (.tmp 7),none⟩,[]⟩,⟨⟨some 45,.indexAddr 27 (.tmp 43) (.tmp 44),none⟩,[]⟩,⟨⟨some 46,.load 3 (.tmp 45),none⟩,[]⟩,⟨⟨some 47,.indexAddr 27 (.tmp 33) (.tmp 34),none⟩,[]⟩,⟨⟨none,.store 3 (.tmp 47) (.tmp 42),none⟩,[]⟩,⟨⟨some 48,.indexAddr 27 (.tmp 35) (.tmp 37),none⟩,[]⟩,
 ⟨⟨none,.store 3 (.tmp 48) (.tmp 46),none⟩,[]⟩])) (.reg [⟨⟨some 31,.move (.tmp 7),none⟩,[]⟩,
  ⟨⟨some 32,.binOp .sub 3 (.tmp 31) (.const (.int .i64 1)) 3,none⟩,[]⟩,
  ⟨⟨some 7,.assign (.tmp 32),none⟩,[]⟩]))))))) (.reg [⟨⟨some 13,.move (.tmp 6),none⟩,[]⟩,
  ⟨⟨some 14,.binOp .add 3 (.tmp 13) (.const (.int .i64 1)) 3,none⟩,[]⟩,
  ⟨⟨some 6,.assign (.tmp 14),none⟩,[]⟩]))))))
theorem in203:InT Tryz.prog 203 3 [] cd203:=InT.mk (by kernel_rfl) [(4,[(0,false),(1,false),(2,false),(3,false),(4,false),(5,false),(6,false),(7,false),(8,false),(9,false),(10,false),(11,false),(12,false),(13,true),(14,false)]),(6,[(0,false),(1,false),(2,false),(3,false),(4,false),(5,false),(6,false),(7,false),(8,false),(9,false),(10,false),(11,false),(12,false),(13,false),(14,false),(15,true),(16,false),(17,true)])] Tryz.func203 rfl (by kernel_rfl) (by kernel_rfl) (of_decide_eq_true (by kernel_rfl)) (by kernel_rfl)
def cd196:Cd:=(.seq (.reg [⟨⟨some 2,.assign (.const (.int .i64 0)),none⟩,[]⟩]) (.seq (.seq (.reg [⟨⟨some 3,.move (.tmp 0),none⟩,[]⟩,⟨⟨some 4,.binOp .geq 65 (.tmp 3) (.const (.int .u64 4294967296)) 65,none⟩,[]⟩]) (.cond (.tmp 4) (.seq (.reg [⟨⟨some 5,.move (.tmp 0),none⟩,[]⟩,⟨⟨some 6,.binOp .shr 65 (.tmp 5) (.const (.int .u64 32)) 94,none⟩,[]⟩,⟨⟨some 0,.assign (.tmp 6),none⟩,[]⟩]) (.reg [⟨⟨some 2,.assign (.const (.int .i64 32)),none⟩,[]⟩])) .skip)) (.seq (.seq (.reg [⟨⟨some 7,.move (.tmp 0),none⟩,[]⟩,⟨⟨some 8,.binOp .geq 65 (.tmp 7) (.const (.int .u64 65536)) 65,none⟩,[]⟩]) (.cond (.tmp 8) (.seq (.reg [⟨⟨some 9,.move (.tmp 0),none⟩,[]⟩,⟨⟨some 10,.binOp .shr 65 (.tmp 9) (.const (.int .u64 16)) 94,none⟩,[]⟩,⟨⟨some 0,.assign (.tmp 10),none⟩,[]⟩]) (.reg [⟨⟨some 11,.move (.tmp 2),none⟩,[]⟩,⟨⟨some 12,.binOp .add 3 (.tmp 11) (.const (.int .i64 16)) 3,none⟩,[]⟩,⟨⟨some 2,.assign (.tmp 12),none⟩,[]⟩])) .skip)) (.seq (.seq (.reg [⟨⟨some 13,.move (.tmp 0),none⟩,[]⟩,⟨⟨some 14,.binOp .geq 65 (.tmp 13) (.const (.int .u64 256)) 65,none⟩,[]⟩]) (.cond (.tmp 14) (.seq (.reg [⟨⟨some 15,.move (.tmp 0),none⟩,[]⟩,⟨⟨some 16,.binOp .shr 65 (.tmp 15) (.const (.int .u64 8)) 94,none⟩,[]⟩,⟨⟨some 0,.assign (.tmp 16),none⟩,[]⟩]) (.reg [⟨⟨some 17,.move (.tmp 2),none⟩,[]⟩,
 ⟨⟨some 18,.binOp .add 3 (.tmp 17) (.const (.int .i64 8)) 3,none⟩,[]⟩,
  ⟨⟨some 2,.assign (.tmp 18),none⟩,[]⟩])) .skip)) (.seq (.reg [⟨⟨some 19,.move (.tmp 2),none⟩,[]⟩,
  ⟨⟨some 20,.move (.tmp 0),none⟩,[]⟩,
  ⟨⟨some 21,.convert 65 5 (.tmp 20),none⟩,[]⟩,
  ⟨⟨some 22,.index 9 (.const (.string { data:=#[0,1,2,2,3,3,3,3,4,4,4,4,4,4,4,4,5,5,5,5,5,5,5,5,5,5,5,5,5,5,5,5,6,6,6,6,6,6,6,6,6,6,6,6,6,6,6,6,6,6,6,6,6,6,6,6,6,6,6,6,6,6,6,6,7,7,7,7,7,7,7,7,7,7,7,7,7,7,7,7,7,7,7,7,7,7,7,7,7,7,7,7,7,7,7,7,7,7,7,7,7,7,7,7,7,7,7,7,7,7,7,7,7,7,7,7,7,7,7,7,7,7,7,7,7,7,7,7,8,8,8,8,8,8,8,8,8,8,8,8,8,8,8,8,8,8,8,8,8,8,8,8,8,8,8,8,8,8,8,8,8,8,8,8,8,8,8,8,8,8,8,8,8,8,8,8,8,8,8,8,8,8,8,8,8,8,8,8,8,8,8,8,8,8,8,8,8,8,8,8,8,8,8,8,8,8,8,8,8,8,8,8,8,8,8,8,8,8,8,8,8,8,8,8,8,8,8,8,8,8,8,8,8,8,8,8,8,8,8,8,8,8,8,8,8,8,8,8,8,8,8,8,8,8,8,8] })) (.tmp 21),none⟩,[]⟩,
  ⟨⟨some 23,.convert 5 3 (.tmp 22),none⟩,[]⟩,
  ⟨⟨some 24,.binOp .add 3 (.tmp 19) (.tmp 23) 3,none⟩,[]⟩,
  ⟨⟨some 2,.assign (.tmp 24),none⟩,[]⟩]) .ret)))))
theorem in196:InT Tryz.prog 196 1 [.tmp 2] cd196:=InT.mk (by kernel_rfl) [] Tryz.func196 rfl (by kernel_rfl) (by kernel_rfl) (of_decide_eq_true (by kernel_rfl)) (by kernel_rfl)
def cd166:Cd:=(.seq (.reg [⟨⟨some 2,.assign (.const (.int .i64 0)),none⟩,[]⟩]) (.seq (.cond (.const (.bool false)) (.seq (.reg [⟨⟨some 3,.move (.tmp 0),none⟩,[]⟩,
 ⟨⟨some 4,.convert 94 169 (.tmp 3),none⟩,[]⟩,
 ⟨⟨some 5,.call ⟨(.value (.func 195)),#[.tmp 4],#[169]⟩,none⟩,[]⟩,
 ⟨⟨some 2,.assign (.tmp 5),none⟩,[]⟩]) .ret) .skip) (.seq (.reg [⟨⟨some 6,.move (.tmp 0),none⟩,[]⟩,
 ⟨⟨some 7,.call ⟨(.value (.func 196)),#[.tmp 6],#[65]⟩,none⟩,[]⟩,
 ⟨⟨some 2,.assign (.tmp 7),none⟩,[]⟩]) .ret)))
theorem in166:InT Tryz.prog 166 1 [.tmp 2] cd166:=InT.mk (by kernel_rfl) [] Tryz.func166 rfl (by kernel_rfl) (by kernel_rfl) (of_decide_eq_true (by kernel_rfl)) (by kernel_rfl)
def cd172:Cd:=(.seq (.reg [⟨⟨some 8,.assign (.const (.bool true)),none⟩,[]⟩]) (.seq (.reg [⟨⟨some 9,.assign (.const (.bool true)),none⟩,[]⟩]) (.block 0 (.loop (.block 1 (.seq (.reg [⟨⟨some 19,.move (.tmp 2),none⟩,[]⟩,⟨⟨some 20,.move (.tmp 1),none⟩,[]⟩,⟨⟨some 21,.binOp .sub 3 (.tmp 19) (.tmp 20) 3,none⟩,[]⟩,⟨⟨some 10,.assign (.tmp 21),none⟩,[]⟩]) (.seq (.seq (.reg [⟨⟨some 22,.move (.tmp 10),none⟩,[]⟩,⟨⟨some 23,.binOp .leq 3 (.tmp 22) (.const (.int .i64 12)) 3,none⟩,[]⟩]) (.cond (.tmp 23) (.seq (.reg [⟨⟨some 24,.move (.tmp 0),none⟩,[]⟩,⟨⟨some 25,.move (.tmp 1),none⟩,[]⟩,⟨⟨some 26,.move (.tmp 2),none⟩,[]⟩,⟨⟨some 27,.call ⟨(.value (.func 203)),#[.tmp 24,.tmp 25,.tmp 26],#[27,3,3]⟩,none⟩,[]⟩]) .ret) .skip)) (.seq (.seq (.reg [⟨⟨some 28,.move (.tmp 3),none⟩,[]⟩,⟨⟨some 29,.binOp .eql 3 (.tmp 28) (.const (.int .i64 0)) 3,none⟩,[]⟩]) (.cond (.tmp 29) (.seq (.reg [⟨⟨some 30,.move (.tmp 0),none⟩,[]⟩,⟨⟨some 31,.move (.tmp 1),none⟩,[]⟩,⟨⟨some 32,.move (.tmp 2),none⟩,[]⟩,⟨⟨some 33,.call ⟨(.value (.func 204)),#[.tmp 30,.tmp 31,.tmp 32],#[27,3,3]⟩,none⟩,[]⟩]) .ret) .skip)) (.seq (.seq (.reg [⟨⟨some 34,.move (.tmp 8),none⟩,[]⟩,
 ⟨⟨some 35,.unOp .not 4 (.tmp 34),none⟩,[]⟩]) (.cond (.tmp 35) (.seq (.reg [⟨⟨some 36,.move (.tmp 0),none⟩,[]⟩,⟨⟨some 37,.move (.tmp 1),none⟩,[]⟩,⟨⟨some 38,.move (.tmp 2),none⟩,[]⟩,⟨⟨some 39,.call ⟨(.value (.func 205)),#[.tmp 36,.tmp 37,.tmp 38],#[27,3,3]⟩,none⟩,[]⟩]) (.reg [⟨⟨some 40,.move (.tmp 3),none⟩,[]⟩,⟨⟨some 41,.binOp .sub 3 (.tmp 40) (.const (.int .i64 1)) 3,none⟩,[]⟩,⟨⟨some 3,.assign (.tmp 41),none⟩,[]⟩])) .skip)) (.seq (.reg [⟨⟨some 43,.move (.tmp 0),none⟩,[]⟩,⟨⟨some 44,.move (.tmp 1),none⟩,[]⟩,⟨⟨some 45,.move (.tmp 2),none⟩,[]⟩,⟨⟨some 46,.call ⟨(.value (.func 206)),#[.tmp 43,.tmp 44,.tmp 45],#[27,3,3]⟩,none⟩,[]⟩,⟨⟨some 42,.move (.tmp 46),none⟩,[]⟩,⟨⟨some 47,.extract (.tmp 42) 0,none⟩,[]⟩,⟨⟨some 48,.extract (.tmp 42) 1,none⟩,[]⟩,
 ⟨⟨some 11,.assign (.tmp 47),none⟩,[]⟩,⟨⟨some 12,.assign (.tmp 48),none⟩,[]⟩]) (.seq (.seq (.reg [⟨⟨some 49,.move (.tmp 12),none⟩,[]⟩,⟨⟨some 50,.binOp .eql 162 (.tmp 49) (.const (.int .i64 2)) 162,none⟩,[]⟩]) (.cond (.tmp 50) (.seq (.reg [⟨⟨some 51,.move (.tmp 0),none⟩,[]⟩,⟨⟨some 52,.move (.tmp 1),none⟩,[]⟩,⟨⟨some 53,.move (.tmp 2),none⟩,[]⟩,⟨⟨some 54,.call ⟨(.value (.func 207)),#[.tmp 51,.tmp 52,.tmp 53],#[27,3,3]⟩,none⟩,[]⟩]) (.seq (.reg [⟨⟨some 55,.move (.tmp 2),none⟩,[]⟩,⟨⟨some 56,.binOp .sub 3 (.tmp 55) (.const (.int .i64 1)) 3,none⟩,[]⟩,⟨⟨some 57,.move (.tmp 11),none⟩,[]⟩,⟨⟨some 58,.move (.tmp 1),none⟩,[]⟩,⟨⟨some 59,.binOp .sub 3 (.tmp 57) (.tmp 58) 3,none⟩,[]⟩,⟨⟨some 60,.binOp .sub 3 (.tmp 56) (.tmp 59) 3,none⟩,[]⟩,⟨⟨some 11,.assign (.tmp 60),none⟩,[]⟩]) (.reg [⟨⟨some 12,.assign (.const (.int .i64 1)),none⟩,[]⟩]))) .skip)) (.seq (.seq (.reg [⟨⟨some 61,.move (.tmp 8),none⟩,[]⟩,
 ⟨⟨some 62,.move (.tmp 61),none⟩,[]⟩,⟨⟨some 63,.move (.tmp 9),some (62,true)⟩,[]⟩,⟨⟨some 64,.pick (.tmp 62) (.tmp 63) (.const (.bool false)),none⟩,[]⟩,⟨⟨some 65,.move (.tmp 64),none⟩,[]⟩,⟨⟨some 66,.move (.tmp 12),some (65,true)⟩,[]⟩,⟨⟨some 67,.binOp .eql 162 (.tmp 66) (.const (.int .i64 1)) 162,some (65,true)⟩,[]⟩,⟨⟨some 68,.pick (.tmp 65) (.tmp 67) (.const (.bool false)),none⟩,[]⟩]) (.cond (.tmp 68) (.seq (.reg [⟨⟨some 69,.move (.tmp 0),none⟩,[]⟩,⟨⟨some 70,.move (.tmp 1),none⟩,[]⟩,⟨⟨some 71,.move (.tmp 2),none⟩,[]⟩,⟨⟨some 72,.call ⟨(.value (.func 208)),#[.tmp 69,.tmp 70,.tmp 71],#[27,3,3]⟩,none⟩,[]⟩]) (.cond (.tmp 72) .ret .skip)) .skip)) (.seq (.seq (.reg [⟨⟨some 73,.move (.tmp 1),none⟩,[]⟩,⟨⟨some 74,.binOp .gtr 3 (.tmp 73) (.const (.int .i64 0)) 3,none⟩,[]⟩,⟨⟨some 75,.move (.tmp 74),none⟩,[]⟩,
 ⟨⟨some 76,.move (.tmp 0),some (75,true)⟩,[]⟩,⟨⟨some 77,.move (.tmp 1),some (75,true)⟩,[]⟩,⟨⟨some 78,.binOp .sub 3 (.tmp 77) (.const (.int .i64 1)) 3,some (75,true)⟩,[]⟩,⟨⟨some 79,.indexAddr 27 (.tmp 76) (.tmp 78),some (75,true)⟩,[]⟩,⟨⟨some 80,.load 3 (.tmp 79),some (75,true)⟩,[]⟩,⟨⟨some 81,.move (.tmp 0),some (75,true)⟩,[]⟩,⟨⟨some 82,.move (.tmp 11),some (75,true)⟩,[]⟩,⟨⟨some 83,.indexAddr 27 (.tmp 81) (.tmp 82),some (75,true)⟩,[]⟩,⟨⟨some 84,.load 3 (.tmp 83),some (75,true)⟩,[]⟩,⟨⟨some 85,.call ⟨(.value (.func 209)),#[.tmp 80,.tmp 84],#[3,3]⟩,some (75,true)⟩,[]⟩,⟨⟨some 86,.unOp .not 4 (.tmp 85),some (75,true)⟩,[]⟩,⟨⟨some 87,.pick (.tmp 75) (.tmp 86) (.const (.bool false)),none⟩,[]⟩]) (.cond (.tmp 87) (.seq (.reg [⟨⟨some 88,.move (.tmp 0),none⟩,[]⟩,
 ⟨⟨some 89,.move (.tmp 1),none⟩,[]⟩,⟨⟨some 90,.move (.tmp 2),none⟩,[]⟩,⟨⟨some 91,.move (.tmp 11),none⟩,[]⟩,⟨⟨some 92,.call ⟨(.value (.func 210)),#[.tmp 88,.tmp 89,.tmp 90,.tmp 91],#[27,3,3,3]⟩,none⟩,[]⟩,⟨⟨some 13,.assign (.tmp 92),none⟩,[]⟩]) (.seq (.reg [⟨⟨some 93,.move (.tmp 13),none⟩,[]⟩,⟨⟨some 1,.assign (.tmp 93),none⟩,[]⟩]) (.exit 1))) .skip)) (.seq (.reg [⟨⟨some 95,.move (.tmp 0),none⟩,[]⟩,⟨⟨some 96,.move (.tmp 1),none⟩,[]⟩,⟨⟨some 97,.move (.tmp 2),none⟩,[]⟩,⟨⟨some 98,.move (.tmp 11),none⟩,[]⟩,⟨⟨some 99,.call ⟨(.value (.func 211)),#[.tmp 95,.tmp 96,.tmp 97,.tmp 98],#[27,3,3,3]⟩,none⟩,[]⟩,⟨⟨some 94,.move (.tmp 99),none⟩,[]⟩,⟨⟨some 100,.extract (.tmp 94) 0,none⟩,[]⟩,
 ⟨⟨some 101,.extract (.tmp 94) 1,none⟩,[]⟩,⟨⟨some 14,.assign (.tmp 100),none⟩,[]⟩,⟨⟨some 15,.assign (.tmp 101),none⟩,[]⟩]) (.seq (.reg [⟨⟨some 102,.move (.tmp 15),none⟩,[]⟩,⟨⟨some 9,.assign (.tmp 102),none⟩,[]⟩]) (.seq (.reg [⟨⟨some 103,.move (.tmp 14),none⟩,[]⟩,⟨⟨some 104,.move (.tmp 1),none⟩,[]⟩,⟨⟨some 105,.binOp .sub 3 (.tmp 103) (.tmp 104) 3,none⟩,[]⟩,⟨⟨some 106,.move (.tmp 2),none⟩,[]⟩,⟨⟨some 107,.move (.tmp 14),none⟩,[]⟩,⟨⟨some 108,.binOp .sub 3 (.tmp 106) (.tmp 107) 3,none⟩,[]⟩,⟨⟨some 16,.assign (.tmp 105),none⟩,[]⟩,⟨⟨some 17,.assign (.tmp 108),none⟩,[]⟩]) (.seq (.reg [⟨⟨some 109,.move (.tmp 10),none⟩,[]⟩,⟨⟨some 110,.binOp .quo 3 (.tmp 109) (.const (.int .i64 8)) 3,none⟩,[]⟩,
 ⟨⟨some 18,.assign (.tmp 110),none⟩,[]⟩]) (.seq (.reg [⟨⟨some 111,.move (.tmp 16),none⟩,[]⟩,⟨⟨some 112,.move (.tmp 17),none⟩,[]⟩,⟨⟨some 113,.binOp .lss 3 (.tmp 111) (.tmp 112) 3,none⟩,[]⟩]) (.cond (.tmp 113) (.seq (.reg [⟨⟨some 114,.move (.tmp 16),none⟩,[]⟩,⟨⟨some 115,.move (.tmp 18),none⟩,[]⟩,⟨⟨some 116,.binOp .geq 3 (.tmp 114) (.tmp 115) 3,none⟩,[]⟩,⟨⟨some 8,.assign (.tmp 116),none⟩,[]⟩]) (.seq (.reg [⟨⟨some 117,.move (.tmp 0),none⟩,[]⟩,⟨⟨some 118,.move (.tmp 1),none⟩,[]⟩,⟨⟨some 119,.move (.tmp 14),none⟩,[]⟩,⟨⟨some 120,.move (.tmp 3),none⟩,[]⟩,⟨⟨some 121,.call ⟨(.value (.func 172)),#[.tmp 117,.tmp 118,.tmp 119,.tmp 120],#[27,3,3,3]⟩,none⟩,[]⟩]) (.reg [⟨⟨some 122,.move (.tmp 14),none⟩,[]⟩,⟨⟨some 123,.binOp .add 3 (.tmp 122) (.const (.int .i64 1)) 3,none⟩,[]⟩,⟨⟨some 1,.assign (.tmp 123),none⟩,[]⟩]))) (.seq (.reg [⟨⟨some 124,.move (.tmp 17),none⟩,[]⟩,
 ⟨⟨some 125,.move (.tmp 18),none⟩,[]⟩,
  ⟨⟨some 126,.binOp .geq 3 (.tmp 124) (.tmp 125) 3,none⟩,[]⟩,
  ⟨⟨some 8,.assign (.tmp 126),none⟩,[]⟩]) (.seq (.reg [⟨⟨some 127,.move (.tmp 0),none⟩,[]⟩,
  ⟨⟨some 128,.move (.tmp 14),none⟩,[]⟩,
  ⟨⟨some 129,.binOp .add 3 (.tmp 128) (.const (.int .i64 1)) 3,none⟩,[]⟩,
  ⟨⟨some 130,.move (.tmp 2),none⟩,[]⟩,
  ⟨⟨some 131,.move (.tmp 3),none⟩,[]⟩,
  ⟨⟨some 132,.call ⟨(.value (.func 172)),#[.tmp 127,.tmp 129,.tmp 130,.tmp 131],#[27,3,3,3]⟩,none⟩,[]⟩]) (.reg [⟨⟨some 133,.move (.tmp 14),none⟩,[]⟩,
  ⟨⟨some 2,.assign (.tmp 133),none⟩,[]⟩]))))))))))))))))))))))
theorem in172:InT Tryz.prog 172 4 [] cd172:=InT.mk (by kernel_rfl) [(17,[(0,false),(1,false),(2,false),(3,false),(4,false),(5,false),(6,false),(7,false),(8,false),(9,false),(10,false),(11,false),(12,true),(13,false),(14,false)])] Tryz.func172 rfl (by kernel_rfl) (by kernel_rfl) (of_decide_eq_true (by kernel_rfl)) (by kernel_rfl)
def cd134:Cd:=(.seq (.reg [⟨⟨some 3,.move (.tmp 0),none⟩,[]⟩,
 ⟨⟨some 4,.call ⟨(.builtin .len),#[.tmp 3],#[27]⟩,none⟩,[]⟩,
 ⟨⟨some 2,.assign (.tmp 4),none⟩,[]⟩]) (.reg [⟨⟨some 5,.move (.tmp 0),none⟩,[]⟩,
 ⟨⟨some 6,.move (.tmp 2),none⟩,[]⟩,
 ⟨⟨some 7,.move (.tmp 2),none⟩,[]⟩,
 ⟨⟨some 8,.convert 3 94 (.tmp 7),none⟩,[]⟩,
 ⟨⟨some 9,.call ⟨(.value (.func 166)),#[.tmp 8],#[94]⟩,none⟩,[]⟩,
 ⟨⟨some 10,.call ⟨(.value (.func 172)),#[.tmp 5,(.const (.int .i64 0)),.tmp 6,.tmp 9],#[27,3,3,3]⟩,none⟩,[]⟩]))
theorem in134:InT Tryz.prog 134 1 [] cd134:=InT.mk (by kernel_rfl) [] Tryz.func134 rfl (by kernel_rfl) (by kernel_rfl) (of_decide_eq_true (by kernel_rfl)) (by kernel_rfl)
end Go.Proofs.YtlcipphiflcaiaaGreat.Ai
namespace Go.Proofs.YtlcipphiflcaiaaGreat.Ai
open Go Go.RowKit
theorem isNaN_c (x:Int)(H:AH):ACalls Tryz.prog 197 [.int .i64 x] H fun r H'=>r=.bool false/\H=H':=by
 refine in197 rfl ?_
 intro Q hQ
 simp (disch:=omega) only [cd197,SS,eq_self,reduceIte,reduceCtorEq,Nat.reduceEqDiff,Nat.reduceAdd]
 refine hQ _ _ _ ?_
 simp (disch:=omega) only [SS,eq_self,reduceIte,reduceCtorEq,Nat.reduceEqDiff,Nat.reduceAdd]
theorem Less_c (x y:Int)(H:AH):ACalls Tryz.prog 209 [.int .i64 x,.int .i64 y] H fun r H'=>r=.bool (decide (x<y))/\H=H':=by
 refine in209 rfl ?_
 intro Q hQ
 simp (disch:=omega) only [cd209,SS,eq_self,reduceIte,reduceCtorEq,Nat.reduceEqDiff,Nat.reduceAdd]
 refine CallH.by (isNaN_c ..) ?_
 rintro _ _ ⟨rfl,rfl⟩
 simp (disch:=omega) only [SS,eq_self,reduceIte,reduceCtorEq,Nat.reduceEqDiff,Nat.reduceAdd]
 refine hQ _ _ _ ?_
 simp (disch:=omega) only [SS,eq_self,reduceIte,reduceCtorEq,Nat.reduceEqDiff,Nat.reduceAdd]
theorem wrapU8 {n:Int}(h1:0<=n)(h2:n<256):IntKind.u8.wrap n=n:=by rw [IntKind.wrap_u8];omega
def cd160:Cd:=(.seq (.reg [⟨⟨some 2,.box 115 (.tmp 0),none⟩,[]⟩,⟨⟨some 3,.box 115 (.tmp 1),none⟩,[]⟩,⟨⟨some 4,.assign (.const (.bool false)),none⟩,[]⟩]) (.seq (.reg [⟨⟨some 5,.indexAddr 115 (.tmp 2) (.const (.int .i64 0)),none⟩,[]⟩,⟨⟨some 6,.load 3 (.tmp 5),none⟩,[]⟩,⟨⟨some 7,.indexAddr 115 (.tmp 3) (.const (.int .i64 0)),none⟩,[]⟩,⟨⟨some 8,.load 3 (.tmp 7),none⟩,[]⟩,⟨⟨some 9,.binOp .lss 3 (.tmp 6) (.tmp 8) 3,none⟩,[]⟩,⟨⟨some 10,.move (.tmp 9),none⟩,[]⟩,⟨⟨some 11,.indexAddr 115 (.tmp 2) (.const (.int .i64 0)),some (10,false)⟩,[]⟩,⟨⟨some 12,.load 3 (.tmp 11),some (10,false)⟩,[]⟩,⟨⟨some 13,.indexAddr 115 (.tmp 3) (.const (.int .i64 0)),some (10,false)⟩,[]⟩,⟨⟨some 14,.load 3 (.tmp 13),some (10,false)⟩,[]⟩,
 ⟨⟨some 15,.binOp .eql 3 (.tmp 12) (.tmp 14) 3,some (10,false)⟩,[]⟩,
  ⟨⟨some 16,.move (.tmp 15),some (10,false)⟩,[]⟩,
  ⟨⟨some 17,.indexAddr 115 (.tmp 2) (.const (.int .i64 1)),some (16,true)⟩,[]⟩,
  ⟨⟨some 18,.load 3 (.tmp 17),some (16,true)⟩,[]⟩,
  ⟨⟨some 19,.indexAddr 115 (.tmp 3) (.const (.int .i64 1)),some (16,true)⟩,[]⟩,
  ⟨⟨some 20,.load 3 (.tmp 19),some (16,true)⟩,[]⟩,
  ⟨⟨some 21,.binOp .lss 3 (.tmp 18) (.tmp 20) 3,some (16,true)⟩,[]⟩,
  ⟨⟨some 22,.pick (.tmp 16) (.tmp 21) (.const (.bool false)),some (10,false)⟩,[]⟩,
  ⟨⟨some 23,.pick (.tmp 10) (.const (.bool true)) (.tmp 22),none⟩,[]⟩,
  ⟨⟨some 4,.assign (.tmp 23),none⟩,[]⟩]) .ret))
theorem in160:InT Tryz.prog 160 2 [.tmp 4] cd160:=InT.mk (by kernel_rfl) [] Tryz.func160 rfl (by kernel_rfl) (by kernel_rfl) (of_decide_eq_true (by kernel_rfl)) (by kernel_rfl)
def cd167:Cd:=(.seq (.reg [⟨⟨some 4,.assign (.const (.int .i64 0)),none⟩,[]⟩]) (.seq (.reg [⟨⟨some 7,.move (.tmp 0),none⟩,[]⟩,
 ⟨⟨some 8,.call ⟨(.value (.func 197)),#[.tmp 7],#[3]⟩,none⟩,[]⟩,
 ⟨⟨some 5,.assign (.tmp 8),none⟩,[]⟩]) (.seq (.reg [⟨⟨some 9,.move (.tmp 1),none⟩,[]⟩,
 ⟨⟨some 10,.call ⟨(.value (.func 197)),#[.tmp 9],#[3]⟩,none⟩,[]⟩,
 ⟨⟨some 6,.assign (.tmp 10),none⟩,[]⟩]) (.seq (.seq (.reg [⟨⟨some 11,.move (.tmp 5),none⟩,[]⟩]) (.cond (.tmp 11) (.seq (.seq (.reg [⟨⟨some 12,.move (.tmp 6),none⟩,[]⟩]) (.cond (.tmp 12) (.seq (.reg [⟨⟨some 4,.assign (.const (.int .i64 0)),none⟩,[]⟩]) .ret) .skip)) (.seq (.reg [⟨⟨some 4,.assign (.const (.int .i64 (-1))),none⟩,[]⟩]) .ret)) .skip)) (.seq (.seq (.reg [⟨⟨some 13,.move (.tmp 6),none⟩,[]⟩]) (.cond (.tmp 13) (.seq (.reg [⟨⟨some 4,.assign (.const (.int .i64 1)),none⟩,[]⟩]) .ret) .skip)) (.seq (.seq (.reg [⟨⟨some 14,.move (.tmp 0),none⟩,[]⟩,
 ⟨⟨some 15,.move (.tmp 1),none⟩,[]⟩,
 ⟨⟨some 16,.binOp .lss 3 (.tmp 14) (.tmp 15) 3,none⟩,[]⟩]) (.cond (.tmp 16) (.seq (.reg [⟨⟨some 4,.assign (.const (.int .i64 (-1))),none⟩,[]⟩]) .ret) .skip)) (.seq (.seq (.reg [⟨⟨some 17,.move (.tmp 0),none⟩,[]⟩,
 ⟨⟨some 18,.move (.tmp 1),none⟩,[]⟩,
 ⟨⟨some 19,.binOp .gtr 3 (.tmp 17) (.tmp 18) 3,none⟩,[]⟩]) (.cond (.tmp 19) (.seq (.reg [⟨⟨some 4,.assign (.const (.int .i64 1)),none⟩,[]⟩]) .ret) .skip)) (.seq (.reg [⟨⟨some 4,.assign (.const (.int .i64 0)),none⟩,[]⟩]) .ret))))))))
theorem in167:InT Tryz.prog 167 2 [.tmp 4] cd167:=InT.mk (by kernel_rfl) [] Tryz.func167 rfl (by kernel_rfl) (by kernel_rfl) (of_decide_eq_true (by kernel_rfl)) (by kernel_rfl)
def cd200:Cd:=(.seq (.reg [⟨⟨some 2,.assign (.const (.int .i64 0)),none⟩,[]⟩]) (.seq (.reg [⟨⟨some 3,.assign (.const (.int .i64 0)),none⟩,[]⟩]) (.seq (.seq (.reg [⟨⟨some 6,.move (.tmp 0),none⟩,[]⟩,
 ⟨⟨some 7,.call ⟨(.builtin .len),#[.tmp 6],#[27]⟩,none⟩,[]⟩,
 ⟨⟨some 8,.move (.const (.int .i64 0)),none⟩,[]⟩]) (.block 0 (.loop (.seq (.reg [⟨⟨some 9,.binOp .lss 3 (.tmp 8) (.tmp 7) 3,none⟩,[]⟩]) (.seq (.cond (.tmp 9) .skip (.exit 0)) (.seq (.block 1 (.seq (.reg [⟨⟨some 10,.indexAddr 27 (.tmp 6) (.tmp 8),none⟩,[]⟩,
 ⟨⟨some 11,.load 3 (.tmp 10),none⟩,[]⟩,
 ⟨⟨some 5,.assign (.tmp 11),none⟩,[]⟩]) (.seq (.reg [⟨⟨some 12,.move (.tmp 5),none⟩,[]⟩,
 ⟨⟨some 13,.move (.tmp 3),none⟩,[]⟩,
 ⟨⟨some 14,.binOp .neq 3 (.tmp 12) (.tmp 13) 3,none⟩,[]⟩]) (.cond (.tmp 14) (.seq (.reg [⟨⟨some 15,.move (.tmp 5),none⟩,[]⟩,
 ⟨⟨some 2,.assign (.tmp 15),none⟩,[]⟩]) .ret) .skip)))) (.reg [⟨⟨some 16,.binOp .add 3 (.tmp 8) (.const (.int .i64 1)) 3,none⟩,[]⟩,
 ⟨⟨some 8,.move (.tmp 16),none⟩,[]⟩]))))))) (.seq (.reg [⟨⟨some 17,.move (.tmp 3),none⟩,[]⟩,
 ⟨⟨some 2,.assign (.tmp 17),none⟩,[]⟩]) .ret))))
theorem in200:InT Tryz.prog 200 1 [.tmp 2] cd200:=InT.mk (by kernel_rfl) [] Tryz.func200 rfl (by kernel_rfl) (by kernel_rfl) (of_decide_eq_true (by kernel_rfl)) (by kernel_rfl)
def cd169:Cd:=(.seq (.reg [⟨⟨some 2,.box 115 (.tmp 0),none⟩,[]⟩,⟨⟨some 3,.box 115 (.tmp 1),none⟩,[]⟩,⟨⟨some 4,.assign (.const (.int .i64 0)),none⟩,[]⟩]) (.seq (.reg [⟨⟨some 5,.indexAddr 115 (.tmp 2) (.const (.int .i64 0)),none⟩,[]⟩,⟨⟨some 6,.load 3 (.tmp 5),none⟩,[]⟩,⟨⟨some 7,.indexAddr 115 (.tmp 3) (.const (.int .i64 0)),none⟩,[]⟩,⟨⟨some 8,.load 3 (.tmp 7),none⟩,[]⟩,⟨⟨some 10,.indexAddr 115 (.tmp 2) (.const (.int .i64 1)),none⟩,[]⟩,⟨⟨some 11,.load 3 (.tmp 10),none⟩,[]⟩,⟨⟨some 12,.indexAddr 115 (.tmp 3) (.const (.int .i64 1)),none⟩,[]⟩,⟨⟨some 13,.load 3 (.tmp 12),none⟩,[]⟩,⟨⟨some 9,.call ⟨(.value (.func 167)),#[.tmp 6,.tmp 8],#[3,3]⟩,none⟩,[⟨some 13,.load 3 (.tmp 12),none⟩,⟨some 11,.load 3 (.tmp 10),none⟩]⟩,⟨⟨some 14,.call ⟨(.value (.func 167)),#[.tmp 11,.tmp 13],#[3,3]⟩,none⟩,[]⟩,
 ⟨⟨some 15,.buildSlice 27 2 #[(0,.tmp 9),(1,.tmp 14)],none⟩,[]⟩,
  ⟨⟨some 16,.call ⟨(.value (.func 200)),#[.tmp 15],#[27]⟩,none⟩,[]⟩,
  ⟨⟨some 4,.assign (.tmp 16),none⟩,[]⟩]) .ret))
theorem in169:InT Tryz.prog 169 2 [.tmp 4] cd169:=InT.mk (by kernel_rfl) [(1,[(0,false),(1,false),(2,false),(3,false),(5,false),(6,false),(7,false),(8,false),(4,true),(9,true),(10,false),(11,true),(12,false)])] Tryz.func169 rfl (by kernel_rfl) (by kernel_rfl) (of_decide_eq_true (by kernel_rfl)) (by kernel_rfl)
def cd173:Cd:=(.seq (.reg [⟨⟨some 4,.assign (.const (.bool false)),none⟩,[]⟩]) (.seq (.seq (.reg [⟨⟨some 5,.assign (.const (.int .i64 0)),none⟩,[]⟩]) (.block 0 (.loop (.seq (.seq (.reg [⟨⟨some 7,.move (.tmp 5),none⟩,[]⟩,⟨⟨some 8,.move (.tmp 0),none⟩,[]⟩,⟨⟨some 9,.call ⟨(.builtin .len),#[.tmp 8],#[24]⟩,none⟩,[]⟩,⟨⟨some 10,.binOp .lss 3 (.tmp 7) (.tmp 9) 3,none⟩,[]⟩]) (.cond (.tmp 10) .skip (.exit 0))) (.seq (.block 1 (.seq (.reg [⟨⟨some 13,.move (.tmp 0),none⟩,[]⟩,⟨⟨some 14,.move (.tmp 5),none⟩,[]⟩,⟨⟨some 15,.indexAddr 24 (.tmp 13) (.tmp 14),none⟩,[]⟩,⟨⟨some 16,.load 115 (.tmp 15),none⟩,[]⟩,⟨⟨some 6,.alloc 115,none⟩,[]⟩,⟨⟨none,.store 115 (.tmp 6) (.tmp 16),none⟩,[]⟩]) (.seq (.reg [⟨⟨some 17,.indexAddr 115 (.tmp 6) (.const (.int .i64 0)),none⟩,[]⟩,⟨⟨some 18,.load 3 (.tmp 17),none⟩,[]⟩,⟨⟨some 19,.move (.tmp 1),none⟩,[]⟩,⟨⟨some 20,.binOp .sub 3 (.tmp 19) (.const (.int .i64 1)) 3,none⟩,[]⟩,
 ⟨⟨some 21,.call ⟨(.value (.func 114)),#[.tmp 18,(.const (.int .i64 0)),.tmp 20],#[3,3,3]⟩,none⟩,[]⟩,⟨⟨some 22,.unOp .not 4 (.tmp 21),none⟩,[]⟩,⟨⟨some 23,.move (.tmp 22),none⟩,[]⟩,⟨⟨some 24,.indexAddr 115 (.tmp 6) (.const (.int .i64 1)),some (23,false)⟩,[]⟩,⟨⟨some 25,.load 3 (.tmp 24),some (23,false)⟩,[]⟩,⟨⟨some 26,.move (.tmp 1),some (23,false)⟩,[]⟩,⟨⟨some 27,.binOp .sub 3 (.tmp 26) (.const (.int .i64 1)) 3,some (23,false)⟩,[]⟩,⟨⟨some 28,.call ⟨(.value (.func 114)),#[.tmp 25,(.const (.int .i64 0)),.tmp 27],#[3,3,3]⟩,some (23,false)⟩,[]⟩,⟨⟨some 29,.unOp .not 4 (.tmp 28),some (23,false)⟩,[]⟩,⟨⟨some 30,.pick (.tmp 23) (.const (.bool true)) (.tmp 29),none⟩,[]⟩,⟨⟨some 31,.move (.tmp 30),none⟩,[]⟩,⟨⟨some 32,.indexAddr 115 (.tmp 6) (.const (.int .i64 0)),some (31,false)⟩,[]⟩,
 ⟨⟨some 33,.load 3 (.tmp 32),some (31,false)⟩,[]⟩,⟨⟨some 34,.indexAddr 115 (.tmp 6) (.const (.int .i64 1)),some (31,false)⟩,[]⟩,⟨⟨some 35,.load 3 (.tmp 34),some (31,false)⟩,[]⟩,⟨⟨some 36,.binOp .geq 3 (.tmp 33) (.tmp 35) 3,some (31,false)⟩,[]⟩,⟨⟨some 37,.pick (.tmp 31) (.const (.bool true)) (.tmp 36),none⟩,[]⟩,⟨⟨some 38,.move (.tmp 37),none⟩,[]⟩,⟨⟨some 39,.move (.tmp 5),some (38,false)⟩,[]⟩,⟨⟨some 40,.binOp .gtr 3 (.tmp 39) (.const (.int .i64 0)) 3,some (38,false)⟩,[]⟩,⟨⟨some 41,.move (.tmp 40),some (38,false)⟩,[]⟩,⟨⟨some 42,.move (.tmp 0),some (41,true)⟩,[]⟩,⟨⟨some 43,.move (.tmp 5),some (41,true)⟩,[]⟩,⟨⟨some 44,.binOp .sub 3 (.tmp 43) (.const (.int .i64 1)) 3,some (41,true)⟩,[]⟩,
 ⟨⟨some 45,.indexAddr 24 (.tmp 42) (.tmp 44),some (41,true)⟩,[]⟩,
  ⟨⟨some 46,.load 115 (.tmp 45),some (41,true)⟩,[]⟩,
  ⟨⟨some 47,.load 115 (.tmp 6),some (41,true)⟩,[]⟩,
  ⟨⟨some 48,.call ⟨(.value (.func 160)),#[.tmp 46,.tmp 47],#[115,115]⟩,some (41,true)⟩,[]⟩,
  ⟨⟨some 49,.unOp .not 4 (.tmp 48),some (41,true)⟩,[]⟩,
  ⟨⟨some 50,.pick (.tmp 41) (.tmp 49) (.const (.bool false)),some (38,false)⟩,[]⟩,
  ⟨⟨some 51,.pick (.tmp 38) (.const (.bool true)) (.tmp 50),none⟩,[]⟩]) (.cond (.tmp 51) (.seq (.reg [⟨⟨some 4,.assign (.const (.bool false)),none⟩,[]⟩]) .ret) .skip)))) (.reg [⟨⟨some 11,.move (.tmp 5),none⟩,[]⟩,
  ⟨⟨some 12,.binOp .add 3 (.tmp 11) (.const (.int .i64 1)) 3,none⟩,[]⟩,
  ⟨⟨some 5,.assign (.tmp 12),none⟩,[]⟩])))))) (.seq (.reg [⟨⟨some 4,.assign (.const (.bool true)),none⟩,[]⟩]) .ret)))
theorem in173:InT Tryz.prog 173 2 [.tmp 4] cd173:=InT.mk (by kernel_rfl) [(5,[(0,false),(1,false),(2,false),(3,false),(4,true),(5,false),(6,false),(7,false),(8,false),(9,false),(10,false),(11,true),(12,false),(13,false),(14,false),(15,false),(16,false),(17,false),(18,false),(19,false),(20,false),(21,false),(22,false),(23,false),(24,false),(25,false),(26,false),(27,false),(28,false),(29,false),(30,false),(31,true),(32,false),(33,false),(34,false)])] Tryz.func173 rfl (by kernel_rfl) (by kernel_rfl) (of_decide_eq_true (by kernel_rfl)) (by kernel_rfl)
def cd131:Cd:=(.seq (.reg [⟨⟨some 4,.assign (.const (.bool false)),none⟩,[]⟩]) (.seq (.seq (.reg [⟨⟨some 7,.move (.tmp 0),none⟩,[]⟩,⟨⟨some 8,.call ⟨(.builtin .len),#[.tmp 7],#[24]⟩,none⟩,[]⟩,⟨⟨some 9,.move (.const (.int .i64 0)),none⟩,[]⟩]) (.block 0 (.loop (.seq (.reg [⟨⟨some 10,.binOp .lss 3 (.tmp 9) (.tmp 8) 3,none⟩,[]⟩]) (.seq (.cond (.tmp 10) .skip (.exit 0)) (.seq (.block 1 (.seq (.reg [⟨⟨some 11,.move (.tmp 9),none⟩,[]⟩,⟨⟨some 12,.indexAddr 24 (.tmp 7) (.tmp 9),none⟩,[]⟩,⟨⟨some 13,.load 115 (.tmp 12),none⟩,[]⟩,⟨⟨some 6,.alloc 115,none⟩,[]⟩,⟨⟨some 5,.assign (.tmp 11),none⟩,[]⟩,⟨⟨none,.store 115 (.tmp 6) (.tmp 13),none⟩,[]⟩]) (.seq (.reg [⟨⟨some 14,.indexAddr 115 (.tmp 6) (.const (.int .i64 0)),none⟩,[]⟩,⟨⟨some 15,.load 3 (.tmp 14),none⟩,[]⟩,⟨⟨some 16,.binOp .lss 3 (.tmp 15) (.const (.int .i64 0)) 3,none⟩,[]⟩,⟨⟨some 17,.move (.tmp 16),none⟩,[]⟩,⟨⟨some 18,.indexAddr 115 (.tmp 6) (.const (.int .i64 0)),some (17,false)⟩,[]⟩,
 ⟨⟨some 19,.load 3 (.tmp 18),some (17,false)⟩,[]⟩,⟨⟨some 20,.indexAddr 115 (.tmp 6) (.const (.int .i64 1)),some (17,false)⟩,[]⟩,⟨⟨some 21,.load 3 (.tmp 20),some (17,false)⟩,[]⟩,⟨⟨some 22,.binOp .geq 3 (.tmp 19) (.tmp 21) 3,some (17,false)⟩,[]⟩,⟨⟨some 23,.pick (.tmp 17) (.const (.bool true)) (.tmp 22),none⟩,[]⟩,⟨⟨some 24,.move (.tmp 23),none⟩,[]⟩,⟨⟨some 25,.indexAddr 115 (.tmp 6) (.const (.int .i64 1)),some (24,false)⟩,[]⟩,⟨⟨some 26,.load 3 (.tmp 25),some (24,false)⟩,[]⟩,⟨⟨some 27,.move (.tmp 1),some (24,false)⟩,[]⟩,⟨⟨some 28,.binOp .geq 3 (.tmp 26) (.tmp 27) 3,some (24,false)⟩,[]⟩,⟨⟨some 29,.pick (.tmp 24) (.const (.bool true)) (.tmp 28),none⟩,[]⟩,⟨⟨some 30,.move (.tmp 29),none⟩,[]⟩,
 ⟨⟨some 31,.move (.tmp 5),some (30,false)⟩,[]⟩,⟨⟨some 32,.binOp .gtr 3 (.tmp 31) (.const (.int .i64 0)) 3,some (30,false)⟩,[]⟩,⟨⟨some 33,.move (.tmp 32),some (30,false)⟩,[]⟩,⟨⟨some 34,.move (.tmp 0),some (33,true)⟩,[]⟩,⟨⟨some 35,.move (.tmp 5),some (33,true)⟩,[]⟩,⟨⟨some 36,.binOp .sub 3 (.tmp 35) (.const (.int .i64 1)) 3,some (33,true)⟩,[]⟩,⟨⟨some 37,.indexAddr 24 (.tmp 34) (.tmp 36),some (33,true)⟩,[]⟩,⟨⟨some 38,.load 115 (.tmp 37),some (33,true)⟩,[]⟩,⟨⟨some 39,.load 115 (.tmp 6),some (33,true)⟩,[]⟩,⟨⟨some 40,.call ⟨(.value (.func 169)),#[.tmp 38,.tmp 39],#[115,115]⟩,some (33,true)⟩,[]⟩,⟨⟨some 41,.binOp .geq 3 (.tmp 40) (.const (.int .i64 0)) 3,some (33,true)⟩,[]⟩,⟨⟨some 42,.pick (.tmp 33) (.tmp 41) (.const (.bool false)),some (30,false)⟩,[]⟩,
 ⟨⟨some 43,.pick (.tmp 30) (.const (.bool true)) (.tmp 42),none⟩,[]⟩]) (.cond (.tmp 43) (.seq (.reg [⟨⟨some 4,.assign (.const (.bool false)),none⟩,[]⟩]) .ret) .skip)))) (.reg [⟨⟨some 44,.binOp .add 3 (.tmp 9) (.const (.int .i64 1)) 3,none⟩,[]⟩,
  ⟨⟨some 9,.move (.tmp 44),none⟩,[]⟩]))))))) (.seq (.reg [⟨⟨some 4,.assign (.const (.bool true)),none⟩,[]⟩]) .ret)))
theorem in131:InT Tryz.prog 131 2 [.tmp 4] cd131:=InT.mk (by kernel_rfl) [(4,[(0,false),(1,false),(2,false),(3,false),(4,false),(5,false),(6,false),(7,false),(8,false),(9,false),(10,false),(11,false),(12,false),(13,false),(14,false),(15,false),(16,false),(17,false),(18,false),(19,false),(20,false),(21,false),(22,false),(23,false),(24,false),(25,false),(26,true),(27,false),(28,false),(29,false)])] Tryz.func131 rfl (by kernel_rfl) (by kernel_rfl) (of_decide_eq_true (by kernel_rfl)) (by kernel_rfl)
def cd136:Cd:=(.seq (.reg [⟨⟨some 1,.box 26 (.tmp 0),none⟩,[]⟩,
 ⟨⟨some 2,.assign (.const (.bool false)),none⟩,[]⟩]) (.seq (.reg [⟨⟨some 3,.fieldAddr 26 (.tmp 1) 0,none⟩,[]⟩,
 ⟨⟨some 4,.load 3 (.tmp 3),none⟩,[]⟩,
 ⟨⟨some 5,.call ⟨(.value (.func 114)),#[.tmp 4,(.const (.int .i64 0)),(.const (.int .i64 8))],#[3,3,3]⟩,none⟩,[]⟩,
 ⟨⟨some 6,.move (.tmp 5),none⟩,[]⟩,
 ⟨⟨some 7,.fieldAddr 26 (.tmp 1) 1,some (6,true)⟩,[]⟩,
 ⟨⟨some 8,.load 24 (.tmp 7),some (6,true)⟩,[]⟩,
 ⟨⟨some 9,.fieldAddr 26 (.tmp 1) 0,some (6,true)⟩,[]⟩,
 ⟨⟨some 10,.load 3 (.tmp 9),some (6,true)⟩,[]⟩,
 ⟨⟨some 11,.call ⟨(.value (.func 173)),#[.tmp 8,.tmp 10],#[24,3]⟩,some (6,true)⟩,[]⟩,
 ⟨⟨some 12,.pick (.tmp 6) (.tmp 11) (.const (.bool false)),none⟩,[]⟩,
 ⟨⟨some 2,.assign (.tmp 12),none⟩,[]⟩]) .ret))
theorem in136:InT Tryz.prog 136 1 [.tmp 2] cd136:=InT.mk (by kernel_rfl) [] Tryz.func136 rfl (by kernel_rfl) (by kernel_rfl) (of_decide_eq_true (by kernel_rfl)) (by kernel_rfl)
def cd64:Cd:=(.seq (.reg [⟨⟨some 1,.box 26 (.tmp 0),none⟩,[]⟩,
 ⟨⟨some 2,.assign (.const (.bool false)),none⟩,[]⟩]) (.seq (.reg [⟨⟨some 3,.fieldAddr 26 (.tmp 1) 0,none⟩,[]⟩,
 ⟨⟨some 4,.load 3 (.tmp 3),none⟩,[]⟩,
 ⟨⟨some 5,.call ⟨(.value (.func 102)),#[.tmp 4,(.const (.int .i64 0)),(.const (.int .i64 8))],#[3,3,3]⟩,none⟩,[]⟩,
 ⟨⟨some 6,.move (.tmp 5),none⟩,[]⟩,
 ⟨⟨some 7,.fieldAddr 26 (.tmp 1) 1,some (6,true)⟩,[]⟩,
 ⟨⟨some 8,.load 24 (.tmp 7),some (6,true)⟩,[]⟩,
 ⟨⟨some 9,.fieldAddr 26 (.tmp 1) 0,some (6,true)⟩,[]⟩,
 ⟨⟨some 10,.load 3 (.tmp 9),some (6,true)⟩,[]⟩,
 ⟨⟨some 11,.call ⟨(.value (.func 131)),#[.tmp 8,.tmp 10],#[24,3]⟩,some (6,true)⟩,[]⟩,
 ⟨⟨some 12,.pick (.tmp 6) (.tmp 11) (.const (.bool false)),none⟩,[]⟩,
 ⟨⟨some 2,.assign (.tmp 12),none⟩,[]⟩]) .ret))
theorem in64:InT Tryz.prog 64 1 [.tmp 2] cd64:=InT.mk (by kernel_rfl) [] Tryz.func64 rfl (by kernel_rfl) (by kernel_rfl) (of_decide_eq_true (by kernel_rfl)) (by kernel_rfl)
end Go.Proofs.YtlcipphiflcaiaaGreat.Ai
namespace Go.Proofs.YtlcipphiflcaiaaGreat.Ai
open Go Go.RowKit
def pairLt (p q:Int × Int):Prop:=p.1<q.1∨p.1=q.1/\p.2<q.2
instance (p q:Int × Int):Decidable (pairLt p q):=by unfold pairLt;infer_instance
def prOk (n:Int)(ps:List (Int × Int))(i:Nat):Prop :=
 0<=(ps.getD i (0,0)).1/\(ps.getD i (0,0)).1<(ps.getD i (0,0)).2/\(ps.getD i (0,0)).2<n/\(0<i->pairLt (ps.getD (i - 1) (0,0)) (ps.getD i (0,0)))
instance (n:Int) (ps:List (Int × Int)) (i:Nat):Decidable (prOk n ps i):=by unfold prOk;infer_instance
def PrU (n:Int)(ps:List (Int × Int))(k:Nat):Prop:=∀ i,i<k->prOk n ps i
instance (n:Int) (ps:List (Int × Int)) (k:Nat):Decidable (PrU n ps k):=by unfold PrU;infer_instance
def Grd (n:Int)(ps:List (Int × Int)):Prop:=(0<=n/\n<=8)/\PrU n ps ps.length
instance (n:Int) (ps:List (Int × Int)):Decidable (Grd n ps):=by unfold Grd;infer_instance
theorem PrU.zero (n:Int)(ps:List (Int × Int)):PrU n ps 0:=fun i h=>absurd h (Nat.not_lt_zero i)
theorem PrU.succ {n:Int}{ps:List (Int × Int)}{k:Nat}(h:PrU n ps k)(h2:prOk n ps k):PrU n ps (k+1):=by
 intro i hi
 rcases Nat.lt_succ_iff_lt_or_eq.1 hi with g | g
 ·exact h i g
 ·rw [g];exact h2
theorem PrU.no {n:Int}{ps:List (Int × Int)}{k i:Nat}(hi:i<k)(h:¬ prOk n ps i):¬ PrU n ps k:=fun g=>h (g i hi)
theorem l2Edge_c (p q:Int × Int)(H:AH):ACalls Tryz.prog 160 [.agg (List.toArray [.int .i64 p.1,.int .i64 p.2]),.agg (List.toArray [.int .i64 q.1,.int .i64 q.2])] H fun r H'=>r=.bool (decide (pairLt p q))/\H<+:H':=by
 refine in160 rfl ?_
 intro Q hQ
 simp (disch:=omega) only [cd160,box_a2,SS,eq_self,reduceIte,reduceCtorEq,Nat.reduceEqDiff,Nat.reduceAdd]
 generalize hA:H ++ [AObj.cells [.int .i64 p.1,.int .i64 p.2] 115 false]=A
 have pA:H<+:A:=by rw [<- hA];exact List.prefix_append _ _
 have a0:A[H.length]?=some (.cells [.int .i64 p.1,.int .i64 p.2] 115 false):=by rw [<- hA];exact at_new ..
 generalize hB:A ++ [AObj.cells [.int .i64 q.1,.int .i64 q.2] 115 false]=B
 have pB:A<+:B:=by rw [<- hB];exact List.prefix_append _ _
 have b0:=pre_at pB a0
 have b1:B[A.length]?=some (.cells [.int .i64 q.1,.int .i64 q.2] 115 false):=by rw [<- hB];exact at_new ..
 have pHB:=pA.trans pB
 simp (disch:=omega) only [cell_of b0,cell_of b1,SS,eq_self,reduceIte,reduceCtorEq,Nat.reduceEqDiff,Nat.reduceAdd]
 refine brD.intro (fun e1=>?_) (fun e1=>?_) <;> simp (disch:=omega) only [e1,cell_of b0,cell_of b1,SS,eq_self,reduceIte,reduceCtorEq,Nat.reduceEqDiff,Nat.reduceAdd]
 ·refine hQ _ _ _ ?_
  simp (disch:=omega) only [e1,SS,eq_self,reduceIte,reduceCtorEq,Nat.reduceEqDiff,Nat.reduceAdd]
  exact ⟨by rw [decide_eq_true (show pairLt p q from .inl e1)],pHB⟩
 ·refine brD.intro (fun e2=>?_) (fun e2=>?_) <;> simp (disch:=omega) only [e1,e2,cell_of b0,cell_of b1,SS,eq_self,reduceIte,reduceCtorEq,Nat.reduceEqDiff,Nat.reduceAdd]
  ·refine hQ _ _ _ ?_
   simp (disch:=omega) only [e1,e2,SS,eq_self,reduceIte,reduceCtorEq,Nat.reduceEqDiff,Nat.reduceAdd]
   have:pairLt p q↔p.2<q.2:=by unfold pairLt;omega
   exact ⟨by simp [this],pHB⟩
  ·refine hQ _ _ _ ?_
   simp (disch:=omega) only [e1,e2,SS,eq_self,reduceIte,reduceCtorEq,Nat.reduceEqDiff,Nat.reduceAdd]
   have:¬ pairLt p q:=by unfold pairLt;omega
   exact ⟨by simp [this],pHB⟩
def cmpI (a b:Int):Int:=if a<b then -1 else if b<a then 1 else 0
def cmpP (p q:Int × Int):Int:=if cmpI p.1 q.1 ≠ 0 then cmpI p.1 q.1 else cmpI p.2 q.2
theorem cmpP_ge (p q:Int × Int):(0<=cmpP p q)↔¬ pairLt p q:=by
 unfold cmpP cmpI pairLt
 repeat' split
 all_goals omega
theorem Compare_c (a b:Int)(H:AH):ACalls Tryz.prog 167 [.int .i64 a,.int .i64 b] H fun r H'=>r=.int .i64 (cmpI a b)/\H=H':=by
 refine in167 rfl ?_
 intro Q hQ
 simp (disch:=omega) only [cd167,SS,eq_self,reduceIte,reduceCtorEq,Nat.reduceEqDiff,Nat.reduceAdd]
 refine CallH.by (isNaN_c a H) ?_
 rintro _ _ ⟨rfl,rfl⟩
 simp (disch:=omega) only [SS,eq_self,reduceIte,reduceCtorEq,Nat.reduceEqDiff,Nat.reduceAdd]
 refine CallH.by (isNaN_c b H) ?_
 rintro _ _ ⟨rfl,rfl⟩
 simp (disch:=omega) only [SS,eq_self,reduceIte,reduceCtorEq,Nat.reduceEqDiff,Nat.reduceAdd]
 refine brD.intro (fun e=>?_) (fun e=>?_) <;> simp (disch:=omega) only [e,SS,eq_self,reduceIte,reduceCtorEq,Nat.reduceEqDiff,Nat.reduceAdd]
 ·refine hQ _ _ _ ?_
  simp (disch:=omega) only [cmpI,e,SS,eq_self,reduceIte,reduceCtorEq,Nat.reduceEqDiff,Nat.reduceAdd]
 ·refine brD.intro (fun e2=>?_) (fun e2=>?_) <;> simp (disch:=omega) only [e,e2,SS,eq_self,reduceIte,reduceCtorEq,Nat.reduceEqDiff,Nat.reduceAdd]
  ·refine hQ _ _ _ ?_
   simp (disch:=omega) only [cmpI,e,e2,SS,eq_self,reduceIte,reduceCtorEq,Nat.reduceEqDiff,Nat.reduceAdd]
  ·refine hQ _ _ _ ?_
   simp (disch:=omega) only [cmpI,e,e2,SS,eq_self,reduceIte,reduceCtorEq,Nat.reduceEqDiff,Nat.reduceAdd]
theorem Or_c (a b:Int)(o:Nat)(H:AH)(ho:H[o]?=some (.cells (ints [a,b]) 3 false)):ACalls Tryz.prog 200 [.slice (some ⟨o,0,none⟩) 2 2] H fun r H'=>r=.int .i64 (if a ≠ 0 then a else b)/\H=H':=by
 refine in200 rfl ?_
 intro Q hQ
 simp (disch:=omega) only [cd200,SS,eq_self,reduceIte,reduceCtorEq,Nat.reduceEqDiff,Nat.reduceAdd]
 refine LoopH.by (fun m s H'=>∃ i,m+i=2/\s 0=.slice (some ⟨o,0,none⟩) 2 2/\s 3=.int .i64 0/\s 6=.slice (some ⟨o,0,none⟩) 2 2/\s 7=.int .i64 2/\s 8=.int .i64 ((i:Nat):Int)/\H=H'/\∀ j,j<i->[a,b].getD j 0=0) 2 ?_ ?_
 ·exact ⟨0,rfl,rfl,rfl,rfl,rfl,rfl,rfl,fun j hj=>absurd hj (Nat.not_lt_zero j)⟩
 ·rintro m s H' ⟨i,hm,h0,h3,h6,h7,h8,rfl,hz⟩
  simp (disch:=omega) only [h0,h3,h6,h7,h8,SS,eq_self,reduceIte,reduceCtorEq,Nat.reduceEqDiff,Nat.reduceAdd]
  refine brD.intro (fun g=>?_) (fun g=>?_)
  ·have hi:i < [a,b].length:=by show i<2;omega
   simp (disch:=omega) only [h0,h3,h6,h7,h8,Int.toNat_natCast,Nat.zero_add,cell_ints ho hi,SS,eq_self,reduceIte,reduceCtorEq,Nat.reduceEqDiff,Nat.reduceAdd]
   refine brD.intro (fun e=>?_) (fun e=>?_) <;> simp (disch:=omega) only [h0,h3,h6,h7,h8,e,wrap64,SS,eq_self,reduceIte,reduceCtorEq,Nat.reduceEqDiff,Nat.reduceAdd]
   ·refine hQ _ _ _ ?_
    simp (disch:=omega) only [SS,eq_self,reduceIte,reduceCtorEq,Nat.reduceEqDiff,Nat.reduceAdd]
    have:i=0∨i=1:=by omega
    rcases this with rfl | rfl
    ·have e':a ≠ 0:=e
     simp [e']
    ·have e1:a=0:=hz 0 (by omega)
     simp [e1]
   ·have f1:∀ j,j<i+1->[a,b].getD j 0=0:=by
     intro j hj
     rcases Nat.lt_succ_iff_lt_or_eq.1 hj with h | h
     ·exact hz j h
     ·rw [h];exact Decidable.not_not.1 e
    refine ⟨m - 1,by omega,i+1,?_⟩
    (repeat' apply And.intro) <;> first | exact f1 | (simp only [Value.int.injEq,true_and];omega) | omega | rfl | assumption | (simp;done) | (simp;omega)
  ·simp (disch:=omega) only [h3,SS,eq_self,reduceIte,reduceCtorEq,Nat.reduceEqDiff,Nat.reduceAdd]
   refine hQ _ _ _ ?_
   simp (disch:=omega) only [h3,SS,eq_self,reduceIte,reduceCtorEq,Nat.reduceEqDiff,Nat.reduceAdd]
   have e1:a=0:=hz 0 (by omega)
   have e2:b=0:=hz 1 (by omega)
   simp [e1,e2]
theorem comparePairs_c (p q:Int × Int)(H:AH):ACalls Tryz.prog 169 [.agg (List.toArray [.int .i64 p.1,.int .i64 p.2]),.agg (List.toArray [.int .i64 q.1,.int .i64 q.2])] H fun r H'=>r=.int .i64 (cmpP p q)/\H<+:H':=by
 refine in169 rfl ?_
 intro Q hQ
 simp (disch:=omega) only [cd169,box_a2,SS,eq_self,reduceIte,reduceCtorEq,Nat.reduceEqDiff,Nat.reduceAdd]
 generalize hA:H ++ [AObj.cells [.int .i64 p.1,.int .i64 p.2] 115 false]=A
 have pA:H<+:A:=by rw [<- hA];exact List.prefix_append _ _
 have a0:A[H.length]?=some (.cells [.int .i64 p.1,.int .i64 p.2] 115 false):=by rw [<- hA];exact at_new ..
 generalize hB:A ++ [AObj.cells [.int .i64 q.1,.int .i64 q.2] 115 false]=B
 have pB:A<+:B:=by rw [<- hB];exact List.prefix_append _ _
 have b0:=pre_at pB a0
 have b1:B[A.length]?=some (.cells [.int .i64 q.1,.int .i64 q.2] 115 false):=by rw [<- hB];exact at_new ..
 have pHB:=pA.trans pB
 simp (disch:=omega) only [cell_of b0,cell_of b1,SS,eq_self,reduceIte,reduceCtorEq,Nat.reduceEqDiff,Nat.reduceAdd]
 refine CallH.by (Compare_c p.1 q.1 B) ?_
 rintro _ _ ⟨rfl,rfl⟩
 simp (disch:=omega) only [cell_of b0,cell_of b1,SS,eq_self,reduceIte,reduceCtorEq,Nat.reduceEqDiff,Nat.reduceAdd]
 refine CallH.by (Compare_c p.2 q.2 B) ?_
 rintro _ _ ⟨rfl,rfl⟩
 simp (disch:=omega) only [SS,eq_self,reduceIte,reduceCtorEq,Nat.reduceEqDiff,Nat.reduceAdd]
 refine CallH.by (Or_c (cmpI p.1 q.1) (cmpI p.2 q.2) B.length _ (at_new ..)) ?_
 rintro _ _ ⟨rfl,rfl⟩
 simp (disch:=omega) only [SS,eq_self,reduceIte,reduceCtorEq,Nat.reduceEqDiff,Nat.reduceAdd]
 refine hQ _ _ _ ?_
 simp (disch:=omega) only [cmpP,SS,eq_self,reduceIte,reduceCtorEq,Nat.reduceEqDiff,Nat.reduceAdd]
 exact pre_app pHB _
theorem l2Pairs_c (v:Value)(n:Int)(ps:List (Int × Int))(H:AH)(hr:RowP 115 H v ps)(hlen:ps.length<=1099511627776)(hn:0<=n/\n<=8) :
  ACalls Tryz.prog 173 [v,.int .i64 n] H fun r H'=>r=.bool (decide (PrU n ps ps.length))/\H<+:H':=by
 refine in173 rfl ?_
 intro Q hQ
 simp (maxSteps:=1000000) (disch:=omega) only [cd173,SS,eq_self,reduceIte,reduceCtorEq,Nat.reduceEqDiff,Nat.reduceAdd]
 refine LoopH.by (fun m s H'=>∃ i,m+i=ps.length/\s 0=v/\s 1=.int .i64 n/\s 5=.int .i64 ((i:Nat):Int)/\H<+:H'/\PrU n ps i) ps.length ?_ ?_
 ·exact ⟨0,by simp,rfl,rfl,rfl,List.prefix_refl _,PrU.zero _ _⟩
 ·rintro m s H' ⟨i,hm,h0,h1,h5,hp,hu⟩
  have hr':=hr.pre hp
  simp (maxSteps:=1000000) (disch:=omega) only [h0,h1,h5,hr'.len Tryz.underlying24,SS,eq_self,reduceIte,reduceCtorEq,Nat.reduceEqDiff,Nat.reduceAdd]
  refine brD.intro (fun g=>?_) (fun g=>?_)
  ·have hi:i<ps.length:=by omega
   have hst0:=store_a2 H' [.int .i64 0,.int .i64 0] rfl
   simp (maxSteps:=1000000) (disch:=omega) only [h0,h1,h5,hr'.ix Tryz.underlying24 cs115,Int.toNat_natCast,hr'.ld ag115 cs115 hi,alloc_a2,hst0,cell_new,wrap64,SS,eq_self,reduceIte,reduceCtorEq,Nat.reduceEqDiff,Nat.reduceAdd]
   generalize hB:H' ++ [AObj.cells [.int .i64 (ps.getD i (0,0)).1,.int .i64 (ps.getD i (0,0)).2] 115 false]=B
   have pB:H'<+:B:=by rw [<- hB];exact List.prefix_append _ _
   have b0:B[H'.length]?=some (.cells [.int .i64 (ps.getD i (0,0)).1,.int .i64 (ps.getD i (0,0)).2] 115 false):=by rw [<- hB];exact at_new ..
   have hrB:=hr'.pre pB
   refine CallH.by (l1In_c _ _ _ B) ?_
   rintro _ _ ⟨rfl,rfl⟩
   simp (maxSteps:=1000000) (disch:=omega) only [cell_of b0,wrap64,SS,eq_self,reduceIte,reduceCtorEq,Nat.reduceEqDiff,Nat.reduceAdd]
   have hBp:=hp.trans pB
   have e0:((i:Int) - 1).toNat=i - 1:=by omega
   have ok2:prOk n ps i->PrU n ps (i+1):=fun h=>hu.succ h
   have bad:¬ prOk n ps i->∀ G,H<+:G->decide (PrU n ps ps.length)=false/\H<+:G:=fun h G hG=>⟨decide_eq_false (PrU.no hi h),hG⟩
   have hld1:0<i->loadA Tryz.prog 115 (.pointer (some ⟨rowO v,rowK v+2 * (i - 1),none⟩)) B=some (.agg (List.toArray [.int .i64 (ps.getD (i - 1) (0,0)).1,.int .i64 (ps.getD (i - 1) (0,0)).2])):=fun h=>hrB.ld ag115 cs115 (by omega)
   unfold prOk at ok2 bad
   generalize hx:ps.getD i (0,0)=x at *
   generalize hy:ps.getD (i - 1) (0,0)=y at *
   refine brD.intro (fun e1=>?_) (fun e1=>?_)
   ·simp (maxSteps:=1000000) (disch:=omega) only [e1,cell_of b0,h0,h1,h5,wrap64,SS,eq_self,reduceIte,reduceCtorEq,Nat.reduceEqDiff,Nat.reduceAdd]
    refine CallH.by (l1In_c _ _ _ B) ?_
    rintro _ _ ⟨rfl,rfl⟩
    simp (maxSteps:=1000000) (disch:=omega) only [e1,cell_of b0,h0,h1,h5,wrap64,SS,eq_self,reduceIte,reduceCtorEq,Nat.reduceEqDiff,Nat.reduceAdd]
    refine brD.intro (fun e2=>?_) (fun e2=>?_)
    ·simp (maxSteps:=1000000) (disch:=omega) only [e1,e2,cell_of b0,h0,h1,h5,wrap64,SS,eq_self,reduceIte,reduceCtorEq,Nat.reduceEqDiff,Nat.reduceAdd]
     refine brD.intro (fun e3=>?_) (fun e3=>?_) <;> simp (maxSteps:=1000000) (disch:=omega) only [e1,e2,e3,cell_of b0,h0,h1,h5,wrap64,SS,eq_self,reduceIte,reduceCtorEq,Nat.reduceEqDiff,Nat.reduceAdd]
     ·refine hQ _ _ _ ?_
      simp (maxSteps:=1000000) (disch:=omega) only [SS,eq_self,reduceIte,reduceCtorEq,Nat.reduceEqDiff,Nat.reduceAdd]
      obtain ⟨q1,q2⟩:=bad (by omega) _ hBp
      rw [q1]
      exact ⟨rfl,q2⟩
     ·refine brD.intro (fun e4=>?_) (fun e4=>?_) <;> simp (maxSteps:=1000000) (disch:=omega) only [e1,e2,e3,e4,h0,h1,h5,wrap64,SS,eq_self,reduceIte,reduceCtorEq,Nat.reduceEqDiff,Nat.reduceAdd]
      ·have hi1:0<i:=by omega
       simp (maxSteps:=1000000) (disch:=omega) only [e1,e2,e3,e4,e0,h0,h1,h5,hrB.ix Tryz.underlying24 cs115,hld1 hi1,ld_a2 b0,wrap64,SS,eq_self,reduceIte,reduceCtorEq,Nat.reduceEqDiff,Nat.reduceAdd]
       refine CallH.by (l2Edge_c y x B) ?_
       rintro _ C ⟨rfl,pC⟩
       have hCp:=hBp.trans pC
       simp (maxSteps:=1000000) (disch:=omega) only [e1,e2,e3,e4,SS,eq_self,reduceIte,reduceCtorEq,Nat.reduceEqDiff,Nat.reduceAdd]
       refine brD.intro (fun e5=>?_) (fun e5=>?_) <;> simp (maxSteps:=1000000) (disch:=omega) only [e1,e2,e3,e4,e5,h0,h1,h5,wrap64,SS,eq_self,reduceIte,reduceCtorEq,Nat.reduceEqDiff,Nat.reduceAdd]
       ·have f1:=ok2 ⟨e1.1,by omega,by omega,fun _=>e5⟩
        refine ⟨m - 1,by omega,i+1,?_⟩
        (repeat' first | exact f1 | exact hCp | apply And.intro) <;> first | (simp only [Value.int.injEq,true_and];omega) | omega | rfl | assumption | (simp;done) | (simp;omega)
       ·refine hQ _ _ _ ?_
        simp (maxSteps:=1000000) (disch:=omega) only [SS,eq_self,reduceIte,reduceCtorEq,Nat.reduceEqDiff,Nat.reduceAdd]
        obtain ⟨q1,q2⟩:=bad (fun h=>e5 (h.2.2.2 hi1)) _ hCp
        rw [q1]
        exact ⟨rfl,q2⟩
      ·have f1:=ok2 ⟨e1.1,by omega,by omega,fun h=>absurd h (by omega)⟩
       refine ⟨m - 1,by omega,i+1,?_⟩
       (repeat' first | exact f1 | exact hBp | apply And.intro) <;> first | (simp only [Value.int.injEq,true_and];omega) | omega | rfl | assumption | (simp;done) | (simp;omega)
    ·simp (maxSteps:=1000000) (disch:=omega) only [e1,e2,SS,eq_self,reduceIte,reduceCtorEq,Nat.reduceEqDiff,Nat.reduceAdd]
     refine hQ _ _ _ ?_
     simp (maxSteps:=1000000) (disch:=omega) only [SS,eq_self,reduceIte,reduceCtorEq,Nat.reduceEqDiff,Nat.reduceAdd]
     obtain ⟨q1,q2⟩:=bad (by omega) _ hBp
     rw [q1]
     exact ⟨rfl,q2⟩
   ·simp (maxSteps:=1000000) (disch:=omega) only [e1,SS,eq_self,reduceIte,reduceCtorEq,Nat.reduceEqDiff,Nat.reduceAdd]
    refine hQ _ _ _ ?_
    simp (maxSteps:=1000000) (disch:=omega) only [SS,eq_self,reduceIte,reduceCtorEq,Nat.reduceEqDiff,Nat.reduceAdd]
    obtain ⟨q1,q2⟩:=bad (by omega) _ hBp
    rw [q1]
    exact ⟨rfl,q2⟩
  ·simp (maxSteps:=1000000) (disch:=omega) only [h0,h1,h5,SS,eq_self,reduceIte,reduceCtorEq,Nat.reduceEqDiff,Nat.reduceAdd]
   refine hQ _ _ _ ?_
   simp (maxSteps:=1000000) (disch:=omega) only [SS,eq_self,reduceIte,reduceCtorEq,Nat.reduceEqDiff,Nat.reduceAdd]
   have:i=ps.length:=by omega
   subst this
   simp [hu,hp]
theorem isPairsN_c (v:Value)(n:Int)(ps:List (Int × Int))(H:AH)(hr:RowP 115 H v ps)(hlen:ps.length<=1099511627776) :
  ACalls Tryz.prog 131 [v,.int .i64 n] H fun r H'=>r=.bool (decide (PrU n ps ps.length))/\H<+:H':=by
 refine in131 rfl ?_
 intro Q hQ
 simp (disch:=omega) only [cd131,hr.len Tryz.underlying24,SS,eq_self,reduceIte,reduceCtorEq,Nat.reduceEqDiff,Nat.reduceAdd]
 refine LoopH.by (fun m s H'=>∃ i,m+i=ps.length/\s 0=v/\s 1=.int .i64 n/\s 7=v/\s 8=.int .i64 (ps.length:Int)/\s 9=.int .i64 ((i:Nat):Int)/\H<+:H'/\PrU n ps i) ps.length ?_ ?_
 ·exact ⟨0,by simp,rfl,rfl,rfl,rfl,rfl,List.prefix_refl _,PrU.zero _ _⟩
 ·rintro m s H' ⟨i,hm,h0,h1,h7,h8,h9,hp,hu⟩
  have hr':=hr.pre hp
  simp (disch:=omega) only [h0,h1,h7,h8,h9,SS,eq_self,reduceIte,reduceCtorEq,Nat.reduceEqDiff,Nat.reduceAdd]
  refine brD.intro (fun g=>?_) (fun g=>?_)
  ·have hi:i<ps.length:=by omega
   have hst0:=store_a2 H' [.int .i64 0,.int .i64 0] rfl
   simp (disch:=omega) only [h0,h1,h7,h8,h9,hr'.ix Tryz.underlying24 cs115,Int.toNat_natCast,hr'.ld ag115 cs115 hi,alloc_a2,hst0,cell_new,wrap64,SS,eq_self,reduceIte,reduceCtorEq,Nat.reduceEqDiff,Nat.reduceAdd]
   generalize hB:H' ++ [AObj.cells [.int .i64 (ps.getD i (0,0)).1,.int .i64 (ps.getD i (0,0)).2] 115 false]=B
   have pB:H'<+:B:=by rw [<- hB];exact List.prefix_append _ _
   have b0:B[H'.length]?=some (.cells [.int .i64 (ps.getD i (0,0)).1,.int .i64 (ps.getD i (0,0)).2] 115 false):=by rw [<- hB];exact at_new ..
   have hrB:=hr'.pre pB
   have hBp:=hp.trans pB
   have e0:((i:Int) - 1).toNat=i - 1:=by omega
   have ok2:prOk n ps i->PrU n ps (i+1):=fun h=>hu.succ h
   have bad:¬ prOk n ps i->∀ G,H<+:G->decide (PrU n ps ps.length)=false/\H<+:G:=fun h G hG=>⟨decide_eq_false (PrU.no hi h),hG⟩
   have hld1:0<i->loadA Tryz.prog 115 (.pointer (some ⟨rowO v,rowK v+2 * (i - 1),none⟩)) B=some (.agg (List.toArray [.int .i64 (ps.getD (i - 1) (0,0)).1,.int .i64 (ps.getD (i - 1) (0,0)).2])):=fun h=>hrB.ld ag115 cs115 (by omega)
   unfold prOk at ok2 bad
   generalize hx:ps.getD i (0,0)=x at *
   generalize hy:ps.getD (i - 1) (0,0)=y at *
   refine brD.intro (fun e1=>?_) (fun e1=>?_) <;> simp (disch:=omega) only [e1,cell_of b0,h0,h1,h7,h8,h9,wrap64,SS,eq_self,reduceIte,reduceCtorEq,Nat.reduceEqDiff,Nat.reduceAdd]
   ·refine hQ _ _ _ ?_
    simp (disch:=omega) only [SS,eq_self,reduceIte,reduceCtorEq,Nat.reduceEqDiff,Nat.reduceAdd]
    obtain ⟨q1,q2⟩:=bad (by omega) _ hBp
    rw [q1]
    exact ⟨rfl,q2⟩
   ·refine brD.intro (fun e2=>?_) (fun e2=>?_) <;> simp (disch:=omega) only [e1,e2,cell_of b0,h0,h1,h7,h8,h9,wrap64,SS,eq_self,reduceIte,reduceCtorEq,Nat.reduceEqDiff,Nat.reduceAdd]
    ·refine hQ _ _ _ ?_
     simp (disch:=omega) only [SS,eq_self,reduceIte,reduceCtorEq,Nat.reduceEqDiff,Nat.reduceAdd]
     obtain ⟨q1,q2⟩:=bad (by omega) _ hBp
     rw [q1]
     exact ⟨rfl,q2⟩
    ·refine brD.intro (fun e3=>?_) (fun e3=>?_) <;> simp (disch:=omega) only [e1,e2,e3,cell_of b0,h0,h1,h7,h8,h9,wrap64,SS,eq_self,reduceIte,reduceCtorEq,Nat.reduceEqDiff,Nat.reduceAdd]
     ·refine hQ _ _ _ ?_
      simp (disch:=omega) only [SS,eq_self,reduceIte,reduceCtorEq,Nat.reduceEqDiff,Nat.reduceAdd]
      obtain ⟨q1,q2⟩:=bad (by omega) _ hBp
      rw [q1]
      exact ⟨rfl,q2⟩
     ·refine brD.intro (fun e4=>?_) (fun e4=>?_) <;> simp (disch:=omega) only [e1,e2,e3,e4,h0,h1,h7,h8,h9,wrap64,SS,eq_self,reduceIte,reduceCtorEq,Nat.reduceEqDiff,Nat.reduceAdd]
      ·have hi1:0<i:=by omega
       simp (disch:=omega) only [e1,e2,e3,e4,e0,h0,h1,h7,h8,h9,hrB.ix Tryz.underlying24 cs115,hld1 hi1,ld_a2 b0,wrap64,SS,eq_self,reduceIte,reduceCtorEq,Nat.reduceEqDiff,Nat.reduceAdd]
       refine CallH.by (comparePairs_c y x B) ?_
       rintro _ C ⟨rfl,pC⟩
       have hCp:=hBp.trans pC
       simp (disch:=omega) only [e1,e2,e3,e4,SS,eq_self,reduceIte,reduceCtorEq,Nat.reduceEqDiff,Nat.reduceAdd]
       refine brD.intro (fun e5=>?_) (fun e5=>?_) <;> simp (disch:=omega) only [e1,e2,e3,e4,e5,h0,h1,h7,h8,h9,wrap64,SS,eq_self,reduceIte,reduceCtorEq,Nat.reduceEqDiff,Nat.reduceAdd]
       ·refine hQ _ _ _ ?_
        simp (disch:=omega) only [SS,eq_self,reduceIte,reduceCtorEq,Nat.reduceEqDiff,Nat.reduceAdd]
        obtain ⟨q1,q2⟩:=bad (fun h=>(cmpP_ge y x).1 e5 (h.2.2.2 hi1)) _ hCp
        rw [q1]
        exact ⟨rfl,q2⟩
       ·have f1:=ok2 ⟨by omega,by omega,by omega,fun _=>Decidable.not_not.1 fun h=>e5 ((cmpP_ge y x).2 h)⟩
        refine ⟨m - 1,by omega,i+1,?_⟩
        (repeat' first | exact f1 | exact hCp | apply And.intro) <;> first | (simp only [Value.int.injEq,true_and];omega) | omega | rfl | assumption | (simp;done) | (simp;omega)
      ·have f1:=ok2 ⟨by omega,by omega,by omega,fun h=>absurd h (by omega)⟩
       refine ⟨m - 1,by omega,i+1,?_⟩
       (repeat' first | exact f1 | exact hBp | apply And.intro) <;> first | (simp only [Value.int.injEq,true_and];omega) | omega | rfl | assumption | (simp;done) | (simp;omega)
  ·simp (disch:=omega) only [h0,h1,h7,h8,h9,SS,eq_self,reduceIte,reduceCtorEq,Nat.reduceEqDiff,Nat.reduceAdd]
   refine hQ _ _ _ ?_
   simp (disch:=omega) only [SS,eq_self,reduceIte,reduceCtorEq,Nat.reduceEqDiff,Nat.reduceAdd]
   have:i=ps.length:=by omega
   subst this
   simp [hu,hp]
theorem isPairs_c (v:Value)(n:Int)(ps:List (Int × Int))(H:AH)(hr:RowP 115 H v ps)(hlen:ps.length<=1099511627776)(hn:0<=n/\n<=8) :
  ACalls Tryz.prog 131 [v,.int .i64 n] H fun r H'=>r=.bool (decide (PrU n ps ps.length))/\H<+:H':=isPairsN_c v n ps H hr hlen
theorem l2Good_c (n:Int)(v:Value)(ps:List (Int × Int))(H:AH)(hr:RowP 115 H v ps)(hlen:ps.length<=1099511627776) :
  ACalls Tryz.prog 136 [.agg (List.toArray [.int .i64 n,v])] H fun r H'=>r=.bool (decide (Grd n ps))/\H<+:H':=by
 refine in136 rfl ?_
 intro Q hQ
 simp (disch:=omega) only [cd136,hr.boxG,SS,eq_self,reduceIte,reduceCtorEq,Nat.reduceEqDiff,Nat.reduceAdd]
 generalize hA:H ++ [AObj.cells [.int .i64 n,v] 26 false]=A
 have pA:H<+:A:=by rw [<- hA];exact List.prefix_append _ _
 have cA:A[H.length]?=some (.cells [.int .i64 n,v] 26 false):=by rw [<- hA];exact at_new ..
 have rA:=hr.pre pA
 simp (disch:=omega) only [cell_of cA,SS,eq_self,reduceIte,reduceCtorEq,Nat.reduceEqDiff,Nat.reduceAdd]
 refine CallH.by (l1In_c _ _ _ A) ?_
 rintro _ _ ⟨rfl,rfl⟩
 simp (disch:=omega) only [cell_of cA,SS,eq_self,reduceIte,reduceCtorEq,Nat.reduceEqDiff,Nat.reduceAdd]
 refine brD.intro (fun e=>?_) (fun e=>?_) <;> simp (disch:=omega) only [e,cell_of cA,SS,eq_self,reduceIte,reduceCtorEq,Nat.reduceEqDiff,Nat.reduceAdd]
 ·refine CallH.by (l2Pairs_c v n ps A rA hlen e) ?_
  rintro _ B ⟨rfl,pB⟩
  simp (disch:=omega) only [e,SS,eq_self,reduceIte,reduceCtorEq,Nat.reduceEqDiff,Nat.reduceAdd]
  refine hQ _ _ _ ?_
  simp (disch:=omega) only [e,SS,eq_self,reduceIte,reduceCtorEq,Nat.reduceEqDiff,Nat.reduceAdd]
  exact ⟨by simp [Grd,e],pA.trans pB⟩
 ·refine hQ _ _ _ ?_
  simp (disch:=omega) only [e,SS,eq_self,reduceIte,reduceCtorEq,Nat.reduceEqDiff,Nat.reduceAdd]
  exact ⟨by simp [Grd,e],pA⟩
theorem IsGraph_c (n:Int)(v:Value)(ps:List (Int × Int))(H:AH)(hr:RowP 115 H v ps)(hlen:ps.length<=1099511627776) :
  ACalls Tryz.prog 64 [.agg (List.toArray [.int .i64 n,v])] H fun r H'=>r=.bool (decide (Grd n ps))/\H<+:H':=by
 refine in64 rfl ?_
 intro Q hQ
 simp (disch:=omega) only [cd64,hr.boxG,SS,eq_self,reduceIte,reduceCtorEq,Nat.reduceEqDiff,Nat.reduceAdd]
 generalize hA:H ++ [AObj.cells [.int .i64 n,v] 26 false]=A
 have pA:H<+:A:=by rw [<- hA];exact List.prefix_append _ _
 have cA:A[H.length]?=some (.cells [.int .i64 n,v] 26 false):=by rw [<- hA];exact at_new ..
 have rA:=hr.pre pA
 simp (disch:=omega) only [cell_of cA,SS,eq_self,reduceIte,reduceCtorEq,Nat.reduceEqDiff,Nat.reduceAdd]
 refine CallH.by (between_c _ _ _ A) ?_
 rintro _ _ ⟨rfl,rfl⟩
 simp (disch:=omega) only [cell_of cA,SS,eq_self,reduceIte,reduceCtorEq,Nat.reduceEqDiff,Nat.reduceAdd]
 refine brD.intro (fun e=>?_) (fun e=>?_) <;> simp (disch:=omega) only [e,cell_of cA,SS,eq_self,reduceIte,reduceCtorEq,Nat.reduceEqDiff,Nat.reduceAdd]
 ·refine CallH.by (isPairs_c v n ps A rA hlen e) ?_
  rintro _ B ⟨rfl,pB⟩
  simp (disch:=omega) only [e,SS,eq_self,reduceIte,reduceCtorEq,Nat.reduceEqDiff,Nat.reduceAdd]
  refine hQ _ _ _ ?_
  simp (disch:=omega) only [e,SS,eq_self,reduceIte,reduceCtorEq,Nat.reduceEqDiff,Nat.reduceAdd]
  exact ⟨by simp [Grd,e],pA.trans pB⟩
 ·refine hQ _ _ _ ?_
  simp (disch:=omega) only [e,SS,eq_self,reduceIte,reduceCtorEq,Nat.reduceEqDiff,Nat.reduceAdd]
  exact ⟨by simp [Grd,e],pA⟩
def cd175:Cd:=(.seq (.reg [⟨⟨some 3,.box 26 (.tmp 0),none⟩,[]⟩,⟨⟨some 6,.assign (.const (.bool false)),none⟩,[]⟩]) (.seq (.seq (.reg [⟨⟨some 7,.assign (.const (.int .i64 0)),none⟩,[]⟩]) (.block 0 (.loop (.seq (.seq (.reg [⟨⟨some 9,.move (.tmp 7),none⟩,[]⟩,⟨⟨some 10,.fieldAddr 26 (.tmp 3) 1,none⟩,[]⟩,⟨⟨some 11,.load 24 (.tmp 10),none⟩,[]⟩,⟨⟨some 12,.call ⟨(.builtin .len),#[.tmp 11],#[24]⟩,none⟩,[]⟩,⟨⟨some 13,.binOp .lss 3 (.tmp 9) (.tmp 12) 3,none⟩,[]⟩]) (.cond (.tmp 13) .skip (.exit 0))) (.seq (.block 1 (.seq (.reg [⟨⟨some 16,.fieldAddr 26 (.tmp 3) 1,none⟩,[]⟩,⟨⟨some 17,.load 24 (.tmp 16),none⟩,[]⟩,⟨⟨some 18,.move (.tmp 7),none⟩,[]⟩,⟨⟨some 19,.indexAddr 24 (.tmp 17) (.tmp 18),none⟩,[]⟩,⟨⟨some 20,.load 115 (.tmp 19),none⟩,[]⟩,⟨⟨some 8,.alloc 115,none⟩,[]⟩,⟨⟨none,.store 115 (.tmp 8) (.tmp 20),none⟩,[]⟩]) (.seq (.reg [⟨⟨some 21,.indexAddr 115 (.tmp 8) (.const (.int .i64 0)),none⟩,[]⟩,
 ⟨⟨some 22,.load 3 (.tmp 21),none⟩,[]⟩,⟨⟨some 23,.move (.tmp 1),none⟩,[]⟩,⟨⟨some 24,.binOp .eql 3 (.tmp 22) (.tmp 23) 3,none⟩,[]⟩,⟨⟨some 25,.move (.tmp 24),none⟩,[]⟩,⟨⟨some 26,.indexAddr 115 (.tmp 8) (.const (.int .i64 1)),some (25,true)⟩,[]⟩,⟨⟨some 27,.load 3 (.tmp 26),some (25,true)⟩,[]⟩,⟨⟨some 28,.move (.tmp 2),some (25,true)⟩,[]⟩,⟨⟨some 29,.binOp .eql 3 (.tmp 27) (.tmp 28) 3,some (25,true)⟩,[]⟩,⟨⟨some 30,.pick (.tmp 25) (.tmp 29) (.const (.bool false)),none⟩,[]⟩,⟨⟨some 31,.move (.tmp 30),none⟩,[]⟩,⟨⟨some 32,.indexAddr 115 (.tmp 8) (.const (.int .i64 0)),some (31,false)⟩,[]⟩,⟨⟨some 33,.load 3 (.tmp 32),some (31,false)⟩,[]⟩,
 ⟨⟨some 34,.move (.tmp 2),some (31,false)⟩,[]⟩,
  ⟨⟨some 35,.binOp .eql 3 (.tmp 33) (.tmp 34) 3,some (31,false)⟩,[]⟩,
  ⟨⟨some 36,.move (.tmp 35),some (31,false)⟩,[]⟩,
  ⟨⟨some 37,.indexAddr 115 (.tmp 8) (.const (.int .i64 1)),some (36,true)⟩,[]⟩,
  ⟨⟨some 38,.load 3 (.tmp 37),some (36,true)⟩,[]⟩,
  ⟨⟨some 39,.move (.tmp 1),some (36,true)⟩,[]⟩,
  ⟨⟨some 40,.binOp .eql 3 (.tmp 38) (.tmp 39) 3,some (36,true)⟩,[]⟩,
  ⟨⟨some 41,.pick (.tmp 36) (.tmp 40) (.const (.bool false)),some (31,false)⟩,[]⟩,
  ⟨⟨some 42,.pick (.tmp 31) (.const (.bool true)) (.tmp 41),none⟩,[]⟩]) (.cond (.tmp 42) (.seq (.reg [⟨⟨some 6,.assign (.const (.bool true)),none⟩,[]⟩]) .ret) .skip)))) (.reg [⟨⟨some 14,.move (.tmp 7),none⟩,[]⟩,
  ⟨⟨some 15,.binOp .add 3 (.tmp 14) (.const (.int .i64 1)) 3,none⟩,[]⟩,
  ⟨⟨some 7,.assign (.tmp 15),none⟩,[]⟩])))))) (.seq (.reg [⟨⟨some 6,.assign (.const (.bool false)),none⟩,[]⟩]) .ret)))
theorem in175:InT Tryz.prog 175 3 [.tmp 6] cd175:=InT.mk (by kernel_rfl) [] Tryz.func175 rfl (by kernel_rfl) (by kernel_rfl) (of_decide_eq_true (by kernel_rfl)) (by kernel_rfl)
end Go.Proofs.YtlcipphiflcaiaaGreat.Ai
namespace Go.Proofs.YtlcipphiflcaiaaGreat.Ai
open Go Go.RowKit
def hitB (a b:Int)(e:Int × Int):Bool:=decide (e.1=a/\e.2=b∨e.1=b/\e.2=a)
def nearB (es:List (Int × Int))(a b:Int):Bool:=es.any (hitB a b)
theorem any_step {α:Type}(p:α->Bool)(xs:List α)(d:α)(i:Nat)(hi:i<xs.length):(xs.drop i).any p=(p (xs.getD i d) || (xs.drop (i+1)).any p):=by
 have:xs.getD i d=xs[i]:=by simp [hi]
 rw [List.drop_eq_getElem_cons hi,List.any_cons,this]
theorem nearB_comm (es:List (Int × Int))(a b:Int):nearB es a b=nearB es b a:=by
 have:hitB a b=hitB b a:=by
  funext e
  unfold hitB
  rw [decide_eq_decide]
  exact ⟨fun h=>h.elim .inr .inl,fun h=>h.elim .inr .inl⟩
 unfold nearB
 rw [this]
theorem nearB_iff (es:List (Int × Int))(a b:Int):nearB es a b=true↔((a,b) ∈ es∨(b,a) ∈ es):=by
 unfold nearB hitB
 rw [List.any_eq_true]
 constructor
 ·rintro ⟨⟨x,y⟩,hm,h⟩
  rcases of_decide_eq_true h with h | h
  ·obtain ⟨h1,h2⟩:=h
   simp only at h1 h2
   subst h1;subst h2;exact .inl hm
  ·obtain ⟨h1,h2⟩:=h
   simp only at h1 h2
   subst h1;subst h2;exact .inr hm
 ·rintro (h | h)
  ·exact ⟨_,h,by simp⟩
  ·exact ⟨_,h,by simp⟩
theorem grd_mem {n:Int}{es:List (Int × Int)}(hg:Grd n es){e:Int × Int}(he:e ∈ es):0<=e.1/\e.1<e.2/\e.2<n:=by
 obtain ⟨i,hi,rfl⟩:=List.mem_iff_getElem.1 he
 obtain ⟨h1,h2,h3,_⟩:=hg.2 i hi
 have:es.getD i (0,0)=es[i]:=by simp [hi]
 rw [this] at h1 h2 h3
 exact ⟨h1,h2,h3⟩
def nbsU (es:List (Int × Int))(x:Int):Nat->List Int
 | 0=>[]
 | k+1=>nbsU es x k ++ if nearB es x k=true then [(k:Int)] else []
theorem nbsU_len (es:List (Int × Int))(x:Int)(k:Nat):(nbsU es x k).length<=k:=by
 induction k with
 | zero=>simp [nbsU]
 | succ k ih=>simp only [nbsU,List.length_append];split <;> simp <;> omega
theorem nbsU_mem (es:List (Int × Int))(x:Int)(k:Nat)(y:Int):y ∈ nbsU es x k↔(0<=y/\y<k)/\nearB es x y=true:=by
 induction k with
 | zero=>simp [nbsU];intro h1 h2;omega
 | succ k ih =>
  simp only [nbsU,List.mem_append,ih]
  constructor
  ·rintro (⟨h1,h2⟩ | h)
   ·exact ⟨by omega,h2⟩
   ·split at h
    ·rename_i hn
     simp only [List.mem_cons,List.not_mem_nil,or_false] at h
     subst h;exact ⟨by omega,hn⟩
    ·simp at h
  ·rintro ⟨h1,h2⟩
   by_cases h:y<k
   ·exact .inl ⟨by omega,h2⟩
   ·obtain rfl:y=k:=by omega
    right;rw [if_pos h2];simp
theorem l2Near_c (n:Int)(v:Value)(es:List (Int × Int))(a b:Int)(H:AH)(hr:RowP 115 H v es)(hlen:es.length<=1099511627776) :
  ACalls Tryz.prog 175 [.agg (List.toArray [.int .i64 n,v]),.int .i64 a,.int .i64 b] H fun r H'=>r=.bool (nearB es a b)/\H<+:H':=by
 refine in175 rfl ?_
 intro Q hQ
 simp (disch:=omega) only [cd175,hr.boxG,SS,eq_self,reduceIte,reduceCtorEq,Nat.reduceEqDiff,Nat.reduceAdd]
 generalize hA:H ++ [AObj.cells [.int .i64 n,v] 26 false]=A
 have pA:H<+:A:=by rw [<- hA];exact List.prefix_append _ _
 have cA:A[H.length]?=some (.cells [.int .i64 n,v] 26 false):=by rw [<- hA];exact at_new ..
 have rA:=hr.pre pA
 try simp (disch:=omega) only [SS,eq_self,reduceIte,reduceCtorEq,Nat.reduceEqDiff,Nat.reduceAdd]
 refine LoopH.by (fun m s H'=>∃ i,m+i=es.length/\s 1=.int .i64 a/\s 2=.int .i64 b/\s 3=.pointer (some ⟨H.length,0,none⟩)/\s 7=.int .i64 ((i:Nat):Int)/\nearB es a b=(es.drop i).any (hitB a b)/\A<+:H') es.length ?_ ?_
 ·exact ⟨0,by simp,rfl,rfl,rfl,rfl,by rw [List.drop_zero];rfl,List.prefix_refl _⟩
 ·rintro m s H' ⟨i,hm,h1,h2,h3,h7,hn,hp⟩
  have hr':=rA.pre hp
  have cH:=pre_at hp cA
  have hpp:=pA.trans hp
  simp (disch:=omega) only [h1,h2,h3,h7,cell_of cH,hr'.len Tryz.underlying24,SS,eq_self,reduceIte,reduceCtorEq,Nat.reduceEqDiff,Nat.reduceAdd]
  refine brD.intro (fun g=>?_) (fun g=>?_)
  ·have hi:i<es.length:=by omega
   have hst0:=store_a2 H' [.int .i64 0,.int .i64 0] rfl
   rw [any_step _ es (0,0) i hi] at hn
   simp (disch:=omega) only [h1,h2,h3,h7,cell_of cH,hr'.ix Tryz.underlying24 cs115,Int.toNat_natCast,hr'.ld ag115 cs115 hi,alloc_a2,hst0,cell_new,wrap64,SS,eq_self,reduceIte,reduceCtorEq,Nat.reduceEqDiff,Nat.reduceAdd]
   generalize hx:es.getD i (0,0)=x at *
   have pB:A<+:H' ++ [AObj.cells [.int .i64 x.1,.int .i64 x.2] 115 false]:=pre_app hp _
   have yes:hitB a b x=true->nearB es a b=true:=fun h=>by rw [hn,h];rfl
   have no:hitB a b x=false->nearB es a b=(es.drop (i+1)).any (hitB a b):=fun h=>by rw [hn,h];rfl
   unfold hitB at yes no
   rw [decide_eq_true_iff] at yes
   rw [decide_eq_false_iff_not] at no
   have second:¬ (x.1=a/\x.2=b)->True:=fun _=>trivial
   refine brD.intro (fun e1=>?_) (fun e1=>?_) <;> (first | have de1:=decide_eq_false e1 | have de1:=decide_eq_true e1) <;> simp (disch:=omega) only [de1,h1,h2,h3,h7,cell_new,wrap64,SS,eq_self,reduceIte,reduceCtorEq,Nat.reduceEqDiff,Nat.reduceAdd]
   ·refine brD.intro (fun e2=>?_) (fun e2=>?_) <;> (first | have de2:=decide_eq_false e2 | have de2:=decide_eq_true e2) <;> simp (disch:=omega) only [de1,de2,h1,h2,h3,h7,cell_new,wrap64,SS,eq_self,reduceIte,reduceCtorEq,Nat.reduceEqDiff,Nat.reduceAdd]
    ·refine hQ _ _ _ ?_
     simp (disch:=omega) only [SS,eq_self,reduceIte,reduceCtorEq,Nat.reduceEqDiff,Nat.reduceAdd]
     exact ⟨by rw [yes (by omega)],pA.trans pB⟩
    ·refine brD.intro (fun e3=>?_) (fun e3=>?_) <;> (first | have de3:=decide_eq_false e3 | have de3:=decide_eq_true e3) <;> simp (disch:=omega) only [de1,de2,de3,h1,h2,h3,h7,cell_new,wrap64,SS,eq_self,reduceIte,reduceCtorEq,Nat.reduceEqDiff,Nat.reduceAdd]
     ·refine brD.intro (fun e4=>?_) (fun e4=>?_) <;> (first | have de4:=decide_eq_false e4 | have de4:=decide_eq_true e4) <;> simp (disch:=omega) only [de1,de2,de3,de4,h1,h2,h3,h7,cell_new,wrap64,SS,eq_self,reduceIte,reduceCtorEq,Nat.reduceEqDiff,Nat.reduceAdd]
      ·refine hQ _ _ _ ?_
       simp (disch:=omega) only [SS,eq_self,reduceIte,reduceCtorEq,Nat.reduceEqDiff,Nat.reduceAdd]
       exact ⟨by rw [yes (by omega)],pA.trans pB⟩
      ·have f1:=no (by omega)
       refine ⟨m - 1,by omega,i+1,?_⟩
       (repeat' first | exact f1 | exact pB | apply And.intro) <;> first | (simp only [Value.int.injEq,true_and];omega) | omega | rfl | assumption | (simp;done) | (simp;omega)
     ·have f1:=no (by omega)
      refine ⟨m - 1,by omega,i+1,?_⟩
      (repeat' first | exact f1 | exact pB | apply And.intro) <;> first | (simp only [Value.int.injEq,true_and];omega) | omega | rfl | assumption | (simp;done) | (simp;omega)
   ·refine brD.intro (fun e3=>?_) (fun e3=>?_) <;> (first | have de3:=decide_eq_false e3 | have de3:=decide_eq_true e3) <;> simp (disch:=omega) only [de1,de3,h1,h2,h3,h7,cell_new,wrap64,SS,eq_self,reduceIte,reduceCtorEq,Nat.reduceEqDiff,Nat.reduceAdd]
    ·refine brD.intro (fun e4=>?_) (fun e4=>?_) <;> (first | have de4:=decide_eq_false e4 | have de4:=decide_eq_true e4) <;> simp (disch:=omega) only [de1,de3,de4,h1,h2,h3,h7,cell_new,wrap64,SS,eq_self,reduceIte,reduceCtorEq,Nat.reduceEqDiff,Nat.reduceAdd]
     ·refine hQ _ _ _ ?_
      simp (disch:=omega) only [SS,eq_self,reduceIte,reduceCtorEq,Nat.reduceEqDiff,Nat.reduceAdd]
      exact ⟨by rw [yes (by omega)],pA.trans pB⟩
     ·have f1:=no (by omega)
      refine ⟨m - 1,by omega,i+1,?_⟩
      (repeat' first | exact f1 | exact pB | apply And.intro) <;> first | (simp only [Value.int.injEq,true_and];omega) | omega | rfl | assumption | (simp;done) | (simp;omega)
    ·have f1:=no (by omega)
     refine ⟨m - 1,by omega,i+1,?_⟩
     (repeat' first | exact f1 | exact pB | apply And.intro) <;> first | (simp only [Value.int.injEq,true_and];omega) | omega | rfl | assumption | (simp;done) | (simp;omega)
  ·simp (disch:=omega) only [h1,h2,h3,h7,SS,eq_self,reduceIte,reduceCtorEq,Nat.reduceEqDiff,Nat.reduceAdd]
   refine hQ _ _ _ ?_
   simp (disch:=omega) only [SS,eq_self,reduceIte,reduceCtorEq,Nat.reduceEqDiff,Nat.reduceAdd]
   rw [hn,List.drop_of_length_le (by omega)]
   exact ⟨rfl,hpp⟩
def rcIn (es:List (Int × Int))(out:List Int)(y:Int):List Int:=if y ∈ out then out else if (out.any fun o=>nearB es o y)=true then put out y else out
def rcRound (es:List (Int × Int))(set out:List Int):List Int:=set.foldl (rcIn es) out
def rcIter (es:List (Int × Int))(set:List Int):Nat->List Int->List Int
 | 0,o=>o
 | k+1,o=>rcRound es set (rcIter es set k o)
def reachL (es:List (Int × Int))(set:List Int)(x:Int):List Int:=rcIter es set set.length [x]
def pcS (es:List (Int × Int))(set:List Int)(st:List (List Int) × List Int)(x:Int):List (List Int) × List Int :=
 if x ∈ st.2 then st else (st.1 ++ [reachL es set x],(reachL es set x).foldl put st.2)
def pcK (es:List (Int × Int))(set:List Int)(l:List Int):List (List Int) × List Int:=l.foldl (pcS es set) ([],[])
def piecesL (es:List (Int × Int))(set:List Int):List (List Int):=(pcK es set set).1
inductive Rch (adj:Int->Int->Prop) (S:Int->Prop) (x:Int):Int->Prop
 | refl:Rch adj S x x
 | step {y z:Int}:Rch adj S x y->adj y z->S z->Rch adj S x z
theorem Rch.mono {adj:Int->Int->Prop}{S T:Int->Prop}{x z:Int}(h:Rch adj S x z)(hs:∀ y,S y->T y):Rch adj T x z:=by
 induction h with
 | refl=>exact .refl
 | step _ h1 h2 ih=>exact .step ih h1 (hs _ h2)
theorem Rch.in_ {adj:Int->Int->Prop}{S:Int->Prop}{x z:Int}(h:Rch adj S x z)(hx:S x):S z:=by
 cases h with
 | refl=>exact hx
 | step _ _ h2=>exact h2
theorem nodup_le {a b:List Int}(ha:a.Nodup)(h:∀ x ∈ a,x ∈ b):a.length<=b.length:=by
 induction a generalizing b with
 | nil=>simp
 | cons x a ih =>
  have hx:x ∈ b:=h x (by simp)
  rw [List.nodup_cons] at ha
  have hl:=List.length_erase_of_mem hx
  have hp:=List.length_pos_of_mem hx
  have:=ih (b:=b.erase x) ha.2 fun y hy=>(List.mem_erase_of_ne (fun e:y=x=>ha.1 (by rw [<- e];exact hy))).2 (h y (by simp [hy]))
  simp only [List.length_cons]
  omega
theorem lt_nodup {l:List Int}(h:l.Pairwise (· < ·)):l.Nodup:=h.imp fun h=>by omega
theorem rcIn_mem (es:List (Int × Int))(out:List Int)(y:Int){z:Int}(h:z ∈ out):z ∈ rcIn es out y:=by
 unfold rcIn
 split
 ·exact h
 ·split
  ·exact (put_mem _ _ _).2 (.inr h)
  ·exact h
theorem fold_mem (es:List (Int × Int))(set:List Int):∀ (out:List Int) {z:Int},z ∈ out->z ∈ set.foldl (rcIn es) out:=by
 induction set with
 | nil=>intro out z h;exact h
 | cons y ys ih=>intro out z h;exact ih _ (rcIn_mem es out y h)
theorem rcIn_srt (es:List (Int × Int))(out:List Int)(y:Int)(h:out.Pairwise (· < ·)):(rcIn es out y).Pairwise (· < ·):=by
 unfold rcIn
 split
 ·exact h
 ·split
  ·exact put_sorted _ _ h
  ·exact h
theorem fold_srt (es:List (Int × Int))(set:List Int):∀ (out:List Int),out.Pairwise (· < ·)->(set.foldl (rcIn es) out).Pairwise (· < ·):=by
 induction set with
 | nil=>intro out h;exact h
 | cons y ys ih=>intro out h;exact ih _ (rcIn_srt es out y h)
theorem rcIn_inv (es:List (Int × Int))(S:Int->Prop)(x:Int)(out:List Int)(y:Int)(hy:S y)(h:∀ z ∈ out,Rch (fun a b=>nearB es a b=true) S x z):∀ z ∈ rcIn es out y,Rch (fun a b=>nearB es a b=true) S x z:=by
 unfold rcIn
 split
 ·exact h
 ·split
  ·rename_i e
   intro z hz
   rcases (put_mem _ _ _).1 hz with rfl | hz
   ·obtain ⟨o,ho,hn⟩:=List.any_eq_true.1 e
    exact .step (h o ho) hn hy
   ·exact h z hz
  ·exact h
theorem fold_inv (es:List (Int × Int))(S:Int->Prop)(x:Int)(set:List Int):∀ (out:List Int),(∀ y ∈ set,S y)->(∀ z ∈ out,Rch (fun a b=>nearB es a b=true) S x z)->∀ z ∈ set.foldl (rcIn es) out,Rch (fun a b=>nearB es a b=true) S x z:=by
 induction set with
 | nil=>intro out _ h;exact h
 | cons y ys ih=>intro out hs h;exact ih _ (fun z hz=>hs z (by simp [hz])) (rcIn_inv es S x out y (hs y (by simp)) h)
theorem rcIter_srt (es:List (Int × Int))(set:List Int)(x:Int)(k:Nat):(rcIter es set k [x]).Pairwise (· < ·):=by
 induction k with
 | zero=>exact List.pairwise_singleton _ _
 | succ k ih=>exact fold_srt es set _ ih
theorem rcIter_x (es:List (Int × Int))(set:List Int)(x:Int)(k:Nat):x ∈ rcIter es set k [x]:=by
 induction k with
 | zero=>simp [rcIter]
 | succ k ih=>exact fold_mem es set _ ih
theorem rcIter_inv (es:List (Int × Int))(set:List Int)(x:Int)(k:Nat):∀ z ∈ rcIter es set k [x],Rch (fun a b=>nearB es a b=true) (· ∈ set) x z:=by
 induction k with
 | zero=>intro z hz;simp [rcIter] at hz;subst hz;exact .refl
 | succ k ih=>exact fold_inv es (· ∈ set) x set _ (fun _ h=>h) ih
def Clo (es:List (Int × Int))(set out:List Int):Prop:=∀ a ∈ out,∀ b ∈ set,nearB es a b=true->b ∈ out
theorem fold_get (es:List (Int × Int)){a b:Int}(hn:nearB es a b=true):∀ (set out:List Int),b ∈ set->a ∈ out->b ∈ set.foldl (rcIn es) out
 | [],out,h,_=>by simp at h
 | y :: ys,out,h,ha=>by
  rw [List.foldl_cons]
  rcases List.mem_cons.1 h with rfl | h
  ·refine fold_mem es ys _ ?_
   unfold rcIn
   split
   ·rename_i hm;exact hm
   ·rw [if_pos (List.any_eq_true.2 ⟨a,ha,hn⟩)]
    exact (put_mem _ _ _).2 (.inl rfl)
  ·exact fold_get es hn ys _ h (rcIn_mem es out y ha)
theorem fold_clo (es:List (Int × Int))(set:List Int)(out:List Int)(hc:Clo es set out):∀ l:List Int,(∀ y ∈ l,y ∈ set)->l.foldl (rcIn es) out=out
 | [],_=>rfl
 | y :: ys,h=>by
  have:rcIn es out y=out:=by
   unfold rcIn
   split
   ·rfl
   ·rename_i hm
    rw [if_neg]
    intro e
    obtain ⟨o,ho,hn⟩:=List.any_eq_true.1 e
    exact hm (hc o ho y (h y (by simp)) hn)
  rw [List.foldl_cons,this]
  exact fold_clo es set out hc ys fun z hz=>h z (by simp [hz])
theorem rcIter_or (es:List (Int × Int))(set:List Int)(x:Int)(k:Nat):Clo es set (rcIter es set k [x])∨k+1<=(rcIter es set k [x]).length:=by
 induction k with
 | zero=>exact .inr (by simp [rcIter])
 | succ k ih =>
  by_cases hc:Clo es set (rcIter es set k [x])
  ·left
   have:rcIter es set (k+1) [x]=rcIter es set k [x]:=fold_clo es set _ hc set fun _ h=>h
   rw [this];exact hc
  ·right
   have ih:=ih.resolve_left hc
   have hex:∃ a b,a ∈ rcIter es set k [x]/\b ∈ set/\nearB es a b=true/\b ∉ rcIter es set k [x]:=Classical.byContradiction fun h=>hc fun a ha b hb hn=>Classical.byContradiction fun hm=>h ⟨a,b,ha,hb,hn,hm⟩
   obtain ⟨a,b,ha,hb,hn,hm⟩:=hex
   have hb2:b ∈ rcIter es set (k+1) [x]:=fold_get es hn set _ hb ha
   have:=nodup_le (a:=b :: rcIter es set k [x]) (b:=rcIter es set (k+1) [x]) (by
    rw [List.nodup_cons];exact ⟨hm,lt_nodup (rcIter_srt es set x k)⟩) (by
    intro z hz
    rcases List.mem_cons.1 hz with rfl | hz
    ·exact hb2
    ·exact fold_mem es set _ hz)
   simp only [List.length_cons] at this
   omega
theorem reach_iff (es:List (Int × Int))(set:List Int)(x:Int)(hx:x ∈ set)(z:Int):z ∈ reachL es set x↔Rch (fun a b=>nearB es a b=true) (· ∈ set) x z:=by
 constructor
 ·exact rcIter_inv es set x _ z
 ·have hc:Clo es set (reachL es set x):=by
   rcases rcIter_or es set x set.length with h | h
   ·exact h
   ·have:=nodup_le (a:=rcIter es set set.length [x]) (b:=set) (lt_nodup (rcIter_srt es set x _)) fun y hy=>(rcIter_inv es set x _ y hy).in_ hx
    omega
  intro h
  induction h with
  | refl=>exact rcIter_x es set x _
  | step _ h1 h2 ih=>exact hc _ ih _ h2 h1
theorem puts_mem (z:Int):∀ (l s:List Int),z ∈ l.foldl put s↔z ∈ l∨z ∈ s
 | [],s=>by simp
 | y :: ys,s=>by
  rw [List.foldl_cons,puts_mem z ys,put_mem,List.mem_cons]
  constructor
  ·rintro (h | h | h)
   ·exact .inl (.inr h)
   ·exact .inl (.inl h)
   ·exact .inr h
  ·rintro ((h | h) | h)
   ·exact .inr (.inl h)
   ·exact .inl h
   ·exact .inr (.inr h)
theorem ptIn_seen {N C:Nat}(v:Nat)(hv:v<N):∀ (l:List Int) (st:List Bool × List Int),PI N C st->(∀ y ∈ l,0<=y/\y<N)->((ptIn l st).1.getD v false=true↔(st.1.getD v false=true∨(v:Int) ∈ l))
 | [],st,h,_=>by simp [ptIn]
 | j :: r,st,h,hl=>by
  have hj:=hl j (by simp)
  simp only [ptIn]
  split
  ·rename_i hs
   rw [ptIn_seen v hv r st h (fun y hy=>hl y (by simp [hy])),List.mem_cons]
   constructor
   ·rintro (h1 | h1)
    ·exact .inl h1
    ·exact .inr (.inr h1)
   ·rintro (h1 | h1 | h1)
    ·exact .inl h1
    ·left;rw [<- h1] at hs;simpa using hs
    ·exact .inr h1
  ·rename_i hn
   have hlen:=h.len
   rw [ptIn_seen v hv r _ (h.put hj hn) (fun y hy=>hl y (by simp [hy])),List.mem_cons]
   show ((st.1.set j.toNat true).getD v false=true∨_)↔_
   rw [getD_setBool _ _ _ _ (by omega)]
   by_cases e:j.toNat=v
   ·rw [if_pos e]
    have:(v:Int)=j:=by omega
    simp [this]
   ·rw [if_neg e]
    have:¬ (v:Int)=j:=by omega
    simp [this]
theorem ptIn_q (z:Int):∀ (l:List Int) (st:List Bool × List Int),z ∈ (ptIn l st).2->z ∈ st.2∨(z ∈ l/\¬ st.1.getD z.toNat false=true)
 | [],st,h=>.inl h
 | j :: r,st,h=>by
  simp only [ptIn] at h
  split at h
  ·rcases ptIn_q z r st h with h | ⟨h,h2⟩
   ·exact .inl h
   ·exact .inr ⟨by simp [h],h2⟩
  ·rename_i hn
   rcases ptIn_q z r _ h with h | ⟨h,h2⟩
   ·simp only [List.mem_append,List.mem_cons,List.not_mem_nil,or_false] at h
    rcases h with h | rfl
    ·exact .inl h
    ·exact .inr ⟨by simp,hn⟩
   ·refine .inr ⟨by simp [h],fun h3=>h2 ?_⟩
    show (st.1.set j.toNat true).getD z.toNat false=true
    rw [List.getD_eq_getElem?_getD,List.getElem?_set]
    rw [List.getD_eq_getElem?_getD] at h3
    split
    ·split
     ·rfl
     ·rename_i e1 e2
      rw [<- e1,List.getElem?_eq_none (by omega)] at h3
      exact h3
    ·exact h3
structure QI (L:List (List Int)) (s:List Bool) (x:Nat) (C:Nat) (st:List Bool × List Int) (k:Nat):Prop where
 pi:PI L.length C st
 seen:∀ v,v<L.length->(st.1.getD v false=true↔(s.getD v false=true∨(v:Int) ∈ st.2))
 rch:∀ z ∈ st.2,Rch (fun a b=>b ∈ L.getD a.toNat []) (fun z=>0<=z/\z<L.length/\¬ s.getD z.toNat false=true) x z
 cl:∀ i,i<k->∀ y ∈ L.getD (st.2.getD i 0).toNat [],st.1.getD y.toNat false=true
 le:k<=st.2.length
 x:(x:Int) ∈ st.2
theorem QI.step {L:List (List Int)}(hL:LOk L.length L){s:List Bool}{x C:Nat}{st:List Bool × List Int}{k:Nat}(h:QI L s x C st k)(hk:k<st.2.length):QI L s x C (ptIn (L.getD (st.2.getD k 0).toNat []) st) (k+1):=by
 have hpre:=ptIn_pre (L.getD (st.2.getD k 0).toNat []) st
 have hPI:=PI.inn _ h.pi (hL (st.2.getD k 0).toNat)
 have hm:st.2.getD k 0 ∈ st.2:=by simp [hk]
 have hsn:∀ v,v<L.length->_:=fun v hv=>ptIn_seen v hv (L.getD (st.2.getD k 0).toNat []) st h.pi (hL _)
 refine ⟨hPI,?_,?_,?_,?_,hpre.subset h.x⟩
 ·intro v hv
  constructor
  ·intro hh
   rcases (hsn v hv).1 hh with h1 | h1
   ·rcases (h.seen v hv).1 h1 with h2 | h2
    ·exact .inl h2
    ·exact .inr (hpre.subset h2)
   ·by_cases h2:st.1.getD v false=true
    ·rcases (h.seen v hv).1 h2 with h2 | h2
     ·exact .inl h2
     ·exact .inr (hpre.subset h2)
    ·right
     have key:∀ (l:List Int) (st:List Bool × List Int),PI L.length C st->(∀ y ∈ l,0<=y/\y<L.length)->(v:Int) ∈ l->¬ st.1.getD v false=true->(v:Int) ∈ (ptIn l st).2:=by
      intro l
      induction l with
      | nil=>intro st _ _ h3;simp at h3
      | cons j r ih =>
       intro st hp hl h3 h4
       have hj:=hl j (by simp)
       simp only [ptIn]
       by_cases e:j=(v:Int)
       ·subst e
        rw [Int.toNat_natCast,if_neg h4]
        exact (ptIn_pre r _).subset (by simp)
       ·have h3':(v:Int) ∈ r:=by
         rcases List.mem_cons.1 h3 with h | h
         ·exact absurd h.symm e
         ·exact h
        split
        ·exact ih st hp (fun y hy=>hl y (by simp [hy])) h3' h4
        ·rename_i hn
         refine ih _ (hp.put hj hn) (fun y hy=>hl y (by simp [hy])) h3' ?_
         show ¬ (st.1.set j.toNat true).getD v false=true
         have:=hp.len
         rw [getD_setBool _ _ _ _ (by omega),if_neg (by omega)]
         exact h4
     exact key _ st h.pi (hL _) h1 h2
  ·rintro (h1 | h1)
   ·exact (hsn v hv).2 (.inl ((h.seen v hv).2 (.inl h1)))
   ·obtain ⟨_,h2⟩:=hPI.q _ h1
    simpa using h2
 ·intro z hz
  rcases ptIn_q z _ st hz with h1 | ⟨h1,h2⟩
  ·exact h.rch z h1
  ·have hr:=hL _ z h1
   refine .step (h.rch _ hm) h1 ⟨hr.1,hr.2,fun h3=>h2 ?_⟩
   exact (h.seen z.toNat (by omega)).2 (.inl h3)
 ·intro i hi y hy
  have hg:(ptIn (L.getD (st.2.getD k 0).toNat []) st).2.getD i 0=st.2.getD i 0:=by
   obtain ⟨t,ht⟩:=hpre
   rw [<- ht,List.getD_eq_getElem?_getD,List.getElem?_append_left (by omega),<- List.getD_eq_getElem?_getD]
  rw [hg] at hy
  have hr:=hL _ y hy
  refine (hsn y.toNat (by omega)).2 ?_
  by_cases e:i=k
  ·subst e
   right
   rw [Int.toNat_of_nonneg hr.1];exact hy
  ·exact .inl (h.cl i (by omega) y hy)
 ·have:=hpre.length_le
  by_cases e:(ptIn (L.getD (st.2.getD k 0).toNat []) st).2.length=st.2.length <;> omega
theorem QI.run {L:List (List Int)}(hL:LOk L.length L){s:List Bool}{x C:Nat}:∀ (f:Nat) (st:List Bool × List Int) (k:Nat),f+k=L.length+1->QI L s x C st k->QI L s x C (ptF L f st k) (ptF L f st k).2.length
 | 0,st,k,hf,h=>by have:=h.pi.len_le;have:=h.le;omega
 | f+1,st,k,hf,h=>by
  simp only [ptF]
  split
  ·rename_i hk
   exact QI.run hL f _ _ (by omega) (h.step hL hk)
  ·have:k=st.2.length:=by have:=h.le;omega
   rw [<- this];exact h
theorem srt_ext {a b:List Int}(ha:a.Pairwise (· < ·))(hb:b.Pairwise (· < ·))(h:∀ z,z ∈ a↔z ∈ b):a=b:=by
 have hp:a.Perm b:=(List.perm_ext_iff_of_nodup (lt_nodup ha) (lt_nodup hb)).2 h
 exact List.Perm.eq_of_pairwise (le:=(· < ·)) (fun x y _ _ h1 h2=>by omega) ha hb hp
structure DI (L:List (List Int)) (i:Nat) (st:List Int × List Int) (k:Nat):Prop where
 bi:BI L.length st
 iff:∀ v,v<L.length->(0<=st.1.getD v 0↔(v:Int) ∈ st.2)
 src:∀ v,v<L.length->0<=st.1.getD v 0->(v=i/\st.1.getD v 0=0)∨∃ u,u<L.length/\0<=st.1.getD u 0/\(v:Int) ∈ L.getD u []/\st.1.getD v 0=st.1.getD u 0+1
 cl:∀ j,j<k->∀ y ∈ L.getD (st.2.getD j 0).toNat [],0<=st.1.getD y.toNat 0
 le:k<=st.2.length
 at_:0<=st.1.getD i 0
theorem bfsIn_keep (d:Int)(v:Nat):∀ (l:List Int) (st:List Int × List Int),(∀ y ∈ l,0<=y/\y<st.1.length)->0<=st.1.getD v 0->(bfsIn d l st).1.getD v 0=st.1.getD v 0
 | [],st,_,_=>rfl
 | j :: r,st,hl,h=>by
  simp only [bfsIn]
  have hj:=hl j (by simp)
  split
  ·rename_i hn
   have hvj:j.toNat ≠ v:=fun e=>by rw [e] at hn;omega
   have e1:(st.1.set j.toNat d).getD v 0=st.1.getD v 0:=by
    rw [List.getD_eq_getElem?_getD,List.getD_eq_getElem?_getD,List.getElem?_set_ne hvj]
   rw [bfsIn_keep d v r _ (fun y hy=>by simpa using hl y (by simp [hy])) (by show 0<=(st.1.set j.toNat d).getD v 0;rw [e1];exact h)]
   exact e1
  ·exact bfsIn_keep d v r st (fun y hy=>hl y (by simp [hy])) h
theorem bfsIn_new (d:Int)(hd:0<=d)(v:Nat):∀ (l:List Int) (st:List Int × List Int),(∀ y ∈ l,0<=y/\y<st.1.length)->v<st.1.length->st.1.getD v 0<0 ->
  (((v:Int) ∈ l/\(bfsIn d l st).1.getD v 0=d/\(v:Int) ∈ (bfsIn d l st).2)∨((v:Int) ∉ l/\(bfsIn d l st).1.getD v 0=st.1.getD v 0/\((v:Int) ∈ (bfsIn d l st).2->(v:Int) ∈ st.2)))
 | [],st,_,_,h=>.inr ⟨by simp,rfl,id⟩
 | j :: r,st,hl,hv,h=>by
  have hj:=hl j (by simp)
  simp only [bfsIn]
  by_cases e:j=(v:Int)
  ·subst e
   rw [Int.toNat_natCast,if_pos h]
   have e1:(st.1.set v d).getD v 0=d:=by rw [getD_setB _ _ _ _ hv,if_pos rfl]
   refine .inl ⟨by simp,?_,?_⟩
   ·rw [bfsIn_keep d v r _ (fun y hy=>by simpa using hl y (by simp [hy])) (by show 0<=(st.1.set v d).getD v 0;rw [e1];exact hd)]
    exact e1
   ·exact (bfsIn_pre d r _).subset (by simp)
  ·have hne:¬ (v:Int)=j:=fun h=>e h.symm
   split
   ·rename_i hn
    have e1:(st.1.set j.toNat d).getD v 0=st.1.getD v 0:=by
     rw [getD_setB _ _ _ _ hv,if_neg (by omega)]
    rcases bfsIn_new d hd v r (st.1.set j.toNat d,st.2 ++ [j]) (fun y hy=>by simpa using hl y (by simp [hy])) (by simpa using hv) (by show (st.1.set j.toNat d).getD v 0<0;rw [e1];exact h) with ⟨h1,h2,h3⟩ | ⟨h1,h2,h3⟩
    ·exact .inl ⟨by simp [h1],h2,h3⟩
    ·refine .inr ⟨by simp [hne,h1],by rw [h2];exact e1,fun h4=>?_⟩
     have:=h3 h4
     simpa [hne] using this
   ·rcases bfsIn_new d hd v r st (fun y hy=>hl y (by simp [hy])) hv h with ⟨h1,h2,h3⟩ | ⟨h1,h2,h3⟩
    ·exact .inl ⟨by simp [h1],h2,h3⟩
    ·exact .inr ⟨by simp [hne,h1],h2,h3⟩
theorem DI.step {L:List (List Int)}(hL:LOk L.length L){i:Nat}{st:List Int × List Int}{k:Nat}(h:DI L i st k)(hk:k<st.2.length) :
  DI L i (bfsIn (st.1.getD (st.2.getD k 0).toNat 0+1) (L.getD (st.2.getD k 0).toNat []) st) (k+1):=by
 have hm:st.2.getD k 0 ∈ st.2:=by simp [hk]
 obtain ⟨hxr,hx0⟩:=h.bi.q _ hm
 have hlo:=h.bi.lo (st.2.getD k 0).toNat (by omega)
 have hlen:=h.bi.len
 generalize hx:(st.2.getD k 0).toNat=x at *
 generalize hd:st.1.getD x 0+1=d at *
 have hl:=hL x
 have hl':∀ y ∈ L.getD x [],0<=y/\y<(st.1.length:Int):=by rw [hlen];exact hl
 have hbi:=BI.inn (d:=d) _ h.bi hl (by omega)
 have hpre:=bfsIn_pre d (L.getD x []) st
 have keep:∀ v,0<=st.1.getD v 0->_:=fun v hv=>bfsIn_keep d v (L.getD x []) st hl' hv
 have new:∀ v,v<L.length->st.1.getD v 0<0->_:=fun v hv hn=>bfsIn_new d (by omega) v (L.getD x []) st hl' (by omega) hn
 refine ⟨hbi,?_,?_,?_,?_,?_⟩
 ·intro v hv
  by_cases hn:0<=st.1.getD v 0
  ·rw [keep v hn]
   exact ⟨fun _=>hpre.subset ((h.iff v hv).1 hn),fun _=>hn⟩
  ·rcases new v hv (by omega) with ⟨h1,h2,h3⟩ | ⟨h1,h2,h3⟩
   ·rw [h2];exact ⟨fun _=>h3,fun _=>by omega⟩
   ·rw [h2];exact ⟨fun g=>absurd g hn,fun g=>(h.iff v hv).2 (h3 g)⟩
 ·intro v hv hp
  by_cases hn:0<=st.1.getD v 0
  ·rw [keep v hn]
   rcases h.src v hv hn with h1 | ⟨u,u1,u2,u3,u4⟩
   ·exact .inl h1
   ·exact .inr ⟨u,u1,by rw [keep u u2];exact u2,u3,by rw [keep u u2];exact u4⟩
  ·rcases new v hv (by omega) with ⟨h1,h2,h3⟩ | ⟨h1,h2,h3⟩
   ·refine .inr ⟨x,by omega,by rw [keep x hx0];exact hx0,h1,?_⟩
    rw [h2,keep x hx0,<- hd]
   ·rw [h2] at hp;exact absurd hp hn
 ·intro j hj y hy
  have hg:(bfsIn d (L.getD x []) st).2.getD j 0=st.2.getD j 0:=by
   obtain ⟨t,ht⟩:=hpre
   rw [<- ht,List.getD_eq_getElem?_getD,List.getElem?_append_left (by omega),<- List.getD_eq_getElem?_getD]
  rw [hg] at hy
  by_cases hn:0<=st.1.getD y.toNat 0
  ·rw [keep _ hn];exact hn
  ·by_cases e:j=k
   ·subst e
    rw [hx] at hy
    have hr:=hl y hy
    rcases new y.toNat (by omega) (by omega) with ⟨h1,h2,h3⟩ | ⟨h1,h2,h3⟩
    ·rw [h2];omega
    ·rw [Int.toNat_of_nonneg hr.1] at h1;exact absurd hy h1
   ·exact absurd (h.cl j (by omega) y hy) hn
 ·have:=hpre.length_le
  omega
 ·rw [keep i h.at_];exact h.at_
theorem DI.run {L:List (List Int)}(hL:LOk L.length L){i:Nat}:∀ (f:Nat) (st:List Int × List Int) (k:Nat),f+k=L.length+1->DI L i st k->∃ q,DI L i (bfsF L f st k,q) q.length
 | 0,st,k,hf,h=>by have:=h.bi.len_le;have:=h.le;omega
 | f+1,st,k,hf,h=>by
  simp only [bfsF]
  split
  ·rename_i hk
   exact DI.run hL f _ _ (by omega) (h.step hL hk)
  ·have e:k=st.2.length:=by have:=h.le;omega
   exact ⟨st.2,by rw [<- e];exact h⟩
theorem DI.zero {L:List (List Int)}{i:Nat}(hi:i<L.length):DI L i (bfs0 L.length i,[(i:Int)]) 0:=by
 have hat:∀ v,v<L.length->(bfs0 L.length i).getD v 0=if i=v then 0 else -1:=by
  intro v hv
  unfold bfs0
  rw [getD_setB _ _ _ _ (by simpa using hv)]
  split
  ·rfl
  ·rw [List.getD_eq_getElem?_getD,List.getElem?_replicate,if_pos hv];rfl
 refine ⟨bfs0_BI _ i hi,?_,?_,fun j hj=>absurd hj (Nat.not_lt_zero j),Nat.zero_le _,?_⟩
 ·intro v hv
  show 0<=(bfs0 L.length i).getD v 0↔(v:Int) ∈ [(i:Int)]
  rw [hat v hv,List.mem_singleton]
  split <;> omega
 ·intro v hv h
  left
  have h':0<=(bfs0 L.length i).getD v 0:=h
  rw [hat v hv] at h'
  show v=i/\(bfs0 L.length i).getD v 0=0
  rw [hat v hv]
  by_cases e:i=v
  ·exact ⟨e.symm,by rw [if_pos e]⟩
  ·rw [if_neg e] at h';omega
 ·show 0<=(bfs0 L.length i).getD i 0
  rw [hat i hi,if_pos rfl];omega
theorem bfs_DI {L:List (List Int)}(hL:LOk L.length L){i:Nat}(hi:i<L.length):∃ q,DI L i (bfs L i,q) q.length:=DI.run hL _ _ _ (by omega) (DI.zero hi)
theorem bfs_clo {L:List (List Int)}(hL:LOk L.length L){i:Nat}(hi:i<L.length){u:Nat}(hu:u<L.length)(h0:0<=(bfs L i).getD u 0){y:Int}(hy:y ∈ L.getD u []):0<=(bfs L i).getD y.toNat 0:=by
 obtain ⟨q,h⟩:=bfs_DI hL hi
 obtain ⟨j,hj,e⟩:=List.mem_iff_getElem.1 ((h.iff u hu).1 h0)
 refine h.cl j hj y ?_
 have e2:q.getD j 0=(u:Int):=by simp [hj,e]
 show y ∈ L.getD (q.getD j 0).toNat []
 rw [e2,Int.toNat_natCast];exact hy
def dq (st:List Int × List Int)(a:Nat):Int:=st.1.getD (st.2.getD a 0).toNat 0
theorem bfsIn_mono (d:Int)(hd:0<=d):∀ (l:List Int) (st:List Int × List Int),(∀ y ∈ l,0<=y/\y<st.1.length)->(∀ x ∈ st.2,(0<=x/\x<st.1.length)/\0<=st.1.getD x.toNat 0) ->
  (∀ a b,a<=b->b<st.2.length->dq st a<=dq st b)->(∀ b,b<st.2.length->dq st b<=d) ->
  (∀ a b,a<=b->b<(bfsIn d l st).2.length->dq (bfsIn d l st) a<=dq (bfsIn d l st) b)/\∀ b,b<(bfsIn d l st).2.length->dq (bfsIn d l st) b<=d
 | [],st,_,_,h1,h2=>⟨h1,h2⟩
 | j :: r,st,hl,hq,h1,h2=>by
  have hj:=hl j (by simp)
  simp only [bfsIn]
  split
  ·rename_i hn
   have keep:∀ a,a<st.2.length->dq (st.1.set j.toNat d,st.2 ++ [j]) a=dq st a:=by
    intro a ha
    have hm:st.2.getD a 0 ∈ st.2:=by simp [ha]
    have hx:=hq _ hm
    unfold dq
    have e1:(st.2 ++ [j]).getD a 0=st.2.getD a 0:=by
     rw [List.getD_eq_getElem?_getD,List.getElem?_append_left ha,<- List.getD_eq_getElem?_getD]
    show (st.1.set j.toNat d).getD ((st.2 ++ [j]).getD a 0).toNat 0=_
    rw [e1,getD_setB _ _ _ _ (by omega),if_neg (fun e=>by rw [e] at hn;omega)]
   have last:dq (st.1.set j.toNat d,st.2 ++ [j]) st.2.length=d:=by
    unfold dq
    show (st.1.set j.toNat d).getD ((st.2 ++ [j]).getD st.2.length 0).toNat 0=d
    rw [show (st.2 ++ [j]).getD st.2.length 0=j by simp,getD_setB _ _ _ _ (by omega),if_pos rfl]
   refine bfsIn_mono d hd r _ (fun y hy=>by simpa using hl y (by simp [hy])) ?_ ?_ ?_
   ·intro x hx
    rcases List.mem_append.1 hx with hx | hx
    ·have:=hq x hx
     refine ⟨by simpa using this.1,?_⟩
     show 0<=(st.1.set j.toNat d).getD x.toNat 0
     rw [getD_setB _ _ _ _ (by omega)]
     split <;> omega
    ·rw [List.mem_singleton] at hx;subst hx
     refine ⟨by simpa using hj,?_⟩
     show 0<=(st.1.set x.toNat d).getD x.toNat 0
     rw [getD_setB _ _ _ _ (by omega),if_pos rfl];exact hd
   ·intro a b hab hb
    have hb':b<st.2.length+1:=by simpa using hb
    by_cases eb:b=st.2.length
    ·subst eb
     rw [last]
     by_cases ea:a=st.2.length
     ·subst ea;rw [last];exact Int.le_refl _
     ·rw [keep a (by omega)];exact h2 a (by omega)
    ·rw [keep b (by omega),keep a (by omega)];exact h1 a b hab (by omega)
   ·intro b hb
    have hb':b<st.2.length+1:=by simpa using hb
    by_cases eb:b=st.2.length
    ·subst eb;rw [last];exact Int.le_refl _
    ·rw [keep b (by omega)];exact h2 b (by omega)
  ·exact bfsIn_mono d hd r st (fun y hy=>hl y (by simp [hy])) hq h1 h2
structure DS (L:List (List Int)) (i:Nat) (st:List Int × List Int) (k:Nat):Prop where
 di:DI L i st k
 zero:st.1.getD i 0=0
 mono:∀ a b,a<=b->b<st.2.length->dq st a<=dq st b
 near:∀ a b,k<=a->a<st.2.length->b<st.2.length->dq st b<=dq st a+1
 ed:∀ a,a<k->∀ y ∈ L.getD (st.2.getD a 0).toNat [],0<=st.1.getD y.toNat 0/\st.1.getD y.toNat 0<=dq st a+1
theorem DS.step {L:List (List Int)}(hL:LOk L.length L){i:Nat}(hi:i<L.length){st:List Int × List Int}{k:Nat}(h:DS L i st k)(hk:k<st.2.length) :
  DS L i (bfsIn (st.1.getD (st.2.getD k 0).toNat 0+1) (L.getD (st.2.getD k 0).toNat []) st) (k+1):=by
 have hd1:=h.di.step hL hk
 have hm:st.2.getD k 0 ∈ st.2:=by simp [hk]
 obtain ⟨hxr,hx0⟩:=h.di.bi.q _ hm
 have hlen:=h.di.bi.len
 have hl:=hL (st.2.getD k 0).toNat
 have hdk:dq st k+1=st.1.getD (st.2.getD k 0).toNat 0+1:=rfl
 have hl':∀ y ∈ L.getD (st.2.getD k 0).toNat [],0<=y/\y<(st.1.length:Int):=by rw [hlen];exact hl
 have hmono:=bfsIn_mono (dq st k+1) (by unfold dq;omega) _ st hl' (fun x hx=>by have:=h.di.bi.q x hx;rw [hlen];exact this) h.mono (fun b hb=>h.near k b (Nat.le_refl _) hk hb)
 have hpre:=bfsIn_pre (dq st k+1) (L.getD (st.2.getD k 0).toNat []) st
 have keep:∀ v,0<=st.1.getD v 0->_:=fun v hv=>bfsIn_keep (dq st k+1) v (L.getD (st.2.getD k 0).toNat []) st hl' hv
 have gq:∀ a,a<st.2.length->(bfsIn (dq st k+1) (L.getD (st.2.getD k 0).toNat []) st).2.getD a 0=st.2.getD a 0:=by
  intro a ha
  obtain ⟨t,ht⟩:=hpre
  rw [<- ht,List.getD_eq_getElem?_getD,List.getElem?_append_left ha,<- List.getD_eq_getElem?_getD]
 have kq:∀ a,a<st.2.length->dq (bfsIn (dq st k+1) (L.getD (st.2.getD k 0).toNat []) st) a=dq st a:=by
  intro a ha
  have hma:st.2.getD a 0 ∈ st.2:=by simp [ha]
  unfold dq at *
  rw [gq a ha]
  exact keep _ (h.di.bi.q _ hma).2
 have hpl:=hpre.length_le
 rw [<- hdk] at hd1 ⊢
 refine ⟨hd1,?_,hmono.1,?_,?_⟩
 ·rw [keep i (by rw [h.zero];exact Int.le_refl _)];exact h.zero
 ·intro a b ha hal hb
  have h1:=hmono.2 b hb
  have h2:=hmono.1 k a (by omega) hal
  rw [kq k hk] at h2
  omega
 ·intro a ha y hy
  rw [gq a (by omega)] at hy
  by_cases e:a=k
  ·subst e
   rw [kq a hk]
   have hyr:=hl y hy
   by_cases hn:0<=st.1.getD y.toNat 0
   ·rw [keep _ hn]
    refine ⟨hn,?_⟩
    have hin:=(h.di.iff y.toNat (by omega)).1 hn
    rw [Int.toNat_of_nonneg hyr.1] at hin
    obtain ⟨b,hb,eb⟩:=List.mem_iff_getElem.1 hin
    have e2:st.2.getD b 0=y:=by simp [hb,eb]
    have:=h.near a b (Nat.le_refl _) hk hb
    have e3:dq st b=st.1.getD y.toNat 0:=by unfold dq;rw [e2]
    rw [e3] at this;exact this
   ·rcases bfsIn_new (dq st a+1) (by unfold dq;omega) y.toNat _ st hl' (by omega) (by omega) with ⟨_,g2,_⟩ | ⟨g1,_⟩
    ·rw [g2];exact ⟨by unfold dq;omega,Int.le_refl _⟩
    ·rw [Int.toNat_of_nonneg hyr.1] at g1;exact absurd hy g1
  ·rw [kq a (by omega)]
   have h1:=h.ed a (by omega) y hy
   rw [keep _ h1.1];exact h1
theorem DS.run {L:List (List Int)}(hL:LOk L.length L){i:Nat}(hi:i<L.length):∀ (f:Nat) (st:List Int × List Int) (k:Nat),f+k=L.length+1->DS L i st k->∃ q,DS L i (bfsF L f st k,q) q.length
 | 0,st,k,hf,h=>by have:=h.di.bi.len_le;have:=h.di.le;omega
 | f+1,st,k,hf,h=>by
  simp only [bfsF]
  split
  ·rename_i hk
   exact DS.run hL hi f _ _ (by omega) (h.step hL hi hk)
  ·have e:k=st.2.length:=by have:=h.di.le;omega
   exact ⟨st.2,by rw [<- e];exact h⟩
theorem bfs_DS {L:List (List Int)}(hL:LOk L.length L){i:Nat}(hi:i<L.length):∃ q,DS L i (bfs L i,q) q.length:=by
 refine DS.run hL hi _ _ _ (by omega) ⟨DI.zero hi,?_,?_,?_,fun a ha=>absurd ha (Nat.not_lt_zero a)⟩
 ·show (bfs0 L.length i).getD i 0=0
  unfold bfs0
  rw [getD_setB _ _ _ _ (by simpa using hi),if_pos rfl]
 ·intro a b hab hb
  have hb':b<1:=hb
  have e1:a=0:=by omega
  have e2:b=0:=by omega
  rw [e1,e2];exact Int.le_refl _
 ·intro a b _ ha hb
  have ha':a<1:=ha
  have hb':b<1:=hb
  have e1:a=0:=by omega
  have e2:b=0:=by omega
  rw [e1,e2];omega
theorem bfs_zero {L:List (List Int)}(hL:LOk L.length L){i:Nat}(hi:i<L.length):(bfs L i).getD i 0=0:=by
 obtain ⟨q,h⟩:=bfs_DS hL hi
 exact h.zero
theorem bfs_edge {L:List (List Int)}(hL:LOk L.length L){i:Nat}(hi:i<L.length){u:Nat}(hu:u<L.length)(h0:0<=(bfs L i).getD u 0){y:Int}(hy:y ∈ L.getD u []):0<=(bfs L i).getD y.toNat 0/\(bfs L i).getD y.toNat 0<=(bfs L i).getD u 0+1:=by
 obtain ⟨q,h⟩:=bfs_DS hL hi
 obtain ⟨j,hj,e⟩:=List.mem_iff_getElem.1 ((h.di.iff u hu).1 h0)
 have e2:q.getD j 0=(u:Int):=by simp [hj,e]
 have:=h.ed j hj y (by show y ∈ L.getD (q.getD j 0).toNat [];rw [e2,Int.toNat_natCast];exact hy)
 have e3:dq (bfs L i,q) j=(bfs L i).getD u 0:=by unfold dq;show (bfs L i).getD (q.getD j 0).toNat 0=_;rw [e2,Int.toNat_natCast]
 rw [e3] at this
 exact this
def Sym (L:List (List Int)):Prop:=∀ u v:Nat,u<L.length->v<L.length->(v:Int) ∈ L.getD u []->(u:Int) ∈ L.getD v []
end Go.Proofs.YtlcipphiflcaiaaGreat.Ai
namespace Go.Proofs.YtlcipphiflcaiaaGreat.Ai
open Go Go.RowKit
theorem ofInt_nat (n:Nat)(h:n<2 ^ 64):(BitVec.ofInt 64 (n:Int)).toNat=n:=by
 rw [BitVec.ofInt_natCast,BitVec.toNat_ofNat,Nat.mod_eq_of_lt h]
theorem and_nat (a b:Nat)(ha:a<2 ^ 64)(hb:b<2 ^ 64):bitsA .and .u64 (a:Int) (b:Int)=((a &&& b:Nat):Int):=by
 have h:a &&& b<2 ^ 64:=Nat.lt_of_le_of_lt Nat.and_le_left ha
 have e:(BitVec.ofInt 64 (a:Int) &&& BitVec.ofInt 64 (b:Int)).toNat=a &&& b:=by rw [BitVec.toNat_and,ofInt_nat a ha,ofInt_nat b hb]
 show IntKind.u64.wrap (((BitVec.ofInt 64 (a:Int) &&& BitVec.ofInt 64 (b:Int)).toNat:Nat):Int)=_
 rw [e,IntKind.wrap_u64];omega
theorem or_nat (a b:Nat)(ha:a<2 ^ 64)(hb:b<2 ^ 64):bitsA .or .u64 (a:Int) (b:Int)=((a ||| b:Nat):Int):=by
 have h:a ||| b<2 ^ 64:=Nat.or_lt_two_pow ha hb
 have e:(BitVec.ofInt 64 (a:Int) ||| BitVec.ofInt 64 (b:Int)).toNat=a ||| b:=by rw [BitVec.toNat_or,ofInt_nat a ha,ofInt_nat b hb]
 show IntKind.u64.wrap (((BitVec.ofInt 64 (a:Int) ||| BitVec.ofInt 64 (b:Int)).toNat:Nat):Int)=_
 rw [e,IntKind.wrap_u64];omega
theorem shr_nat (a y:Nat)(hy:y<=64):(a:Int).fdiv (2 ^ (min (y:Int).toNat 64))=((a / 2 ^ y:Nat):Int):=by
 rw [Int.toNat_natCast,Nat.min_eq_left hy]
 rw [Int.fdiv_eq_ediv_of_nonneg _ (Int.le_of_lt (Int.pow_pos (by decide)))]
 norm_cast
theorem bin_and (P:Program)(t:TypeId)(a b:Nat)(ha:a<2 ^ 64)(hb:b<2 ^ 64):binA P .and t (.int .u64 (a:Int)) (.int .u64 (b:Int))=some (.int .u64 ((a &&& b:Nat):Int)):=by
 simp only [binA,intA,and_nat a b ha hb]
 simp
theorem bin_or (P:Program)(t:TypeId)(a b:Nat)(ha:a<2 ^ 64)(hb:b<2 ^ 64):binA P .or t (.int .u64 (a:Int)) (.int .u64 (b:Int))=some (.int .u64 ((a ||| b:Nat):Int)):=by
 simp only [binA,intA,or_nat a b ha hb]
 simp
theorem bin_shl (P:Program)(t:TypeId)(y:Nat)(hy:y<64):binA P .shl t (.int .u64 1) (.int .i64 (y:Int))=some (.int .u64 ((2 ^ y:Nat):Int)):=by
 have h0:¬ ((y:Int)<0):=by omega
 have h1:2 ^ y<2 ^ 64:=Nat.pow_lt_pow_right (by decide) hy
 have h2:(1:Int) * 2 ^ (min (y:Int).toNat 64)=((2 ^ y:Nat):Int):=by
  rw [Int.toNat_natCast,Nat.min_eq_left (by omega),Int.one_mul];norm_cast
 have h3:binA P .shl t (.int .u64 1) (.int .i64 (y:Int))=some (.int .u64 (IntKind.u64.wrap ((1:Int) * 2 ^ (min (y:Int).toNat 64)))):=by
  simp only [binA,shiftA]
  rw [if_pos (.inl trivial),if_neg h0];rfl
 have h4:((2 ^ y:Nat):Int) % 18446744073709551616=((2 ^ y:Nat):Int):=by
  generalize 2 ^ y=z at h1
  omega
 rw [h3,h2,IntKind.wrap_u64,h4]
def Bits (b:Nat)(L:Nat)(s:List Int):Prop:=b<256/\∀ z,z<L->b.testBit z=decide ((z:Int) ∈ s)
theorem Bits.or {b L y:Nat}{s:List Int}(h:Bits b L s)(hy:y<8):Bits (b ||| 2 ^ y) L (s ++ [(y:Int)]):=by
 refine ⟨?_,fun z hz=>?_⟩
 ·have h1:2 ^ y<2 ^ 8:=Nat.pow_lt_pow_right (by decide) hy
  exact Nat.or_lt_two_pow (n:=8) h.1 h1
 ·rw [Nat.testBit_or,h.2 z hz,Nat.testBit_two_pow]
  have e:(y=z)↔((z:Int)=y):=by omega
  by_cases hm:(z:Int) ∈ s <;> by_cases hz2:y=z <;> simp [hm,hz2,e]
  ·intro hh;exact hz2 (by omega)
theorem Bits.no {b L x y:Nat}{s:List Int}(h:Bits b L s)(hx:x<L)(hy:y<L):(b &&& (2 ^ x ||| 2 ^ y) ≠ 0)↔((x:Int) ∈ s∨(y:Int) ∈ s):=by
 have hbx:=h.2 x hx
 have hby:=h.2 y hy
 constructor
 ·intro hne
  apply Decidable.byContradiction
  intro hno
  rw [not_or] at hno
  rw [decide_eq_false hno.1] at hbx
  rw [decide_eq_false hno.2] at hby
  apply hne
  apply Nat.eq_of_testBit_eq
  intro z
  rw [Nat.testBit_and,Nat.testBit_or,Nat.testBit_two_pow,Nat.testBit_two_pow,Nat.zero_testBit]
  by_cases e1:x=z
  ·subst e1;rw [hbx];rfl
  ·by_cases e2:y=z
   ·subst e2;rw [hby];rfl
   ·simp [e1,e2]
 ·rintro h' h0
  rcases h' with g | g
  ·rw [decide_eq_true g] at hbx
   have:=congrArg (fun n=>Nat.testBit n x) h0
   simp only [Nat.testBit_and,Nat.testBit_or,Nat.testBit_two_pow,Nat.zero_testBit,hbx] at this
   simp at this
  ·rw [decide_eq_true g] at hby
   have:=congrArg (fun n=>Nat.testBit n y) h0
   simp only [Nat.testBit_and,Nat.testBit_or,Nat.testBit_two_pow,Nat.zero_testBit,hby] at this
   simp at this
def cd202:Cd:=(.seq (.reg [⟨⟨some 4,.assign (.const (.int .u64 0)),none⟩,[]⟩,⟨⟨some 5,.assign (.const (.int .u64 0)),none⟩,[]⟩]) (.seq (.reg [⟨⟨some 14,.move (.tmp 0),none⟩,[]⟩,⟨⟨some 15,.binOp .and 65 (.tmp 14) (.const (.int .u64 4294967295)) 65,none⟩,[]⟩,⟨⟨some 6,.assign (.tmp 15),none⟩,[]⟩]) (.seq (.reg [⟨⟨some 16,.move (.tmp 0),none⟩,[]⟩,⟨⟨some 17,.binOp .shr 65 (.tmp 16) (.const (.int .u64 32)) 94,none⟩,[]⟩,⟨⟨some 7,.assign (.tmp 17),none⟩,[]⟩]) (.seq (.reg [⟨⟨some 18,.move (.tmp 1),none⟩,[]⟩,⟨⟨some 19,.binOp .and 65 (.tmp 18) (.const (.int .u64 4294967295)) 65,none⟩,[]⟩,⟨⟨some 8,.assign (.tmp 19),none⟩,[]⟩]) (.seq (.reg [⟨⟨some 20,.move (.tmp 1),none⟩,[]⟩,⟨⟨some 21,.binOp .shr 65 (.tmp 20) (.const (.int .u64 32)) 94,none⟩,[]⟩,⟨⟨some 9,.assign (.tmp 21),none⟩,[]⟩]) (.seq (.reg [⟨⟨some 22,.move (.tmp 6),none⟩,[]⟩,⟨⟨some 23,.move (.tmp 8),none⟩,[]⟩,⟨⟨some 24,.binOp .mul 65 (.tmp 22) (.tmp 23) 65,none⟩,[]⟩,
 ⟨⟨some 10,.assign (.tmp 24),none⟩,[]⟩]) (.seq (.reg [⟨⟨some 25,.move (.tmp 7),none⟩,[]⟩,⟨⟨some 26,.move (.tmp 8),none⟩,[]⟩,⟨⟨some 27,.binOp .mul 65 (.tmp 25) (.tmp 26) 65,none⟩,[]⟩,⟨⟨some 28,.move (.tmp 10),none⟩,[]⟩,⟨⟨some 29,.binOp .shr 65 (.tmp 28) (.const (.int .u64 32)) 94,none⟩,[]⟩,⟨⟨some 30,.binOp .add 65 (.tmp 27) (.tmp 29) 65,none⟩,[]⟩,⟨⟨some 11,.assign (.tmp 30),none⟩,[]⟩]) (.seq (.reg [⟨⟨some 31,.move (.tmp 11),none⟩,[]⟩,⟨⟨some 32,.binOp .and 65 (.tmp 31) (.const (.int .u64 4294967295)) 65,none⟩,[]⟩,⟨⟨some 12,.assign (.tmp 32),none⟩,[]⟩]) (.seq (.reg [⟨⟨some 33,.move (.tmp 11),none⟩,[]⟩,⟨⟨some 34,.binOp .shr 65 (.tmp 33) (.const (.int .u64 32)) 94,none⟩,[]⟩,⟨⟨some 13,.assign (.tmp 34),none⟩,[]⟩]) (.seq (.reg [⟨⟨some 35,.move (.tmp 12),none⟩,[]⟩,⟨⟨some 36,.move (.tmp 6),none⟩,[]⟩,
 ⟨⟨some 37,.move (.tmp 9),none⟩,[]⟩,⟨⟨some 38,.binOp .mul 65 (.tmp 36) (.tmp 37) 65,none⟩,[]⟩,⟨⟨some 39,.binOp .add 65 (.tmp 35) (.tmp 38) 65,none⟩,[]⟩,⟨⟨some 12,.assign (.tmp 39),none⟩,[]⟩]) (.seq (.reg [⟨⟨some 40,.move (.tmp 7),none⟩,[]⟩,⟨⟨some 41,.move (.tmp 9),none⟩,[]⟩,⟨⟨some 42,.binOp .mul 65 (.tmp 40) (.tmp 41) 65,none⟩,[]⟩,⟨⟨some 43,.move (.tmp 13),none⟩,[]⟩,⟨⟨some 44,.binOp .add 65 (.tmp 42) (.tmp 43) 65,none⟩,[]⟩,⟨⟨some 45,.move (.tmp 12),none⟩,[]⟩,⟨⟨some 46,.binOp .shr 65 (.tmp 45) (.const (.int .u64 32)) 94,none⟩,[]⟩,⟨⟨some 47,.binOp .add 65 (.tmp 44) (.tmp 46) 65,none⟩,[]⟩,⟨⟨some 4,.assign (.tmp 47),none⟩,[]⟩]) (.seq (.reg [⟨⟨some 48,.move (.tmp 0),none⟩,[]⟩,
 ⟨⟨some 49,.move (.tmp 1),none⟩,[]⟩,
  ⟨⟨some 50,.binOp .mul 65 (.tmp 48) (.tmp 49) 65,none⟩,[]⟩,
  ⟨⟨some 5,.assign (.tmp 50),none⟩,[]⟩]) .ret))))))))))))
theorem in202:InT Tryz.prog 202 2 [.tmp 4,.tmp 5] cd202:=InT.mk (by kernel_rfl) [] Tryz.func202 rfl (by kernel_rfl) (by kernel_rfl) (of_decide_eq_true (by kernel_rfl)) (by kernel_rfl)
def cd171:Cd:=(.seq (.reg [⟨⟨some 4,.assign (.const (.int .u64 0)),none⟩,[]⟩,⟨⟨some 5,.assign (.const (.int .u64 0)),none⟩,[]⟩]) (.seq (.cond (.const (.bool false)) (.seq (.reg [⟨⟨some 11,.move (.tmp 0),none⟩,[]⟩,⟨⟨some 12,.convert 94 169 (.tmp 11),none⟩,[]⟩,⟨⟨some 13,.move (.tmp 1),none⟩,[]⟩,⟨⟨some 14,.convert 94 169 (.tmp 13),none⟩,[]⟩,⟨⟨some 15,.call ⟨(.value (.func 201)),#[.tmp 12,.tmp 14],#[169,169]⟩,none⟩,[]⟩,⟨⟨some 10,.move (.tmp 15),none⟩,[]⟩,⟨⟨some 16,.extract (.tmp 10) 0,none⟩,[]⟩,⟨⟨some 17,.extract (.tmp 10) 1,none⟩,[]⟩,⟨⟨some 6,.assign (.tmp 16),none⟩,[]⟩,⟨⟨some 7,.assign (.tmp 17),none⟩,[]⟩]) (.seq (.reg [⟨⟨some 18,.move (.tmp 6),none⟩,[]⟩,⟨⟨some 19,.convert 169 94 (.tmp 18),none⟩,[]⟩,
 ⟨⟨some 20,.move (.tmp 7),none⟩,[]⟩,⟨⟨some 21,.convert 169 94 (.tmp 20),none⟩,[]⟩,⟨⟨some 4,.assign (.tmp 19),none⟩,[]⟩,⟨⟨some 5,.assign (.tmp 21),none⟩,[]⟩]) .ret)) .skip) (.seq (.reg [⟨⟨some 23,.move (.tmp 0),none⟩,[]⟩,⟨⟨some 24,.move (.tmp 1),none⟩,[]⟩,⟨⟨some 25,.call ⟨(.value (.func 202)),#[.tmp 23,.tmp 24],#[65,65]⟩,none⟩,[]⟩,⟨⟨some 22,.move (.tmp 25),none⟩,[]⟩,⟨⟨some 26,.extract (.tmp 22) 0,none⟩,[]⟩,⟨⟨some 27,.extract (.tmp 22) 1,none⟩,[]⟩,⟨⟨some 8,.assign (.tmp 26),none⟩,[]⟩,⟨⟨some 9,.assign (.tmp 27),none⟩,[]⟩]) (.seq (.reg [⟨⟨some 28,.move (.tmp 8),none⟩,[]⟩,⟨⟨some 29,.move (.tmp 9),none⟩,[]⟩,
 ⟨⟨some 4,.assign (.tmp 28),none⟩,[]⟩,
  ⟨⟨some 5,.assign (.tmp 29),none⟩,[]⟩]) .ret))))
theorem in171:InT Tryz.prog 171 2 [.tmp 4,.tmp 5] cd171:=InT.mk (by kernel_rfl) [] Tryz.func171 rfl (by kernel_rfl) (by kernel_rfl) (of_decide_eq_true (by kernel_rfl)) (by kernel_rfl)
def cd133:Cd:=(.seq (.reg [⟨⟨some 4,.assign (.const (.slice none 0 0)),none⟩,[]⟩]) (.seq (.seq (.reg [⟨⟨some 9,.move (.tmp 1),none⟩,[]⟩,⟨⟨some 10,.binOp .lss 3 (.tmp 9) (.const (.int .i64 0)) 3,none⟩,[]⟩]) (.cond (.tmp 10) (.reg [⟨⟨some 11,.makeInterface 9 (.const (.string { data:=#[99,97,110,110,111,116,32,98,101,32,110,101,103,97,116,105,118,101] })),none⟩,[]⟩,⟨⟨none,.panic (.tmp 11),none⟩,[]⟩]) .skip)) (.seq (.reg [⟨⟨some 13,.move (.tmp 0),none⟩,[]⟩,⟨⟨some 14,.call ⟨(.builtin .len),#[.tmp 13],#[27]⟩,none⟩,[]⟩,⟨⟨some 15,.convert 3 94 (.tmp 14),none⟩,[]⟩,⟨⟨some 16,.move (.tmp 1),none⟩,[]⟩,⟨⟨some 17,.convert 3 94 (.tmp 16),none⟩,[]⟩,⟨⟨some 18,.call ⟨(.value (.func 171)),#[.tmp 15,.tmp 17],#[94,94]⟩,none⟩,[]⟩,⟨⟨some 12,.move (.tmp 18),none⟩,[]⟩,⟨⟨some 19,.extract (.tmp 12) 0,none⟩,[]⟩,⟨⟨some 20,.extract (.tmp 12) 1,none⟩,[]⟩,⟨⟨some 5,.assign (.tmp 19),none⟩,[]⟩,
 ⟨⟨some 6,.assign (.tmp 20),none⟩,[]⟩]) (.seq (.seq (.reg [⟨⟨some 21,.move (.tmp 5),none⟩,[]⟩,⟨⟨some 22,.binOp .gtr 94 (.tmp 21) (.const (.int .u64 0)) 94,none⟩,[]⟩,⟨⟨some 23,.move (.tmp 22),none⟩,[]⟩,⟨⟨some 24,.move (.tmp 6),some (23,false)⟩,[]⟩,⟨⟨some 25,.binOp .gtr 94 (.tmp 24) (.const (.int .u64 9223372036854775807)) 94,some (23,false)⟩,[]⟩,⟨⟨some 26,.pick (.tmp 23) (.const (.bool true)) (.tmp 25),none⟩,[]⟩]) (.cond (.tmp 26) (.reg [⟨⟨some 27,.makeInterface 9 (.const (.string { data:=#[116,104,101,32,114,101,115,117,108,116,32,111,102,32,40,108,101,110,40,120,41,32,42,32,99,111,117,110,116,41,32,111,118,101,114,102,108,111,119,115] })),none⟩,[]⟩,⟨⟨none,.panic (.tmp 27),none⟩,[]⟩]) .skip)) (.seq (.reg [⟨⟨some 28,.move (.tmp 6),none⟩,[]⟩,⟨⟨some 29,.convert 94 3 (.tmp 28),none⟩,[]⟩,⟨⟨some 30,.makeSlice 27 (.tmp 29) (.tmp 29),none⟩,[]⟩,⟨⟨some 7,.assign (.tmp 30),none⟩,[]⟩]) (.seq (.reg [⟨⟨some 31,.move (.tmp 7),none⟩,[]⟩,⟨⟨some 32,.move (.tmp 0),none⟩,[]⟩,⟨⟨some 33,.call ⟨(.builtin .copy),#[.tmp 31,.tmp 32],#[27,27]⟩,none⟩,[]⟩,
 ⟨⟨some 8,.assign (.tmp 33),none⟩,[]⟩]) (.seq (.block 0 (.loop (.seq (.seq (.reg [⟨⟨some 34,.move (.tmp 8),none⟩,[]⟩,⟨⟨some 35,.move (.tmp 7),none⟩,[]⟩,⟨⟨some 36,.call ⟨(.builtin .len),#[.tmp 35],#[27]⟩,none⟩,[]⟩,⟨⟨some 37,.binOp .lss 3 (.tmp 34) (.tmp 36) 3,none⟩,[]⟩]) (.cond (.tmp 37) .skip (.exit 0))) (.block 1 (.reg [⟨⟨some 38,.move (.tmp 8),none⟩,[]⟩,⟨⟨some 39,.move (.tmp 7),none⟩,[]⟩,⟨⟨some 40,.move (.tmp 8),none⟩,[]⟩,⟨⟨some 41,.slice 27 (.tmp 39) (some (.tmp 40)) none none,none⟩,[]⟩,⟨⟨some 42,.move (.tmp 7),none⟩,[]⟩,⟨⟨some 43,.move (.tmp 8),none⟩,[]⟩,⟨⟨some 44,.slice 27 (.tmp 42) none (some (.tmp 43)) none,none⟩,[]⟩,⟨⟨some 45,.call ⟨(.builtin .copy),#[.tmp 41,.tmp 44],#[27,27]⟩,none⟩,[]⟩,⟨⟨some 46,.binOp .add 3 (.tmp 38) (.tmp 45) 3,none⟩,[]⟩,
 ⟨⟨some 8,.assign (.tmp 46),none⟩,[]⟩]))))) (.seq (.reg [⟨⟨some 47,.move (.tmp 7),none⟩,[]⟩,
  ⟨⟨some 4,.assign (.tmp 47),none⟩,[]⟩]) .ret))))))))
theorem in133:InT Tryz.prog 133 2 [.tmp 4] cd133:=InT.mk (by kernel_rfl) [(9,[(0,false),(1,false),(2,false),(3,false),(4,false),(5,false),(6,false),(7,true),(8,false),(9,true)])] Tryz.func133 rfl (by kernel_rfl) (by kernel_rfl) (of_decide_eq_true (by kernel_rfl)) (by kernel_rfl)
end Go.Proofs.YtlcipphiflcaiaaGreat.Ai
namespace Go.Proofs.YtlcipphiflcaiaaGreat.Ai
open Go Go.RowKit
theorem sl_own {P:Program}{t e:TypeId}(hu:P.underlying t=some (.slice e))(hc:P.cellsOf e=1){H:AH}{o k n c:Nat}{vs:List Value}{ro:Bool}(ho:H[o]?=some (.cells vs e ro)){lo hi:Option Value}{l r:Nat}(h1:boundA lo 0=some l)(h2:boundA hi n=some r)(hl:l<=r)(hr:r<=n) :
  sliceA P t (.slice (some ⟨o,k,none⟩) n c) lo hi none H=some (.slice (some ⟨o,k+l,none⟩) (r - l) (r - l)):=by
 simp only [sliceA,hu,h1,h2,ho,hc,Nat.mul_one]
 rw [if_pos ⟨hl,hr,trivial,Nat.one_pos⟩]
theorem cp_ints {P:Program}{t e:TypeId}(hu:P.underlying t=some (.slice e))(hc:P.cellsOf e=1){H:AH}{o k n c:Nat}{xs ys:List Int}{x:Value}(ho:H[o]?=some (.cells (ints xs) e false))(hr:Row e H x ys)(hm:0<ys.length)(hn:0<n)(hb:k+n<=xs.length) :
  copyA P t (.slice (some ⟨o,k,none⟩) n c) x H=some (.int .i64 ((min ys.length n:Nat):Int),H.set o (.cells (ints (xs.take k ++ ys.take (min ys.length n) ++ xs.drop (k+min ys.length n))) e false)):=by
 have hs:=hr.cells (P:=P) hc
 simp only [copyA,hu,ho,hs,hc,Nat.mul_one]
 rw [if_pos ⟨trivial,Nat.one_pos,hm,hn,by rw [ints_len];exact hb⟩]
 have:putAt (ints xs) k ((ints ys).take (min ys.length n))=ints (xs.take k ++ ys.take (min ys.length n) ++ xs.drop (k+min ys.length n)):=by
  unfold putAt
  have e1:((ints ys).take (min ys.length n)).length=min ys.length n:=by rw [List.length_take,ints_len];omega
  rw [e1]
  simp [ints,List.map_take,List.map_drop]
 rw [this]
theorem mul_one_u (P:Program)(t:TypeId)(n:Nat)(h:n<18446744073709551616):binA P .mul t (.int .u64 1) (.int .u64 (n:Int))=some (.int .u64 (n:Int)):=by
 simp only [binA,intA,Int.one_mul,IntKind.wrap_u64]
 simp
 omega
theorem mul_zero_u (P:Program)(t:TypeId)(n:Nat):binA P .mul t (.int .u64 0) (.int .u64 (n:Int))=some (.int .u64 0):=by
 simp only [binA,intA,Int.zero_mul,IntKind.wrap_u64]
 simp
theorem shr32 (P:Program)(t:TypeId)(n:Nat)(h:n<4294967296):binA P .shr t (.int .u64 (n:Int)) (.int .u64 32)=some (.int .u64 0):=by
 simp only [binA,shiftA]
 rw [if_pos (.inr trivial),if_neg (by decide)]
 congr 2
 have:(2 ^ min (32:Int).toNat IntKind.u64.bits:Int)=4294967296:=by decide
 rw [this,Int.fdiv_eq_ediv_of_nonneg _ (by decide)]
 omega
theorem and32 (P:Program)(t:TypeId)(n:Nat)(h:n<4294967296):binA P .and t (.int .u64 (n:Int)) (.int .u64 4294967295)=some (.int .u64 (n:Int)):=by
 have:=bin_and P t n 4294967295 (by omega) (by decide)
 have e:n &&& 4294967295=n:=by
  rw [show 4294967295=2 ^ 32 - 1 from rfl,Nat.and_two_pow_sub_one_eq_mod]
  exact Nat.mod_eq_of_lt h
 rw [e] at this
 exact this
theorem Mul64_c (n:Nat)(H:AH)(hn:n<4294967296):ACalls Tryz.prog 202 [.int .u64 1,.int .u64 (n:Int)] H fun r H'=>r=.tuple (List.toArray [.int .u64 0,.int .u64 (n:Int)])/\H=H':=by
 refine in202 rfl ?_
 intro Q hQ
 have k1:binA Tryz.prog .and 65 (.int .u64 1) (.int .u64 4294967295)=some (.int .u64 1):=by kernel_rfl
 have k2:binA Tryz.prog .shr 65 (.int .u64 1) (.int .u64 32)=some (.int .u64 0):=by kernel_rfl
 have k3:=and32 Tryz.prog 65 n hn
 have k4:=shr32 Tryz.prog 65 n hn
 have k5:=mul_one_u Tryz.prog 65 n (by omega)
 have k6:=mul_zero_u Tryz.prog 65 n
 have k7:binA Tryz.prog .add 65 (.int .u64 0) (.int .u64 0)=some (.int .u64 0):=by kernel_rfl
 have k8:binA Tryz.prog .and 65 (.int .u64 0) (.int .u64 4294967295)=some (.int .u64 0):=by kernel_rfl
 have k9:binA Tryz.prog .shr 65 (.int .u64 0) (.int .u64 32)=some (.int .u64 0):=by kernel_rfl
 have k10:binA Tryz.prog .mul 65 (.int .u64 1) (.int .u64 0)=some (.int .u64 0):=by kernel_rfl
 have k11:binA Tryz.prog .mul 65 (.int .u64 0) (.int .u64 0)=some (.int .u64 0):=by kernel_rfl
 simp (maxSteps:=1000000) (disch:=omega) only [cd202,k1,k2,k3,k4,k5,k6,k7,k8,k9,k10,k11,SS,eq_self,reduceIte,reduceCtorEq,Nat.reduceEqDiff,Nat.reduceAdd]
 refine hQ _ _ _ ?_
 simp (maxSteps:=1000000) (disch:=omega) only [SS,eq_self,reduceIte,reduceCtorEq,Nat.reduceEqDiff,Nat.reduceAdd]
theorem Mul_c (n:Nat)(H:AH)(hn:n<4294967296):ACalls Tryz.prog 171 [.int .u64 1,.int .u64 (n:Int)] H fun r H'=>r=.tuple (List.toArray [.int .u64 0,.int .u64 (n:Int)])/\H=H':=by
 refine in171 rfl ?_
 intro Q hQ
 simp (disch:=omega) only [cd171,SS,eq_self,reduceIte,reduceCtorEq,Nat.reduceEqDiff,Nat.reduceAdd]
 refine CallH.by (Mul64_c n H hn) ?_
 rintro _ _ ⟨rfl,rfl⟩
 simp (disch:=omega) only [SS,eq_self,reduceIte,reduceCtorEq,Nat.reduceEqDiff,Nat.reduceAdd]
 refine hQ _ _ _ ?_
 simp (disch:=omega) only [SS,eq_self,reduceIte,reduceCtorEq,Nat.reduceEqDiff,Nat.reduceAdd]
def rpN (N k:Nat):List Int:=List.replicate k (-1) ++ List.replicate (N - k) 0
theorem rpN_step (N k:Nat)(hk:k<=N):(rpN N k).take k ++ (List.replicate k (-1:Int)).take (min k (N - k)) ++ (rpN N k).drop (k+min k (N - k))=rpN N (k+min k (N - k)):=by
 unfold rpN
 rw [List.take_left' (by simp),List.take_replicate,<- List.drop_drop,List.drop_left' (by simp),List.drop_replicate,List.replicate_append_replicate]
 congr 2 <;> omega
theorem rpN_take (N k:Nat):(rpN N k).take k=List.replicate k (-1):=by
 unfold rpN
 rw [List.take_left' (by simp)]
theorem rpN_len (N k:Nat)(h:k<=N):(rpN N k).length=N:=by simp [rpN];omega
theorem Repeat_c (v:Value)(N:Nat)(H:AH)(hr:Row 3 H v [-1])(hN:1<=N/\N<=1000000000):ACalls Tryz.prog 133 [v,.int .i64 (N:Int)] H fun r H'=>Own 3 H H' r (List.replicate N (-1))/\H<+:H':=by
 refine in133 rfl ?_
 intro Q hQ
 have hU:IntKind.u64.wrap (N:Int)=(N:Int):=by rw [IntKind.wrap_u64];omega
 have hU1:IntKind.u64.wrap 1=1:=by decide
 simp (disch:=omega) only [cd133,hr.len Tryz.underlying27,SS,eq_self,reduceIte,reduceCtorEq,Nat.reduceEqDiff,Nat.reduceAdd]
 refine brD.intro (fun g=>absurd g (by omega)) (fun g=>?_)
 have hl1:(([-1]:List Int).length:Int)=1:=rfl
 simp (disch:=omega) only [hr.len Tryz.underlying27,hU,hl1,hU1,SS,eq_self,reduceIte,reduceCtorEq,Nat.reduceEqDiff,Nat.reduceAdd]
 refine CallH.by (Mul_c N H (by omega)) ?_
 rintro _ _ ⟨rfl,rfl⟩
 have d0:¬ ((0:Int) > 0):=by decide
 simp (disch:=omega) only [d0,SS,eq_self,reduceIte,reduceCtorEq,Nat.reduceEqDiff,Nat.reduceAdd]
 refine brD.intro (fun g=>absurd g (by omega)) (fun g2=>?_)
 simp (disch:=omega) only [wrap64,mks27,Int.toNat_natCast,SS,eq_self,reduceIte,reduceCtorEq,Nat.reduceEqDiff,Nat.reduceAdd]
 generalize hz:H ++ [AObj.cells (ints (List.replicate N 0)) 3 false]=Z
 have pZ:H<+:Z:=by rw [<- hz];exact List.prefix_append _ _
 have cZ:Z[H.length]?=some (.cells (ints (List.replicate N 0)) 3 false):=by rw [<- hz];exact at_new ..
 have c1:=cp_ints (P:=Tryz.prog) (t:=27) (k:=0) (n:=N) (c:=N) Tryz.underlying27 cs3 cZ (hr.pre pZ) (by decide) (by omega) (by simp)
 have e1:min ([-1]:List Int).length N=1:=by simp;omega
 have e2:(List.replicate N (0:Int)).take 0 ++ ([-1]:List Int).take 1 ++ (List.replicate N (0:Int)).drop (0+1)=rpN N 1:=by simp [rpN,List.drop_replicate]
 rw [e1,e2] at c1
 simp (disch:=omega) only [c1,SS,eq_self,reduceIte,reduceCtorEq,Nat.reduceEqDiff,Nat.reduceAdd]
 refine LoopH.by (fun m s H'=>∃ k,m+k=N/\1<=k/\s 7=.slice (some ⟨H.length,0,none⟩) N N/\s 8=.int .i64 ((k:Nat):Int)/\H'=Z.set H.length (.cells (ints (rpN N k)) 3 false)) (N - 1) ?_ ?_
 ·exact ⟨1,by omega,by omega,rfl,rfl,rfl⟩
 ·rintro m s H' ⟨k,hm,hk1,h7,h8,rfl⟩
  have cK:(Z.set H.length (.cells (ints (rpN N k)) 3 false))[H.length]?=some (.cells (ints (rpN N k)) 3 false):=at_set cZ
  simp (disch:=omega) only [h7,h8,SS,eq_self,reduceIte,reduceCtorEq,Nat.reduceEqDiff,Nat.reduceAdd]
  refine brD.intro (fun g=>?_) (fun g=>?_)
  ·have hk:k<N:=by omega
   have s1:=sl_own (P:=Tryz.prog) (t:=27) (k:=0) (n:=N) (c:=N) Tryz.underlying27 cs3 cK (bound_some (k:=.i64) (i:=(k:Int)) (by omega) 0) (hi_none N) (show ((k:Int)).toNat<=N by omega) (Nat.le_refl _)
   have s2:=sl_own (P:=Tryz.prog) (t:=27) (k:=0) (n:=N) (c:=N) Tryz.underlying27 cs3 cK lo_none (bound_some (k:=.i64) (i:=(k:Int)) (by omega) N) (Nat.zero_le _) (show ((k:Int)).toNat<=N by omega)
   simp only [Int.toNat_natCast,Nat.zero_add,Nat.sub_zero] at s1 s2
   have hrk:Row 3 (Z.set H.length (.cells (ints (rpN N k)) 3 false)) (.slice (some ⟨H.length,0,none⟩) k k) (List.replicate k (-1)):=by
    refine .inr ⟨H.length,0,ints (rpN N k),false,by simp,cK,by rw [ints_len,rpN_len N k (by omega)];simp;omega,?_⟩
    rw [List.length_replicate,List.drop_zero]
    have:(ints (rpN N k)).take k=ints ((rpN N k).take k):=by simp [ints,List.map_take]
    rw [this,rpN_take]
   have c2:=cp_ints (P:=Tryz.prog) (t:=27) (k:=k) (n:=N - k) (c:=N - k) Tryz.underlying27 cs3 cK hrk (by simp;omega) (by omega) (by rw [rpN_len N k (by omega)];omega)
   rw [List.length_replicate,rpN_step N k (by omega),List.set_set] at c2
   simp (disch:=omega) only [h7,h8,s1,s2,c2,wrap64,SS,eq_self,reduceIte,reduceCtorEq,Nat.reduceEqDiff,Nat.reduceAdd]
   refine ⟨m - min k (N - k),by omega,k+min k (N - k),?_⟩
   (repeat' apply And.intro) <;> first | (simp only [Value.int.injEq,true_and];omega) | omega | rfl | assumption | (simp;done) | (simp;omega)
  ·simp (disch:=omega) only [h7,SS,eq_self,reduceIte,reduceCtorEq,Nat.reduceEqDiff,Nat.reduceAdd]
   refine hQ _ _ _ ?_
   simp (disch:=omega) only [h7,SS,eq_self,reduceIte,reduceCtorEq,Nat.reduceEqDiff,Nat.reduceAdd]
   have:k=N:=by omega
   subst this
   have e3:rpN k k=List.replicate k (-1):=by simp [rpN]
   rw [e3]
   have hZ:=at_set (d:=.cells (ints (List.replicate k (-1))) 3 false) cZ
   exact ⟨.inr ⟨H.length,by rw [List.length_replicate],Nat.le_refl _,hZ⟩,pre_set pZ (Nat.le_refl _) _⟩
theorem rpN_set (N j:Nat)(hj:j<N):(rpN N j).set j (-1)=rpN N (j+1):=by
 unfold rpN
 rw [List.set_append_right _ _ (by simp)]
 obtain ⟨n,hn⟩:∃ n,N - j=n+1:=⟨N - j - 1,by omega⟩
 rw [hn,List.length_replicate,Nat.sub_self,List.replicate_succ,List.set_cons_zero,List.replicate_succ',List.append_assoc]
 have:N - (j+1)=n:=by omega
 rw [this];rfl
def cd67:Cd:=(.seq (.reg [⟨⟨some 4,.assign (.const (.slice none 0 0)),none⟩,[]⟩]) (.seq (.reg [⟨⟨some 10,.buildSlice 27 1 #[(0,(.const (.int .i64 (-1))))],none⟩,[]⟩,⟨⟨some 11,.move (.tmp 0),none⟩,[]⟩,⟨⟨some 12,.call ⟨(.builtin .len),#[.tmp 11],#[32]⟩,none⟩,[]⟩,⟨⟨some 13,.call ⟨(.value (.func 133)),#[.tmp 10,.tmp 12],#[27,3]⟩,none⟩,[]⟩,⟨⟨some 5,.assign (.tmp 13),none⟩,[]⟩]) (.seq (.reg [⟨⟨some 14,.move (.tmp 5),none⟩,[]⟩,⟨⟨some 15,.move (.tmp 1),none⟩,[]⟩,⟨⟨some 16,.indexAddr 27 (.tmp 14) (.tmp 15),none⟩,[]⟩,⟨⟨none,.store 3 (.tmp 16) (.const (.int .i64 0)),none⟩,[]⟩]) (.seq (.reg [⟨⟨some 17,.move (.tmp 1),none⟩,[]⟩,⟨⟨some 18,.buildSlice 27 1 #[(0,.tmp 17)],none⟩,[]⟩,⟨⟨some 6,.assign (.tmp 18),none⟩,[]⟩]) (.seq (.block 0 (.loop (.seq (.seq (.reg [⟨⟨some 19,.move (.tmp 6),none⟩,[]⟩,⟨⟨some 20,.call ⟨(.builtin .len),#[.tmp 19],#[27]⟩,none⟩,[]⟩,⟨⟨some 21,.binOp .gtr 3 (.tmp 20) (.const (.int .i64 0)) 3,none⟩,[]⟩]) (.cond (.tmp 21) .skip (.exit 0))) (.block 1 (.seq (.reg [⟨⟨some 22,.move (.tmp 6),none⟩,[]⟩,
 ⟨⟨some 23,.indexAddr 27 (.tmp 22) (.const (.int .i64 0)),none⟩,[]⟩,⟨⟨some 24,.load 3 (.tmp 23),none⟩,[]⟩,⟨⟨some 7,.assign (.tmp 24),none⟩,[]⟩]) (.seq (.reg [⟨⟨some 25,.move (.tmp 6),none⟩,[]⟩,⟨⟨some 26,.slice 27 (.tmp 25) (some (.const (.int .i64 1))) none none,none⟩,[]⟩,⟨⟨some 6,.assign (.tmp 26),none⟩,[]⟩]) (.seq (.reg [⟨⟨some 27,.move (.tmp 0),none⟩,[]⟩,⟨⟨some 28,.move (.tmp 7),none⟩,[]⟩,⟨⟨some 29,.indexAddr 32 (.tmp 27) (.tmp 28),none⟩,[]⟩,⟨⟨some 30,.load 27 (.tmp 29),none⟩,[]⟩,⟨⟨some 31,.call ⟨(.builtin .len),#[.tmp 30],#[27]⟩,none⟩,[]⟩,⟨⟨some 32,.move (.const (.int .i64 0)),none⟩,[]⟩]) (.block 2 (.loop (.seq (.reg [⟨⟨some 33,.binOp .lss 3 (.tmp 32) (.tmp 31) 3,none⟩,[]⟩]) (.seq (.cond (.tmp 33) .skip (.exit 2)) (.seq (.block 3 (.seq (.reg [⟨⟨some 34,.indexAddr 27 (.tmp 30) (.tmp 32),none⟩,[]⟩,⟨⟨some 35,.load 3 (.tmp 34),none⟩,[]⟩,⟨⟨some 9,.assign (.tmp 35),none⟩,[]⟩]) (.seq (.reg [⟨⟨some 36,.move (.tmp 5),none⟩,[]⟩,
 ⟨⟨some 37,.move (.tmp 9),none⟩,[]⟩,⟨⟨some 38,.indexAddr 27 (.tmp 36) (.tmp 37),none⟩,[]⟩,⟨⟨some 39,.load 3 (.tmp 38),none⟩,[]⟩,⟨⟨some 40,.binOp .lss 3 (.tmp 39) (.const (.int .i64 0)) 3,none⟩,[]⟩]) (.cond (.tmp 40) (.seq (.reg [⟨⟨some 41,.move (.tmp 5),none⟩,[]⟩,⟨⟨some 42,.move (.tmp 9),none⟩,[]⟩,⟨⟨some 43,.move (.tmp 5),none⟩,[]⟩,⟨⟨some 44,.move (.tmp 7),none⟩,[]⟩,⟨⟨some 45,.indexAddr 27 (.tmp 43) (.tmp 44),none⟩,[]⟩,⟨⟨some 46,.load 3 (.tmp 45),none⟩,[]⟩,⟨⟨some 47,.binOp .add 3 (.tmp 46) (.const (.int .i64 1)) 3,none⟩,[]⟩,⟨⟨some 48,.indexAddr 27 (.tmp 41) (.tmp 42),none⟩,[]⟩,⟨⟨none,.store 3 (.tmp 48) (.tmp 47),none⟩,[]⟩]) (.reg [⟨⟨some 49,.move (.tmp 6),none⟩,[]⟩,
 ⟨⟨some 50,.move (.tmp 9),none⟩,[]⟩,
  ⟨⟨some 51,.buildSlice 27 1 #[(0,.tmp 50)],none⟩,[]⟩,
  ⟨⟨some 52,.call ⟨(.builtin .append),#[.tmp 49,.tmp 51],#[27,27]⟩,none⟩,[]⟩,
  ⟨⟨some 6,.assign (.tmp 52),none⟩,[]⟩])) .skip)))) (.reg [⟨⟨some 53,.binOp .add 3 (.tmp 32) (.const (.int .i64 1)) 3,none⟩,[]⟩,
  ⟨⟨some 32,.move (.tmp 53),none⟩,[]⟩]))))))))))))) (.seq (.reg [⟨⟨some 54,.move (.tmp 5),none⟩,[]⟩,
  ⟨⟨some 4,.assign (.tmp 54),none⟩,[]⟩]) .ret))))))
theorem in67:InT Tryz.prog 67 2 [.tmp 4] cd67:=InT.mk (by kernel_rfl) [] Tryz.func67 rfl (by kernel_rfl) (by kernel_rfl) (of_decide_eq_true (by kernel_rfl)) (by kernel_rfl)
def cd148:Cd:=(.seq (.reg [⟨⟨some 4,.assign (.const (.slice none 0 0)),none⟩,[]⟩]) (.seq (.reg [⟨⟨some 11,.move (.tmp 0),none⟩,[]⟩,⟨⟨some 12,.call ⟨(.builtin .len),#[.tmp 11],#[32]⟩,none⟩,[]⟩,⟨⟨some 13,.makeSlice 27 (.tmp 12) (.tmp 12),none⟩,[]⟩,⟨⟨some 5,.assign (.tmp 13),none⟩,[]⟩]) (.seq (.seq (.reg [⟨⟨some 6,.assign (.const (.int .i64 0)),none⟩,[]⟩]) (.block 0 (.loop (.seq (.seq (.reg [⟨⟨some 14,.move (.tmp 6),none⟩,[]⟩,⟨⟨some 15,.move (.tmp 5),none⟩,[]⟩,⟨⟨some 16,.call ⟨(.builtin .len),#[.tmp 15],#[27]⟩,none⟩,[]⟩,⟨⟨some 17,.binOp .lss 3 (.tmp 14) (.tmp 16) 3,none⟩,[]⟩]) (.cond (.tmp 17) .skip (.exit 0))) (.seq (.block 1 (.reg [⟨⟨some 20,.move (.tmp 5),none⟩,[]⟩,⟨⟨some 21,.move (.tmp 6),none⟩,[]⟩,⟨⟨some 22,.indexAddr 27 (.tmp 20) (.tmp 21),none⟩,[]⟩,⟨⟨none,.store 3 (.tmp 22) (.const (.int .i64 (-1))),none⟩,[]⟩])) (.reg [⟨⟨some 18,.move (.tmp 6),none⟩,[]⟩,⟨⟨some 19,.binOp .add 3 (.tmp 18) (.const (.int .i64 1)) 3,none⟩,[]⟩,⟨⟨some 6,.assign (.tmp 19),none⟩,[]⟩])))))) (.seq (.reg [⟨⟨some 23,.move (.tmp 1),none⟩,[]⟩,
 ⟨⟨some 24,.buildSlice 27 1 #[(0,.tmp 23)],none⟩,[]⟩,⟨⟨some 7,.assign (.tmp 24),none⟩,[]⟩]) (.seq (.reg [⟨⟨some 25,.move (.tmp 5),none⟩,[]⟩,⟨⟨some 26,.move (.tmp 1),none⟩,[]⟩,⟨⟨some 27,.indexAddr 27 (.tmp 25) (.tmp 26),none⟩,[]⟩,⟨⟨none,.store 3 (.tmp 27) (.const (.int .i64 0)),none⟩,[]⟩]) (.seq (.seq (.reg [⟨⟨some 8,.assign (.const (.int .i64 0)),none⟩,[]⟩]) (.block 2 (.loop (.seq (.seq (.reg [⟨⟨some 28,.move (.tmp 8),none⟩,[]⟩,⟨⟨some 29,.move (.tmp 7),none⟩,[]⟩,⟨⟨some 30,.call ⟨(.builtin .len),#[.tmp 29],#[27]⟩,none⟩,[]⟩,⟨⟨some 31,.binOp .lss 3 (.tmp 28) (.tmp 30) 3,none⟩,[]⟩]) (.cond (.tmp 31) .skip (.exit 2))) (.seq (.block 3 (.seq (.reg [⟨⟨some 34,.move (.tmp 0),none⟩,[]⟩,⟨⟨some 35,.move (.tmp 7),none⟩,[]⟩,⟨⟨some 36,.move (.tmp 8),none⟩,[]⟩,⟨⟨some 37,.indexAddr 27 (.tmp 35) (.tmp 36),none⟩,[]⟩,⟨⟨some 38,.load 3 (.tmp 37),none⟩,[]⟩,
 ⟨⟨some 39,.indexAddr 32 (.tmp 34) (.tmp 38),none⟩,[]⟩,⟨⟨some 40,.load 27 (.tmp 39),none⟩,[]⟩,⟨⟨some 9,.assign (.tmp 40),none⟩,[]⟩]) (.seq (.reg [⟨⟨some 10,.assign (.const (.int .i64 0)),none⟩,[]⟩]) (.block 4 (.loop (.seq (.seq (.reg [⟨⟨some 41,.move (.tmp 10),none⟩,[]⟩,⟨⟨some 42,.move (.tmp 9),none⟩,[]⟩,⟨⟨some 43,.call ⟨(.builtin .len),#[.tmp 42],#[27]⟩,none⟩,[]⟩,⟨⟨some 44,.binOp .lss 3 (.tmp 41) (.tmp 43) 3,none⟩,[]⟩]) (.cond (.tmp 44) .skip (.exit 4))) (.seq (.block 5 (.seq (.reg [⟨⟨some 47,.move (.tmp 5),none⟩,[]⟩,⟨⟨some 48,.move (.tmp 9),none⟩,[]⟩,⟨⟨some 49,.move (.tmp 10),none⟩,[]⟩,⟨⟨some 50,.indexAddr 27 (.tmp 48) (.tmp 49),none⟩,[]⟩,⟨⟨some 51,.load 3 (.tmp 50),none⟩,[]⟩,⟨⟨some 52,.indexAddr 27 (.tmp 47) (.tmp 51),none⟩,[]⟩,⟨⟨some 53,.load 3 (.tmp 52),none⟩,[]⟩,
 ⟨⟨some 54,.binOp .lss 3 (.tmp 53) (.const (.int .i64 0)) 3,none⟩,[]⟩]) (.cond (.tmp 54) (.seq (.reg [⟨⟨some 55,.move (.tmp 5),none⟩,[]⟩,⟨⟨some 56,.move (.tmp 9),none⟩,[]⟩,⟨⟨some 57,.move (.tmp 10),none⟩,[]⟩,⟨⟨some 58,.indexAddr 27 (.tmp 56) (.tmp 57),none⟩,[]⟩,⟨⟨some 59,.load 3 (.tmp 58),none⟩,[]⟩,⟨⟨some 60,.move (.tmp 5),none⟩,[]⟩,⟨⟨some 61,.move (.tmp 7),none⟩,[]⟩,⟨⟨some 62,.move (.tmp 8),none⟩,[]⟩,⟨⟨some 63,.indexAddr 27 (.tmp 61) (.tmp 62),none⟩,[]⟩,⟨⟨some 64,.load 3 (.tmp 63),none⟩,[]⟩,⟨⟨some 65,.indexAddr 27 (.tmp 60) (.tmp 64),none⟩,[]⟩,⟨⟨some 66,.load 3 (.tmp 65),none⟩,[]⟩,
 ⟨⟨some 67,.binOp .add 3 (.tmp 66) (.const (.int .i64 1)) 3,none⟩,[]⟩,⟨⟨some 68,.indexAddr 27 (.tmp 55) (.tmp 59),none⟩,[]⟩,⟨⟨none,.store 3 (.tmp 68) (.tmp 67),none⟩,[]⟩]) (.reg [⟨⟨some 69,.move (.tmp 7),none⟩,[]⟩,⟨⟨some 70,.move (.tmp 9),none⟩,[]⟩,⟨⟨some 71,.move (.tmp 10),none⟩,[]⟩,⟨⟨some 72,.indexAddr 27 (.tmp 70) (.tmp 71),none⟩,[]⟩,⟨⟨some 73,.load 3 (.tmp 72),none⟩,[]⟩,⟨⟨some 74,.buildSlice 27 1 #[(0,.tmp 73)],none⟩,[]⟩,⟨⟨some 75,.call ⟨(.builtin .append),#[.tmp 69,.tmp 74],#[27,27]⟩,none⟩,[]⟩,⟨⟨some 7,.assign (.tmp 75),none⟩,[]⟩])) .skip))) (.reg [⟨⟨some 45,.move (.tmp 10),none⟩,[]⟩,⟨⟨some 46,.binOp .add 3 (.tmp 45) (.const (.int .i64 1)) 3,none⟩,[]⟩,⟨⟨some 10,.assign (.tmp 46),none⟩,[]⟩])))))))) (.reg [⟨⟨some 32,.move (.tmp 8),none⟩,[]⟩,
 ⟨⟨some 33,.binOp .add 3 (.tmp 32) (.const (.int .i64 1)) 3,none⟩,[]⟩,
  ⟨⟨some 8,.assign (.tmp 33),none⟩,[]⟩])))))) (.seq (.reg [⟨⟨some 76,.move (.tmp 5),none⟩,[]⟩,
  ⟨⟨some 4,.assign (.tmp 76),none⟩,[]⟩]) .ret)))))))
theorem in148:InT Tryz.prog 148 2 [.tmp 4] cd148:=InT.mk (by kernel_rfl) [(16,[(0,false),(1,false),(2,false),(3,false),(4,false),(5,false),(6,false),(7,false),(8,false),(9,false),(10,false),(11,false),(12,false),(13,false),(14,true)])] Tryz.func148 rfl (by kernel_rfl) (by kernel_rfl) (of_decide_eq_true (by kernel_rfl)) (by kernel_rfl)
end Go.Proofs.YtlcipphiflcaiaaGreat.Ai
namespace Go.Proofs.YtlcipphiflcaiaaGreat.Ai
open Go Go.RowKit
def QH (H0 H:AH)(oo:Nat)(out:List Int)(oq kq nq:Nat)(q:List Int):Prop :=
 (∃ zs,H[oq]?=some (.cells (ints zs) 3 false)/\(zs.drop kq).take nq=q/\kq+nq<=zs.length)/\H[oo]?=some (.cells (ints out) 3 false)/\H0.length<=oo/\H0.length<=oq/\oq ≠ oo/\H0<+:H
theorem app_q {P:Program}{t e:TypeId}(hu:P.underlying t=some (.slice e))(hc:P.cellsOf e=1)(hby:P.bytesOf e<=64)(hz:zeroOk P e=true){H:AH}{o k n c:Nat}{zs:List Int}{x:Int}(ho:H[o]?=some (.cells (ints zs) e false))(hn:k+n<=zs.length)(hb:n<=1099511627775) :
  appendA P t t (.slice (some ⟨o,k,none⟩) n c) (.slice (some ⟨H.length,0,none⟩) 1 1) (H ++ [.cells [.int .i64 x] e false])=some (.slice (some ⟨H.length+1,0,none⟩) (n+1) (n+1),H.set o .dead ++ [.cells [.int .i64 x] e false,.cells (ints ((zs.drop k).take n ++ [x])) e false]):=by
 have hlt:o<H.length:=at_lt ho
 have hb2:(n+1) * P.bytesOf e<=140737488355328:=by
  refine Nat.le_trans (Nat.mul_le_mul_left _ hby) ?_
  omega
 have ho2:(H ++ [AObj.cells [.int .i64 x] e false])[o]?=some (.cells (ints zs) e false):=at_app ho _
 have hsc:sliceCells P e (.slice (some ⟨H.length,0,none⟩) 1 1) (H ++ [.cells [.int .i64 x] e false])=some (1,[.int .i64 x]):=by
  simp only [sliceCells,at_new,hc];simp
 simp only [appendA,hu,hc,hsc,ho2,hz]
 rw [if_pos (by simp),if_neg (by simp),if_pos ⟨trivial,by rw [ints_len];omega,hb2,by omega,trivial⟩]
 have:List.take (n * 1) (List.drop k (ints zs)) ++ [Value.int .i64 x]=ints ((zs.drop k).take n ++ [x]):=by
  simp [ints,List.map_take,List.map_drop]
 rw [this,List.length_append,List.set_append_left _ _ hlt]
 simp
theorem QH.push {H0 H:AH}{oo:Nat}{out:List Int}{oq kq nq:Nat}{q:List Int}(h:QH H0 H oo out oq kq nq q)(y:Nat)(d x:Int)(hb:nq<=1099511627775) :
  ∃ H2,appendA Tryz.prog 27 27 (.slice (some ⟨oq,kq,none⟩) nq nq) (.slice (some ⟨(H.set oo (.cells (ints (out.set y d)) 3 false)).length,0,none⟩) 1 1) (H.set oo (.cells (ints (out.set y d)) 3 false) ++ [.cells [.int .i64 x] 3 false])=some (.slice (some ⟨(H.set oo (.cells (ints (out.set y d)) 3 false)).length+1,0,none⟩) (nq+1) (nq+1),H2) /\
   QH H0 H2 oo (out.set y d) ((H.set oo (.cells (ints (out.set y d)) 3 false)).length+1) 0 (nq+1) (q ++ [x]):=by
 obtain ⟨⟨zs,h1,h2,h3⟩,h4,h5,h6,h7,h8⟩:=h
 have hlt:=at_lt h4
 generalize hH1:H.set oo (.cells (ints (out.set y d)) 3 false)=H1
 have l1:H1.length=H.length:=by rw [<- hH1];simp
 have k1:H1[oq]?=some (.cells (ints zs) 3 false):=by rw [<- hH1,List.getElem?_set_ne (fun e=>h7 e.symm)];exact h1
 have k4:H1[oo]?=some (.cells (ints (out.set y d)) 3 false):=by rw [<- hH1];exact at_set h4
 have hp1:H0<+:H1:=by rw [<- hH1];exact pre_set h8 h5 _
 refine ⟨_,app_q Tryz.underlying27 cs3 (by rw [by3];decide) zk3 k1 h3 hb,⟨(zs.drop kq).take nq ++ [x],?_,?_,?_⟩,?_,h5,?_,?_,?_⟩
 ·rw [List.getElem?_append_right (by simp)]
  simp
 ·rw [List.drop_zero,h2,List.take_of_length_le]
  rw [<- h2];simp;omega
 ·simp;omega
 ·rw [List.getElem?_append_left (by simp;omega),List.getElem?_set_ne h7]
  exact k4
 ·have:=h8.length_le;omega
 ·omega
 ·exact pre_app (pre_set hp1 h6 _) _
theorem QH.tail {H0 H:AH}{oo:Nat}{out:List Int}{oq kq nq:Nat}{x:Int}{q:List Int}(h:QH H0 H oo out oq kq nq (x :: q)):QH H0 H oo out oq (kq+1) (nq - 1) q/\cellA H oq kq=some (.int .i64 x)/\0<nq:=by
 obtain ⟨⟨zs,h1,h2,h3⟩,h4⟩:=h
 have hl:=congrArg List.length h2
 simp only [List.length_take,List.length_drop,List.length_cons] at hl
 have hk:kq<zs.length:=by omega
 obtain ⟨n,rfl⟩:∃ n,nq=n+1:=⟨nq - 1,by omega⟩
 rw [List.drop_eq_getElem_cons hk,List.take_succ_cons] at h2
 injection h2 with e1 e2
 refine ⟨⟨⟨zs,h1,by simpa using e2,by omega⟩,h4⟩,?_,by omega⟩
 rw [cell_of h1,ints_at zs hk]
 congr 2
 simp [hk,e1]
theorem bfsIn_drop (d:Int)(l:List Int)(j:Nat)(hj:j<l.length)(st:List Int × List Int):bfsIn d (l.drop j) st=if st.1.getD (l.getD j 0).toNat 0<0 then bfsIn d (l.drop (j+1)) (st.1.set (l.getD j 0).toNat d,st.2 ++ [l.getD j 0]) else bfsIn d (l.drop (j+1)) st:=by
 have e:l.getD j 0=l[j]:=by simp [hj]
 rw [List.drop_eq_getElem_cons hj,e]
 rfl
theorem spread_c (v:Value)(L:List (List Int))(i:Nat)(H:AH){b:Nat}(hr:RowLB b 27 3 H v L)(hL:LOk L.length L)(hN:L.length<=1000000)(hi:i<L.length)(hls:∀ x,(L.getD x []).length<=1000000000) :
  ACalls Tryz.prog 67 [v,.int .i64 (i:Int)] H fun r H'=>Own 3 H H' r (bfs L i)/\H<+:H':=by
 refine in67 rfl ?_
 intro Q hQ
 obtain ⟨us,hus,hvb,hul,hin⟩:=hr
 simp (disch:=omega) only [cd67,hus.len Tryz.underlying32,SS,eq_self,reduceIte,reduceCtorEq,Nat.reduceEqDiff,Nat.reduceAdd]
 generalize hA:H ++ [AObj.cells [.int .i64 (-1)] 3 false]=A
 have pA:H<+:A:=by rw [<- hA];exact List.prefix_append _ _
 have rA:Row 3 A (.slice (some ⟨H.length,0,none⟩) 1 1) [-1]:=.inr ⟨H.length,0,ints [-1],false,rfl,by rw [<- hA];exact at_new ..,by decide,rfl⟩
 rw [hul]
 refine CallH.by (Repeat_c _ L.length A rA (by omega)) ?_
 rintro u B ⟨hu,pB⟩
 rcases hu with ⟨_,h0⟩ | ⟨oo,hu,hol,hoc⟩
 ·have:L.length=0:=by simpa using congrArg List.length h0
  omega
 rw [List.length_replicate] at hu
 subst hu
 have hlr:i<(List.replicate L.length (-1:Int)).length:=by simpa using hi
 simp (disch:=omega) only [Int.toNat_natCast,Nat.zero_add,st_ints cs3 hoc hlr,SS,eq_self,reduceIte,reduceCtorEq,Nat.reduceEqDiff,Nat.reduceAdd]
 have hb0:(List.replicate L.length (-1:Int)).set i 0=bfs0 L.length i:=rfl
 rw [hb0]
 generalize hC:B.set oo (.cells (ints (bfs0 L.length i)) 3 false)=C
 have c0:C[oo]?=some (.cells (ints (bfs0 L.length i)) 3 false):=by rw [<- hC];exact at_set hoc
 have lAH:=pA.length_le
 have pC:H<+:C:=by rw [<- hC];exact pre_set (pA.trans pB) (by omega) _
 have hlt:=at_lt c0
 have q0:QH H (C ++ [AObj.cells [.int .i64 (i:Int)] 3 false]) oo (bfs0 L.length i) C.length 0 1 [(i:Int)] :=
  ⟨⟨[(i:Int)],at_new ..,rfl,by simp⟩,at_app c0 _,by omega,pC.length_le,by omega,pre_app pC _⟩
 refine LoopH.by (fun m s H'=>∃ st k oq kq nq,m+k=L.length/\s 0=v/\s 5=.slice (some ⟨oo,0,none⟩) L.length L.length/\s 6=.slice (some ⟨oq,kq,none⟩) nq nq/\nq+k=st.2.length/\QH H H' oo st.1 oq kq nq (st.2.drop k)/\BI L.length st/\bfsF L (m+1) st k=bfs L i) L.length ?_ ?_
 ·exact ⟨(bfs0 L.length i,[(i:Int)]),0,C.length,0,1,by omega,rfl,rfl,rfl,rfl,q0,bfs0_BI _ i hi,rfl⟩
 ·rintro m s H' ⟨st,k,oq,kq,nq,hm,h0,h5,h6,hnq,hq,hb,hF⟩
  have hle:=hb.len_le
  simp (disch:=omega) only [h0,h5,h6,SS,eq_self,reduceIte,reduceCtorEq,Nat.reduceEqDiff,Nat.reduceAdd]
  refine brD.intro (fun g=>?_) (fun g=>?_)
  ·have hk:k<st.2.length:=by omega
   rw [bfsF_step L m st k hk] at hF
   have hqm:st.2.getD k 0 ∈ st.2:=by simp [hk]
   obtain ⟨hxr,hx0⟩:=hb.q _ hqm
   have hxl:=hb.lo (st.2.getD k 0).toNat (by omega)
   rw [List.drop_eq_getElem_cons hk] at hq
   have hge:st.2[k]=st.2.getD k 0:=by simp [hk]
   rw [hge] at hq
   obtain ⟨x,hx⟩:∃ x:Nat,st.2.getD k 0=x:=⟨(st.2.getD k 0).toNat,by omega⟩
   rw [hx] at hq hF hxr hx0 hxl
   rw [Int.toNat_natCast] at hF hx0 hxl
   obtain ⟨hq2,hcell,hnq0⟩:=hq.tail
   have hqo:∃ zs ro,H'[oq]?=some (.cells (ints zs) 3 ro):=by obtain ⟨⟨zs,g1,_⟩,_⟩:=hq;exact ⟨zs,false,g1⟩
   obtain ⟨zs,ro,hqo⟩:=hqo
   have hsl:=sl_own (P:=Tryz.prog) (t:=27) (k:=kq) (n:=nq) (c:=nq) Tryz.underlying27 cs3 hqo (bound_some (k:=.i64) (i:=1) (by decide) 0) (hi_none nq) (show (1:Int).toNat<=nq from hnq0) (Nat.le_refl _)
   have hpp:H<+:H':=hq.2.2.2.2.2
   have hus':=hus.pre hpp
   have hxu:x<us.length:=by omega
   have hinH:=(hin x (by omega)).1
   have hin':=hinH.pre hpp
   have hlb:=hls x
   have hLx:=hL x
   have hz0:(0:Int).toNat=0:=rfl
   simp (disch:=omega) only [h0,h5,h6,hz0,hcell,hsl,hus'.ix Tryz.underlying32 cs27,hus'.cell,Int.toNat_natCast,SS,eq_self,reduceIte,reduceCtorEq,Nat.reduceEqDiff,Nat.reduceAdd]
   generalize hw:us.getD x undef=w at *
   generalize hl:L.getD x []=l at *
   simp (disch:=omega) only [hin'.len Tryz.underlying27,SS,eq_self,reduceIte,reduceCtorEq,Nat.reduceEqDiff,Nat.reduceAdd]
   generalize hd:st.1.getD x 0+1=d at *
   have hone:(1:Int).toNat=1:=rfl
   simp only [hone]
   refine LoopH.by (fun m' s' H''=>∃ j st' oq' kq' nq',m'+j=l.length/\s' 0=v/\s' 5=.slice (some ⟨oo,0,none⟩) L.length L.length/\s' 6=.slice (some ⟨oq',kq',none⟩) nq' nq'/\s' 7=.int .i64 (x:Int)/\s' 30=w/\s' 31=.int .i64 (l.length:Int)/\s' 32=.int .i64 ((j:Nat):Int)/\nq'+(k+1)=st'.2.length/\QH H H'' oo st'.1 oq' kq' nq' (st'.2.drop (k+1))/\BI L.length st'/\st.2<+:st'.2/\st'.1.getD x 0+1=d/\bfsIn d (l.drop j) st'=bfsIn d l st) l.length ?_ ?_
   ·have hd1:st.2.drop (k+1)=st.2.drop (k+1):=rfl
    refine ⟨0,st,oq,kq+1,nq - 1,by simp,?_⟩
    simp only [SS,eq_self,reduceIte,reduceCtorEq,Nat.reduceEqDiff,Nat.reduceAdd,h0,h5,h6]
    have hd2:bfsIn d (l.drop 0) st=bfsIn d l st:=by rw [List.drop_zero]
    have hpr:=List.prefix_refl st.2
    (repeat' first | exact hq2 | exact hb | exact hd | exact hd2 | exact hpr | apply And.intro) <;> first | (simp only [Value.int.injEq,true_and];omega) | omega | rfl | assumption | (simp;done) | (simp;omega)
   ·rintro m' s' H'' ⟨j,st',oq',kq',nq',hm',g0,g5,g6,g7,g30,g31,g32,hnq',hq',hb',hpre,hd',hB⟩
    have hpp':H<+:H'':=hq'.2.2.2.2.2
    have hw':=hinH.pre hpp'
    have hle':=hb'.len_le
    simp (disch:=omega) only [g0,g5,g6,g7,g30,g31,g32,SS,eq_self,reduceIte,reduceCtorEq,Nat.reduceEqDiff,Nat.reduceAdd]
    refine brD.intro (fun q=>?_) (fun q=>?_)
    ·have hj:j<l.length:=by omega
     rw [bfsIn_drop d l j hj] at hB
     have hym:l.getD j 0 ∈ l:=by simp [hj]
     obtain ⟨y,hy⟩:∃ y:Nat,l.getD j 0=y:=⟨(l.getD j 0).toNat,by have:=hLx _ hym;omega⟩
     have hyr:=hLx _ hym
     rw [hy] at hB hyr
     rw [Int.toNat_natCast] at hB
     have hoc':=hq'.2.1
     have hlen':=hb'.len
     have hyl:y<st'.1.length:=by omega
     have hxl':x<st'.1.length:=by omega
     have hcw:=hw'.cell hj
     rw [hy] at hcw
     simp (disch:=omega) only [g0,g5,g6,g7,g30,g31,g32,hw'.ix Tryz.underlying27 cs3,hcw,Int.toNat_natCast,Nat.zero_add,cell_ints hoc' hyl,SS,eq_self,reduceIte,reduceCtorEq,Nat.reduceEqDiff,Nat.reduceAdd]
     refine brD.intro (fun e=>?_) (fun e=>?_)
     ·rw [if_pos e] at hB
      have hd0:0<=d:=by omega
      have hdl:d<=st'.2.length:=by
       have:=hb'.lo x (by omega)
       omega
      have hb2:=hb'.put (j:=(y:Int)) (d:=d) hyr (by rw [Int.toNat_natCast];exact e) ⟨hd0,hdl⟩
      rw [Int.toNat_natCast] at hb2
      obtain ⟨H2,k1,k2⟩:=hq'.push y d (y:Int) (by omega)
      have hk1:k+1<=st'.2.length:=by have:=hpre.length_le;omega
      rw [<- List.drop_append_of_le_length hk1] at k2
      simp (disch:=omega) only [g0,g5,g6,g7,g30,g31,g32,hw'.ix Tryz.underlying27 cs3,hcw,Int.toNat_natCast,Nat.zero_add,cell_ints hoc' hxl',hd',st_ints cs3 hoc' hyl,k1,wrap64,SS,eq_self,reduceIte,reduceCtorEq,Nat.reduceEqDiff,Nat.reduceAdd]
      have f1:st.2<+:st'.2 ++ [(y:Int)]:=hpre.trans (List.prefix_append _ _)
      have f2:(st'.1.set y d).getD x 0+1=d:=by
       rw [getD_setB _ _ _ _ hxl']
       split
       ·rename_i e2
        subst e2
        have:=hb'.lo y (by omega)
        omega
       ·exact hd'
      refine ⟨m' - 1,by omega,j+1,(st'.1.set y d,st'.2 ++ [(y:Int)]),(H''.set oo (AObj.cells (ints (st'.1.set y d)) 3 false)).length+1,0,nq'+1,?_⟩
      have f3:(st'.2 ++ [(y:Int)]).length=st'.2.length+1:=by simp
      (repeat' first | exact k2 | exact hb2 | exact f1 | exact f2 | exact hB | apply And.intro) <;> first | (simp only [Value.int.injEq,true_and];omega) | omega | rfl | assumption | (simp;done) | (simp;omega)
     ·rw [if_neg e] at hB
      simp (disch:=omega) only [g0,g5,g6,g7,g30,g31,g32,wrap64,SS,eq_self,reduceIte,reduceCtorEq,Nat.reduceEqDiff,Nat.reduceAdd]
      refine ⟨m' - 1,by omega,j+1,st',oq',kq',nq',?_⟩
      (repeat' first | exact hq' | exact hb' | exact hpre | exact hd' | exact hB | apply And.intro) <;> first | (simp only [Value.int.injEq,true_and];omega) | omega | rfl | assumption | (simp;done) | (simp;omega)
    ·simp (disch:=omega) only [g0,g5,g6,g7,g30,g31,g32,SS,eq_self,reduceIte,reduceCtorEq,Nat.reduceEqDiff,Nat.reduceAdd]
     rw [List.drop_of_length_le (by omega)] at hB
     have hB':st'=bfsIn d l st:=hB
     rw [<- hB'] at hF
     have hm1:m - 1+1=m:=by omega
     rw [<- hm1] at hF
     refine ⟨m - 1,by omega,st',k+1,oq',kq',nq',?_⟩
     (repeat' first | exact hq' | exact hb' | exact hF | apply And.intro) <;> first | (simp only [Value.int.injEq,true_and];omega) | omega | rfl | assumption | (simp;done) | (simp;omega)
  ·simp (disch:=omega) only [h5,SS,eq_self,reduceIte,reduceCtorEq,Nat.reduceEqDiff,Nat.reduceAdd]
   refine hQ _ _ _ ?_
   simp (disch:=omega) only [h5,SS,eq_self,reduceIte,reduceCtorEq,Nat.reduceEqDiff,Nat.reduceAdd]
   rw [bfsF_done L _ st k (by omega)] at hF
   rw [hF] at hq
   have hbl:(bfs L i).length=L.length:=by rw [<- hF];exact hb.len
   exact ⟨.inr ⟨oo,by rw [hbl],hq.2.2.1,hq.2.1⟩,hq.2.2.2.2.2⟩
theorem QH.at {H0 H:AH}{oo:Nat}{out:List Int}{oq kq nq:Nat}{q:List Int}(h:QH H0 H oo out oq kq nq q){j:Nat}(hj:j<q.length):cellA H oq (kq+j)=some (.int .i64 (q.getD j 0)):=by
 obtain ⟨⟨zs,h1,h2,h3⟩,_⟩:=h
 have hl:=congrArg List.length h2
 simp only [List.length_take,List.length_drop] at hl
 have hk:kq+j<zs.length:=by omega
 rw [cell_of h1,ints_at zs hk]
 congr 2
 rw [<- h2,List.getD_eq_getElem?_getD,List.getD_eq_getElem?_getD,List.getElem?_take,if_pos (by omega),List.getElem?_drop]
theorem l2Spread_c (v:Value)(L:List (List Int))(i:Nat)(H:AH){b:Nat}(hr:RowLB b 27 3 H v L)(hL:LOk L.length L)(hN:L.length<=1000000)(hi:i<L.length)(hls:∀ x,(L.getD x []).length<=1000000000) :
  ACalls Tryz.prog 148 [v,.int .i64 (i:Int)] H fun r H'=>Own 3 H H' r (bfs L i)/\H<+:H':=by
 refine in148 rfl ?_
 intro Q hQ
 obtain ⟨us,hus,hvb,hul,hin⟩:=hr
 simp (maxSteps:=1000000) (disch:=omega) only [cd148,hus.len Tryz.underlying32,hul,mks27,Int.toNat_natCast,SS,eq_self,reduceIte,reduceCtorEq,Nat.reduceEqDiff,Nat.reduceAdd]
 generalize hZ:H ++ [AObj.cells (ints (List.replicate L.length 0)) 3 false]=Z
 have pZ:H<+:Z:=by rw [<- hZ];exact List.prefix_append _ _
 have cZ:Z[H.length]?=some (.cells (ints (List.replicate L.length 0)) 3 false):=by rw [<- hZ];exact at_new ..
 refine LoopH.by (fun m s H'=>∃ j,m+j=L.length/\s 0=v/\s 1=.int .i64 (i:Int)/\s 5=.slice (some ⟨H.length,0,none⟩) L.length L.length/\s 6=.int .i64 ((j:Nat):Int)/\H'=Z.set H.length (.cells (ints (rpN L.length j)) 3 false)) L.length ?_ ?_
 ·refine ⟨0,by omega,rfl,rfl,rfl,rfl,?_⟩
  have:rpN L.length 0=List.replicate L.length 0:=by simp [rpN]
  rw [this]
  apply List.ext_getElem?
  intro j
  rw [List.getElem?_set]
  by_cases hj:H.length=j
  ·subst hj;rw [if_pos rfl,if_pos (at_lt cZ),cZ]
  ·rw [if_neg hj]
 rintro m s H' ⟨j,hm,h0,h1,h5,h6,rfl⟩
 have cJ:(Z.set H.length (.cells (ints (rpN L.length j)) 3 false))[H.length]?=some (.cells (ints (rpN L.length j)) 3 false):=at_set cZ
 simp (maxSteps:=1000000) (disch:=omega) only [h0,h1,h5,h6,SS,eq_self,reduceIte,reduceCtorEq,Nat.reduceEqDiff,Nat.reduceAdd]
 refine brD.intro (fun g=>?_) (fun g=>?_)
 ·have hj:j<(rpN L.length j).length:=by rw [rpN_len _ _ (by omega)];omega
  simp (maxSteps:=1000000) (disch:=omega) only [h0,h1,h5,h6,Int.toNat_natCast,Nat.zero_add,st_ints cs3 cJ hj,wrap64,SS,eq_self,reduceIte,reduceCtorEq,Nat.reduceEqDiff,Nat.reduceAdd]
  rw [List.set_set,rpN_set _ _ (by omega)]
  refine ⟨m - 1,by omega,j+1,?_⟩
  (repeat' apply And.intro) <;> first | (simp only [Value.int.injEq,true_and];omega) | omega | rfl | assumption | (simp;done) | (simp;omega)
 have hjN:j=L.length:=by omega
 subst hjN
 have e3:rpN L.length L.length=List.replicate L.length (-1):=by simp [rpN]
 rw [e3] at cJ
 rw [e3]
 have pA:H<+:Z.set H.length (.cells (ints (List.replicate L.length (-1))) 3 false):=pre_set pZ (Nat.le_refl _) _
 simp (maxSteps:=1000000) (disch:=omega) only [h0,h1,h5,h6,SS,eq_self,reduceIte,reduceCtorEq,Nat.reduceEqDiff,Nat.reduceAdd]
 have hlr:i<(List.replicate L.length (-1:Int)).length:=by simpa using hi
 generalize hoo:H.length=oo at *
 generalize hA:Z.set oo (.cells (ints (List.replicate L.length (-1))) 3 false)=A at *
 have cA:=at_app cJ [AObj.cells [.int .i64 (i:Int)] 3 false]
 simp (maxSteps:=1000000) (disch:=omega) only [h0,h1,h5,h6,Int.toNat_natCast,Nat.zero_add,st_ints cs3 cA hlr,SS,eq_self,reduceIte,reduceCtorEq,Nat.reduceEqDiff,Nat.reduceAdd]
 have hb0:(List.replicate L.length (-1:Int)).set i 0=bfs0 L.length i:=rfl
 rw [hb0]
 have hltA:=at_lt cJ
 have q0:QH H ((A ++ [AObj.cells [.int .i64 (i:Int)] 3 false]).set oo (.cells (ints (bfs0 L.length i)) 3 false)) oo (bfs0 L.length i) A.length 0 1 [(i:Int)]:=by
  refine ⟨⟨[(i:Int)],?_,rfl,by simp⟩,at_set cA,by omega,pA.length_le,by omega,pre_set (pre_app pA _) (by omega) _⟩
  rw [List.getElem?_set_ne (by omega)]
  exact at_new ..
 refine LoopH.by (fun m s H'=>∃ st k oq,m+k=L.length/\s 0=v/\s 5=.slice (some ⟨oo,0,none⟩) L.length L.length/\s 7=.slice (some ⟨oq,0,none⟩) st.2.length st.2.length/\s 8=.int .i64 ((k:Nat):Int)/\k<=st.2.length/\QH H H' oo st.1 oq 0 st.2.length st.2/\BI L.length st/\bfsF L (m+1) st k=bfs L i) L.length ?_ ?_
 ·refine ⟨(bfs0 L.length i,[(i:Int)]),0,A.length,by omega,?_⟩
  simp only [SS,eq_self,reduceIte,reduceCtorEq,Nat.reduceEqDiff,Nat.reduceAdd,h0,h5]
  have hb0:=bfs0_BI _ i hi
  have hF0:bfsF L (L.length+1) (bfs0 L.length i,[(i:Int)]) 0=bfs L i:=rfl
  (repeat' first | exact q0 | exact hb0 | exact hF0 | apply And.intro) <;> first | (simp only [Value.int.injEq,true_and];omega) | omega | rfl | assumption | (simp;done) | (simp;omega)
 ·rintro m s H' ⟨st,k,oq,hm,h0,h5,h7,h8,hkl,hq,hb,hF⟩
  have hle:=hb.len_le
  simp (maxSteps:=1000000) (disch:=omega) only [h0,h5,h7,h8,SS,eq_self,reduceIte,reduceCtorEq,Nat.reduceEqDiff,Nat.reduceAdd]
  refine brD.intro (fun g=>?_) (fun g=>?_)
  ·have hk:k<st.2.length:=by omega
   rw [bfsF_step L m st k hk] at hF
   have hqm:st.2.getD k 0 ∈ st.2:=by simp [hk]
   obtain ⟨hxr,hx0⟩:=hb.q _ hqm
   have hxl:=hb.lo (st.2.getD k 0).toNat (by omega)
   have hcell:=hq.at hk
   obtain ⟨x,hx⟩:∃ x:Nat,st.2.getD k 0=x:=⟨(st.2.getD k 0).toNat,by omega⟩
   rw [hx] at hF hxr hx0 hxl hcell
   rw [Int.toNat_natCast] at hF hx0 hxl
   rw [Nat.zero_add] at hcell
   have hpp:H<+:H':=hq.2.2.2.2.2
   have hus':=hus.pre hpp
   have hxu:x<us.length:=by omega
   have hinH:=(hin x (by omega)).1
   have hlb:=hls x
   have hLx:=hL x
   simp (maxSteps:=1000000) (disch:=omega) only [h0,h5,h7,h8,hcell,hus'.ix Tryz.underlying32 cs27,hus'.cell,Int.toNat_natCast,Nat.zero_add,SS,eq_self,reduceIte,reduceCtorEq,Nat.reduceEqDiff,Nat.reduceAdd]
   generalize hw:us.getD x undef=w at *
   generalize hl:L.getD x []=l at *
   generalize hd:st.1.getD x 0+1=d at *
   refine LoopH.by (fun m' s' H''=>∃ j st' oq',m'+j=l.length/\s' 0=v/\s' 5=.slice (some ⟨oo,0,none⟩) L.length L.length/\s' 7=.slice (some ⟨oq',0,none⟩) st'.2.length st'.2.length/\s' 8=.int .i64 ((k:Nat):Int)/\s' 9=w/\s' 10=.int .i64 ((j:Nat):Int)/\QH H H'' oo st'.1 oq' 0 st'.2.length st'.2/\BI L.length st'/\st.2<+:st'.2/\st'.1.getD x 0+1=d/\bfsIn d (l.drop j) st'=bfsIn d l st) l.length ?_ ?_
   ·refine ⟨0,st,oq,by simp,?_⟩
    simp only [SS,eq_self,reduceIte,reduceCtorEq,Nat.reduceEqDiff,Nat.reduceAdd,h0,h5,h7,h8]
    have hd2:bfsIn d (l.drop 0) st=bfsIn d l st:=by rw [List.drop_zero]
    have hpr:=List.prefix_refl st.2
    (repeat' first | exact hq | exact hb | exact hd | exact hd2 | exact hpr | apply And.intro) <;> first | (simp only [Value.int.injEq,true_and];omega) | omega | rfl | assumption | (simp;done) | (simp;omega)
   ·rintro m' s' H'' ⟨j,st',oq',hm',g0,g5,g7,g8,g9,g10,hq',hb',hpre,hd',hB⟩
    have hpp':H<+:H'':=hq'.2.2.2.2.2
    have hw':=hinH.pre hpp'
    have hle':=hb'.len_le
    simp (maxSteps:=1000000) (disch:=omega) only [g0,g5,g7,g8,g9,g10,hw'.len Tryz.underlying27,SS,eq_self,reduceIte,reduceCtorEq,Nat.reduceEqDiff,Nat.reduceAdd]
    refine brD.intro (fun q=>?_) (fun q=>?_)
    ·have hj:j<l.length:=by omega
     rw [bfsIn_drop d l j hj] at hB
     have hym:l.getD j 0 ∈ l:=by simp [hj]
     obtain ⟨y,hy⟩:∃ y:Nat,l.getD j 0=y:=⟨(l.getD j 0).toNat,by have:=hLx _ hym;omega⟩
     have hyr:=hLx _ hym
     rw [hy] at hB hyr
     rw [Int.toNat_natCast] at hB
     have hoc':=hq'.2.1
     have hlen':=hb'.len
     have hyl:y<st'.1.length:=by omega
     have hxl':x<st'.1.length:=by omega
     have hcw:=hw'.cell hj
     rw [hy] at hcw
     have hkl':k<st'.2.length:=by have:=hpre.length_le;omega
     have hck:=hq'.at hkl'
     have hqk:st'.2.getD k 0=(x:Int):=by
      obtain ⟨t,ht⟩:=hpre
      rw [<- ht,List.getD_eq_getElem?_getD,List.getElem?_append_left hk,<- List.getD_eq_getElem?_getD];exact hx
     rw [hqk,Nat.zero_add] at hck
     simp (maxSteps:=1000000) (disch:=omega) only [g0,g5,g7,g8,g9,g10,hw'.ix Tryz.underlying27 cs3,hcw,Int.toNat_natCast,Nat.zero_add,cell_ints hoc' hyl,SS,eq_self,reduceIte,reduceCtorEq,Nat.reduceEqDiff,Nat.reduceAdd]
     refine brD.intro (fun e=>?_) (fun e=>?_)
     ·rw [if_pos e] at hB
      have hd0:0<=d:=by omega
      have hdl:d<=st'.2.length:=by
       have:=hb'.lo x (by omega)
       omega
      have hb2:=hb'.put (j:=(y:Int)) (d:=d) hyr (by rw [Int.toNat_natCast];exact e) ⟨hd0,hdl⟩
      rw [Int.toNat_natCast] at hb2
      obtain ⟨H2,k1,k2⟩:=hq'.push y d (y:Int) (by omega)
      have hp2:H<+:H''.set oo (AObj.cells (ints (st'.1.set y d)) 3 false):=pre_set hpp' (by omega) _
      have hw2:=hinH.pre hp2
      have hcw2:=hw2.cell hj
      rw [hy] at hcw2
      simp (maxSteps:=1000000) (disch:=omega) only [g0,g5,g7,g8,g9,g10,hw'.ix Tryz.underlying27 cs3,hw2.ix Tryz.underlying27 cs3,hcw,hcw2,hck,Int.toNat_natCast,Nat.zero_add,cell_ints hoc' hxl',hd',st_ints cs3 hoc' hyl,k1,wrap64,SS,eq_self,reduceIte,reduceCtorEq,Nat.reduceEqDiff,Nat.reduceAdd]
      have f1:st.2<+:st'.2 ++ [(y:Int)]:=hpre.trans (List.prefix_append _ _)
      have f2:(st'.1.set y d).getD x 0+1=d:=by
       rw [getD_setB _ _ _ _ hxl']
       split
       ·rename_i e2
        subst e2
        have:=hb'.lo y (by omega)
        omega
       ·exact hd'
      have f3:(st'.2 ++ [(y:Int)]).length=st'.2.length+1:=by simp
      rw [<- f3] at k2
      refine ⟨m' - 1,by omega,j+1,(st'.1.set y d,st'.2 ++ [(y:Int)]),(H''.set oo (AObj.cells (ints (st'.1.set y d)) 3 false)).length+1,?_⟩
      simp only [f3]
      rw [f3] at k2
      (repeat' first | exact k2 | exact hb2 | exact f1 | exact f2 | exact hB | apply And.intro) <;> first | (simp only [Value.int.injEq,true_and];omega) | omega | rfl | assumption | (simp;done) | (simp;omega)
     ·rw [if_neg e] at hB
      simp (maxSteps:=1000000) (disch:=omega) only [g0,g5,g7,g8,g9,g10,wrap64,SS,eq_self,reduceIte,reduceCtorEq,Nat.reduceEqDiff,Nat.reduceAdd]
      refine ⟨m' - 1,by omega,j+1,st',oq',?_⟩
      (repeat' first | exact hq' | exact hb' | exact hpre | exact hd' | exact hB | apply And.intro) <;> first | (simp only [Value.int.injEq,true_and];omega) | omega | rfl | assumption | (simp;done) | (simp;omega)
    ·simp (maxSteps:=1000000) (disch:=omega) only [g0,g5,g7,g8,g9,g10,wrap64,SS,eq_self,reduceIte,reduceCtorEq,Nat.reduceEqDiff,Nat.reduceAdd]
     rw [List.drop_of_length_le (by omega)] at hB
     have hB':st'=bfsIn d l st:=hB
     rw [<- hB'] at hF
     have hm1:m - 1+1=m:=by omega
     rw [<- hm1] at hF
     have hkl':k+1<=st'.2.length:=by have:=hpre.length_le;omega
     refine ⟨m - 1,by omega,st',k+1,oq',?_⟩
     (repeat' first | exact hq' | exact hb' | exact hF | exact hkl' | apply And.intro) <;> first | (simp only [Value.int.injEq,true_and];omega) | omega | rfl | assumption | (simp;done) | (simp;omega)
  ·simp (maxSteps:=1000000) (disch:=omega) only [h5,SS,eq_self,reduceIte,reduceCtorEq,Nat.reduceEqDiff,Nat.reduceAdd]
   refine hQ _ _ _ ?_
   simp (maxSteps:=1000000) (disch:=omega) only [h5,SS,eq_self,reduceIte,reduceCtorEq,Nat.reduceEqDiff,Nat.reduceAdd]
   rw [bfsF_done L _ st k (by omega)] at hF
   rw [hF] at hq
   have hbl:(bfs L i).length=L.length:=by rw [<- hF];exact hb.len
   exact ⟨.inr ⟨oo,by rw [hbl],hq.2.2.1,hq.2.1⟩,hq.2.2.2.2.2⟩
def cd147:Cd:=(.seq (.reg [⟨⟨some 2,.box 26 (.tmp 0),none⟩,[]⟩,⟨⟨some 4,.assign (.const (.slice none 0 0)),none⟩,[]⟩]) (.seq (.reg [⟨⟨some 7,.buildSlice 27 0 #[],none⟩,[]⟩,⟨⟨some 5,.assign (.tmp 7),none⟩,[]⟩]) (.seq (.seq (.reg [⟨⟨some 6,.assign (.const (.int .i64 0)),none⟩,[]⟩]) (.block 0 (.loop (.seq (.seq (.reg [⟨⟨some 8,.move (.tmp 6),none⟩,[]⟩,⟨⟨some 9,.fieldAddr 26 (.tmp 2) 0,none⟩,[]⟩,⟨⟨some 10,.load 3 (.tmp 9),none⟩,[]⟩,⟨⟨some 11,.binOp .lss 3 (.tmp 8) (.tmp 10) 3,none⟩,[]⟩]) (.cond (.tmp 11) .skip (.exit 0))) (.seq (.block 1 (.seq (.reg [⟨⟨some 14,.load 26 (.tmp 2),none⟩,[]⟩,⟨⟨some 15,.move (.tmp 1),none⟩,[]⟩,⟨⟨some 16,.move (.tmp 6),none⟩,[]⟩,⟨⟨some 17,.call ⟨(.value (.func 175)),#[.tmp 14,.tmp 15,.tmp 16],#[26,3,3]⟩,none⟩,[]⟩]) (.cond (.tmp 17) (.reg [⟨⟨some 18,.move (.tmp 5),none⟩,[]⟩,⟨⟨some 19,.move (.tmp 6),none⟩,[]⟩,⟨⟨some 20,.buildSlice 27 1 #[(0,.tmp 19)],none⟩,[]⟩,⟨⟨some 21,.call ⟨(.builtin .append),#[.tmp 18,.tmp 20],#[27,27]⟩,none⟩,[]⟩,
 ⟨⟨some 5,.assign (.tmp 21),none⟩,[]⟩]) .skip))) (.reg [⟨⟨some 12,.move (.tmp 6),none⟩,[]⟩,
  ⟨⟨some 13,.binOp .add 3 (.tmp 12) (.const (.int .i64 1)) 3,none⟩,[]⟩,
  ⟨⟨some 6,.assign (.tmp 13),none⟩,[]⟩])))))) (.seq (.reg [⟨⟨some 22,.move (.tmp 5),none⟩,[]⟩,
  ⟨⟨some 4,.assign (.tmp 22),none⟩,[]⟩]) .ret))))
theorem in147:InT Tryz.prog 147 2 [.tmp 4] cd147:=InT.mk (by kernel_rfl) [] Tryz.func147 rfl (by kernel_rfl) (by kernel_rfl) (of_decide_eq_true (by kernel_rfl)) (by kernel_rfl)
def cd84:Cd:=(.seq (.reg [⟨⟨some 2,.box 26 (.tmp 0),none⟩,[]⟩,⟨⟨some 4,.assign (.const (.slice none 0 0)),none⟩,[]⟩]) (.seq (.reg [⟨⟨some 7,.fieldAddr 26 (.tmp 2) 0,none⟩,[]⟩,⟨⟨some 8,.load 3 (.tmp 7),none⟩,[]⟩,⟨⟨some 9,.makeSlice 32 (.tmp 8) (.tmp 8),none⟩,[]⟩,⟨⟨some 5,.assign (.tmp 9),none⟩,[]⟩]) (.seq (.seq (.reg [⟨⟨some 6,.assign (.const (.int .i64 0)),none⟩,[]⟩]) (.block 0 (.loop (.seq (.seq (.reg [⟨⟨some 10,.move (.tmp 6),none⟩,[]⟩,⟨⟨some 11,.fieldAddr 26 (.tmp 2) 0,none⟩,[]⟩,⟨⟨some 12,.load 3 (.tmp 11),none⟩,[]⟩,⟨⟨some 13,.binOp .lss 3 (.tmp 10) (.tmp 12) 3,none⟩,[]⟩]) (.cond (.tmp 13) .skip (.exit 0))) (.seq (.block 1 (.reg [⟨⟨some 16,.move (.tmp 5),none⟩,[]⟩,⟨⟨some 17,.move (.tmp 6),none⟩,[]⟩,⟨⟨some 18,.load 26 (.tmp 2),none⟩,[]⟩,⟨⟨some 19,.move (.tmp 6),none⟩,[]⟩,⟨⟨some 20,.call ⟨(.value (.func 147)),#[.tmp 18,.tmp 19],#[26,3]⟩,none⟩,[]⟩,
 ⟨⟨some 21,.indexAddr 32 (.tmp 16) (.tmp 17),none⟩,[]⟩,
  ⟨⟨none,.store 27 (.tmp 21) (.tmp 20),none⟩,[]⟩])) (.reg [⟨⟨some 14,.move (.tmp 6),none⟩,[]⟩,
  ⟨⟨some 15,.binOp .add 3 (.tmp 14) (.const (.int .i64 1)) 3,none⟩,[]⟩,
  ⟨⟨some 6,.assign (.tmp 15),none⟩,[]⟩])))))) (.seq (.reg [⟨⟨some 22,.move (.tmp 5),none⟩,[]⟩,
  ⟨⟨some 23,.move (.tmp 1),none⟩,[]⟩,
  ⟨⟨some 24,.call ⟨(.value (.func 148)),#[.tmp 22,.tmp 23],#[32,3]⟩,none⟩,[]⟩,
  ⟨⟨some 4,.assign (.tmp 24),none⟩,[]⟩]) .ret))))
theorem in84:InT Tryz.prog 84 2 [.tmp 4] cd84:=InT.mk (by kernel_rfl) [] Tryz.func84 rfl (by kernel_rfl) (by kernel_rfl) (of_decide_eq_true (by kernel_rfl)) (by kernel_rfl)
end Go.Proofs.YtlcipphiflcaiaaGreat.Ai
namespace Go.Proofs.YtlcipphiflcaiaaGreat.Ai
open Go Go.RowKit
theorem mk_nils {P:Program}{t e:TypeId}(hu:P.underlying t=some (.slice e))(hc:P.cellsOf e=1)(hby:P.bytesOf e<=64)(hz:zeroA P e=some (.slice none 0 0)){n:Int}(h0:0<=n)(h1:n<=1099511627776)(H:AH) :
  makeSliceA P t (.int .i64 n) (.int .i64 n) H=some (.slice (some ⟨H.length,0,none⟩) n.toNat n.toNat,H ++ [.cells (List.replicate n.toNat (.slice none 0 0)) e false]):=by
 have hb2:n.toNat * P.bytesOf e<=281474976710656:=by
  refine Nat.le_trans (Nat.mul_le_mul_left _ hby) ?_
  omega
 have hzc:(Value.slice none 0 0).cells=#[.slice none 0 0]:=rfl
 have hzs:zerosA (.slice none 0 0) (n.toNat * 1)=List.replicate n.toNat (.slice none 0 0):=by
  unfold zerosA
  rw [hzc,Nat.mul_one]
  apply List.ext_getElem
  ·simp
  ·intro i h1 h2
   simp [Nat.mod_one]
 simp only [makeSliceA,hu,hc,hz]
 rw [if_pos ⟨trivial,h0,by omega,hb2,by omega⟩,if_pos ⟨by simp [plainCs,hzc,plainC],by simp [hzc]⟩,hzs]
def roadsL (n:Nat)(es:List (Int × Int)):List (List Int):=(List.range n).map fun x:Nat=>nbsU es (x:Int) n
theorem roadsL_len (n:Nat)(es:List (Int × Int)):(roadsL n es).length=n:=by simp [roadsL]
theorem roadsL_at (n:Nat)(es:List (Int × Int))(i:Nat)(hi:i<n):(roadsL n es).getD i []=nbsU es i n:=by
 unfold roadsL
 rw [List.getD_eq_getElem?_getD,List.getElem?_map,List.getElem?_range hi];rfl
theorem roadsL_out (n:Nat)(es:List (Int × Int))(i:Nat)(hi:¬ i<n):(roadsL n es).getD i []=[]:=by
 rw [List.getD_eq_getElem?_getD,List.getElem?_eq_none (by rw [roadsL_len];omega)];rfl
theorem roadsL_ok (n:Nat)(es:List (Int × Int)):LOk (roadsL n es).length (roadsL n es):=by
 intro i y hy
 rw [roadsL_len]
 by_cases hi:i<n
 ·rw [roadsL_at n es i hi] at hy
  exact ((nbsU_mem es i n y).1 hy).1
 ·rw [roadsL_out n es i hi] at hy
  simp at hy
theorem roadsL_small (n:Nat)(es:List (Int × Int))(hn:n<=1000000000)(x:Nat):((roadsL n es).getD x []).length<=1000000000:=by
 by_cases hi:x<n
 ·rw [roadsL_at n es x hi]
  have:=nbsU_len es x n
  omega
 ·rw [roadsL_out n es x hi];simp
theorem l2Neighbors_c (n:Int)(v:Value)(es:List (Int × Int))(x:Int)(H:AH)(hr:RowP 115 H v es)(hlen:es.length<=1099511627776)(hn:0<=n/\n<=8) :
  ACalls Tryz.prog 147 [.agg (List.toArray [.int .i64 n,v]),.int .i64 x] H fun r H'=>Own 3 H H' r (nbsU es x n.toNat)/\H<+:H':=by
 refine in147 rfl ?_
 intro Q hQ
 simp (disch:=omega) only [cd147,hr.boxG,SS,eq_self,reduceIte,reduceCtorEq,Nat.reduceEqDiff,Nat.reduceAdd]
 generalize hA:H ++ [AObj.cells [.int .i64 n,v] 26 false]=A
 have pA:H<+:A:=by rw [<- hA];exact List.prefix_append _ _
 have cA:A[H.length]?=some (.cells [.int .i64 n,v] 26 false):=by rw [<- hA];exact at_new ..
 have rA:=hr.pre pA
 try simp (disch:=omega) only [SS,eq_self,reduceIte,reduceCtorEq,Nat.reduceEqDiff,Nat.reduceAdd]
 refine LoopH.by (fun m s H'=>∃ i,m+i=n.toNat/\s 1=.int .i64 x/\s 2=.pointer (some ⟨H.length,0,none⟩)/\s 6=.int .i64 ((i:Nat):Int)/\Own 3 A H' (s 5) (nbsU es x i)/\A<+:H') n.toNat ?_ ?_
 ·exact ⟨0,by simp,rfl,rfl,rfl,.inr ⟨A.length,rfl,Nat.le_refl _,at_new ..⟩,List.prefix_append _ _⟩
 ·rintro m s H' ⟨i,hm,h1,h2,h6,ho,hp⟩
  have hr':=rA.pre hp
  have cH:=pre_at hp cA
  have hl:=nbsU_len es x i
  have hst:nbsU es x (i+1)=nbsU es x i ++ if nearB es x i=true then [(i:Int)] else []:=rfl
  generalize hw:s 5=w at *
  simp (disch:=omega) only [h1,h2,h6,hw,cell_of cH,SS,eq_self,reduceIte,reduceCtorEq,Nat.reduceEqDiff,Nat.reduceAdd]
  refine brD.intro (fun g=>?_) (fun g=>?_)
  ·simp (disch:=omega) only [h1,h2,h6,hw,ld_agg ag26 cs26 cH,SS,eq_self,reduceIte,reduceCtorEq,Nat.reduceEqDiff,Nat.reduceAdd]
   refine CallH.by (l2Near_c n v es x i H' hr' hlen) ?_
   rintro _ B ⟨rfl,pB⟩
   have hoB:=ho.pre pB
   have hpB:=hp.trans pB
   simp (disch:=omega) only [SS,eq_self,reduceIte,reduceCtorEq,Nat.reduceEqDiff,Nat.reduceAdd]
   refine brH.intro (fun e2=>?_) (fun e2=>?_)
   ·obtain ⟨w',H2,k1,k2,k3,k4,k5,k6⟩:=own1_27 hoB hpB (by omega) (i:Int)
    simp (disch:=omega) only [e2,h1,h2,h6,hw,k1,wrap64,SS,eq_self,reduceIte,reduceCtorEq,Nat.reduceEqDiff,Nat.reduceAdd]
    rw [if_pos e2] at hst
    rw [<- hst] at k2
    refine ⟨m - 1,by omega,i+1,?_⟩
    (repeat' first | exact k2 | exact k3 | apply And.intro) <;> first | (simp only [Value.int.injEq,true_and];omega) | omega | rfl | assumption | (simp;done) | (simp;omega)
   ·simp (disch:=omega) only [e2,h1,h2,h6,hw,wrap64,SS,eq_self,reduceIte,reduceCtorEq,Nat.reduceEqDiff,Nat.reduceAdd]
    rw [if_neg (by simpa using e2),List.append_nil] at hst
    rw [<- hst] at hoB
    refine ⟨m - 1,by omega,i+1,?_⟩
    (repeat' first | exact hoB | exact hpB | apply And.intro) <;> first | (simp only [Value.int.injEq,true_and];omega) | omega | rfl | assumption | (simp;done) | (simp;omega)
  ·simp (disch:=omega) only [hw,SS,eq_self,reduceIte,reduceCtorEq,Nat.reduceEqDiff,Nat.reduceAdd]
   refine hQ _ _ _ ?_
   simp (disch:=omega) only [hw,ho.row.tup,SS,eq_self,reduceIte,reduceCtorEq,Nat.reduceEqDiff,Nat.reduceAdd]
   have:i=n.toNat:=by omega
   subst this
   exact ⟨ho.base pA,pA.trans hp⟩
theorem l3Far_c (n:Int)(v:Value)(es:List (Int × Int))(i:Nat)(H:AH)(hr:RowP 115 H v es)(hlen:es.length<=1099511627776)(hn:0<=n/\n<=8)(hi:(i:Int)<n) :
  ACalls Tryz.prog 84 [.agg (List.toArray [.int .i64 n,v]),.int .i64 (i:Int)] H fun r H'=>Own 3 H H' r (bfs (roadsL n.toNat es) i)/\H<+:H':=by
 refine in84 rfl ?_
 intro Q hQ
 simp (disch:=omega) only [cd84,hr.boxG,SS,eq_self,reduceIte,reduceCtorEq,Nat.reduceEqDiff,Nat.reduceAdd]
 generalize hA:H ++ [AObj.cells [.int .i64 n,v] 26 false]=A
 have pA:H<+:A:=by rw [<- hA];exact List.prefix_append _ _
 have cA:A[H.length]?=some (.cells [.int .i64 n,v] 26 false):=by rw [<- hA];exact at_new ..
 have rA:=hr.pre pA
 have mk:=mk_nils (P:=Tryz.prog) (t:=32) Tryz.underlying32 cs27 (by rw [by27];decide) ze27 hn.1 (by omega)
 simp (disch:=omega) only [cell_of cA,mk,SS,eq_self,reduceIte,reduceCtorEq,Nat.reduceEqDiff,Nat.reduceAdd]
 have z0:=at_new A (.cells (List.replicate n.toNat (.slice none 0 0)) 27 false)
 refine LoopH.by (fun m s H'=>∃ j us,m+j=n.toNat/\s 1=.int .i64 (i:Int)/\s 2=.pointer (some ⟨H.length,0,none⟩)/\s 5=.slice (some ⟨A.length,0,none⟩) n.toNat n.toNat/\s 6=.int .i64 ((j:Nat):Int)/\us.length=n.toNat/\H'[A.length]?=some (.cells us 27 false)/\(∀ x,x<j->Row 3 H' (us.getD x undef) (nbsU es x n.toNat)/\(us.getD x undef=.slice none 0 0∨A.length<rowO (us.getD x undef)))/\A<+:H') n.toNat ?_ ?_
 ·exact ⟨0,List.replicate n.toNat (.slice none 0 0),by simp,rfl,rfl,rfl,rfl,by simp,z0,fun x hx=>absurd hx (Nat.not_lt_zero x),List.prefix_append _ _⟩
 ·rintro m s H' ⟨j,us,hm,h1,h2,h5,h6,hul,hc,hrows,hp⟩
  have hr':=rA.pre hp
  have cH:=pre_at hp cA
  simp (disch:=omega) only [h1,h2,h5,h6,cell_of cH,SS,eq_self,reduceIte,reduceCtorEq,Nat.reduceEqDiff,Nat.reduceAdd]
  refine brD.intro (fun g=>?_) (fun g=>?_)
  ·simp (disch:=omega) only [h1,h2,h5,h6,ld_agg ag26 cs26 cH,SS,eq_self,reduceIte,reduceCtorEq,Nat.reduceEqDiff,Nat.reduceAdd]
   refine CallH.by (l2Neighbors_c n v es j H' hr' hlen hn) ?_
   rintro b D ⟨hb,pD⟩
   have hcD:=pre_at pD hc
   have hju:j<us.length:=by omega
   have hsh:=hb.row.shape
   obtain ⟨q,eq⟩:=hsh
   have t1:isTup b=false:=by rw [eq];rfl
   have t2:b.cells.toList=[b]:=by rw [eq];rfl
   have hst:=st_at (P:=Tryz.prog) (t:=27) cs27 hcD hju t1 t2
   simp (disch:=omega) only [h1,h2,h5,h6,Int.toNat_natCast,Nat.zero_add,hst,wrap64,SS,eq_self,reduceIte,reduceCtorEq,Nat.reduceEqDiff,Nat.reduceAdd]
   have hlt:=at_lt hc
   have f0:=at_set (d:=.cells (us.set j b) 27 false) hcD
   have f1:A<+:D.set A.length (.cells (us.set j b) 27 false):=pre_set (hp.trans pD) (Nat.le_refl _) _
   have keep:∀ {w:Value} {l:List Int},Row 3 D w l->(w=.slice none 0 0∨A.length<rowO w)->Row 3 (D.set A.length (.cells (us.set j b) 27 false)) w l:=by
    intro w l hw ha
    rcases ha with ha | ha
    ·rcases hw with hw | ⟨o,k,vs,ro,e1,_⟩
     ·exact .inl hw
     ·rw [e1] at ha;cases ha
    ·exact hw.mono fun y hy=>by rw [List.getElem?_set_ne (by omega)];exact hy
   have hbo:b=.slice none 0 0∨A.length<rowO b:=by
    rcases hb with ⟨q,_⟩ | ⟨o,q,ho,_⟩
    ·exact .inl q
    ·refine .inr ?_
     rw [q]
     show A.length<o
     omega
   have f2:∀ x,x<j+1->Row 3 (D.set A.length (.cells (us.set j b) 27 false)) ((us.set j b).getD x undef) (nbsU es x n.toNat)/\((us.set j b).getD x undef=.slice none 0 0∨A.length<rowO ((us.set j b).getD x undef)):=by
    intro x hx
    have hsx:(us.set j b).getD x undef=if j=x then b else us.getD x undef:=by
     rw [List.getD_eq_getElem?_getD,List.getD_eq_getElem?_getD,List.getElem?_set]
     by_cases h:j=x
     ·subst h;rw [if_pos rfl,if_pos rfl,if_pos hju];rfl
     ·rw [if_neg h,if_neg h]
    rw [hsx]
    split
    ·rename_i e
     subst e
     exact ⟨keep hb.row hbo,hbo⟩
    ·rename_i e
     obtain ⟨q1,q2⟩:=hrows x (by omega)
     exact ⟨keep (q1.pre pD) q2,q2⟩
   have f3:(us.set j b).length=n.toNat:=by simp [hul]
   refine ⟨m - 1,by omega,j+1,us.set j b,?_⟩
   (repeat' first | exact f0 | exact f1 | exact f2 | exact f3 | apply And.intro) <;> first | (simp only [Value.int.injEq,true_and];omega) | omega | rfl | assumption | (simp;done) | (simp;omega)
  ·have hj:j=n.toNat:=by omega
   have hrow:RowLB H'.length 27 3 H' (.slice (some ⟨A.length,0,none⟩) n.toNat n.toNat) (roadsL n.toNat es):=by
    refine ⟨us,.inr ⟨A.length,0,us,false,by rw [hul],hc,by omega,by rw [List.drop_zero,List.take_of_length_le (Nat.le_refl _)]⟩,.inr (at_lt hc),by rw [roadsL_len,hul],fun x hx=>?_⟩
    rw [roadsL_len] at hx
    obtain ⟨q1,q2⟩:=hrows x (by omega)
    rw [roadsL_at _ _ _ hx]
    refine ⟨q1,?_⟩
    rcases q1.nil with q | q
    ·exact .inl q.1
    ·exact .inr q
   simp (disch:=omega) only [h1,h2,h5,h6,SS,eq_self,reduceIte,reduceCtorEq,Nat.reduceEqDiff,Nat.reduceAdd]
   refine CallH.by (l2Spread_c _ (roadsL n.toNat es) i H' hrow (roadsL_ok _ _) (by rw [roadsL_len];omega) (by rw [roadsL_len];omega) (roadsL_small _ _ (by omega))) ?_
   rintro u E ⟨hu,pE⟩
   have hpp:=pA.trans hp
   simp (disch:=omega) only [SS,eq_self,reduceIte,reduceCtorEq,Nat.reduceEqDiff,Nat.reduceAdd]
   refine hQ _ _ _ ?_
   simp (disch:=omega) only [hu.row.tup,SS,eq_self,reduceIte,reduceCtorEq,Nat.reduceEqDiff,Nat.reduceAdd]
   exact ⟨hu.base hpp,hpp.trans pE⟩
def cd122:Cd:=(.seq (.reg [⟨⟨some 4,.assign (.const (.slice none 0 0)),none⟩,[]⟩]) (.seq (.reg [⟨⟨some 7,.buildSlice 27 0 #[],none⟩,[]⟩,⟨⟨some 5,.assign (.tmp 7),none⟩,[]⟩]) (.seq (.seq (.reg [⟨⟨some 6,.assign (.const (.int .i64 0)),none⟩,[]⟩]) (.block 0 (.loop (.seq (.seq (.reg [⟨⟨some 8,.move (.tmp 6),none⟩,[]⟩,⟨⟨some 9,.move (.tmp 0),none⟩,[]⟩,⟨⟨some 10,.binOp .lss 3 (.tmp 8) (.tmp 9) 3,none⟩,[]⟩]) (.cond (.tmp 10) .skip (.exit 0))) (.seq (.block 1 (.seq (.reg [⟨⟨some 13,.move (.tmp 1),none⟩,[]⟩,⟨⟨some 14,.move (.tmp 6),none⟩,[]⟩,⟨⟨some 15,.binOp .shr 3 (.tmp 13) (.tmp 14) 3,none⟩,[]⟩,⟨⟨some 16,.binOp .and 3 (.tmp 15) (.const (.int .i64 1)) 3,none⟩,[]⟩,⟨⟨some 17,.binOp .eql 3 (.tmp 16) (.const (.int .i64 1)) 3,none⟩,[]⟩]) (.cond (.tmp 17) (.reg [⟨⟨some 18,.move (.tmp 5),none⟩,[]⟩,⟨⟨some 19,.move (.tmp 6),none⟩,[]⟩,⟨⟨some 20,.buildSlice 27 1 #[(0,.tmp 19)],none⟩,[]⟩,⟨⟨some 21,.call ⟨(.builtin .append),#[.tmp 18,.tmp 20],#[27,27]⟩,none⟩,[]⟩,⟨⟨some 5,.assign (.tmp 21),none⟩,[]⟩]) .skip))) (.reg [⟨⟨some 11,.move (.tmp 6),none⟩,[]⟩,
 ⟨⟨some 12,.binOp .add 3 (.tmp 11) (.const (.int .i64 1)) 3,none⟩,[]⟩,
  ⟨⟨some 6,.assign (.tmp 12),none⟩,[]⟩])))))) (.seq (.reg [⟨⟨some 22,.move (.tmp 5),none⟩,[]⟩,
  ⟨⟨some 4,.assign (.tmp 22),none⟩,[]⟩]) .ret))))
theorem in122:InT Tryz.prog 122 2 [.tmp 4] cd122:=InT.mk (by kernel_rfl) [] Tryz.func122 rfl (by kernel_rfl) (by kernel_rfl) (of_decide_eq_true (by kernel_rfl)) (by kernel_rfl)
end Go.Proofs.YtlcipphiflcaiaaGreat.Ai
namespace Go.Proofs.YtlcipphiflcaiaaGreat.Ai
open Go Go.RowKit
def alls (n:Nat):List Int:=(List.range n).map fun z:Nat=>(z:Int)
theorem alls_len (n:Nat):(alls n).length=n:=by simp [alls]
theorem alls_mem (n:Nat)(z:Int):z ∈ alls n↔0<=z/\z<n:=by
 unfold alls
 rw [List.mem_map]
 constructor
 ·rintro ⟨a,ha,rfl⟩
  have:=List.mem_range.1 ha
  omega
 ·rintro ⟨h1,h2⟩
  exact ⟨z.toNat,List.mem_range.2 (by omega),by omega⟩
theorem alls_succ (n:Nat):alls (n+1)=alls n ++ [(n:Int)]:=by
 unfold alls;rw [List.range_succ,List.map_append];rfl
theorem shl1 (P:Program)(t:TypeId)(n:Nat)(h:n<=8):binA P .shl t (.int .i64 1) (.int .i64 (n:Int))=some (.int .i64 ((2 ^ n:Nat):Int)):=by
 have:n=0∨n=1∨n=2∨n=3∨n=4∨n=5∨n=6∨n=7∨n=8:=by omega
 rcases this with rfl | rfl | rfl | rfl | rfl | rfl | rfl | rfl | rfl <;> rfl
theorem bits1 (P:Program)(t:TypeId)(n x:Nat)(h:n<=8)(hx:x<n):∃ z,binA P .shr t (.int .i64 (((2 ^ n:Nat):Int) - 1)) (.int .i64 (x:Int))=some (.int .i64 z)/\binA P .and t (.int .i64 z) (.int .i64 1)=some (.int .i64 1):=by
 have:n=1∨n=2∨n=3∨n=4∨n=5∨n=6∨n=7∨n=8:=by omega
 have hx8:x=0∨x=1∨x=2∨x=3∨x=4∨x=5∨x=6∨x=7:=by omega
 rcases this with rfl | rfl | rfl | rfl | rfl | rfl | rfl | rfl <;> rcases hx8 with rfl | rfl | rfl | rfl | rfl | rfl | rfl | rfl <;> first | exact ⟨_,rfl,rfl⟩ | exact absurd hx (by decide)
theorem l2Bits_c (n:Nat)(c:Int)(H:AH)(hn:n<=8)(hc:c=((2 ^ n:Nat):Int) - 1) :
  ACalls Tryz.prog 122 [.int .i64 (n:Int),.int .i64 c] H fun r H'=>Own 3 H H' r (alls n)/\H<+:H':=by
 refine in122 rfl ?_
 intro Q hQ
 subst hc
 simp (disch:=omega) only [cd122,SS,eq_self,reduceIte,reduceCtorEq,Nat.reduceEqDiff,Nat.reduceAdd]
 refine LoopH.by (fun m s H'=>∃ i,m+i=n/\s 0=.int .i64 (n:Int)/\s 1=.int .i64 (((2 ^ n:Nat):Int) - 1)/\s 6=.int .i64 ((i:Nat):Int)/\Own 3 H H' (s 5) (alls i)/\H<+:H') n ?_ ?_
 ·exact ⟨0,by simp,rfl,rfl,rfl,.inr ⟨H.length,rfl,Nat.le_refl _,at_new ..⟩,List.prefix_append _ _⟩
 ·rintro m s H' ⟨i,hm,h0,h1,h6,ho,hp⟩
  have hl:=alls_len i
  generalize hw:s 5=w at *
  simp (disch:=omega) only [h0,h1,h6,hw,SS,eq_self,reduceIte,reduceCtorEq,Nat.reduceEqDiff,Nat.reduceAdd]
  refine brD.intro (fun g=>?_) (fun g=>?_)
  ·have hi:i<n:=by omega
   obtain ⟨z,z1,z2⟩:=bits1 Tryz.prog 3 n i hn hi
   simp (disch:=omega) only [h0,h1,h6,hw,z1,z2,SS,eq_self,reduceIte,reduceCtorEq,Nat.reduceEqDiff,Nat.reduceAdd]
   obtain ⟨w',H2,k1,k2,k3,k4,k5,k6⟩:=own1_27 ho hp (by omega) (i:Int)
   simp (disch:=omega) only [h0,h1,h6,hw,k1,wrap64,SS,eq_self,reduceIte,reduceCtorEq,Nat.reduceEqDiff,Nat.reduceAdd]
   rw [<- alls_succ] at k2
   refine ⟨m - 1,by omega,i+1,?_⟩
   (repeat' first | exact k2 | exact k3 | apply And.intro) <;> first | (simp only [Value.int.injEq,true_and];omega) | omega | rfl | assumption | (simp;done) | (simp;omega)
  ·simp (disch:=omega) only [hw,SS,eq_self,reduceIte,reduceCtorEq,Nat.reduceEqDiff,Nat.reduceAdd]
   refine hQ _ _ _ ?_
   simp (disch:=omega) only [hw,ho.row.tup,SS,eq_self,reduceIte,reduceCtorEq,Nat.reduceEqDiff,Nat.reduceAdd]
   have:i=n:=by omega
   subst this
   exact ⟨ho,hp⟩
end Go.Proofs.YtlcipphiflcaiaaGreat.Ai
