/- Texts of this claim, joined: PmE, BrdP, Pair, Near, MvP, MapK, Key, Rep, AppL, Rch, Index, Seq, Coll, Perm, Tok, Mvs, Spd, Drc, Drp. -/
import Derived.Test.YtjnefjchconebaaGreatProg
import Derived.KernelRfl
import Derived.RangeFuncBox
import Derived.RangeFuncLeaves
import Derived.Shelf.Abstract
import Derived.WalkKit
import Derived.OwnWalkIn
import Derived.TacticsInMore
import Derived.LoopNIn
import Derived.LoopIn
import Derived.Maps.AppendAt
import Derived.Test.YtjnefjchconebaaGreatMgLawTkl3
set_option linter.unusedVariables false
set_option linter.unusedSimpArgs false
set_option maxHeartbeats 8000000
set_option maxRecDepth 20000
namespace Go.Proofs.YtjnefjchconebaaGreat.Ai
open Go Go.RowKit
def pmT (rec:List Int->List (List Int))(b:List Int):Nat->Nat->List (List Int)
  | 0,_=>[]
  | d+1,c=>(if (c:Int) ∈ b then [] else rec (b ++ [(c:Int)])) ++ pmT rec b d (c+1)
def pmG (n:Nat):Nat->List Int->List (List Int)
  | 0=>fun b=>[b]
  | f+1=>fun b=>pmT (pmG n f) b n 0
def pms (n:Nat):List (List Int):=pmG n n []
theorem pmT_mem {rec:List Int->List (List Int)}{b q:List Int}{x:Nat}(hx:(x:Int) ∉ b)(hq:q ∈ rec (b ++ [(x:Int)])):∀ d c,c<=x->x<c+d->q ∈ pmT rec b d c
  | 0,c,h1,h2=>by omega
  | d+1,c,h1,h2=>by
    simp only [pmT,List.mem_append]
    by_cases e:c=x
    . subst e;left;rw [if_neg hx];exact hq
    . right;exact pmT_mem hx hq d (c+1) (by omega) (by omega)
theorem pmG_mem (n:Nat):∀ (r b:List Int),(∀ x ∈ r,0<=x/\x<n)->(b ++ r).Nodup->b ++ r ∈ pmG n r.length b
  | [],b,_,_=>by simp [pmG]
  | x :: r,b,hr,hn=>by
    have hx:=hr x (by simp)
    obtain ⟨k,rfl⟩:∃ k:Nat,x=k:=⟨x.toNat,by omega⟩
    have hp:=List.pairwise_append.1 hn
    have hxb:(k:Int) ∉ b:=fun h=>hp.2.2 _ h _ (by simp) rfl
    have e:b ++ (k:Int) :: r=(b ++ [(k:Int)]) ++ r:=by simp
    rw [e] at hn ⊢
    show _ ∈ pmT (pmG n r.length) b n 0
    exact pmT_mem hxb (pmG_mem n r (b ++ [(k:Int)]) (fun y hy=>hr y (by simp [hy])) hn) n 0 (by omega) (by omega)
theorem allIn_le:∀ (m:Nat) (l:List Int),(∀ z:Nat,z<m->(z:Int) ∈ l)->m<=l.length
  | 0,_,_=>Nat.zero_le _
  | m+1,l,h=>by
    have hm:=h m (by omega)
    have:=allIn_le m (l.erase (m:Int)) (fun z hz=>(List.mem_erase_of_ne (by omega)).2 (h z (by omega)))
    rw [List.length_erase_of_mem hm] at this
    have:0<l.length:=List.length_pos_of_mem hm
    omega
theorem erase_all {p:List Int}{m:Nat}(h:∀ z:Nat,z<m->(z:Int) ∈ p)(hl:p.length=m){j:Nat}(hj:j<p.length)(hd:∀ z:Nat,z<m->(z:Int)=p[j]->(z:Int) ∈ p.take j ++ p.drop (j+1)):False:=by
  have:=allIn_le m (p.take j ++ p.drop (j+1)) (fun z hz=>by
    have hm:=h z hz
    by_cases e:(z:Int)=p[j]
    . exact hd z hz e
    . have e2:p=p.take j ++ p[j] :: p.drop (j+1):=by rw [List.getElem_cons_drop];exact (List.take_append_drop j p).symm
      rw [e2] at hm
      simp only [List.mem_append,List.mem_cons] at hm ⊢
      rcases hm with hm | hm | hm
      . exact .inl hm
      . exact absurd hm e
      . exact .inr hm)
  simp only [List.length_append,List.length_take,List.length_drop] at this
  omega
theorem prm_nodup {p:List Int}(h:Prm p):p.Nodup:=by
  rw [List.Nodup,List.pairwise_iff_getElem]
  intro i j hi hj hij e
  refine erase_all h.2 rfl hj (fun z hz ez=>?_)
  rw [ez,<- e]
  refine List.mem_append.2 (.inl ?_)
  have:(p.take j)[i]'(by simp;omega)=p[i]:=by simp
  rw [<- this];exact List.getElem_mem _
theorem prm_rng {p:List Int}(h:Prm p):∀ x ∈ p,0<=x/\x<p.length:=by
  intro x hx
  apply Decidable.byContradiction
  intro hn
  obtain ⟨j,hj,e⟩:=List.getElem_of_mem hx
  refine erase_all h.2 rfl hj (fun z hz ez=>?_)
  rw [e] at ez
  exact absurd ⟨by omega,by omega⟩ hn
theorem pms_mem {p:List Int}(h:Prm p):p ∈ pms p.length:=pmG_mem p.length p [] (prm_rng h) (by simpa using prm_nodup h)
def cdF:Int->List Int->Int
  | c,[]=>c
  | c,x :: r=>cdF (c * ((r.length:Int)+1)+((r.countP fun y=>decide (y<x):Nat):Int)) r
def cod (p:List Int):Int:=cdF 0 p
def mny:Nat->Nat
  | 0=>1
  | n+1=>mny n * (n+1)
def codOk (n:Nat):Bool:=decide ((pms n).map cod=(List.range (mny n)).map fun z:Nat=>(z:Int))
theorem cod0:codOk 0=true:=by decide +kernel
theorem cod1:codOk 1=true:=by decide +kernel
theorem cod2:codOk 2=true:=by decide +kernel
theorem cod3:codOk 3=true:=by decide +kernel
theorem cod4:codOk 4=true:=by decide +kernel
theorem cod5:codOk 5=true:=by decide +kernel
theorem cod6:codOk 6=true:=by decide +kernel
theorem cod_all {n:Nat}(hn:n<=6):(pms n).map cod=(List.range (mny n)).map fun z:Nat=>(z:Int):=by
  have h:codOk n=true:=by
    have:n=0∨n=1∨n=2∨n=3∨n=4∨n=5∨n=6:=by omega
    rcases this with rfl | rfl | rfl | rfl | rfl | rfl | rfl
    . exact cod0
    . exact cod1
    . exact cod2
    . exact cod3
    . exact cod4
    . exact cod5
    . exact cod6
  exact of_decide_eq_true h
theorem mny_le {n:Nat}(hn:n<=6):1<=mny n/\mny n<=720:=by
  have:n=0∨n=1∨n=2∨n=3∨n=4∨n=5∨n=6:=by omega
  rcases this with rfl | rfl | rfl | rfl | rfl | rfl | rfl <;> decide
theorem inj_nd {α β:Type}{L:List α}{f:α->β}(h:(L.map f).Nodup){a b:α}(ha:a ∈ L)(hb:b ∈ L)(e:f a=f b):a=b:=by
  obtain ⟨i,hi,ei⟩:=List.getElem_of_mem ha
  obtain ⟨j,hj,ej⟩:=List.getElem_of_mem hb
  rw [List.Nodup,List.pairwise_iff_getElem] at h
  rcases Nat.lt_trichotomy i j with hij | hij | hij
  . have:=h i j (by simpa using hi) (by simpa using hj) hij
    simp only [List.getElem_map,ei,ej] at this
    exact absurd e this
  . subst hij;rw [<- ei,<- ej]
  . have:=h j i (by simpa using hj) (by simpa using hi) hij
    simp only [List.getElem_map,ei,ej] at this
    exact absurd e.symm this
theorem range_nd (m:Nat):((List.range m).map fun z:Nat=>(z:Int)).Nodup:=by
  rw [List.Nodup,List.pairwise_map]
  exact List.nodup_range.imp fun h e=>h (by omega)
theorem cod_rng {p:List Int}(h:Prm p)(hl:p.length<=6):0<=cod p/\cod p<mny p.length:=by
  have hm:cod p ∈ (pms p.length).map cod:=List.mem_map.2 ⟨p,pms_mem h,rfl⟩
  rw [cod_all hl,List.mem_map] at hm
  obtain ⟨z,hz,e⟩:=hm
  have:=List.mem_range.1 hz
  omega
theorem cod_inj {p q:List Int}(hp:Prm p)(hq:Prm q)(hl:p.length<=6)(e:p.length=q.length)(hc:cod p=cod q):p=q:=by
  refine inj_nd (L:=pms p.length) (f:=cod) ?_ (pms_mem hp) (by rw [e];exact pms_mem hq) hc
  rw [cod_all hl];exact range_nd _
def keyF:Int->List Int->Int
  | a,[]=>a
  | a,x :: r=>keyF (10 * a+x) r
def keyL (p:List Int):Int:=keyF 1 p
theorem keyF_inj:∀ (p q:List Int) (a b:Int),p.length=q.length->(∀ x ∈ p,0<=x/\x<10)->(∀ x ∈ q,0<=x/\x<10)->keyF a p=keyF b q->a=b/\p=q
  | [],[],a,b,_,_,_,h=>⟨h,rfl⟩
  | x :: p,y :: q,a,b,hl,hp,hq,h=>by
    have hx:=hp x (by simp)
    have hy:=hq y (by simp)
    obtain ⟨h1,h2⟩:=keyF_inj p q (10 * a+x) (10 * b+y) (by simpa using hl) (fun z hz=>hp z (by simp [hz])) (fun z hz=>hq z (by simp [hz])) h
    have:a=b/\x=y:=by omega
    exact ⟨this.1,by rw [this.2,h2]⟩
theorem key_inj {p q:List Int}(hp:Prm p)(hq:Prm q)(e:p.length=q.length)(hk:keyL p=keyL q):p=q:=by
  have h1:=hp.1
  have h2:=hq.1
  exact (keyF_inj p q 1 1 e (fun x hx=>by have:=prm_rng hp x hx;omega) (fun x hx=>by have:=prm_rng hq x hx;omega) hk).2
def bdIn (d:Int):List (List Int)->List (List Int × Int)->List (List Int × Int)
  | [],st=>st
  | b :: r,st=>bdIn d r (if b ∈ st.map (·.1) then st else st ++ [(b,d)])
def bdF (nx:List Int->List (List Int)):Nat->List (List Int × Int)->Nat->List (List Int × Int)
  | 0,st,_=>st
  | f+1,st,k=>if k<st.length then bdF nx f (bdIn ((st.getD k ([],0)).2+1) (nx (st.getD k ([],0)).1) st) (k+1) else st
def bdA (nx:List Int->List (List Int))(p:List Int):List (List Int × Int):=bdF nx 721 [(p,0)] 0
def Bd (n:Nat)(p:List Int):Prop:=Prm p/\p.length=n
structure BdI (n:Nat) (nx:List Int->List (List Int)) (p:List Int) (st:List (List Int × Int)) (k:Nat):Prop where
  ok:∀ e ∈ st,Bd n e.1
  nd:(st.map (·.1)).Nodup
  rng:∀ e ∈ st,0<=e.2/\e.2<st.length
  src:∀ e ∈ st,e=(p,0)∨∃ u ∈ st,e.1 ∈ nx u.1/\e.2=u.2+1
  cl:∀ j,j<k->∀ b ∈ nx (st.getD j ([],0)).1,b ∈ st.map (·.1)
  le:k<=st.length
  start:st.getD 0 ([],0)=(p,0)/\0<st.length
theorem nodupI_le:∀ (n:Nat) (l:List Int),l.Nodup->(∀ x ∈ l,0<=x/\x<n)->l.length<=n
  | 0,l,_,h=>by
    cases l with
    | nil=>simp
    | cons a l=>have:=h a (by simp);omega
  | n+1,l,hn,h=>by
    have:=nodupI_le n (l.erase (n:Int)) (hn.erase _) (fun x hx=>by
      have h1:=h x (List.mem_of_mem_erase hx)
      have h2:x ≠ n:=fun e=>by subst e;exact (hn.not_mem_erase) hx
      omega)
    have h3:l.length<=(l.erase (n:Int)).length+1:=by rw [List.length_erase];split <;> omega
    omega
theorem BdI.len_le {n:Nat}(hn:n<=6){nx:List Int->List (List Int)}{p:List Int}{st:List (List Int × Int)}{k:Nat}(h:BdI n nx p st k):st.length<=mny n:=by
  have:=nodupI_le (mny n) ((st.map (·.1)).map cod) (by
    rw [List.Nodup,List.pairwise_map]
    refine List.Pairwise.imp_of_mem ?_ h.nd
    intro a b ha hb hab e
    obtain ⟨u,hu,rfl⟩:=List.mem_map.1 ha
    obtain ⟨v,hv,rfl⟩:=List.mem_map.1 hb
    have h1:=h.ok u hu
    have h2:=h.ok v hv
    exact hab (cod_inj h1.1 h2.1 (by rw [h1.2];exact hn) (by rw [h1.2,h2.2]) e)) (fun x hx=>by
    obtain ⟨a,ha,rfl⟩:=List.mem_map.1 hx
    obtain ⟨u,hu,rfl⟩:=List.mem_map.1 ha
    have h1:=h.ok u hu
    have:=cod_rng h1.1 (by rw [h1.2];exact hn)
    rw [h1.2] at this;exact this)
  simpa using this
theorem bdIn_pre (d:Int):∀ (l:List (List Int)) (st:List (List Int × Int)),st<+:bdIn d l st
  | [],st=>List.prefix_refl _
  | b :: r,st=>by
    simp only [bdIn]
    split
    . exact bdIn_pre d r st
    . exact (List.prefix_append _ _).trans (bdIn_pre d r _)
theorem bdIn_mem (d:Int):∀ (l:List (List Int)) (st:List (List Int × Int)) (e:List Int × Int),e ∈ bdIn d l st->e ∈ st∨(e.2=d/\e.1 ∈ l)
  | [],st,e,h=>.inl h
  | b :: r,st,e,h=>by
    simp only [bdIn] at h
    rcases bdIn_mem d r _ e h with h1 | ⟨h1,h2⟩
    . split at h1
      . exact .inl h1
      . rcases List.mem_append.1 h1 with h1 | h1
        . exact .inl h1
        . simp only [List.mem_cons,List.not_mem_nil,or_false] at h1
          subst h1;exact .inr ⟨rfl,by simp⟩
    . exact .inr ⟨h1,by simp [h2]⟩
theorem bdIn_get (d:Int):∀ (l:List (List Int)) (st:List (List Int × Int)),∀ b ∈ l,b ∈ (bdIn d l st).map (·.1)
  | [],st,b,h=>by simp at h
  | c :: r,st,b,h=>by
    simp only [bdIn]
    rcases List.mem_cons.1 h with rfl | h
    . obtain ⟨t,ht⟩:=bdIn_pre d r (if b ∈ st.map (·.1) then st else st ++ [(b,d)])
      rw [<- ht,List.map_append]
      refine List.mem_append.2 (.inl ?_)
      split
      . assumption
      . simp
    . exact bdIn_get d r _ b h
theorem bdIn_nd (d:Int):∀ (l:List (List Int)) (st:List (List Int × Int)),(st.map (·.1)).Nodup->((bdIn d l st).map (·.1)).Nodup
  | [],st,h=>h
  | b :: r,st,h=>by
    simp only [bdIn]
    refine bdIn_nd d r _ ?_
    split
    . exact h
    . rename_i hb
      rw [List.map_append,List.Nodup,List.pairwise_append]
      refine ⟨h,by simp,fun x hx y hy e=>?_⟩
      simp only [List.map_cons,List.map_nil,List.mem_cons,List.not_mem_nil,or_false] at hy
      subst hy;subst e;exact hb hx
theorem BdI.step {n:Nat}{nx:List Int->List (List Int)}(hnx:∀ b,Bd n b->∀ c ∈ nx b,Bd n c){p:List Int}{st:List (List Int × Int)}{k:Nat}(h:BdI n nx p st k)(hk:k<st.length) :
    BdI n nx p (bdIn ((st.getD k ([],0)).2+1) (nx (st.getD k ([],0)).1) st) (k+1):=by
  have hm:st.getD k ([],0) ∈ st:=by simp [hk]
  generalize hu:st.getD k ([],0)=u at *
  have hpre:=bdIn_pre (u.2+1) (nx u.1) st
  have hle:=hpre.length_le
  have keep:∀ j,j<st.length->(bdIn (u.2+1) (nx u.1) st).getD j ([],0)=st.getD j ([],0):=by
    intro j hj
    obtain ⟨t,ht⟩:=hpre
    rw [<- ht,List.getD_eq_getElem?_getD,List.getElem?_append_left hj,<- List.getD_eq_getElem?_getD]
  have hku:=h.rng u hm
  have hgrow:∀ e ∈ bdIn (u.2+1) (nx u.1) st,e ∉ st->st.length<(bdIn (u.2+1) (nx u.1) st).length:=by
    intro e he hn
    obtain ⟨t,ht⟩:=hpre
    rw [<- ht] at he ⊢
    rcases List.mem_append.1 he with h1 | h1
    . exact absurd h1 hn
    . rw [List.length_append]
      have:=List.length_pos_of_mem h1
      omega
  refine ⟨?_,bdIn_nd _ _ _ h.nd,?_,?_,?_,by omega,?_⟩
  . intro e he
    rcases bdIn_mem _ _ _ e he with h1 | ⟨_,h2⟩
    . exact h.ok e h1
    . exact hnx u.1 (h.ok u hm) _ h2
  . intro e he
    by_cases h1:e ∈ st
    . have:=h.rng e h1;omega
    . have:=hgrow e he h1
      rcases bdIn_mem _ _ _ e he with h3 | ⟨h3,_⟩
      . exact absurd h3 h1
      . omega
  . intro e he
    rcases bdIn_mem _ _ _ e he with h1 | ⟨h1,h2⟩
    . rcases h.src e h1 with h3 | ⟨v,h3,h4⟩
      . exact .inl h3
      . exact .inr ⟨v,hpre.subset h3,h4⟩
    . exact .inr ⟨u,hpre.subset hm,h2,h1⟩
  . intro j hj b hb
    rw [keep j (by omega)] at hb
    by_cases e:j=k
    . subst e;rw [hu] at hb
      exact bdIn_get _ _ _ b hb
    . have:=h.cl j (by omega) b hb
      obtain ⟨e,h1,h2⟩:=List.mem_map.1 this
      exact List.mem_map.2 ⟨e,hpre.subset h1,h2⟩
  . exact ⟨by rw [keep 0 h.start.2];exact h.start.1,by have:=h.start.2;omega⟩
theorem BdI.zero {n:Nat}{nx:List Int->List (List Int)}{p:List Int}(hp:Bd n p):BdI n nx p [(p,0)] 0:=by
  refine ⟨fun e he=>?_,by simp,fun e he=>?_,fun e he=>.inl (by simpa using he),fun j hj=>absurd hj (Nat.not_lt_zero j),Nat.zero_le _,⟨rfl,by simp⟩⟩
  . simp only [List.mem_cons,List.not_mem_nil,or_false] at he
    subst he;exact hp
  . simp only [List.mem_cons,List.not_mem_nil,or_false] at he
    subst he;simp
theorem bdF_run {n:Nat}(hn:n<=6){nx:List Int->List (List Int)}(hnx:∀ b,Bd n b->∀ c ∈ nx b,Bd n c){p:List Int}:∀ (f:Nat) (st:List (List Int × Int)) (k:Nat),mny n<f+k->BdI n nx p st k->BdI n nx p (bdF nx f st k) (bdF nx f st k).length
  | 0,st,k,hf,h=>by have:=h.len_le hn;have:=h.le;omega
  | f+1,st,k,hf,h=>by
    simp only [bdF]
    split
    . rename_i hk
      exact bdF_run hn hnx f _ _ (by omega) (h.step hnx hk)
    . have e:k=st.length:=by have:=h.le;omega
      rw [<- e];exact h
theorem bdA_I {n:Nat}(hn:n<=6){nx:List Int->List (List Int)}(hnx:∀ b,Bd n b->∀ c ∈ nx b,Bd n c){p:List Int}(hp:Bd n p):BdI n nx p (bdA nx p) (bdA nx p).length :=
  bdF_run hn hnx 721 _ 0 (by have:=mny_le hn;omega) (BdI.zero hp)
theorem bdF_done (nx:List Int->List (List Int))(f:Nat)(st:List (List Int × Int))(k:Nat)(h:st.length<=k):bdF nx f st k=st:=by
  cases f with
  | zero=>rfl
  | succ f=>simp only [bdF];rw [if_neg (by omega)]
theorem bdF_step (nx:List Int->List (List Int))(f:Nat)(st:List (List Int × Int))(k:Nat)(h:k<st.length):bdF nx (f+1) st k=bdF nx f (bdIn ((st.getD k ([],0)).2+1) (nx (st.getD k ([],0)).1) st) (k+1):=by
  simp only [bdF];rw [if_pos h]
theorem bdIn_drop (d:Int)(l:List (List Int))(j:Nat)(hj:j<l.length)(st:List (List Int × Int)):bdIn d (l.drop j) st=bdIn d (l.drop (j+1)) (if l.getD j [] ∈ st.map (·.1) then st else st ++ [(l.getD j [],d)]):=by
  have e:l.getD j []=l[j]:=by simp [hj]
  rw [List.drop_eq_getElem_cons hj,e]
  rfl
def bdD (st:List (List Int × Int))(b:List Int):Option Int:=(st.find? fun e=>decide (e.1=b)).map (·.2)
theorem bdD_some {st:List (List Int × Int)}(hn:(st.map (·.1)).Nodup){e:List Int × Int}(he:e ∈ st):bdD st e.1=some e.2:=by
  unfold bdD
  induction st with
  | nil=>simp at he
  | cons x st ih =>
    rw [List.find?_cons]
    have hx:=List.pairwise_cons.1 (by simpa using hn:(x.1 :: st.map (·.1)).Nodup)
    rcases List.mem_cons.1 he with rfl | he
    . simp
    . have:¬ x.1=e.1:=hx.1 e.1 (List.mem_map.2 ⟨e,he,rfl⟩)
      rw [decide_eq_false this]
      exact ih hx.2 he
theorem bdD_none {st:List (List Int × Int)}{b:List Int}(h:b ∉ st.map (·.1)):bdD st b=none:=by
  unfold bdD
  have:st.find? (fun e=>decide (e.1=b))=none:=by
    rw [List.find?_eq_none]
    intro e he
    simp only [decide_eq_true_eq]
    exact fun g=>h (List.mem_map.2 ⟨e,he,g⟩)
  rw [this];rfl
theorem bdD_mem {st:List (List Int × Int)}{b:List Int}{d:Int}(h:bdD st b=some d):(b,d) ∈ st:=by
  unfold bdD at h
  cases hf:st.find? (fun e=>decide (e.1=b)) with
  | none=>rw [hf] at h;cases h
  | some e =>
    rw [hf] at h
    have h1:=List.find?_some hf
    have h2:=List.mem_of_find?_eq_some hf
    simp only [decide_eq_true_eq] at h1
    simp only [Option.map_some,Option.some.injEq] at h
    rw [<- h1,<- h];exact h2
def cd122:Cd:=(.seq (.reg [⟨⟨some 4,.alloc 47,none⟩,[]⟩]) (.seq (.reg [⟨⟨some 5,.move (.tmp 0),none⟩,[]⟩,
  ⟨⟨some 6,.move (.tmp 1),none⟩,[]⟩,
  ⟨⟨some 7,.call ⟨(.builtin .min),#[.tmp 5,.tmp 6],#[3,3]⟩,none⟩,[]⟩,
  ⟨⟨some 8,.move (.tmp 0),none⟩,[]⟩,
  ⟨⟨some 9,.move (.tmp 1),none⟩,[]⟩,
  ⟨⟨some 10,.call ⟨(.builtin .max),#[.tmp 8,.tmp 9],#[3,3]⟩,none⟩,[]⟩,
  ⟨⟨some 11,.build 47 #[(0,.tmp 7),(1,.tmp 10)],none⟩,[]⟩,
  ⟨⟨none,.store 47 (.tmp 4) (.tmp 11),none⟩,[]⟩]) .ret))
theorem in122:InT Tryz.prog 122 2 [.cell 4 47] cd122:=InT.mk (by kernel_rfl) [] Tryz.func122 rfl (by kernel_rfl) (by kernel_rfl) (of_decide_eq_true (by kernel_rfl)) (by kernel_rfl)
end Go.Proofs.YtjnefjchconebaaGreat.Ai
namespace Go.Proofs.YtjnefjchconebaaGreat.Ai
open Go Go.RowKit
theorem pair_c (a b:Int)(H:AH):ACalls Tryz.prog 122 [.int .i64 a,.int .i64 b] H fun r H'=>r=.agg (List.toArray [.int .i64 (minI a b),.int .i64 (maxI a b)])/\H<+:H':=by
  refine in122 rfl ?_
  intro Q hQ
  have st:=store_a2 H [.int .i64 0,.int .i64 0] rfl
  simp (disch:=omega) only [cd122,alloc_a2,build_a2,st,SS,eq_self,reduceIte,reduceCtorEq,Nat.reduceEqDiff,Nat.reduceAdd]
  refine hQ _ _ _ (end_cell _ _ _ _ _ _ (.agg (List.toArray [.int .i64 (minI a b),.int .i64 (maxI a b)])) ?_ rfl ⟨rfl,List.prefix_append _ _⟩)
  simp only [SS,eq_self,reduceIte,reduceCtorEq,Nat.reduceEqDiff,Nat.reduceAdd]
  exact load_a2 ..
def cd208:Cd:=(.seq (.reg [⟨⟨some 3,.box 47 (.tmp 1),none⟩,[]⟩,
  ⟨⟨some 4,.assign (.const (.int .i64 0)),none⟩,[]⟩]) (.seq (.seq (.reg [⟨⟨some 6,.move (.tmp 0),none⟩,[]⟩,
  ⟨⟨some 7,.call ⟨(.builtin .len),#[.tmp 6],#[24]⟩,none⟩,[]⟩,
  ⟨⟨some 8,.move (.const (.int .i64 0)),none⟩,[]⟩]) (.block 0 (.loop (.seq (.reg [⟨⟨some 9,.binOp .lss 3 (.tmp 8) (.tmp 7) 3,none⟩,[]⟩]) (.seq (.cond (.tmp 9) .skip (.exit 0)) (.seq (.block 1 (.seq (.reg [⟨⟨some 10,.move (.tmp 8),none⟩,[]⟩,
  ⟨⟨some 5,.assign (.tmp 10),none⟩,[]⟩]) (.seq (.reg [⟨⟨some 11,.load 47 (.tmp 3),none⟩,[]⟩,
  ⟨⟨some 12,.move (.tmp 0),none⟩,[]⟩,
  ⟨⟨some 13,.move (.tmp 5),none⟩,[]⟩,
  ⟨⟨some 14,.indexAddr 24 (.tmp 12) (.tmp 13),none⟩,[]⟩,
  ⟨⟨some 15,.load 47 (.tmp 14),none⟩,[]⟩,
  ⟨⟨some 16,.binOp .eql 47 (.tmp 11) (.tmp 15) 47,none⟩,[]⟩]) (.cond (.tmp 16) (.seq (.reg [⟨⟨some 17,.move (.tmp 5),none⟩,[]⟩,
  ⟨⟨some 4,.assign (.tmp 17),none⟩,[]⟩]) .ret) .skip)))) (.reg [⟨⟨some 18,.binOp .add 3 (.tmp 8) (.const (.int .i64 1)) 3,none⟩,[]⟩,
  ⟨⟨some 8,.move (.tmp 18),none⟩,[]⟩]))))))) (.seq (.reg [⟨⟨some 4,.assign (.const (.int .i64 (-1))),none⟩,[]⟩]) .ret)))
theorem in208:InT Tryz.prog 208 2 [.tmp 4] cd208:=InT.mk (by kernel_rfl) [(4,[(0,false),(1,false),(2,false),(3,false),(4,false),(5,false)])] Tryz.func208 rfl (by kernel_rfl) (by kernel_rfl) (of_decide_eq_true (by kernel_rfl)) (by kernel_rfl)
def cd169:Cd:=(.seq (.reg [⟨⟨some 3,.box 47 (.tmp 1),none⟩,[]⟩,
  ⟨⟨some 4,.assign (.const (.bool false)),none⟩,[]⟩]) (.seq (.reg [⟨⟨some 5,.move (.tmp 0),none⟩,[]⟩,
  ⟨⟨some 6,.load 47 (.tmp 3),none⟩,[]⟩,
  ⟨⟨some 7,.call ⟨(.value (.func 208)),#[.tmp 5,.tmp 6],#[24,47]⟩,none⟩,[]⟩,
  ⟨⟨some 8,.binOp .geq 3 (.tmp 7) (.const (.int .i64 0)) 3,none⟩,[]⟩,
  ⟨⟨some 4,.assign (.tmp 8),none⟩,[]⟩]) .ret))
theorem in169:InT Tryz.prog 169 2 [.tmp 4] cd169:=InT.mk (by kernel_rfl) [] Tryz.func169 rfl (by kernel_rfl) (by kernel_rfl) (of_decide_eq_true (by kernel_rfl)) (by kernel_rfl)
def cd85:Cd:=(.seq (.reg [⟨⟨some 3,.box 26 (.tmp 0),none⟩,[]⟩,
  ⟨⟨some 6,.assign (.const (.bool false)),none⟩,[]⟩]) (.seq (.reg [⟨⟨some 7,.fieldAddr 26 (.tmp 3) 1,none⟩,[]⟩,
  ⟨⟨some 8,.load 24 (.tmp 7),none⟩,[]⟩,
  ⟨⟨some 9,.move (.tmp 1),none⟩,[]⟩,
  ⟨⟨some 10,.move (.tmp 2),none⟩,[]⟩,
  ⟨⟨some 11,.call ⟨(.value (.func 122)),#[.tmp 9,.tmp 10],#[3,3]⟩,none⟩,[⟨some 8,.load 24 (.tmp 7),none⟩]⟩,
  ⟨⟨some 12,.call ⟨(.value (.func 169)),#[.tmp 8,.tmp 11],#[24,47]⟩,none⟩,[]⟩,
  ⟨⟨some 6,.assign (.tmp 12),none⟩,[]⟩]) .ret))
theorem in85:InT Tryz.prog 85 3 [.tmp 6] cd85:=InT.mk (by kernel_rfl) [(1,[(0,false),(1,false),(2,false),(3,false),(4,true),(5,true),(6,false)])] Tryz.func85 rfl (by kernel_rfl) (by kernel_rfl) (of_decide_eq_true (by kernel_rfl)) (by kernel_rfl)
def cd88:Cd:=(.seq (.reg [⟨⟨some 3,.box 26 (.tmp 0),none⟩,[]⟩,⟨⟨some 6,.assign (.const (.bool false)),none⟩,[]⟩]) (.seq (.seq (.reg [⟨⟨some 7,.assign (.const (.int .i64 0)),none⟩,[]⟩]) (.block 0 (.loop (.seq (.seq (.reg [⟨⟨some 9,.move (.tmp 7),none⟩,[]⟩,⟨⟨some 10,.fieldAddr 26 (.tmp 3) 1,none⟩,[]⟩,⟨⟨some 11,.load 24 (.tmp 10),none⟩,[]⟩,⟨⟨some 12,.call ⟨(.builtin .len),#[.tmp 11],#[24]⟩,none⟩,[]⟩,⟨⟨some 13,.binOp .lss 3 (.tmp 9) (.tmp 12) 3,none⟩,[]⟩]) (.cond (.tmp 13) .skip (.exit 0))) (.seq (.block 1 (.seq (.reg [⟨⟨some 16,.fieldAddr 26 (.tmp 3) 1,none⟩,[]⟩,⟨⟨some 17,.load 24 (.tmp 16),none⟩,[]⟩,⟨⟨some 18,.move (.tmp 7),none⟩,[]⟩,⟨⟨some 19,.indexAddr 24 (.tmp 17) (.tmp 18),none⟩,[]⟩,⟨⟨some 20,.load 47 (.tmp 19),none⟩,[]⟩,⟨⟨some 8,.alloc 47,none⟩,[]⟩,⟨⟨none,.store 47 (.tmp 8) (.tmp 20),none⟩,[]⟩]) (.seq (.reg [⟨⟨some 21,.indexAddr 47 (.tmp 8) (.const (.int .i64 0)),none⟩,[]⟩,
 ⟨⟨some 22,.load 3 (.tmp 21),none⟩,[]⟩,⟨⟨some 23,.move (.tmp 1),none⟩,[]⟩,⟨⟨some 24,.binOp .eql 3 (.tmp 22) (.tmp 23) 3,none⟩,[]⟩,⟨⟨some 25,.move (.tmp 24),none⟩,[]⟩,⟨⟨some 26,.indexAddr 47 (.tmp 8) (.const (.int .i64 1)),some (25,true)⟩,[]⟩,⟨⟨some 27,.load 3 (.tmp 26),some (25,true)⟩,[]⟩,⟨⟨some 28,.move (.tmp 2),some (25,true)⟩,[]⟩,⟨⟨some 29,.binOp .eql 3 (.tmp 27) (.tmp 28) 3,some (25,true)⟩,[]⟩,⟨⟨some 30,.pick (.tmp 25) (.tmp 29) (.const (.bool false)),none⟩,[]⟩,⟨⟨some 31,.move (.tmp 30),none⟩,[]⟩,⟨⟨some 32,.indexAddr 47 (.tmp 8) (.const (.int .i64 0)),some (31,false)⟩,[]⟩,⟨⟨some 33,.load 3 (.tmp 32),some (31,false)⟩,[]⟩,
 ⟨⟨some 34,.move (.tmp 2),some (31,false)⟩,[]⟩,
  ⟨⟨some 35,.binOp .eql 3 (.tmp 33) (.tmp 34) 3,some (31,false)⟩,[]⟩,
  ⟨⟨some 36,.move (.tmp 35),some (31,false)⟩,[]⟩,
  ⟨⟨some 37,.indexAddr 47 (.tmp 8) (.const (.int .i64 1)),some (36,true)⟩,[]⟩,
  ⟨⟨some 38,.load 3 (.tmp 37),some (36,true)⟩,[]⟩,
  ⟨⟨some 39,.move (.tmp 1),some (36,true)⟩,[]⟩,
  ⟨⟨some 40,.binOp .eql 3 (.tmp 38) (.tmp 39) 3,some (36,true)⟩,[]⟩,
  ⟨⟨some 41,.pick (.tmp 36) (.tmp 40) (.const (.bool false)),some (31,false)⟩,[]⟩,
  ⟨⟨some 42,.pick (.tmp 31) (.const (.bool true)) (.tmp 41),none⟩,[]⟩]) (.cond (.tmp 42) (.seq (.reg [⟨⟨some 6,.assign (.const (.bool true)),none⟩,[]⟩]) .ret) .skip)))) (.reg [⟨⟨some 14,.move (.tmp 7),none⟩,[]⟩,
  ⟨⟨some 15,.binOp .add 3 (.tmp 14) (.const (.int .i64 1)) 3,none⟩,[]⟩,
  ⟨⟨some 7,.assign (.tmp 15),none⟩,[]⟩])))))) (.seq (.reg [⟨⟨some 6,.assign (.const (.bool false)),none⟩,[]⟩]) .ret)))
theorem in88:InT Tryz.prog 88 3 [.tmp 6] cd88:=InT.mk (by kernel_rfl) [] Tryz.func88 rfl (by kernel_rfl) (by kernel_rfl) (of_decide_eq_true (by kernel_rfl)) (by kernel_rfl)
def cd156:Cd:=(.seq (.reg [⟨⟨some 2,.box 26 (.tmp 0),none⟩,[]⟩,⟨⟨some 4,.assign (.const (.slice none 0 0)),none⟩,[]⟩]) (.seq (.reg [⟨⟨some 7,.buildSlice 27 0 #[],none⟩,[]⟩,⟨⟨some 5,.assign (.tmp 7),none⟩,[]⟩]) (.seq (.seq (.reg [⟨⟨some 8,.fieldAddr 26 (.tmp 2) 0,none⟩,[]⟩,⟨⟨some 9,.load 3 (.tmp 8),none⟩,[]⟩,⟨⟨some 10,.move (.const (.int .i64 0)),none⟩,[]⟩]) (.block 0 (.loop (.seq (.reg [⟨⟨some 11,.binOp .lss 3 (.tmp 10) (.tmp 9) 3,none⟩,[]⟩]) (.seq (.cond (.tmp 11) .skip (.exit 0)) (.seq (.block 1 (.seq (.reg [⟨⟨some 12,.move (.tmp 10),none⟩,[]⟩,⟨⟨some 6,.assign (.tmp 12),none⟩,[]⟩]) (.seq (.reg [⟨⟨some 13,.move (.tmp 6),none⟩,[]⟩,⟨⟨some 14,.move (.tmp 1),none⟩,[]⟩,⟨⟨some 15,.binOp .neq 3 (.tmp 13) (.tmp 14) 3,none⟩,[]⟩,⟨⟨some 16,.move (.tmp 15),none⟩,[]⟩,⟨⟨some 17,.load 26 (.tmp 2),some (16,true)⟩,[]⟩,⟨⟨some 18,.move (.tmp 1),some (16,true)⟩,[]⟩,⟨⟨some 19,.move (.tmp 6),some (16,true)⟩,[]⟩,
 ⟨⟨some 20,.call ⟨(.value (.func 85)),#[.tmp 17,.tmp 18,.tmp 19],#[26,3,3]⟩,some (16,true)⟩,[]⟩,
  ⟨⟨some 21,.pick (.tmp 16) (.tmp 20) (.const (.bool false)),none⟩,[]⟩]) (.cond (.tmp 21) (.reg [⟨⟨some 22,.move (.tmp 5),none⟩,[]⟩,
  ⟨⟨some 23,.move (.tmp 6),none⟩,[]⟩,
  ⟨⟨some 24,.buildSlice 27 1 #[(0,.tmp 23)],none⟩,[]⟩,
  ⟨⟨some 25,.call ⟨(.builtin .append),#[.tmp 22,.tmp 24],#[27,27]⟩,none⟩,[]⟩,
  ⟨⟨some 5,.assign (.tmp 25),none⟩,[]⟩]) .skip)))) (.reg [⟨⟨some 26,.binOp .add 3 (.tmp 10) (.const (.int .i64 1)) 3,none⟩,[]⟩,
  ⟨⟨some 10,.move (.tmp 26),none⟩,[]⟩]))))))) (.seq (.reg [⟨⟨some 27,.move (.tmp 5),none⟩,[]⟩,
  ⟨⟨some 4,.assign (.tmp 27),none⟩,[]⟩]) .ret))))
theorem in156:InT Tryz.prog 156 2 [.tmp 4] cd156:=InT.mk (by kernel_rfl) [] Tryz.func156 rfl (by kernel_rfl) (by kernel_rfl) (of_decide_eq_true (by kernel_rfl)) (by kernel_rfl)
end Go.Proofs.YtjnefjchconebaaGreat.Ai
namespace Go.Proofs.YtjnefjchconebaaGreat.Ai
open Go Go.RowKit
def hitB (a b:Int)(e:Int × Int):Bool:=decide (e.1=a/\e.2=b∨e.1=b/\e.2=a)
def nearB (es:List (Int × Int))(a b:Int):Bool:=es.any (hitB a b)
theorem any_step {α:Type}(p:α->Bool)(xs:List α)(d:α)(i:Nat)(hi:i<xs.length):(xs.drop i).any p=(p (xs.getD i d) || (xs.drop (i+1)).any p):=by
  have:xs.getD i d=xs[i]:=by simp [hi]
  rw [List.drop_eq_getElem_cons hi,List.any_cons,this]
theorem nearB_comm (es:List (Int × Int))(a b:Int):nearB es a b=nearB es b a:=by
  have:hitB a b=hitB b a:=by
    funext e
    unfold hitB
    rw [decide_eq_decide]
    exact ⟨fun h=>h.elim .inr .inl,fun h=>h.elim .inr .inl⟩
  unfold nearB
  rw [this]
theorem nearB_iff (es:List (Int × Int))(a b:Int):nearB es a b=true↔((a,b) ∈ es∨(b,a) ∈ es):=by
  unfold nearB hitB
  rw [List.any_eq_true]
  constructor
  . rintro ⟨⟨x,y⟩,hm,h⟩
    rcases of_decide_eq_true h with h | h
    . obtain ⟨h1,h2⟩:=h
      simp only at h1 h2
      subst h1;subst h2;exact .inl hm
    . obtain ⟨h1,h2⟩:=h
      simp only at h1 h2
      subst h1;subst h2;exact .inr hm
  . rintro (h | h)
    . exact ⟨_,h,by simp⟩
    . exact ⟨_,h,by simp⟩
theorem grd_mem {n:Int}{es:List (Int × Int)}(hg:Grd n es){e:Int × Int}(he:e ∈ es):0<=e.1/\e.1<e.2/\e.2<n:=by
  obtain ⟨i,hi,rfl⟩:=List.mem_iff_getElem.1 he
  obtain ⟨h1,h2,h3,_⟩:=hg.2 i hi
  have:es.getD i (0,0)=es[i]:=by simp [hi]
  rw [this] at h1 h2 h3
  exact ⟨h1,h2,h3⟩
theorem near_rng {n:Int}{es:List (Int × Int)}(hg:Grd n es){a b:Int}(h:nearB es a b=true):(0<=a/\a<n)/\(0<=b/\b<n)/\a ≠ b:=by
  rcases (nearB_iff es a b).1 h with h | h <;> have:=grd_mem hg h <;> simp only at this <;> omega
theorem near_has {n:Int}{es:List (Int × Int)}(hg:Grd n es)(a b:Int)(hab:b ≠ a):decide ((minI a b,maxI a b) ∈ es)=nearB es a b:=by
  rw [Bool.eq_iff_iff,decide_eq_true_iff,nearB_iff]
  by_cases h:a<=b
  . have e1:minI a b=a:=by unfold minI;split <;> omega
    have e2:maxI a b=b:=by unfold maxI;split <;> omega
    rw [e1,e2]
    exact ⟨.inl,fun h'=>h'.resolve_right fun h''=>by have:=grd_mem hg h'';simp only at this;omega⟩
  . have e1:minI a b=b:=by unfold minI;split <;> omega
    have e2:maxI a b=a:=by unfold maxI;split <;> omega
    rw [e1,e2]
    exact ⟨.inr,fun h'=>h'.resolve_left fun h''=>by have:=grd_mem hg h'';simp only at this;omega⟩
def nbsU (es:List (Int × Int))(x:Int):Nat->List Int
  | 0=>[]
  | k+1=>nbsU es x k ++ if nearB es x k=true then [(k:Int)] else []
theorem nbsU_len (es:List (Int × Int))(x:Int)(k:Nat):(nbsU es x k).length<=k:=by
  induction k with
  | zero=>simp [nbsU]
  | succ k ih=>simp only [nbsU,List.length_append];split <;> simp <;> omega
theorem nbsU_mem (es:List (Int × Int))(x:Int)(k:Nat)(y:Int):y ∈ nbsU es x k↔(0<=y/\y<k)/\nearB es x y=true:=by
  induction k with
  | zero=>simp [nbsU];intro h1 h2;omega
  | succ k ih =>
    simp only [nbsU,List.mem_append,ih]
    constructor
    . rintro (⟨h1,h2⟩ | h)
      . exact ⟨by omega,h2⟩
      . split at h
        . rename_i hn
          simp only [List.mem_cons,List.not_mem_nil,or_false] at h
          subst h;exact ⟨by omega,hn⟩
        . simp at h
    . rintro ⟨h1,h2⟩
      by_cases h:y<k
      . exact .inl ⟨by omega,h2⟩
      . obtain rfl:y=k:=by omega
        right;rw [if_pos h2];simp
theorem eq_a2 (a b c d:Int):binA Tryz.prog .eql 47 (.agg (List.toArray [.int .i64 a,.int .i64 b])) (.agg (List.toArray [.int .i64 c,.int .i64 d]))=some (.bool (decide ((a,b)=(c,d)))):=by
  have h:binA Tryz.prog .eql 47 (.agg (List.toArray [.int .i64 a,.int .i64 b])) (.agg (List.toArray [.int .i64 c,.int .i64 d]))=some (.bool (a == c && b == d)):=by kernel_rfl
  have h2:(a == c && b == d)=decide ((a,b)=(c,d)):=by
    rw [Bool.eq_iff_iff]
    simp
  rw [h,h2]
theorem IndexP_c (v:Value)(ps:List (Int × Int))(p:Int × Int)(H:AH)(hr:RowP 47 H v ps)(hlen:ps.length<=1099511627776) :
    ACalls Tryz.prog 208 [v,.agg (List.toArray [.int .i64 p.1,.int .i64 p.2])] H fun r H'=>(∃ k:Int,r=.int .i64 k/\(0<=k↔p ∈ ps))/\H<+:H':=by
  refine in208 rfl ?_
  intro Q hQ
  simp (disch:=omega) only [cd208,box_a2,hr.len Tryz.underlying24,SS,eq_self,reduceIte,reduceCtorEq,Nat.reduceEqDiff,Nat.reduceAdd]
  generalize hA:H ++ [AObj.cells [.int .i64 p.1,.int .i64 p.2] 47 false]=A
  have pA:H<+:A:=by rw [<- hA];exact List.prefix_append _ _
  have cA:A[H.length]?=some (.cells [.int .i64 p.1,.int .i64 p.2] 47 false):=by rw [<- hA];exact at_new ..
  have rA:=hr.pre pA
  refine LoopH.by (fun m s H'=>∃ i,m+i=ps.length/\s 0=v/\s 3=.pointer (some ⟨H.length,0,none⟩)/\s 7=.int .i64 (ps.length:Int)/\s 8=.int .i64 ((i:Nat):Int)/\A=H'/\∀ j,j<i->ps.getD j (0,0) ≠ p) ps.length ?_ ?_
  . exact ⟨0,by simp,rfl,rfl,rfl,rfl,rfl,fun j hj=>absurd hj (Nat.not_lt_zero j)⟩
  . rintro m s H' ⟨i,hm,h0,h3,h7,h8,rfl,hn⟩
    simp (disch:=omega) only [h0,h3,h7,h8,SS,eq_self,reduceIte,reduceCtorEq,Nat.reduceEqDiff,Nat.reduceAdd]
    refine brD.intro (fun g=>?_) (fun g=>?_)
    . have hi:i<ps.length:=by omega
      simp (disch:=omega) only [h0,h3,h7,h8,ld_a2 cA,rA.ix Tryz.underlying24 cs47,Int.toNat_natCast,rA.ld ag47 cs47 hi,eq_a2,SS,eq_self,reduceIte,reduceCtorEq,Nat.reduceEqDiff,Nat.reduceAdd]
      refine brD.intro (fun e=>?_) (fun e=>?_) <;> simp (disch:=omega) only [h0,h3,h7,h8,wrap64,SS,eq_self,reduceIte,reduceCtorEq,Nat.reduceEqDiff,Nat.reduceAdd]
      . refine hQ _ _ _ ?_
        simp (disch:=omega) only [SS,eq_self,reduceIte,reduceCtorEq,Nat.reduceEqDiff,Nat.reduceAdd]
        have e':p=ps.getD i (0,0):=e
        have hm:p ∈ ps:=by rw [e'];simp [hi]
        exact ⟨⟨i,rfl,⟨fun _=>hm,fun _=>by omega⟩⟩,pA⟩
      . have f1:∀ j,j<i+1->ps.getD j (0,0) ≠ p:=by
          intro j hj
          rcases Nat.lt_succ_iff_lt_or_eq.1 hj with h | h
          . exact hn j h
          . rw [h];intro h';exact e h'.symm
        refine ⟨m - 1,by omega,i+1,?_⟩
        (repeat' apply And.intro) <;> first | exact f1 | (simp only [Value.int.injEq,true_and];omega) | omega | rfl | assumption | (simp;done) | (simp;omega)
    . simp (disch:=omega) only [SS,eq_self,reduceIte,reduceCtorEq,Nat.reduceEqDiff,Nat.reduceAdd]
      refine hQ _ _ _ ?_
      simp (disch:=omega) only [SS,eq_self,reduceIte,reduceCtorEq,Nat.reduceEqDiff,Nat.reduceAdd]
      refine ⟨⟨-1,rfl,⟨fun h=>absurd h (by omega),fun h=>?_⟩⟩,pA⟩
      obtain ⟨j,hj,e⟩:=List.mem_iff_getElem.1 h
      exact absurd (by simp [hj,e]) (hn j (by omega))
theorem ContainsP_c (v:Value)(ps:List (Int × Int))(p:Int × Int)(H:AH)(hr:RowP 47 H v ps)(hlen:ps.length<=1099511627776) :
    ACalls Tryz.prog 169 [v,.agg (List.toArray [.int .i64 p.1,.int .i64 p.2])] H fun r H'=>r=.bool (decide (p ∈ ps))/\H<+:H':=by
  refine in169 rfl ?_
  intro Q hQ
  simp (disch:=omega) only [cd169,box_a2,SS,eq_self,reduceIte,reduceCtorEq,Nat.reduceEqDiff,Nat.reduceAdd]
  generalize hA:H ++ [AObj.cells [.int .i64 p.1,.int .i64 p.2] 47 false]=A
  have pA:H<+:A:=by rw [<- hA];exact List.prefix_append _ _
  have cA:A[H.length]?=some (.cells [.int .i64 p.1,.int .i64 p.2] 47 false):=by rw [<- hA];exact at_new ..
  simp (disch:=omega) only [ld_a2 cA,SS,eq_self,reduceIte,reduceCtorEq,Nat.reduceEqDiff,Nat.reduceAdd]
  refine CallH.by (IndexP_c v ps p A (hr.pre pA) hlen) ?_
  rintro _ B ⟨⟨k,rfl,hk⟩,pB⟩
  simp (disch:=omega) only [SS,eq_self,reduceIte,reduceCtorEq,Nat.reduceEqDiff,Nat.reduceAdd]
  refine hQ _ _ _ ?_
  simp (disch:=omega) only [SS,eq_self,reduceIte,reduceCtorEq,Nat.reduceEqDiff,Nat.reduceAdd]
  refine ⟨?_,pA.trans pB⟩
  rw [Value.bool.injEq,decide_eq_decide];exact hk
theorem has_G (n:Int)(v:Value)(es:List (Int × Int))(a b:Int)(H:AH)(hr:RowP 47 H v es)(hlen:es.length<=1099511627776) :
    ACalls Tryz.prog 85 [.agg (List.toArray [.int .i64 n,v]),.int .i64 a,.int .i64 b] H fun r H'=>r=.bool (decide ((minI a b,maxI a b) ∈ es))/\H<+:H':=by
  refine in85 rfl ?_
  intro Q hQ
  simp (disch:=omega) only [cd85,hr.boxG,SS,eq_self,reduceIte,reduceCtorEq,Nat.reduceEqDiff,Nat.reduceAdd]
  generalize hA:H ++ [AObj.cells [.int .i64 n,v] 26 false]=A
  have pA:H<+:A:=by rw [<- hA];exact List.prefix_append _ _
  have cA:A[H.length]?=some (.cells [.int .i64 n,v] 26 false):=by rw [<- hA];exact at_new ..
  have rA:=hr.pre pA
  simp (disch:=omega) only [cell_of cA,SS,eq_self,reduceIte,reduceCtorEq,Nat.reduceEqDiff,Nat.reduceAdd]
  refine CallH.by (pair_c a b A) ?_
  rintro _ B ⟨rfl,pB⟩
  have cB:=pre_at pB cA
  simp (disch:=omega) only [cell_of cB,SS,eq_self,reduceIte,reduceCtorEq,Nat.reduceEqDiff,Nat.reduceAdd]
  refine CallH.by (ContainsP_c v es (minI a b,maxI a b) B (rA.pre pB) hlen) ?_
  rintro _ C ⟨rfl,pC⟩
  simp (disch:=omega) only [SS,eq_self,reduceIte,reduceCtorEq,Nat.reduceEqDiff,Nat.reduceAdd]
  refine hQ _ _ _ ?_
  simp (disch:=omega) only [SS,eq_self,reduceIte,reduceCtorEq,Nat.reduceEqDiff,Nat.reduceAdd]
  exact pA.trans (pB.trans pC)
theorem l2Near_c (n:Int)(v:Value)(es:List (Int × Int))(a b:Int)(H:AH)(hr:RowP 47 H v es)(hlen:es.length<=1099511627776) :
    ACalls Tryz.prog 88 [.agg (List.toArray [.int .i64 n,v]),.int .i64 a,.int .i64 b] H fun r H'=>r=.bool (nearB es a b)/\H<+:H':=by
  refine in88 rfl ?_
  intro Q hQ
  simp (disch:=omega) only [cd88,hr.boxG,SS,eq_self,reduceIte,reduceCtorEq,Nat.reduceEqDiff,Nat.reduceAdd]
  generalize hA:H ++ [AObj.cells [.int .i64 n,v] 26 false]=A
  have pA:H<+:A:=by rw [<- hA];exact List.prefix_append _ _
  have cA:A[H.length]?=some (.cells [.int .i64 n,v] 26 false):=by rw [<- hA];exact at_new ..
  have rA:=hr.pre pA
  try simp (disch:=omega) only [SS,eq_self,reduceIte,reduceCtorEq,Nat.reduceEqDiff,Nat.reduceAdd]
  refine LoopH.by (fun m s H'=>∃ i,m+i=es.length/\s 1=.int .i64 a/\s 2=.int .i64 b/\s 3=.pointer (some ⟨H.length,0,none⟩)/\s 7=.int .i64 ((i:Nat):Int)/\nearB es a b=(es.drop i).any (hitB a b)/\A<+:H') es.length ?_ ?_
  . exact ⟨0,by simp,rfl,rfl,rfl,rfl,by rw [List.drop_zero];rfl,List.prefix_refl _⟩
  . rintro m s H' ⟨i,hm,h1,h2,h3,h7,hn,hp⟩
    have hr':=rA.pre hp
    have cH:=pre_at hp cA
    have hpp:=pA.trans hp
    simp (disch:=omega) only [h1,h2,h3,h7,cell_of cH,hr'.len Tryz.underlying24,SS,eq_self,reduceIte,reduceCtorEq,Nat.reduceEqDiff,Nat.reduceAdd]
    refine brD.intro (fun g=>?_) (fun g=>?_)
    . have hi:i<es.length:=by omega
      have hst0:=store_a2 H' [.int .i64 0,.int .i64 0] rfl
      rw [any_step _ es (0,0) i hi] at hn
      simp (disch:=omega) only [h1,h2,h3,h7,cell_of cH,hr'.ix Tryz.underlying24 cs47,Int.toNat_natCast,hr'.ld ag47 cs47 hi,alloc_a2,hst0,cell_new,wrap64,SS,eq_self,reduceIte,reduceCtorEq,Nat.reduceEqDiff,Nat.reduceAdd]
      generalize hx:es.getD i (0,0)=x at *
      have pB:A<+:H' ++ [AObj.cells [.int .i64 x.1,.int .i64 x.2] 47 false]:=pre_app hp _
      have yes:hitB a b x=true->nearB es a b=true:=fun h=>by rw [hn,h];rfl
      have no:hitB a b x=false->nearB es a b=(es.drop (i+1)).any (hitB a b):=fun h=>by rw [hn,h];rfl
      unfold hitB at yes no
      rw [decide_eq_true_iff] at yes
      rw [decide_eq_false_iff_not] at no
      have second:¬ (x.1=a/\x.2=b)->True:=fun _=>trivial
      refine brD.intro (fun e1=>?_) (fun e1=>?_) <;> (first | have de1:=decide_eq_false e1 | have de1:=decide_eq_true e1) <;> simp (disch:=omega) only [de1,h1,h2,h3,h7,cell_new,wrap64,SS,eq_self,reduceIte,reduceCtorEq,Nat.reduceEqDiff,Nat.reduceAdd]
      . refine brD.intro (fun e2=>?_) (fun e2=>?_) <;> (first | have de2:=decide_eq_false e2 | have de2:=decide_eq_true e2) <;> simp (disch:=omega) only [de1,de2,h1,h2,h3,h7,cell_new,wrap64,SS,eq_self,reduceIte,reduceCtorEq,Nat.reduceEqDiff,Nat.reduceAdd]
        . refine hQ _ _ _ ?_
          simp (disch:=omega) only [SS,eq_self,reduceIte,reduceCtorEq,Nat.reduceEqDiff,Nat.reduceAdd]
          exact ⟨by rw [yes (by omega)],pA.trans pB⟩
        . refine brD.intro (fun e3=>?_) (fun e3=>?_) <;> (first | have de3:=decide_eq_false e3 | have de3:=decide_eq_true e3) <;> simp (disch:=omega) only [de1,de2,de3,h1,h2,h3,h7,cell_new,wrap64,SS,eq_self,reduceIte,reduceCtorEq,Nat.reduceEqDiff,Nat.reduceAdd]
          . refine brD.intro (fun e4=>?_) (fun e4=>?_) <;> (first | have de4:=decide_eq_false e4 | have de4:=decide_eq_true e4) <;> simp (disch:=omega) only [de1,de2,de3,de4,h1,h2,h3,h7,cell_new,wrap64,SS,eq_self,reduceIte,reduceCtorEq,Nat.reduceEqDiff,Nat.reduceAdd]
            . refine hQ _ _ _ ?_
              simp (disch:=omega) only [SS,eq_self,reduceIte,reduceCtorEq,Nat.reduceEqDiff,Nat.reduceAdd]
              exact ⟨by rw [yes (by omega)],pA.trans pB⟩
            . have f1:=no (by omega)
              refine ⟨m - 1,by omega,i+1,?_⟩
              (repeat' first | exact f1 | exact pB | apply And.intro) <;> first | (simp only [Value.int.injEq,true_and];omega) | omega | rfl | assumption | (simp;done) | (simp;omega)
          . have f1:=no (by omega)
            refine ⟨m - 1,by omega,i+1,?_⟩
            (repeat' first | exact f1 | exact pB | apply And.intro) <;> first | (simp only [Value.int.injEq,true_and];omega) | omega | rfl | assumption | (simp;done) | (simp;omega)
      . refine brD.intro (fun e3=>?_) (fun e3=>?_) <;> (first | have de3:=decide_eq_false e3 | have de3:=decide_eq_true e3) <;> simp (disch:=omega) only [de1,de3,h1,h2,h3,h7,cell_new,wrap64,SS,eq_self,reduceIte,reduceCtorEq,Nat.reduceEqDiff,Nat.reduceAdd]
        . refine brD.intro (fun e4=>?_) (fun e4=>?_) <;> (first | have de4:=decide_eq_false e4 | have de4:=decide_eq_true e4) <;> simp (disch:=omega) only [de1,de3,de4,h1,h2,h3,h7,cell_new,wrap64,SS,eq_self,reduceIte,reduceCtorEq,Nat.reduceEqDiff,Nat.reduceAdd]
          . refine hQ _ _ _ ?_
            simp (disch:=omega) only [SS,eq_self,reduceIte,reduceCtorEq,Nat.reduceEqDiff,Nat.reduceAdd]
            exact ⟨by rw [yes (by omega)],pA.trans pB⟩
          . have f1:=no (by omega)
            refine ⟨m - 1,by omega,i+1,?_⟩
            (repeat' first | exact f1 | exact pB | apply And.intro) <;> first | (simp only [Value.int.injEq,true_and];omega) | omega | rfl | assumption | (simp;done) | (simp;omega)
        . have f1:=no (by omega)
          refine ⟨m - 1,by omega,i+1,?_⟩
          (repeat' first | exact f1 | exact pB | apply And.intro) <;> first | (simp only [Value.int.injEq,true_and];omega) | omega | rfl | assumption | (simp;done) | (simp;omega)
    . simp (disch:=omega) only [h1,h2,h3,h7,SS,eq_self,reduceIte,reduceCtorEq,Nat.reduceEqDiff,Nat.reduceAdd]
      refine hQ _ _ _ ?_
      simp (disch:=omega) only [SS,eq_self,reduceIte,reduceCtorEq,Nat.reduceEqDiff,Nat.reduceAdd]
      rw [hn,List.drop_of_length_le (by omega)]
      exact ⟨rfl,hpp⟩
theorem neighbors_c (n:Int)(v:Value)(es:List (Int × Int))(x:Int)(H:AH)(hr:RowP 47 H v es)(hlen:es.length<=1099511627776)(hg:Grd n es) :
    ACalls Tryz.prog 156 [.agg (List.toArray [.int .i64 n,v]),.int .i64 x] H fun r H'=>Own 3 H H' r (nbsU es x n.toNat)/\H<+:H':=by
  have hn:=hg.1
  refine in156 rfl ?_
  intro Q hQ
  simp (disch:=omega) only [cd156,hr.boxG,SS,eq_self,reduceIte,reduceCtorEq,Nat.reduceEqDiff,Nat.reduceAdd]
  generalize hA:H ++ [AObj.cells [.int .i64 n,v] 26 false]=A
  have pA:H<+:A:=by rw [<- hA];exact List.prefix_append _ _
  have cA:A[H.length]?=some (.cells [.int .i64 n,v] 26 false):=by rw [<- hA];exact at_new ..
  have rA:=hr.pre pA
  simp (disch:=omega) only [cell_of (at_app cA _),SS,eq_self,reduceIte,reduceCtorEq,Nat.reduceEqDiff,Nat.reduceAdd]
  refine LoopH.by (fun m s H'=>∃ i,m+i=n.toNat/\s 1=.int .i64 x/\s 2=.pointer (some ⟨H.length,0,none⟩)/\s 9=.int .i64 n/\s 10=.int .i64 ((i:Nat):Int)/\Own 3 A H' (s 5) (nbsU es x i)/\A<+:H') n.toNat ?_ ?_
  . exact ⟨0,by simp,rfl,rfl,rfl,rfl,.inr ⟨A.length,rfl,Nat.le_refl _,at_new ..⟩,List.prefix_append _ _⟩
  . rintro m s H' ⟨i,hm,h1,h2,h9,h10,ho,hp⟩
    have hr':=rA.pre hp
    have cH:=pre_at hp cA
    have hl:=nbsU_len es x i
    have hst:nbsU es x (i+1)=nbsU es x i ++ if nearB es x i=true then [(i:Int)] else []:=rfl
    generalize hw:s 5=w at *
    simp (disch:=omega) only [h1,h2,h9,h10,hw,SS,eq_self,reduceIte,reduceCtorEq,Nat.reduceEqDiff,Nat.reduceAdd]
    refine brD.intro (fun g=>?_) (fun g=>?_)
    . simp (disch:=omega) only [h1,h2,h9,h10,hw,SS,eq_self,reduceIte,reduceCtorEq,Nat.reduceEqDiff,Nat.reduceAdd]
      refine brD.intro (fun e1=>?_) (fun e1=>?_) <;> simp (disch:=omega) only [e1,h1,h2,h9,h10,hw,ld_agg ag26 cs26 cH,wrap64,SS,eq_self,reduceIte,reduceCtorEq,Nat.reduceEqDiff,Nat.reduceAdd]
      . refine CallH.by (has_G n v es x i H' hr' hlen) ?_
        rintro _ B ⟨rfl,pB⟩
        rw [near_has hg x i (by omega)]
        have hoB:=ho.pre pB
        have hpB:=hp.trans pB
        simp (disch:=omega) only [e1,SS,eq_self,reduceIte,reduceCtorEq,Nat.reduceEqDiff,Nat.reduceAdd]
        refine brH.intro (fun e2=>?_) (fun e2=>?_)
        . obtain ⟨w',H2,k1,k2,k3,k4,k5,k6⟩:=own1_27 hoB hpB (by omega) (i:Int)
          simp (disch:=omega) only [e1,e2,h1,h2,h9,h10,hw,k1,wrap64,SS,eq_self,reduceIte,reduceCtorEq,Nat.reduceEqDiff,Nat.reduceAdd]
          rw [if_pos e2] at hst
          rw [<- hst] at k2
          refine ⟨m - 1,by omega,i+1,?_⟩
          (repeat' first | exact k2 | exact k3 | apply And.intro) <;> first | (simp only [Value.int.injEq,true_and];omega) | omega | rfl | assumption | (simp;done) | (simp;omega)
        . simp (disch:=omega) only [e1,e2,h1,h2,h9,h10,hw,wrap64,SS,eq_self,reduceIte,reduceCtorEq,Nat.reduceEqDiff,Nat.reduceAdd]
          rw [if_neg (by simpa using e2),List.append_nil] at hst
          rw [<- hst] at hoB
          refine ⟨m - 1,by omega,i+1,?_⟩
          (repeat' first | exact hoB | exact hpB | apply And.intro) <;> first | (simp only [Value.int.injEq,true_and];omega) | omega | rfl | assumption | (simp;done) | (simp;omega)
      . have e2:nearB es x i ≠ true:=by
          intro h
          have:=(near_rng hg h).2.2
          omega
        rw [if_neg e2,List.append_nil] at hst
        rw [<- hst] at ho
        refine ⟨m - 1,by omega,i+1,?_⟩
        (repeat' first | exact ho | exact hp | apply And.intro) <;> first | (simp only [Value.int.injEq,true_and];omega) | omega | rfl | assumption | (simp;done) | (simp;omega)
    . simp (disch:=omega) only [hw,SS,eq_self,reduceIte,reduceCtorEq,Nat.reduceEqDiff,Nat.reduceAdd]
      refine hQ _ _ _ ?_
      simp (disch:=omega) only [hw,ho.row.tup,SS,eq_self,reduceIte,reduceCtorEq,Nat.reduceEqDiff,Nat.reduceAdd]
      have:i=n.toNat:=by omega
      subst this
      exact ⟨ho.base pA,pA.trans hp⟩
def holeB (p:List Int)(e:Int × Int):Bool:=decide (p.getD e.1.toNat 0=0) || decide (p.getD e.2.toNat 0=0)
def mvs (es:List (Int × Int))(sl:Bool)(p:List Int):List (Int × Int):=es.filter fun e=>!sl || holeB p e
def nxt (es:List (Int × Int))(sl:Bool)(p:List Int):List (List Int):=(mvs es sl p).map fun e=>swp p e.1.toNat e.2.toNat
theorem mvs_mem {es:List (Int × Int)}{sl:Bool}{p:List Int}{e:Int × Int}(h:e ∈ mvs es sl p):e ∈ es/\(sl=true->holeB p e=true):=by
  unfold mvs at h
  have:=List.mem_filter.1 h
  refine ⟨this.1,fun hs=>?_⟩
  have h2:=this.2
  rw [hs] at h2
  simpa using h2
theorem mvs_len (es:List (Int × Int))(sl:Bool)(p:List Int):(mvs es sl p).length<=es.length:=List.length_filter_le _ _
theorem nxt_len (es:List (Int × Int))(sl:Bool)(p:List Int):(nxt es sl p).length=(mvs es sl p).length:=by simp [nxt]
theorem nxt_bd {n:Nat}{es:List (Int × Int)}(hg:Grd (n:Int) es)(sl:Bool){b:List Int}(hb:Bd n b):∀ c ∈ nxt es sl b,Bd n c:=by
  intro c hc
  obtain ⟨e,he,rfl⟩:=List.mem_map.1 hc
  obtain ⟨h1,h2,h3⟩:=grd_mem hg (mvs_mem he).1
  exact ⟨swp_prm hb.1 (by rw [hb.2];omega) (by rw [hb.2];omega),by rw [swp_len];exact hb.2⟩
theorem swp_inv {p:List Int}{a b:Nat}(ha:a<p.length)(hb:b<p.length):swp (swp p a b) a b=p:=by
  apply List.ext_getElem?
  intro i
  by_cases hi:i<p.length
  . have h1:=swp_at (swp p a b) a b i (by rw [swp_len];exact ha) (by rw [swp_len];exact hb) (by rw [swp_len];exact hi)
    have h2:=swp_at p a b a ha hb ha
    have h3:=swp_at p a b b ha hb hb
    have h4:=swp_at p a b i ha hb hi
    have key:(swp (swp p a b) a b).getD i 0=p.getD i 0:=by
      rw [h1,h2,h3,h4]
      by_cases e1:i=b
      . subst e1
        rw [if_pos rfl]
        by_cases e2:a=i
        . rw [if_pos e2,e2]
        . rw [if_neg e2,if_pos rfl]
      . rw [if_neg e1]
        by_cases e2:i=a
        . subst e2;rw [if_pos rfl,if_pos rfl]
        . rw [if_neg e2,if_neg e1,if_neg e2]
    rw [List.getElem?_eq_getElem (by rw [swp_len,swp_len];exact hi),List.getElem?_eq_getElem hi]
    simp only [List.getD_eq_getElem?_getD] at key
    rw [List.getElem?_eq_getElem (by rw [swp_len,swp_len];exact hi),List.getElem?_eq_getElem hi] at key
    simpa using key
  . rw [List.getElem?_eq_none (by rw [swp_len,swp_len];omega),List.getElem?_eq_none (by omega)]
theorem nxt_back {n:Nat}{es:List (Int × Int)}(hg:Grd (n:Int) es)(sl:Bool){b c:List Int}(hb:Bd n b)(hc:c ∈ nxt es sl b):b ∈ nxt es sl c:=by
  obtain ⟨e,he,rfl⟩:=List.mem_map.1 hc
  obtain ⟨h0,hs⟩:=mvs_mem he
  obtain ⟨h1,h2,h3⟩:=grd_mem hg h0
  have l1:e.1.toNat<b.length:=by rw [hb.2];omega
  have l2:e.2.toNat<b.length:=by rw [hb.2];omega
  refine List.mem_map.2 ⟨e,?_,swp_inv l1 l2⟩
  unfold mvs
  refine List.mem_filter.2 ⟨h0,?_⟩
  cases sl with
  | false=>rfl
  | true =>
    have hh:=hs rfl
    unfold holeB at hh ⊢
    have e1:=swp_at b e.1.toNat e.2.toNat e.1.toNat l1 l2 l1
    have e2:=swp_at b e.1.toNat e.2.toNat e.2.toNat l1 l2 l2
    rw [if_neg (by omega),if_pos rfl] at e1
    rw [if_pos rfl] at e2
    rw [e1,e2]
    simp only [Bool.not_true,Bool.false_or]
    rw [Bool.or_comm];exact hh
def bdR (es:List (Int × Int))(sl:Bool)(p:List Int):List (List Int × Int):=bdA (nxt es sl) p
theorem bdR_I {n:Nat}(hn:n<=6){es:List (Int × Int)}(hg:Grd (n:Int) es)(sl:Bool){p:List Int}(hp:Bd n p):BdI n (nxt es sl) p (bdR es sl p) (bdR es sl p).length :=
  bdA_I hn (fun b hb=>nxt_bd hg sl hb) hp
theorem bdR_down {n:Nat}(hn:n<=6){es:List (Int × Int)}(hg:Grd (n:Int) es)(sl:Bool){p b:List Int}(hp:Bd n p){d:Int}(hd:bdD (bdR es sl p) b=some d)(h0:0<d) :
    ∃ e ∈ mvs es sl b,bdD (bdR es sl p) (swp b e.1.toNat e.2.toNat)=some (d - 1):=by
  have hI:=bdR_I hn hg sl hp
  have hm:=bdD_mem hd
  have hb:=hI.ok _ hm
  rcases hI.src _ hm with h | ⟨u,h1,h2,h3⟩
  . simp only [Prod.mk.injEq] at h;omega
  . have hub:=nxt_back hg sl (hI.ok u h1) h2
    obtain ⟨e,he,hq⟩:=List.mem_map.1 hub
    refine ⟨e,he,?_⟩
    have hu:=bdD_some hI.nd h1
    rw [hq,hu]
    have h3':d=u.2+1:=h3
    rw [h3'];congr 1;omega
theorem bdR_known {n:Nat}(hn:n<=6){es:List (Int × Int)}(hg:Grd (n:Int) es)(sl:Bool){p b:List Int}(hp:Bd n p){d:Int}(hd:bdD (bdR es sl p) b=some d){c:List Int}(hc:c ∈ nxt es sl b) :
    ∃ x,bdD (bdR es sl p) c=some x/\0<=x:=by
  have hI:=bdR_I hn hg sl hp
  have hm:=bdD_mem hd
  obtain ⟨j,hj,e⟩:=List.mem_iff_getElem.1 hm
  have hcl:=hI.cl j hj c (by
    have:(bdR es sl p).getD j ([],0)=(b,d):=by simp [hj,e]
    rw [this];exact hc)
  obtain ⟨e,h1,h2⟩:=List.mem_map.1 hcl
  have:=hI.rng e h1
  exact ⟨e.2,by rw [<- h2];exact bdD_some hI.nd h1,this.1⟩
def fst1 (S:List (List Int × Int))(es:List (Int × Int))(sl:Bool)(d:Int)(b:List Int):Option (Int × Int):=(mvs es sl b).find? fun e=>decide (bdD S (swp b e.1.toNat e.2.toNat)=some d)
def pthL (S:List (List Int × Int))(es:List (Int × Int))(sl:Bool):Nat->List Int->List ((Int × Int) × List Int)
  | 0,_=>[]
  | d+1,b=>match fst1 S es sl (d:Int) b with
    | some e=>(e,b) :: pthL S es sl d (swp b e.1.toNat e.2.toNat)
    | none=>[]
theorem fst1_some {n:Nat}(hn:n<=6){es:List (Int × Int)}(hg:Grd (n:Int) es)(sl:Bool){p b:List Int}(hp:Bd n p){d:Nat}(hd:bdD (bdR es sl p) b=some ((d+1:Nat):Int)) :
    ∃ e,fst1 (bdR es sl p) es sl (d:Int) b=some e/\e ∈ mvs es sl b/\bdD (bdR es sl p) (swp b e.1.toNat e.2.toNat)=some (d:Int):=by
  obtain ⟨e,h1,h2⟩:=bdR_down hn hg sl hp hd (by omega)
  have e1:((d+1:Nat):Int) - 1=(d:Int):=by omega
  rw [e1] at h2
  cases hf:fst1 (bdR es sl p) es sl (d:Int) b with
  | none =>
    unfold fst1 at hf
    rw [List.find?_eq_none] at hf
    exact absurd (decide_eq_true h2) (hf e h1)
  | some x =>
    refine ⟨x,rfl,List.mem_of_find?_eq_some hf,?_⟩
    have:=List.find?_some hf
    simpa using this
theorem pthL_len {n:Nat}(hn:n<=6){es:List (Int × Int)}(hg:Grd (n:Int) es)(sl:Bool){p:List Int}(hp:Bd n p):∀ (d:Nat) (b:List Int),bdD (bdR es sl p) b=some (d:Int)->(pthL (bdR es sl p) es sl d b).length=d
  | 0,b,_=>rfl
  | d+1,b,h=>by
    obtain ⟨e,h1,h2,h3⟩:=fst1_some hn hg sl hp h
    simp only [pthL,h1,List.length_cons]
    rw [pthL_len hn hg sl hp d _ h3]
def othB (b:List Int)(e:Int × Int):Int:=if b.getD e.1.toNat 0=0 then e.2 else e.1
theorem grd_pw {n:Int}{es:List (Int × Int)}(hg:Grd n es):es.Pairwise pairLt:=by
  rw [List.pairwise_iff_getElem]
  have at_:∀ i (h:i<es.length),es.getD i (0,0)=es[i]:=fun i h=>by simp [h]
  have key:∀ (k i:Nat),i+k+1<es.length->pairLt (es.getD i (0,0)) (es.getD (i+k+1) (0,0)):=by
    intro k
    induction k with
    | zero =>
      intro i hi
      have:=(hg.2 (i+1) hi).2.2.2 (by omega)
      simpa using this
    | succ k ih =>
      intro i hi
      have h1:=ih i (by omega)
      have h2:=(hg.2 (i+(k+1)+1) hi).2.2.2 (by omega)
      have e:i+(k+1)+1 - 1=i+k+1:=by omega
      rw [e] at h2
      unfold pairLt at *
      omega
  intro i j hi hj hij
  have:=key (j - i - 1) i (by omega)
  rw [show i+(j - i - 1)+1=j by omega,at_ i hi,at_ j hj] at this
  exact this
theorem grd_few {n:Int}{es:List (Int × Int)}(hg:Grd n es):es.length<=64:=by
  have hp:=grd_pw hg
  have hn:=hg.1
  have h8:∀ e ∈ es,0<=e.1/\e.1<8/\0<=e.2/\e.2<8:=fun e he=>by
    have:=grd_mem hg he;omega
  have:=nodupI_le 64 (es.map fun e=>8 * e.1+e.2) (by
    rw [List.Nodup,List.pairwise_map]
    refine List.Pairwise.imp_of_mem ?_ hp
    intro a b ha hb hab e
    have h1:=h8 a ha
    have h2:=h8 b hb
    unfold pairLt at hab
    omega) (fun x hx=>by
    obtain ⟨e,he,rfl⟩:=List.mem_map.1 hx
    have:=h8 e he
    omega)
  simpa using this
theorem oth_srt {n:Nat}{es:List (Int × Int)}(hg:Grd (n:Int) es){b:List Int}(hb:Bd n b){h:Nat}(hh:h<n)(h0:b.getD h 0=0) :
    ((mvs es true b).map (othB b)).Pairwise (· < ·)/\∀ e ∈ mvs es true b,othB b e ≠ (h:Int)/\(e=((h:Int),othB b e)∨e=(othB b e,(h:Int)))/\swp b e.1.toNat e.2.toNat=swp b (othB b e).toNat h:=by
  have uniq:∀ i:Nat,i<n->b.getD i 0=0->i=h:=by
    intro i hi e
    have hnd:=prm_nodup hb.1
    rw [List.Nodup,List.pairwise_iff_getElem] at hnd
    have l1:i<b.length:=by rw [hb.2];exact hi
    have l2:h<b.length:=by rw [hb.2];exact hh
    have e1:b[i]=0:=by have:=e;simpa [l1] using this
    have e2:b[h]=0:=by have:=h0;simpa [l2] using this
    rcases Nat.lt_trichotomy i h with g | g | g
    . exact absurd (e1.trans e2.symm) (hnd i h l1 l2 g)
    . exact g
    . exact absurd (e2.trans e1.symm) (hnd h i l2 l1 g)
  have shape:∀ e ∈ mvs es true b,(e.1=(h:Int)/\othB b e=e.2/\e.1<e.2)∨(e.2=(h:Int)/\othB b e=e.1/\e.1<e.2):=by
    intro e he
    obtain ⟨g0,gs⟩:=mvs_mem he
    obtain ⟨g1,g2,g3⟩:=grd_mem hg g0
    have hh':=gs rfl
    unfold holeB at hh'
    simp only [Bool.or_eq_true,decide_eq_true_eq] at hh'
    unfold othB
    by_cases q:b.getD e.1.toNat 0=0
    . rw [if_pos q]
      have:=uniq e.1.toNat (by omega) q
      exact .inl ⟨by omega,rfl,g2⟩
    . rw [if_neg q]
      have:=uniq e.2.toNat (by omega) (hh'.resolve_left q)
      exact .inr ⟨by omega,rfl,g2⟩
  refine ⟨?_,fun e he=>?_⟩
  . rw [List.pairwise_map]
    have hp:(mvs es true b).Pairwise pairLt:=(grd_pw hg).filter _
    refine List.Pairwise.imp_of_mem ?_ hp
    intro x y hx hy hxy
    have hx':=shape x hx
    have hy':=shape y hy
    unfold pairLt at hxy
    omega
  . obtain ⟨g1,g2,g3⟩:=grd_mem hg (mvs_mem he).1
    rcases shape e he with ⟨q1,q2,q3⟩ | ⟨q1,q2,q3⟩
    . refine ⟨by omega,.inl ?_,?_⟩
      . rw [q2,<- q1]
      . rw [q2,q1,Int.toNat_natCast]
        unfold swp
        rw [List.set_comm _ _ (by omega)]
    . refine ⟨by omega,.inr ?_,?_⟩
      . rw [q2,<- q1]
      . rw [q2,q1,Int.toNat_natCast]
def mpI (l:List (Int × Int)):List (Value × Value):=l.map fun e=>(.int .i64 e.1,.int .i64 e.2)
def getI (l:List (Int × Int))(k:Int):Option Int:=(l.find? fun e=>decide (e.1=k)).map (·.2)
theorem findA_none (k:Int):∀ (l:List (Int × Int)) (i:Nat),k ∉ l.map (·.1)->findA (.int .i64 k) (mpI l) i=some none
  | [],i,_=>rfl
  | e :: l,i,h=>by
    have h1:¬ k=e.1:=fun q=>h (by simp [q])
    have h2:k ∉ l.map (·.1):=fun q=>h (by simp only [List.map_cons,List.mem_cons];exact .inr q)
    show (if IntKind.i64=IntKind.i64 then (if k=e.1 then some (some (i,Value.int .i64 e.2)) else findA (.int .i64 k) (mpI l) (i+1)) else none)=_
    rw [if_pos rfl,if_neg h1]
    exact findA_none k l (i+1) h2
theorem findA_some (k d:Int):∀ (l:List (Int × Int)) (i:Nat),getI l k=some d->∃ j,findA (.int .i64 k) (mpI l) i=some (some (j,.int .i64 d))
  | [],i,h=>by simp [getI] at h
  | e :: l,i,h=>by
    by_cases h1:k=e.1
    . refine ⟨i,?_⟩
      show (if IntKind.i64=IntKind.i64 then (if k=e.1 then some (some (i,Value.int .i64 e.2)) else findA (.int .i64 k) (mpI l) (i+1)) else none)=_
      rw [if_pos rfl,if_pos h1]
      have:e.2=d:=by simpa [getI,h1] using h
      rw [this]
    . have hg:getI l k=some d:=by
        have h1':¬ e.1=k:=fun q=>h1 q.symm
        unfold getI at h ⊢
        rw [List.find?_cons] at h
        rw [decide_eq_false h1'] at h
        exact h
      obtain ⟨j,hj⟩:=findA_some k d l (i+1) hg
      refine ⟨j,?_⟩
      show (if IntKind.i64=IntKind.i64 then (if k=e.1 then some (some (i,Value.int .i64 e.2)) else findA (.int .i64 k) (mpI l) (i+1)) else none)=_
      rw [if_pos rfl,if_neg h1]
      exact hj
theorem getI_none {l:List (Int × Int)}{k:Int}(h:getI l k=none):k ∉ l.map (·.1):=by
  unfold getI at h
  rw [Option.map_eq_none_iff,List.find?_eq_none] at h
  intro hm
  obtain ⟨e,h1,h2⟩:=List.mem_map.1 hm
  have:=h e h1
  simp only [decide_eq_true_eq] at this
  exact this h2
theorem lookI {H:AH}{o:Nat}{l:List (Int × Int)}(ho:H[o]?=some (.mp (mpI l)))(k:Int) :
    lookupA Tryz.prog 73 (.map (some o)) (.int .i64 k) true H=some (.tuple (List.toArray [.int .i64 ((getI l k).getD 0),.bool (getI l k).isSome])):=by
  cases h:getI l k with
  | none =>
    have:=findA_none k l 0 (getI_none h)
    simp only [lookupA,Tryz.underlying73,Tryz.underlying3,ho,this,ze3]
    rfl
  | some d =>
    obtain ⟨j,hj⟩:=findA_some k d l 0 h
    simp only [lookupA,Tryz.underlying73,Tryz.underlying3,ho,hj]
    rfl
theorem lookI1 {H:AH}{o:Nat}{l:List (Int × Int)}(ho:H[o]?=some (.mp (mpI l)))(k:Int) :
    lookupA Tryz.prog 73 (.map (some o)) (.int .i64 k) false H=some (.int .i64 ((getI l k).getD 0)):=by
  cases h:getI l k with
  | none =>
    have:=findA_none k l 0 (getI_none h)
    simp only [lookupA,Tryz.underlying73,Tryz.underlying3,ho,this,ze3]
    rfl
  | some d =>
    obtain ⟨j,hj⟩:=findA_some k d l 0 h
    simp only [lookupA,Tryz.underlying73,Tryz.underlying3,ho,hj]
    rfl
theorem updI {H:AH}{o:Nat}{l:List (Int × Int)}(ho:H[o]?=some (.mp (mpI l))){k:Int}(hk:k ∉ l.map (·.1))(d:Int) :
    updA Tryz.prog 73 (.map (some o)) (.int .i64 k) (.int .i64 d) H=some (H.set o (.mp (mpI (l ++ [(k,d)])))):=by
  have:=findA_none k l 0 hk
  simp only [updA,Tryz.underlying73,Tryz.underlying3,ho,this]
  rw [if_pos (by rfl)]
  simp [mpI]
def cd66:Cd:=(.seq (.reg [⟨⟨some 2,.assign (.const (.int .i64 0)),none⟩,[]⟩]) (.seq (.reg [⟨⟨some 3,.assign (.const (.int .i64 1)),none⟩,[]⟩]) (.seq (.seq (.reg [⟨⟨some 6,.move (.tmp 0),none⟩,[]⟩,
  ⟨⟨some 7,.call ⟨(.builtin .len),#[.tmp 6],#[27]⟩,none⟩,[]⟩,
  ⟨⟨some 8,.move (.const (.int .i64 0)),none⟩,[]⟩]) (.block 0 (.loop (.seq (.reg [⟨⟨some 9,.binOp .lss 3 (.tmp 8) (.tmp 7) 3,none⟩,[]⟩]) (.seq (.cond (.tmp 9) .skip (.exit 0)) (.seq (.block 1 (.seq (.reg [⟨⟨some 10,.indexAddr 27 (.tmp 6) (.tmp 8),none⟩,[]⟩,
  ⟨⟨some 11,.load 3 (.tmp 10),none⟩,[]⟩,
  ⟨⟨some 5,.assign (.tmp 11),none⟩,[]⟩]) (.reg [⟨⟨some 12,.move (.tmp 3),none⟩,[]⟩,
  ⟨⟨some 13,.binOp .mul 3 (.const (.int .i64 10)) (.tmp 12) 3,none⟩,[]⟩,
  ⟨⟨some 14,.move (.tmp 5),none⟩,[]⟩,
  ⟨⟨some 15,.binOp .add 3 (.tmp 13) (.tmp 14) 3,none⟩,[]⟩,
  ⟨⟨some 3,.assign (.tmp 15),none⟩,[]⟩]))) (.reg [⟨⟨some 16,.binOp .add 3 (.tmp 8) (.const (.int .i64 1)) 3,none⟩,[]⟩,
  ⟨⟨some 8,.move (.tmp 16),none⟩,[]⟩]))))))) (.seq (.reg [⟨⟨some 17,.move (.tmp 3),none⟩,[]⟩,
  ⟨⟨some 2,.assign (.tmp 17),none⟩,[]⟩]) .ret))))
theorem in66:InT Tryz.prog 66 1 [.tmp 2] cd66:=InT.mk (by kernel_rfl) [] Tryz.func66 rfl (by kernel_rfl) (by kernel_rfl) (of_decide_eq_true (by kernel_rfl)) (by kernel_rfl)
def cd70:Cd:=(.seq (.reg [⟨⟨some 2,.assign (.const (.int .i64 0)),none⟩,[]⟩]) (.seq (.reg [⟨⟨some 3,.assign (.const (.int .i64 0)),none⟩,[]⟩]) (.seq (.seq (.reg [⟨⟨some 4,.assign (.const (.int .i64 0)),none⟩,[]⟩]) (.block 0 (.loop (.seq (.seq (.reg [⟨⟨some 7,.move (.tmp 4),none⟩,[]⟩,⟨⟨some 8,.move (.tmp 0),none⟩,[]⟩,⟨⟨some 9,.call ⟨(.builtin .len),#[.tmp 8],#[27]⟩,none⟩,[]⟩,⟨⟨some 10,.binOp .lss 3 (.tmp 7) (.tmp 9) 3,none⟩,[]⟩]) (.cond (.tmp 10) .skip (.exit 0))) (.seq (.block 1 (.seq (.reg [⟨⟨some 5,.assign (.const (.int .i64 0)),none⟩,[]⟩]) (.seq (.seq (.reg [⟨⟨some 13,.move (.tmp 4),none⟩,[]⟩,⟨⟨some 14,.binOp .add 3 (.tmp 13) (.const (.int .i64 1)) 3,none⟩,[]⟩,⟨⟨some 6,.assign (.tmp 14),none⟩,[]⟩]) (.block 2 (.loop (.seq (.seq (.reg [⟨⟨some 15,.move (.tmp 6),none⟩,[]⟩,⟨⟨some 16,.move (.tmp 0),none⟩,[]⟩,⟨⟨some 17,.call ⟨(.builtin .len),#[.tmp 16],#[27]⟩,none⟩,[]⟩,⟨⟨some 18,.binOp .lss 3 (.tmp 15) (.tmp 17) 3,none⟩,[]⟩]) (.cond (.tmp 18) .skip (.exit 2))) (.seq (.block 3 (.seq (.reg [⟨⟨some 21,.move (.tmp 0),none⟩,[]⟩,⟨⟨some 22,.move (.tmp 6),none⟩,[]⟩,⟨⟨some 23,.indexAddr 27 (.tmp 21) (.tmp 22),none⟩,[]⟩,⟨⟨some 24,.load 3 (.tmp 23),none⟩,[]⟩,
 ⟨⟨some 25,.move (.tmp 0),none⟩,[]⟩,⟨⟨some 26,.move (.tmp 4),none⟩,[]⟩,⟨⟨some 27,.indexAddr 27 (.tmp 25) (.tmp 26),none⟩,[]⟩,⟨⟨some 28,.load 3 (.tmp 27),none⟩,[]⟩,⟨⟨some 29,.binOp .lss 3 (.tmp 24) (.tmp 28) 3,none⟩,[]⟩]) (.cond (.tmp 29) (.reg [⟨⟨some 30,.move (.tmp 5),none⟩,[]⟩,⟨⟨some 31,.binOp .add 3 (.tmp 30) (.const (.int .i64 1)) 3,none⟩,[]⟩,⟨⟨some 5,.assign (.tmp 31),none⟩,[]⟩]) .skip))) (.reg [⟨⟨some 19,.move (.tmp 6),none⟩,[]⟩,⟨⟨some 20,.binOp .add 3 (.tmp 19) (.const (.int .i64 1)) 3,none⟩,[]⟩,⟨⟨some 6,.assign (.tmp 20),none⟩,[]⟩])))))) (.reg [⟨⟨some 32,.move (.tmp 3),none⟩,[]⟩,⟨⟨some 33,.move (.tmp 0),none⟩,[]⟩,⟨⟨some 34,.call ⟨(.builtin .len),#[.tmp 33],#[27]⟩,none⟩,[]⟩,⟨⟨some 35,.move (.tmp 4),none⟩,[]⟩,
 ⟨⟨some 36,.binOp .sub 3 (.tmp 34) (.tmp 35) 3,none⟩,[]⟩,
  ⟨⟨some 37,.binOp .mul 3 (.tmp 32) (.tmp 36) 3,none⟩,[]⟩,
  ⟨⟨some 38,.move (.tmp 5),none⟩,[]⟩,
  ⟨⟨some 39,.binOp .add 3 (.tmp 37) (.tmp 38) 3,none⟩,[]⟩,
  ⟨⟨some 3,.assign (.tmp 39),none⟩,[]⟩])))) (.reg [⟨⟨some 11,.move (.tmp 4),none⟩,[]⟩,
  ⟨⟨some 12,.binOp .add 3 (.tmp 11) (.const (.int .i64 1)) 3,none⟩,[]⟩,
  ⟨⟨some 4,.assign (.tmp 12),none⟩,[]⟩])))))) (.seq (.reg [⟨⟨some 40,.move (.tmp 3),none⟩,[]⟩,
  ⟨⟨some 2,.assign (.tmp 40),none⟩,[]⟩]) .ret))))
theorem in70:InT Tryz.prog 70 1 [.tmp 2] cd70:=InT.mk (by kernel_rfl) [(9,[(0,false),(1,false),(2,false),(3,false),(4,false),(5,false),(6,false),(7,false),(8,false)])] Tryz.func70 rfl (by kernel_rfl) (by kernel_rfl) (of_decide_eq_true (by kernel_rfl)) (by kernel_rfl)
def cd150:Cd:=(.seq (.reg [⟨⟨some 2,.assign (.const (.int .i64 0)),none⟩,[]⟩]) (.seq (.reg [⟨⟨some 3,.assign (.const (.int .i64 1)),none⟩,[]⟩]) (.seq (.seq (.reg [⟨⟨some 4,.assign (.const (.int .i64 2)),none⟩,[]⟩]) (.block 0 (.loop (.seq (.seq (.reg [⟨⟨some 5,.move (.tmp 4),none⟩,[]⟩,
  ⟨⟨some 6,.move (.tmp 0),none⟩,[]⟩,
  ⟨⟨some 7,.binOp .leq 3 (.tmp 5) (.tmp 6) 3,none⟩,[]⟩]) (.cond (.tmp 7) .skip (.exit 0))) (.seq (.block 1 (.reg [⟨⟨some 10,.move (.tmp 3),none⟩,[]⟩,
  ⟨⟨some 11,.move (.tmp 4),none⟩,[]⟩,
  ⟨⟨some 12,.binOp .mul 3 (.tmp 10) (.tmp 11) 3,none⟩,[]⟩,
  ⟨⟨some 3,.assign (.tmp 12),none⟩,[]⟩])) (.reg [⟨⟨some 8,.move (.tmp 4),none⟩,[]⟩,
  ⟨⟨some 9,.binOp .add 3 (.tmp 8) (.const (.int .i64 1)) 3,none⟩,[]⟩,
  ⟨⟨some 4,.assign (.tmp 9),none⟩,[]⟩])))))) (.seq (.reg [⟨⟨some 13,.move (.tmp 3),none⟩,[]⟩,
  ⟨⟨some 2,.assign (.tmp 13),none⟩,[]⟩]) .ret))))
theorem in150:InT Tryz.prog 150 1 [.tmp 2] cd150:=InT.mk (by kernel_rfl) [] Tryz.func150 rfl (by kernel_rfl) (by kernel_rfl) (of_decide_eq_true (by kernel_rfl)) (by kernel_rfl)
def cd64:Cd:=(.seq (.reg [⟨⟨some 2,.assign (.const (.slice none 0 0)),none⟩,[]⟩]) (.seq (.reg [⟨⟨some 5,.buildSlice 27 0 #[],none⟩,[]⟩,
  ⟨⟨some 3,.assign (.tmp 5),none⟩,[]⟩]) (.seq (.seq (.reg [⟨⟨some 6,.move (.tmp 0),none⟩,[]⟩,
  ⟨⟨some 7,.move (.const (.int .i64 0)),none⟩,[]⟩]) (.block 0 (.loop (.seq (.reg [⟨⟨some 8,.binOp .lss 3 (.tmp 7) (.tmp 6) 3,none⟩,[]⟩]) (.seq (.cond (.tmp 8) .skip (.exit 0)) (.seq (.block 1 (.seq (.reg [⟨⟨some 9,.move (.tmp 7),none⟩,[]⟩,
  ⟨⟨some 4,.assign (.tmp 9),none⟩,[]⟩]) (.reg [⟨⟨some 10,.move (.tmp 3),none⟩,[]⟩,
  ⟨⟨some 11,.move (.tmp 4),none⟩,[]⟩,
  ⟨⟨some 12,.buildSlice 27 1 #[(0,.tmp 11)],none⟩,[]⟩,
  ⟨⟨some 13,.call ⟨(.builtin .append),#[.tmp 10,.tmp 12],#[27,27]⟩,none⟩,[]⟩,
  ⟨⟨some 3,.assign (.tmp 13),none⟩,[]⟩]))) (.reg [⟨⟨some 14,.binOp .add 3 (.tmp 7) (.const (.int .i64 1)) 3,none⟩,[]⟩,
  ⟨⟨some 7,.move (.tmp 14),none⟩,[]⟩]))))))) (.seq (.reg [⟨⟨some 15,.move (.tmp 3),none⟩,[]⟩,
  ⟨⟨some 2,.assign (.tmp 15),none⟩,[]⟩]) .ret))))
theorem in64:InT Tryz.prog 64 1 [.tmp 2] cd64:=InT.mk (by kernel_rfl) [] Tryz.func64 rfl (by kernel_rfl) (by kernel_rfl) (of_decide_eq_true (by kernel_rfl)) (by kernel_rfl)
end Go.Proofs.YtjnefjchconebaaGreat.Ai
namespace Go.Proofs.YtjnefjchconebaaGreat.Ai
open Go Go.RowKit
theorem keyF_step (p:List Int)(i:Nat)(hi:i<p.length)(a:Int):keyF a (p.drop i)=keyF (10 * a+p.getD i 0) (p.drop (i+1)):=by
  rw [List.drop_eq_getElem_cons hi]
  have:p.getD i 0=p[i]:=by simp [hi]
  rw [this];rfl
theorem ten_le {i:Nat}(h:i<=8):(10:Int) ^ i<=100000000:=by
  have:i=0∨i=1∨i=2∨i=3∨i=4∨i=5∨i=6∨i=7∨i=8:=by omega
  rcases this with rfl | rfl | rfl | rfl | rfl | rfl | rfl | rfl | rfl <;> decide
theorem key_c (v:Value)(p:List Int)(H:AH)(hr:Row 3 H v p)(hp:Prm p):ACalls Tryz.prog 66 [v] H fun r H'=>r=.int .i64 (keyL p)/\H=H':=by
  have h8:=hp.1
  have hrg:=prm_rng hp
  refine in66 rfl ?_
  intro Q hQ
  simp (disch:=omega) only [cd66,hr.len Tryz.underlying27,SS,eq_self,reduceIte,reduceCtorEq,Nat.reduceEqDiff,Nat.reduceAdd]
  refine LoopH.by (fun m s H'=>∃ (i:Nat) (a:Int),m+i=p.length/\s 6=v/\s 3=.int .i64 a/\s 7=.int .i64 (p.length:Int)/\s 8=.int .i64 ((i:Nat):Int)/\keyF a (p.drop i)=keyL p/\0<=a/\a<2 * 10 ^ i/\H=H') p.length ?_ ?_
  . exact ⟨0,1,by simp,rfl,rfl,rfl,rfl,rfl,by decide,by decide,rfl⟩
  rintro m s H' ⟨i,a,hm,h0,h3,h7,h8',hk,ha,hb,rfl⟩
  simp (disch:=omega) only [h0,h3,h7,h8',SS,eq_self,reduceIte,reduceCtorEq,Nat.reduceEqDiff,Nat.reduceAdd]
  refine brD.intro (fun g=>?_) (fun g=>?_)
  . have hi:i<p.length:=by omega
    have hx:=hrg (p.getD i 0) (by simp [hi])
    rw [keyF_step p i hi] at hk
    have ht:=ten_le (i:=i) (by omega)
    have hpw:(10:Int) ^ (i+1)=10 * 10 ^ i:=by rw [Int.pow_succ];omega
    have f2:10 * a+p.getD i 0<2 * 10 ^ (i+1):=by omega
    simp (disch:=omega) only [h0,h3,h7,h8',hr.ix Tryz.underlying27 cs3,hr.cell,Int.toNat_natCast,wrap64,SS,eq_self,reduceIte,reduceCtorEq,Nat.reduceEqDiff,Nat.reduceAdd]
    refine ⟨m - 1,by omega,i+1,10 * a+p.getD i 0,?_⟩
    (repeat' apply And.intro) <;> first | exact hk | exact f2 | (simp only [Value.int.injEq,true_and];omega) | omega | rfl | assumption | (simp;done) | (simp;omega)
  . simp (disch:=omega) only [h3,SS,eq_self,reduceIte,reduceCtorEq,Nat.reduceEqDiff,Nat.reduceAdd]
    refine hQ _ _ _ ?_
    simp (disch:=omega) only [h3,SS,eq_self,reduceIte,reduceCtorEq,Nat.reduceEqDiff,Nat.reduceAdd]
    rw [List.drop_of_length_le (by omega)] at hk
    rw [<- hk];rfl
theorem nine_le {i:Nat}(h:i<=8):(9:Int) ^ i<=43046721:=by
  have:i=0∨i=1∨i=2∨i=3∨i=4∨i=5∨i=6∨i=7∨i=8:=by omega
  rcases this with rfl | rfl | rfl | rfl | rfl | rfl | rfl | rfl | rfl <;> decide
theorem cdF_step (p:List Int)(i:Nat)(hi:i<p.length)(c:Int):cdF c (p.drop i)=cdF (c * ((p.length:Int) - (i:Int))+(((p.drop (i+1)).countP fun y=>decide (y<p.getD i 0):Nat):Int)) (p.drop (i+1)):=by
  rw [List.drop_eq_getElem_cons hi]
  have e1:p.getD i 0=p[i]:=by simp [hi]
  have e2:(((p.drop (i+1)).length:Nat):Int)+1=(p.length:Int) - (i:Int):=by simp;omega
  rw [e1,<- e2];rfl
theorem countP_take (q:Int->Bool)(l:List Int)(j:Nat)(hj:j<l.length):(l.take (j+1)).countP q=(l.take j).countP q+if q (l.getD j 0)=true then 1 else 0:=by
  rw [List.take_add_one,List.getElem?_eq_getElem hj,List.countP_append]
  have:l.getD j 0=l[j]:=by simp [hj]
  rw [this]
  simp [List.countP_cons]
theorem l9Code_c (v:Value)(p:List Int)(H:AH)(hr:Row 3 H v p)(hl:p.length<=8):ACalls Tryz.prog 70 [v] H fun r H'=>r=.int .i64 (cod p)/\H=H':=by
  refine in70 rfl ?_
  intro Q hQ
  simp (disch:=omega) only [cd70,SS,eq_self,reduceIte,reduceCtorEq,Nat.reduceEqDiff,Nat.reduceAdd]
  refine LoopH.by (fun m s H'=>∃ (i:Nat) (c:Int),m+i=p.length/\s 0=v/\s 3=.int .i64 c/\s 4=.int .i64 ((i:Nat):Int)/\cdF c (p.drop i)=cod p/\0<=c/\c<9 ^ i/\H=H') p.length ?_ ?_
  . exact ⟨0,0,by simp,rfl,rfl,rfl,rfl,by decide,by decide,rfl⟩
  rintro m s H' ⟨i,c,hm,h0,h3,h4,hk,ha,hb,rfl⟩
  simp (disch:=omega) only [h0,h3,h4,hr.len Tryz.underlying27,SS,eq_self,reduceIte,reduceCtorEq,Nat.reduceEqDiff,Nat.reduceAdd]
  refine brD.intro (fun g=>?_) (fun g=>?_)
  rotate_left
  . simp (disch:=omega) only [h3,SS,eq_self,reduceIte,reduceCtorEq,Nat.reduceEqDiff,Nat.reduceAdd]
    refine hQ _ _ _ ?_
    simp (disch:=omega) only [h3,SS,eq_self,reduceIte,reduceCtorEq,Nat.reduceEqDiff,Nat.reduceAdd]
    rw [List.drop_of_length_le (by omega)] at hk
    rw [<- hk];rfl
  have hi:i<p.length:=by omega
  rw [cdF_step p i hi] at hk
  have ht:=nine_le (i:=i) (by omega)
  have hpw:(9:Int) ^ (i+1)=9 * 9 ^ i:=by rw [Int.pow_succ];omega
  have hdl:(p.drop (i+1)).length=p.length - (i+1):=by simp
  simp (disch:=omega) only [h0,h3,h4,wrap64,SS,eq_self,reduceIte,reduceCtorEq,Nat.reduceEqDiff,Nat.reduceAdd]
  refine LoopH.by (fun m' s' H'=>∃ j:Nat,m'+j=p.length - (i+1)/\s' 0=v/\s' 3=.int .i64 c/\s' 4=.int .i64 ((i:Nat):Int)/\s' 5=.int .i64 (((((p.drop (i+1)).take j).countP fun y=>decide (y<p.getD i 0):Nat)):Int)/\s' 6=.int .i64 ((i+1+j:Nat):Int)/\H=H') (p.length - (i+1)) ?_ ?_
  . refine ⟨0,by omega,?_⟩
    simp (disch:=omega) only [h0,h3,h4,SS,eq_self,reduceIte,reduceCtorEq,Nat.reduceEqDiff,Nat.reduceAdd]
    (repeat' apply And.intro) <;> first | (simp only [Value.int.injEq,true_and];omega) | omega | rfl | assumption | (simp;done) | (simp;omega)
  rintro m' s' H' ⟨j,hm',k0,k3,k4,k5,k6,rfl⟩
  have hcl:((p.drop (i+1)).take j).countP (fun y=>decide (y<p.getD i 0))<=j:=Nat.le_trans List.countP_le_length (by simp;omega)
  simp (disch:=omega) only [k0,k3,k4,k5,k6,hr.len Tryz.underlying27,SS,eq_self,reduceIte,reduceCtorEq,Nat.reduceEqDiff,Nat.reduceAdd]
  refine brD.intro (fun q=>?_) (fun q=>?_)
  . have hj:j<(p.drop (i+1)).length:=by omega
    have hst:=countP_take (fun y=>decide (y<p.getD i 0)) (p.drop (i+1)) j hj
    have hge:(p.drop (i+1)).getD j 0=p.getD (i+1+j) 0:=by
      rw [List.getD_eq_getElem?_getD,List.getElem?_drop,<- List.getD_eq_getElem?_getD]
    rw [hge] at hst
    simp (disch:=omega) only [k0,k3,k4,k5,k6,hr.ix Tryz.underlying27 cs3,hr.cell,Int.toNat_natCast,SS,eq_self,reduceIte,reduceCtorEq,Nat.reduceEqDiff,Nat.reduceAdd]
    have e6:((i+1+j:Nat):Int)+1=((i+1+(j+1):Nat):Int):=by omega
    refine brD.intro (fun e=>?_) (fun e=>?_)
    . rw [if_pos (decide_eq_true e)] at hst
      simp (disch:=omega) only [k0,k3,k4,k5,k6,wrap64,SS,eq_self,reduceIte,reduceCtorEq,Nat.reduceEqDiff,Nat.reduceAdd]
      refine ⟨m' - 1,by omega,j+1,?_⟩
      rw [hst]
      (repeat' apply And.intro) <;> first | (simp only [Value.int.injEq,true_and];omega) | omega | rfl | assumption | (simp;done) | (simp;omega)
    . rw [if_neg (by simpa using e)] at hst
      simp (disch:=omega) only [k0,k3,k4,k5,k6,wrap64,SS,eq_self,reduceIte,reduceCtorEq,Nat.reduceEqDiff,Nat.reduceAdd]
      refine ⟨m' - 1,by omega,j+1,?_⟩
      rw [hst]
      (repeat' apply And.intro) <;> first | (simp only [Value.int.injEq,true_and];omega) | omega | rfl | assumption | (simp;done) | (simp;omega)
  . have hj:j=p.length - (i+1):=by omega
    subst hj
    rw [List.take_of_length_le (by simp)] at k5 hcl
    generalize hct:(p.drop (i+1)).countP (fun y=>decide (y<p.getD i 0))=ct at *
    have hm1:c * ((p.length:Int) - (i:Int))<=c * 8:=Int.mul_le_mul_of_nonneg_left (by omega) ha
    have hm0:0<=c * ((p.length:Int) - (i:Int)):=Int.mul_nonneg ha (by omega)
    generalize hcm:c * ((p.length:Int) - (i:Int))=cm at *
    have e1:IntKind.i64.wrap ((p.length:Int) - (i:Int))=(p.length:Int) - (i:Int):=wrap64 (by omega) (by omega)
    simp (disch:=omega) only [k0,k3,k4,k5,k6,hr.len Tryz.underlying27,e1,hcm,wrap64,SS,eq_self,reduceIte,reduceCtorEq,Nat.reduceEqDiff,Nat.reduceAdd]
    have f2:cm+(ct:Int)<9 ^ (i+1):=by omega
    refine ⟨m - 1,by omega,i+1,cm+ct,?_⟩
    (repeat' apply And.intro) <;> first | exact hk | exact f2 | (simp only [Value.int.injEq,true_and];omega) | omega | rfl | assumption | (simp;done) | (simp;omega)
theorem mny_le8 {n:Nat}(hn:n<=8):1<=mny n/\mny n<=40320:=by
  have:n=0∨n=1∨n=2∨n=3∨n=4∨n=5∨n=6∨n=7∨n=8:=by omega
  rcases this with rfl | rfl | rfl | rfl | rfl | rfl | rfl | rfl | rfl <;> decide
theorem l9Many_c (n:Nat)(H:AH)(hn:n<=8):ACalls Tryz.prog 150 [.int .i64 (n:Int)] H fun r H'=>r=.int .i64 (mny n:Int)/\H=H':=by
  refine in150 rfl ?_
  intro Q hQ
  simp (disch:=omega) only [cd150,SS,eq_self,reduceIte,reduceCtorEq,Nat.reduceEqDiff,Nat.reduceAdd]
  refine LoopH.by (fun m s H'=>∃ i,m+i=n+1/\s 0=.int .i64 (n:Int)/\s 3=.int .i64 (mny i:Int)/\s 4=.int .i64 ((i:Nat)+1:Int)/\1<=i/\(i<=n∨(i=1/\n=0))/\H=H') n ?_ ?_
  . exact ⟨1,by omega,rfl,rfl,rfl,by omega,by omega,rfl⟩
  rintro m s H' ⟨i,hm,h0,h3,h4,h1,hi,rfl⟩
  simp (disch:=omega) only [h0,h3,h4,SS,eq_self,reduceIte,reduceCtorEq,Nat.reduceEqDiff,Nat.reduceAdd]
  refine brD.intro (fun g=>?_) (fun g=>?_)
  . have hb:=mny_le8 (n:=i) (by omega)
    have hb2:=mny_le8 (n:=i+1) (by omega)
    have e:(mny i:Int) * ((i:Int)+1)=((mny (i+1):Nat):Int):=by
      show _=((mny i * (i+1):Nat):Int)
      rw [Int.natCast_mul];rfl
    simp (disch:=omega) only [h0,h3,h4,e,wrap64,SS,eq_self,reduceIte,reduceCtorEq,Nat.reduceEqDiff,Nat.reduceAdd]
    refine ⟨m - 1,by omega,i+1,?_⟩
    (repeat' apply And.intro) <;> first | (simp only [Value.int.injEq,true_and];omega) | omega | rfl | assumption | (simp;done) | (simp;omega)
  . simp (disch:=omega) only [h3,SS,eq_self,reduceIte,reduceCtorEq,Nat.reduceEqDiff,Nat.reduceAdd]
    refine hQ _ _ _ ?_
    simp (disch:=omega) only [h3,SS,eq_self,reduceIte,reduceCtorEq,Nat.reduceEqDiff,Nat.reduceAdd]
    rcases hi with hi | ⟨rfl,rfl⟩
    . have:i=n:=by omega
      rw [this]
    . rfl
def hom (n:Nat):List Int:=(List.range n).map fun z:Nat=>(z:Int)
theorem hom_len (n:Nat):(hom n).length=n:=by simp [hom]
theorem hom_succ (n:Nat):hom (n+1)=hom n ++ [(n:Int)]:=by
  unfold hom;rw [List.range_succ,List.map_append];rfl
theorem hom_prm {n:Nat}(hn:n<=8):Prm (hom n):=by
  refine ⟨by rw [hom_len];exact hn,fun x hx=>?_⟩
  rw [hom_len] at hx
  exact List.mem_map.2 ⟨x,List.mem_range.2 hx,rfl⟩
theorem home_c (n:Nat)(H:AH)(hn:n<=8):ACalls Tryz.prog 64 [.int .i64 (n:Int)] H fun r H'=>Own 3 H H' r (hom n)/\H<+:H':=by
  refine in64 rfl ?_
  intro Q hQ
  simp (disch:=omega) only [cd64,SS,eq_self,reduceIte,reduceCtorEq,Nat.reduceEqDiff,Nat.reduceAdd]
  refine LoopH.by (fun m s H'=>∃ i,m+i=n/\s 6=.int .i64 (n:Int)/\s 7=.int .i64 ((i:Nat):Int)/\Own 3 H H' (s 3) (hom i)/\H<+:H') n ?_ ?_
  . exact ⟨0,by simp,rfl,rfl,.inr ⟨H.length,rfl,Nat.le_refl _,at_new ..⟩,List.prefix_append _ _⟩
  rintro m s H' ⟨i,hm,h0,h7,ho,hp⟩
  have hl:=hom_len i
  generalize hw:s 3=w at *
  simp (disch:=omega) only [h0,h7,hw,SS,eq_self,reduceIte,reduceCtorEq,Nat.reduceEqDiff,Nat.reduceAdd]
  refine brD.intro (fun g=>?_) (fun g=>?_)
  . have hi:i<n:=by omega
    obtain ⟨w',H2,k1,k2,k3,k4,k5,k6⟩:=own1_27 ho hp (by omega) (i:Int)
    rw [<- hom_succ] at k2
    simp (disch:=omega) only [h0,h7,hw,k1,wrap64,SS,eq_self,reduceIte,reduceCtorEq,Nat.reduceEqDiff,Nat.reduceAdd]
    refine ⟨m - 1,by omega,i+1,?_⟩
    (repeat' apply And.intro) <;> first | exact k2 | exact k3 | (simp only [Value.int.injEq,true_and];omega) | omega | rfl | assumption | (simp;done) | (simp;omega)
  . simp (disch:=omega) only [hw,SS,eq_self,reduceIte,reduceCtorEq,Nat.reduceEqDiff,Nat.reduceAdd]
    refine hQ _ _ _ ?_
    simp (disch:=omega) only [hw,ho.row.tup,SS,eq_self,reduceIte,reduceCtorEq,Nat.reduceEqDiff,Nat.reduceAdd]
    have:i=n:=by omega
    subst this
    exact ⟨ho,hp⟩
def cd227:Cd:=(.seq (.reg [⟨⟨some 4,.assign (.const (.int .u64 0)),none⟩,[]⟩,⟨⟨some 5,.assign (.const (.int .u64 0)),none⟩,[]⟩]) (.seq (.reg [⟨⟨some 14,.move (.tmp 0),none⟩,[]⟩,⟨⟨some 15,.binOp .and 87 (.tmp 14) (.const (.int .u64 4294967295)) 87,none⟩,[]⟩,⟨⟨some 6,.assign (.tmp 15),none⟩,[]⟩]) (.seq (.reg [⟨⟨some 16,.move (.tmp 0),none⟩,[]⟩,⟨⟨some 17,.binOp .shr 87 (.tmp 16) (.const (.int .u64 32)) 122,none⟩,[]⟩,⟨⟨some 7,.assign (.tmp 17),none⟩,[]⟩]) (.seq (.reg [⟨⟨some 18,.move (.tmp 1),none⟩,[]⟩,⟨⟨some 19,.binOp .and 87 (.tmp 18) (.const (.int .u64 4294967295)) 87,none⟩,[]⟩,⟨⟨some 8,.assign (.tmp 19),none⟩,[]⟩]) (.seq (.reg [⟨⟨some 20,.move (.tmp 1),none⟩,[]⟩,⟨⟨some 21,.binOp .shr 87 (.tmp 20) (.const (.int .u64 32)) 122,none⟩,[]⟩,⟨⟨some 9,.assign (.tmp 21),none⟩,[]⟩]) (.seq (.reg [⟨⟨some 22,.move (.tmp 6),none⟩,[]⟩,⟨⟨some 23,.move (.tmp 8),none⟩,[]⟩,⟨⟨some 24,.binOp .mul 87 (.tmp 22) (.tmp 23) 87,none⟩,[]⟩,
 ⟨⟨some 10,.assign (.tmp 24),none⟩,[]⟩]) (.seq (.reg [⟨⟨some 25,.move (.tmp 7),none⟩,[]⟩,⟨⟨some 26,.move (.tmp 8),none⟩,[]⟩,⟨⟨some 27,.binOp .mul 87 (.tmp 25) (.tmp 26) 87,none⟩,[]⟩,⟨⟨some 28,.move (.tmp 10),none⟩,[]⟩,⟨⟨some 29,.binOp .shr 87 (.tmp 28) (.const (.int .u64 32)) 122,none⟩,[]⟩,⟨⟨some 30,.binOp .add 87 (.tmp 27) (.tmp 29) 87,none⟩,[]⟩,⟨⟨some 11,.assign (.tmp 30),none⟩,[]⟩]) (.seq (.reg [⟨⟨some 31,.move (.tmp 11),none⟩,[]⟩,⟨⟨some 32,.binOp .and 87 (.tmp 31) (.const (.int .u64 4294967295)) 87,none⟩,[]⟩,⟨⟨some 12,.assign (.tmp 32),none⟩,[]⟩]) (.seq (.reg [⟨⟨some 33,.move (.tmp 11),none⟩,[]⟩,⟨⟨some 34,.binOp .shr 87 (.tmp 33) (.const (.int .u64 32)) 122,none⟩,[]⟩,⟨⟨some 13,.assign (.tmp 34),none⟩,[]⟩]) (.seq (.reg [⟨⟨some 35,.move (.tmp 12),none⟩,[]⟩,⟨⟨some 36,.move (.tmp 6),none⟩,[]⟩,
 ⟨⟨some 37,.move (.tmp 9),none⟩,[]⟩,⟨⟨some 38,.binOp .mul 87 (.tmp 36) (.tmp 37) 87,none⟩,[]⟩,⟨⟨some 39,.binOp .add 87 (.tmp 35) (.tmp 38) 87,none⟩,[]⟩,⟨⟨some 12,.assign (.tmp 39),none⟩,[]⟩]) (.seq (.reg [⟨⟨some 40,.move (.tmp 7),none⟩,[]⟩,⟨⟨some 41,.move (.tmp 9),none⟩,[]⟩,⟨⟨some 42,.binOp .mul 87 (.tmp 40) (.tmp 41) 87,none⟩,[]⟩,⟨⟨some 43,.move (.tmp 13),none⟩,[]⟩,⟨⟨some 44,.binOp .add 87 (.tmp 42) (.tmp 43) 87,none⟩,[]⟩,⟨⟨some 45,.move (.tmp 12),none⟩,[]⟩,⟨⟨some 46,.binOp .shr 87 (.tmp 45) (.const (.int .u64 32)) 122,none⟩,[]⟩,⟨⟨some 47,.binOp .add 87 (.tmp 44) (.tmp 46) 87,none⟩,[]⟩,⟨⟨some 4,.assign (.tmp 47),none⟩,[]⟩]) (.seq (.reg [⟨⟨some 48,.move (.tmp 0),none⟩,[]⟩,
 ⟨⟨some 49,.move (.tmp 1),none⟩,[]⟩,
  ⟨⟨some 50,.binOp .mul 87 (.tmp 48) (.tmp 49) 87,none⟩,[]⟩,
  ⟨⟨some 5,.assign (.tmp 50),none⟩,[]⟩]) .ret))))))))))))
theorem in227:InT Tryz.prog 227 2 [.tmp 4,.tmp 5] cd227:=InT.mk (by kernel_rfl) [] Tryz.func227 rfl (by kernel_rfl) (by kernel_rfl) (of_decide_eq_true (by kernel_rfl)) (by kernel_rfl)
def cd202:Cd:=(.seq (.reg [⟨⟨some 4,.assign (.const (.int .u64 0)),none⟩,[]⟩,⟨⟨some 5,.assign (.const (.int .u64 0)),none⟩,[]⟩]) (.seq (.cond (.const (.bool false)) (.seq (.reg [⟨⟨some 11,.move (.tmp 0),none⟩,[]⟩,⟨⟨some 12,.convert 122 172 (.tmp 11),none⟩,[]⟩,⟨⟨some 13,.move (.tmp 1),none⟩,[]⟩,⟨⟨some 14,.convert 122 172 (.tmp 13),none⟩,[]⟩,⟨⟨some 15,.call ⟨(.value (.func 226)),#[.tmp 12,.tmp 14],#[172,172]⟩,none⟩,[]⟩,⟨⟨some 10,.move (.tmp 15),none⟩,[]⟩,⟨⟨some 16,.extract (.tmp 10) 0,none⟩,[]⟩,⟨⟨some 17,.extract (.tmp 10) 1,none⟩,[]⟩,⟨⟨some 6,.assign (.tmp 16),none⟩,[]⟩,⟨⟨some 7,.assign (.tmp 17),none⟩,[]⟩]) (.seq (.reg [⟨⟨some 18,.move (.tmp 6),none⟩,[]⟩,⟨⟨some 19,.convert 172 122 (.tmp 18),none⟩,[]⟩,
 ⟨⟨some 20,.move (.tmp 7),none⟩,[]⟩,⟨⟨some 21,.convert 172 122 (.tmp 20),none⟩,[]⟩,⟨⟨some 4,.assign (.tmp 19),none⟩,[]⟩,⟨⟨some 5,.assign (.tmp 21),none⟩,[]⟩]) .ret)) .skip) (.seq (.reg [⟨⟨some 23,.move (.tmp 0),none⟩,[]⟩,⟨⟨some 24,.move (.tmp 1),none⟩,[]⟩,⟨⟨some 25,.call ⟨(.value (.func 227)),#[.tmp 23,.tmp 24],#[87,87]⟩,none⟩,[]⟩,⟨⟨some 22,.move (.tmp 25),none⟩,[]⟩,⟨⟨some 26,.extract (.tmp 22) 0,none⟩,[]⟩,⟨⟨some 27,.extract (.tmp 22) 1,none⟩,[]⟩,⟨⟨some 8,.assign (.tmp 26),none⟩,[]⟩,⟨⟨some 9,.assign (.tmp 27),none⟩,[]⟩]) (.seq (.reg [⟨⟨some 28,.move (.tmp 8),none⟩,[]⟩,⟨⟨some 29,.move (.tmp 9),none⟩,[]⟩,
 ⟨⟨some 4,.assign (.tmp 28),none⟩,[]⟩,
  ⟨⟨some 5,.assign (.tmp 29),none⟩,[]⟩]) .ret))))
theorem in202:InT Tryz.prog 202 2 [.tmp 4,.tmp 5] cd202:=InT.mk (by kernel_rfl) [] Tryz.func202 rfl (by kernel_rfl) (by kernel_rfl) (of_decide_eq_true (by kernel_rfl)) (by kernel_rfl)
def cd157:Cd:=(.seq (.reg [⟨⟨some 4,.assign (.const (.slice none 0 0)),none⟩,[]⟩]) (.seq (.seq (.reg [⟨⟨some 9,.move (.tmp 1),none⟩,[]⟩,⟨⟨some 10,.binOp .lss 3 (.tmp 9) (.const (.int .i64 0)) 3,none⟩,[]⟩]) (.cond (.tmp 10) (.reg [⟨⟨some 11,.makeInterface 9 (.const (.string { data:=#[99,97,110,110,111,116,32,98,101,32,110,101,103,97,116,105,118,101] })),none⟩,[]⟩,⟨⟨none,.panic (.tmp 11),none⟩,[]⟩]) .skip)) (.seq (.reg [⟨⟨some 13,.move (.tmp 0),none⟩,[]⟩,⟨⟨some 14,.call ⟨(.builtin .len),#[.tmp 13],#[27]⟩,none⟩,[]⟩,⟨⟨some 15,.convert 3 122 (.tmp 14),none⟩,[]⟩,⟨⟨some 16,.move (.tmp 1),none⟩,[]⟩,⟨⟨some 17,.convert 3 122 (.tmp 16),none⟩,[]⟩,⟨⟨some 18,.call ⟨(.value (.func 202)),#[.tmp 15,.tmp 17],#[122,122]⟩,none⟩,[]⟩,⟨⟨some 12,.move (.tmp 18),none⟩,[]⟩,⟨⟨some 19,.extract (.tmp 12) 0,none⟩,[]⟩,⟨⟨some 20,.extract (.tmp 12) 1,none⟩,[]⟩,⟨⟨some 5,.assign (.tmp 19),none⟩,[]⟩,
 ⟨⟨some 6,.assign (.tmp 20),none⟩,[]⟩]) (.seq (.seq (.reg [⟨⟨some 21,.move (.tmp 5),none⟩,[]⟩,⟨⟨some 22,.binOp .gtr 122 (.tmp 21) (.const (.int .u64 0)) 122,none⟩,[]⟩,⟨⟨some 23,.move (.tmp 22),none⟩,[]⟩,⟨⟨some 24,.move (.tmp 6),some (23,false)⟩,[]⟩,⟨⟨some 25,.binOp .gtr 122 (.tmp 24) (.const (.int .u64 9223372036854775807)) 122,some (23,false)⟩,[]⟩,⟨⟨some 26,.pick (.tmp 23) (.const (.bool true)) (.tmp 25),none⟩,[]⟩]) (.cond (.tmp 26) (.reg [⟨⟨some 27,.makeInterface 9 (.const (.string { data:=#[116,104,101,32,114,101,115,117,108,116,32,111,102,32,40,108,101,110,40,120,41,32,42,32,99,111,117,110,116,41,32,111,118,101,114,102,108,111,119,115] })),none⟩,[]⟩,⟨⟨none,.panic (.tmp 27),none⟩,[]⟩]) .skip)) (.seq (.reg [⟨⟨some 28,.move (.tmp 6),none⟩,[]⟩,⟨⟨some 29,.convert 122 3 (.tmp 28),none⟩,[]⟩,⟨⟨some 30,.makeSlice 27 (.tmp 29) (.tmp 29),none⟩,[]⟩,⟨⟨some 7,.assign (.tmp 30),none⟩,[]⟩]) (.seq (.reg [⟨⟨some 31,.move (.tmp 7),none⟩,[]⟩,⟨⟨some 32,.move (.tmp 0),none⟩,[]⟩,⟨⟨some 33,.call ⟨(.builtin .copy),#[.tmp 31,.tmp 32],#[27,27]⟩,none⟩,[]⟩,
 ⟨⟨some 8,.assign (.tmp 33),none⟩,[]⟩]) (.seq (.block 0 (.loop (.seq (.seq (.reg [⟨⟨some 34,.move (.tmp 8),none⟩,[]⟩,⟨⟨some 35,.move (.tmp 7),none⟩,[]⟩,⟨⟨some 36,.call ⟨(.builtin .len),#[.tmp 35],#[27]⟩,none⟩,[]⟩,⟨⟨some 37,.binOp .lss 3 (.tmp 34) (.tmp 36) 3,none⟩,[]⟩]) (.cond (.tmp 37) .skip (.exit 0))) (.block 1 (.reg [⟨⟨some 38,.move (.tmp 8),none⟩,[]⟩,⟨⟨some 39,.move (.tmp 7),none⟩,[]⟩,⟨⟨some 40,.move (.tmp 8),none⟩,[]⟩,⟨⟨some 41,.slice 27 (.tmp 39) (some (.tmp 40)) none none,none⟩,[]⟩,⟨⟨some 42,.move (.tmp 7),none⟩,[]⟩,⟨⟨some 43,.move (.tmp 8),none⟩,[]⟩,⟨⟨some 44,.slice 27 (.tmp 42) none (some (.tmp 43)) none,none⟩,[]⟩,⟨⟨some 45,.call ⟨(.builtin .copy),#[.tmp 41,.tmp 44],#[27,27]⟩,none⟩,[]⟩,⟨⟨some 46,.binOp .add 3 (.tmp 38) (.tmp 45) 3,none⟩,[]⟩,
 ⟨⟨some 8,.assign (.tmp 46),none⟩,[]⟩]))))) (.seq (.reg [⟨⟨some 47,.move (.tmp 7),none⟩,[]⟩,
  ⟨⟨some 4,.assign (.tmp 47),none⟩,[]⟩]) .ret))))))))
theorem in157:InT Tryz.prog 157 2 [.tmp 4] cd157:=InT.mk (by kernel_rfl) [(9,[(0,false),(1,false),(2,false),(3,false),(4,false),(5,false),(6,false),(7,true),(8,false),(9,true)])] Tryz.func157 rfl (by kernel_rfl) (by kernel_rfl) (of_decide_eq_true (by kernel_rfl)) (by kernel_rfl)
end Go.Proofs.YtjnefjchconebaaGreat.Ai
namespace Go.Proofs.YtjnefjchconebaaGreat.Ai
open Go Go.RowKit
theorem sl_own {P:Program}{t e:TypeId}(hu:P.underlying t=some (.slice e))(hc:P.cellsOf e=1){H:AH}{o k n c:Nat}{vs:List Value}{ro:Bool}(ho:H[o]?=some (.cells vs e ro)){lo hi:Option Value}{l r:Nat}(h1:boundA lo 0=some l)(h2:boundA hi n=some r)(hl:l<=r)(hr:r<=n) :
    sliceA P t (.slice (some ⟨o,k,none⟩) n c) lo hi none H=some (.slice (some ⟨o,k+l,none⟩) (r - l) (r - l)):=by
  simp only [sliceA,hu,h1,h2,ho,hc,Nat.mul_one]
  rw [if_pos ⟨hl,hr,trivial,Nat.one_pos⟩]
theorem cp_ints {P:Program}{t e:TypeId}(hu:P.underlying t=some (.slice e))(hc:P.cellsOf e=1){H:AH}{o k n c:Nat}{xs ys:List Int}{x:Value}(ho:H[o]?=some (.cells (ints xs) e false))(hr:Row e H x ys)(hm:0<ys.length)(hn:0<n)(hb:k+n<=xs.length) :
    copyA P t (.slice (some ⟨o,k,none⟩) n c) x H=some (.int .i64 ((min ys.length n:Nat):Int),H.set o (.cells (ints (xs.take k ++ ys.take (min ys.length n) ++ xs.drop (k+min ys.length n))) e false)):=by
  have hs:=hr.cells (P:=P) hc
  simp only [copyA,hu,ho,hs,hc,Nat.mul_one]
  rw [if_pos ⟨trivial,Nat.one_pos,hm,hn,by rw [ints_len];exact hb⟩]
  have:putAt (ints xs) k ((ints ys).take (min ys.length n))=ints (xs.take k ++ ys.take (min ys.length n) ++ xs.drop (k+min ys.length n)):=by
    unfold putAt
    have e1:((ints ys).take (min ys.length n)).length=min ys.length n:=by rw [List.length_take,ints_len];omega
    rw [e1]
    simp [ints,List.map_take,List.map_drop]
  rw [this]
theorem mul_one_u (P:Program)(t:TypeId)(n:Nat)(h:n<18446744073709551616):binA P .mul t (.int .u64 1) (.int .u64 (n:Int))=some (.int .u64 (n:Int)):=by
  simp only [binA,intA,Int.one_mul,IntKind.wrap_u64]
  simp
  omega
theorem mul_zero_u (P:Program)(t:TypeId)(n:Nat):binA P .mul t (.int .u64 0) (.int .u64 (n:Int))=some (.int .u64 0):=by
  simp only [binA,intA,Int.zero_mul,IntKind.wrap_u64]
  simp
theorem shr32 (P:Program)(t:TypeId)(n:Nat)(h:n<4294967296):binA P .shr t (.int .u64 (n:Int)) (.int .u64 32)=some (.int .u64 0):=by
  simp only [binA,shiftA]
  rw [if_pos (.inr trivial),if_neg (by decide)]
  congr 2
  have:(2 ^ min (32:Int).toNat IntKind.u64.bits:Int)=4294967296:=by decide
  rw [this,Int.fdiv_eq_ediv_of_nonneg _ (by decide)]
  omega
theorem and32 (P:Program)(t:TypeId)(n:Nat)(h:n<4294967296):binA P .and t (.int .u64 (n:Int)) (.int .u64 4294967295)=some (.int .u64 (n:Int)):=by
  have:=bin_and P t n 4294967295 (by omega) (by decide)
  have e:n &&& 4294967295=n:=by
    rw [show 4294967295=2 ^ 32 - 1 from rfl,Nat.and_two_pow_sub_one_eq_mod]
    exact Nat.mod_eq_of_lt h
  rw [e] at this
  exact this
theorem Mul64_c (n:Nat)(H:AH)(hn:n<4294967296):ACalls Tryz.prog 227 [.int .u64 1,.int .u64 (n:Int)] H fun r H'=>r=.tuple (List.toArray [.int .u64 0,.int .u64 (n:Int)])/\H=H':=by
  refine in227 rfl ?_
  intro Q hQ
  have k1:binA Tryz.prog .and 87 (.int .u64 1) (.int .u64 4294967295)=some (.int .u64 1):=by kernel_rfl
  have k2:binA Tryz.prog .shr 87 (.int .u64 1) (.int .u64 32)=some (.int .u64 0):=by kernel_rfl
  have k3:=and32 Tryz.prog 87 n hn
  have k4:=shr32 Tryz.prog 87 n hn
  have k5:=mul_one_u Tryz.prog 87 n (by omega)
  have k6:=mul_zero_u Tryz.prog 87 n
  have k7:binA Tryz.prog .add 87 (.int .u64 0) (.int .u64 0)=some (.int .u64 0):=by kernel_rfl
  have k8:binA Tryz.prog .and 87 (.int .u64 0) (.int .u64 4294967295)=some (.int .u64 0):=by kernel_rfl
  have k9:binA Tryz.prog .shr 87 (.int .u64 0) (.int .u64 32)=some (.int .u64 0):=by kernel_rfl
  have k10:binA Tryz.prog .mul 87 (.int .u64 1) (.int .u64 0)=some (.int .u64 0):=by kernel_rfl
  have k11:binA Tryz.prog .mul 87 (.int .u64 0) (.int .u64 0)=some (.int .u64 0):=by kernel_rfl
  simp (maxSteps:=1000000) (disch:=omega) only [cd227,k1,k2,k3,k4,k5,k6,k7,k8,k9,k10,k11,SS,eq_self,reduceIte,reduceCtorEq,Nat.reduceEqDiff,Nat.reduceAdd]
  refine hQ _ _ _ ?_
  simp (maxSteps:=1000000) (disch:=omega) only [SS,eq_self,reduceIte,reduceCtorEq,Nat.reduceEqDiff,Nat.reduceAdd]
theorem Mul_c (n:Nat)(H:AH)(hn:n<4294967296):ACalls Tryz.prog 202 [.int .u64 1,.int .u64 (n:Int)] H fun r H'=>r=.tuple (List.toArray [.int .u64 0,.int .u64 (n:Int)])/\H=H':=by
  refine in202 rfl ?_
  intro Q hQ
  simp (disch:=omega) only [cd202,SS,eq_self,reduceIte,reduceCtorEq,Nat.reduceEqDiff,Nat.reduceAdd]
  refine CallH.by (Mul64_c n H hn) ?_
  rintro _ _ ⟨rfl,rfl⟩
  simp (disch:=omega) only [SS,eq_self,reduceIte,reduceCtorEq,Nat.reduceEqDiff,Nat.reduceAdd]
  refine hQ _ _ _ ?_
  simp (disch:=omega) only [SS,eq_self,reduceIte,reduceCtorEq,Nat.reduceEqDiff,Nat.reduceAdd]
def rpN (N k:Nat):List Int:=List.replicate k (-1) ++ List.replicate (N - k) 0
theorem rpN_step (N k:Nat)(hk:k<=N):(rpN N k).take k ++ (List.replicate k (-1:Int)).take (min k (N - k)) ++ (rpN N k).drop (k+min k (N - k))=rpN N (k+min k (N - k)):=by
  unfold rpN
  rw [List.take_left' (by simp),List.take_replicate,<- List.drop_drop,List.drop_left' (by simp),List.drop_replicate,List.replicate_append_replicate]
  congr 2 <;> omega
theorem rpN_take (N k:Nat):(rpN N k).take k=List.replicate k (-1):=by
  unfold rpN
  rw [List.take_left' (by simp)]
theorem rpN_len (N k:Nat)(h:k<=N):(rpN N k).length=N:=by simp [rpN];omega
theorem Repeat_c (v:Value)(N:Nat)(H:AH)(hr:Row 3 H v [-1])(hN:1<=N/\N<=1000000000):ACalls Tryz.prog 157 [v,.int .i64 (N:Int)] H fun r H'=>Own 3 H H' r (List.replicate N (-1))/\H<+:H':=by
  refine in157 rfl ?_
  intro Q hQ
  have hU:IntKind.u64.wrap (N:Int)=(N:Int):=by rw [IntKind.wrap_u64];omega
  have hU1:IntKind.u64.wrap 1=1:=by decide
  simp (disch:=omega) only [cd157,hr.len Tryz.underlying27,SS,eq_self,reduceIte,reduceCtorEq,Nat.reduceEqDiff,Nat.reduceAdd]
  refine brD.intro (fun g=>absurd g (by omega)) (fun g=>?_)
  have hl1:(([-1]:List Int).length:Int)=1:=rfl
  simp (disch:=omega) only [hr.len Tryz.underlying27,hU,hl1,hU1,SS,eq_self,reduceIte,reduceCtorEq,Nat.reduceEqDiff,Nat.reduceAdd]
  refine CallH.by (Mul_c N H (by omega)) ?_
  rintro _ _ ⟨rfl,rfl⟩
  have d0:¬ ((0:Int) > 0):=by decide
  simp (disch:=omega) only [d0,SS,eq_self,reduceIte,reduceCtorEq,Nat.reduceEqDiff,Nat.reduceAdd]
  refine brD.intro (fun g=>absurd g (by omega)) (fun g2=>?_)
  simp (disch:=omega) only [wrap64,mks27,Int.toNat_natCast,SS,eq_self,reduceIte,reduceCtorEq,Nat.reduceEqDiff,Nat.reduceAdd]
  generalize hz:H ++ [AObj.cells (ints (List.replicate N 0)) 3 false]=Z
  have pZ:H<+:Z:=by rw [<- hz];exact List.prefix_append _ _
  have cZ:Z[H.length]?=some (.cells (ints (List.replicate N 0)) 3 false):=by rw [<- hz];exact at_new ..
  have c1:=cp_ints (P:=Tryz.prog) (t:=27) (k:=0) (n:=N) (c:=N) Tryz.underlying27 cs3 cZ (hr.pre pZ) (by decide) (by omega) (by simp)
  have e1:min ([-1]:List Int).length N=1:=by simp;omega
  have e2:(List.replicate N (0:Int)).take 0 ++ ([-1]:List Int).take 1 ++ (List.replicate N (0:Int)).drop (0+1)=rpN N 1:=by simp [rpN,List.drop_replicate]
  rw [e1,e2] at c1
  simp (disch:=omega) only [c1,SS,eq_self,reduceIte,reduceCtorEq,Nat.reduceEqDiff,Nat.reduceAdd]
  refine LoopH.by (fun m s H'=>∃ k,m+k=N/\1<=k/\s 7=.slice (some ⟨H.length,0,none⟩) N N/\s 8=.int .i64 ((k:Nat):Int)/\H'=Z.set H.length (.cells (ints (rpN N k)) 3 false)) (N - 1) ?_ ?_
  . exact ⟨1,by omega,by omega,rfl,rfl,rfl⟩
  . rintro m s H' ⟨k,hm,hk1,h7,h8,rfl⟩
    have cK:(Z.set H.length (.cells (ints (rpN N k)) 3 false))[H.length]?=some (.cells (ints (rpN N k)) 3 false):=at_set cZ
    simp (disch:=omega) only [h7,h8,SS,eq_self,reduceIte,reduceCtorEq,Nat.reduceEqDiff,Nat.reduceAdd]
    refine brD.intro (fun g=>?_) (fun g=>?_)
    . have hk:k<N:=by omega
      have s1:=sl_own (P:=Tryz.prog) (t:=27) (k:=0) (n:=N) (c:=N) Tryz.underlying27 cs3 cK (bound_some (k:=.i64) (i:=(k:Int)) (by omega) 0) (hi_none N) (show ((k:Int)).toNat<=N by omega) (Nat.le_refl _)
      have s2:=sl_own (P:=Tryz.prog) (t:=27) (k:=0) (n:=N) (c:=N) Tryz.underlying27 cs3 cK lo_none (bound_some (k:=.i64) (i:=(k:Int)) (by omega) N) (Nat.zero_le _) (show ((k:Int)).toNat<=N by omega)
      simp only [Int.toNat_natCast,Nat.zero_add,Nat.sub_zero] at s1 s2
      have hrk:Row 3 (Z.set H.length (.cells (ints (rpN N k)) 3 false)) (.slice (some ⟨H.length,0,none⟩) k k) (List.replicate k (-1)):=by
        refine .inr ⟨H.length,0,ints (rpN N k),false,by simp,cK,by rw [ints_len,rpN_len N k (by omega)];simp;omega,?_⟩
        rw [List.length_replicate,List.drop_zero]
        have:(ints (rpN N k)).take k=ints ((rpN N k).take k):=by simp [ints,List.map_take]
        rw [this,rpN_take]
      have c2:=cp_ints (P:=Tryz.prog) (t:=27) (k:=k) (n:=N - k) (c:=N - k) Tryz.underlying27 cs3 cK hrk (by simp;omega) (by omega) (by rw [rpN_len N k (by omega)];omega)
      rw [List.length_replicate,rpN_step N k (by omega),List.set_set] at c2
      simp (disch:=omega) only [h7,h8,s1,s2,c2,wrap64,SS,eq_self,reduceIte,reduceCtorEq,Nat.reduceEqDiff,Nat.reduceAdd]
      refine ⟨m - min k (N - k),by omega,k+min k (N - k),?_⟩
      (repeat' apply And.intro) <;> first | (simp only [Value.int.injEq,true_and];omega) | omega | rfl | assumption | (simp;done) | (simp;omega)
    . simp (disch:=omega) only [h7,SS,eq_self,reduceIte,reduceCtorEq,Nat.reduceEqDiff,Nat.reduceAdd]
      refine hQ _ _ _ ?_
      simp (disch:=omega) only [h7,SS,eq_self,reduceIte,reduceCtorEq,Nat.reduceEqDiff,Nat.reduceAdd]
      have:k=N:=by omega
      subst this
      have e3:rpN k k=List.replicate k (-1):=by simp [rpN]
      rw [e3]
      have hZ:=at_set (d:=.cells (ints (List.replicate k (-1))) 3 false) cZ
      exact ⟨.inr ⟨H.length,by rw [List.length_replicate],Nat.le_refl _,hZ⟩,pre_set pZ (Nat.le_refl _) _⟩
theorem rpN_set (N j:Nat)(hj:j<N):(rpN N j).set j (-1)=rpN N (j+1):=by
  unfold rpN
  rw [List.set_append_right _ _ (by simp)]
  obtain ⟨n,hn⟩:∃ n,N - j=n+1:=⟨N - j - 1,by omega⟩
  rw [hn,List.length_replicate,Nat.sub_self,List.replicate_succ,List.set_cons_zero,List.replicate_succ',List.append_assoc]
  have:N - (j+1)=n:=by omega
  rw [this];rfl
theorem InL.parts {lo hi:Nat}{e2 e:TypeId}{H:AH}{v:Value}{ls:List (List Int)}(h:InL lo hi e2 e H v ls):∃ us:List Value,RowV e2 H v us/\us.length=ls.length/\∀ i,i<ls.length->InI lo hi e H (us.getD i undef) (ls.getD i []):=by
  rcases h with ⟨h1,h2⟩ | ⟨o,us,h0,h1,h2,h3,h4,h5,h6⟩
  . subst h1;subst h2;exact ⟨[],.inl ⟨rfl,rfl⟩,rfl,fun i hi=>absurd hi (by simp)⟩
  . refine ⟨us.take ls.length,.inr ⟨o,0,us,false,by simp [h0,Nat.min_eq_left h4],h3,by simp;omega,by simp [Nat.min_eq_left h4]⟩,by simp;omega,fun i hi=>?_⟩
    have:(us.take ls.length).getD i undef=us.getD i undef:=by
      rw [List.getD_eq_getElem?_getD,List.getD_eq_getElem?_getD,List.getElem?_take,if_pos hi]
    rw [this]
    exact (h5 i hi).1
def cd63:Cd:=(.seq (.reg [⟨⟨some 4,.assign (.const (.map none)),none⟩,[]⟩]) (.seq (.reg [⟨⟨some 12,.makeMap 73 none,none⟩,[]⟩,⟨⟨some 13,.move (.tmp 0),none⟩,[]⟩,⟨⟨some 14,.call ⟨(.value (.func 66)),#[.tmp 13],#[27]⟩,none⟩,[]⟩,⟨⟨none,.insert 73 (.tmp 12) (.tmp 14) (.const (.int .i64 0)),none⟩,[]⟩,⟨⟨some 15,.move (.tmp 12),none⟩,[]⟩,⟨⟨some 16,.move (.tmp 0),none⟩,[]⟩,⟨⟨some 17,.buildSlice 36 1 #[(0,.tmp 16)],none⟩,[]⟩,⟨⟨some 5,.assign (.tmp 15),none⟩,[]⟩,⟨⟨some 6,.assign (.tmp 17),none⟩,[]⟩]) (.seq (.block 0 (.loop (.seq (.seq (.reg [⟨⟨some 18,.move (.tmp 6),none⟩,[]⟩,⟨⟨some 19,.call ⟨(.builtin .len),#[.tmp 18],#[36]⟩,none⟩,[]⟩,⟨⟨some 20,.binOp .gtr 3 (.tmp 19) (.const (.int .i64 0)) 3,none⟩,[]⟩]) (.cond (.tmp 20) .skip (.exit 0))) (.block 1 (.seq (.reg [⟨⟨some 21,.move (.tmp 6),none⟩,[]⟩,⟨⟨some 22,.indexAddr 36 (.tmp 21) (.const (.int .i64 0)),none⟩,[]⟩,
 ⟨⟨some 23,.load 27 (.tmp 22),none⟩,[]⟩,⟨⟨some 7,.assign (.tmp 23),none⟩,[]⟩]) (.seq (.reg [⟨⟨some 24,.move (.tmp 6),none⟩,[]⟩,⟨⟨some 25,.slice 36 (.tmp 24) (some (.const (.int .i64 1))) none none,none⟩,[]⟩,⟨⟨some 6,.assign (.tmp 25),none⟩,[]⟩]) (.seq (.reg [⟨⟨some 26,.move (.tmp 1),none⟩,[]⟩,⟨⟨some 27,.move (.tmp 7),none⟩,[]⟩,⟨⟨some 28,.call ⟨(.value (.tmp 26)),#[.tmp 27],#[27]⟩,none⟩,[]⟩,⟨⟨some 29,.call ⟨(.builtin .len),#[.tmp 28],#[36]⟩,none⟩,[]⟩,⟨⟨some 30,.move (.const (.int .i64 0)),none⟩,[]⟩]) (.block 2 (.loop (.seq (.reg [⟨⟨some 31,.binOp .lss 3 (.tmp 30) (.tmp 29) 3,none⟩,[]⟩]) (.seq (.cond (.tmp 31) .skip (.exit 2)) (.seq (.block 3 (.seq (.reg [⟨⟨some 32,.indexAddr 36 (.tmp 28) (.tmp 30),none⟩,[]⟩,⟨⟨some 33,.load 27 (.tmp 32),none⟩,[]⟩,⟨⟨some 9,.assign (.tmp 33),none⟩,[]⟩]) (.seq (.reg [⟨⟨some 35,.move (.tmp 5),none⟩,[]⟩,⟨⟨some 36,.move (.tmp 9),none⟩,[]⟩,⟨⟨some 37,.call ⟨(.value (.func 66)),#[.tmp 36],#[27]⟩,none⟩,[]⟩,
 ⟨⟨some 38,.lookup 73 (.tmp 35) (.tmp 37) true,none⟩,[]⟩,⟨⟨some 34,.move (.tmp 38),none⟩,[]⟩,⟨⟨some 39,.extract (.tmp 34) 0,none⟩,[]⟩,⟨⟨some 40,.extract (.tmp 34) 1,none⟩,[]⟩,⟨⟨some 10,.assign (.tmp 39),none⟩,[]⟩,⟨⟨some 11,.assign (.tmp 40),none⟩,[]⟩]) (.seq (.reg [⟨⟨some 41,.move (.tmp 11),none⟩,[]⟩,⟨⟨some 42,.unOp .not 4 (.tmp 41),none⟩,[]⟩]) (.cond (.tmp 42) (.seq (.reg [⟨⟨some 43,.move (.tmp 5),none⟩,[]⟩,⟨⟨some 44,.move (.tmp 9),none⟩,[]⟩,⟨⟨some 45,.call ⟨(.value (.func 66)),#[.tmp 44],#[27]⟩,none⟩,[]⟩,⟨⟨some 46,.move (.tmp 5),none⟩,[]⟩,⟨⟨some 47,.move (.tmp 7),none⟩,[]⟩,⟨⟨some 48,.call ⟨(.value (.func 66)),#[.tmp 47],#[27]⟩,none⟩,[]⟩,
 ⟨⟨some 49,.lookup 73 (.tmp 46) (.tmp 48) false,none⟩,[]⟩,
  ⟨⟨some 50,.binOp .add 3 (.tmp 49) (.const (.int .i64 1)) 3,none⟩,[]⟩,
  ⟨⟨none,.mapUpdate 73 (.tmp 43) (.tmp 45) (.tmp 50),none⟩,[]⟩]) (.reg [⟨⟨some 51,.move (.tmp 6),none⟩,[]⟩,
  ⟨⟨some 52,.move (.tmp 9),none⟩,[]⟩,
  ⟨⟨some 53,.buildSlice 36 1 #[(0,.tmp 52)],none⟩,[]⟩,
  ⟨⟨some 54,.call ⟨(.builtin .append),#[.tmp 51,.tmp 53],#[36,36]⟩,none⟩,[]⟩,
  ⟨⟨some 6,.assign (.tmp 54),none⟩,[]⟩])) .skip))))) (.reg [⟨⟨some 55,.binOp .add 3 (.tmp 30) (.const (.int .i64 1)) 3,none⟩,[]⟩,
  ⟨⟨some 30,.move (.tmp 55),none⟩,[]⟩]))))))))))))) (.seq (.reg [⟨⟨some 56,.move (.tmp 5),none⟩,[]⟩,
  ⟨⟨some 4,.assign (.tmp 56),none⟩,[]⟩]) .ret))))
theorem in63:InT Tryz.prog 63 2 [.tmp 4] cd63:=InT.mk (by kernel_rfl) [] Tryz.func63 rfl (by kernel_rfl) (by kernel_rfl) (of_decide_eq_true (by kernel_rfl)) (by kernel_rfl)
end Go.Proofs.YtjnefjchconebaaGreat.Ai
namespace Go.Proofs.YtjnefjchconebaaGreat.Ai
open Go Go.RowKit
def NoInt (x:AObj):Prop:=∀ vs ro,x ≠ .cells vs 3 ro
theorem Row.ne {H:AH}{v:Value}{xs:List Int}(h:Row 3 H v xs){o:Nat}{x:AObj}(ho:H[o]?=some x)(hx:NoInt x):v=.slice none 0 0∨rowO v ≠ o:=by
  rcases h with h | ⟨o',k,vs,ro,h1,h2,_⟩
  . exact .inl h.1
  . refine .inr fun e=>?_
    rw [h1] at e
    have e':o'=o:=e
    rw [e',ho] at h2
    exact hx vs ro (by simpa using h2)
theorem Row.but {H H':AH}{v:Value}{xs:List Int}(h:Row 3 H v xs){o:Nat}{x:AObj}(ho:H[o]?=some x)(hx:NoInt x)(hk:∀ (j:Nat) (y:AObj),j ≠ o->H[j]?=some y->H'[j]?=some y):Row 3 H' v xs:=by
  rcases h.ne ho hx with g | g
  . exact .inl ⟨g,h.nilv g⟩
  . exact h.mono fun y hy=>hk _ _ g hy
theorem noInt_mp (l:List (Value × Value)):NoInt (.mp l):=fun vs ro h=>by cases h
theorem noInt_ll (vs:List Value)(ro:Bool):NoInt (.cells vs 27 ro):=fun ws r h=>by
  simp only [AObj.cells.injEq] at h
  exact absurd h.2.1 (by decide)
theorem bsRowQ {H0:AH}{v:Value}{xs:List Int}(h:Row 3 H0 v xs)(K:AH):buildSliceA Tryz.prog 36 1 [(0,v)] K=some (.slice (some ⟨K.length,0,none⟩) 1 1,K ++ [.cells [v] 27 false]):=by
  obtain ⟨q,eq⟩:=h.shape
  rw [eq]
  exact bs1 Tryz.underlying36 cs27 ze27 ⟨by kernel_rfl,by kernel_rfl⟩ K rfl
theorem app_qV {P:Program}{t e:TypeId}(hu:P.underlying t=some (.slice e))(hc:P.cellsOf e=1)(hby:P.bytesOf e<=64)(hz:zeroOk P e=true){H:AH}{o k n c:Nat}{zs:List Value}{x:Value}(ho:H[o]?=some (.cells zs e false))(hn:k+n<=zs.length)(hb:n<=1099511627775) :
    appendA P t t (.slice (some ⟨o,k,none⟩) n c) (.slice (some ⟨H.length,0,none⟩) 1 1) (H ++ [.cells [x] e false])=some (.slice (some ⟨H.length+1,0,none⟩) (n+1) (n+1),H.set o .dead ++ [.cells [x] e false,.cells ((zs.drop k).take n ++ [x]) e false]):=by
  have hlt:o<H.length:=at_lt ho
  have hb2:(n+1) * P.bytesOf e<=140737488355328:=by
    refine Nat.le_trans (Nat.mul_le_mul_left _ hby) ?_
    omega
  have ho2:(H ++ [AObj.cells [x] e false])[o]?=some (.cells zs e false):=at_app ho _
  have hsc:sliceCells P e (.slice (some ⟨H.length,0,none⟩) 1 1) (H ++ [.cells [x] e false])=some (1,[x]):=by
    simp only [sliceCells,at_new,hc];simp
  simp only [appendA,hu,hc,hsc,ho2,hz]
  rw [if_pos (by simp),if_neg (by simp),if_pos ⟨trivial,by omega,hb2,by omega,trivial⟩]
  rw [Nat.mul_one,List.length_append,List.set_append_left _ _ hlt]
  simp
def QV (H:AH)(oq kq nq:Nat)(bs:List (List Int)):Prop :=
  ∃ zs,H[oq]?=some (.cells zs 27 false)/\kq+nq<=zs.length/\nq=bs.length/\∀ j,j<nq->Row 3 H (zs.getD (kq+j) undef) (bs.getD j [])
theorem QV.tail {H:AH}{oq kq nq:Nat}{b:List Int}{bs:List (List Int)}(h:QV H oq kq nq (b :: bs)):QV H oq (kq+1) (nq - 1) bs/\0<nq/\∃ u,cellA H oq kq=some u/\Row 3 H u b:=by
  obtain ⟨zs,h1,h2,h3,h4⟩:=h
  rw [List.length_cons] at h3
  refine ⟨⟨zs,h1,by omega,by omega,fun j hj=>?_⟩,by omega,zs.getD kq undef,?_,?_⟩
  . have:=h4 (j+1) (by omega)
    rw [show kq+(j+1)=kq+1+j by omega] at this
    simpa using this
  . rw [cell_of h1]
    have:kq<zs.length:=by omega
    simp [this]
  . have:=h4 0 (by omega)
    simpa using this
theorem QV.but {H H':AH}{oq kq nq:Nat}{bs:List (List Int)}(h:QV H oq kq nq bs){o:Nat}{x:AObj}(ho:H[o]?=some x)(hx:NoInt x)(hq:oq ≠ o)(hk:∀ (j:Nat) (y:AObj),j ≠ o->H[j]?=some y->H'[j]?=some y):QV H' oq kq nq bs:=by
  obtain ⟨zs,h1,h2,h3,h4⟩:=h
  exact ⟨zs,hk _ _ hq h1,h2,h3,fun j hj=>(h4 j hj).but ho hx hk⟩
theorem QV.pre {H H':AH}{oq kq nq:Nat}{bs:List (List Int)}(h:QV H oq kq nq bs)(hp:H<+:H'):QV H' oq kq nq bs:=by
  obtain ⟨zs,h1,h2,h3,h4⟩:=h
  exact ⟨zs,pre_at hp h1,h2,h3,fun j hj=>(h4 j hj).pre hp⟩
theorem QV.push {H:AH}{oq kq nq:Nat}{bs:List (List Int)}(h:QV H oq kq nq bs){x:Value}{b:List Int}(hx:Row 3 H x b)(hb:nq<=1099511627775) :
    ∃ H2,appendA Tryz.prog 36 36 (.slice (some ⟨oq,kq,none⟩) nq nq) (.slice (some ⟨H.length,0,none⟩) 1 1) (H ++ [.cells [x] 27 false])=some (.slice (some ⟨H.length+1,0,none⟩) (nq+1) (nq+1),H2) /\
      QV H2 (H.length+1) 0 (nq+1) (bs ++ [b])/\H2.length=H.length+2/\(∀ (j:Nat) (y:AObj),j ≠ oq->H[j]?=some y->H2[j]?=some y):=by
  obtain ⟨zs,h1,h2,h3,h4⟩:=h
  have k1:=app_qV (P:=Tryz.prog) (t:=36) (k:=kq) (n:=nq) (c:=nq) (x:=x) Tryz.underlying36 cs27 (by rw [by27];decide) zk27 h1 h2 hb
  have keep:∀ (j:Nat) (y:AObj),j ≠ oq->H[j]?=some y->(H.set oq .dead ++ [AObj.cells [x] 27 false,.cells ((zs.drop kq).take nq ++ [x]) 27 false])[j]?=some y:=fun j y hj hy=>at_old hy (fun e=>hj e.symm) _
  refine ⟨_,k1,⟨(zs.drop kq).take nq ++ [x],at_new1 ..,by simp;omega,by simp;omega,fun j hj=>?_⟩,by simp,keep⟩
  have hl:((zs.drop kq).take nq).length=nq:=by simp;omega
  rw [Nat.zero_add,List.getD_eq_getElem?_getD,List.getElem?_append,hl]
  by_cases hj2:j<nq
  . have:=h4 j hj2
    rw [if_pos hj2,List.getElem?_take,if_pos hj2,List.getElem?_drop,<- List.getD_eq_getElem?_getD]
    have e:(bs ++ [b]).getD j []=bs.getD j []:=by
      rw [List.getD_eq_getElem?_getD,List.getElem?_append_left (by omega),<- List.getD_eq_getElem?_getD]
    rw [e]
    exact this.but h1 (noInt_ll _ _) keep
  . have e:(bs ++ [b]).getD j []=b:=by
      rw [List.getD_eq_getElem?_getD,List.getElem?_append_right (by omega),show j - bs.length=0 by omega];rfl
    rw [if_neg hj2,e,show j - nq=0 by omega]
    exact hx.but h1 (noInt_ll _ _) keep
def mpB (st:List (List Int × Int)):List (Int × Int):=st.map fun e=>(keyL e.1,e.2)
theorem mpB_snoc (st:List (List Int × Int))(b:List Int)(d:Int):mpB (st ++ [(b,d)])=mpB st ++ [(keyL b,d)]:=by simp [mpB]
theorem getI_bd {n:Nat}{b:List Int}(hb:Bd n b):∀ (st:List (List Int × Int)),(∀ e ∈ st,Bd n e.1)->getI (mpB st) (keyL b)=bdD st b
  | [],_=>rfl
  | e :: st,h=>by
    have ih:=getI_bd hb st (fun x hx=>h x (by simp [hx]))
    have he:=h e (by simp)
    unfold getI bdD mpB at *
    rw [List.map_cons,List.find?_cons,List.find?_cons]
    by_cases g:e.1=b
    . rw [decide_eq_true (show keyL e.1=keyL b by rw [g]),decide_eq_true g];rfl
    . rw [decide_eq_false (fun q=>g (key_inj he.1 hb.1 (by rw [he.2,hb.2]) q)),decide_eq_false g]
      exact ih
theorem keys_bd {n:Nat}{b:List Int}(hb:Bd n b){st:List (List Int × Int)}(h:∀ e ∈ st,Bd n e.1):keyL b ∈ (mpB st).map (·.1)↔b ∈ st.map (·.1):=by
  unfold mpB
  rw [List.map_map,List.mem_map,List.mem_map]
  constructor
  . rintro ⟨e,he,q⟩
    have h1:=h e he
    exact ⟨e,he,key_inj h1.1 hb.1 (by rw [h1.2,hb.2]) q⟩
  . rintro ⟨e,he,q⟩
    exact ⟨e,he,by rw [<- q];rfl⟩
theorem bdD_isSome {st:List (List Int × Int)}{b:List Int}:(bdD st b).isSome=decide (b ∈ st.map (·.1)):=by
  by_cases h:b ∈ st.map (·.1)
  . rw [decide_eq_true h]
    cases hd:bdD st b with
    | some d=>rfl
    | none =>
      exfalso
      unfold bdD at hd
      rw [Option.map_eq_none_iff,List.find?_eq_none] at hd
      obtain ⟨e,h1,h2⟩:=List.mem_map.1 h
      have:=hd e h1
      simp only [decide_eq_true_eq] at this
      exact this h2
  . rw [decide_eq_false h,bdD_none h];rfl
def MvFn (HB:AH)(n:Nat)(fM:FuncId)(fs caps:List Value)(nx:List Int->List (List Int)):Prop :=
  ∀ (w:Value) (b:List Int) (H:AH),HB<+:H->Row 3 H w b->Bd n b->ACalls Tryz.prog fM (fs ++ (w :: caps)) H fun r H'=>InL H.length H'.length 27 3 H' r (nx b)/\H<+:H'
theorem InL.frameQ {lo hi q:Nat}{e2 e:TypeId}{H H':AH}{v:Value}{ls:List (List Int)}(h:InL lo hi e2 e H v ls)(hq:q<lo∨hi<=q)(hh:∀ (j:Nat) (y:AObj),j ≠ q->H[j]?=some y->H'[j]?=some y):InL lo hi e2 e H' v ls:=by
  rcases h with h | ⟨o,us,h1,h2⟩
  . exact .inl h
  . exact .inr ⟨o,us,h1,h2.moveq (h2.away hq) hh⟩
theorem reached_c {HB H:AH}{n:Nat}(hn:n<=6){v:Value}{p:List Int}(hr:Row 3 H v p)(hp:Bd n p)(fM:FuncId)(fs caps:List Value)(nx:List Int->List (List Int))(hM:MvFn HB n fM fs caps nx)
    (hnx:∀ b,Bd n b->∀ c ∈ nx b,Bd n c)(hnl:∀ b,(nx b).length<=1000000)(hB:HB<+:H) :
    ACalls Tryz.prog 63 [v,.func (.func fM) (List.toArray fs) (List.toArray caps)] H fun r H'=>(∃ o,r=.map (some o)/\H'[o]?=some (.mp (mpI (mpB (bdA nx p))))/\H.length<=o)/\H<+:H':=by
  refine in63 rfl ?_
  intro Q hQ
  simp (disch:=omega) only [cd63,makeMapA,SS,eq_self,reduceIte,reduceCtorEq,Nat.reduceEqDiff,Nat.reduceAdd]
  generalize hA:H ++ [AObj.mp []]=A
  have pA:H<+:A:=by rw [<- hA];exact List.prefix_append _ _
  have cA:A[H.length]?=some (.mp (mpI [])):=by rw [<- hA];exact at_new ..
  have lA:A.length=H.length+1:=by rw [<- hA];simp
  refine CallH.by (key_c v p A (hr.pre pA) hp.1) ?_
  rintro _ _ ⟨rfl,rfl⟩
  have hu0:=updI cA (k:=keyL p) (by simp) 0
  rw [List.nil_append] at hu0
  simp (disch:=omega) only [hu0,SS,eq_self,reduceIte,reduceCtorEq,Nat.reduceEqDiff,Nat.reduceAdd]
  generalize hB1:A.set H.length (.mp (mpI [(keyL p,0)]))=B
  have pB:H<+:B:=by rw [<- hB1];exact pre_set pA (Nat.le_refl _) _
  have cB:B[H.length]?=some (.mp (mpI (mpB [(p,0)]))):=by rw [<- hB1,List.getElem?_set_self (by omega)];rfl
  have lB:B.length=A.length:=by rw [<- hB1];simp
  have rB:=hr.pre pB
  simp (disch:=omega) only [bsRowQ rB,SS,eq_self,reduceIte,reduceCtorEq,Nat.reduceEqDiff,Nat.reduceAdd]
  generalize hC:B ++ [AObj.cells [v] 27 false]=C
  have pC:B<+:C:=by rw [<- hC];exact List.prefix_append _ _
  have cC:C[B.length]?=some (.cells [v] 27 false):=by rw [<- hC];exact at_new ..
  have rC:=rB.pre pC
  have q0:QV C B.length 0 1 [p]:=⟨[v],cC,by simp,rfl,fun j hj=>by
    obtain rfl:j=0:=by omega
    exact rC⟩
  refine LoopH.by (fun m s H'=>∃ (st:List (List Int × Int)) (k oq kq nq:Nat),m+k=721/\s 1=.func (.func fM) (List.toArray fs) (List.toArray caps)/\s 5=.map (some H.length)/\s 6=.slice (some ⟨oq,kq,none⟩) nq nq/\BdI n nx p st k/\bdF nx m st k=bdA nx p /\
    H'[H.length]?=some (.mp (mpI (mpB st)))/\QV H' oq kq nq ((st.drop k).map (·.1))/\H.length<oq/\H<+:H') 721 ?_ ?_
  . exact ⟨[(p,0)],0,B.length,0,1,rfl,rfl,rfl,rfl,BdI.zero hp,rfl,pre_at pC cB,q0,by omega,pB.trans pC⟩
  rintro m s H' ⟨st,k,oq,kq,nq,hm,h1,h5,h6,hI,hF,hMap,hQ',hoq,hpp⟩
  have hle:=hI.len_le hn
  have hmn:=mny_le hn
  have hnq:nq=st.length - k:=by
    obtain ⟨zs,_,_,h3,_⟩:=hQ'
    rw [h3];simp
  simp (disch:=omega) only [h1,h5,h6,SS,eq_self,reduceIte,reduceCtorEq,Nat.reduceEqDiff,Nat.reduceAdd]
  refine brD.intro (fun g=>?_) (fun g=>?_)
  rotate_left
  . simp (disch:=omega) only [h5,SS,eq_self,reduceIte,reduceCtorEq,Nat.reduceEqDiff,Nat.reduceAdd]
    refine hQ _ _ _ ?_
    simp (disch:=omega) only [h5,SS,eq_self,reduceIte,reduceCtorEq,Nat.reduceEqDiff,Nat.reduceAdd]
    rw [bdF_done nx m st k (by omega)] at hF
    rw [<- hF]
    exact ⟨rfl,⟨H.length,rfl,hMap,Nat.le_refl _⟩,hpp⟩
  have hk:k<st.length:=by omega
  obtain ⟨f,rfl⟩:∃ f,m=f+1:=⟨m - 1,by omega⟩
  rw [bdF_step nx f st k hk] at hF
  have hum:st.getD k ([],0) ∈ st:=by simp [hk]
  have hstep:=hI.step hnx hk
  have hur:=hI.rng _ hum
  rw [List.drop_eq_getElem_cons hk,List.map_cons] at hQ'
  have hge:st[k]=st.getD k ([],0):=by simp [hk]
  rw [hge] at hQ'
  have hbd:=hI.ok _ hum
  generalize hu:st.getD k ([],0)=e0 at *
  obtain ⟨b,d0⟩:=e0
  obtain ⟨hQt,hnq0,u,hcu,hru⟩:=hQ'.tail
  have hqo:∃ zs,H'[oq]?=some (.cells zs 27 false):=by obtain ⟨zs,g1,_⟩:=hQ';exact ⟨zs,g1⟩
  obtain ⟨zs0,hqo⟩:=hqo
  have hsl:=sl_own (P:=Tryz.prog) (t:=36) (k:=kq) (n:=nq) (c:=nq) Tryz.underlying36 cs27 hqo (bound_some (k:=.i64) (i:=1) (by decide) 0) (hi_none nq) (show (1:Int).toNat<=nq from hnq0) (Nat.le_refl _)
  have h11:(1:Int).toNat=1:=rfl
  rw [h11] at hsl
  have z0:(0:Int).toNat=0:=rfl
  simp (disch:=omega) only [h1,h5,h6,z0,hcu,hsl,SS,eq_self,reduceIte,reduceCtorEq,Nat.reduceEqDiff,Nat.reduceAdd]
  refine CallH.by (hM u b H' (hB.trans hpp) hru hbd) ?_
  rintro r G ⟨hL,pG⟩
  have hGl:=pG.length_le
  obtain ⟨us,hus,hul,_⟩:=hL.parts
  have hnlb:=hnl b
  simp (disch:=omega) only [h1,h5,h6,hus.len Tryz.underlying36,hul,SS,eq_self,reduceIte,reduceCtorEq,Nat.reduceEqDiff,Nat.reduceAdd]
  have hbm:∀ st',st<+:st'->(b,d0) ∈ st':=fun st' hp'=>hp'.subset hum
  generalize hN:nx b=N at *
  have hNb:∀ c ∈ N,Bd n c:=fun c hc=>hnx b hbd c (by rw [hN];exact hc)
  have hoql:oq<H'.length:=at_lt hqo
  have hll:H.length<H'.length:=at_lt hMap
  refine LoopH.by (fun m' s' H2=>∃ (j:Nat) (st':List (List Int × Int)) (oq' kq' nq':Nat),m'+j=N.length/\s' 1=.func (.func fM) (List.toArray fs) (List.toArray caps)/\s' 5=.map (some H.length)/\s' 6=.slice (some ⟨oq',kq',none⟩) nq' nq'/\s' 7=u/\s' 28=r/\s' 29=.int .i64 (N.length:Int)/\s' 30=.int .i64 ((j:Nat):Int) /\
    bdIn (d0+1) (N.drop j) st'=bdIn (d0+1) N st/\st<+:st'/\(∀ e ∈ st',Bd n e.1)/\(st'.map (·.1)).Nodup/\st'.length<=720 /\
    H2[H.length]?=some (.mp (mpI (mpB st')))/\QV H2 oq' kq' nq' ((st'.drop (k+1)).map (·.1))/\(oq'=oq∨G.length<=oq')/\Row 3 H2 u b/\InL H'.length G.length 27 3 H2 r N/\G.length<=H2.length/\H<+:H2) N.length ?_ ?_
  . refine ⟨0,st,oq,kq+1,nq - 1,by simp,?_⟩
    simp (disch:=omega) only [h1,h5,h6,SS,eq_self,reduceIte,reduceCtorEq,Nat.reduceEqDiff,Nat.reduceAdd]
    have f1:=hQt.pre pG
    have f2:=pre_at pG hMap
    have f3:=hru.pre pG
    have f4:=hpp.trans pG
    have f5:=hI.ok
    have f6:=hI.nd
    have f7:bdIn (d0+1) (N.drop 0) st=bdIn (d0+1) N st:=rfl
    have f8:st<+:st:=List.prefix_refl _
    have e1:((nq - 1:Nat))=nq - 1:=rfl
    (repeat' first | exact f1 | exact f2 | exact f3 | exact f4 | exact f5 | exact f6 | exact f7 | exact f8 | exact hL | apply And.intro) <;> first | (simp only [Value.int.injEq,true_and];omega) | omega | rfl | assumption | (simp;done) | (simp;omega)
  rintro m' s' H2 ⟨j,st',oq',kq',nq',hm',k1,k5,k6,k7,k28,k29,k30,hIn,hsp,hok,hnd,hsl',hMap2,hQ2,hoq2,hru2,hL2,hGl2,hpp2⟩
  simp (disch:=omega) only [k1,k5,k6,k7,k28,k29,k30,SS,eq_self,reduceIte,reduceCtorEq,Nat.reduceEqDiff,Nat.reduceAdd]
  refine brD.intro (fun q=>?_) (fun q=>?_)
  rotate_left
  . have hj:N.length<=j:=by omega
    rw [List.drop_of_length_le hj] at hIn
    have hIn':st'=bdIn (d0+1) N st:=hIn
    rw [<- hIn'] at hF hstep
    have f1:H.length<oq':=by omega
    simp (disch:=omega) only [k1,k5,k6,SS,eq_self,reduceIte,reduceCtorEq,Nat.reduceEqDiff,Nat.reduceAdd]
    refine ⟨f,by omega,st',k+1,oq',kq',nq',?_⟩
    (repeat' first | exact hF | exact hstep | exact hMap2 | exact hQ2 | exact hpp2 | exact f1 | apply And.intro) <;> first | (simp only [Value.int.injEq,true_and];omega) | omega | rfl | assumption | (simp;done) | (simp;omega)
  have hj:j<N.length:=by omega
  obtain ⟨us2,hus2,hul2,heach⟩:=hL2.parts
  have hrow:=(heach j hj).row.1
  have hcell:=hus2.cell (show j<us2.length by omega)
  have hcm:N.getD j [] ∈ N:=by simp [hj]
  have hcb:=hNb _ hcm
  rw [bdIn_drop (d0+1) N j hj] at hIn
  generalize hc:N.getD j []=c at *
  generalize hx:us2.getD j undef=x at *
  simp (disch:=omega) only [k1,k5,k6,k7,k28,k29,k30,hus2.ix Tryz.underlying36 cs27,hcell,Int.toNat_natCast,SS,eq_self,reduceIte,reduceCtorEq,Nat.reduceEqDiff,Nat.reduceAdd]
  refine CallH.by (key_c x c H2 hrow hcb.1) ?_
  rintro _ _ ⟨rfl,rfl⟩
  have hlk:=lookI hMap2 (keyL c)
  rw [getI_bd hcb st' hok,bdD_isSome] at hlk
  simp (disch:=omega) only [k1,k5,k6,k7,k28,k29,k30,hlk,SS,eq_self,reduceIte,reduceCtorEq,Nat.reduceEqDiff,Nat.reduceAdd]
  refine brD.intro (fun e=>?_) (fun e=>?_)
  . rw [if_pos e] at hIn
    simp (disch:=omega) only [e,k1,k5,k6,k7,k28,k29,k30,wrap64,SS,eq_self,reduceIte,reduceCtorEq,Nat.reduceEqDiff,Nat.reduceAdd]
    refine ⟨m' - 1,by omega,j+1,st',oq',kq',nq',?_⟩
    (repeat' first | exact hIn | exact hsp | exact hok | exact hnd | exact hMap2 | exact hQ2 | exact hoq2 | exact hru2 | exact hL2 | exact hpp2 | apply And.intro) <;> first | (simp only [Value.int.injEq,true_and];omega) | omega | rfl | assumption | (simp;done) | (simp;omega)
  rw [if_neg e] at hIn
  have hkn:keyL c ∉ (mpB st').map (·.1):=fun h=>e ((keys_bd hcb hok).1 h)
  have hdb:bdD st' b=some d0:=bdD_some hnd (hbm st' hsp)
  have hlb:=lookI1 hMap2 (keyL b)
  rw [getI_bd hbd st' hok,hdb] at hlb
  have hlb':lookupA Tryz.prog 73 (.map (some H.length)) (.int .i64 (keyL b)) false H2=some (.int .i64 d0):=hlb
  have hup:=updI hMap2 hkn (d0+1)
  rw [<- mpB_snoc] at hup
  simp (disch:=omega) only [e,k1,k5,k6,k7,k28,k29,k30,SS,eq_self,reduceIte,reduceCtorEq,Nat.reduceEqDiff,Nat.reduceAdd]
  refine CallH.by (key_c x c H2 hrow hcb.1) ?_
  rintro _ _ ⟨rfl,rfl⟩
  simp (disch:=omega) only [e,k1,k5,k6,k7,k28,k29,k30,SS,eq_self,reduceIte,reduceCtorEq,Nat.reduceEqDiff,Nat.reduceAdd]
  refine CallH.by (key_c u b H2 hru2 hbd.1) ?_
  rintro _ _ ⟨rfl,rfl⟩
  simp (disch:=omega) only [e,k1,k5,k6,k7,k28,k29,k30,hlb',wrap64,hup,SS,eq_self,reduceIte,reduceCtorEq,Nat.reduceEqDiff,Nat.reduceAdd]
  generalize hH3:H2.set H.length (.mp (mpI (mpB (st' ++ [(c,d0+1)]))))=H3
  have l3:H3.length=H2.length:=by rw [<- hH3];simp
  have k3:∀ (j:Nat) (y:AObj),j ≠ H.length->H2[j]?=some y->H3[j]?=some y:=fun j y hj hy=>by rw [<- hH3,List.getElem?_set_ne (fun e=>hj e.symm)];exact hy
  have m3:H3[H.length]?=some (.mp (mpI (mpB (st' ++ [(c,d0+1)])))):=by rw [<- hH3];exact at_set hMap2
  have hoH:oq' ≠ H.length:=by omega
  have hQ3:=hQ2.but hMap2 (noInt_mp _) hoH k3
  have hrow3:=hrow.but hMap2 (noInt_mp _) k3
  have hru3:=hru2.but hMap2 (noInt_mp _) k3
  have hL3:=hL2.frameQ (q:=H.length) (.inl hll) k3
  have p3:H<+:H3:=by rw [<- hH3];exact pre_set hpp2 (Nat.le_refl _) _
  have hst'':∀ e ∈ st' ++ [(c,d0+1)],Bd n e.1:=fun e he=>by
    rcases List.mem_append.1 he with he | he
    . exact hok e he
    . simp only [List.mem_cons,List.not_mem_nil,or_false] at he
      rw [he];exact hcb
  have hnd'':((st' ++ [(c,d0+1)]).map (·.1)).Nodup:=by
    rw [List.map_append,List.Nodup,List.pairwise_append]
    refine ⟨hnd,by simp,fun y hy z hz q=>?_⟩
    simp only [List.map_cons,List.map_nil,List.mem_cons,List.not_mem_nil,or_false] at hz
    subst hz;subst q;exact e hy
  have hlen'':(st' ++ [(c,d0+1)]).length<=720:=by
    have:=nodupI_le (mny n) (((st' ++ [(c,d0+1)]).map (·.1)).map cod) (by
      rw [List.Nodup,List.pairwise_map]
      refine List.Pairwise.imp_of_mem ?_ hnd''
      intro x y hx hy hxy q
      obtain ⟨s1,hs1,rfl⟩:=List.mem_map.1 hx
      obtain ⟨s2,hs2,rfl⟩:=List.mem_map.1 hy
      have g1:=hst'' s1 hs1
      have g2:=hst'' s2 hs2
      exact hxy (cod_inj g1.1 g2.1 (by rw [g1.2];exact hn) (by rw [g1.2,g2.2]) q)) (fun y hy=>by
      obtain ⟨z,hz,rfl⟩:=List.mem_map.1 hy
      obtain ⟨s1,hs1,rfl⟩:=List.mem_map.1 hz
      have g1:=hst'' s1 hs1
      have:=cod_rng g1.1 (by rw [g1.2];exact hn)
      rw [g1.2] at this;exact this)
    simp only [List.length_map] at this
    omega
  have hnq2:nq'<=720:=by
    obtain ⟨zs,_,_,g3,_⟩:=hQ2
    rw [g3];simp;omega
  obtain ⟨H4,j1,j2,j3,j4⟩:=hQ3.push hrow3 (by omega)
  have hdr:((st' ++ [(c,d0+1)]).drop (k+1)).map (·.1)=(st'.drop (k+1)).map (·.1) ++ [c]:=by
    have:k+1<=st'.length:=by have:=hsp.length_le;omega
    rw [List.drop_append_of_le_length this,List.map_append];rfl
  rw [<- hdr] at j2
  have hqo3:∃ zs,H3[oq']?=some (.cells zs 27 false):=by obtain ⟨zs,g1,_⟩:=hQ3;exact ⟨zs,g1⟩
  obtain ⟨zs3,hqo3⟩:=hqo3
  have f1:=j4 _ _ (fun h=>hoH h.symm) m3
  have f2:=hru3.but hqo3 (noInt_ll _ _) j4
  have f3:=hL3.frameQ (q:=oq') (by omega) j4
  have f4:st<+:st' ++ [(c,d0+1)]:=hsp.trans (List.prefix_append _ _)
  have f6:H3.length+1=oq∨G.length<=H3.length+1:=.inr (by omega)
  have f7:H<+:H4:=prefix_of fun i y hy=>j4 i y (by have:=at_lt hy;omega) (pre_at p3 hy)
  simp (disch:=omega) only [k1,k5,k6,k7,k28,k29,k30,bsRowQ hrow3,j1,wrap64,SS,eq_self,reduceIte,reduceCtorEq,Nat.reduceEqDiff,Nat.reduceAdd]
  refine ⟨m' - 1,by omega,j+1,st' ++ [(c,d0+1)],H3.length+1,0,nq'+1,?_⟩
  (repeat' first | exact hIn | exact f4 | exact hst'' | exact hnd'' | exact hlen'' | exact f1 | exact j2 | exact f6 | exact f2 | exact f3 | exact f7 | apply And.intro) <;> first | (simp only [Value.int.injEq,true_and];omega) | omega | rfl | assumption | (simp;done) | (simp;omega)
def cd207:Cd:=(.seq (.reg [⟨⟨some 4,.assign (.const (.int .i64 0)),none⟩,[]⟩]) (.seq (.seq (.reg [⟨⟨some 6,.move (.tmp 0),none⟩,[]⟩,
  ⟨⟨some 7,.call ⟨(.builtin .len),#[.tmp 6],#[27]⟩,none⟩,[]⟩,
  ⟨⟨some 8,.move (.const (.int .i64 0)),none⟩,[]⟩]) (.block 0 (.loop (.seq (.reg [⟨⟨some 9,.binOp .lss 3 (.tmp 8) (.tmp 7) 3,none⟩,[]⟩]) (.seq (.cond (.tmp 9) .skip (.exit 0)) (.seq (.block 1 (.seq (.reg [⟨⟨some 10,.move (.tmp 8),none⟩,[]⟩,
  ⟨⟨some 5,.assign (.tmp 10),none⟩,[]⟩]) (.seq (.reg [⟨⟨some 11,.move (.tmp 1),none⟩,[]⟩,
  ⟨⟨some 12,.move (.tmp 0),none⟩,[]⟩,
  ⟨⟨some 13,.move (.tmp 5),none⟩,[]⟩,
  ⟨⟨some 14,.indexAddr 27 (.tmp 12) (.tmp 13),none⟩,[]⟩,
  ⟨⟨some 15,.load 3 (.tmp 14),none⟩,[]⟩,
  ⟨⟨some 16,.binOp .eql 3 (.tmp 11) (.tmp 15) 3,none⟩,[]⟩]) (.cond (.tmp 16) (.seq (.reg [⟨⟨some 17,.move (.tmp 5),none⟩,[]⟩,
  ⟨⟨some 4,.assign (.tmp 17),none⟩,[]⟩]) .ret) .skip)))) (.reg [⟨⟨some 18,.binOp .add 3 (.tmp 8) (.const (.int .i64 1)) 3,none⟩,[]⟩,
  ⟨⟨some 8,.move (.tmp 18),none⟩,[]⟩]))))))) (.seq (.reg [⟨⟨some 4,.assign (.const (.int .i64 (-1))),none⟩,[]⟩]) .ret)))
theorem in207:InT Tryz.prog 207 2 [.tmp 4] cd207:=InT.mk (by kernel_rfl) [] Tryz.func207 rfl (by kernel_rfl) (by kernel_rfl) (of_decide_eq_true (by kernel_rfl)) (by kernel_rfl)
def cd168:Cd:=(.seq (.reg [⟨⟨some 4,.assign (.const (.bool false)),none⟩,[]⟩]) (.seq (.reg [⟨⟨some 5,.move (.tmp 0),none⟩,[]⟩,
  ⟨⟨some 6,.move (.tmp 1),none⟩,[]⟩,
  ⟨⟨some 7,.call ⟨(.value (.func 207)),#[.tmp 5,.tmp 6],#[27,3]⟩,none⟩,[]⟩,
  ⟨⟨some 8,.binOp .geq 3 (.tmp 7) (.const (.int .i64 0)) 3,none⟩,[]⟩,
  ⟨⟨some 4,.assign (.tmp 8),none⟩,[]⟩]) .ret))
theorem in168:InT Tryz.prog 168 2 [.tmp 4] cd168:=InT.mk (by kernel_rfl) [] Tryz.func168 rfl (by kernel_rfl) (by kernel_rfl) (of_decide_eq_true (by kernel_rfl)) (by kernel_rfl)
end Go.Proofs.YtjnefjchconebaaGreat.Ai
namespace Go.Proofs.YtjnefjchconebaaGreat.Ai
open Go Go.RowKit
theorem Index_c (v:Value)(xs:List Int)(x:Int)(H:AH)(hr:Row 3 H v xs)(hlen:xs.length<=1099511627776) :
    ACalls Tryz.prog 207 [v,.int .i64 x] H fun r H'=>r=.int .i64 (idxP (fun y=>decide (x=y)) xs 0)/\H=H':=by
  refine in207 rfl ?_
  intro Q hQ
  simp (disch:=omega) only [cd207,hr.len Tryz.underlying27,SS,eq_self,reduceIte,reduceCtorEq,Nat.reduceEqDiff,Nat.reduceAdd]
  refine LoopH.by (fun m s H'=>∃ i,m+i=xs.length/\s 0=v/\s 1=.int .i64 x/\s 7=.int .i64 (xs.length:Int)/\s 8=.int .i64 ((i:Nat):Int)/\H=H'/\idxP (fun y=>decide (x=y)) xs 0=idxP (fun y=>decide (x=y)) (xs.drop i) i) xs.length ?_ ?_
  . exact ⟨0,by simp,rfl,rfl,rfl,rfl,rfl,by simp⟩
  . rintro m s H' ⟨i,hm,h0,h1,h7,h8,rfl,hn⟩
    simp (disch:=omega) only [h0,h1,h7,h8,SS,eq_self,reduceIte,reduceCtorEq,Nat.reduceEqDiff,Nat.reduceAdd]
    refine brD.intro (fun g=>?_) (fun g=>?_) <;> simp (disch:=omega) only [h0,h1,h8,h7,hr.ix Tryz.underlying27 cs3,hr.cell,Int.toNat_natCast,SS,eq_self,reduceIte,reduceCtorEq,Nat.reduceEqDiff,Nat.reduceAdd]
    . have hi:i<xs.length:=by omega
      rw [idxP_step _ xs i hi] at hn
      refine brD.intro (fun e=>?_) (fun e=>?_) <;> simp (disch:=omega) only [h0,h1,h7,h8,wrap64,SS,eq_self,reduceIte,reduceCtorEq,Nat.reduceEqDiff,Nat.reduceAdd]
      . refine hQ _ _ _ ?_
        simp (disch:=omega) only [SS,eq_self,reduceIte,reduceCtorEq,Nat.reduceEqDiff,Nat.reduceAdd]
        rw [hn,if_pos (by simpa using e)]
      . rw [if_neg (by simpa using e)] at hn
        refine ⟨m - 1,by omega,i+1,by omega,?_⟩
        (repeat' apply And.intro) <;> first | exact hn | (simp only [Value.int.injEq,true_and];omega) | omega | rfl | assumption | (simp;done) | (simp;omega)
    . refine hQ _ _ _ ?_
      simp (disch:=omega) only [SS,eq_self,reduceIte,reduceCtorEq,Nat.reduceEqDiff,Nat.reduceAdd]
      rw [hn,List.drop_of_length_le (by omega)];rfl
theorem Contains_c (v:Value)(xs:List Int)(x:Int)(H:AH)(hr:Row 3 H v xs)(hlen:xs.length<=1099511627776) :
    ACalls Tryz.prog 168 [v,.int .i64 x] H fun r H'=>r=.bool (decide (x ∈ xs))/\H=H':=by
  refine in168 rfl ?_
  intro Q hQ
  simp (disch:=omega) only [cd168,SS,eq_self,reduceIte,reduceCtorEq,Nat.reduceEqDiff,Nat.reduceAdd]
  refine CallH.by (Index_c v xs x H hr hlen) ?_
  rintro _ _ ⟨rfl,rfl⟩
  simp (disch:=omega) only [SS,eq_self,reduceIte,reduceCtorEq,Nat.reduceEqDiff,Nat.reduceAdd]
  refine hQ _ _ _ ?_
  simp (disch:=omega) only [SS,eq_self,reduceIte,reduceCtorEq,Nat.reduceEqDiff,Nat.reduceAdd]
  have h1:=idxP_any (fun y=>decide (x=y)) xs 0
  have h2:xs.any (fun y=>decide (x=y))=true↔x ∈ xs:=by simp
  have:(0<=idxP (fun y=>decide (x=y)) xs 0)↔x ∈ xs:=h1.trans h2
  simp only [this]
end Go.Proofs.YtjnefjchconebaaGreat.Ai
namespace Go.Proofs.YtjnefjchconebaaGreat.Ai
open Go Go.RowKit Go.Shelf
attribute [local go_sem] Oper.semAt_some
def uptoF {α:Type}(f:Nat->α)(k:Nat):List α:=(List.range k).map f
theorem uptoF_succ {α:Type}(f:Nat->α)(k:Nat):uptoF f (k+1)=uptoF f k ++ [f k]:=by simp [uptoF,List.range_succ]
theorem uptoF_length {α:Type}(f:Nat->α)(k:Nat):(uptoF f k).length=k:=by simp [uptoF]
theorem uptoF_all (zs:List Int):uptoF (fun j=>zs[j]?.getD 0) zs.length=zs:=by
  apply List.ext_getElem
  . simp [uptoF]
  . intro i h1 h2
    simp [uptoF,h2]
theorem uptoF_take (zs:List Int){k:Nat}(hk:k<=zs.length):uptoF (fun j=>zs[j]?.getD 0) k=zs.take k:=by
  apply List.ext_getElem
  . simp [uptoF,hk]
  . intro i h1 h2
    have:i<zs.length:=by simp [uptoF] at h1;omega
    simp [uptoF,this]
set_option maxRecDepth 100000 in
theorem values1_in (F:Fence)(n:Nat)(h7:F.fn 238)(hro:F.round=none)(hn:1<=n)(l Bs kk n₀ b off len cap:Nat)(zs:List Int)(hreach:len * 8<=140737488351232)(hb:b<n₀)(J Jx:List Int->World->Prop)
    (hY:∀ pre x W,J pre W->pre.length<len->YieldAt F (n - 1) Tryz.prog l #[.int .i64 x] W fun e W' =>
      (e=.returned (.bool true)/\J (pre ++ [x]) W'/\Below n₀ W W')∨(e=.returned (.bool false)/\Jx (pre ++ [x]) W'))
    (W:World)(hBs:W.cell? ⟨Bs,kk,none⟩=some (.slice (some ⟨b,off,none⟩) len cap))(hc:∀ j,j<len->W.cell? ⟨b,off+j,none⟩=some (.int .i64 (zs[j]?.getD 0)))(h0:J [] W) :
    CallsIn F n Tryz.prog 238 #[.func (.yield l) #[] #[],.pointer (some ⟨Bs,kk,none⟩)] W fun e W'=>(∃ v,e=.returned v) /\
      ((∃ ys,ys=uptoF (fun j=>zs[j]?.getD 0) len/\J ys W')∨(∃ pre,(∃ k,k<=len/\pre=uptoF (fun j=>zs[j]?.getD 0) k)/\Jx pre W')):=by
  refine callsIn_of_wp Tryz.func238 rfl h7 ?_ hro
  simp only [Tryz.ntmps238,List.size_toArray,List.length_cons,List.length_nil,Nat.reduceAdd,Nat.reduceSub,Array.replicate_succ,Array.replicate_zero,List.push_toArray,List.append_toArray,List.nil_append,List.cons_append]
  gi_wp2
  gi_loopw [7] (fun i wr=>∃ k:Nat,k<=len/\i=.int .i64 k/\J (uptoF (fun j=>zs[j]?.getD 0) k) wr/\Below n₀ W wr)
    (fun i _=>len - (intOf i).toNat)
  case atStart=>exact ⟨0,Nat.zero_le _,rfl,h0,Below.refl _ _⟩
  case round =>
    obtain ⟨k,hk,rfl,hJs,hnx⟩:=hrel
    have hcx:k<len->wr.cell? ⟨b,off+k,none⟩=some (.int .i64 (zs[k]?.getD 0)):=fun h=>(hnx.cell (p:=⟨b,off+k,none⟩) hb).trans (hc k h)
    by_cases hlt:k<len
    . obtain ⟨fn,tmps,assign,body,hy,hR⟩:=hY _ (zs[k]?.getD 0) wr hJs (by rw [uptoF_length];exact hlt)
      have hcx':=hcx hlt
      gi_wp2
      refine hR.mono ?_
      rintro e W3 (⟨rfl,hJ3,hk3⟩ | ⟨rfl,hJx3⟩)
      . gi_wp2
        go_roundw
        case rel=>exact ⟨k+1,by omega,by simp,by rw [uptoF_succ];exact hJ3,hnx.trans hk3⟩
        case measure=>simp [intOf];omega
      . gi_wp2
        refine bodyPost_ret (results_none rfl _ _ _) rfl ?_
        exact ⟨⟨_,rfl⟩,.inr ⟨_,⟨k+1,by omega,(uptoF_succ _ _).symm⟩,hJx3⟩⟩
    . obtain rfl:k=len:=by omega
      gi_wp2
      go_end0
      exact ⟨⟨_,rfl⟩,.inl ⟨_,rfl,hJs⟩⟩
def SlInts (n₀:Nat)(W:World)(sv:Value)(zs:List Int):Prop :=
  (∃ a c,sv=.slice a 0 c/\zs=[])∨∃ b off cap,sv=.slice (some ⟨b,off,none⟩) zs.length cap/\b<n₀/\∀ j,j<zs.length->W.cell? ⟨b,off+j,none⟩=some (.int .i64 (zs[j]?.getD 0))
theorem SlInts.below {n₀:Nat}{A B:World}(h:Below n₀ A B){sv:Value}{zs:List Int}:SlInts n₀ A sv zs->SlInts n₀ B sv zs
  | .inl e=>.inl e
  | .inr ⟨b,off,cap,e,hb,hc⟩=>.inr ⟨b,off,cap,e,hb,fun j hj=>(h.cell (p:=⟨b,off+j,none⟩) hb).trans (hc j hj)⟩
set_option maxRecDepth 100000 in
theorem values1_nil_in (F:Fence)(n:Nat)(h7:F.fn 238)(hro:F.round=none)(l Bs kk:Nat)(J:List Int->World->Prop)(W:World)(a0:Option Addr)(c0:Nat)(hBs:W.cell? ⟨Bs,kk,none⟩=some (.slice a0 0 c0))(h0:J [] W) :
    CallsIn F n Tryz.prog 238 #[.func (.yield l) #[] #[],.pointer (some ⟨Bs,kk,none⟩)] W fun e W'=>(∃ v,e=.returned v)/\J [] W':=by
  refine callsIn_of_wp Tryz.func238 rfl h7 ?_ hro
  simp only [Tryz.ntmps238,List.size_toArray,List.length_cons,List.length_nil,Nat.reduceAdd,Nat.reduceSub,Array.replicate_succ,Array.replicate_zero,List.push_toArray,List.append_toArray,List.nil_append,List.cons_append]
  gi_wp2
  gi_loopw [7] (fun i wr=>i=.int .i64 0/\J [] wr) (fun _ _=>0)
  case atStart=>exact ⟨rfl,h0⟩
  case round =>
    obtain ⟨rfl,hJs⟩:=hrel
    gi_wp2
    go_end0
    exact ⟨⟨_,rfl⟩,hJs⟩
theorem values_stops (F:Fence)(n:Nat)(h7:F.fn 238)(hro:F.round=none)(hn:1<=n)(Bs kk n₀:Nat)(sv:Value)(zs:List Int)(hreach:zs.length * 8<=140737488351232)(w:World)(hBs:Bs<w.heap.size)(hn₀:n₀<=w.heap.size)
    (hc:w.cell? ⟨Bs,kk,none⟩=some sv)(hI:SlInts n₀ w sv zs) :
    SeqStopsK F n Tryz.prog 238 #[.pointer (some ⟨Bs,kk,none⟩)] (fun x:Int=>#[Value.int .i64 x]) (Below n₀) (fun ys=>ys=zs) (fun pre=>pre<+:zs) zs.length w:=fun l J Jx W hW _ _ hY h0=>by
  have hc':=(hW.cell (p:=⟨Bs,kk,none⟩) hBs).trans hc
  rcases hI.below (hW.mono hn₀) with ⟨a0,c0,rfl,rfl⟩ | ⟨b,off,cap,rfl,hb,hcs⟩
  . exact (values1_nil_in F n h7 hro l Bs kk J W a0 c0 hc' h0).mono fun e W' ⟨he,hj⟩=>⟨he,.inl ⟨_,rfl,hj⟩⟩
  . refine (values1_in F n h7 hro hn l Bs kk n₀ b off zs.length cap zs hreach hb J Jx hY W hc' hcs h0).mono ?_
    rintro e W' ⟨he,⟨ys,rfl,hj⟩ | ⟨pre,⟨k,hk,rfl⟩,hj⟩⟩
    . exact ⟨he,.inl ⟨_,uptoF_all zs,hj⟩⟩
    . exact ⟨he,.inr ⟨_,by rw [uptoF_take zs hk];exact List.take_prefix _ _,hj⟩⟩
theorem infoInt:(Tryz.prog.info? 3).map (fun i=>(i.zero,i.size,i.bytes))=some (some (.int .i64 0),1,8):=by kernel_rfl
set_option maxRecDepth 100000 in
theorem appendSeq_in (F:Fence)(n:Nat)(h3:F.fn 249)(h5:F.fn 238)(hro:F.round=none)(hn:3<=n)(Bs kk:Nat)(sv:Value)(zs:List Int)(hlen:zs.length<=maxLen)(hbytes:zs.length * 8<=140737488351232)(w:World)
    (hBs:Bs<w.heap.size)(hcs:w.cell? ⟨Bs,kk,none⟩=some sv)(hI:SlInts w.heap.size w sv zs) :
    CallsIn F n Tryz.prog 249 #[.slice none 0 0,.func (.func 238) #[] #[.pointer (some ⟨Bs,kk,none⟩)]] w fun e W'=>∃ v,e=.returned v/\W'.ownsRow w.heap.size 3 1 v zs.length (zs.map (Value.int .i64))/\(v=.slice none 0 0↔zs=[])/\Below w.heap.size w W':=by
  have h1:1<=n:=by omega
  obtain ⟨i0,hi,hz0,hz1,hz2⟩:=info_parts infoInt
  refine callsIn_of_wp_marks Tryz.func249 rfl h3 ?_ hro
  simp only [Tryz.ntmps249,List.size_toArray,List.length_cons,List.length_nil,Nat.reduceAdd,Nat.reduceSub,Array.replicate_succ,Array.replicate_zero,List.push_toArray,List.append_toArray,List.nil_append,List.cons_append]
  gi_wp2
  have bO:=Boxed.new w 27 (.slice none 0 0)
  have hB0:Below w.heap.size w (w.alloc (.cells #[.slice none 0 0] 27)):=(Below.refl _ w).alloc (Nat.le_refl _) _
  refine wpIn_rangeFunc_ownG hro h1 (gf:=238) (lb:=#[.pointer (some ⟨Bs,kk,none⟩)]) rfl h5 (enters_of Tryz.func238 (by kernel_rfl) rfl)
    (values_stops F (n - 1) h5 hro (by omega) Bs kk w.heap.size sv zs hbytes (w.alloc (.cells #[.slice none 0 0] 27)) (by simp;omega) (by simp) ((hB0.cell (p:=⟨Bs,kk,none⟩) hBs).trans hcs) (hI.below hB0)) belowK_t (belowK_b (by simp)) (Below.refl _ _) (fun _=>rfl)
    (fun pre W=>(∃ v,Boxed W w.heap.size 27 v/\W.ownsRow w.heap.size 3 1 v pre.length (pre.map (Value.int .i64))/\(v=.slice none 0 0↔pre=[]))/\Below w.heap.size w W)
    (fun _ _ _=>False)
    (OwnFrom.and (Own.from (holdsRow_own w.heap.size w.heap.size 27 3 1 (fun pre:List Int=>pre.length) (fun pre=>pre.map (Value.int .i64)) (fun pre v=>v=.slice none 0 0↔pre=[])) _) (ownFrom_below (Nat.le_refl _) (by simp)))
    (fun _ _ _ _ _ hs _ _=>hs)
    ⟨⟨_,bO,World.ownsRow_nil _ _ _ _,by simp⟩,hB0⟩
    (fun x=>{ tmps:=#[.slice none 0 0,.func (.func 238) #[] #[.pointer (some ⟨Bs,kk,none⟩)],.pointer (some ⟨w.heap.size,0,none⟩),undef,.slice none 0 0,.int .i64 x,.func (.func 238) #[] #[.pointer (some ⟨Bs,kk,none⟩)],.int .i64 x,undef,undef,undef,undef,undef],defers:=[] }) ?assign ?body ?done ?stop
  case assign =>
    intro l x W K hK
    gi_wp2
    exact hK
  case body =>
    rintro l pre x W ⟨⟨v,hv,hrow,hnil⟩,hB⟩ hlt
    have hc:=hv.cell
    gi_wp2_with (gi_at_builtin;refine wpListIn_append_own _ rfl _ _ 27 rfl w.heap.size 3 i0 (.int .i64 0) 1 8 Tryz.underlying27 hi hz0 hz1 hz2 rfl (by decide) _ _ _ rfl (hrow.alloc _) ⟨W.heap.size,0,none⟩ 1 1 [.int .i64 x] rfl rfl (cell_one_new _ _ _) (by simp [Value.oneCell']) (by omega) (by omega) (by have:=hB.size;simp;omega) ?_;intro v' w1 hown' hgrow _;obtain ⟨g',cap',rfl⟩:=ownsRow_succ hown';obtain ⟨hv1,hv2,hr2,hk2,hb2⟩:=hv.appended (by decide) hrow hB.size (Nat.le_refl _) hown' hgrow;have hc1:=hv1.cell;have hf1:=hv1.frozen)
    exact ⟨hk2.from _,hb2,⟨_,hv2,by simpa using hr2,by simp⟩,hB.trans hb2⟩
  case done =>
    rintro D ys W hD rfl ⟨⟨v,hv,hrow,hnil⟩,hB⟩ hK
    have hc:=hv.cell
    gi_wp2
    refine ⟨by simp,.inl ⟨_,_,rfl,run_takeDeferred hK,?_⟩⟩
    exact ⟨_,results_tmp rfl _ _ _,v,rfl,ownsRow_putObj hrow _ hK rfl,hnil,hB.trans (belowK_b (w:=w) (Nat.le_refl _) W D _ _ (by simp at hD;omega) hK rfl rfl)⟩
  case stop =>
    rintro D c pre W _ _ h _
    exact h.elim
theorem appendSeq_calls (Bs kk:Nat)(sv:Value)(zs:List Int)(hlen:zs.length<=1099511627776)(w:World)(hBs:Bs<w.heap.size)(hcs:w.cell? ⟨Bs,kk,none⟩=some sv)(hI:SlInts w.heap.size w sv zs) :
    Calls Tryz.prog 249 #[.slice none 0 0,.func (.func 238) #[] #[.pointer (some ⟨Bs,kk,none⟩)]] w fun e W'=>∃ v,e=.returned v/\W'.ownsRow w.heap.size 3 1 v zs.length (zs.map (Value.int .i64))/\(v=.slice none 0 0↔zs=[])/\Below w.heap.size w W' :=
  (callsIn_wide (n:=5)).1 (appendSeq_in Fence.wide 5 trivial trivial rfl (by omega) Bs kk sv zs (Nat.le_trans hlen (by decide)) (by omega) w hBs hcs hI)
end Go.Proofs.YtjnefjchconebaaGreat.Ai
namespace Go.Proofs.YtjnefjchconebaaGreat.Ai
open Go Go.RowKit
def cd237:Cd:=(.seq (.reg [⟨⟨some 2,.assign (.const (.slice none 0 0)),none⟩,[]⟩]) (.seq (.reg [⟨⟨some 3,.move (.tmp 0),none⟩,[]⟩,
  ⟨⟨some 4,.call ⟨(.value (.func 249)),#[(.const (.slice none 0 0)),.tmp 3],#[27,161]⟩,none⟩,[]⟩,
  ⟨⟨some 2,.assign (.tmp 4),none⟩,[]⟩]) .ret))
theorem in237:InT Tryz.prog 237 1 [.tmp 2] cd237:=InT.mk (by kernel_rfl) [] Tryz.func237 rfl (by kernel_rfl) (by kernel_rfl) (of_decide_eq_true (by kernel_rfl)) (by kernel_rfl)
def cd211:Cd:=(.seq (.reg [⟨⟨some 1,.box 27 (.tmp 0),none⟩,[]⟩,
  ⟨⟨some 2,.assign (.const Value.nilFunc),none⟩,[]⟩]) (.seq (.reg [⟨⟨some 3,.makeFunc (Fn.func 238) #[] #[.tmp 1],none⟩,[]⟩,
  ⟨⟨some 2,.assign (.tmp 3),none⟩,[]⟩]) .ret))
theorem in211:InT Tryz.prog 211 1 [.tmp 2] cd211:=InT.mk (by kernel_rfl) [] Tryz.func211 rfl (by kernel_rfl) (by kernel_rfl) (of_decide_eq_true (by kernel_rfl)) (by kernel_rfl)
def cd210:Cd:=(.seq (.reg [⟨⟨some 2,.assign (.const (.slice none 0 0)),none⟩,[]⟩]) (.seq (.reg [⟨⟨some 4,.move (.tmp 0),none⟩,[]⟩,
  ⟨⟨some 5,.call ⟨(.value (.func 237)),#[.tmp 4],#[161]⟩,none⟩,[]⟩,
  ⟨⟨some 3,.assign (.tmp 5),none⟩,[]⟩]) (.seq (.reg [⟨⟨some 6,.move (.tmp 3),none⟩,[]⟩,
  ⟨⟨some 7,.call ⟨(.value (.func 123)),#[.tmp 6],#[27]⟩,none⟩,[]⟩]) (.seq (.reg [⟨⟨some 8,.move (.tmp 3),none⟩,[]⟩,
  ⟨⟨some 2,.assign (.tmp 8),none⟩,[]⟩]) .ret))))
theorem in210:InT Tryz.prog 210 1 [.tmp 2] cd210:=InT.mk (by kernel_rfl) [] Tryz.func210 rfl (by kernel_rfl) (by kernel_rfl) (of_decide_eq_true (by kernel_rfl)) (by kernel_rfl)
end Go.Proofs.YtjnefjchconebaaGreat.Ai
namespace Go.Proofs.YtjnefjchconebaaGreat.Ai
open Go Go.RowKit
theorem AppendSeq_c (o k:Nat)(v:Value)(xs:List Int)(H:AH)(ho:cellA H o k=some v)(hr:Row 3 H v xs)(hlen:xs.length<=1099511627776) :
    ACalls Tryz.prog 249 [.slice none 0 0,.func (.func 238) #[] (List.toArray [.pointer (some ⟨o,k,none⟩)])] H fun r H'=>Own 3 H H' r xs/\H<+:H':=by
  refine ⟨⟨_,Tryz.func249,rfl,by kernel_rfl⟩,?_⟩
  intro μ w cargs hH hall
  obtain ⟨c0,c1,e0⟩:∃ c0 c1,cargs=#[c0,c1]:=by
    match hcs:cargs.toList,hall with
    | [c0,c1],_=>exact ⟨c0,c1,by rw [<- Array.toArray_toList (xs:=cargs),hcs]⟩
  subst e0
  obtain ⟨h0,h1,_⟩:=hall
  obtain ⟨_,_,e0⟩:=h0
  subst e0
  obtain ⟨es0,ds,e1,hes0,hds⟩:=h1
  have ees:es0=#[]:=by
    match hcs:es0.toList,hes0 with
    | [],_=>rw [<- Array.toArray_toList (xs:=es0),hcs]
  subst ees
  subst e1
  obtain ⟨d,ed⟩:∃ d,ds=#[d]:=by
    match hcs:ds.toList,hds with
    | [d],_=>exact ⟨d,by rw [<- Array.toArray_toList (xs:=ds),hcs]⟩
  subst ed
  obtain ⟨⟨_,L,hL,e2⟩,_⟩:=hds
  subst e2
  unfold cellA at ho
  split at ho
  case h_2=>cases ho
  rename_i vs t ro hobj
  obtain ⟨f1,f2,f3,f4,f5,f6⟩:=hH.cells_ o vs t ro L hobj hL
  obtain ⟨cv,g1,g2⟩:=f5 k v ho
  have hI:SlInts w.heap.size w cv xs:=by
    rcases hr with ⟨rfl,rfl⟩ | ⟨o',k',us,ro',rfl,hu,hk,he⟩
    . obtain ⟨_,_,e⟩:=g2
      exact .inl ⟨_,_,e,rfl⟩
    . obtain ⟨_,_,a,m,e,hm,hor⟩:=g2
      by_cases hz:xs.length=0
      . have:xs=[]:=List.eq_nil_of_length_eq_zero hz
        subst this
        exact .inl ⟨_,_,e,rfl⟩
      . rcases hor with hor | ⟨L',hL',ea,hx⟩
        . omega
        . subst ea
          obtain ⟨q1,q2,q3,q4,q5,q6⟩:=hH.cells_ o' us _ ro' L' hu hL'
          refine .inr ⟨L'.blk,L'.base+k',m,e,q1,?_⟩
          intro j hj
          have hat:us[k'+j]?=some (.int .i64 (xs.getD j 0)):=by
            have:=congrArg (·[j]?) he
            simp only [List.getElem?_take,List.getElem?_drop,if_pos hj] at this
            rw [this,ints_at xs hj]
          obtain ⟨cv2,p1,p2⟩:=q5 _ _ hat
          have:cv2=.int .i64 (xs.getD j 0):=p2
          rw [Nat.add_assoc,p1,this,List.getD_eq_getElem?_getD]
  refine (appendSeq_calls L.blk (L.base+k) cv xs hlen w f1 g1 hI).mono ?_
  rintro e w' ⟨v',rfl,hrow,hnil,hb⟩
  rcases hrow with ⟨_,⟨hv,hz⟩ | ⟨g,cap,cur,hv,hg,hcell,hn,hcap,hsz,hcur⟩⟩
  . have:xs=[]:=List.eq_nil_of_length_eq_zero hz
    subst this
    exact ⟨μ,.slice none 0 0,H,v',rfl,by rw [hv];exact ⟨rfl,rfl,rfl⟩,hH.below hb,Evo.below' hH hb,.inl ⟨rfl,rfl⟩,List.prefix_refl _⟩
  . have hc1:Tryz.prog.cellsOf 3=1:=cs3
    have hcs:∀ (i:Nat) (x:Value),(ints xs)[i]?=some x->∃ cv,cur[i]?=some cv/\CRel μ x cv:=by
      intro i x hx
      have hi:i<xs.length:=by have:=(List.getElem?_eq_some_iff.1 hx).1;rwa [ints_len] at this
      have:=congrArg (·[i]?) hcur
      simp only [Nat.mul_one,List.getElem?_take,if_pos hi,Array.getElem?_toList] at this
      have e:(xs.map (Value.int .i64))[i]?=(ints xs)[i]?:=rfl
      rw [e,hx] at this
      refine ⟨x,this,?_⟩
      rw [ints_at xs hi] at hx
      cases hx
      rfl
    have ad:=hH.adopt hb (vs:=ints xs) (ext:=cap) hg hcell (by rw [hc1];decide) (by rw [ints_len];exact hn) (by omega) hcs
    refine ⟨_,.slice (some ⟨H.length,0,none⟩) xs.length xs.length,_,v',rfl,?_,ad.1,ad.2,.inr ⟨H.length,rfl,Nat.le_refl _,at_new ..⟩,List.prefix_append _ _⟩
    rw [hv]
    exact ⟨rfl,rfl,_,cap,rfl,hn,.inr ⟨_,Mu.put_same _ _ _,rfl,by rw [hc1];simp⟩⟩
theorem Collect_c (o k:Nat)(v:Value)(xs:List Int)(H:AH)(ho:cellA H o k=some v)(hr:Row 3 H v xs)(hlen:xs.length<=1099511627776) :
    ACalls Tryz.prog 237 [.func (.func 238) #[] (List.toArray [.pointer (some ⟨o,k,none⟩)])] H fun r H'=>Own 3 H H' r xs/\H<+:H':=by
  refine in237 rfl ?_
  intro Q hQ
  simp (disch:=omega) only [cd237,SS,eq_self,reduceIte,reduceCtorEq,Nat.reduceEqDiff,Nat.reduceAdd]
  refine CallH.by (AppendSeq_c o k v xs H ho hr hlen) ?_
  rintro r H1 ⟨hown,hp⟩
  simp (disch:=omega) only [hown.row.tup,SS,eq_self,reduceIte,reduceCtorEq,Nat.reduceEqDiff,Nat.reduceAdd]
  refine hQ _ _ _ ?_
  simp (disch:=omega) only [hown.row.tup,SS,eq_self,reduceIte,reduceCtorEq,Nat.reduceEqDiff,Nat.reduceAdd]
  exact ⟨hown,hp⟩
theorem Values_c (v:Value)(xs:List Int)(H:AH)(hr:Row 3 H v xs) :
    ACalls Tryz.prog 211 [v] H fun r H'=>r=.func (.func 238) #[] (List.toArray [.pointer (some ⟨H.length,0,none⟩)])/\H'=H ++ [.cells [v] 27 false]:=by
  refine in211 rfl ?_
  intro Q hQ
  obtain ⟨p,e⟩:=hr.shape
  have hb:boxA Tryz.prog 27 v H=some (.pointer (some ⟨H.length,0,none⟩),H ++ [.cells [v] 27 false]):=by
    subst e
    simp only [boxA,cs27]
    rfl
  have hm:∀ p:Addr,makeFuncA (.func 238) [] [.pointer (some p)]=some (.func (.func 238) #[] (List.toArray [.pointer (some p)])):=fun _=>rfl
  have ht:∀ f fs cs,isTup (.func f fs cs)=false:=fun _ _ _=>rfl
  simp (disch:=omega) only [cd211,hb,hm,ht,SS,eq_self,reduceIte,reduceCtorEq,Nat.reduceEqDiff,Nat.reduceAdd]
  refine hQ _ _ _ ?_
  simp (disch:=omega) only [ht,SS,eq_self,reduceIte,reduceCtorEq,Nat.reduceEqDiff,Nat.reduceAdd]
theorem SortedV_c (o:Nat)(v:Value)(xs:List Int)(H:AH)(ho:cellA H o 0=some v)(hr:Row 3 H v xs)(hlen:xs.length<=12) :
    ACalls Tryz.prog 210 [.func (.func 238) #[] (List.toArray [.pointer (some ⟨o,0,none⟩)])] H fun r H'=>∃ ys,Own 3 H H' r ys/\ys.Perm xs/\Asc ys/\H<+:H':=by
  refine in210 rfl ?_
  intro Q hQ
  simp (disch:=omega) only [cd210,SS,eq_self,reduceIte,reduceCtorEq,Nat.reduceEqDiff,Nat.reduceAdd]
  refine CallH.by (Collect_c o 0 v xs H ho hr (by omega)) ?_
  rintro u H1 ⟨hown,hp⟩
  simp (disch:=omega) only [SS,eq_self,reduceIte,reduceCtorEq,Nat.reduceEqDiff,Nat.reduceAdd]
  refine CallH.by (Sort_c u xs H H1 hown hlen) ?_
  rintro _ H2 ⟨ys,hown2,hperm,hasc,hel⟩
  simp (disch:=omega) only [hown2.row.tup,SS,eq_self,reduceIte,reduceCtorEq,Nat.reduceEqDiff,Nat.reduceAdd]
  refine hQ _ _ _ ?_
  simp (disch:=omega) only [hown2.row.tup,SS,eq_self,reduceIte,reduceCtorEq,Nat.reduceEqDiff,Nat.reduceAdd]
  exact ⟨ys,hown2,hperm,hasc,hown.else_pre hp hel⟩
def cd128:Cd:=(.seq (.reg [⟨⟨some 4,.assign (.const (.bool false)),none⟩,[]⟩]) (.seq (.seq (.reg [⟨⟨some 7,.move (.tmp 0),none⟩,[]⟩,⟨⟨some 8,.call ⟨(.builtin .len),#[.tmp 7],#[27]⟩,none⟩,[]⟩,⟨⟨some 9,.move (.const (.int .i64 0)),none⟩,[]⟩]) (.block 0 (.loop (.seq (.reg [⟨⟨some 10,.binOp .lss 3 (.tmp 9) (.tmp 8) 3,none⟩,[]⟩]) (.seq (.cond (.tmp 10) .skip (.exit 0)) (.seq (.block 1 (.seq (.reg [⟨⟨some 11,.move (.tmp 9),none⟩,[]⟩,⟨⟨some 12,.indexAddr 27 (.tmp 7) (.tmp 9),none⟩,[]⟩,⟨⟨some 13,.load 3 (.tmp 12),none⟩,[]⟩,⟨⟨some 5,.assign (.tmp 11),none⟩,[]⟩,⟨⟨some 6,.assign (.tmp 13),none⟩,[]⟩]) (.seq (.reg [⟨⟨some 14,.move (.tmp 6),none⟩,[]⟩,⟨⟨some 15,.move (.tmp 1),none⟩,[]⟩,⟨⟨some 16,.binOp .sub 3 (.tmp 15) (.const (.int .i64 1)) 3,none⟩,[]⟩,⟨⟨some 17,.call ⟨(.value (.func 113)),#[.tmp 14,(.const (.int .i64 0)),.tmp 16],#[3,3,3]⟩,none⟩,[]⟩,⟨⟨some 18,.unOp .not 4 (.tmp 17),none⟩,[]⟩,⟨⟨some 19,.move (.tmp 18),none⟩,[]⟩,
 ⟨⟨some 20,.move (.tmp 5),some (19,false)⟩,[]⟩,⟨⟨some 21,.binOp .gtr 3 (.tmp 20) (.const (.int .i64 0)) 3,some (19,false)⟩,[]⟩,⟨⟨some 22,.move (.tmp 21),some (19,false)⟩,[]⟩,⟨⟨some 23,.move (.tmp 6),some (22,true)⟩,[]⟩,⟨⟨some 24,.move (.tmp 0),some (22,true)⟩,[]⟩,⟨⟨some 25,.move (.tmp 5),some (22,true)⟩,[]⟩,⟨⟨some 26,.binOp .sub 3 (.tmp 25) (.const (.int .i64 1)) 3,some (22,true)⟩,[]⟩,⟨⟨some 27,.indexAddr 27 (.tmp 24) (.tmp 26),some (22,true)⟩,[]⟩,⟨⟨some 28,.load 3 (.tmp 27),some (22,true)⟩,[]⟩,⟨⟨some 29,.binOp .leq 3 (.tmp 23) (.tmp 28) 3,some (22,true)⟩,[]⟩,⟨⟨some 30,.pick (.tmp 22) (.tmp 29) (.const (.bool false)),some (19,false)⟩,[]⟩,⟨⟨some 31,.pick (.tmp 19) (.const (.bool true)) (.tmp 30),none⟩,[]⟩]) (.cond (.tmp 31) (.seq (.reg [⟨⟨some 4,.assign (.const (.bool false)),none⟩,[]⟩]) .ret) .skip)))) (.reg [⟨⟨some 32,.binOp .add 3 (.tmp 9) (.const (.int .i64 1)) 3,none⟩,[]⟩,
 ⟨⟨some 9,.move (.tmp 32),none⟩,[]⟩]))))))) (.seq (.reg [⟨⟨some 4,.assign (.const (.bool true)),none⟩,[]⟩]) .ret)))
theorem in128:InT Tryz.prog 128 2 [.tmp 4] cd128:=InT.mk (by kernel_rfl) [] Tryz.func128 rfl (by kernel_rfl) (by kernel_rfl) (of_decide_eq_true (by kernel_rfl)) (by kernel_rfl)
def cd171:Cd:=(.seq (.reg [⟨⟨some 4,.assign (.const (.bool false)),none⟩,[]⟩]) (.seq (.reg [⟨⟨some 5,.move (.tmp 0),none⟩,[]⟩,
  ⟨⟨some 6,.call ⟨(.builtin .len),#[.tmp 5],#[27]⟩,none⟩,[]⟩,
  ⟨⟨some 7,.move (.tmp 1),none⟩,[]⟩,
  ⟨⟨some 8,.binOp .eql 3 (.tmp 6) (.tmp 7) 3,none⟩,[]⟩,
  ⟨⟨some 9,.move (.tmp 8),none⟩,[]⟩,
  ⟨⟨some 10,.move (.tmp 0),some (9,true)⟩,[]⟩,
  ⟨⟨some 11,.call ⟨(.value (.func 211)),#[.tmp 10],#[27]⟩,some (9,true)⟩,[]⟩,
  ⟨⟨some 12,.call ⟨(.value (.func 210)),#[.tmp 11],#[161]⟩,some (9,true)⟩,[]⟩,
  ⟨⟨some 13,.move (.tmp 1),some (9,true)⟩,[]⟩,
  ⟨⟨some 14,.call ⟨(.value (.func 128)),#[.tmp 12,.tmp 13],#[27,3]⟩,some (9,true)⟩,[]⟩,
  ⟨⟨some 15,.pick (.tmp 9) (.tmp 14) (.const (.bool false)),none⟩,[]⟩,
  ⟨⟨some 4,.assign (.tmp 15),none⟩,[]⟩]) .ret))
theorem in171:InT Tryz.prog 171 2 [.tmp 4] cd171:=InT.mk (by kernel_rfl) [] Tryz.func171 rfl (by kernel_rfl) (by kernel_rfl) (of_decide_eq_true (by kernel_rfl)) (by kernel_rfl)
def cd92:Cd:=(.seq (.reg [⟨⟨some 2,.assign (.const (.bool false)),none⟩,[]⟩]) (.seq (.reg [⟨⟨some 3,.move (.tmp 0),none⟩,[]⟩,
  ⟨⟨some 4,.call ⟨(.builtin .len),#[.tmp 3],#[27]⟩,none⟩,[]⟩,
  ⟨⟨some 5,.binOp .leq 3 (.tmp 4) (.const (.int .i64 8)) 3,none⟩,[]⟩,
  ⟨⟨some 6,.move (.tmp 5),none⟩,[]⟩,
  ⟨⟨some 7,.move (.tmp 0),some (6,true)⟩,[]⟩,
  ⟨⟨some 8,.move (.tmp 0),some (6,true)⟩,[]⟩,
  ⟨⟨some 9,.call ⟨(.builtin .len),#[.tmp 8],#[27]⟩,some (6,true)⟩,[]⟩,
  ⟨⟨some 10,.call ⟨(.value (.func 171)),#[.tmp 7,.tmp 9],#[27,3]⟩,some (6,true)⟩,[]⟩,
  ⟨⟨some 11,.pick (.tmp 6) (.tmp 10) (.const (.bool false)),none⟩,[]⟩,
  ⟨⟨some 2,.assign (.tmp 11),none⟩,[]⟩]) .ret))
theorem in92:InT Tryz.prog 92 1 [.tmp 2] cd92:=InT.mk (by kernel_rfl) [] Tryz.func92 rfl (by kernel_rfl) (by kernel_rfl) (of_decide_eq_true (by kernel_rfl)) (by kernel_rfl)
def cd76:Cd:=(.seq (.reg [⟨⟨some 2,.assign (.const (.bool false)),none⟩,[]⟩]) (.seq (.seq (.reg [⟨⟨some 3,.assign (.const (.int .i64 0)),none⟩,[]⟩]) (.block 0 (.loop (.seq (.seq (.reg [⟨⟨some 4,.move (.tmp 3),none⟩,[]⟩,⟨⟨some 5,.move (.tmp 0),none⟩,[]⟩,⟨⟨some 6,.call ⟨(.builtin .len),#[.tmp 5],#[27]⟩,none⟩,[]⟩,⟨⟨some 7,.binOp .lss 3 (.tmp 4) (.tmp 6) 3,none⟩,[]⟩,⟨⟨some 8,.move (.tmp 7),none⟩,[]⟩,⟨⟨some 9,.move (.tmp 0),some (8,true)⟩,[]⟩,⟨⟨some 10,.call ⟨(.builtin .len),#[.tmp 9],#[27]⟩,some (8,true)⟩,[]⟩,⟨⟨some 11,.binOp .leq 3 (.tmp 10) (.const (.int .i64 8)) 3,some (8,true)⟩,[]⟩,⟨⟨some 12,.pick (.tmp 8) (.tmp 11) (.const (.bool false)),none⟩,[]⟩]) (.cond (.tmp 12) .skip (.exit 0))) (.seq (.block 1 (.seq (.reg [⟨⟨some 15,.move (.tmp 0),none⟩,[]⟩,⟨⟨some 16,.move (.tmp 3),none⟩,[]⟩,⟨⟨some 17,.call ⟨(.value (.func 110)),#[.tmp 15,.tmp 16],#[27,3]⟩,none⟩,[]⟩,⟨⟨some 18,.unOp .not 4 (.tmp 17),none⟩,[]⟩]) (.cond (.tmp 18) (.seq (.reg [⟨⟨some 2,.assign (.const (.bool false)),none⟩,[]⟩]) .ret) .skip))) (.reg [⟨⟨some 13,.move (.tmp 3),none⟩,[]⟩,
 ⟨⟨some 14,.binOp .add 3 (.tmp 13) (.const (.int .i64 1)) 3,none⟩,[]⟩,
  ⟨⟨some 3,.assign (.tmp 14),none⟩,[]⟩])))))) (.seq (.reg [⟨⟨some 19,.move (.tmp 0),none⟩,[]⟩,
  ⟨⟨some 20,.call ⟨(.builtin .len),#[.tmp 19],#[27]⟩,none⟩,[]⟩,
  ⟨⟨some 21,.binOp .leq 3 (.tmp 20) (.const (.int .i64 8)) 3,none⟩,[]⟩,
  ⟨⟨some 2,.assign (.tmp 21),none⟩,[]⟩]) .ret)))
theorem in76:InT Tryz.prog 76 1 [.tmp 2] cd76:=InT.mk (by kernel_rfl) [] Tryz.func76 rfl (by kernel_rfl) (by kernel_rfl) (of_decide_eq_true (by kernel_rfl)) (by kernel_rfl)
end Go.Proofs.YtjnefjchconebaaGreat.Ai
namespace Go.Proofs.YtjnefjchconebaaGreat.Ai
open Go Go.RowKit
instance (n:Int) (ys:List Int):Decidable (Rsg n ys):=by unfold Rsg;infer_instance
theorem isRising_c (v:Value)(ys:List Int)(n:Int)(H:AH)(hn:0<=n/\n<=1099511627776)(hr:Row 3 H v ys)(hlen:ys.length<=1099511627776) :
    ACalls Tryz.prog 128 [v,.int .i64 n] H fun r H'=>r=.bool (decide (Rsg n ys))/\H=H':=by
  refine in128 rfl ?_
  intro Q hQ
  simp (disch:=omega) only [cd128,hr.len Tryz.underlying27,SS,eq_self,reduceIte,reduceCtorEq,Nat.reduceEqDiff,Nat.reduceAdd]
  refine LoopH.by (fun m s H'=>∃ i,m+i=ys.length/\s 0=v/\s 1=.int .i64 n/\s 7=v/\s 8=.int .i64 (ys.length:Int)/\s 9=.int .i64 ((i:Nat):Int)/\H=H'/\∀ j,j<i->(0<=ys.getD j 0/\ys.getD j 0<=n - 1)/\(0<j->ys.getD (j - 1) 0<ys.getD j 0)) ys.length ?_ ?_
  . exact ⟨0,by simp,rfl,rfl,rfl,rfl,rfl,rfl,by omega⟩
  . rintro m s H' ⟨i,hm,h0,h1,h7,h8,h9,rfl,hj⟩
    simp (disch:=omega) only [h0,h1,h7,h8,h9,SS,eq_self,reduceIte,reduceCtorEq,Nat.reduceEqDiff,Nat.reduceAdd]
    refine brD.intro (fun g=>?_) (fun g=>?_)
    . have hi:i<ys.length:=by omega
      have hp:((i:Int) - 1).toNat=i - 1:=by omega
      have bad:¬ ((0<=ys.getD i 0/\ys.getD i 0<=n - 1)/\(0<i->ys.getD (i - 1) 0<ys.getD i 0))->decide (Rsg n ys)=false:=fun h=>decide_eq_false fun hh=>h (hh i hi)
      have nxt:((0<=ys.getD i 0/\ys.getD i 0<=n - 1)/\(0<i->ys.getD (i - 1) 0<ys.getD i 0))->∀ j,j<i+1->(0<=ys.getD j 0/\ys.getD j 0<=n - 1)/\(0<j->ys.getD (j - 1) 0<ys.getD j 0):=by
        intro h j hjj
        by_cases e:j=i
        . subst e;exact h
        . exact hj j (by omega)
      simp (disch:=omega) only [h0,h1,h7,h8,h9,hr.ix Tryz.underlying27 cs3,hr.cell,Int.toNat_natCast,wrap64,SS,eq_self,reduceIte,reduceCtorEq,Nat.reduceEqDiff,Nat.reduceAdd]
      refine CallH.by (between_c ..) ?_
      rintro _ _ ⟨rfl,rfl⟩
      simp (disch:=omega) only [SS,eq_self,reduceIte,reduceCtorEq,Nat.reduceEqDiff,Nat.reduceAdd]
      refine brD.intro (fun e=>?_) (fun e=>?_) <;> simp (disch:=omega) only [e,h0,h1,h7,h8,h9,wrap64,SS,eq_self,reduceIte,reduceCtorEq,Nat.reduceEqDiff,Nat.reduceAdd]
      . refine brD.intro (fun q=>?_) (fun q=>?_) <;> simp (disch:=omega) only [e,q,h0,h1,h7,h8,h9,hr.ix Tryz.underlying27 cs3,hr.cell,hp,wrap64,SS,eq_self,reduceIte,reduceCtorEq,Nat.reduceEqDiff,Nat.reduceAdd]
        . refine brD.intro (fun z=>?_) (fun z=>?_) <;> simp (disch:=omega) only [e,q,z,h0,h1,h7,h8,h9,wrap64,SS,eq_self,reduceIte,reduceCtorEq,Nat.reduceEqDiff,Nat.reduceAdd]
          . refine hQ _ _ _ ?_
            simp (disch:=omega) only [SS,eq_self,reduceIte,reduceCtorEq,Nat.reduceEqDiff,Nat.reduceAdd]
            rw [bad (fun h=>by have:=h.2 (by omega);omega)]
          . have fx:=nxt ⟨e,fun _=>by omega⟩
            refine ⟨m - 1,by omega,i+1,?_⟩
            (repeat' apply And.intro) <;> first | exact fx | (simp only [Value.int.injEq,true_and];omega) | omega | rfl | assumption | (simp;done) | (simp;omega)
        . have fx:=nxt ⟨e,fun _=>by omega⟩
          refine ⟨m - 1,by omega,i+1,?_⟩
          (repeat' apply And.intro) <;> first | exact fx | (simp only [Value.int.injEq,true_and];omega) | omega | rfl | assumption | (simp;done) | (simp;omega)
      . refine hQ _ _ _ ?_
        simp (disch:=omega) only [SS,eq_self,reduceIte,reduceCtorEq,Nat.reduceEqDiff,Nat.reduceAdd]
        rw [bad (fun h=>e h.1)]
    . simp (disch:=omega) only [h0,h1,h7,h8,h9,SS,eq_self,reduceIte,reduceCtorEq,Nat.reduceEqDiff,Nat.reduceAdd]
      refine hQ _ _ _ ?_
      simp (disch:=omega) only [SS,eq_self,reduceIte,reduceCtorEq,Nat.reduceEqDiff,Nat.reduceAdd]
      have:Rsg n ys:=fun j hjj=>hj j (by omega)
      simp [this]
theorem isOrder_c (v:Value)(xs:List Int)(H:AH)(hr:Row 3 H v xs)(hlen:xs.length<=12) :
    ACalls Tryz.prog 171 [v,.int .i64 (xs.length:Int)] H fun r H'=>r=.bool (decide (∀ x,x<xs.length->(x:Int) ∈ xs))/\H<+:H':=by
  refine in171 rfl ?_
  intro Q hQ
  simp (disch:=omega) only [cd171,hr.len Tryz.underlying27,SS,eq_self,reduceIte,reduceCtorEq,Nat.reduceEqDiff,Nat.reduceAdd]
  refine CallH.by (Values_c v xs H hr) ?_
  rintro _ _ ⟨rfl,rfl⟩
  have hp:=List.prefix_append H [AObj.cells [v] 27 false]
  simp (disch:=omega) only [SS,eq_self,reduceIte,reduceCtorEq,Nat.reduceEqDiff,Nat.reduceAdd]
  have hc:cellA (H ++ [AObj.cells [v] 27 false]) H.length 0=some v:=by rw [cell_of (at_new ..)];rfl
  refine CallH.by (SortedV_c H.length v xs _ hc (hr.pre hp) hlen) ?_
  rintro u H1 ⟨ys,hown,hperm,hasc,hp1⟩
  simp (disch:=omega) only [SS,eq_self,reduceIte,reduceCtorEq,Nat.reduceEqDiff,Nat.reduceAdd]
  have hl:=hperm.length_eq
  refine CallH.by (isRising_c u ys _ H1 (by omega) hown.row (by omega)) ?_
  rintro _ _ ⟨rfl,rfl⟩
  simp (disch:=omega) only [SS,eq_self,reduceIte,reduceCtorEq,Nat.reduceEqDiff,Nat.reduceAdd]
  refine hQ _ _ _ ?_
  simp (disch:=omega) only [SS,eq_self,reduceIte,reduceCtorEq,Nat.reduceEqDiff,Nat.reduceAdd]
  refine ⟨?_,hp.trans hp1⟩
  have:=rsg_iff hperm hasc
  simp only [this]
theorem PermI_c (v:Value)(xs:List Int)(H:AH)(hr:Row 3 H v xs)(hlen:xs.length<=1099511627776)(hxs:∀ y ∈ xs,I64 y) :
    ACalls Tryz.prog 92 [v] H fun r H'=>r=.bool (decide (Prm xs))/\H<+:H':=by
  refine in92 rfl ?_
  intro Q hQ
  simp (disch:=omega) only [cd92,hr.len Tryz.underlying27,SS,eq_self,reduceIte,reduceCtorEq,Nat.reduceEqDiff,Nat.reduceAdd]
  refine brD.intro (fun h=>?_) (fun h=>?_) <;> simp (disch:=omega) only [h,hr.len Tryz.underlying27,SS,eq_self,reduceIte,reduceCtorEq,Nat.reduceEqDiff,Nat.reduceAdd]
  . refine CallH.by (isOrder_c v xs H hr (by omega)) ?_
    rintro _ H1 ⟨rfl,hp⟩
    simp (disch:=omega) only [h,SS,eq_self,reduceIte,reduceCtorEq,Nat.reduceEqDiff,Nat.reduceAdd]
    refine hQ _ _ _ ?_
    simp (disch:=omega) only [SS,eq_self,reduceIte,reduceCtorEq,Nat.reduceEqDiff,Nat.reduceAdd]
    refine ⟨?_,hp⟩
    have h8:xs.length<=8:=by omega
    unfold Prm
    simp [h8]
  . refine hQ _ _ _ ?_
    simp (disch:=omega) only [SS,eq_self,reduceIte,reduceCtorEq,Nat.reduceEqDiff,Nat.reduceAdd]
    have h8:¬ xs.length<=8:=by omega
    unfold Prm
    simp [h8,List.prefix_refl]
theorem l9Perm_c (v:Value)(xs:List Int)(H:AH)(hr:Row 3 H v xs)(hlen:xs.length<=1099511627776) :
    ACalls Tryz.prog 76 [v] H fun r H'=>r=.bool (decide (Prm xs))/\H=H':=by
  refine in76 rfl ?_
  intro Q hQ
  simp (disch:=omega) only [cd76,SS,eq_self,reduceIte,reduceCtorEq,Nat.reduceEqDiff,Nat.reduceAdd]
  refine LoopH.by (fun m s H'=>∃ i,m+i=xs.length/\s 0=v/\s 3=.int .i64 ((i:Nat):Int)/\H=H'/\∀ j,j<i->(j:Int) ∈ xs) xs.length ?_ ?_
  . exact ⟨0,by simp,rfl,rfl,rfl,by omega⟩
  . rintro m s H' ⟨i,hm,h0,h3,rfl,hj⟩
    have fin:decide (xs.length<=8)=decide (Prm xs)->True:=fun _=>trivial
    simp (disch:=omega) only [h0,h3,hr.len Tryz.underlying27,SS,eq_self,reduceIte,reduceCtorEq,Nat.reduceEqDiff,Nat.reduceAdd]
    refine brD.intro (fun g=>?_) (fun g=>?_) <;> simp (disch:=omega) only [g,h0,h3,hr.len Tryz.underlying27,SS,eq_self,reduceIte,reduceCtorEq,Nat.reduceEqDiff,Nat.reduceAdd]
    . refine brD.intro (fun q=>?_) (fun q=>?_) <;> simp (disch:=omega) only [g,q,h0,h3,hr.len Tryz.underlying27,SS,eq_self,reduceIte,reduceCtorEq,Nat.reduceEqDiff,Nat.reduceAdd]
      . refine CallH.by (l1Has_c v xs _ H hr hlen) ?_
        rintro _ _ ⟨rfl,rfl⟩
        simp (disch:=omega) only [SS,eq_self,reduceIte,reduceCtorEq,Nat.reduceEqDiff,Nat.reduceAdd]
        refine brD.intro (fun e=>?_) (fun e=>?_) <;> simp (disch:=omega) only [g,q,e,h0,h3,wrap64,SS,eq_self,reduceIte,reduceCtorEq,Nat.reduceEqDiff,Nat.reduceAdd]
        . have fx:∀ j,j<i+1->(j:Int) ∈ xs:=by
            intro j hjj
            by_cases ej:j=i
            . subst ej;exact e
            . exact hj j (by omega)
          refine ⟨m - 1,by omega,i+1,?_⟩
          (repeat' apply And.intro) <;> first | exact fx | (simp only [Value.int.injEq,true_and];omega) | omega | rfl | assumption | (simp;done) | (simp;omega)
        . refine hQ _ _ _ ?_
          simp (disch:=omega) only [SS,eq_self,reduceIte,reduceCtorEq,Nat.reduceEqDiff,Nat.reduceAdd]
          have:¬ Prm xs:=fun h=>e (h.2 i (by omega))
          simp [this]
      . refine hQ _ _ _ ?_
        simp (disch:=omega) only [SS,eq_self,reduceIte,reduceCtorEq,Nat.reduceEqDiff,Nat.reduceAdd]
        have:¬ Prm xs:=fun h=>by have:=h.1;omega
        simp [this]
    . refine hQ _ _ _ ?_
      simp (disch:=omega) only [SS,eq_self,reduceIte,reduceCtorEq,Nat.reduceEqDiff,Nat.reduceAdd]
      have e:((xs.length:Int)<=8)↔Prm xs:=⟨fun h=>⟨by omega,fun x hx=>hj x (by omega)⟩,fun h=>by have:=h.1;omega⟩
      simp only [e]
def cd62:Cd:=(.seq (.reg [⟨⟨some 2,.box 26 (.tmp 0),none⟩,[]⟩,⟨⟨some 4,.assign (.const (.bool false)),none⟩,[]⟩]) (.seq (.reg [⟨⟨some 5,.load 26 (.tmp 2),none⟩,[]⟩,⟨⟨some 6,.call ⟨(.value (.func 79)),#[.tmp 5],#[26]⟩,none⟩,[]⟩,⟨⟨some 7,.move (.tmp 6),none⟩,[]⟩,⟨⟨some 8,.move (.tmp 1),some (7,true)⟩,[]⟩,⟨⟨some 9,.call ⟨(.value (.func 92)),#[.tmp 8],#[27]⟩,some (7,true)⟩,[]⟩,⟨⟨some 10,.pick (.tmp 7) (.tmp 9) (.const (.bool false)),none⟩,[]⟩,⟨⟨some 11,.move (.tmp 10),none⟩,[]⟩,⟨⟨some 12,.move (.tmp 1),some (11,true)⟩,[]⟩,⟨⟨some 13,.call ⟨(.builtin .len),#[.tmp 12],#[27]⟩,some (11,true)⟩,[]⟩,⟨⟨some 14,.fieldAddr 26 (.tmp 2) 0,some (11,true)⟩,[]⟩,⟨⟨some 15,.load 3 (.tmp 14),some (11,true)⟩,[]⟩,
 ⟨⟨some 16,.binOp .eql 3 (.tmp 13) (.tmp 15) 3,some (11,true)⟩,[]⟩,
  ⟨⟨some 17,.pick (.tmp 11) (.tmp 16) (.const (.bool false)),none⟩,[]⟩,
  ⟨⟨some 4,.assign (.tmp 17),none⟩,[]⟩]) .ret))
theorem in62:InT Tryz.prog 62 2 [.tmp 4] cd62:=InT.mk (by kernel_rfl) [] Tryz.func62 rfl (by kernel_rfl) (by kernel_rfl) (of_decide_eq_true (by kernel_rfl)) (by kernel_rfl)
def cd67:Cd:=(.seq (.reg [⟨⟨some 2,.box 26 (.tmp 0),none⟩,[]⟩,⟨⟨some 4,.assign (.const (.bool false)),none⟩,[]⟩]) (.seq (.reg [⟨⟨some 5,.load 26 (.tmp 2),none⟩,[]⟩,⟨⟨some 6,.call ⟨(.value (.func 75)),#[.tmp 5],#[26]⟩,none⟩,[]⟩,⟨⟨some 7,.move (.tmp 6),none⟩,[]⟩,⟨⟨some 8,.fieldAddr 26 (.tmp 2) 0,some (7,true)⟩,[]⟩,⟨⟨some 9,.load 3 (.tmp 8),some (7,true)⟩,[]⟩,⟨⟨some 10,.binOp .leq 3 (.tmp 9) (.const (.int .i64 6)) 3,some (7,true)⟩,[]⟩,⟨⟨some 11,.pick (.tmp 7) (.tmp 10) (.const (.bool false)),none⟩,[]⟩,⟨⟨some 12,.move (.tmp 11),none⟩,[]⟩,⟨⟨some 13,.move (.tmp 1),some (12,true)⟩,[]⟩,⟨⟨some 14,.call ⟨(.builtin .len),#[.tmp 13],#[27]⟩,some (12,true)⟩,[]⟩,⟨⟨some 15,.fieldAddr 26 (.tmp 2) 0,some (12,true)⟩,[]⟩,
 ⟨⟨some 16,.load 3 (.tmp 15),some (12,true)⟩,[]⟩,
  ⟨⟨some 17,.binOp .eql 3 (.tmp 14) (.tmp 16) 3,some (12,true)⟩,[]⟩,
  ⟨⟨some 18,.pick (.tmp 12) (.tmp 17) (.const (.bool false)),none⟩,[]⟩,
  ⟨⟨some 19,.move (.tmp 18),none⟩,[]⟩,
  ⟨⟨some 20,.move (.tmp 1),some (19,true)⟩,[]⟩,
  ⟨⟨some 21,.call ⟨(.value (.func 76)),#[.tmp 20],#[27]⟩,some (19,true)⟩,[]⟩,
  ⟨⟨some 22,.pick (.tmp 19) (.tmp 21) (.const (.bool false)),none⟩,[]⟩,
  ⟨⟨some 4,.assign (.tmp 22),none⟩,[]⟩]) .ret))
theorem in67:InT Tryz.prog 67 2 [.tmp 4] cd67:=InT.mk (by kernel_rfl) [] Tryz.func67 rfl (by kernel_rfl) (by kernel_rfl) (of_decide_eq_true (by kernel_rfl)) (by kernel_rfl)
end Go.Proofs.YtjnefjchconebaaGreat.Ai
namespace Go.Proofs.YtjnefjchconebaaGreat.Ai
open Go Go.RowKit
def Tkn (n:Int)(es:List (Int × Int))(p:List Int):Prop:=(Grd n es/\Prm p)/\(p.length:Int)=n
instance (n:Int) (es:List (Int × Int)) (p:List Int):Decidable (Tkn n es p):=by unfold Tkn;infer_instance
def Brd (n:Int)(es:List (Int × Int))(p:List Int):Prop:=Tkn n es p/\(1<=n/\n<=6)
instance (n:Int) (es:List (Int × Int)) (p:List Int):Decidable (Brd n es p):=by unfold Brd;infer_instance
def Fld (n:Int)(es:List (Int × Int))(p:List Int):Prop:=Tkn n es p/\n<=6
instance (n:Int) (es:List (Int × Int)) (p:List Int):Decidable (Fld n es p):=by unfold Fld;infer_instance
theorem isTokens_c (n:Int)(v w:Value)(es:List (Int × Int))(p:List Int)(H:AH)(hr:RowP 47 H v es)(hlen:es.length<=1099511627776)(hx:Row 3 H w p)(hlp:p.length<=1099511627776)(hxs:∀ y ∈ p,I64 y) :
    ACalls Tryz.prog 62 [.agg (List.toArray [.int .i64 n,v]),w] H fun r H'=>r=.bool (decide (Tkn n es p))/\H<+:H':=by
  refine in62 rfl ?_
  intro Q hQ
  simp (disch:=omega) only [cd62,hr.boxG,SS,eq_self,reduceIte,reduceCtorEq,Nat.reduceEqDiff,Nat.reduceAdd]
  generalize hA:H ++ [AObj.cells [.int .i64 n,v] 26 false]=A
  have pA:H<+:A:=by rw [<- hA];exact List.prefix_append _ _
  have cA:A[H.length]?=some (.cells [.int .i64 n,v] 26 false):=by rw [<- hA];exact at_new ..
  have rA:=hr.pre pA
  simp (disch:=omega) only [ld_agg ag26 cs26 cA,SS,eq_self,reduceIte,reduceCtorEq,Nat.reduceEqDiff,Nat.reduceAdd]
  refine CallH.by (IsGraph_c n v es A rA hlen) ?_
  rintro _ B ⟨rfl,pB⟩
  have cB:=pre_at pB cA
  have pHB:=pA.trans pB
  simp (disch:=omega) only [SS,eq_self,reduceIte,reduceCtorEq,Nat.reduceEqDiff,Nat.reduceAdd]
  refine brD.intro (fun e=>?_) (fun e=>?_) <;> simp (disch:=omega) only [e,SS,eq_self,reduceIte,reduceCtorEq,Nat.reduceEqDiff,Nat.reduceAdd]
  . refine CallH.by (PermI_c w p B (hx.pre pHB) hlp hxs) ?_
    rintro _ C ⟨rfl,pC⟩
    have cC:=pre_at pC cB
    have pHC:=pHB.trans pC
    simp (disch:=omega) only [e,SS,eq_self,reduceIte,reduceCtorEq,Nat.reduceEqDiff,Nat.reduceAdd]
    refine brD.intro (fun e2=>?_) (fun e2=>?_) <;> simp (disch:=omega) only [e,e2,(hx.pre pHC).len Tryz.underlying27,cell_of cC,SS,eq_self,reduceIte,reduceCtorEq,Nat.reduceEqDiff,Nat.reduceAdd]
    . refine hQ _ _ _ ?_
      simp (disch:=omega) only [e,e2,SS,eq_self,reduceIte,reduceCtorEq,Nat.reduceEqDiff,Nat.reduceAdd]
      exact ⟨by simp [Tkn,e,e2],pHC⟩
    . refine hQ _ _ _ ?_
      simp (disch:=omega) only [e,e2,SS,eq_self,reduceIte,reduceCtorEq,Nat.reduceEqDiff,Nat.reduceAdd]
      exact ⟨by simp [Tkn,e2],pHC⟩
  . refine hQ _ _ _ ?_
    simp (disch:=omega) only [e,SS,eq_self,reduceIte,reduceCtorEq,Nat.reduceEqDiff,Nat.reduceAdd]
    exact ⟨by simp [Tkn,e],pHB⟩
theorem l9Field_c (n:Int)(v w:Value)(es:List (Int × Int))(p:List Int)(H:AH)(hr:RowP 47 H v es)(hlen:es.length<=1099511627776)(hx:Row 3 H w p)(hlp:p.length<=1099511627776) :
    ACalls Tryz.prog 67 [.agg (List.toArray [.int .i64 n,v]),w] H fun r H'=>r=.bool (decide (Fld n es p))/\H<+:H':=by
  refine in67 rfl ?_
  intro Q hQ
  simp (disch:=omega) only [cd67,hr.boxG,SS,eq_self,reduceIte,reduceCtorEq,Nat.reduceEqDiff,Nat.reduceAdd]
  generalize hA:H ++ [AObj.cells [.int .i64 n,v] 26 false]=A
  have pA:H<+:A:=by rw [<- hA];exact List.prefix_append _ _
  have cA:A[H.length]?=some (.cells [.int .i64 n,v] 26 false):=by rw [<- hA];exact at_new ..
  have rA:=hr.pre pA
  simp (disch:=omega) only [ld_agg ag26 cs26 cA,SS,eq_self,reduceIte,reduceCtorEq,Nat.reduceEqDiff,Nat.reduceAdd]
  refine CallH.by (l2Good_c n v es A rA hlen) ?_
  rintro _ B ⟨rfl,pB⟩
  have cB:=pre_at pB cA
  have pHB:=pA.trans pB
  simp (disch:=omega) only [SS,eq_self,reduceIte,reduceCtorEq,Nat.reduceEqDiff,Nat.reduceAdd]
  refine brD.intro (fun e=>?_) (fun e=>?_) <;> simp (disch:=omega) only [e,cell_of cB,SS,eq_self,reduceIte,reduceCtorEq,Nat.reduceEqDiff,Nat.reduceAdd]
  . refine brD.intro (fun e2=>?_) (fun e2=>?_) <;> simp (disch:=omega) only [e,e2,(hx.pre pHB).len Tryz.underlying27,cell_of cB,SS,eq_self,reduceIte,reduceCtorEq,Nat.reduceEqDiff,Nat.reduceAdd]
    . refine brD.intro (fun e3=>?_) (fun e3=>?_) <;> simp (disch:=omega) only [e,e2,e3,SS,eq_self,reduceIte,reduceCtorEq,Nat.reduceEqDiff,Nat.reduceAdd]
      . refine CallH.by (l9Perm_c w p B (hx.pre pHB) hlp) ?_
        rintro _ _ ⟨rfl,rfl⟩
        simp (disch:=omega) only [e,e2,e3,SS,eq_self,reduceIte,reduceCtorEq,Nat.reduceEqDiff,Nat.reduceAdd]
        refine hQ _ _ _ ?_
        simp (disch:=omega) only [e,e2,e3,SS,eq_self,reduceIte,reduceCtorEq,Nat.reduceEqDiff,Nat.reduceAdd]
        exact ⟨by simp [Fld,Tkn,e,e2,e3],pHB⟩
      . refine hQ _ _ _ ?_
        simp (disch:=omega) only [e,e2,e3,SS,eq_self,reduceIte,reduceCtorEq,Nat.reduceEqDiff,Nat.reduceAdd]
        exact ⟨by simp [Fld,Tkn,e,e2,e3],pHB⟩
    . refine hQ _ _ _ ?_
      simp (disch:=omega) only [e,e2,SS,eq_self,reduceIte,reduceCtorEq,Nat.reduceEqDiff,Nat.reduceAdd]
      exact ⟨by simp [Fld,Tkn,e,e2],pHB⟩
  . refine hQ _ _ _ ?_
    simp (disch:=omega) only [e,SS,eq_self,reduceIte,reduceCtorEq,Nat.reduceEqDiff,Nat.reduceAdd]
    exact ⟨by simp [Fld,Tkn,e],pHB⟩
def cd65:Cd:=(.seq (.reg [⟨⟨some 2,.box 26 (.tmp 0),none⟩,[]⟩,⟨⟨some 4,.assign (.const (.slice none 0 0)),none⟩,[]⟩]) (.seq (.reg [⟨⟨some 8,.buildSlice 36 0 #[],none⟩,[]⟩,⟨⟨some 5,.assign (.tmp 8),none⟩,[]⟩]) (.seq (.seq (.reg [⟨⟨some 9,.fieldAddr 26 (.tmp 2) 1,none⟩,[]⟩,⟨⟨some 10,.load 24 (.tmp 9),none⟩,[]⟩,⟨⟨some 11,.call ⟨(.builtin .len),#[.tmp 10],#[24]⟩,none⟩,[]⟩,⟨⟨some 12,.move (.const (.int .i64 0)),none⟩,[]⟩]) (.block 0 (.loop (.seq (.reg [⟨⟨some 13,.binOp .lss 3 (.tmp 12) (.tmp 11) 3,none⟩,[]⟩]) (.seq (.cond (.tmp 13) .skip (.exit 0)) (.seq (.block 1 (.seq (.reg [⟨⟨some 14,.indexAddr 24 (.tmp 10) (.tmp 12),none⟩,[]⟩,⟨⟨some 15,.load 47 (.tmp 14),none⟩,[]⟩,⟨⟨some 7,.alloc 47,none⟩,[]⟩,⟨⟨none,.store 47 (.tmp 7) (.tmp 15),none⟩,[]⟩]) (.reg [⟨⟨some 16,.move (.tmp 5),none⟩,[]⟩,⟨⟨some 17,.move (.tmp 1),none⟩,[]⟩,⟨⟨some 18,.load 47 (.tmp 7),none⟩,[]⟩,⟨⟨some 19,.call ⟨(.value (.func 94)),#[.tmp 17,.tmp 18],#[27,47]⟩,none⟩,[]⟩,
 ⟨⟨some 20,.buildSlice 36 1 #[(0,.tmp 19)],none⟩,[]⟩,
  ⟨⟨some 21,.call ⟨(.builtin .append),#[.tmp 16,.tmp 20],#[36,36]⟩,none⟩,[]⟩,
  ⟨⟨some 5,.assign (.tmp 21),none⟩,[]⟩]))) (.reg [⟨⟨some 22,.binOp .add 3 (.tmp 12) (.const (.int .i64 1)) 3,none⟩,[]⟩,
  ⟨⟨some 12,.move (.tmp 22),none⟩,[]⟩]))))))) (.seq (.reg [⟨⟨some 23,.move (.tmp 5),none⟩,[]⟩,
  ⟨⟨some 4,.assign (.tmp 23),none⟩,[]⟩]) .ret))))
theorem in65:InT Tryz.prog 65 2 [.tmp 4] cd65:=InT.mk (by kernel_rfl) [] Tryz.func65 rfl (by kernel_rfl) (by kernel_rfl) (of_decide_eq_true (by kernel_rfl)) (by kernel_rfl)
def cd152:Cd:=(.seq (.reg [⟨⟨some 3,.box 26 (.tmp 0),none⟩,[]⟩,⟨⟨some 6,.assign (.const (.slice none 0 0)),none⟩,[]⟩,⟨⟨some 7,.assign (.const (.slice none 0 0)),none⟩,[]⟩]) (.seq (.reg [⟨⟨some 13,.buildSlice 36 0 #[],none⟩,[]⟩,⟨⟨some 14,.buildSlice 24 0 #[],none⟩,[]⟩,⟨⟨some 8,.assign (.tmp 13),none⟩,[]⟩,⟨⟨some 9,.assign (.tmp 14),none⟩,[]⟩]) (.seq (.seq (.reg [⟨⟨some 10,.assign (.const (.int .i64 0)),none⟩,[]⟩]) (.block 0 (.loop (.seq (.seq (.reg [⟨⟨some 15,.move (.tmp 10),none⟩,[]⟩,⟨⟨some 16,.fieldAddr 26 (.tmp 3) 1,none⟩,[]⟩,⟨⟨some 17,.load 24 (.tmp 16),none⟩,[]⟩,⟨⟨some 18,.call ⟨(.builtin .len),#[.tmp 17],#[24]⟩,none⟩,[]⟩,⟨⟨some 19,.binOp .lss 3 (.tmp 15) (.tmp 18) 3,none⟩,[]⟩]) (.cond (.tmp 19) .skip (.exit 0))) (.seq (.block 1 (.seq (.reg [⟨⟨some 22,.fieldAddr 26 (.tmp 3) 1,none⟩,[]⟩,⟨⟨some 23,.load 24 (.tmp 22),none⟩,[]⟩,⟨⟨some 24,.move (.tmp 10),none⟩,[]⟩,
 ⟨⟨some 25,.indexAddr 24 (.tmp 23) (.tmp 24),none⟩,[]⟩,⟨⟨some 26,.indexAddr 47 (.tmp 25) (.const (.int .i64 0)),none⟩,[]⟩,⟨⟨some 27,.load 3 (.tmp 26),none⟩,[]⟩,⟨⟨some 28,.fieldAddr 26 (.tmp 3) 1,none⟩,[]⟩,⟨⟨some 29,.load 24 (.tmp 28),none⟩,[]⟩,⟨⟨some 30,.move (.tmp 10),none⟩,[]⟩,⟨⟨some 31,.indexAddr 24 (.tmp 29) (.tmp 30),none⟩,[]⟩,⟨⟨some 32,.indexAddr 47 (.tmp 31) (.const (.int .i64 1)),none⟩,[]⟩,⟨⟨some 33,.load 3 (.tmp 32),none⟩,[]⟩,⟨⟨some 11,.assign (.tmp 27),none⟩,[]⟩,⟨⟨some 12,.assign (.tmp 33),none⟩,[]⟩]) (.seq (.reg [⟨⟨some 34,.move (.tmp 2),none⟩,[]⟩,⟨⟨some 35,.unOp .not 4 (.tmp 34),none⟩,[]⟩,
 ⟨⟨some 36,.move (.tmp 35),none⟩,[]⟩,⟨⟨some 37,.move (.tmp 1),some (36,false)⟩,[]⟩,⟨⟨some 38,.move (.tmp 11),some (36,false)⟩,[]⟩,⟨⟨some 39,.indexAddr 27 (.tmp 37) (.tmp 38),some (36,false)⟩,[]⟩,⟨⟨some 40,.load 3 (.tmp 39),some (36,false)⟩,[]⟩,⟨⟨some 41,.binOp .eql 3 (.tmp 40) (.const (.int .i64 0)) 3,some (36,false)⟩,[]⟩,⟨⟨some 42,.pick (.tmp 36) (.const (.bool true)) (.tmp 41),none⟩,[]⟩,⟨⟨some 43,.move (.tmp 42),none⟩,[]⟩,⟨⟨some 44,.move (.tmp 1),some (43,false)⟩,[]⟩,⟨⟨some 45,.move (.tmp 12),some (43,false)⟩,[]⟩,⟨⟨some 46,.indexAddr 27 (.tmp 44) (.tmp 45),some (43,false)⟩,[]⟩,⟨⟨some 47,.load 3 (.tmp 46),some (43,false)⟩,[]⟩,
 ⟨⟨some 48,.binOp .eql 3 (.tmp 47) (.const (.int .i64 0)) 3,some (43,false)⟩,[]⟩,⟨⟨some 49,.pick (.tmp 43) (.const (.bool true)) (.tmp 48),none⟩,[]⟩]) (.cond (.tmp 49) (.seq (.reg [⟨⟨some 50,.move (.tmp 8),none⟩,[]⟩,⟨⟨some 51,.move (.tmp 1),none⟩,[]⟩,⟨⟨some 52,.move (.tmp 11),none⟩,[]⟩,⟨⟨some 53,.move (.tmp 12),none⟩,[]⟩,⟨⟨some 54,.call ⟨(.value (.func 200)),#[.tmp 51,.tmp 52,.tmp 53],#[27,3,3]⟩,none⟩,[]⟩,⟨⟨some 55,.buildSlice 36 1 #[(0,.tmp 54)],none⟩,[]⟩,⟨⟨some 56,.call ⟨(.builtin .append),#[.tmp 50,.tmp 55],#[36,36]⟩,none⟩,[]⟩,⟨⟨some 8,.assign (.tmp 56),none⟩,[]⟩]) (.reg [⟨⟨some 57,.move (.tmp 9),none⟩,[]⟩,⟨⟨some 58,.fieldAddr 26 (.tmp 3) 1,none⟩,[]⟩,⟨⟨some 59,.load 24 (.tmp 58),none⟩,[]⟩,⟨⟨some 60,.move (.tmp 10),none⟩,[]⟩,
 ⟨⟨some 61,.indexAddr 24 (.tmp 59) (.tmp 60),none⟩,[]⟩,
  ⟨⟨some 62,.load 47 (.tmp 61),none⟩,[]⟩,
  ⟨⟨some 63,.buildSlice 24 1 #[(0,.tmp 62)],none⟩,[]⟩,
  ⟨⟨some 64,.call ⟨(.builtin .append),#[.tmp 57,.tmp 63],#[24,24]⟩,none⟩,[]⟩,
  ⟨⟨some 9,.assign (.tmp 64),none⟩,[]⟩])) .skip)))) (.reg [⟨⟨some 20,.move (.tmp 10),none⟩,[]⟩,
  ⟨⟨some 21,.binOp .add 3 (.tmp 20) (.const (.int .i64 1)) 3,none⟩,[]⟩,
  ⟨⟨some 10,.assign (.tmp 21),none⟩,[]⟩])))))) (.seq (.reg [⟨⟨some 65,.move (.tmp 8),none⟩,[]⟩,
  ⟨⟨some 66,.move (.tmp 9),none⟩,[]⟩,
  ⟨⟨some 6,.assign (.tmp 65),none⟩,[]⟩,
  ⟨⟨some 7,.assign (.tmp 66),none⟩,[]⟩]) .ret))))
theorem in152:InT Tryz.prog 152 3 [.tmp 6,.tmp 7] cd152:=InT.mk (by kernel_rfl) [(5,[(0,false),(1,false),(2,false),(3,false),(4,false),(5,false),(6,false),(7,false),(8,false),(9,false),(10,false),(11,false),(12,false),(13,false)])] Tryz.func152 rfl (by kernel_rfl) (by kernel_rfl) (of_decide_eq_true (by kernel_rfl)) (by kernel_rfl)
end Go.Proofs.YtjnefjchconebaaGreat.Ai
namespace Go.Proofs.YtjnefjchconebaaGreat.Ai
open Go Go.RowKit
theorem mvs_false (es:List (Int × Int))(p:List Int):mvs es false p=es:=by
  unfold mvs
  rw [List.filter_eq_self]
  intro e _;rfl
theorem nxt_false (es:List (Int × Int))(p:List Int):nxt es false p=es.map fun e=>swp p e.1.toNat e.2.toNat:=by
  unfold nxt;rw [mvs_false]
theorem swaps_c (n:Nat)(v w:Value)(es:List (Int × Int))(p:List Int)(H:AH)(hr:RowP 47 H v es)(hlen:es.length<=1099511627776)(hx:Row 3 H w p)(hg:Grd (n:Int) es)(hp:Bd n p) :
    ACalls Tryz.prog 65 [.agg (List.toArray [.int .i64 (n:Int),v]),w] H fun r H'=>InL H.length H'.length 27 3 H' r (nxt es false p)/\H<+:H':=by
  have hn8:=hp.1.1
  have hpl:=hp.2
  refine in65 rfl ?_
  intro Q hQ
  rw [nxt_false] at hQ
  simp (disch:=omega) only [cd65,hr.boxG,SS,eq_self,reduceIte,reduceCtorEq,Nat.reduceEqDiff,Nat.reduceAdd]
  generalize hA:H ++ [AObj.cells [.int .i64 ↑n,v] 26 false]=A
  have pA:H<+:A:=by rw [<- hA];exact List.prefix_append _ _
  have cA:A[H.length]?=some (.cells [.int .i64 ↑n,v] 26 false):=by rw [<- hA];exact at_new ..
  have rA:=hr.pre pA
  try simp (disch:=omega) only [SS,eq_self,reduceIte,reduceCtorEq,Nat.reduceEqDiff,Nat.reduceAdd]
  generalize hB:A ++ [AObj.cells [] 27 false]=B
  have pB:A<+:B:=by rw [<- hB];exact List.prefix_append _ _
  have lA:A.length=H.length+1:=by rw [<- hA];simp
  have lB:B.length=A.length+1:=by rw [<- hB];simp
  have cB:B[A.length]?=some (.cells [] 27 false):=by rw [<- hB];exact at_new ..
  have cBG:=pre_at pB cA
  have rB:=rA.pre pB
  simp (disch:=omega) only [cell_of cBG,rB.len Tryz.underlying24,SS,eq_self,reduceIte,reduceCtorEq,Nat.reduceEqDiff,Nat.reduceAdd]
  have hin0:InU H.length B.length 27 3 B A.length [] [] :=
    ⟨by omega,by omega,cB,Nat.le_refl _,fun i hi=>absurd hi (by simp),fun i j _ hi _=>absurd hi (by simp)⟩
  refine LoopH.by (fun m s H'=>∃ i o us,m+i=es.length/\s 1=w/\s 2=.pointer (some ⟨H.length,0,none⟩)/\s 5=.slice (some ⟨o,0,none⟩) i i/\s 10=v/\s 11=.int .i64 (es.length:Int)/\s 12=.int .i64 ((i:Nat):Int)/\i<=es.length/\InU H.length H'.length 27 3 H' o us ((es.take i).map fun e=>swp p e.1.toNat e.2.toNat)/\H<+:H') es.length ?_ ?_
  . exact ⟨0,A.length,[],by simp,rfl,rfl,rfl,rfl,rfl,rfl,by omega,by simpa using hin0,pA.trans pB⟩
  rintro m s H' ⟨i,o,us,hm,h1,h2,h5,h10,h11,h12,hie,hin,hpp⟩
  simp (disch:=omega) only [h1,h2,h5,h10,h11,h12,SS,eq_self,reduceIte,reduceCtorEq,Nat.reduceEqDiff,Nat.reduceAdd]
  have hml:((es.take i).map fun e=>swp p e.1.toNat e.2.toNat).length=i:=by simp;omega
  refine brD.intro (fun g=>?_) (fun g=>?_)
  rotate_left
  . simp (disch:=omega) only [h5,SS,eq_self,reduceIte,reduceCtorEq,Nat.reduceEqDiff,Nat.reduceAdd]
    refine hQ _ _ _ ?_
    simp (disch:=omega) only [h5,SS,eq_self,reduceIte,reduceCtorEq,Nat.reduceEqDiff,Nat.reduceAdd]
    have:i=es.length:=by omega
    subst this
    have:=hin.inl
    rw [hml] at this
    rw [List.take_of_length_le (Nat.le_refl _)] at this
    exact ⟨this,hpp⟩
  have hi:i<es.length:=by omega
  have hr':=hr.pre hpp
  have hx':=hx.pre hpp
  have hem:es.getD i (0,0) ∈ es:=by simp [hi]
  obtain ⟨q1,q2,q3⟩:=grd_mem hg hem
  have hst:(es.take (i+1)).map (fun e=>swp p e.1.toNat e.2.toNat)=(es.take i).map (fun e=>swp p e.1.toNat e.2.toNat) ++ [swp p (es.getD i (0,0)).1.toNat (es.getD i (0,0)).2.toNat]:=by
    rw [List.take_add_one,List.getElem?_eq_getElem hi,List.map_append]
    have:es.getD i (0,0)=es[i]:=by simp [hi]
    rw [this];rfl
  have hld:=hr'.ld (P:=Tryz.prog) ag47 cs47 hi
  generalize he:es.getD i (0,0)=e at *
  obtain ⟨x,y⟩:=e
  obtain ⟨a,rfl⟩:∃ a:Nat,x=a:=⟨x.toNat,by simp only at q1;omega⟩
  obtain ⟨b,rfl⟩:∃ b:Nat,y=b:=⟨y.toNat,by simp only at q1 q2;omega⟩
  simp only [Int.toNat_natCast] at q1 q2 q3 hst
  have st0:=st_a2 (at_new H' (.cells [.int .i64 0,.int .i64 0] 47 false)) rfl (.int .i64 (a:Int)) (.int .i64 (b:Int))
  rw [set_new] at st0
  simp (disch:=omega) only [h1,h2,h5,h10,h11,h12,hr'.ix Tryz.underlying24 cs47,Int.toNat_natCast,hld,alloc_a2,st0,SS,eq_self,reduceIte,reduceCtorEq,Nat.reduceEqDiff,Nat.reduceAdd]
  generalize hC:H' ++ [AObj.cells [.int .i64 (a:Int),.int .i64 (b:Int)] 47 false]=C
  have pC:H'<+:C:=by rw [<- hC];exact List.prefix_append _ _
  have cC:C[H'.length]?=some (.cells [.int .i64 (a:Int),.int .i64 (b:Int)] 47 false):=by rw [<- hC];exact at_new ..
  simp (disch:=omega) only [h1,h2,h5,h10,h11,h12,ld_a2 cC,SS,eq_self,reduceIte,reduceCtorEq,Nat.reduceEqDiff,Nat.reduceAdd]
  refine CallH.by (swapped_c w p a b C (hx'.pre pC) (by omega) (by omega) (by omega)) ?_
  rintro c D ⟨hc,pD⟩
  have hinw:=InI.of hc.mine
  have hpD:=pC.trans pD
  have hl1:=hpp.length_le
  have hl2:=pC.length_le
  obtain ⟨H3,k1,k2,k3,k4⟩:=((hin.pre hpD).wide (Nat.le_refl _) hl2).app1 (P:=Tryz.prog) (t2:=36) Tryz.underlying36 cs27 (by rw [by27];decide) zk27 hinw (by omega) pD.length_le (Nat.le_refl _) (by omega)
  rw [hml] at k1 k2
  rw [<- hst] at k2
  have ho:=hin.1
  have f1:H<+:H3:=prefix_of fun j x hx'=>k4 j x (by have:=at_lt hx';omega) (pre_at (hpp.trans hpD) hx')
  have f2:InU H.length H3.length 27 3 H3 (D.length+1) (us.take i ++ [c]) ((es.take (i+1)).map fun e=>swp p e.1.toNat e.2.toNat):=by rw [k3];exact k2
  simp (disch:=omega) only [h1,h2,h5,h10,h11,h12,bsRowQ hc.row,k1,wrap64,SS,eq_self,reduceIte,reduceCtorEq,Nat.reduceEqDiff,Nat.reduceAdd]
  refine ⟨m - 1,by omega,i+1,D.length+1,us.take i ++ [c],?_⟩
  (repeat' first | exact f1 | exact f2 | apply And.intro) <;> first | (simp only [Value.int.injEq,true_and];omega) | omega | rfl | assumption | (simp;done) | (simp;omega)
theorem hole_of {n:Nat}{p:List Int}(hp:Bd n p)(hn:1<=n):∃ h:Nat,h<n/\ax p 0=(h:Int)/\p.getD h 0=0:=by
  have:(0:Int) ∈ p:=hp.1.2 0 (by rw [hp.2];omega)
  obtain ⟨i,h1,h2,h3⟩:=ax_at this
  exact ⟨i,by rw [<- hp.2];exact h1,h2,h3⟩
theorem swaps_mv {HB:AH}{n:Nat}{v:Value}{es:List (Int × Int)}(hr:RowP 47 HB v es)(hlen:es.length<=1099511627776)(hg:Grd (n:Int) es) :
    MvFn HB n 65 [.agg (List.toArray [.int .i64 (n:Int),v])] [] (nxt es false):=fun w b H hp hx hb=>swaps_c n v w es b H (hr.pre hp) hlen hx hg hb
theorem mkf_G {G:AH}{e:TypeId}{v:Value}{ps:List (Int × Int)}(h:RowP e G v ps)(f:FuncId)(n:Int):makeFuncA (.func f) [.agg (List.toArray [.int .i64 n,v])] []=some (.func (.func f) (List.toArray [.agg (List.toArray [.int .i64 n,v])]) (List.toArray [])):=by
  obtain ⟨q,rfl⟩:=h.shape
  rfl
theorem nxt_le {n:Nat}{es:List (Int × Int)}(hg:Grd (n:Int) es)(hl:es.length<=1000000)(sl:Bool)(b:List Int):(nxt es sl b).length<=1000000:=by
  rw [nxt_len]
  exact Nat.le_trans (mvs_len es sl b) hl
theorem InU.keptP {lo hi:Nat}{H0 H H':AH}{o:Nat}{us:List Value}{ls:List (List Int)}{v:Value}{ps:List (Int × Int)}(h:InU lo hi 27 3 H o us ls)(hm:MineP 47 H0 H v ps)(hk:Kept v H H'):InU lo hi 27 3 H' o us ls:=by
  rcases hm with g | ⟨oo,zs,g1,g2,g3,g4⟩
  . exact h.move fun j y _ _ hy=>hk j y (.inl g.1) hy
  . have hk':∀ (j:Nat) (y:AObj),j ≠ oo->H[j]?=some y->H'[j]?=some y:=fun j y hj hy=>hk j y (.inr (by rw [g1];exact hj)) hy
    refine h.moveq (q:=oo) ⟨fun e=>?_,fun i hi=>?_⟩ hk'
    . have:=h.2.2.1
      rw [e,g3] at this
      simp only [Option.some.injEq,AObj.cells.injEq] at this
      exact absurd this.2.1 (by decide)
    . rcases (h.2.2.2.2.1 i hi).1 with q | ⟨ow,ws,q1,q2,q3,q4,q5⟩
      . exact .inl q.1
      . refine .inr fun e=>?_
        rw [q1] at e
        have e':ow=oo:=e
        rw [e',g3] at q4
        simp only [Option.some.injEq,AObj.cells.injEq] at q4
        exact absurd q4.2.1 (by decide)
theorem MineP.keptU {H0 H H':AH}{o:Nat}{us:List Value}{v:Value}{ps:List (Int × Int)}(hm:MineP 47 H0 H v ps)(ho:H[o]?=some (.cells us 27 false))(hk:∀ (j:Nat) (y:AObj),j ≠ o->H[j]?=some y->H'[j]?=some y):MineP 47 H0 H' v ps:=by
  rcases hm with g | ⟨oo,zs,g1,g2,g3,g4⟩
  . exact .inl g
  . refine .inr ⟨oo,zs,g1,g2,hk _ _ (fun e=>?_) g3,g4⟩
    rw [e,ho] at g3
    simp only [Option.some.injEq,AObj.cells.injEq] at g3
    exact absurd g3.2.1 (by decide)
theorem l9Next_c (n:Nat)(v w:Value)(es:List (Int × Int))(p:List Int)(sl:Bool)(H:AH)(hr:RowP 47 H v es)(hlen:es.length<=1000000)(hx:Row 3 H w p)(hg:Grd (n:Int) es)(hp:Bd n p) :
    ACalls Tryz.prog 152 [.agg (List.toArray [.int .i64 (n:Int),v]),w,.bool sl] H fun r H'=>∃ L M,r=.tuple (List.toArray [L,M])/\InL H.length H'.length 27 3 H' L (nxt es sl p)/\MineP 47 H H' M (mvs es sl p)/\H<+:H':=by
  have hn8:=hp.1.1
  have hpl:=hp.2
  refine in152 rfl ?_
  intro Q hQ
  simp (maxSteps:=1000000) (disch:=omega) only [cd152,hr.boxG,SS,eq_self,reduceIte,reduceCtorEq,Nat.reduceEqDiff,Nat.reduceAdd]
  generalize hA:H ++ [AObj.cells [.int .i64 ↑n,v] 26 false]=A
  have pA:H<+:A:=by rw [<- hA];exact List.prefix_append _ _
  have cA:A[H.length]?=some (.cells [.int .i64 ↑n,v] 26 false):=by rw [<- hA];exact at_new ..
  have rA:=hr.pre pA
  try simp (maxSteps:=1000000) (disch:=omega) only [SS,eq_self,reduceIte,reduceCtorEq,Nat.reduceEqDiff,Nat.reduceAdd]
  generalize hB:A ++ [AObj.cells [] 27 false]=B
  have pB:A<+:B:=by rw [<- hB];exact List.prefix_append _ _
  have lA:A.length=H.length+1:=by rw [<- hA];simp
  have lB:B.length=A.length+1:=by rw [<- hB];simp
  have cB:B[A.length]?=some (.cells [] 27 false):=by rw [<- hB];exact at_new ..
  generalize hC:B ++ [AObj.cells [] 47 false]=C
  have pC:B<+:C:=by rw [<- hC];exact List.prefix_append _ _
  have lC:C.length=B.length+1:=by rw [<- hC];simp
  have pAC:=pB.trans pC
  have hin0:InU H.length C.length 27 3 C A.length [] [] :=
    ⟨by omega,by omega,pre_at pC cB,Nat.le_refl _,fun i hi=>absurd hi (by simp),fun i j _ hi _=>absurd hi (by simp)⟩
  have hm0:MineP 47 H C (.slice (some ⟨B.length,0,none⟩) 0 0) []:=by rw [<- hC];exact MineP.nil0 (P:=Tryz.prog) H B (by omega)
  refine LoopH.by (fun m s H'=>∃ i o us,m+i=es.length/\s 1=w/\s 2=.bool sl/\s 3=.pointer (some ⟨H.length,0,none⟩)/\s 8=.slice (some ⟨o,0,none⟩) (nxt (es.take i) sl p).length (nxt (es.take i) sl p).length/\s 10=.int .i64 ((i:Nat):Int)/\i<=es.length/\InU H.length H'.length 27 3 H' o us (nxt (es.take i) sl p)/\MineP 47 H H' (s 9) (mvs (es.take i) sl p)/\A<+:H') es.length ?_ ?_
  . exact ⟨0,A.length,[],by simp,rfl,rfl,rfl,rfl,rfl,by omega,by simpa [nxt,mvs] using hin0,hm0,pAC⟩
  rintro m s H' ⟨i,o,us,hm,h1,h2,h3,h8,h10,hie,hin,hmv,hpA⟩
  have hpp:=pA.trans hpA
  have hr':=hr.pre hpp
  have hx':=hx.pre hpp
  have cG:=pre_at hpA cA
  generalize hM:s 9=M at *
  simp (maxSteps:=1000000) (disch:=omega) only [h1,h2,h3,h8,h10,hM,cell_of cG,hr'.len Tryz.underlying24,SS,eq_self,reduceIte,reduceCtorEq,Nat.reduceEqDiff,Nat.reduceAdd]
  refine brD.intro (fun g=>?_) (fun g=>?_)
  rotate_left
  . simp (maxSteps:=1000000) (disch:=omega) only [h8,hM,SS,eq_self,reduceIte,reduceCtorEq,Nat.reduceEqDiff,Nat.reduceAdd]
    refine hQ _ _ _ ?_
    simp (maxSteps:=1000000) (disch:=omega) only [h8,hM,hmv.row.tup,SS,eq_self,reduceIte,reduceCtorEq,Nat.reduceEqDiff,Nat.reduceAdd]
    have:i=es.length:=by omega
    subst this
    rw [List.take_of_length_le (Nat.le_refl _)] at hin hmv ⊢
    exact ⟨_,_,rfl,hin.inl,hmv,hpp⟩
  have hi:i<es.length:=by omega
  have hem:es.getD i (0,0) ∈ es:=by simp [hi]
  obtain ⟨q1,q2,q3⟩:=grd_mem hg hem
  have hst:mvs (es.take (i+1)) sl p=mvs (es.take i) sl p ++ if (!sl || holeB p (es.getD i (0,0)))=true then [es.getD i (0,0)] else []:=by
    unfold mvs
    rw [List.take_add_one,List.getElem?_eq_getElem hi,List.filter_append]
    have:es.getD i (0,0)=es[i]:=by simp [hi]
    rw [this]
    simp only [Option.toList_some,List.filter_cons,List.filter_nil]
  have hst2:nxt (es.take (i+1)) sl p=nxt (es.take i) sl p ++ if (!sl || holeB p (es.getD i (0,0)))=true then [swp p (es.getD i (0,0)).1.toNat (es.getD i (0,0)).2.toNat] else []:=by
    unfold nxt
    rw [hst,List.map_append]
    split <;> rfl
  have hll:(nxt (es.take i) sl p).length<=1000000:=by
    rw [nxt_len]
    have:=mvs_len (es.take i) sl p
    simp at this;omega
  have hll2:(mvs (es.take i) sl p).length<=1000000:=by rw [<- nxt_len];exact hll
  have hc0:=hr'.cell0 hi
  have hc1:=hr'.cell1 hi
  have hld:=hr'.ld (P:=Tryz.prog) ag47 cs47 hi
  generalize he:es.getD i (0,0)=e at *
  obtain ⟨x,y⟩:=e
  obtain ⟨a,rfl⟩:∃ a:Nat,x=a:=⟨x.toNat,by simp only at q1;omega⟩
  obtain ⟨b,rfl⟩:∃ b:Nat,y=b:=⟨y.toNat,by simp only at q1 q2;omega⟩
  simp only [Int.toNat_natCast] at q1 q2 q3 hst2
  have la:a<p.length:=by omega
  have lb:b<p.length:=by omega
  have hh:holeB p ((a:Int),(b:Int))=(decide (p.getD a 0=0) || decide (p.getD b 0=0)):=by
    unfold holeB;simp only [Int.toNat_natCast]
  simp (maxSteps:=1000000) (disch:=omega) only [h1,h2,h3,h8,h10,hM,cell_of cG,hr'.ix Tryz.underlying24 cs47,Int.toNat_natCast,hc0,hc1,SS,eq_self,reduceIte,reduceCtorEq,Nat.reduceEqDiff,Nat.reduceAdd]
  have skip:(!sl || holeB p ((a:Int),(b:Int)))=false->mvs (es.take (i+1)) sl p=mvs (es.take i) sl p/\nxt (es.take (i+1)) sl p=nxt (es.take i) sl p:=fun q=>by
    rw [hst,hst2,q];simp
  have take:(!sl || holeB p ((a:Int),(b:Int)))=true->@CallH Tryz.prog 200 [w,.int .i64 (a:Int),.int .i64 (b:Int)] H' ⟨fun r H1=>∃ o' us' M',∃ H3 H4:AH,buildSliceA Tryz.prog 36 1 [(0,r)] H1=some (.slice (some ⟨H1.length,0,none⟩) 1 1,H1 ++ [.cells [r] 27 false]) /\
      appendA Tryz.prog 36 36 (.slice (some ⟨o,0,none⟩) (nxt (es.take i) sl p).length (nxt (es.take i) sl p).length) (.slice (some ⟨H1.length,0,none⟩) 1 1) (H1 ++ [.cells [r] 27 false])=some (.slice (some ⟨o',0,none⟩) (nxt (es.take (i+1)) sl p).length (nxt (es.take (i+1)) sl p).length,H3) /\
      cellA H3 H.length 1=some v/\RowP 47 H3 v es/\appendA Tryz.prog 24 24 M (.slice (some ⟨H3.length,0,none⟩) 1 1) (H3 ++ [.cells [.int .i64 (a:Int),.int .i64 (b:Int)] 47 false])=some (M',H4) /\
      InU H.length H4.length 27 3 H4 o' us' (nxt (es.take (i+1)) sl p)/\MineP 47 H H4 M' (mvs (es.take (i+1)) sl p)/\A<+:H4⟩:=by
    intro q
    refine CallH.by (l9Swap_c w p a b H' hx' (by omega) la lb) ?_
    rintro c D ⟨hc,pD⟩
    rw [hst2,hst,q,if_pos rfl,if_pos rfl]
    have hinw:=InI.of hc.mine
    have hl1:=hpp.length_le
    obtain ⟨H3,k1,k2,k3,k4⟩:=(hin.pre pD).app1 (P:=Tryz.prog) (t2:=36) Tryz.underlying36 cs27 (by rw [by27];decide) zk27 hinw (by omega) pD.length_le (Nat.le_refl _) (by omega)
    have ho:=hin.1
    have ho2:=hin.2.2.1
    have hoA:A.length<=o∨o=H.length:=by omega
    have hno:o ≠ H.length:=fun e=>by
      rw [e,cG] at ho2
      simp only [Option.some.injEq,AObj.cells.injEq] at ho2
      exact absurd ho2.2.1 (by decide)
    have pA3:A<+:H3:=prefix_of fun j x hx'=>k4 j x (by have:=at_lt hx';omega) (pre_at (hpA.trans pD) hx')
    have hm3:=(hmv.pre pD).keptU (pre_at pD ho2) k4
    obtain ⟨M',H4,j1,j2,j3,j4,j5,j6⟩:=own1_24 hm3 (pA.trans pA3) (by omega) (a:Int) (b:Int)
    have k2':InU H.length H3.length 27 3 H3 (D.length+1) (us.take (nxt (es.take i) sl p).length ++ [c]) (nxt (es.take i) sl p ++ [swp p a b]):=by rw [k3];exact k2
    have k5:=k2'.keptP hm3 j4
    have hl3:H3.length<=H4.length:=by
      rcases j2 with g | ⟨oo,zs,g1,g2,g3,g4⟩
      . have:=congrArg List.length g.2;simp at this
      . have:=at_lt g3
        rw [g1] at j5
        have j5':H3.length<=oo:=j5
        omega
    have pA4:A<+:H4:=prefix_of fun j x hx'=>by
      rcases hm3 with g | ⟨oo,zs,g1,g2,g3,g4⟩
      . exact j4 j x (.inl g.1) (pre_at pA3 hx')
      . refine j4 j x (.inr ?_) (pre_at pA3 hx')
        rw [g1]
        show j ≠ oo
        intro e
        have h5:=pre_at pA3 hx'
        rw [e] at hx'
        have:=at_lt hx'
        have h6:=pre_at pA3 hx'
        by_cases e2:oo=H.length
        . have:=pre_at pA3 cA
          rw [<- e2,g3] at this
          simp only [Option.some.injEq,AObj.cells.injEq] at this
          exact absurd this.2.1 (by decide)
        . omega
    refine ⟨D.length+1,us.take (nxt (es.take i) sl p).length ++ [c],M',H3,H4,bsRowQ hc.row D,?_,by rw [cell_of (pre_at pA3 cA)];rfl,hr.pre (pA.trans pA3),j1,k5.wide (Nat.le_refl _) hl3,j2,pA4⟩
    rw [List.length_append]
    exact k1
  have fin:∀ (s':Sl),s' 1=w->s' 2=.bool sl->s' 3=.pointer (some ⟨H.length,0,none⟩)->True:=fun _ _ _ _=>trivial
  cases hs:sl with
  | false =>
    rw [hs] at take hst hst2 hin hmv h8 skip h2
    simp (maxSteps:=1000000) (disch:=omega) only [h1,h2,h3,h8,h10,hM,SS,eq_self,reduceIte,reduceCtorEq,Nat.reduceEqDiff,Nat.reduceAdd]
    refine CallH.by (take rfl) ?_
    rintro r H1 ⟨o',us',M',H3,H4,t1,t2,t3,t4,t5,t6,t7,t8⟩
    have hld4:=t4.ld (P:=Tryz.prog) ag47 cs47 hi
    rw [he] at hld4
    simp (maxSteps:=1000000) (disch:=omega) only [h1,h2,h3,h8,h10,hM,t1,t2,t3,t4.ix Tryz.underlying24 cs47,Int.toNat_natCast,hld4,t5,wrap64,SS,eq_self,reduceIte,reduceCtorEq,Nat.reduceEqDiff,Nat.reduceAdd]
    refine ⟨m - 1,by omega,i+1,o',us',?_⟩
    (repeat' first | exact t6 | exact t7 | exact t8 | apply And.intro) <;> first | (simp only [Value.int.injEq,true_and];omega) | omega | rfl | assumption | (simp;done) | (simp;omega)
  | true =>
    rw [hs] at take hst hst2 hin hmv h8 skip h2
    simp only [Bool.not_true,Bool.false_or,hh] at take skip
    simp (maxSteps:=1000000) (disch:=omega) only [h1,h2,h3,h8,h10,hM,hx'.ix Tryz.underlying27 cs3,hx'.cell,Int.toNat_natCast,SS,eq_self,reduceIte,reduceCtorEq,Nat.reduceEqDiff,Nat.reduceAdd]
    refine brD.intro (fun e1=>?_) (fun e1=>?_)
    . rw [decide_eq_true e1] at take
      simp (maxSteps:=1000000) (disch:=omega) only [e1,h1,h2,h3,h8,h10,hM,SS,eq_self,reduceIte,reduceCtorEq,Nat.reduceEqDiff,Nat.reduceAdd]
      refine CallH.by (take rfl) ?_
      rintro r H1 ⟨o',us',M',H3,H4,t1,t2,t3,t4,t5,t6,t7,t8⟩
      have hld4:=t4.ld (P:=Tryz.prog) ag47 cs47 hi
      rw [he] at hld4
      simp (maxSteps:=1000000) (disch:=omega) only [h1,h2,h3,h8,h10,hM,t1,t2,t3,t4.ix Tryz.underlying24 cs47,Int.toNat_natCast,hld4,t5,wrap64,SS,eq_self,reduceIte,reduceCtorEq,Nat.reduceEqDiff,Nat.reduceAdd]
      refine ⟨m - 1,by omega,i+1,o',us',?_⟩
      (repeat' first | exact t6 | exact t7 | exact t8 | apply And.intro) <;> first | (simp only [Value.int.injEq,true_and];omega) | omega | rfl | assumption | (simp;done) | (simp;omega)
    . rw [decide_eq_false e1,Bool.false_or] at take skip
      simp (maxSteps:=1000000) (disch:=omega) only [e1,h1,h2,h3,h8,h10,hM,hx'.ix Tryz.underlying27 cs3,hx'.cell,Int.toNat_natCast,SS,eq_self,reduceIte,reduceCtorEq,Nat.reduceEqDiff,Nat.reduceAdd]
      refine brD.intro (fun e2=>?_) (fun e2=>?_)
      . simp (maxSteps:=1000000) (disch:=omega) only [e1,e2,h1,h2,h3,h8,h10,hM,SS,eq_self,reduceIte,reduceCtorEq,Nat.reduceEqDiff,Nat.reduceAdd]
        refine CallH.by (take (decide_eq_true e2)) ?_
        rintro r H1 ⟨o',us',M',H3,H4,t1,t2,t3,t4,t5,t6,t7,t8⟩
        have hld4:=t4.ld (P:=Tryz.prog) ag47 cs47 hi
        rw [he] at hld4
        simp (maxSteps:=1000000) (disch:=omega) only [h1,h2,h3,h8,h10,hM,t1,t2,t3,t4.ix Tryz.underlying24 cs47,Int.toNat_natCast,hld4,t5,wrap64,SS,eq_self,reduceIte,reduceCtorEq,Nat.reduceEqDiff,Nat.reduceAdd]
        refine ⟨m - 1,by omega,i+1,o',us',?_⟩
        (repeat' first | exact t6 | exact t7 | exact t8 | apply And.intro) <;> first | (simp only [Value.int.injEq,true_and];omega) | omega | rfl | assumption | (simp;done) | (simp;omega)
      . obtain ⟨s1,s2⟩:=skip (decide_eq_false e2)
        rw [<- s1] at hmv
        rw [<- s2] at hin h8
        simp (maxSteps:=1000000) (disch:=omega) only [e1,e2,h1,h2,h3,h8,h10,hM,wrap64,SS,eq_self,reduceIte,reduceCtorEq,Nat.reduceEqDiff,Nat.reduceAdd]
        refine ⟨m - 1,by omega,i+1,o,us,?_⟩
        (repeat' first | exact hin | exact hmv | exact hpA | apply And.intro) <;> first | (simp only [Value.int.injEq,true_and];omega) | omega | rfl | assumption | (simp;done) | (simp;omega)
def cd155:Cd:=(.seq (.reg [⟨⟨some 4,.assign (.const (.int .i64 0)),none⟩,[]⟩]) (.seq (.seq (.reg [⟨⟨some 5,.move (.tmp 0),none⟩,[]⟩,
  ⟨⟨some 6,.move (.tmp 1),none⟩,[]⟩,
  ⟨⟨some 7,.binOp .gtr 3 (.tmp 5) (.tmp 6) 3,none⟩,[]⟩]) (.cond (.tmp 7) (.seq (.reg [⟨⟨some 8,.move (.tmp 0),none⟩,[]⟩,
  ⟨⟨some 4,.assign (.tmp 8),none⟩,[]⟩]) .ret) .skip)) (.seq (.reg [⟨⟨some 9,.move (.tmp 1),none⟩,[]⟩,
  ⟨⟨some 4,.assign (.tmp 9),none⟩,[]⟩]) .ret)))
theorem in155:InT Tryz.prog 155 2 [.tmp 4] cd155:=InT.mk (by kernel_rfl) [] Tryz.func155 rfl (by kernel_rfl) (by kernel_rfl) (of_decide_eq_true (by kernel_rfl)) (by kernel_rfl)
def cd68:Cd:=(.seq (.reg [⟨⟨some 3,.box 26 (.tmp 0),none⟩,[]⟩,⟨⟨some 6,.assign (.const (.slice none 0 0)),none⟩,[]⟩]) (.seq (.reg [⟨⟨some 14,.move (.tmp 1),none⟩,[]⟩,⟨⟨some 15,.call ⟨(.builtin .len),#[.tmp 14],#[27]⟩,none⟩,[]⟩,⟨⟨some 16,.call ⟨(.value (.func 150)),#[.tmp 15],#[3]⟩,none⟩,[]⟩,⟨⟨some 17,.makeSlice 27 (.tmp 16) (.tmp 16),none⟩,[]⟩,⟨⟨some 7,.assign (.tmp 17),none⟩,[]⟩]) (.seq (.seq (.reg [⟨⟨some 8,.assign (.const (.int .i64 0)),none⟩,[]⟩]) (.block 0 (.loop (.seq (.seq (.reg [⟨⟨some 18,.move (.tmp 8),none⟩,[]⟩,⟨⟨some 19,.move (.tmp 7),none⟩,[]⟩,⟨⟨some 20,.call ⟨(.builtin .len),#[.tmp 19],#[27]⟩,none⟩,[]⟩,⟨⟨some 21,.binOp .lss 3 (.tmp 18) (.tmp 20) 3,none⟩,[]⟩]) (.cond (.tmp 21) .skip (.exit 0))) (.seq (.block 1 (.reg [⟨⟨some 24,.move (.tmp 7),none⟩,[]⟩,⟨⟨some 25,.move (.tmp 8),none⟩,[]⟩,⟨⟨some 26,.indexAddr 27 (.tmp 24) (.tmp 25),none⟩,[]⟩,⟨⟨none,.store 3 (.tmp 26) (.const (.int .i64 (-1))),none⟩,[]⟩])) (.reg [⟨⟨some 22,.move (.tmp 8),none⟩,[]⟩,
 ⟨⟨some 23,.binOp .add 3 (.tmp 22) (.const (.int .i64 1)) 3,none⟩,[]⟩,⟨⟨some 8,.assign (.tmp 23),none⟩,[]⟩])))))) (.seq (.reg [⟨⟨some 27,.move (.tmp 7),none⟩,[]⟩,⟨⟨some 28,.move (.tmp 1),none⟩,[]⟩,⟨⟨some 29,.call ⟨(.value (.func 70)),#[.tmp 28],#[27]⟩,none⟩,[]⟩,⟨⟨some 30,.indexAddr 27 (.tmp 27) (.tmp 29),none⟩,[]⟩,⟨⟨none,.store 3 (.tmp 30) (.const (.int .i64 0)),none⟩,[]⟩]) (.seq (.reg [⟨⟨some 31,.move (.tmp 1),none⟩,[]⟩,⟨⟨some 32,.call ⟨(.value (.func 151)),#[.tmp 31],#[27]⟩,none⟩,[]⟩,⟨⟨some 33,.buildSlice 36 1 #[(0,.tmp 32)],none⟩,[]⟩,⟨⟨some 9,.assign (.tmp 33),none⟩,[]⟩]) (.seq (.seq (.reg [⟨⟨some 10,.assign (.const (.int .i64 0)),none⟩,[]⟩]) (.block 2 (.loop (.seq (.seq (.reg [⟨⟨some 34,.move (.tmp 10),none⟩,[]⟩,⟨⟨some 35,.move (.tmp 9),none⟩,[]⟩,⟨⟨some 36,.call ⟨(.builtin .len),#[.tmp 35],#[36]⟩,none⟩,[]⟩,⟨⟨some 37,.binOp .lss 3 (.tmp 34) (.tmp 36) 3,none⟩,[]⟩]) (.cond (.tmp 37) .skip (.exit 2))) (.seq (.block 3 (.seq (.reg [⟨⟨some 41,.load 26 (.tmp 3),none⟩,[]⟩,
 ⟨⟨some 42,.move (.tmp 9),none⟩,[]⟩,⟨⟨some 43,.move (.tmp 10),none⟩,[]⟩,⟨⟨some 44,.indexAddr 36 (.tmp 42) (.tmp 43),none⟩,[]⟩,⟨⟨some 45,.load 27 (.tmp 44),none⟩,[]⟩,⟨⟨some 46,.move (.tmp 2),none⟩,[]⟩,⟨⟨some 47,.call ⟨(.value (.func 152)),#[.tmp 41,.tmp 45,.tmp 46],#[26,27,4]⟩,none⟩,[]⟩,⟨⟨some 40,.move (.tmp 47),none⟩,[]⟩,⟨⟨some 48,.extract (.tmp 40) 0,none⟩,[]⟩,⟨⟨some 49,.extract (.tmp 40) 1,none⟩,[]⟩,⟨⟨some 11,.assign (.tmp 48),none⟩,[]⟩,⟨⟨some 12,.assign (.tmp 49),none⟩,[]⟩]) (.seq (.reg [⟨⟨some 13,.assign (.const (.int .i64 0)),none⟩,[]⟩]) (.block 4 (.loop (.seq (.seq (.reg [⟨⟨some 50,.move (.tmp 13),none⟩,[]⟩,⟨⟨some 51,.move (.tmp 11),none⟩,[]⟩,
 ⟨⟨some 52,.call ⟨(.builtin .len),#[.tmp 51],#[36]⟩,none⟩,[]⟩,⟨⟨some 53,.binOp .lss 3 (.tmp 50) (.tmp 52) 3,none⟩,[]⟩]) (.cond (.tmp 53) .skip (.exit 4))) (.seq (.block 5 (.seq (.reg [⟨⟨some 56,.move (.tmp 7),none⟩,[]⟩,⟨⟨some 57,.move (.tmp 11),none⟩,[]⟩,⟨⟨some 58,.move (.tmp 13),none⟩,[]⟩,⟨⟨some 59,.indexAddr 36 (.tmp 57) (.tmp 58),none⟩,[]⟩,⟨⟨some 60,.load 27 (.tmp 59),none⟩,[]⟩,⟨⟨some 61,.call ⟨(.value (.func 70)),#[.tmp 60],#[27]⟩,none⟩,[]⟩,⟨⟨some 62,.indexAddr 27 (.tmp 56) (.tmp 61),none⟩,[]⟩,⟨⟨some 63,.load 3 (.tmp 62),none⟩,[]⟩,⟨⟨some 64,.binOp .lss 3 (.tmp 63) (.const (.int .i64 0)) 3,none⟩,[]⟩]) (.cond (.tmp 64) (.seq (.reg [⟨⟨some 65,.move (.tmp 7),none⟩,[]⟩,⟨⟨some 66,.move (.tmp 11),none⟩,[]⟩,⟨⟨some 67,.move (.tmp 13),none⟩,[]⟩,
 ⟨⟨some 68,.indexAddr 36 (.tmp 66) (.tmp 67),none⟩,[]⟩,⟨⟨some 69,.load 27 (.tmp 68),none⟩,[]⟩,⟨⟨some 71,.move (.tmp 7),none⟩,[]⟩,⟨⟨some 72,.move (.tmp 9),none⟩,[]⟩,⟨⟨some 73,.move (.tmp 10),none⟩,[]⟩,⟨⟨some 74,.indexAddr 36 (.tmp 72) (.tmp 73),none⟩,[]⟩,⟨⟨some 75,.load 27 (.tmp 74),none⟩,[]⟩,⟨⟨some 70,.call ⟨(.value (.func 70)),#[.tmp 69],#[27]⟩,none⟩,[⟨some 75,.load 27 (.tmp 74),none⟩]⟩,⟨⟨some 76,.call ⟨(.value (.func 70)),#[.tmp 75],#[27]⟩,none⟩,[]⟩,⟨⟨some 77,.indexAddr 27 (.tmp 71) (.tmp 76),none⟩,[]⟩,⟨⟨some 78,.load 3 (.tmp 77),none⟩,[]⟩,⟨⟨some 79,.binOp .add 3 (.tmp 78) (.const (.int .i64 1)) 3,none⟩,[]⟩,
 ⟨⟨some 80,.indexAddr 27 (.tmp 65) (.tmp 70),none⟩,[]⟩,⟨⟨none,.store 3 (.tmp 80) (.tmp 79),none⟩,[]⟩]) (.reg [⟨⟨some 81,.move (.tmp 9),none⟩,[]⟩,⟨⟨some 82,.move (.tmp 11),none⟩,[]⟩,⟨⟨some 83,.move (.tmp 13),none⟩,[]⟩,⟨⟨some 84,.indexAddr 36 (.tmp 82) (.tmp 83),none⟩,[]⟩,⟨⟨some 85,.load 27 (.tmp 84),none⟩,[]⟩,⟨⟨some 86,.buildSlice 36 1 #[(0,.tmp 85)],none⟩,[]⟩,⟨⟨some 87,.call ⟨(.builtin .append),#[.tmp 81,.tmp 86],#[36,36]⟩,none⟩,[]⟩,⟨⟨some 9,.assign (.tmp 87),none⟩,[]⟩])) .skip))) (.reg [⟨⟨some 54,.move (.tmp 13),none⟩,[]⟩,⟨⟨some 55,.binOp .add 3 (.tmp 54) (.const (.int .i64 1)) 3,none⟩,[]⟩,⟨⟨some 13,.assign (.tmp 55),none⟩,[]⟩])))))))) (.reg [⟨⟨some 38,.move (.tmp 10),none⟩,[]⟩,⟨⟨some 39,.binOp .add 3 (.tmp 38) (.const (.int .i64 1)) 3,none⟩,[]⟩,
 ⟨⟨some 10,.assign (.tmp 39),none⟩,[]⟩])))))) (.seq (.reg [⟨⟨some 88,.move (.tmp 7),none⟩,[]⟩,
  ⟨⟨some 6,.assign (.tmp 88),none⟩,[]⟩]) .ret)))))))
theorem in68:InT Tryz.prog 68 3 [.tmp 6] cd68:=InT.mk (by kernel_rfl) [(11,[(0,false),(1,false),(2,false),(3,false),(4,false),(5,false),(6,true),(7,false),(8,false),(9,false),(10,false),(11,false)]),(16,[(0,false),(1,false),(2,false),(3,false),(4,false),(6,false),(7,false),(8,false),(9,false),(10,false),(5,true),(11,true),(12,false),(13,false),(14,false),(15,false),(16,true)])] Tryz.func68 rfl (by kernel_rfl) (by kernel_rfl) (of_decide_eq_true (by kernel_rfl)) (by kernel_rfl)
def cd69:Cd:=(.seq (.reg [⟨⟨some 2,.assign (.const (.slice none 0 0)),none⟩,[]⟩]) (.seq (.reg [⟨⟨some 3,.move (.tmp 0),none⟩,[]⟩,
  ⟨⟨some 4,.move (.tmp 0),none⟩,[]⟩,
  ⟨⟨some 5,.binOp .shl 3 (.const (.int .i64 1)) (.tmp 4) 3,none⟩,[]⟩,
  ⟨⟨some 6,.binOp .sub 3 (.tmp 5) (.const (.int .i64 1)) 3,none⟩,[]⟩,
  ⟨⟨some 7,.call ⟨(.value (.func 153)),#[.tmp 3,.tmp 6],#[3,3]⟩,none⟩,[]⟩,
  ⟨⟨some 2,.assign (.tmp 7),none⟩,[]⟩]) .ret))
theorem in69:InT Tryz.prog 69 1 [.tmp 2] cd69:=InT.mk (by kernel_rfl) [] Tryz.func69 rfl (by kernel_rfl) (by kernel_rfl) (of_decide_eq_true (by kernel_rfl)) (by kernel_rfl)
def cd72:Cd:=(.seq (.reg [⟨⟨some 2,.assign (.const (.int .i64 0)),none⟩,[]⟩,
  ⟨⟨some 3,.assign (.const (.bool false)),none⟩,[]⟩]) (.seq (.reg [⟨⟨some 4,.move (.tmp 0),none⟩,[]⟩,
  ⟨⟨some 5,.call ⟨(.value (.func 155)),#[.tmp 4,(.const (.int .i64 0))],#[3,3]⟩,none⟩,[]⟩,
  ⟨⟨some 6,.move (.tmp 0),none⟩,[]⟩,
  ⟨⟨some 7,.binOp .geq 3 (.tmp 6) (.const (.int .i64 0)) 3,none⟩,[]⟩,
  ⟨⟨some 2,.assign (.tmp 5),none⟩,[]⟩,
  ⟨⟨some 3,.assign (.tmp 7),none⟩,[]⟩]) .ret))
theorem in72:InT Tryz.prog 72 1 [.tmp 2,.tmp 3] cd72:=InT.mk (by kernel_rfl) [] Tryz.func72 rfl (by kernel_rfl) (by kernel_rfl) (of_decide_eq_true (by kernel_rfl)) (by kernel_rfl)
end Go.Proofs.YtjnefjchconebaaGreat.Ai
namespace Go.Proofs.YtjnefjchconebaaGreat.Ai
open Go Go.RowKit
theorem l1MostK_c (a b:Int)(H:AH):ACalls Tryz.prog 155 [.int .i64 a,.int .i64 b] H fun r H'=>r=.int .i64 (if b<a then a else b)/\H=H':=by
  refine in155 rfl ?_
  intro Q hQ
  simp (disch:=omega) only [cd155,SS,eq_self,reduceIte,reduceCtorEq,Nat.reduceEqDiff,Nat.reduceAdd]
  refine brD.intro (fun e=>?_) (fun e=>?_) <;> simp (disch:=omega) only [SS,eq_self,reduceIte,reduceCtorEq,Nat.reduceEqDiff,Nat.reduceAdd]
  . refine hQ _ _ _ ?_
    simp (disch:=omega) only [if_pos e,SS,eq_self,reduceIte,reduceCtorEq,Nat.reduceEqDiff,Nat.reduceAdd]
  . refine hQ _ _ _ ?_
    simp (disch:=omega) only [if_neg e,SS,eq_self,reduceIte,reduceCtorEq,Nat.reduceEqDiff,Nat.reduceAdd]
theorem bds_len {n:Nat}(hn:n<=6){st:List (List Int × Int)}(hok:∀ e ∈ st,Bd n e.1)(hnd:(st.map (·.1)).Nodup):st.length<=720:=by
  have:=nodupI_le (mny n) ((st.map (·.1)).map cod) (by
    rw [List.Nodup,List.pairwise_map]
    refine List.Pairwise.imp_of_mem ?_ hnd
    intro x y hx hy hxy q
    obtain ⟨s1,hs1,rfl⟩:=List.mem_map.1 hx
    obtain ⟨s2,hs2,rfl⟩:=List.mem_map.1 hy
    have g1:=hok s1 hs1
    have g2:=hok s2 hs2
    exact hxy (cod_inj g1.1 g2.1 (by rw [g1.2];exact hn) (by rw [g1.2,g2.2]) q)) (fun y hy=>by
    obtain ⟨z,hz,rfl⟩:=List.mem_map.1 hy
    obtain ⟨s1,hs1,rfl⟩:=List.mem_map.1 hz
    have g1:=hok s1 hs1
    have:=cod_rng g1.1 (by rw [g1.2];exact hn)
    rw [g1.2] at this;exact this)
  have hm:=mny_le hn
  simp only [List.length_map] at this
  omega
def spL (N:Nat)(st:List (List Int × Int)):List Int:=(List.range N).map fun z:Nat=>match st.find? (fun e=>decide (cod e.1=(z:Int))) with | some e=>e.2 | none => -1
theorem spL_len (N:Nat)(st:List (List Int × Int)):(spL N st).length=N:=by simp [spL]
theorem spL_get (N:Nat)(st:List (List Int × Int))(z:Nat)(hz:z<N):(spL N st).getD z 0=match st.find? (fun e=>decide (cod e.1=(z:Int))) with | some e=>e.2 | none => -1:=by
  unfold spL
  rw [List.getD_eq_getElem?_getD,List.getElem?_map,List.getElem?_range hz];rfl
theorem spL_nil (N:Nat):spL N []=List.replicate N (-1):=by
  apply List.ext_getElem
  . simp [spL]
  . intro i h1 h2
    simp [spL]
theorem find_bd {n:Nat}(hn:n<=6){b:List Int}(hb:Bd n b):∀ (st:List (List Int × Int)),(∀ e ∈ st,Bd n e.1)->(match st.find? (fun e=>decide (cod e.1=cod b)) with | some e=>e.2 | none => -1)=(bdD st b).getD (-1)
  | [],_=>rfl
  | e :: st,h=>by
    have ih:=find_bd hn hb st (fun x hx=>h x (by simp [hx]))
    have he:=h e (by simp)
    unfold bdD at *
    rw [List.find?_cons,List.find?_cons]
    by_cases g:e.1=b
    . rw [decide_eq_true (show cod e.1=cod b by rw [g]),decide_eq_true g];rfl
    . rw [decide_eq_false (fun q=>g (cod_inj he.1 hb.1 (by rw [he.2];exact hn) (by rw [he.2,hb.2]) q)),decide_eq_false g]
      exact ih
theorem cod_nat {n:Nat}(hn:n<=6){b:List Int}(hb:Bd n b):∃ z:Nat,cod b=(z:Int)/\z<mny n:=by
  have h:=cod_rng hb.1 (by rw [hb.2];exact hn)
  rw [hb.2] at h
  exact ⟨(cod b).toNat,by omega,by omega⟩
theorem spL_at {n:Nat}(hn:n<=6){b:List Int}(hb:Bd n b){st:List (List Int × Int)}(h:∀ e ∈ st,Bd n e.1):(spL (mny n) st).getD (cod b).toNat 0=(bdD st b).getD (-1):=by
  obtain ⟨z,hz,hlt⟩:=cod_nat hn hb
  rw [hz,Int.toNat_natCast,spL_get _ _ z hlt,<- hz]
  exact find_bd hn hb st h
theorem spL_snoc {n:Nat}(hn:n<=6){b:List Int}(hb:Bd n b){st:List (List Int × Int)}(h:∀ e ∈ st,Bd n e.1)(hnew:b ∉ st.map (·.1))(d:Int):(spL (mny n) st).set (cod b).toNat d=spL (mny n) (st ++ [(b,d)]):=by
  obtain ⟨z,hz,hlt⟩:=cod_nat hn hb
  rw [hz,Int.toNat_natCast]
  apply List.ext_getElem?
  intro i
  rw [List.getElem?_set]
  by_cases hi:i<mny n
  . have e1:=spL_get (mny n) st i hi
    have e2:=spL_get (mny n) (st ++ [(b,d)]) i hi
    have l1:i<(spL (mny n) st).length:=by rw [spL_len];exact hi
    have l2:i<(spL (mny n) (st ++ [(b,d)])).length:=by rw [spL_len];exact hi
    rw [List.getD_eq_getElem?_getD,List.getElem?_eq_getElem l2] at e2
    rw [List.getD_eq_getElem?_getD,List.getElem?_eq_getElem l1] at e1
    simp only [Option.getD_some] at e1 e2
    rw [List.getElem?_eq_getElem l2,e2]
    by_cases hzi:z=i
    . subst hzi
      rw [if_pos rfl,if_pos l1]
      have hno:st.find? (fun e=>decide (cod e.1=(z:Int)))=none:=by
        rw [List.find?_eq_none]
        intro e he
        simp only [decide_eq_true_eq]
        intro q
        have h1:=h e he
        have:=cod_inj h1.1 hb.1 (by rw [h1.2];exact hn) (by rw [h1.2,hb.2]) (q.trans hz.symm)
        exact hnew (List.mem_map.2 ⟨e,he,this⟩)
      rw [List.find?_append,hno]
      simp [List.find?_cons,hz]
    . rw [if_neg hzi,List.getElem?_eq_getElem l1,e1,List.find?_append]
      have hno:[(b,d)].find? (fun e=>decide (cod e.1=(i:Int)))=none:=by
        rw [List.find?_eq_none]
        intro e he
        simp only [List.mem_cons,List.not_mem_nil,or_false] at he
        subst he
        simp only [decide_eq_true_eq]
        omega
      rw [hno,Option.or_none]
  . rw [List.getElem?_eq_none (by rw [spL_len];omega),List.getElem?_eq_none (by rw [spL_len];omega)]
    split
    . rw [if_neg (by rw [spL_len];omega)]
    . rfl
def QA (H:AH)(so oq nq:Nat)(bs:List (List Int)):Prop :=
  ∃ zs,H[oq]?=some (.cells zs 27 false)/\nq<=zs.length/\nq=bs.length/\∀ j,j<nq->Row 3 H (zs.getD j undef) (bs.getD j [])/\(zs.getD j undef=.slice none 0 0∨rowO (zs.getD j undef) ≠ so)
theorem QA.pre {H H':AH}{so oq nq:Nat}{bs:List (List Int)}(h:QA H so oq nq bs)(hp:H<+:H'):QA H' so oq nq bs:=by
  obtain ⟨zs,h1,h2,h3,h4⟩:=h
  exact ⟨zs,pre_at hp h1,h2,h3,fun j hj=>⟨(h4 j hj).1.pre hp,(h4 j hj).2⟩⟩
theorem QA.set {H H':AH}{so oq nq:Nat}{bs:List (List Int)}(h:QA H so oq nq bs)(hq:oq ≠ so)(hk:∀ (j:Nat) (y:AObj),j ≠ so->H[j]?=some y->H'[j]?=some y):QA H' so oq nq bs:=by
  obtain ⟨zs,h1,h2,h3,h4⟩:=h
  refine ⟨zs,hk _ _ hq h1,h2,h3,fun j hj=>?_⟩
  obtain ⟨g1,g2⟩:=h4 j hj
  refine ⟨?_,g2⟩
  rcases g2 with g | g
  . exact .inl ⟨g,g1.nilv g⟩
  . exact g1.mono fun y hy=>hk _ _ g hy
theorem QA.at_ {H:AH}{so oq nq:Nat}{bs:List (List Int)}(h:QA H so oq nq bs){j:Nat}(hj:j<nq):∃ u,cellA H oq j=some u/\Row 3 H u (bs.getD j []):=by
  obtain ⟨zs,h1,h2,h3,h4⟩:=h
  refine ⟨zs.getD j undef,?_,(h4 j hj).1⟩
  rw [cell_of h1]
  have:j<zs.length:=by omega
  simp [this]
theorem QA.push {H:AH}{so oq nq:Nat}{bs:List (List Int)}(h:QA H so oq nq bs){x:Value}{b:List Int}(hx:Row 3 H x b)(hxs:x=.slice none 0 0∨rowO x ≠ so)(hb:nq<=1099511627775) :
    ∃ H2,appendA Tryz.prog 36 36 (.slice (some ⟨oq,0,none⟩) nq nq) (.slice (some ⟨H.length,0,none⟩) 1 1) (H ++ [.cells [x] 27 false])=some (.slice (some ⟨H.length+1,0,none⟩) (nq+1) (nq+1),H2) /\
      QA H2 so (H.length+1) (nq+1) (bs ++ [b])/\H2.length=H.length+2/\(∀ (j:Nat) (y:AObj),j ≠ oq->H[j]?=some y->H2[j]?=some y):=by
  obtain ⟨zs,h1,h2,h3,h4⟩:=h
  have k1:=app_qV (P:=Tryz.prog) (t:=36) (k:=0) (n:=nq) (c:=nq) (x:=x) Tryz.underlying36 cs27 (by rw [by27];decide) zk27 h1 (by omega) hb
  have keep:∀ (j:Nat) (y:AObj),j ≠ oq->H[j]?=some y->(H.set oq .dead ++ [AObj.cells [x] 27 false,.cells ((zs.drop 0).take nq ++ [x]) 27 false])[j]?=some y:=fun j y hj hy=>at_old hy (fun e=>hj e.symm) _
  refine ⟨_,k1,⟨(zs.drop 0).take nq ++ [x],at_new1 ..,by simp;omega,by simp;omega,fun j hj=>?_⟩,by simp,keep⟩
  rw [List.drop_zero]
  have hl:(zs.take nq).length=nq:=by simp;omega
  rw [List.getD_eq_getElem?_getD,List.getElem?_append,hl]
  by_cases hj2:j<nq
  . obtain ⟨g1,g2⟩:=h4 j hj2
    rw [if_pos hj2,List.getElem?_take,if_pos hj2,<- List.getD_eq_getElem?_getD]
    have e:(bs ++ [b]).getD j []=bs.getD j []:=by
      rw [List.getD_eq_getElem?_getD,List.getElem?_append_left (by omega),<- List.getD_eq_getElem?_getD]
    rw [e]
    exact ⟨g1.but h1 (noInt_ll _ _) (by simpa using keep),g2⟩
  . have e:(bs ++ [b]).getD j []=b:=by
      rw [List.getD_eq_getElem?_getD,List.getElem?_append_right (by omega),show j - bs.length=0 by omega];rfl
    rw [if_neg hj2,e,show j - nq=0 by omega]
    exact ⟨hx.but h1 (noInt_ll _ _) (by simpa using keep),hxs⟩
theorem l9Spread_c (n:Nat)(v w:Value)(es:List (Int × Int))(p:List Int)(sl:Bool)(H:AH)(hr:RowP 47 H v es)(hlen:es.length<=1000000)(hx:Row 3 H w p)(hg:Grd (n:Int) es)(hp:Bd n p)(hn:n<=6) :
    ACalls Tryz.prog 68 [.agg (List.toArray [.int .i64 (n:Int),v]),w,.bool sl] H fun r H'=>Own 3 H H' r (spL (mny n) (bdR es sl p))/\H<+:H':=by
  have hpl:=hp.2
  have hmn:=mny_le hn
  refine in68 rfl ?_
  intro Q hQ
  simp (disch:=omega) only [cd68,hr.boxG,SS,eq_self,reduceIte,reduceCtorEq,Nat.reduceEqDiff,Nat.reduceAdd]
  generalize hA:H ++ [AObj.cells [.int .i64 ↑n,v] 26 false]=A
  have pA:H<+:A:=by rw [<- hA];exact List.prefix_append _ _
  have cA:A[H.length]?=some (.cells [.int .i64 ↑n,v] 26 false):=by rw [<- hA];exact at_new ..
  have rA:=hr.pre pA
  have lA:A.length=H.length+1:=by rw [<- hA];simp
  have hxA:=hx.pre pA
  have hlw:=hxA.len (P:=Tryz.prog) Tryz.underlying27
  rw [hpl] at hlw
  simp (disch:=omega) only [hlw,SS,eq_self,reduceIte,reduceCtorEq,Nat.reduceEqDiff,Nat.reduceAdd]
  refine CallH.by (l9Many_c n A (by omega)) ?_
  rintro _ _ ⟨rfl,rfl⟩
  obtain ⟨N,hN⟩:∃ N,N=mny n:=⟨_,rfl⟩
  rw [<- hN] at hmn ⊢
  have mk:=mks27 (n:=(N:Int)) (by omega) (by omega) A
  rw [Int.toNat_natCast] at mk
  simp (disch:=omega) only [mk,SS,eq_self,reduceIte,reduceCtorEq,Nat.reduceEqDiff,Nat.reduceAdd]
  generalize hZ:A ++ [AObj.cells (ints (List.replicate N 0)) 3 false]=Z
  have pZ:A<+:Z:=by rw [<- hZ];exact List.prefix_append _ _
  have cZ:Z[A.length]?=some (.cells (ints (List.replicate N 0)) 3 false):=by rw [<- hZ];exact at_new ..
  have lZ:Z.length=A.length+1:=by rw [<- hZ];simp
  refine LoopH.by (fun m s H'=>∃ j,m+j=N/\s 1=w/\s 2=.bool sl/\s 3=.pointer (some ⟨H.length,0,none⟩)/\s 7=.slice (some ⟨A.length,0,none⟩) N N/\s 8=.int .i64 ((j:Nat):Int)/\H'=Z.set A.length (.cells (ints (rpN N j)) 3 false)) N ?_ ?_
  . refine ⟨0,by omega,rfl,rfl,rfl,rfl,rfl,?_⟩
    have:rpN N 0=List.replicate N 0:=by simp [rpN]
    rw [this]
    apply List.ext_getElem?
    intro j
    rw [List.getElem?_set]
    by_cases hj:A.length=j
    . subst hj;rw [if_pos rfl,if_pos (at_lt cZ),cZ]
    . rw [if_neg hj]
  rintro m s H' ⟨j,hm,h1,h2,h3,h7,h8,rfl⟩
  have cJ:(Z.set A.length (.cells (ints (rpN N j)) 3 false))[A.length]?=some (.cells (ints (rpN N j)) 3 false):=at_set cZ
  simp (disch:=omega) only [h1,h2,h3,h7,h8,SS,eq_self,reduceIte,reduceCtorEq,Nat.reduceEqDiff,Nat.reduceAdd]
  refine brD.intro (fun g=>?_) (fun g=>?_)
  . have hj:j<(rpN N j).length:=by rw [rpN_len _ _ (by omega)];omega
    simp (disch:=omega) only [h1,h2,h3,h7,h8,Int.toNat_natCast,Nat.zero_add,st_ints cs3 cJ hj,wrap64,SS,eq_self,reduceIte,reduceCtorEq,Nat.reduceEqDiff,Nat.reduceAdd]
    rw [List.set_set,rpN_set _ _ (by omega)]
    refine ⟨m - 1,by omega,j+1,?_⟩
    (repeat' apply And.intro) <;> first | (simp only [Value.int.injEq,true_and];omega) | omega | rfl | assumption | (simp;done) | (simp;omega)
  have hjN:j=N:=by omega
  subst hjN
  have e3:rpN j j=List.replicate j (-1):=by simp [rpN]
  rw [e3] at cJ
  rw [e3]
  have lJ:(Z.set A.length (.cells (ints (List.replicate j (-1))) 3 false)).length=Z.length:=by simp
  have pJ:A<+:Z.set A.length (.cells (ints (List.replicate j (-1))) 3 false):=pre_set pZ (Nat.le_refl _) _
  generalize hJ:Z.set A.length (.cells (ints (List.replicate j (-1))) 3 false)=J at *
  have hok0:∀ e ∈ [(p,(0:Int))],Bd n e.1:=fun e he=>by
    simp only [List.mem_cons,List.not_mem_nil,or_false] at he
    subst he;exact hp
  have h0:=spL_snoc hn hp (st:=[]) (fun e he=>by simp at he) (by simp) 0
  rw [List.nil_append,spL_nil,<- hN] at h0
  obtain ⟨z,hz,hzl⟩:=cod_nat hn hp
  rw [hz,Int.toNat_natCast] at h0
  have hsto:=st_ints (P:=Tryz.prog) (t:=3) (x:=0) cs3 cJ (show z<(List.replicate j (-1:Int)).length by simp;omega)
  rw [h0] at hsto
  simp (disch:=omega) only [h1,h2,h3,h7,h8,SS,eq_self,reduceIte,reduceCtorEq,Nat.reduceEqDiff,Nat.reduceAdd]
  refine CallH.by (l9Code_c w p J (hxA.pre pJ) (by omega)) ?_
  rintro _ _ ⟨rfl,rfl⟩
  rw [hz]
  simp (disch:=omega) only [h1,h2,h3,h7,h8,Int.toNat_natCast,Nat.zero_add,hsto,SS,eq_self,reduceIte,reduceCtorEq,Nat.reduceEqDiff,Nat.reduceAdd]
  generalize hB:J.set A.length (.cells (ints (spL j [(p,0)])) 3 false)=B
  have lB:B.length=Z.length:=by rw [<- hB,List.length_set];exact lJ
  have cB:B[A.length]?=some (.cells (ints (spL j [(p,0)])) 3 false):=by rw [<- hB];exact at_set cJ
  have pB:A<+:B:=by rw [<- hB];exact pre_set pJ (Nat.le_refl _) _
  refine CallH.by (l1Own_c w p B (hxA.pre pB) (by omega)) ?_
  rintro c C ⟨hc,pC⟩
  have lC:=pC.length_le
  simp (disch:=omega) only [h1,h2,h3,h7,h8,bsRowQ hc.row,SS,eq_self,reduceIte,reduceCtorEq,Nat.reduceEqDiff,Nat.reduceAdd]
  generalize hD:C ++ [AObj.cells [c] 27 false]=D
  have pD:C<+:D:=by rw [<- hD];exact List.prefix_append _ _
  have cD:D[C.length]?=some (.cells [c] 27 false):=by rw [<- hD];exact at_new ..
  have lD:D.length=C.length+1:=by rw [<- hD];simp
  have hcs:c=.slice none 0 0∨rowO c ≠ A.length:=by
    rcases hc with q | ⟨oo,q1,q2,_⟩
    . exact .inl q.1
    . refine .inr ?_
      rw [q1]
      show oo ≠ A.length
      omega
  have q0:QA D A.length C.length 1 [p]:=⟨[c],cD,by simp,rfl,fun i hi=>by
    obtain rfl:i=0:=by omega
    exact ⟨hc.row.pre pD,hcs⟩⟩
  refine LoopH.by (fun m s H'=>∃ (st:List (List Int × Int)) (k oq:Nat),m+k=721/\s 2=.bool sl/\s 3=.pointer (some ⟨H.length,0,none⟩)/\s 7=.slice (some ⟨A.length,0,none⟩) j j/\s 9=.slice (some ⟨oq,0,none⟩) st.length st.length/\s 10=.int .i64 ((k:Nat):Int)/\BdI n (nxt es sl) p st k/\bdF (nxt es sl) m st k=bdR es sl p /\
    H'[A.length]?=some (.cells (ints (spL j st)) 3 false)/\QA H' A.length oq st.length (st.map (·.1))/\A.length<oq/\A<+:H') 721 ?_ ?_
  . refine ⟨[(p,0)],0,C.length,rfl,?_⟩
    have f1:=BdI.zero (nx:=nxt es sl) hp
    have f2:bdF (nxt es sl) 721 [(p,0)] 0=bdR es sl p:=rfl
    have f3:=pre_at (pC.trans pD) cB
    have f4:A.length<C.length:=by omega
    have f5:A<+:D:=pB.trans (pC.trans pD)
    simp (disch:=omega) only [h2,h3,h7,SS,eq_self,reduceIte,reduceCtorEq,Nat.reduceEqDiff,Nat.reduceAdd]
    (repeat' first | exact f1 | exact f2 | exact f3 | exact q0 | exact f4 | exact f5 | apply And.intro) <;> first | (simp only [Value.int.injEq,true_and];omega) | omega | rfl | assumption | (simp;done) | (simp;omega)
  clear h1 h2 h3 h7 h8 hsto h0
  rintro m s H' ⟨st,k,oq,hm,h2,h3,h7,h9,h10,hI,hF,hS,hQ',hoq,hpA⟩
  have hle:=hI.len_le hn
  have hrH:=hr.pre (pA.trans hpA)
  have cG:=pre_at hpA cA
  simp (disch:=omega) only [h2,h3,h7,h9,h10,SS,eq_self,reduceIte,reduceCtorEq,Nat.reduceEqDiff,Nat.reduceAdd]
  refine brD.intro (fun g=>?_) (fun g=>?_)
  rotate_left
  . simp (disch:=omega) only [h7,SS,eq_self,reduceIte,reduceCtorEq,Nat.reduceEqDiff,Nat.reduceAdd]
    refine hQ _ _ _ ?_
    simp (disch:=omega) only [h7,SS,eq_self,reduceIte,reduceCtorEq,Nat.reduceEqDiff,Nat.reduceAdd]
    rw [bdF_done (nxt es sl) m st k (by omega)] at hF
    rw [<- hF,<- hN]
    exact ⟨.inr ⟨A.length,by rw [spL_len],by omega,hS⟩,pA.trans hpA⟩
  have hk:k<st.length:=by omega
  obtain ⟨f,rfl⟩:∃ f,m=f+1:=⟨m - 1,by omega⟩
  rw [bdF_step (nxt es sl) f st k hk] at hF
  have hum:st.getD k ([],0) ∈ st:=by simp [hk]
  have hnx:=fun b (hb:Bd n b)=>nxt_bd hg sl hb
  have hstep:=hI.step hnx hk
  have hur:=hI.rng _ hum
  have hbd:=hI.ok _ hum
  obtain ⟨u,hcu,hru⟩:=hQ'.at_ hk
  have hmk:(st.map (·.1)).getD k []=(st.getD k ([],0)).1:=by
    rw [List.getD_eq_getElem?_getD,List.getElem?_map,List.getElem?_eq_getElem hk]
    simp [hk]
  rw [hmk] at hru
  generalize hu:st.getD k ([],0)=e0 at *
  obtain ⟨b,d0⟩:=e0
  have hst0:st[k]?=some (b,d0):=by
    rw [List.getElem?_eq_getElem hk]
    have:st.getD k ([],0)=st[k]:=by simp [hk]
    rw [<- this,hu]
  simp (disch:=omega) only [h2,h3,h7,h9,h10,ld_agg ag26 cs26 cG,Int.toNat_natCast,Nat.zero_add,hcu,SS,eq_self,reduceIte,reduceCtorEq,Nat.reduceEqDiff,Nat.reduceAdd]
  refine CallH.by (l9Next_c n v u es b sl H' hrH hlen hru hg hbd) ?_
  rintro _ G ⟨r,M,rfl,hL,hM,pG⟩
  have hGl:=pG.length_le
  simp (disch:=omega) only [h2,h3,h7,h9,h10,SS,eq_self,reduceIte,reduceCtorEq,Nat.reduceEqDiff,Nat.reduceAdd]
  have hnb:=nxt_le hg hlen sl b
  generalize hNx:nxt es sl b=N2 at *
  have hNb:∀ c ∈ N2,Bd n c:=fun c hc=>hnx b hbd c (by rw [hNx];exact hc)
  have hAl:A.length<H'.length:=at_lt hS
  have hoql:oq<H'.length:=by obtain ⟨zs,g1,_⟩:=hQ';exact at_lt g1
  refine LoopH.by (fun m' s' H2=>∃ (i:Nat) (st':List (List Int × Int)) (oq':Nat),m'+i=N2.length/\s' 2=.bool sl/\s' 3=.pointer (some ⟨H.length,0,none⟩)/\s' 7=.slice (some ⟨A.length,0,none⟩) j j/\s' 9=.slice (some ⟨oq',0,none⟩) st'.length st'.length/\s' 10=.int .i64 ((k:Nat):Int)/\s' 11=r/\s' 13=.int .i64 ((i:Nat):Int) /\
    bdIn (d0+1) (N2.drop i) st'=bdIn (d0+1) N2 st/\st<+:st'/\(∀ e ∈ st',Bd n e.1)/\(∀ e ∈ st',0<=e.2)/\(st'.map (·.1)).Nodup/\st'.length<=720 /\
    H2[A.length]?=some (.cells (ints (spL j st')) 3 false)/\QA H2 A.length oq' st'.length (st'.map (·.1))/\(oq'=oq∨G.length<=oq')/\InL H'.length G.length 27 3 H2 r N2/\G.length<=H2.length/\A<+:H2) N2.length ?_ ?_
  . refine ⟨0,st,oq,by simp,?_⟩
    simp (disch:=omega) only [h2,h3,h7,h9,h10,SS,eq_self,reduceIte,reduceCtorEq,Nat.reduceEqDiff,Nat.reduceAdd]
    have f1:=hQ'.pre pG
    have f2:=pre_at pG hS
    have f4:=hpA.trans pG
    have f5:=hI.ok
    have f6:=hI.nd
    have f9:∀ e ∈ st,0<=e.2:=fun e he=>(hI.rng e he).1
    have f7:bdIn (d0+1) (N2.drop 0) st=bdIn (d0+1) N2 st:=rfl
    have f8:st<+:st:=List.prefix_refl _
    (repeat' first | exact f1 | exact f2 | exact f4 | exact f5 | exact f6 | exact f7 | exact f8 | exact f9 | exact hL | apply And.intro) <;> first | (simp only [Value.int.injEq,true_and];omega) | omega | rfl | assumption | (simp;done) | (simp;omega)
  rintro m' s' H2 ⟨i,st',oq',hm',k2,k3,k7,k9,k10,k11,k13,hIn,hsp,hok,hnn,hnd,hsl',hS2,hQ2,hoq2,hL2,hGl2,hpA2⟩
  obtain ⟨us2,hus2,hul2,heach⟩:=hL2.parts
  simp (disch:=omega) only [k2,k3,k7,k9,k10,k11,k13,hus2.len Tryz.underlying36,hul2,SS,eq_self,reduceIte,reduceCtorEq,Nat.reduceEqDiff,Nat.reduceAdd]
  refine brD.intro (fun q=>?_) (fun q=>?_)
  rotate_left
  . have hj:N2.length<=i:=by omega
    rw [List.drop_of_length_le hj] at hIn
    have hIn':st'=bdIn (d0+1) N2 st:=hIn
    rw [<- hIn'] at hF hstep
    have f1:A.length<oq':=by omega
    simp (disch:=omega) only [k2,k3,k7,k9,k10,wrap64,SS,eq_self,reduceIte,reduceCtorEq,Nat.reduceEqDiff,Nat.reduceAdd]
    refine ⟨f,by omega,st',k+1,oq',?_⟩
    (repeat' first | exact hF | exact hstep | exact hS2 | exact hQ2 | exact hpA2 | exact f1 | apply And.intro) <;> first | (simp only [Value.int.injEq,true_and];omega) | omega | rfl | assumption | (simp;done) | (simp;omega)
  have hi:i<N2.length:=by omega
  have hrowI:=heach i hi
  have hrow:=hrowI.row.1
  have hcell:=hus2.cell (show i<us2.length by omega)
  have hcm:N2.getD i [] ∈ N2:=by simp [hi]
  have hcb:=hNb _ hcm
  rw [bdIn_drop (d0+1) N2 i hi] at hIn
  generalize hc:N2.getD i []=c2 at *
  generalize hx2:us2.getD i undef=x at *
  have hcbl:=hcb.2
  obtain ⟨zc,hzc,hzcl⟩:=cod_nat hn hcb
  have hat:=spL_at hn hcb hok
  rw [hzc,Int.toNat_natCast,<- hN] at hat
  have hlsp:=spL_len j st'
  have hcz:cellA H2 A.length zc=some (.int .i64 ((bdD st' c2).getD (-1))):=by
    rw [cell_of hS2,ints_at _ (by rw [hlsp];omega),hat]
  simp (disch:=omega) only [k2,k3,k7,k9,k10,k11,k13,hus2.ix Tryz.underlying36 cs27,hcell,Int.toNat_natCast,SS,eq_self,reduceIte,reduceCtorEq,Nat.reduceEqDiff,Nat.reduceAdd]
  refine CallH.by (l9Code_c x c2 H2 hrow (by omega)) ?_
  rintro _ _ ⟨rfl,rfl⟩
  rw [hzc]
  simp (disch:=omega) only [k2,k3,k7,k9,k10,k11,k13,Int.toNat_natCast,Nat.zero_add,hcz,SS,eq_self,reduceIte,reduceCtorEq,Nat.reduceEqDiff,Nat.reduceAdd]
  have hsome:((bdD st' c2).getD (-1)<0)↔c2 ∉ st'.map (·.1):=by
    constructor
    . intro h hm2
      obtain ⟨e,he1,he2⟩:=List.mem_map.1 hm2
      have h5:=bdD_some hnd he1
      rw [he2] at h5
      rw [h5] at h
      simp only [Option.getD_some] at h
      have:=hnn e he1
      omega
    . intro h
      rw [bdD_none h];decide
  refine brD.intro (fun e=>?_) (fun e=>?_)
  rotate_left
  . rw [hsome] at e
    rw [if_pos (Decidable.not_not.1 e)] at hIn
    simp (disch:=omega) only [k2,k3,k7,k9,k10,k11,k13,wrap64,SS,eq_self,reduceIte,reduceCtorEq,Nat.reduceEqDiff,Nat.reduceAdd]
    refine ⟨m' - 1,by omega,i+1,st',oq',?_⟩
    (repeat' first | exact hIn | exact hsp | exact hok | exact hnn | exact hnd | exact hS2 | exact hQ2 | exact hoq2 | exact hL2 | exact hpA2 | apply And.intro) <;> first | (simp only [Value.int.injEq,true_and];omega) | omega | rfl | assumption | (simp;done) | (simp;omega)
  have e':=hsome.1 e
  rw [if_neg e'] at hIn
  have hbm:(b,d0) ∈ st':=hsp.subset hum
  have hdb:bdD st' b=some d0:=bdD_some hnd hbm
  have hbl:b.length=n:=hbd.2
  have hkl:k<st'.length:=by have:=hsp.length_le;omega
  obtain ⟨u2,hcu2,hru2⟩:=hQ2.at_ hkl
  have hstk:(st'.map (·.1)).getD k []=b:=by
    obtain ⟨t,ht⟩:=hsp
    rw [<- ht,List.map_append,List.getD_eq_getElem?_getD,List.getElem?_append_left (by simpa using hk),List.getElem?_map,hst0];rfl
  rw [hstk] at hru2
  obtain ⟨zb,hzb,hzbl⟩:=cod_nat hn hbd
  have hatb:=spL_at hn hbd hok
  rw [hzb,Int.toNat_natCast,<- hN,hdb] at hatb
  have hcb2:cellA H2 A.length zb=some (.int .i64 d0):=by
    rw [cell_of hS2,ints_at _ (by rw [hlsp];omega),hatb];rfl
  have hst2:=st_ints (P:=Tryz.prog) (t:=3) (x:=d0+1) cs3 hS2 (show zc<(spL j st').length by rw [hlsp];omega)
  have hsn:=spL_snoc hn hcb hok e' (d0+1)
  rw [hzc,Int.toNat_natCast,<- hN] at hsn
  rw [hsn] at hst2
  have hbnd:d0<720:=by have:d0<(st.length:Int):=hur.2;omega
  have hbn0:0<=d0:=hur.1
  simp (disch:=omega) only [e,k2,k3,k7,k9,k10,k11,k13,hus2.ix Tryz.underlying36 cs27,hcell,Int.toNat_natCast,Nat.zero_add,hcu2,SS,eq_self,reduceIte,reduceCtorEq,Nat.reduceEqDiff,Nat.reduceAdd]
  refine CallH.by (l9Code_c x c2 H2 hrow (by omega)) ?_
  rintro _ _ ⟨rfl,rfl⟩
  simp (disch:=omega) only [e,k2,k3,k7,k9,k10,k11,k13,Nat.zero_add,hcu2,SS,eq_self,reduceIte,reduceCtorEq,Nat.reduceEqDiff,Nat.reduceAdd]
  refine CallH.by (l9Code_c u2 b H2 hru2 (by omega)) ?_
  rintro _ _ ⟨rfl,rfl⟩
  rw [hzb,hzc]
  simp (disch:=omega) only [e,k2,k3,k7,k9,k10,k11,k13,Int.toNat_natCast,Nat.zero_add,hcb2,wrap64,hst2,SS,eq_self,reduceIte,reduceCtorEq,Nat.reduceEqDiff,Nat.reduceAdd]
  generalize hH3:H2.set A.length (.cells (ints (spL j (st' ++ [(c2,d0+1)]))) 3 false)=H3
  have l3:H3.length=H2.length:=by rw [<- hH3];simp
  have k3':∀ (j:Nat) (y:AObj),j ≠ A.length->H2[j]?=some y->H3[j]?=some y:=fun j y hj hy=>by rw [<- hH3,List.getElem?_set_ne (fun e=>hj e.symm)];exact hy
  have m3:H3[A.length]?=some (.cells (ints (spL j (st' ++ [(c2,d0+1)]))) 3 false):=by rw [<- hH3];exact at_set hS2
  have hoH:oq' ≠ A.length:=by omega
  have hQ3:=hQ2.set hoH k3'
  have hxs:x=.slice none 0 0∨rowO x ≠ A.length:=by
    rcases hrowI.at_ with q1 | q1
    . exact .inl q1
    . exact .inr (by omega)
  have hrow3:Row 3 H3 x c2:=by
    rcases hxs with q1 | q1
    . exact .inl ⟨q1,hrow.nilv q1⟩
    . exact hrow.mono fun y hy=>k3' _ _ q1 hy
  have hL3:=hL2.frameQ (q:=A.length) (.inl hAl) k3'
  have p3:A<+:H3:=by rw [<- hH3];exact pre_set hpA2 (Nat.le_refl _) _
  obtain ⟨us3,hus3,hul3,heach3⟩:=hL3.parts
  have hcell3:=hus3.cell (show i<us3.length by omega)
  have hst'':∀ e ∈ st' ++ [(c2,d0+1)],Bd n e.1:=fun e he=>by
    rcases List.mem_append.1 he with he | he
    . exact hok e he
    . simp only [List.mem_cons,List.not_mem_nil,or_false] at he
      rw [he];exact hcb
  have hnn'':∀ e ∈ st' ++ [(c2,d0+1)],0<=e.2:=fun e he=>by
    rcases List.mem_append.1 he with he | he
    . exact hnn e he
    . simp only [List.mem_cons,List.not_mem_nil,or_false] at he
      rw [he];show 0<=d0+1;omega
  have hnd'':((st' ++ [(c2,d0+1)]).map (·.1)).Nodup:=by
    rw [List.map_append,List.Nodup,List.pairwise_append]
    refine ⟨hnd,by simp,fun y hy z hz q=>?_⟩
    simp only [List.map_cons,List.map_nil,List.mem_cons,List.not_mem_nil,or_false] at hz
    subst hz;subst q;exact e' hy
  have hlen'':=bds_len hn hst'' hnd''
  have hrow3':=(heach3 i hi).row.1
  rw [hc] at hrow3'
  obtain ⟨H4,j1,j2,j3,j4⟩:=hQ3.push hrow3' (by
    rcases (heach3 i hi).at_ with q1 | q1
    . exact .inl q1
    . exact .inr (by omega)) (by omega)
  have hlm:(st' ++ [(c2,d0+1)]).length=st'.length+1:=by simp
  have hmm:(st' ++ [(c2,d0+1)]).map (·.1)=st'.map (·.1) ++ [c2]:=by simp
  rw [<- hmm] at j2
  rw [<- hlm] at j1 j2
  have f1:=j4 _ _ (fun h=>hoH h.symm) m3
  have f3:=hL3.frameQ (q:=oq') (by omega) j4
  have f4:st<+:st' ++ [(c2,d0+1)]:=hsp.trans (List.prefix_append _ _)
  have f6:H3.length+1=oq∨G.length<=H3.length+1:=.inr (by omega)
  have f7:A<+:H4:=prefix_of fun i y hy=>j4 i y (by have:=at_lt hy;omega) (pre_at p3 hy)
  simp (disch:=omega) only [k2,k3,k7,k9,k10,k11,k13,hus3.ix Tryz.underlying36 cs27,hcell3,Int.toNat_natCast,bsRowQ hrow3',j1,wrap64,SS,eq_self,reduceIte,reduceCtorEq,Nat.reduceEqDiff,Nat.reduceAdd]
  refine ⟨m' - 1,by omega,i+1,st' ++ [(c2,d0+1)],H3.length+1,?_⟩
  (repeat' first | exact hIn | exact f4 | exact hst'' | exact hnn'' | exact hnd'' | exact hlen'' | exact f1 | exact j2 | exact f6 | exact f3 | exact f7 | apply And.intro) <;> first | (simp only [Value.int.injEq,true_and];omega) | omega | rfl | assumption | (simp;done) | (simp;omega)
theorem l9Home_c (n:Nat)(H:AH)(hn:n<=8):ACalls Tryz.prog 69 [.int .i64 (n:Int)] H fun r H'=>Own 3 H H' r (hom n)/\H<+:H':=by
  refine in69 rfl ?_
  intro Q hQ
  have k1:=shl1 Tryz.prog 3 n hn
  have hp2:2 ^ n<=256:=Nat.pow_le_pow_right (n:=2) (by decide) hn
  obtain ⟨E,hE⟩:∃ E:Nat,E=2 ^ n:=⟨_,rfl⟩
  rw [<- hE] at k1 hp2
  simp (disch:=omega) only [cd69,k1,wrap64,SS,eq_self,reduceIte,reduceCtorEq,Nat.reduceEqDiff,Nat.reduceAdd]
  refine CallH.by (l2Bits_c n _ H hn (by rw [hE])) ?_
  rintro w B ⟨ho,pB⟩
  simp (disch:=omega) only [SS,eq_self,reduceIte,reduceCtorEq,Nat.reduceEqDiff,Nat.reduceAdd]
  refine hQ _ _ _ ?_
  simp (disch:=omega) only [ho.row.tup,SS,eq_self,reduceIte,reduceCtorEq,Nat.reduceEqDiff,Nat.reduceAdd]
  exact ⟨ho,pB⟩
theorem l9Told_c (d:Int)(H:AH):ACalls Tryz.prog 72 [.int .i64 d] H fun r H'=>r=.tuple (List.toArray [.int .i64 (if 0<d then d else 0),.bool (decide (0<=d))])/\H=H':=by
  refine in72 rfl ?_
  intro Q hQ
  simp (disch:=omega) only [cd72,SS,eq_self,reduceIte,reduceCtorEq,Nat.reduceEqDiff,Nat.reduceAdd]
  refine CallH.by (l1MostK_c d 0 H) ?_
  rintro _ _ ⟨rfl,rfl⟩
  simp (disch:=omega) only [SS,eq_self,reduceIte,reduceCtorEq,Nat.reduceEqDiff,Nat.reduceAdd]
  refine hQ _ _ _ ?_
  simp (disch:=omega) only [SS,eq_self,reduceIte,reduceCtorEq,Nat.reduceEqDiff,Nat.reduceAdd]
def cd161:Cd:=(.seq (.reg [⟨⟨some 2,.alloc 26,none⟩,[]⟩]) (.seq (.reg [⟨⟨some 3,.move (.tmp 0),none⟩,[]⟩,
  ⟨⟨some 4,.call ⟨(.value (.func 198)),#[.tmp 3,(.const (.int .i64 6))],#[86,3]⟩,none⟩,[]⟩,
  ⟨⟨none,.store 26 (.tmp 2) (.tmp 4),none⟩,[]⟩]) .ret))
theorem in161:InT Tryz.prog 161 1 [.cell 2 26] cd161:=InT.mk (by kernel_rfl) [] Tryz.func161 rfl (by kernel_rfl) (by kernel_rfl) (of_decide_eq_true (by kernel_rfl)) (by kernel_rfl)
end Go.Proofs.YtjnefjchconebaaGreat.Ai
namespace Go.Proofs.YtjnefjchconebaaGreat.Ai
open Go Go.RowKit
theorem GSt.putc {H:AH}{o gp:Nat}{v:Value}{us:List Value}{N0:Nat}(h:Cur H o v us N0)(ho:o<H.length)(hgp:H.length<gp){N1 L1:Nat}{K1:AH}(a b:Int)(hG:GSt H o gp v us N1 L1 K1)(hL:L1<=500)(hab:(-1<=a/\a<=9) /\ -1<=b/\b<=9) :
    ∃ n' w',cellA K1 gp 1=some w'/\K1[gp]?=some (.cells [.int .i64 n',w'] 26 false)/\ACalls Tryz.prog 163 [w',.agg (List.toArray [.int .i64 a,.int .i64 b])] K1 fun r K2=>∃ K3,storeA Tryz.prog 24 (.pointer (some ⟨gp,1,none⟩)) r K2=some K3/\isTup r=false/\GSt H o gp v us N1 (L1+1) K3/\K3[gp]?=some (.cells [.int .i64 n',r] 26 false):=by
  obtain ⟨n',w',ps,q1,q2,q3,q4,q5,q6,q7,q8,q9,q10⟩:=hG
  refine ⟨n',w',cell_of q2 1,q2,(l2PutPair_c w' ps a b q3 (by have:=q10.1;omega) (by omega)).mono fun r K2 hr=>?_⟩
  obtain ⟨qs,r1,r2,r3,r4,r5⟩:=hr
  have lgp:=at_lt q2
  have r6:rowO r ≠ gp:=by
    rcases r4 with e | e
    . rw [e];exact q4
    . omega
  have r7:rowO r ≠ H.length∨r=.slice none 0 0:=by
    rcases r4 with e | e
    . rw [e];exact q5
    . exact .inl (by omega)
  obtain ⟨q,hq⟩:=r1.row.shape
  have t2:r.cells.toList=[r]:=by rw [hq];rfl
  have hst:=st_at (P:=Tryz.prog) (t:=24) (i:=1) (y:=r) cs24 (pre_at r5 q2) (by show 1<2;decide) r1.row.tup t2
  exact ⟨_,hst,r1.row.tup,GSt.put h ho hgp q1 q2 q3 q4 q5 (fun j y _ hy=>pre_at r5 hy) r5.length_le r1 r6 r7 q6 (by omega:qs.length<=L1+1) (fun y hy=>by
    rcases r3 y hy with e | e
    . exact q8 y e
    . rw [e];exact hab) q9 q10,List.getElem?_set_self (at_lt (pre_at r5 q2))⟩
theorem GSt.cr {H:AH}{o gp:Nat}{v:Value}{us:List Value}{N L:Nat}{H':AH}(h:GSt H o gp v us N L H'):Cur H' o v us N:=by
  obtain ⟨_,_,_,_,_,_,_,_,_,_,_,q,_⟩:=h
  exact q
theorem graph_c {H:AH}{o:Nat}{v:Value}{us:List Value}{N:Nat}(h:Cur H o v us N)(hN:N<=100000000) :
    ACalls Tryz.prog 161 [.pointer (some ⟨o,0,none⟩)] H fun r H'=>∃ (n:Int) (w:Value) (ps:List (Int × Int)),r=.agg (List.toArray [.int .i64 n,w])/\MineP 47 H H' w ps/\I64 n/\ps.length<=200/\Sml ps/\Cur H' o v us (N+1000)/\Keeps o H H':=by
  have ho:o<H.length:=by
    obtain ⟨_,_,g,_⟩:=h.cur
    exact at_lt g
  refine in161 rfl ?_
  intro Q hQ
  simp (disch:=omega) only [cd161,alloc_G,SS,eq_self,reduceIte,reduceCtorEq,Nat.reduceEqDiff,Nat.reduceAdd]
  generalize hA:H ++ [AObj.cells [.int .i64 0,.slice none 0 0] 26 false]=A
  have pA:H<+:A:=by rw [<- hA];exact List.prefix_append _ _
  have cA:A[H.length]?=some (.cells [.int .i64 0,.slice none 0 0] 26 false):=by rw [<- hA];exact at_new ..
  have lA:A.length=H.length+1:=by rw [<- hA];simp
  refine CallH.by (someGraph_c (h.pre pA) hN 6 (by omega)) ?_
  rintro _ K ⟨n,w,ps,rfl,hm,hn,hl,hs,hC,hK⟩
  have c1:=hK.2 _ _ (by omega) cA
  have hst:=st_G hm.row c1 rfl n
  simp (disch:=omega) only [hst,SS,eq_self,reduceIte,reduceCtorEq,Nat.reduceEqDiff,Nat.reduceAdd]
  have d4:=at_set (d:=.cells [.int .i64 n,w] 26 false) c1
  have at_:∀ {j:Nat} {y:AObj},j ≠ H.length->K[j]?=some y->(K.set H.length (.cells [.int .i64 n,w] 26 false))[j]?=some y:=fun hj hy=>by rw [List.getElem?_set_ne (fun e=>hj e.symm)];exact hy
  obtain ⟨a,sd,c1',c2,c3⟩:=hC.cur
  refine hQ _ _ _ (end_cell _ _ _ _ _ _ (.agg (List.toArray [.int .i64 n,w])) ?_ rfl ⟨n,w,ps,rfl,?_,hn,hl,hs,⟨⟨a,sd,at_ (by omega) c1',c2,c3⟩,hC.row.mono fun y hy=>at_ ?_ hy,hC.byt,hC.ap,hC.le⟩,⟨by have:=hK.1;simp;omega,fun j y hj hy=>at_ (by have:=at_lt hy;omega) (hK.2 j y hj (pre_at pA hy))⟩⟩)
  . simp (disch:=omega) only [ld_agg ag26 cs26 d4,SS,eq_self,reduceIte,reduceCtorEq,Nat.reduceEqDiff,Nat.reduceAdd]
  . rcases hm with z | ⟨q,zs,z1,z2,z3,z4⟩
    . exact .inl z
    . exact .inr ⟨q,zs,z1,by omega,at_ (by omega) z3,z4⟩
  . rcases h.row with q | ⟨o',k',vs',ro',e1,g2,_⟩
    . rw [q.1]
      show (0:Nat) ≠ H.length
      omega
    . rw [e1]
      have:=at_lt g2
      show o' ≠ H.length
      omega
def cd149:Cd:=(.seq (.reg [⟨⟨some 4,.assign (.const (.slice none 0 0)),none⟩,[]⟩]) (.seq (.reg [⟨⟨some 8,.buildSlice 27 0 #[],none⟩,[]⟩,⟨⟨some 5,.assign (.tmp 8),none⟩,[]⟩]) (.seq (.seq (.reg [⟨⟨some 6,.assign (.const (.int .i64 0)),none⟩,[]⟩]) (.block 0 (.loop (.seq (.seq (.reg [⟨⟨some 9,.move (.tmp 6),none⟩,[]⟩,⟨⟨some 10,.move (.tmp 1),none⟩,[]⟩,⟨⟨some 11,.binOp .lss 3 (.tmp 9) (.tmp 10) 3,none⟩,[]⟩,⟨⟨some 12,.move (.tmp 11),none⟩,[]⟩,⟨⟨some 13,.move (.tmp 6),some (12,true)⟩,[]⟩,⟨⟨some 14,.binOp .lss 3 (.tmp 13) (.const (.int .i64 10)) 3,some (12,true)⟩,[]⟩,⟨⟨some 15,.pick (.tmp 12) (.tmp 14) (.const (.bool false)),none⟩,[]⟩]) (.cond (.tmp 15) .skip (.exit 0))) (.seq (.block 1 (.seq (.reg [⟨⟨some 18,.move (.tmp 0),none⟩,[]⟩,⟨⟨some 19,.move (.tmp 5),none⟩,[]⟩,⟨⟨some 20,.call ⟨(.builtin .len),#[.tmp 19],#[27]⟩,none⟩,[]⟩,⟨⟨some 21,.binOp .add 3 (.tmp 20) (.const (.int .i64 1)) 3,none⟩,[]⟩,⟨⟨some 22,.call ⟨(.value (.func 111)),#[.tmp 18,.tmp 21],#[86,3]⟩,none⟩,[]⟩,
 ⟨⟨some 7,.assign (.tmp 22),none⟩,[]⟩]) (.reg [⟨⟨some 23,.move (.tmp 5),none⟩,[]⟩,⟨⟨some 24,.move (.tmp 7),none⟩,[]⟩,⟨⟨some 25,.slice 27 (.tmp 23) none (some (.tmp 24)) none,none⟩,[]⟩,⟨⟨some 27,.move (.tmp 6),none⟩,[]⟩,⟨⟨some 28,.buildSlice 27 1 #[(0,.tmp 27)],none⟩,[]⟩,⟨⟨some 30,.move (.tmp 5),none⟩,[]⟩,⟨⟨some 31,.move (.tmp 7),none⟩,[]⟩,⟨⟨some 32,.slice 27 (.tmp 30) (some (.tmp 31)) none none,none⟩,[]⟩,⟨⟨some 26,.call ⟨(.value (.func 151)),#[.tmp 25],#[27]⟩,none⟩,[⟨some 32,.slice 27 (.tmp 30) (some (.tmp 31)) none none,none⟩,⟨some 28,.buildSlice 27 1 #[(0,.tmp 27)],none⟩]⟩,⟨⟨some 29,.call ⟨(.builtin .append),#[.tmp 26,.tmp 28],#[27,27]⟩,none⟩,[⟨some 32,.slice 27 (.tmp 30) (some (.tmp 31)) none none,none⟩]⟩,⟨⟨some 33,.call ⟨(.builtin .append),#[.tmp 29,.tmp 32],#[27,27]⟩,none⟩,[]⟩,⟨⟨some 5,.assign (.tmp 33),none⟩,[]⟩]))) (.reg [⟨⟨some 16,.move (.tmp 6),none⟩,[]⟩,
 ⟨⟨some 17,.binOp .add 3 (.tmp 16) (.const (.int .i64 1)) 3,none⟩,[]⟩,
  ⟨⟨some 6,.assign (.tmp 17),none⟩,[]⟩])))))) (.seq (.seq (.reg [⟨⟨some 34,.move (.tmp 0),none⟩,[]⟩,
  ⟨⟨some 35,.call ⟨(.value (.func 144)),#[.tmp 34,(.const (.int .i64 20))],#[86,3]⟩,none⟩,[]⟩]) (.cond (.tmp 35) (.reg [⟨⟨some 36,.move (.tmp 5),none⟩,[]⟩,
  ⟨⟨some 37,.move (.tmp 0),none⟩,[]⟩,
  ⟨⟨some 38,.buildSlice 27 3 #[(0,(.const (.int .i64 0))),(1,(.const (.int .i64 (-1)))),(2,(.const (.int .i64 9)))],none⟩,[]⟩,
  ⟨⟨some 39,.call ⟨(.value (.func 162)),#[.tmp 37,.tmp 38],#[86,27]⟩,none⟩,[]⟩,
  ⟨⟨some 40,.buildSlice 27 1 #[(0,.tmp 39)],none⟩,[]⟩,
  ⟨⟨some 41,.call ⟨(.builtin .append),#[.tmp 36,.tmp 40],#[27,27]⟩,none⟩,[]⟩,
  ⟨⟨some 5,.assign (.tmp 41),none⟩,[]⟩]) .skip)) (.seq (.reg [⟨⟨some 42,.move (.tmp 5),none⟩,[]⟩,
  ⟨⟨some 4,.assign (.tmp 42),none⟩,[]⟩]) .ret)))))
theorem in149:InT Tryz.prog 149 2 [.tmp 4] cd149:=InT.mk (by kernel_rfl) [(6,[(0,false),(1,false),(2,false),(4,false),(5,false),(7,false),(8,false),(9,false),(3,true),(6,true),(10,true),(11,true)])] Tryz.func149 rfl (by kernel_rfl) (by kernel_rfl) (of_decide_eq_true (by kernel_rfl)) (by kernel_rfl)
end Go.Proofs.YtjnefjchconebaaGreat.Ai
namespace Go.Proofs.YtjnefjchconebaaGreat.Ai
open Go Go.RowKit
theorem perm9_c {H:AH}{o:Nat}{v:Value}{us:List Value}{N:Nat}(h:Cur H o v us N)(hN:N<=100000000)(n:Int)(hn:n<=9) :
    ACalls Tryz.prog 149 [.pointer (some ⟨o,0,none⟩),.int .i64 (n:Int)] H fun r H'=>∃ p:List Int,Own 3 H H' r p/\(n<=(p.length:Int)/\p.length<=10)/\(∀ y ∈ p,-1<=y/\y<=9)/\Cur H' o v us (N+20)/\Keeps o H H':=by
  have hoH:o<H.length:=by
    obtain ⟨_,_,g,_⟩:=h.cur
    exact at_lt g
  refine in149 rfl ?_
  intro Q hQ
  simp (disch:=omega) only [cd149,SS,eq_self,reduceIte,reduceCtorEq,Nat.reduceEqDiff,Nat.reduceAdd]
  generalize hA:H ++ [AObj.cells [] 3 false]=A
  have pA:H<+:A:=by rw [<- hA];exact List.prefix_append _ _
  have cA:A[H.length]?=some (.cells (ints []) 3 false):=by rw [<- hA];exact at_new ..
  have own0:Own 3 H A (.slice (some ⟨H.length,0,none⟩) 0 0) []:=.inr ⟨H.length,rfl,Nat.le_refl _,cA⟩
  have hC0:=(h.pre pA).more (show N<=N+0 by omega)
  have hK0:Keeps o H A:=.of_pre pA
  refine LoopH.by (fun m s H'=>∃ (i:Nat) (xs:List Int),m+i=n.toNat/\s 0=.pointer (some ⟨o,0,none⟩)/\s 1=.int .i64 (n:Int)/\s 6=.int .i64 ((i:Nat):Int)/\xs.length=i/\(∀ y ∈ xs,-1<=y/\y<=9)/\Own 3 H H' (s 5) xs/\Cur H' o v us (N+i)/\Keeps o H H') n.toNat ?_ ?_
  . refine ⟨0,[],?_⟩
    simp (disch:=omega) only [SS,eq_self,reduceIte,reduceCtorEq,Nat.reduceEqDiff,Nat.reduceAdd]
    (repeat' first | exact own0 | exact hC0 | exact hK0 | apply And.intro) <;> first | (simp only [Value.int.injEq,true_and];omega) | omega | rfl | assumption | (simp;done) | (simp;omega)
  rintro m s H' ⟨i,xs,hm,h0,h1,h6,hxl,hxr,hO,hC,hK⟩
  generalize hU:s 5=U at *
  have hUrow:=hO.row
  simp (disch:=omega) only [h0,h1,h6,hU,SS,eq_self,reduceIte,reduceCtorEq,Nat.reduceEqDiff,Nat.reduceAdd]
  by_cases g:(i:Int)<(n:Int)
  . have g2:(i:Int)<10:=by omega
    simp (disch:=omega) only [decide_eq_true g,decide_eq_true g2,h0,h1,h6,hU,hUrow.len Tryz.underlying27,wrap64,SS,eq_self,reduceIte,reduceCtorEq,Nat.reduceEqDiff,Nat.reduceAdd]
    refine CallH.by (pick_c hC (by omega) _ (by omega)) ?_
    rintro _ K ⟨⟨k,rfl,hk⟩,hCK,oK⟩
    have hkl:k<=xs.length:=by omega
    have hOK:=hO.keeps oK.keeps hoH
    have hrK:=hOK.row
    have hKl:H.length<=K.length:=by rw [oK.1];exact hK.1
    obtain ⟨a1,a2,a3⟩:=hrK.slice (P:=Tryz.prog) (t:=27) Tryz.underlying27 cs3 lo_none (bound_some (k:=.i64) (i:=(k:Int)) (by omega) xs.length) (Nat.zero_le _) (by rw [Int.toNat_natCast];exact hkl)
    rw [Int.toNat_natCast] at a1 a2 a3
    rw [List.drop_zero,Nat.sub_zero] at a2
    generalize hK1:K ++ [AObj.cells [.int .i64 (i:Int)] 3 false]=K1
    have pK1:K<+:K1:=by rw [<- hK1];exact List.prefix_append _ _
    have at1:K1[K.length]?=some (.cells [.int .i64 (i:Int)] 3 false):=by rw [<- hK1];exact at_new ..
    have sl2:∀ {G:AH},Row 3 G U xs->_:=fun {G} q=>q.slice (P:=Tryz.prog) (t:=27) Tryz.underlying27 cs3 (bound_some (k:=.i64) (i:=(k:Int)) (by omega) 0) (hi_none xs.length) (by rw [Int.toNat_natCast];exact hkl) (Nat.le_refl _)
    have hr1:=hrK.pre pK1
    have b1:=(sl2 hr1).1
    rw [Int.toNat_natCast] at b1
    simp (disch:=omega) only [h0,h1,h6,hU,a1,hK1,b1,SS,eq_self,reduceIte,reduceCtorEq,Nat.reduceEqDiff,Nat.reduceAdd]
    refine CallH.by (l1Own_c _ _ K1 (a2.pre pK1) (by simp;omega)) ?_
    rintro w1 L ⟨hw1,pL⟩
    have hkeq:L[K.length]?=K1[K.length]?:=by rw [pre_at pL at1,at1]
    have hx1:Row 3 L (.slice (some ⟨K.length,0,none⟩) 1 1) [(i:Int)]:=.inr ⟨K.length,0,[.int .i64 (i:Int)],false,rfl,pre_at pL at1,by simp,rfl⟩
    obtain ⟨w2,L2,j1,j2,j3,j4,j5⟩:=hw1.app (P:=Tryz.prog) (t:=27) Tryz.underlying27 cs3 (by rw [by3];decide) zk3 hx1 pL (by simp;omega)
    have hrL:=hr1.pre pL
    have b2:=(sl2 hrL).1
    have hrL2:=hr1.pre j3
    have b3:=(sl2 hrL2).1
    have b4:=(sl2 hrL2).2.1
    rw [Int.toNat_natCast] at b2 b3 b4
    have b5:(xs.drop k).take (xs.length - k)=xs.drop k:=List.take_of_length_le (by simp)
    rw [b5] at b4
    obtain ⟨w3,L3,q1,q2,q3,q4,q5⟩:=j2.app (P:=Tryz.prog) (t:=27) Tryz.underlying27 cs3 (by rw [by3];decide) zk3 b4 j3 (by simp;omega)
    have f1:Own 3 H L3 w3 (xs.take k ++ [(i:Int)] ++ xs.drop k):=ownB q2 (by have:=pK1.length_le;omega)
    have f2:(xs.take k ++ [(i:Int)] ++ xs.drop k).length=i+1:=by simp;omega
    have f3:∀ y ∈ xs.take k ++ [(i:Int)] ++ xs.drop k,-1<=y/\y<=9:=fun y hy=>by
      simp only [List.mem_append,List.mem_singleton] at hy
      rcases hy with (hy | hy) | hy
      . exact hxr y (List.mem_of_mem_take hy)
      . omega
      . exact hxr y (List.mem_of_mem_drop hy)
    have f4:Cur L3 o v us (N+(i+1)):=hCK.pre (pK1.trans q3)
    have f5:Keeps o H L3:=hK.trans (oK.keeps.trans (.of_pre (pK1.trans q3)))
    simp (disch:=omega) only [h0,h1,h6,hU,hkeq,b2,b3,j1,q1,wrap64,SS,eq_self,reduceIte,reduceCtorEq,Nat.reduceEqDiff,Nat.reduceAdd]
    refine ⟨m - 1,by omega,i+1,xs.take k ++ [(i:Int)] ++ xs.drop k,?_⟩
    (repeat' first | exact f2 | exact f3 | exact f1 | exact f4 | exact f5 | apply And.intro) <;> first | (simp only [Value.int.injEq,true_and];omega) | omega | rfl | assumption | (simp;done) | (simp;omega)
  . have hin:n<=(i:Int):=by omega
    simp (disch:=omega) only [decide_eq_false g,h0,hU,SS,eq_self,reduceIte,reduceCtorEq,Nat.reduceEqDiff,Nat.reduceAdd]
    refine CallH.by (one_c hC (by omega) 20 (by omega)) ?_
    rintro _ K ⟨⟨b,rfl⟩,hCK,oK⟩
    have hOK:=hO.keeps oK.keeps hoH
    have hKl:H.length<=K.length:=by rw [oK.1];exact hK.1
    simp (disch:=omega) only [SS,eq_self,reduceIte,reduceCtorEq,Nat.reduceEqDiff,Nat.reduceAdd]
    cases b with
    | false =>
      refine brH.intro (fun q=>by cases q) (fun _=>?_)
      simp (disch:=omega) only [hU,SS,eq_self,reduceIte,reduceCtorEq,Nat.reduceEqDiff,Nat.reduceAdd]
      refine hQ _ _ _ ?_
      simp (disch:=omega) only [hOK.row.tup,SS,eq_self,reduceIte,reduceCtorEq,Nat.reduceEqDiff,Nat.reduceAdd]
      exact ⟨xs,hOK,by omega,hxr,hCK.more (by omega),hK.trans oK.keeps⟩
    | true =>
      refine brH.intro (fun _=>?_) (fun q=>by cases q)
      simp (disch:=omega) only [h0,hU,SS,eq_self,reduceIte,reduceCtorEq,Nat.reduceEqDiff,Nat.reduceAdd]
      generalize hK1:K ++ [AObj.cells [.int .i64 0,.int .i64 (-1),.int .i64 9] 3 false]=K1
      have pK1:K<+:K1:=by rw [<- hK1];exact List.prefix_append _ _
      have at1:K1[K.length]?=some (.cells [.int .i64 0,.int .i64 (-1),.int .i64 9] 3 false):=by rw [<- hK1];exact at_new ..
      have hw:Row 3 K1 (.slice (some ⟨K.length,0,none⟩) 3 3) [0,-1,9]:=.inr ⟨K.length,0,_,false,rfl,at1,by simp,rfl⟩
      refine CallH.by (among_c (hCK.pre pK1) (by omega) hw (by show K.length ≠ o;omega) (by simp)) ?_
      rintro _ L ⟨⟨x,rfl,hx⟩,hCL,oL⟩
      have hOL:=(hOK.row.pre pK1)
      have hOL2:Own 3 H L U xs:=by
        have q:Own 3 H K1 U xs:=by
          rcases hOK with q | ⟨oo,q1,q2,q3⟩
          . exact .inl q
          . exact .inr ⟨oo,q1,q2,pre_at pK1 q3⟩
        exact q.keeps oL.keeps hoH
      have hLl:H.length<=L.length:=by rw [oL.1];have:=pK1.length_le;omega
      have hl0:(L.take H.length).length=H.length:=by simp;omega
      have ox:Own 3 (L.take H.length) L U xs:=ownB hOL2 (by omega)
      obtain ⟨w2,L2,j1,j2,j3,j4,j5,j6⟩:=own1_27 ox (List.take_prefix _ _) (by omega) x
      have hle:L.length<=L2.length:=by
        rcases j2 with ⟨_,q⟩ | ⟨oo,q1,q2,q3⟩
        . simp at q
        . have:=at_lt q3
          rw [q1] at j5
          have:L.length<=oo:=j5
          omega
      have hoU:U=.slice none 0 0∨(H.length<=rowO U/\rowO U<L.length):=by
        rcases hOL2 with q | ⟨oo,q1,q2,q3⟩
        . exact .inl q.1
        . right;rw [q1];exact ⟨q2,at_lt q3⟩
      have kp:∀ (j:Nat) (y:AObj),j<H.length->L[j]?=some y->L2[j]?=some y:=fun j y hj hy=>j4 j y (hoU.imp id fun q=>by omega) hy
      simp (disch:=omega) only [hU,j1,SS,eq_self,reduceIte,reduceCtorEq,Nat.reduceEqDiff,Nat.reduceAdd]
      refine hQ _ _ _ ?_
      simp (disch:=omega) only [j6,SS,eq_self,reduceIte,reduceCtorEq,Nat.reduceEqDiff,Nat.reduceAdd]
      obtain ⟨ca,cs,c1,c2,c3⟩:=hCL.cur
      have hx' : -1<=x/\x<=9:=by simp at hx;omega
      refine ⟨xs ++ [x],ownB j2 (by omega),by simp;omega,fun y hy=>?_,⟨⟨ca,cs,kp _ _ hoH c1,by omega,c3⟩,?_,hCL.byt,hCL.ap,hCL.le⟩,⟨by have:=hK.1;omega,fun j y hj hy=>?_⟩⟩
      . rcases List.mem_append.1 hy with q | q
        . exact hxr y q
        . rw [List.mem_singleton] at q;omega
      . have hvl:v=.slice none 0 0∨rowO v<H.length:=by
          rcases h.row with q | ⟨o',k',vs',ro',e1,g2',_⟩
          . exact .inl q.1
          . right;rw [e1];exact at_lt g2'
        rcases hCL.row with q | q
        . exact .inl q
        . refine RowV.mono (.inr q) fun y hy=>?_
          rcases hvl with g | g
          . obtain ⟨o',k',_,_,g1,_⟩:=q
            rw [g] at g1;cases g1
          . exact kp _ _ g hy
      . exact kp j y (at_lt hy) (oL.2 j y hj (pre_at pK1 (oK.2 j y hj (hK.2 j y hj hy))))
end Go.Proofs.YtjnefjchconebaaGreat.Ai
