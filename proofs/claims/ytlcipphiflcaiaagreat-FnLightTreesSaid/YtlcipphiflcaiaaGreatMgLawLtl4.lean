/- Texts of this claim, joined: TreQ, MatP, MatA, SrtL, SrtF, JmpS, GrA, Kru, Ones, TrbA, Pop, TrbB, TrbC, TrbD, AppL, Spc, AdjP, Adj, MarkS. -/
import Derived.Test.YtlcipphiflcaiaaGreatProg
import Derived.KernelRfl
import Derived.Test.YtlcipphiflcaiaaGreatMgLawLtl3
set_option linter.unusedVariables false
set_option linter.unusedSimpArgs false
set_option maxHeartbeats 8000000
set_option maxRecDepth 20000
namespace Go.Proofs.YtlcipphiflcaiaaGreat.Ai
open Go Go.RowKit
def prtG (es:List (Int × Int))(T:List Int):List (Int × Int):=T.map fun e=>es.getD e.toNat (0,0)
def EdIn (es:List (Int × Int))(T:List Int):Prop:=∀ e ∈ T,0<=e/\e<es.length
theorem EdIn.sub {es:List (Int × Int)}{T U:List Int}(h:EdIn es T)(hs:∀ x ∈ U,x ∈ T):EdIn es U:=fun e he=>h e (hs e he)
theorem en_eq {n:Int}{es:List (Int × Int)}(hg:Grd n es){e:Int}(h:0<=e/\e<es.length):es.getD e.toNat (0,0)=((enA es e:Int),(enB es e:Int))/\enA es e<enB es e/\(enB es e:Int)<n:=by
 have hl:e.toNat<es.length:=by omega
 have hm:es.getD e.toNat (0,0) ∈ es:=by simp [hl]
 have:=grd_mem hg hm
 unfold enA enB
 refine ⟨Prod.ext ?_ ?_,?_,?_⟩
 ·show _=(((es.getD e.toNat (0,0)).1.toNat:Nat):Int);omega
 ·show _=(((es.getD e.toNat (0,0)).2.toNat:Nat):Int);omega
 ·omega
 ·omega
theorem EdIn.ends {n:Nat}{es:List (Int × Int)}(hg:Grd (n:Int) es){T:List Int}(h:EdIn es T):EndsIn es T n:=fun e he=>by
 have:=en_eq hg (h e he)
 omega
theorem prt_near {n:Int}{es:List (Int × Int)}(hg:Grd n es){T:List Int}(hT:EdIn es T)(a b:Int):nearB (prtG es T) a b=true↔∃ e ∈ T,(a=enA es e/\b=enB es e)∨(b=enA es e/\a=enB es e):=by
 rw [nearB_iff]
 unfold prtG
 rw [List.mem_map,List.mem_map]
 constructor
 ·rintro (⟨e,he,q⟩ | ⟨e,he,q⟩)
  ·rw [(en_eq hg (hT e he)).1,Prod.mk.injEq] at q
   exact ⟨e,he,.inl ⟨q.1.symm,q.2.symm⟩⟩
  ·rw [(en_eq hg (hT e he)).1,Prod.mk.injEq] at q
   exact ⟨e,he,.inr ⟨q.1.symm,q.2.symm⟩⟩
 ·rintro ⟨e,he,⟨q1,q2⟩ | ⟨q1,q2⟩⟩
  ·exact .inl ⟨e,he,by rw [(en_eq hg (hT e he)).1,q1,q2]⟩
  ·exact .inr ⟨e,he,by rw [(en_eq hg (hT e he)).1,q1,q2]⟩
theorem Rch.trans {adj:Int->Int->Prop}{S:Int->Prop}{x y z:Int}(h:Rch adj S x y)(k:Rch adj S y z):Rch adj S x z:=by
 induction k with
 | refl=>exact h
 | step _ h1 h2 ih=>exact .step ih h1 h2
theorem Rch.back {adj:Int->Int->Prop}{S:Int->Prop}(hs:∀ a b,adj a b->adj b a){x z:Int}(h:Rch adj S x z)(hx:S x):Rch adj S z x:=by
 induction h with
 | refl=>exact .refl
 | step h0 h1 h2 ih=>exact (Rch.step .refl (hs _ _ h1) (h0.in_ hx)).trans ih
theorem jn_rch {n:Nat}{es:List (Int × Int)}(hg:Grd (n:Int) es){T:List Int}(hT:EdIn es T){x:Nat}(hx:x<n)(z':Int) :
  Rch (fun a b=>nearB (prtG es T) a b=true) (· ∈ alls n) (x:Int) z'↔∃ z:Nat,z'=z/\z<n/\Jn es T x z:=by
 have ends:=hT.ends hg
 constructor
 ·intro h
  induction h with
  | refl=>exact ⟨x,rfl,hx,.refl x⟩
  | step _ h1 h2 ih =>
   obtain ⟨z,rfl,hz,hj⟩:=ih
   obtain ⟨e,he,q⟩:=(prt_near hg hT _ _).1 h1
   have hm:=ends e he
   rcases q with ⟨q1,q2⟩ | ⟨q1,q2⟩
   ·have:z=enA es e:=by omega
    subst this
    exact ⟨enB es e,q2,hm.2,hj.trans (.edge e he)⟩
   ·have:z=enB es e:=by omega
    subst this
    exact ⟨enA es e,q1,hm.1,hj.trans (.symm (.edge e he))⟩
 ·rintro ⟨z,rfl,hz,hj⟩
  have key:∀ {u v:Nat},Jn es T u v->u<n->Rch (fun a b=>nearB (prtG es T) a b=true) (· ∈ alls n) (u:Int) (v:Int):=by
   intro u v h
   induction h with
   | refl y=>intro _;exact .refl
   | edge e he=>intro _;exact .step .refl ((prt_near hg hT _ _).2 ⟨e,he,.inl ⟨rfl,rfl⟩⟩) ((alls_mem _ _).2 (by have:=ends e he;omega))
   | symm h ih=>intro hu;exact (ih ((Jn.in_ ends h).2 hu)).back (fun a b hab=>by rw [nearB_comm];exact hab) ((alls_mem _ _).2 (by have:=(Jn.in_ ends h).2 hu;omega))
   | trans h1 h2 i1 i2=>intro hu;exact (i1 hu).trans (i2 ((Jn.in_ ends h1).1 hu))
  exact key hj hx
theorem pc_len (es:List (Int × Int))(set:List Int):∀ (l:List Int) (st:List (List Int) × List Int),st.1.length<=(l.foldl (pcS es set) st).1.length/\((l.foldl (pcS es set) st).1.length=st.1.length↔∀ y ∈ l,y ∈ st.2)
 | [],st=>⟨Nat.le_refl _,by simp⟩
 | y :: r,st=>by
  rw [List.foldl_cons]
  by_cases e:y ∈ st.2
  ·have:pcS es set st y=st:=by unfold pcS;rw [if_pos e]
   rw [this]
   obtain ⟨i1,i2⟩:=pc_len es set r st
   exact ⟨i1,by rw [i2];simp [e]⟩
  ·have hs:(pcS es set st y).1.length=st.1.length+1:=by unfold pcS;rw [if_neg e];simp
   obtain ⟨i1,i2⟩:=pc_len es set r (pcS es set st y)
   refine ⟨by omega,⟨fun h=>by omega,fun h=>absurd (h y (by simp)) e⟩⟩
theorem pieces_one {n:Nat}(hn:1<=n){es:List (Int × Int)}(hg:Grd (n:Int) es){T:List Int}(hT:EdIn es T):(piecesL (prtG es T) (alls n)).length=1↔Conn es T n:=by
 obtain ⟨r,hr⟩:∃ r,alls n=(0:Int) :: r:=by
  obtain ⟨m,rfl⟩:∃ m,n=m+1:=⟨n - 1,by omega⟩
  exact ⟨(List.range m).map fun z:Nat=>((z+1:Nat):Int),by unfold alls;rw [List.range_succ_eq_map,List.map_cons,List.map_map];rfl⟩
 have h0:(0:Int) ∈ alls n:=by rw [hr];simp
 have e1:piecesL (prtG es T) (alls n)=(r.foldl (pcS (prtG es T) (alls n)) ([reachL (prtG es T) (alls n) 0],(reachL (prtG es T) (alls n) 0).foldl put [])).1:=by
  unfold piecesL pcK
  conv=>lhs;rw [show (alls n).foldl (pcS (prtG es T) (alls n)) ([],[])=((0:Int) :: r).foldl (pcS (prtG es T) (alls n)) ([],[]) from by rw [<- hr]]
  rw [List.foldl_cons]
  congr 1
 have hl:=(pc_len (prtG es T) (alls n) r ([reachL (prtG es T) (alls n) 0],(reachL (prtG es T) (alls n) 0).foldl put [])).2
 have hl':(piecesL (prtG es T) (alls n)).length=1↔∀ y ∈ r,y ∈ (reachL (prtG es T) (alls n) 0).foldl put []:=by rw [e1];exact hl
 rw [hl']
 have hmem:∀ y:Int,y ∈ (reachL (prtG es T) (alls n) 0).foldl put []↔∃ z:Nat,y=z/\z<n/\Jn es T 0 z:=fun y=>by
  rw [puts_mem,reach_iff _ _ _ h0,show (0:Int)=((0:Nat):Int) from rfl,jn_rch hg hT (by omega:0<n)]
  simp
 constructor
 ·intro h
  have all:∀ y,y<n->Jn es T 0 y:=fun y hy=>by
   have hy':(y:Int) ∈ alls n:=(alls_mem _ _).2 (by omega)
   rw [hr] at hy'
   rcases List.mem_cons.1 hy' with q | q
   ·have:y=0:=by omega
    subst this;exact .refl 0
   ·obtain ⟨z,hz,_,hj⟩:=(hmem _).1 (h _ q)
    have:y=z:=by omega
    subst this;exact hj
  exact fun x y hx hy=>(all x hx).symm.trans (all y hy)
 ·intro h y hy
  have hy':y ∈ alls n:=by rw [hr];exact List.mem_cons_of_mem _ hy
  have:=(alls_mem _ _).1 hy'
  exact (hmem y).2 ⟨y.toNat,by omega,by omega,h 0 _ (by omega) (by omega)⟩
def jnB (es:List (Int × Int))(n:Nat)(T:List Int)(a b:Nat):Bool:=decide (0<=(bfs (roadsL n (prtG es T)) a).getD b 0)
theorem jnB_iff {n:Nat}{es:List (Int × Int)}(hg:Grd (n:Int) es){T:List Int}(hT:EdIn es T){i j:Nat}(hi:i<n)(hj:j<n):jnB es n T i j=true↔Jn es T i j:=by
 have hL:=roadsL_ok n (prtG es T)
 have hl:=roadsL_len n (prtG es T)
 have hi':i<(roadsL n (prtG es T)).length:=by omega
 unfold jnB
 rw [decide_eq_true_eq]
 have hadj:∀ u,u<n->∀ y,y ∈ (roadsL n (prtG es T)).getD u []↔((0<=y/\y<n)/\nearB (prtG es T) u y=true):=fun u hu y=>by rw [roadsL_at _ _ _ hu,nbsU_mem]
 constructor
 ·obtain ⟨q,h⟩:=bfs_DS hL hi'
  have key:∀ (d v:Nat),v<n->(bfs (roadsL n (prtG es T)) i).getD v 0=d->Jn es T i v:=by
   intro d
   induction d with
   | zero =>
    intro v hv hd
    rcases h.di.src v (by omega) (show 0<=(bfs (roadsL n (prtG es T)) i).getD v 0 by omega) with ⟨e,_⟩ | ⟨u,u1,u2,u3,u4⟩
    ·subst e;exact .refl _
    ·have u2':0<=(bfs (roadsL n (prtG es T)) i).getD u 0:=u2
     have u4':(bfs (roadsL n (prtG es T)) i).getD v 0=(bfs (roadsL n (prtG es T)) i).getD u 0+1:=u4
     omega
   | succ d ih =>
    intro v hv hd
    rcases h.di.src v (by omega) (show 0<=(bfs (roadsL n (prtG es T)) i).getD v 0 by omega) with ⟨_,e⟩ | ⟨u,u1,u2,u3,u4⟩
    ·have e':(bfs (roadsL n (prtG es T)) i).getD v 0=0:=e
     omega
    ·have u4':(bfs (roadsL n (prtG es T)) i).getD v 0=(bfs (roadsL n (prtG es T)) i).getD u 0+1:=u4
     have hu:u<n:=by omega
     have hj:=ih u hu (by omega)
     obtain ⟨e,he,c⟩:=(prt_near hg hT _ _).1 ((hadj u hu _).1 u3).2
     rcases c with ⟨c1,c2⟩ | ⟨c1,c2⟩
     ·have e1:u=enA es e:=by omega
      have e2:v=enB es e:=by omega
      rw [e2];exact (e1 ▸ hj).trans (.edge e he)
     ·have e1:u=enB es e:=by omega
      have e2:v=enA es e:=by omega
      rw [e2];exact (e1 ▸ hj).trans (.symm (.edge e he))
  intro h0
  exact key _ j hj (Int.toNat_of_nonneg h0).symm
 ·intro hjn
  have hr:=(jn_rch hg hT hi (j:Int)).2 ⟨j,rfl,hj,hjn⟩
  have key:∀ z:Int,Rch (fun a b=>nearB (prtG es T) a b=true) (· ∈ alls n) (i:Int) z->(0<=z/\z<n)/\0<=(bfs (roadsL n (prtG es T)) i).getD z.toNat 0:=by
   intro z h
   induction h with
   | refl=>refine ⟨by omega,?_⟩;rw [Int.toNat_natCast,bfs_zero hL hi'];omega
   | step _ h1 h2 ih =>
    have hz:=(alls_mem _ _).1 h2
    refine ⟨hz,bfs_clo hL hi' (by omega) ih.2 ((hadj _ (by omega) _).2 ⟨hz,?_⟩)⟩
    rw [Int.toNat_of_nonneg ih.1.1];exact h1
  have:=(key _ hr).2
  rwa [Int.toNat_natCast] at this
theorem jnB_not {n:Nat}{es:List (Int × Int)}(hg:Grd (n:Int) es){T:List Int}(hT:EdIn es T){i j:Nat}(hi:i<n)(hj:j<n):jnB es n T i j=false↔¬ Jn es T i j:=by
 rw [<- jnB_iff hg hT hi hj,Bool.not_eq_true]
def TreL (n:Nat)(es:List (Int × Int))(T:List Int):Prop:=T.length+1=n/\T.Pairwise (· < ·)/\EdIn es T/\Conn es T n
theorem TreL.tree {n:Nat}{es:List (Int × Int)}{T:List Int}(hg:Grd (n:Int) es)(h:TreL n es T):Tree es T n :=
 ⟨h.2.1.imp fun q e=>by omega,h.1,h.2.2.2,h.2.2.1.ends hg⟩
abbrev ed1 (es:List (Int × Int))(e:Int):Int:=(es.getD e.toNat (0,0)).1
abbrev ed2 (es:List (Int × Int))(e:Int):Int:=(es.getD e.toNat (0,0)).2
def seenL (es:List (Int × Int))(xs:List Int):List Int:=xs.flatMap fun e=>[ed1 es e,ed2 es e]
theorem seenL_snoc (es:List (Int × Int))(xs:List Int)(e:Int):seenL es (xs ++ [e])=seenL es xs ++ [ed1 es e,ed2 es e]:=by simp [seenL]
theorem seenL_len (es:List (Int × Int))(xs:List Int):(seenL es xs).length=2 * xs.length:=by
 induction xs with
 | nil=>rfl
 | cons a xs ih=>simp only [seenL,List.flatMap_cons,List.length_append] at ih ⊢;simp only [List.length_cons,List.length_nil,ih];omega
def rsOk (n:Int)(xs:List Int)(i:Nat):Prop:=(0<=xs.getD i 0/\xs.getD i 0<=n - 1)/\(0<i->xs.getD (i - 1) 0<xs.getD i 0)
instance (n:Int) (xs:List Int) (i:Nat):Decidable (rsOk n xs i):=by unfold rsOk;infer_instance
def frOk (es:List (Int × Int))(xs:List Int)(i:Nat):Prop:=ed1 es (xs.getD i 0) ∉ seenL es (xs.take i)/\ed2 es (xs.getD i 0) ∉ seenL es (xs.take i)
instance (es:List (Int × Int)) (xs:List Int) (i:Nat):Decidable (frOk es xs i):=by unfold frOk;infer_instance
def MtU (es:List (Int × Int))(xs:List Int)(k:Nat):Prop:=∀ i,i<k->rsOk es.length xs i/\frOk es xs i
instance (es:List (Int × Int)) (xs:List Int) (k:Nat):Decidable (MtU es xs k):=by unfold MtU;infer_instance
theorem MtU.zero (es:List (Int × Int))(xs:List Int):MtU es xs 0:=fun i h=>absurd h (Nat.not_lt_zero i)
theorem MtU.succ {es:List (Int × Int)}{xs:List Int}{k:Nat}(h:MtU es xs k)(h1:rsOk es.length xs k)(h2:frOk es xs k):MtU es xs (k+1):=by
 intro i hi
 rcases Nat.lt_succ_iff_lt_or_eq.1 hi with g | g
 ·exact h i g
 ·rw [g];exact ⟨h1,h2⟩
theorem MtU.no {es:List (Int × Int)}{xs:List Int}{k i:Nat}(hi:i<k)(h:¬ (rsOk es.length xs i/\frOk es xs i)):¬ MtU es xs k:=fun g=>h (g i hi)
def frE (es:List (Int × Int))(ed:List Int)(e:Int):Prop:=ed1 es e ∉ seenL es ed/\ed2 es e ∉ seenL es ed
instance (es:List (Int × Int)) (ed:List Int) (e:Int):Decidable (frE es ed e):=by unfold frE;infer_instance
def mall (es:List (Int × Int)):Nat->List Int->List (List Int)
 | 0,_=>[]
 | k+1,ed=>(if frE es ed ((es.length - (k+1):Nat):Int) then (ed ++ [((es.length - (k+1):Nat):Int)]) :: mall es k (ed ++ [((es.length - (k+1):Nat):Int)]) else []) ++ mall es k ed
theorem nodupM_le:∀ (n:Nat) (l:List Int),l.Nodup->(∀ x ∈ l,0<=x/\x<n)->l.length<=n
 | 0,l,_,h=>by
  cases l with
  | nil=>simp
  | cons x l=>have:=h x (by simp);omega
 | n+1,l,hd,h=>by
  have h1:=nodupM_le n (l.erase (n:Int)) (hd.erase _) (fun x hx=>by
   have:=(hd.mem_erase_iff).1 hx
   have h2:=h x this.2
   have:x ≠ (n:Int):=this.1
   omega)
  have:l.length<=(l.erase (n:Int)).length+1:=by
   rw [List.length_erase]
   split <;> omega
  omega
def Mgo (n:Int)(es:List (Int × Int))(ed:List Int):Prop:=(seenL es ed).Nodup/\∀ z ∈ seenL es ed,0<=z/\z<n
theorem Mgo.nil (n:Int)(es:List (Int × Int)):Mgo n es []:=⟨by simp [seenL],fun z hz=>by simp [seenL] at hz⟩
theorem Mgo.snoc {n:Int}{es:List (Int × Int)}{ed:List Int}{e:Int}(hg:Grd n es)(h:Mgo n es ed)(he:e.toNat<es.length)(hf:frE es ed e):Mgo n es (ed ++ [e]):=by
 obtain ⟨a1,a2,a3,_⟩:=hg.2 e.toNat he
 have b1:ed1 es e<ed2 es e:=a2
 have b2:0<=ed1 es e:=a1
 have b3:ed2 es e<n:=a3
 refine ⟨?_,?_⟩
 ·rw [seenL_snoc,List.nodup_append]
  refine ⟨h.1,?_,?_⟩
  ·simp;omega
  ·intro x hx y hy hxy
   subst hxy
   simp only [List.mem_cons,List.not_mem_nil,or_false] at hy
   rcases hy with rfl | rfl
   ·exact hf.1 hx
   ·exact hf.2 hx
 ·intro z hz
  rw [seenL_snoc,List.mem_append] at hz
  rcases hz with hz | hz
  ·exact h.2 z hz
  ·simp only [List.mem_cons,List.not_mem_nil,or_false] at hz
   omega
theorem Mgo.all {n:Int}{es:List (Int × Int)}(hg:Grd n es):∀ (k:Nat) (ed:List Int),k<=es.length->Mgo n es ed->∀ x ∈ mall es k ed,Mgo n es x
 | 0,ed,_,h,x,hx=>by simp [mall] at hx
 | k+1,ed,hk,h,x,hx=>by
  simp only [mall,List.mem_append] at hx
  rcases hx with hx | hx
  ·split at hx
   ·rename_i hf
    have h2:=h.snoc hg (by rw [Int.toNat_natCast];omega) hf
    simp only [List.mem_cons] at hx
    rcases hx with rfl | hx
    ·exact h2
    ·exact Mgo.all hg k _ (by omega) h2 x hx
   ·simp at hx
  ·exact Mgo.all hg k ed (by omega) h x hx
theorem Mgo.len {n:Int}{es:List (Int × Int)}{ed:List Int}(hn:0<=n)(h:Mgo n es ed):2 * ed.length<=n.toNat:=by
 have:=nodupM_le n.toNat (seenL es ed) h.1 (fun z hz=>by have:=h.2 z hz;omega)
 rw [seenL_len] at this
 exact this
def rnkE (a b:Nat):Nat:=a * (15 - a) / 2+(b - a - 1)
theorem rnkE_lt:∀ a b c d:Fin 8,a.1<b.1->c.1<d.1->(a.1<c.1∨a.1=c.1/\b.1<d.1)->rnkE a.1 b.1+1<=rnkE c.1 d.1:=by decide +kernel
theorem rnkE_le:∀ a b:Fin 8,a.1<b.1->rnkE a.1 b.1<=27:=by decide +kernel
theorem grd_nat {n:Int}{es:List (Int × Int)}(hg:Grd n es){i:Nat}(hi:i<es.length):∃ a b:Fin 8,a.1<b.1/\es.getD i (0,0)=((a.1:Int),(b.1:Int)):=by
 obtain ⟨h1,h2,h3,_⟩:=hg.2 i hi
 have:=hg.1
 refine ⟨⟨(es.getD i (0,0)).1.toNat,by omega⟩,⟨(es.getD i (0,0)).2.toNat,by omega⟩,by show (es.getD i (0,0)).1.toNat<(es.getD i (0,0)).2.toNat;omega,?_⟩
 apply Prod.ext
 ·show _=(((es.getD i (0,0)).1.toNat:Nat):Int);omega
 ·show _=(((es.getD i (0,0)).2.toNat:Nat):Int);omega
theorem grd_len {n:Int}{es:List (Int × Int)}(hg:Grd n es):es.length<=28:=by
 have key:∀ i,i<es.length->∃ a b:Fin 8,a.1<b.1/\es.getD i (0,0)=((a.1:Int),(b.1:Int))/\i<=rnkE a.1 b.1:=by
  intro i
  induction i with
  | zero=>intro hi;obtain ⟨a,b,h1,h2⟩:=grd_nat hg hi;exact ⟨a,b,h1,h2,Nat.zero_le _⟩
  | succ i ih =>
   intro hi
   obtain ⟨a,b,h1,h2,h3⟩:=ih (by omega)
   obtain ⟨c,d,k1,k2⟩:=grd_nat hg hi
   have hlt:=(hg.2 (i+1) hi).2.2.2 (by omega)
   rw [Nat.add_sub_cancel,h2,k2] at hlt
   unfold pairLt at hlt
   simp only at hlt
   have:=rnkE_lt a b c d h1 k1 (by omega)
   exact ⟨c,d,k1,k2,by omega⟩
 apply Decidable.byContradiction
 intro hc
 obtain ⟨a,b,h1,_,h3⟩:=key 28 (by omega)
 have:=rnkE_le a b h1
 omega
def cd126:Cd:=(.seq (.reg [⟨⟨some 4,.assign (.const (.int .i64 0)),none⟩,[]⟩]) (.seq (.seq (.reg [⟨⟨some 9,.move (.tmp 0),none⟩,[]⟩,⟨⟨some 10,.call ⟨(.builtin .len),#[.tmp 9],#[27]⟩,none⟩,[]⟩,⟨⟨some 11,.move (.const (.int .i64 0)),none⟩,[]⟩]) (.block 0 (.loop (.seq (.reg [⟨⟨some 12,.binOp .lss 3 (.tmp 11) (.tmp 10) 3,none⟩,[]⟩]) (.seq (.cond (.tmp 12) .skip (.exit 0)) (.seq (.block 1 (.seq (.reg [⟨⟨some 13,.move (.tmp 11),none⟩,[]⟩,⟨⟨some 14,.indexAddr 27 (.tmp 9) (.tmp 11),none⟩,[]⟩,⟨⟨some 15,.load 3 (.tmp 14),none⟩,[]⟩,⟨⟨some 5,.assign (.tmp 13),none⟩,[]⟩,⟨⟨some 6,.assign (.tmp 15),none⟩,[]⟩]) (.seq (.seq (.reg [⟨⟨some 16,.move (.tmp 5),none⟩,[]⟩,⟨⟨some 17,.move (.tmp 1),none⟩,[]⟩,⟨⟨some 18,.call ⟨(.builtin .len),#[.tmp 17],#[27]⟩,none⟩,[]⟩,⟨⟨some 19,.binOp .geq 3 (.tmp 16) (.tmp 18) 3,none⟩,[]⟩]) (.cond (.tmp 19) (.seq (.reg [⟨⟨some 4,.assign (.const (.int .i64 1)),none⟩,[]⟩]) .ret) .skip)) (.seq (.reg [⟨⟨some 20,.move (.tmp 1),none⟩,[]⟩,⟨⟨some 21,.move (.tmp 5),none⟩,[]⟩,⟨⟨some 22,.indexAddr 27 (.tmp 20) (.tmp 21),none⟩,[]⟩,
 ⟨⟨some 23,.load 3 (.tmp 22),none⟩,[]⟩,
  ⟨⟨some 7,.assign (.tmp 23),none⟩,[]⟩]) (.seq (.reg [⟨⟨some 24,.move (.tmp 6),none⟩,[]⟩,
  ⟨⟨some 25,.move (.tmp 7),none⟩,[]⟩,
  ⟨⟨some 26,.call ⟨(.value (.func 167)),#[.tmp 24,.tmp 25],#[3,3]⟩,none⟩,[]⟩,
  ⟨⟨some 8,.assign (.tmp 26),none⟩,[]⟩]) (.seq (.reg [⟨⟨some 27,.move (.tmp 8),none⟩,[]⟩,
  ⟨⟨some 28,.binOp .neq 3 (.tmp 27) (.const (.int .i64 0)) 3,none⟩,[]⟩]) (.cond (.tmp 28) (.seq (.reg [⟨⟨some 29,.move (.tmp 8),none⟩,[]⟩,
  ⟨⟨some 4,.assign (.tmp 29),none⟩,[]⟩]) .ret) .skip))))))) (.reg [⟨⟨some 30,.binOp .add 3 (.tmp 11) (.const (.int .i64 1)) 3,none⟩,[]⟩,
  ⟨⟨some 11,.move (.tmp 30),none⟩,[]⟩]))))))) (.seq (.seq (.reg [⟨⟨some 31,.move (.tmp 0),none⟩,[]⟩,
  ⟨⟨some 32,.call ⟨(.builtin .len),#[.tmp 31],#[27]⟩,none⟩,[]⟩,
  ⟨⟨some 33,.move (.tmp 1),none⟩,[]⟩,
  ⟨⟨some 34,.call ⟨(.builtin .len),#[.tmp 33],#[27]⟩,none⟩,[]⟩,
  ⟨⟨some 35,.binOp .lss 3 (.tmp 32) (.tmp 34) 3,none⟩,[]⟩]) (.cond (.tmp 35) (.seq (.reg [⟨⟨some 4,.assign (.const (.int .i64 (-1))),none⟩,[]⟩]) .ret) .skip)) (.seq (.reg [⟨⟨some 4,.assign (.const (.int .i64 0)),none⟩,[]⟩]) .ret))))
theorem in126:InT Tryz.prog 126 2 [.tmp 4] cd126:=InT.mk (by kernel_rfl) [] Tryz.func126 rfl (by kernel_rfl) (by kernel_rfl) (of_decide_eq_true (by kernel_rfl)) (by kernel_rfl)
def cd223:Cd:=(.seq (.reg [⟨⟨some 10,.assign (.const (.int .i64 0)),none⟩,[]⟩,⟨⟨some 11,.assign (.const (.int .i64 0)),none⟩,[]⟩]) (.seq (.seq (.reg [⟨⟨some 12,.move (.tmp 4),none⟩,[]⟩,⟨⟨some 13,.move (.tmp 0),none⟩,[]⟩,⟨⟨some 14,.move (.tmp 2),none⟩,[]⟩,⟨⟨some 15,.indexAddr 32 (.tmp 13) (.tmp 14),none⟩,[]⟩,⟨⟨some 16,.load 27 (.tmp 15),none⟩,[]⟩,⟨⟨some 17,.move (.tmp 0),none⟩,[]⟩,⟨⟨some 18,.move (.tmp 1),none⟩,[]⟩,⟨⟨some 19,.indexAddr 32 (.tmp 17) (.tmp 18),none⟩,[]⟩,⟨⟨some 20,.load 27 (.tmp 19),none⟩,[]⟩,⟨⟨some 21,.call ⟨(.value (.tmp 12)),#[.tmp 16,.tmp 20],#[27,27]⟩,none⟩,[]⟩,⟨⟨some 22,.binOp .lss 3 (.tmp 21) (.const (.int .i64 0)) 3,none⟩,[]⟩]) (.cond (.tmp 22) (.seq (.reg [⟨⟨some 23,.move (.tmp 3),none⟩,[]⟩,
 ⟨⟨some 24,.nilCheck (.tmp 23),none⟩,[]⟩,
  ⟨⟨some 25,.load 3 (.tmp 24),none⟩,[]⟩,
  ⟨⟨some 26,.binOp .add 3 (.tmp 25) (.const (.int .i64 1)) 3,none⟩,[]⟩,
  ⟨⟨some 27,.nilCheck (.tmp 23),none⟩,[]⟩,
  ⟨⟨none,.store 3 (.tmp 27) (.tmp 26),none⟩,[]⟩]) (.seq (.reg [⟨⟨some 28,.move (.tmp 2),none⟩,[]⟩,
  ⟨⟨some 29,.move (.tmp 1),none⟩,[]⟩,
  ⟨⟨some 10,.assign (.tmp 28),none⟩,[]⟩,
  ⟨⟨some 11,.assign (.tmp 29),none⟩,[]⟩]) .ret)) .skip)) (.seq (.reg [⟨⟨some 30,.move (.tmp 1),none⟩,[]⟩,
  ⟨⟨some 31,.move (.tmp 2),none⟩,[]⟩,
  ⟨⟨some 10,.assign (.tmp 30),none⟩,[]⟩,
  ⟨⟨some 11,.assign (.tmp 31),none⟩,[]⟩]) .ret)))
theorem in223:InT Tryz.prog 223 5 [.tmp 10,.tmp 11] cd223:=InT.mk (by kernel_rfl) [(1,[(0,false),(1,false),(2,false),(3,false),(4,false),(5,false),(6,false),(7,false),(8,false),(9,true),(10,false)])] Tryz.func223 rfl (by kernel_rfl) (by kernel_rfl) (of_decide_eq_true (by kernel_rfl)) (by kernel_rfl)
def cd219:Cd:=(.seq (.reg [⟨⟨some 12,.assign (.const (.int .i64 0)),none⟩,[]⟩]) (.seq (.reg [⟨⟨some 14,.move (.tmp 0),none⟩,[]⟩,⟨⟨some 15,.move (.tmp 1),none⟩,[]⟩,⟨⟨some 16,.move (.tmp 2),none⟩,[]⟩,⟨⟨some 17,.move (.tmp 4),none⟩,[]⟩,⟨⟨some 18,.move (.tmp 5),none⟩,[]⟩,⟨⟨some 19,.call ⟨(.value (.func 223)),#[.tmp 14,.tmp 15,.tmp 16,.tmp 17,.tmp 18],#[32,3,3,187,41]⟩,none⟩,[]⟩,⟨⟨some 13,.move (.tmp 19),none⟩,[]⟩,⟨⟨some 20,.extract (.tmp 13) 0,none⟩,[]⟩,⟨⟨some 21,.extract (.tmp 13) 1,none⟩,[]⟩,⟨⟨some 1,.assign (.tmp 20),none⟩,[]⟩,⟨⟨some 2,.assign (.tmp 21),none⟩,[]⟩]) (.seq (.reg [⟨⟨some 23,.move (.tmp 0),none⟩,[]⟩,⟨⟨some 24,.move (.tmp 2),none⟩,[]⟩,
 ⟨⟨some 25,.move (.tmp 3),none⟩,[]⟩,⟨⟨some 26,.move (.tmp 4),none⟩,[]⟩,⟨⟨some 27,.move (.tmp 5),none⟩,[]⟩,⟨⟨some 28,.call ⟨(.value (.func 223)),#[.tmp 23,.tmp 24,.tmp 25,.tmp 26,.tmp 27],#[32,3,3,187,41]⟩,none⟩,[]⟩,⟨⟨some 22,.move (.tmp 28),none⟩,[]⟩,⟨⟨some 29,.extract (.tmp 22) 0,none⟩,[]⟩,⟨⟨some 30,.extract (.tmp 22) 1,none⟩,[]⟩,⟨⟨some 2,.assign (.tmp 29),none⟩,[]⟩,⟨⟨some 3,.assign (.tmp 30),none⟩,[]⟩]) (.seq (.reg [⟨⟨some 32,.move (.tmp 0),none⟩,[]⟩,⟨⟨some 33,.move (.tmp 1),none⟩,[]⟩,⟨⟨some 34,.move (.tmp 2),none⟩,[]⟩,⟨⟨some 35,.move (.tmp 4),none⟩,[]⟩,
 ⟨⟨some 36,.move (.tmp 5),none⟩,[]⟩,
  ⟨⟨some 37,.call ⟨(.value (.func 223)),#[.tmp 32,.tmp 33,.tmp 34,.tmp 35,.tmp 36],#[32,3,3,187,41]⟩,none⟩,[]⟩,
  ⟨⟨some 31,.move (.tmp 37),none⟩,[]⟩,
  ⟨⟨some 38,.extract (.tmp 31) 0,none⟩,[]⟩,
  ⟨⟨some 39,.extract (.tmp 31) 1,none⟩,[]⟩,
  ⟨⟨some 1,.assign (.tmp 38),none⟩,[]⟩,
  ⟨⟨some 2,.assign (.tmp 39),none⟩,[]⟩]) (.seq (.reg [⟨⟨some 40,.move (.tmp 2),none⟩,[]⟩,
  ⟨⟨some 12,.assign (.tmp 40),none⟩,[]⟩]) .ret)))))
theorem in219:InT Tryz.prog 219 6 [.tmp 12] cd219:=InT.mk (by kernel_rfl) [] Tryz.func219 rfl (by kernel_rfl) (by kernel_rfl) (of_decide_eq_true (by kernel_rfl)) (by kernel_rfl)
def cd218:Cd:=(.seq (.reg [⟨⟨some 8,.assign (.const (.int .i64 0)),none⟩,[]⟩]) (.seq (.reg [⟨⟨some 9,.move (.tmp 0),none⟩,[]⟩,
 ⟨⟨some 10,.move (.tmp 1),none⟩,[]⟩,
 ⟨⟨some 11,.binOp .sub 3 (.tmp 10) (.const (.int .i64 1)) 3,none⟩,[]⟩,
 ⟨⟨some 12,.move (.tmp 1),none⟩,[]⟩,
 ⟨⟨some 13,.move (.tmp 1),none⟩,[]⟩,
 ⟨⟨some 14,.binOp .add 3 (.tmp 13) (.const (.int .i64 1)) 3,none⟩,[]⟩,
 ⟨⟨some 15,.move (.tmp 2),none⟩,[]⟩,
 ⟨⟨some 16,.move (.tmp 3),none⟩,[]⟩,
 ⟨⟨some 17,.call ⟨(.value (.func 219)),#[.tmp 9,.tmp 11,.tmp 12,.tmp 14,.tmp 15,.tmp 16],#[32,3,3,3,187,41]⟩,none⟩,[]⟩,
 ⟨⟨some 8,.assign (.tmp 17),none⟩,[]⟩]) .ret))
theorem in218:InT Tryz.prog 218 4 [.tmp 8] cd218:=InT.mk (by kernel_rfl) [] Tryz.func218 rfl (by kernel_rfl) (by kernel_rfl) (of_decide_eq_true (by kernel_rfl)) (by kernel_rfl)
def cd192:Cd:=(.seq (.reg [⟨⟨some 8,.assign (.const (.bool false)),none⟩,[]⟩]) (.seq (.reg [⟨⟨some 13,.move (.tmp 1),none⟩,[]⟩,⟨⟨some 14,.binOp .add 3 (.tmp 13) (.const (.int .i64 1)) 3,none⟩,[]⟩,⟨⟨some 9,.assign (.tmp 14),none⟩,[]⟩]) (.seq (.seq (.reg [⟨⟨some 10,.assign (.const (.int .i64 0)),none⟩,[]⟩]) (.block 0 (.loop (.seq (.seq (.reg [⟨⟨some 15,.move (.tmp 10),none⟩,[]⟩,⟨⟨some 16,.binOp .lss 3 (.tmp 15) (.const (.int .i64 5)) 3,none⟩,[]⟩]) (.cond (.tmp 16) .skip (.exit 0))) (.seq (.block 1 (.seq (.block 2 (.loop (.seq (.seq (.reg [⟨⟨some 19,.move (.tmp 9),none⟩,[]⟩,⟨⟨some 20,.move (.tmp 2),none⟩,[]⟩,⟨⟨some 21,.binOp .lss 3 (.tmp 19) (.tmp 20) 3,none⟩,[]⟩,⟨⟨some 22,.move (.tmp 21),none⟩,[]⟩,⟨⟨some 23,.move (.tmp 3),some (22,true)⟩,[]⟩,⟨⟨some 24,.move (.tmp 0),some (22,true)⟩,[]⟩,⟨⟨some 25,.move (.tmp 9),some (22,true)⟩,[]⟩,⟨⟨some 26,.indexAddr 32 (.tmp 24) (.tmp 25),some (22,true)⟩,[]⟩,⟨⟨some 27,.load 27 (.tmp 26),some (22,true)⟩,[]⟩,
 ⟨⟨some 28,.move (.tmp 0),some (22,true)⟩,[]⟩,⟨⟨some 29,.move (.tmp 9),some (22,true)⟩,[]⟩,⟨⟨some 30,.binOp .sub 3 (.tmp 29) (.const (.int .i64 1)) 3,some (22,true)⟩,[]⟩,⟨⟨some 31,.indexAddr 32 (.tmp 28) (.tmp 30),some (22,true)⟩,[]⟩,⟨⟨some 32,.load 27 (.tmp 31),some (22,true)⟩,[]⟩,⟨⟨some 33,.call ⟨(.value (.tmp 23)),#[.tmp 27,.tmp 32],#[27,27]⟩,some (22,true)⟩,[]⟩,⟨⟨some 34,.binOp .lss 3 (.tmp 33) (.const (.int .i64 0)) 3,some (22,true)⟩,[]⟩,⟨⟨some 35,.unOp .not 4 (.tmp 34),some (22,true)⟩,[]⟩,⟨⟨some 36,.pick (.tmp 22) (.tmp 35) (.const (.bool false)),none⟩,[]⟩]) (.cond (.tmp 36) .skip (.exit 2))) (.block 3 (.reg [⟨⟨some 37,.move (.tmp 9),none⟩,[]⟩,⟨⟨some 38,.binOp .add 3 (.tmp 37) (.const (.int .i64 1)) 3,none⟩,[]⟩,⟨⟨some 9,.assign (.tmp 38),none⟩,[]⟩]))))) (.seq (.seq (.reg [⟨⟨some 39,.move (.tmp 9),none⟩,[]⟩,⟨⟨some 40,.move (.tmp 2),none⟩,[]⟩,
 ⟨⟨some 41,.binOp .eql 3 (.tmp 39) (.tmp 40) 3,none⟩,[]⟩]) (.cond (.tmp 41) (.seq (.reg [⟨⟨some 8,.assign (.const (.bool true)),none⟩,[]⟩]) .ret) .skip)) (.seq (.seq (.reg [⟨⟨some 42,.move (.tmp 2),none⟩,[]⟩,⟨⟨some 43,.move (.tmp 1),none⟩,[]⟩,⟨⟨some 44,.binOp .sub 3 (.tmp 42) (.tmp 43) 3,none⟩,[]⟩,⟨⟨some 45,.binOp .lss 3 (.tmp 44) (.const (.int .i64 50)) 3,none⟩,[]⟩]) (.cond (.tmp 45) (.seq (.reg [⟨⟨some 8,.assign (.const (.bool false)),none⟩,[]⟩]) .ret) .skip)) (.seq (.reg [⟨⟨some 46,.move (.tmp 0),none⟩,[]⟩,⟨⟨some 47,.move (.tmp 9),none⟩,[]⟩,⟨⟨some 48,.move (.tmp 0),none⟩,[]⟩,⟨⟨some 49,.move (.tmp 9),none⟩,[]⟩,⟨⟨some 50,.binOp .sub 3 (.tmp 49) (.const (.int .i64 1)) 3,none⟩,[]⟩,⟨⟨some 51,.move (.tmp 0),none⟩,[]⟩,⟨⟨some 52,.move (.tmp 9),none⟩,[]⟩,⟨⟨some 53,.binOp .sub 3 (.tmp 52) (.const (.int .i64 1)) 3,none⟩,[]⟩,⟨⟨some 54,.indexAddr 32 (.tmp 51) (.tmp 53),none⟩,[]⟩,
 ⟨⟨some 55,.load 27 (.tmp 54),none⟩,[]⟩,⟨⟨some 56,.move (.tmp 0),none⟩,[]⟩,⟨⟨some 57,.move (.tmp 9),none⟩,[]⟩,⟨⟨some 58,.indexAddr 32 (.tmp 56) (.tmp 57),none⟩,[]⟩,⟨⟨some 59,.load 27 (.tmp 58),none⟩,[]⟩,⟨⟨some 60,.indexAddr 32 (.tmp 46) (.tmp 47),none⟩,[]⟩,⟨⟨none,.store 27 (.tmp 60) (.tmp 55),none⟩,[]⟩,⟨⟨some 61,.indexAddr 32 (.tmp 48) (.tmp 50),none⟩,[]⟩,⟨⟨none,.store 27 (.tmp 61) (.tmp 59),none⟩,[]⟩]) (.seq (.seq (.reg [⟨⟨some 62,.move (.tmp 9),none⟩,[]⟩,⟨⟨some 63,.move (.tmp 1),none⟩,[]⟩,⟨⟨some 64,.binOp .sub 3 (.tmp 62) (.tmp 63) 3,none⟩,[]⟩,⟨⟨some 65,.binOp .geq 3 (.tmp 64) (.const (.int .i64 2)) 3,none⟩,[]⟩]) (.cond (.tmp 65) (.seq (.reg [⟨⟨some 66,.move (.tmp 9),none⟩,[]⟩,
 ⟨⟨some 67,.binOp .sub 3 (.tmp 66) (.const (.int .i64 1)) 3,none⟩,[]⟩,⟨⟨some 11,.assign (.tmp 67),none⟩,[]⟩]) (.block 4 (.loop (.seq (.seq (.reg [⟨⟨some 68,.move (.tmp 11),none⟩,[]⟩,⟨⟨some 69,.binOp .geq 3 (.tmp 68) (.const (.int .i64 1)) 3,none⟩,[]⟩]) (.cond (.tmp 69) .skip (.exit 4))) (.seq (.block 5 (.seq (.seq (.reg [⟨⟨some 72,.move (.tmp 3),none⟩,[]⟩,⟨⟨some 73,.move (.tmp 0),none⟩,[]⟩,⟨⟨some 74,.move (.tmp 11),none⟩,[]⟩,⟨⟨some 75,.indexAddr 32 (.tmp 73) (.tmp 74),none⟩,[]⟩,⟨⟨some 76,.load 27 (.tmp 75),none⟩,[]⟩,⟨⟨some 77,.move (.tmp 0),none⟩,[]⟩,⟨⟨some 78,.move (.tmp 11),none⟩,[]⟩,⟨⟨some 79,.binOp .sub 3 (.tmp 78) (.const (.int .i64 1)) 3,none⟩,[]⟩,⟨⟨some 80,.indexAddr 32 (.tmp 77) (.tmp 79),none⟩,[]⟩,⟨⟨some 81,.load 27 (.tmp 80),none⟩,[]⟩,
 ⟨⟨some 82,.call ⟨(.value (.tmp 72)),#[.tmp 76,.tmp 81],#[27,27]⟩,none⟩,[]⟩,⟨⟨some 83,.binOp .lss 3 (.tmp 82) (.const (.int .i64 0)) 3,none⟩,[]⟩,⟨⟨some 84,.unOp .not 4 (.tmp 83),none⟩,[]⟩]) (.cond (.tmp 84) (.exit 4) .skip)) (.reg [⟨⟨some 85,.move (.tmp 0),none⟩,[]⟩,⟨⟨some 86,.move (.tmp 11),none⟩,[]⟩,⟨⟨some 87,.move (.tmp 0),none⟩,[]⟩,⟨⟨some 88,.move (.tmp 11),none⟩,[]⟩,⟨⟨some 89,.binOp .sub 3 (.tmp 88) (.const (.int .i64 1)) 3,none⟩,[]⟩,⟨⟨some 90,.move (.tmp 0),none⟩,[]⟩,⟨⟨some 91,.move (.tmp 11),none⟩,[]⟩,⟨⟨some 92,.binOp .sub 3 (.tmp 91) (.const (.int .i64 1)) 3,none⟩,[]⟩,⟨⟨some 93,.indexAddr 32 (.tmp 90) (.tmp 92),none⟩,[]⟩,⟨⟨some 94,.load 27 (.tmp 93),none⟩,[]⟩,
 ⟨⟨some 95,.move (.tmp 0),none⟩,[]⟩,⟨⟨some 96,.move (.tmp 11),none⟩,[]⟩,⟨⟨some 97,.indexAddr 32 (.tmp 95) (.tmp 96),none⟩,[]⟩,⟨⟨some 98,.load 27 (.tmp 97),none⟩,[]⟩,⟨⟨some 99,.indexAddr 32 (.tmp 85) (.tmp 86),none⟩,[]⟩,⟨⟨none,.store 27 (.tmp 99) (.tmp 94),none⟩,[]⟩,⟨⟨some 100,.indexAddr 32 (.tmp 87) (.tmp 89),none⟩,[]⟩,⟨⟨none,.store 27 (.tmp 100) (.tmp 98),none⟩,[]⟩]))) (.reg [⟨⟨some 70,.move (.tmp 11),none⟩,[]⟩,⟨⟨some 71,.binOp .sub 3 (.tmp 70) (.const (.int .i64 1)) 3,none⟩,[]⟩,⟨⟨some 11,.assign (.tmp 71),none⟩,[]⟩])))))) .skip)) (.seq (.reg [⟨⟨some 101,.move (.tmp 2),none⟩,[]⟩,⟨⟨some 102,.move (.tmp 9),none⟩,[]⟩,⟨⟨some 103,.binOp .sub 3 (.tmp 101) (.tmp 102) 3,none⟩,[]⟩,
 ⟨⟨some 104,.binOp .geq 3 (.tmp 103) (.const (.int .i64 2)) 3,none⟩,[]⟩]) (.cond (.tmp 104) (.seq (.reg [⟨⟨some 105,.move (.tmp 9),none⟩,[]⟩,⟨⟨some 106,.binOp .add 3 (.tmp 105) (.const (.int .i64 1)) 3,none⟩,[]⟩,⟨⟨some 12,.assign (.tmp 106),none⟩,[]⟩]) (.block 6 (.loop (.seq (.seq (.reg [⟨⟨some 107,.move (.tmp 12),none⟩,[]⟩,⟨⟨some 108,.move (.tmp 2),none⟩,[]⟩,⟨⟨some 109,.binOp .lss 3 (.tmp 107) (.tmp 108) 3,none⟩,[]⟩]) (.cond (.tmp 109) .skip (.exit 6))) (.seq (.block 7 (.seq (.seq (.reg [⟨⟨some 112,.move (.tmp 3),none⟩,[]⟩,⟨⟨some 113,.move (.tmp 0),none⟩,[]⟩,⟨⟨some 114,.move (.tmp 12),none⟩,[]⟩,⟨⟨some 115,.indexAddr 32 (.tmp 113) (.tmp 114),none⟩,[]⟩,⟨⟨some 116,.load 27 (.tmp 115),none⟩,[]⟩,⟨⟨some 117,.move (.tmp 0),none⟩,[]⟩,⟨⟨some 118,.move (.tmp 12),none⟩,[]⟩,⟨⟨some 119,.binOp .sub 3 (.tmp 118) (.const (.int .i64 1)) 3,none⟩,[]⟩,
 ⟨⟨some 120,.indexAddr 32 (.tmp 117) (.tmp 119),none⟩,[]⟩,⟨⟨some 121,.load 27 (.tmp 120),none⟩,[]⟩,⟨⟨some 122,.call ⟨(.value (.tmp 112)),#[.tmp 116,.tmp 121],#[27,27]⟩,none⟩,[]⟩,⟨⟨some 123,.binOp .lss 3 (.tmp 122) (.const (.int .i64 0)) 3,none⟩,[]⟩,⟨⟨some 124,.unOp .not 4 (.tmp 123),none⟩,[]⟩]) (.cond (.tmp 124) (.exit 6) .skip)) (.reg [⟨⟨some 125,.move (.tmp 0),none⟩,[]⟩,⟨⟨some 126,.move (.tmp 12),none⟩,[]⟩,⟨⟨some 127,.move (.tmp 0),none⟩,[]⟩,⟨⟨some 128,.move (.tmp 12),none⟩,[]⟩,⟨⟨some 129,.binOp .sub 3 (.tmp 128) (.const (.int .i64 1)) 3,none⟩,[]⟩,⟨⟨some 130,.move (.tmp 0),none⟩,[]⟩,⟨⟨some 131,.move (.tmp 12),none⟩,[]⟩,⟨⟨some 132,.binOp .sub 3 (.tmp 131) (.const (.int .i64 1)) 3,none⟩,[]⟩,
 ⟨⟨some 133,.indexAddr 32 (.tmp 130) (.tmp 132),none⟩,[]⟩,⟨⟨some 134,.load 27 (.tmp 133),none⟩,[]⟩,⟨⟨some 135,.move (.tmp 0),none⟩,[]⟩,⟨⟨some 136,.move (.tmp 12),none⟩,[]⟩,⟨⟨some 137,.indexAddr 32 (.tmp 135) (.tmp 136),none⟩,[]⟩,⟨⟨some 138,.load 27 (.tmp 137),none⟩,[]⟩,⟨⟨some 139,.indexAddr 32 (.tmp 125) (.tmp 126),none⟩,[]⟩,⟨⟨none,.store 27 (.tmp 139) (.tmp 134),none⟩,[]⟩,⟨⟨some 140,.indexAddr 32 (.tmp 127) (.tmp 129),none⟩,[]⟩,⟨⟨none,.store 27 (.tmp 140) (.tmp 138),none⟩,[]⟩]))) (.reg [⟨⟨some 110,.move (.tmp 12),none⟩,[]⟩,⟨⟨some 111,.binOp .add 3 (.tmp 110) (.const (.int .i64 1)) 3,none⟩,[]⟩,⟨⟨some 12,.assign (.tmp 111),none⟩,[]⟩])))))) .skip)))))))) (.reg [⟨⟨some 17,.move (.tmp 10),none⟩,[]⟩,
 ⟨⟨some 18,.binOp .add 3 (.tmp 17) (.const (.int .i64 1)) 3,none⟩,[]⟩,
  ⟨⟨some 10,.assign (.tmp 18),none⟩,[]⟩])))))) (.seq (.reg [⟨⟨some 8,.assign (.const (.bool false)),none⟩,[]⟩]) .ret))))
theorem in192:InT Tryz.prog 192 4 [.tmp 8] cd192:=InT.mk (by kernel_rfl) [(5,[(0,false),(1,false),(2,false),(3,false),(4,false),(5,false),(6,false),(7,false),(8,false),(9,false),(10,false),(11,false),(12,false),(13,false),(14,true),(15,false),(16,false),(17,false)]),(11,[(0,false),(1,false),(2,false),(3,false),(4,false),(5,false),(6,false),(7,false),(8,false),(9,false),(10,false),(11,false),(12,false),(13,false),(14,false),(15,true),(16,false),(17,true)]),(16,[(0,false),(1,false),(2,false),(3,false),(4,false),(5,false),(6,false),(7,false),(8,false),(9,false),(10,true),(11,false),(12,false)]),(17,[(0,false),(1,false),(2,false),(3,false),(4,false),(5,false),(6,false),(7,false),(8,false),(9,false),(10,false),(11,false),(12,false),(13,false),(14,false),(15,true),(16,false),(17,true)]),(22,[(0,false),(1,false),(2,false),(3,false),(4,false),(5,false),(6,false),(7,false),(8,false),(9,false),(10,true),(11,false),(12,false)]),(23,[(0,false),(1,false),(2,false),(3,false),(4,false),(5,false),(6,false),(7,false),(8,false),(9,false),(10,false),(11,false),(12,false),(13,false),(14,false),(15,true),(16,false),(17,true)])] Tryz.func192 rfl (by kernel_rfl) (by kernel_rfl) (of_decide_eq_true (by kernel_rfl)) (by kernel_rfl)
def cd187:Cd:=(.seq (.reg [⟨⟨some 10,.move (.tmp 1),none⟩,[]⟩,⟨⟨some 11,.binOp .add 3 (.tmp 10) (.const (.int .i64 1)) 3,none⟩,[]⟩,⟨⟨some 8,.assign (.tmp 11),none⟩,[]⟩]) (.block 0 (.loop (.seq (.seq (.reg [⟨⟨some 12,.move (.tmp 8),none⟩,[]⟩,⟨⟨some 13,.move (.tmp 2),none⟩,[]⟩,⟨⟨some 14,.binOp .lss 3 (.tmp 12) (.tmp 13) 3,none⟩,[]⟩]) (.cond (.tmp 14) .skip (.exit 0))) (.seq (.block 1 (.seq (.reg [⟨⟨some 17,.move (.tmp 8),none⟩,[]⟩,⟨⟨some 9,.assign (.tmp 17),none⟩,[]⟩]) (.block 2 (.loop (.seq (.seq (.reg [⟨⟨some 18,.move (.tmp 9),none⟩,[]⟩,⟨⟨some 19,.move (.tmp 1),none⟩,[]⟩,⟨⟨some 20,.binOp .gtr 3 (.tmp 18) (.tmp 19) 3,none⟩,[]⟩,⟨⟨some 21,.move (.tmp 20),none⟩,[]⟩,⟨⟨some 22,.move (.tmp 3),some (21,true)⟩,[]⟩,⟨⟨some 23,.move (.tmp 0),some (21,true)⟩,[]⟩,⟨⟨some 24,.move (.tmp 9),some (21,true)⟩,[]⟩,
 ⟨⟨some 25,.indexAddr 32 (.tmp 23) (.tmp 24),some (21,true)⟩,[]⟩,⟨⟨some 26,.load 27 (.tmp 25),some (21,true)⟩,[]⟩,⟨⟨some 27,.move (.tmp 0),some (21,true)⟩,[]⟩,⟨⟨some 28,.move (.tmp 9),some (21,true)⟩,[]⟩,⟨⟨some 29,.binOp .sub 3 (.tmp 28) (.const (.int .i64 1)) 3,some (21,true)⟩,[]⟩,⟨⟨some 30,.indexAddr 32 (.tmp 27) (.tmp 29),some (21,true)⟩,[]⟩,⟨⟨some 31,.load 27 (.tmp 30),some (21,true)⟩,[]⟩,⟨⟨some 32,.call ⟨(.value (.tmp 22)),#[.tmp 26,.tmp 31],#[27,27]⟩,some (21,true)⟩,[]⟩,⟨⟨some 33,.binOp .lss 3 (.tmp 32) (.const (.int .i64 0)) 3,some (21,true)⟩,[]⟩,⟨⟨some 34,.pick (.tmp 21) (.tmp 33) (.const (.bool false)),none⟩,[]⟩]) (.cond (.tmp 34) .skip (.exit 2))) (.seq (.block 3 (.reg [⟨⟨some 37,.move (.tmp 0),none⟩,[]⟩,⟨⟨some 38,.move (.tmp 9),none⟩,[]⟩,⟨⟨some 39,.move (.tmp 0),none⟩,[]⟩,
 ⟨⟨some 40,.move (.tmp 9),none⟩,[]⟩,⟨⟨some 41,.binOp .sub 3 (.tmp 40) (.const (.int .i64 1)) 3,none⟩,[]⟩,⟨⟨some 42,.move (.tmp 0),none⟩,[]⟩,⟨⟨some 43,.move (.tmp 9),none⟩,[]⟩,⟨⟨some 44,.binOp .sub 3 (.tmp 43) (.const (.int .i64 1)) 3,none⟩,[]⟩,⟨⟨some 45,.indexAddr 32 (.tmp 42) (.tmp 44),none⟩,[]⟩,⟨⟨some 46,.load 27 (.tmp 45),none⟩,[]⟩,⟨⟨some 47,.move (.tmp 0),none⟩,[]⟩,⟨⟨some 48,.move (.tmp 9),none⟩,[]⟩,⟨⟨some 49,.indexAddr 32 (.tmp 47) (.tmp 48),none⟩,[]⟩,⟨⟨some 50,.load 27 (.tmp 49),none⟩,[]⟩,⟨⟨some 51,.indexAddr 32 (.tmp 37) (.tmp 38),none⟩,[]⟩,
 ⟨⟨none,.store 27 (.tmp 51) (.tmp 46),none⟩,[]⟩,
  ⟨⟨some 52,.indexAddr 32 (.tmp 39) (.tmp 41),none⟩,[]⟩,
  ⟨⟨none,.store 27 (.tmp 52) (.tmp 50),none⟩,[]⟩])) (.reg [⟨⟨some 35,.move (.tmp 9),none⟩,[]⟩,
  ⟨⟨some 36,.binOp .sub 3 (.tmp 35) (.const (.int .i64 1)) 3,none⟩,[]⟩,
  ⟨⟨some 9,.assign (.tmp 36),none⟩,[]⟩]))))))) (.reg [⟨⟨some 15,.move (.tmp 8),none⟩,[]⟩,
  ⟨⟨some 16,.binOp .add 3 (.tmp 15) (.const (.int .i64 1)) 3,none⟩,[]⟩,
  ⟨⟨some 8,.assign (.tmp 16),none⟩,[]⟩]))))))
theorem in187:InT Tryz.prog 187 4 [] cd187:=InT.mk (by kernel_rfl) [(4,[(0,false),(1,false),(2,false),(3,false),(4,false),(5,false),(6,false),(7,false),(8,false),(9,false),(10,false),(11,false),(12,false),(13,false),(14,true),(15,false),(16,false)]),(6,[(0,false),(1,false),(2,false),(3,false),(4,false),(5,false),(6,false),(7,false),(8,false),(9,false),(10,false),(11,false),(12,false),(13,false),(14,false),(15,true),(16,false),(17,true)])] Tryz.func187 rfl (by kernel_rfl) (by kernel_rfl) (of_decide_eq_true (by kernel_rfl)) (by kernel_rfl)
def cd190:Cd:=(.seq (.reg [⟨⟨some 8,.assign (.const (.int .i64 0)),none⟩,[]⟩,⟨⟨some 9,.assign (.const (.int .i64 0)),none⟩,[]⟩]) (.seq (.reg [⟨⟨some 15,.move (.tmp 2),none⟩,[]⟩,⟨⟨some 16,.move (.tmp 1),none⟩,[]⟩,⟨⟨some 17,.binOp .sub 3 (.tmp 15) (.tmp 16) 3,none⟩,[]⟩,⟨⟨some 10,.assign (.tmp 17),none⟩,[]⟩]) (.seq (.reg [⟨⟨some 11,.alloc 3,none⟩,[]⟩]) (.seq (.reg [⟨⟨some 18,.move (.tmp 1),none⟩,[]⟩,⟨⟨some 19,.move (.tmp 10),none⟩,[]⟩,⟨⟨some 20,.binOp .quo 3 (.tmp 19) (.const (.int .i64 4)) 3,none⟩,[]⟩,⟨⟨some 21,.binOp .mul 3 (.tmp 20) (.const (.int .i64 1)) 3,none⟩,[]⟩,⟨⟨some 22,.binOp .add 3 (.tmp 18) (.tmp 21) 3,none⟩,[]⟩,⟨⟨some 12,.assign (.tmp 22),none⟩,[]⟩]) (.seq (.reg [⟨⟨some 23,.move (.tmp 1),none⟩,[]⟩,⟨⟨some 24,.move (.tmp 10),none⟩,[]⟩,⟨⟨some 25,.binOp .quo 3 (.tmp 24) (.const (.int .i64 4)) 3,none⟩,[]⟩,
 ⟨⟨some 26,.binOp .mul 3 (.tmp 25) (.const (.int .i64 2)) 3,none⟩,[]⟩,⟨⟨some 27,.binOp .add 3 (.tmp 23) (.tmp 26) 3,none⟩,[]⟩,⟨⟨some 13,.assign (.tmp 27),none⟩,[]⟩]) (.seq (.reg [⟨⟨some 28,.move (.tmp 1),none⟩,[]⟩,⟨⟨some 29,.move (.tmp 10),none⟩,[]⟩,⟨⟨some 30,.binOp .quo 3 (.tmp 29) (.const (.int .i64 4)) 3,none⟩,[]⟩,⟨⟨some 31,.binOp .mul 3 (.tmp 30) (.const (.int .i64 3)) 3,none⟩,[]⟩,⟨⟨some 32,.binOp .add 3 (.tmp 28) (.tmp 31) 3,none⟩,[]⟩,⟨⟨some 14,.assign (.tmp 32),none⟩,[]⟩]) (.seq (.seq (.reg [⟨⟨some 33,.move (.tmp 10),none⟩,[]⟩,⟨⟨some 34,.binOp .geq 3 (.tmp 33) (.const (.int .i64 8)) 3,none⟩,[]⟩]) (.cond (.tmp 34) (.seq (.seq (.reg [⟨⟨some 35,.move (.tmp 10),none⟩,[]⟩,⟨⟨some 36,.binOp .geq 3 (.tmp 35) (.const (.int .i64 50)) 3,none⟩,[]⟩]) (.cond (.tmp 36) (.seq (.reg [⟨⟨some 37,.move (.tmp 0),none⟩,[]⟩,⟨⟨some 38,.move (.tmp 12),none⟩,[]⟩,⟨⟨some 39,.move (.tmp 3),none⟩,[]⟩,
 ⟨⟨some 40,.call ⟨(.value (.func 218)),#[.tmp 37,.tmp 38,.tmp 11,.tmp 39],#[32,3,187,41]⟩,none⟩,[]⟩,⟨⟨some 12,.assign (.tmp 40),none⟩,[]⟩]) (.seq (.reg [⟨⟨some 41,.move (.tmp 0),none⟩,[]⟩,⟨⟨some 42,.move (.tmp 13),none⟩,[]⟩,⟨⟨some 43,.move (.tmp 3),none⟩,[]⟩,⟨⟨some 44,.call ⟨(.value (.func 218)),#[.tmp 41,.tmp 42,.tmp 11,.tmp 43],#[32,3,187,41]⟩,none⟩,[]⟩,⟨⟨some 13,.assign (.tmp 44),none⟩,[]⟩]) (.reg [⟨⟨some 45,.move (.tmp 0),none⟩,[]⟩,⟨⟨some 46,.move (.tmp 14),none⟩,[]⟩,⟨⟨some 47,.move (.tmp 3),none⟩,[]⟩,⟨⟨some 48,.call ⟨(.value (.func 218)),#[.tmp 45,.tmp 46,.tmp 11,.tmp 47],#[32,3,187,41]⟩,none⟩,[]⟩,⟨⟨some 14,.assign (.tmp 48),none⟩,[]⟩]))) .skip)) (.reg [⟨⟨some 49,.move (.tmp 0),none⟩,[]⟩,⟨⟨some 50,.move (.tmp 12),none⟩,[]⟩,⟨⟨some 51,.move (.tmp 13),none⟩,[]⟩,
 ⟨⟨some 52,.move (.tmp 14),none⟩,[]⟩,
  ⟨⟨some 53,.move (.tmp 3),none⟩,[]⟩,
  ⟨⟨some 54,.call ⟨(.value (.func 219)),#[.tmp 49,.tmp 50,.tmp 51,.tmp 52,.tmp 11,.tmp 53],#[32,3,3,3,187,41]⟩,none⟩,[]⟩,
  ⟨⟨some 13,.assign (.tmp 54),none⟩,[]⟩])) .skip)) (.seq (.reg [⟨⟨some 55,.load 3 (.tmp 11),none⟩,[]⟩]) (.block 0 (.seq (.reg [⟨⟨some 58,.binOp .eql 3 (.tmp 55) (.const (.int .i64 0)) 3,none⟩,[]⟩,
  ⟨⟨some 57,.assign (.tmp 58),none⟩,[]⟩]) (.cond (.tmp 57) (.seq (.reg [⟨⟨some 59,.move (.tmp 13),none⟩,[]⟩,
  ⟨⟨some 8,.assign (.tmp 59),none⟩,[]⟩,
  ⟨⟨some 9,.assign (.const (.int .i64 1)),none⟩,[]⟩]) .ret) (.seq (.reg [⟨⟨some 61,.binOp .eql 3 (.tmp 55) (.const (.int .i64 12)) 3,none⟩,[]⟩,
  ⟨⟨some 60,.assign (.tmp 61),none⟩,[]⟩]) (.cond (.tmp 60) (.seq (.reg [⟨⟨some 62,.move (.tmp 13),none⟩,[]⟩,
  ⟨⟨some 8,.assign (.tmp 62),none⟩,[]⟩,
  ⟨⟨some 9,.assign (.const (.int .i64 2)),none⟩,[]⟩]) .ret) (.seq (.reg [⟨⟨some 56,.move (.tmp 13),none⟩,[]⟩,
  ⟨⟨some 8,.assign (.tmp 56),none⟩,[]⟩,
  ⟨⟨some 9,.assign (.const (.int .i64 0)),none⟩,[]⟩]) .ret))))))))))))))
theorem in190:InT Tryz.prog 190 4 [.tmp 8,.tmp 9] cd190:=InT.mk (by kernel_rfl) [] Tryz.func190 rfl (by kernel_rfl) (by kernel_rfl) (of_decide_eq_true (by kernel_rfl)) (by kernel_rfl)
def cd165:Cd:=(.seq (.reg [⟨⟨some 10,.assign (.const (.bool true)),none⟩,[]⟩]) (.seq (.reg [⟨⟨some 11,.assign (.const (.bool true)),none⟩,[]⟩]) (.block 0 (.loop (.block 1 (.seq (.reg [⟨⟨some 21,.move (.tmp 2),none⟩,[]⟩,⟨⟨some 22,.move (.tmp 1),none⟩,[]⟩,⟨⟨some 23,.binOp .sub 3 (.tmp 21) (.tmp 22) 3,none⟩,[]⟩,⟨⟨some 12,.assign (.tmp 23),none⟩,[]⟩]) (.seq (.seq (.reg [⟨⟨some 24,.move (.tmp 12),none⟩,[]⟩,⟨⟨some 25,.binOp .leq 3 (.tmp 24) (.const (.int .i64 12)) 3,none⟩,[]⟩]) (.cond (.tmp 25) (.seq (.reg [⟨⟨some 26,.move (.tmp 0),none⟩,[]⟩,⟨⟨some 27,.move (.tmp 1),none⟩,[]⟩,⟨⟨some 28,.move (.tmp 2),none⟩,[]⟩,⟨⟨some 29,.move (.tmp 4),none⟩,[]⟩,⟨⟨some 30,.call ⟨(.value (.func 187)),#[.tmp 26,.tmp 27,.tmp 28,.tmp 29],#[32,3,3,41]⟩,none⟩,[]⟩]) .ret) .skip)) (.seq (.seq (.reg [⟨⟨some 31,.move (.tmp 3),none⟩,[]⟩,⟨⟨some 32,.binOp .eql 3 (.tmp 31) (.const (.int .i64 0)) 3,none⟩,[]⟩]) (.cond (.tmp 32) (.seq (.reg [⟨⟨some 33,.move (.tmp 0),none⟩,[]⟩,⟨⟨some 34,.move (.tmp 1),none⟩,[]⟩,⟨⟨some 35,.move (.tmp 2),none⟩,[]⟩,
 ⟨⟨some 36,.move (.tmp 4),none⟩,[]⟩,⟨⟨some 37,.call ⟨(.value (.func 188)),#[.tmp 33,.tmp 34,.tmp 35,.tmp 36],#[32,3,3,41]⟩,none⟩,[]⟩]) .ret) .skip)) (.seq (.seq (.reg [⟨⟨some 38,.move (.tmp 10),none⟩,[]⟩,⟨⟨some 39,.unOp .not 4 (.tmp 38),none⟩,[]⟩]) (.cond (.tmp 39) (.seq (.reg [⟨⟨some 40,.move (.tmp 0),none⟩,[]⟩,⟨⟨some 41,.move (.tmp 1),none⟩,[]⟩,⟨⟨some 42,.move (.tmp 2),none⟩,[]⟩,⟨⟨some 43,.move (.tmp 4),none⟩,[]⟩,⟨⟨some 44,.call ⟨(.value (.func 189)),#[.tmp 40,.tmp 41,.tmp 42,.tmp 43],#[32,3,3,41]⟩,none⟩,[]⟩]) (.reg [⟨⟨some 45,.move (.tmp 3),none⟩,[]⟩,⟨⟨some 46,.binOp .sub 3 (.tmp 45) (.const (.int .i64 1)) 3,none⟩,[]⟩,⟨⟨some 3,.assign (.tmp 46),none⟩,[]⟩])) .skip)) (.seq (.reg [⟨⟨some 48,.move (.tmp 0),none⟩,[]⟩,⟨⟨some 49,.move (.tmp 1),none⟩,[]⟩,⟨⟨some 50,.move (.tmp 2),none⟩,[]⟩,⟨⟨some 51,.move (.tmp 4),none⟩,[]⟩,
 ⟨⟨some 52,.call ⟨(.value (.func 190)),#[.tmp 48,.tmp 49,.tmp 50,.tmp 51],#[32,3,3,41]⟩,none⟩,[]⟩,⟨⟨some 47,.move (.tmp 52),none⟩,[]⟩,⟨⟨some 53,.extract (.tmp 47) 0,none⟩,[]⟩,⟨⟨some 54,.extract (.tmp 47) 1,none⟩,[]⟩,⟨⟨some 13,.assign (.tmp 53),none⟩,[]⟩,⟨⟨some 14,.assign (.tmp 54),none⟩,[]⟩]) (.seq (.seq (.reg [⟨⟨some 55,.move (.tmp 14),none⟩,[]⟩,⟨⟨some 56,.binOp .eql 162 (.tmp 55) (.const (.int .i64 2)) 162,none⟩,[]⟩]) (.cond (.tmp 56) (.seq (.reg [⟨⟨some 57,.move (.tmp 0),none⟩,[]⟩,⟨⟨some 58,.move (.tmp 1),none⟩,[]⟩,⟨⟨some 59,.move (.tmp 2),none⟩,[]⟩,⟨⟨some 60,.move (.tmp 4),none⟩,[]⟩,⟨⟨some 61,.call ⟨(.value (.func 191)),#[.tmp 57,.tmp 58,.tmp 59,.tmp 60],#[32,3,3,41]⟩,none⟩,[]⟩]) (.seq (.reg [⟨⟨some 62,.move (.tmp 2),none⟩,[]⟩,⟨⟨some 63,.binOp .sub 3 (.tmp 62) (.const (.int .i64 1)) 3,none⟩,[]⟩,
 ⟨⟨some 64,.move (.tmp 13),none⟩,[]⟩,⟨⟨some 65,.move (.tmp 1),none⟩,[]⟩,⟨⟨some 66,.binOp .sub 3 (.tmp 64) (.tmp 65) 3,none⟩,[]⟩,⟨⟨some 67,.binOp .sub 3 (.tmp 63) (.tmp 66) 3,none⟩,[]⟩,⟨⟨some 13,.assign (.tmp 67),none⟩,[]⟩]) (.reg [⟨⟨some 14,.assign (.const (.int .i64 1)),none⟩,[]⟩]))) .skip)) (.seq (.seq (.reg [⟨⟨some 68,.move (.tmp 10),none⟩,[]⟩,⟨⟨some 69,.move (.tmp 68),none⟩,[]⟩,⟨⟨some 70,.move (.tmp 11),some (69,true)⟩,[]⟩,⟨⟨some 71,.pick (.tmp 69) (.tmp 70) (.const (.bool false)),none⟩,[]⟩,⟨⟨some 72,.move (.tmp 71),none⟩,[]⟩,⟨⟨some 73,.move (.tmp 14),some (72,true)⟩,[]⟩,⟨⟨some 74,.binOp .eql 162 (.tmp 73) (.const (.int .i64 1)) 162,some (72,true)⟩,[]⟩,⟨⟨some 75,.pick (.tmp 72) (.tmp 74) (.const (.bool false)),none⟩,[]⟩]) (.cond (.tmp 75) (.seq (.reg [⟨⟨some 76,.move (.tmp 0),none⟩,[]⟩,
 ⟨⟨some 77,.move (.tmp 1),none⟩,[]⟩,⟨⟨some 78,.move (.tmp 2),none⟩,[]⟩,⟨⟨some 79,.move (.tmp 4),none⟩,[]⟩,⟨⟨some 80,.call ⟨(.value (.func 192)),#[.tmp 76,.tmp 77,.tmp 78,.tmp 79],#[32,3,3,41]⟩,none⟩,[]⟩]) (.cond (.tmp 80) .ret .skip)) .skip)) (.seq (.seq (.reg [⟨⟨some 81,.move (.tmp 1),none⟩,[]⟩,⟨⟨some 82,.binOp .gtr 3 (.tmp 81) (.const (.int .i64 0)) 3,none⟩,[]⟩,⟨⟨some 83,.move (.tmp 82),none⟩,[]⟩,⟨⟨some 84,.move (.tmp 4),some (83,true)⟩,[]⟩,⟨⟨some 85,.move (.tmp 0),some (83,true)⟩,[]⟩,⟨⟨some 86,.move (.tmp 1),some (83,true)⟩,[]⟩,⟨⟨some 87,.binOp .sub 3 (.tmp 86) (.const (.int .i64 1)) 3,some (83,true)⟩,[]⟩,⟨⟨some 88,.indexAddr 32 (.tmp 85) (.tmp 87),some (83,true)⟩,[]⟩,⟨⟨some 89,.load 27 (.tmp 88),some (83,true)⟩,[]⟩,
 ⟨⟨some 90,.move (.tmp 0),some (83,true)⟩,[]⟩,⟨⟨some 91,.move (.tmp 13),some (83,true)⟩,[]⟩,⟨⟨some 92,.indexAddr 32 (.tmp 90) (.tmp 91),some (83,true)⟩,[]⟩,⟨⟨some 93,.load 27 (.tmp 92),some (83,true)⟩,[]⟩,⟨⟨some 94,.call ⟨(.value (.tmp 84)),#[.tmp 89,.tmp 93],#[27,27]⟩,some (83,true)⟩,[]⟩,⟨⟨some 95,.binOp .lss 3 (.tmp 94) (.const (.int .i64 0)) 3,some (83,true)⟩,[]⟩,⟨⟨some 96,.unOp .not 4 (.tmp 95),some (83,true)⟩,[]⟩,⟨⟨some 97,.pick (.tmp 83) (.tmp 96) (.const (.bool false)),none⟩,[]⟩]) (.cond (.tmp 97) (.seq (.reg [⟨⟨some 98,.move (.tmp 0),none⟩,[]⟩,⟨⟨some 99,.move (.tmp 1),none⟩,[]⟩,⟨⟨some 100,.move (.tmp 2),none⟩,[]⟩,⟨⟨some 101,.move (.tmp 13),none⟩,[]⟩,⟨⟨some 102,.move (.tmp 4),none⟩,[]⟩,
 ⟨⟨some 103,.call ⟨(.value (.func 193)),#[.tmp 98,.tmp 99,.tmp 100,.tmp 101,.tmp 102],#[32,3,3,3,41]⟩,none⟩,[]⟩,⟨⟨some 15,.assign (.tmp 103),none⟩,[]⟩]) (.seq (.reg [⟨⟨some 104,.move (.tmp 15),none⟩,[]⟩,⟨⟨some 1,.assign (.tmp 104),none⟩,[]⟩]) (.exit 1))) .skip)) (.seq (.reg [⟨⟨some 106,.move (.tmp 0),none⟩,[]⟩,⟨⟨some 107,.move (.tmp 1),none⟩,[]⟩,⟨⟨some 108,.move (.tmp 2),none⟩,[]⟩,⟨⟨some 109,.move (.tmp 13),none⟩,[]⟩,⟨⟨some 110,.move (.tmp 4),none⟩,[]⟩,⟨⟨some 111,.call ⟨(.value (.func 194)),#[.tmp 106,.tmp 107,.tmp 108,.tmp 109,.tmp 110],#[32,3,3,3,41]⟩,none⟩,[]⟩,⟨⟨some 105,.move (.tmp 111),none⟩,[]⟩,⟨⟨some 112,.extract (.tmp 105) 0,none⟩,[]⟩,⟨⟨some 113,.extract (.tmp 105) 1,none⟩,[]⟩,⟨⟨some 16,.assign (.tmp 112),none⟩,[]⟩,
 ⟨⟨some 17,.assign (.tmp 113),none⟩,[]⟩]) (.seq (.reg [⟨⟨some 114,.move (.tmp 17),none⟩,[]⟩,⟨⟨some 11,.assign (.tmp 114),none⟩,[]⟩]) (.seq (.reg [⟨⟨some 115,.move (.tmp 16),none⟩,[]⟩,⟨⟨some 116,.move (.tmp 1),none⟩,[]⟩,⟨⟨some 117,.binOp .sub 3 (.tmp 115) (.tmp 116) 3,none⟩,[]⟩,⟨⟨some 118,.move (.tmp 2),none⟩,[]⟩,⟨⟨some 119,.move (.tmp 16),none⟩,[]⟩,⟨⟨some 120,.binOp .sub 3 (.tmp 118) (.tmp 119) 3,none⟩,[]⟩,⟨⟨some 18,.assign (.tmp 117),none⟩,[]⟩,⟨⟨some 19,.assign (.tmp 120),none⟩,[]⟩]) (.seq (.reg [⟨⟨some 121,.move (.tmp 12),none⟩,[]⟩,⟨⟨some 122,.binOp .quo 3 (.tmp 121) (.const (.int .i64 8)) 3,none⟩,[]⟩,⟨⟨some 20,.assign (.tmp 122),none⟩,[]⟩]) (.seq (.reg [⟨⟨some 123,.move (.tmp 18),none⟩,[]⟩,⟨⟨some 124,.move (.tmp 19),none⟩,[]⟩,
 ⟨⟨some 125,.binOp .lss 3 (.tmp 123) (.tmp 124) 3,none⟩,[]⟩]) (.cond (.tmp 125) (.seq (.reg [⟨⟨some 126,.move (.tmp 18),none⟩,[]⟩,⟨⟨some 127,.move (.tmp 20),none⟩,[]⟩,⟨⟨some 128,.binOp .geq 3 (.tmp 126) (.tmp 127) 3,none⟩,[]⟩,⟨⟨some 10,.assign (.tmp 128),none⟩,[]⟩]) (.seq (.reg [⟨⟨some 129,.move (.tmp 0),none⟩,[]⟩,⟨⟨some 130,.move (.tmp 1),none⟩,[]⟩,⟨⟨some 131,.move (.tmp 16),none⟩,[]⟩,⟨⟨some 132,.move (.tmp 3),none⟩,[]⟩,⟨⟨some 133,.move (.tmp 4),none⟩,[]⟩,⟨⟨some 134,.call ⟨(.value (.func 165)),#[.tmp 129,.tmp 130,.tmp 131,.tmp 132,.tmp 133],#[32,3,3,3,41]⟩,none⟩,[]⟩]) (.reg [⟨⟨some 135,.move (.tmp 16),none⟩,[]⟩,⟨⟨some 136,.binOp .add 3 (.tmp 135) (.const (.int .i64 1)) 3,none⟩,[]⟩,⟨⟨some 1,.assign (.tmp 136),none⟩,[]⟩]))) (.seq (.reg [⟨⟨some 137,.move (.tmp 19),none⟩,[]⟩,⟨⟨some 138,.move (.tmp 20),none⟩,[]⟩,
 ⟨⟨some 139,.binOp .geq 3 (.tmp 137) (.tmp 138) 3,none⟩,[]⟩,
  ⟨⟨some 10,.assign (.tmp 139),none⟩,[]⟩]) (.seq (.reg [⟨⟨some 140,.move (.tmp 0),none⟩,[]⟩,
  ⟨⟨some 141,.move (.tmp 16),none⟩,[]⟩,
  ⟨⟨some 142,.binOp .add 3 (.tmp 141) (.const (.int .i64 1)) 3,none⟩,[]⟩,
  ⟨⟨some 143,.move (.tmp 2),none⟩,[]⟩,
  ⟨⟨some 144,.move (.tmp 3),none⟩,[]⟩,
  ⟨⟨some 145,.move (.tmp 4),none⟩,[]⟩,
  ⟨⟨some 146,.call ⟨(.value (.func 165)),#[.tmp 140,.tmp 142,.tmp 143,.tmp 144,.tmp 145],#[32,3,3,3,41]⟩,none⟩,[]⟩]) (.reg [⟨⟨some 147,.move (.tmp 16),none⟩,[]⟩,
  ⟨⟨some 2,.assign (.tmp 147),none⟩,[]⟩]))))))))))))))))))))))
theorem in165:InT Tryz.prog 165 5 [] cd165:=InT.mk (by kernel_rfl) [(17,[(0,false),(1,false),(2,false),(3,false),(4,false),(5,false),(6,false),(7,false),(8,false),(9,false),(10,false),(11,false),(12,false),(13,true),(14,false),(15,false),(16,false)])] Tryz.func165 rfl (by kernel_rfl) (by kernel_rfl) (of_decide_eq_true (by kernel_rfl)) (by kernel_rfl)
end Go.Proofs.YtlcipphiflcaiaaGreat.Ai
namespace Go.Proofs.YtlcipphiflcaiaaGreat.Ai
open Go Go.RowKit
def cmpL:List Int->List Int->Int
 | [],[]=>0
 | [],_ :: _ => -1
 | _ :: _,[]=>1
 | a :: xs,b :: ys=>if cmpI a b ≠ 0 then cmpI a b else cmpL xs ys
theorem cmpL_nil (ys:List Int):cmpL [] ys=if 0<ys.length then -1 else 0:=by
 cases ys with
 | nil=>rfl
 | cons b bs=>simp [cmpL]
theorem cmpL_step (xs ys:List Int)(i:Nat)(hi:i<xs.length):cmpL (xs.drop i) (ys.drop i)=if ys.length<=i then 1 else if cmpI (xs.getD i 0) (ys.getD i 0) ≠ 0 then cmpI (xs.getD i 0) (ys.getD i 0) else cmpL (xs.drop (i+1)) (ys.drop (i+1)):=by
 have hx:xs.getD i 0=xs[i]:=by simp [hi]
 rw [List.drop_eq_getElem_cons hi]
 by_cases hj:ys.length<=i
 ·rw [if_pos hj,List.drop_of_length_le hj];rfl
 ·have hj':i<ys.length:=by omega
  have hy:ys.getD i 0=ys[i]:=by simp [hj']
  rw [if_neg hj,List.drop_eq_getElem_cons hj',hx,hy];rfl
abbrev fnCmp:Value:=.func (.func 126) #[] (List.toArray [])
theorem CmpL_c (v w:Value)(xs ys:List Int)(H:AH)(hr:Row 3 H v xs)(hr2:Row 3 H w ys)(hlen:xs.length<=1099511627776)(hlen2:ys.length<=1099511627776) :
  ACalls Tryz.prog 126 [v,w] H fun r H'=>r=.int .i64 (cmpL xs ys)/\H=H':=by
 refine in126 rfl ?_
 intro Q hQ
 simp (disch:=omega) only [cd126,hr.len Tryz.underlying27,SS,eq_self,reduceIte,reduceCtorEq,Nat.reduceEqDiff,Nat.reduceAdd]
 refine LoopH.by (fun m s H'=>∃ i,m+i=xs.length/\s 0=v/\s 1=w/\s 9=v/\s 10=.int .i64 (xs.length:Int)/\s 11=.int .i64 ((i:Nat):Int)/\H=H'/\cmpL xs ys=cmpL (xs.drop i) (ys.drop i)/\(i<=ys.length∨i=0)) xs.length ?_ ?_
 ·exact ⟨0,by simp,rfl,rfl,rfl,rfl,rfl,rfl,by simp,.inr rfl⟩
 ·rintro m s H' ⟨i,hm,h0,h1,h9,h10,h11,rfl,hc,hy⟩
  simp (disch:=omega) only [h0,h1,h9,h10,h11,SS,eq_self,reduceIte,reduceCtorEq,Nat.reduceEqDiff,Nat.reduceAdd]
  refine brD.intro (fun g=>?_) (fun g=>?_)
  ·have hi:i<xs.length:=by omega
   rw [cmpL_step xs ys i hi] at hc
   simp (disch:=omega) only [h0,h1,h9,h10,h11,hr.ix Tryz.underlying27 cs3,hr.cell,Int.toNat_natCast,hr2.len Tryz.underlying27,SS,eq_self,reduceIte,reduceCtorEq,Nat.reduceEqDiff,Nat.reduceAdd]
   refine brD.intro (fun e=>?_) (fun e=>?_)
   ·simp (disch:=omega) only [SS,eq_self,reduceIte,reduceCtorEq,Nat.reduceEqDiff,Nat.reduceAdd]
    refine hQ _ _ _ ?_
    simp (disch:=omega) only [SS,eq_self,reduceIte,reduceCtorEq,Nat.reduceEqDiff,Nat.reduceAdd]
    rw [hc,if_pos (by omega)]
   ·have hj:i<ys.length:=by omega
    rw [if_neg (by omega)] at hc
    simp (disch:=omega) only [h0,h1,h9,h10,h11,hr2.ix Tryz.underlying27 cs3,hr2.cell,Int.toNat_natCast,SS,eq_self,reduceIte,reduceCtorEq,Nat.reduceEqDiff,Nat.reduceAdd]
    refine CallH.by (Compare_c _ _ H) ?_
    rintro _ _ ⟨rfl,rfl⟩
    simp (disch:=omega) only [SS,eq_self,reduceIte,reduceCtorEq,Nat.reduceEqDiff,Nat.reduceAdd]
    refine brD.intro (fun e2=>?_) (fun e2=>?_) <;> simp (disch:=omega) only [h0,h1,h9,h10,h11,wrap64,SS,eq_self,reduceIte,reduceCtorEq,Nat.reduceEqDiff,Nat.reduceAdd]
    ·refine hQ _ _ _ ?_
     simp (disch:=omega) only [SS,eq_self,reduceIte,reduceCtorEq,Nat.reduceEqDiff,Nat.reduceAdd]
     rw [hc,if_pos e2]
    ·rw [if_neg e2] at hc
     have f1:i+1<=ys.length∨i+1=0:=.inl hj
     refine ⟨m - 1,by omega,i+1,?_⟩
     (repeat' first | exact hc | exact f1 | apply And.intro) <;> first | (simp only [Value.int.injEq,true_and];omega) | omega | rfl | assumption | (simp;done) | (simp;omega)
  ·have hxe:i=xs.length:=by omega
   rw [hxe,List.drop_length,cmpL_nil] at hc
   simp (disch:=omega) only [h0,h1,hr.len Tryz.underlying27,hr2.len Tryz.underlying27,SS,eq_self,reduceIte,reduceCtorEq,Nat.reduceEqDiff,Nat.reduceAdd]
   refine brD.intro (fun e=>?_) (fun e=>?_) <;> simp (disch:=omega) only [SS,eq_self,reduceIte,reduceCtorEq,Nat.reduceEqDiff,Nat.reduceAdd]
   ·refine hQ _ _ _ ?_
    simp (disch:=omega) only [SS,eq_self,reduceIte,reduceCtorEq,Nat.reduceEqDiff,Nat.reduceAdd]
    rw [hc,if_pos (by simp;omega)]
   ·refine hQ _ _ _ ?_
    simp (disch:=omega) only [SS,eq_self,reduceIte,reduceCtorEq,Nat.reduceEqDiff,Nat.reduceAdd]
    rw [hc,if_neg (by simp;omega)]
def SrtL (ls:List (List Int)):Prop:=∀ i j,i<j->j<ls.length->0<cmpL (ls.getD j []) (ls.getD i [])
structure Sts (H:AH) (v:Value) (us:List Value) (ls:List (List Int)):Prop where
 row:RowV 27 H v us
 len:us.length=ls.length
 each:∀ i,i<ls.length->Row 3 H (us.getD i undef) (ls.getD i [])
 small:∀ i,i<ls.length->(ls.getD i []).length<=1099511627776
 bnd:ls.length<=60000
 srt:SrtL ls
theorem Sts.pre {H H':AH}{v:Value}{us:List Value}{ls:List (List Int)}(h:Sts H v us ls)(hp:H<+:H'):Sts H' v us ls:=⟨h.row.pre hp,h.len,fun i hi=>(h.each i hi).pre hp,h.small,h.bnd,h.srt⟩
theorem cmpL_self:∀ xs:List Int,cmpL xs xs=0
 | []=>rfl
 | a :: xs=>by
  have:cmpI a a=0:=by unfold cmpI;rw [if_neg (by omega),if_neg (by omega)]
  rw [cmpL,if_neg (by rw [this];decide)];exact cmpL_self xs
theorem Sts.le {H:AH}{v:Value}{us:List Value}{ls:List (List Int)}(h:Sts H v us ls){i j:Nat}(hij:i<=j)(hj:j<ls.length):¬ cmpL (ls.getD j []) (ls.getD i [])<0:=by
 by_cases e:i=j
 ·subst e;rw [cmpL_self];omega
 ·have:=h.srt i j (by omega) hj;omega
section
variable {v:Value} {us:List Value} {ls:List (List Int)} {H:AH}
theorem Sts.cell (h:Sts H v us ls){i:Nat}(hi:i<ls.length):cellA H (rowO v) (rowK v+i)=some (us.getD i undef):=h.row.cell (by have:=h.len;omega)
theorem Sts.cmp (h:Sts H v us ls){i j:Nat}(hi:i<ls.length)(hj:j<ls.length) :
  ACalls Tryz.prog 126 [us.getD i undef,us.getD j undef] H fun r H'=>r=.int .i64 (cmpL (ls.getD i []) (ls.getD j []))/\H=H':=CmpL_c _ _ _ _ H (h.each i hi) (h.each j hj) (h.small i hi) (h.small j hj)
theorem order2_c (h:Sts H v us ls)(a b:Nat)(p:Value)(hab:a<=b)(hb:b<ls.length) :
  ACalls Tryz.prog 223 [v,.int .i64 (a:Int),.int .i64 (b:Int),p,fnCmp] H fun r H'=>r=.tuple (List.toArray [.int .i64 (a:Int),.int .i64 (b:Int)])/\H=H':=by
 refine in223 rfl ?_
 intro Q hQ
 have hl:=h.len
 have hca:=h.cell (show a<ls.length by omega)
 have hcb:=h.cell hb
 simp (disch:=omega) only [cd223,h.row.ix Tryz.underlying32 cs27,Int.toNat_natCast,hca,hcb,SS,eq_self,reduceIte,reduceCtorEq,Nat.reduceEqDiff,Nat.reduceAdd]
 refine CallH.by (h.cmp hb (show a<ls.length by omega)) ?_
 rintro _ _ ⟨rfl,rfl⟩
 simp (disch:=omega) only [SS,eq_self,reduceIte,reduceCtorEq,Nat.reduceEqDiff,Nat.reduceAdd]
 refine brD.intro (fun e=>absurd e (h.le hab hb)) (fun e=>?_)
 simp (disch:=omega) only [SS,eq_self,reduceIte,reduceCtorEq,Nat.reduceEqDiff,Nat.reduceAdd]
 refine hQ _ _ _ ?_
 simp (disch:=omega) only [SS,eq_self,reduceIte,reduceCtorEq,Nat.reduceEqDiff,Nat.reduceAdd]
theorem median_c (h:Sts H v us ls)(a b c:Nat)(p:Value)(hab:a<=b)(hbc:b<=c)(hc:c<ls.length) :
  ACalls Tryz.prog 219 [v,.int .i64 (a:Int),.int .i64 (b:Int),.int .i64 (c:Int),p,fnCmp] H fun r H'=>r=.int .i64 (b:Int)/\H=H':=by
 refine in219 rfl ?_
 intro Q hQ
 simp (disch:=omega) only [cd219,SS,eq_self,reduceIte,reduceCtorEq,Nat.reduceEqDiff,Nat.reduceAdd]
 refine CallH.by (order2_c h a b p hab (by omega)) ?_
 rintro _ _ ⟨rfl,rfl⟩
 simp (disch:=omega) only [SS,eq_self,reduceIte,reduceCtorEq,Nat.reduceEqDiff,Nat.reduceAdd]
 refine CallH.by (order2_c h b c p hbc hc) ?_
 rintro _ _ ⟨rfl,rfl⟩
 simp (disch:=omega) only [SS,eq_self,reduceIte,reduceCtorEq,Nat.reduceEqDiff,Nat.reduceAdd]
 refine CallH.by (order2_c h a b p hab (by omega)) ?_
 rintro _ _ ⟨rfl,rfl⟩
 simp (disch:=omega) only [SS,eq_self,reduceIte,reduceCtorEq,Nat.reduceEqDiff,Nat.reduceAdd]
 refine hQ _ _ _ ?_
 simp (disch:=omega) only [SS,eq_self,reduceIte,reduceCtorEq,Nat.reduceEqDiff,Nat.reduceAdd]
theorem medianAdj_c (h:Sts H v us ls)(a:Nat)(p:Value)(ha:1<=a)(hc:a+1<ls.length) :
  ACalls Tryz.prog 218 [v,.int .i64 (a:Int),p,fnCmp] H fun r H'=>r=.int .i64 (a:Int)/\H=H':=by
 refine in218 rfl ?_
 intro Q hQ
 have hb:=h.bnd
 have e1:(a:Int) - 1=((a - 1:Nat):Int):=by omega
 have e2:(a:Int)+1=((a+1:Nat):Int):=by omega
 simp (disch:=omega) only [cd218,wrap64,e1,e2,SS,eq_self,reduceIte,reduceCtorEq,Nat.reduceEqDiff,Nat.reduceAdd]
 refine CallH.by (median_c h (a - 1) a (a+1) p (by omega) (by omega) hc) ?_
 rintro _ _ ⟨rfl,rfl⟩
 simp (disch:=omega) only [SS,eq_self,reduceIte,reduceCtorEq,Nat.reduceEqDiff,Nat.reduceAdd]
 refine hQ _ _ _ ?_
 simp (disch:=omega) only [SS,eq_self,reduceIte,reduceCtorEq,Nat.reduceEqDiff,Nat.reduceAdd]
theorem partialIns_c (h:Sts H v us ls)(h1:1<=ls.length) :
  ACalls Tryz.prog 192 [v,.int .i64 0,.int .i64 (ls.length:Int),fnCmp] H fun r H'=>r=.bool true/\H=H':=by
 refine in192 rfl ?_
 intro Q hQ
 have hb:=h.bnd
 have hl:=h.len
 simp (disch:=omega) only [cd192,wrap64,SS,eq_self,reduceIte,reduceCtorEq,Nat.reduceEqDiff,Nat.reduceAdd]
 refine LoopH.by (fun m s H'=>s 0=v/\s 2=.int .i64 (ls.length:Int)/\s 3=fnCmp/\s 9=.int .i64 1/\s 10=.int .i64 0/\H=H') 0 ?_ ?_
 ·exact ⟨rfl,rfl,rfl,rfl,rfl,rfl⟩
 ·rintro m s H' ⟨h0,h2,h3,h9,h10,rfl⟩
  simp (disch:=omega) only [h0,h2,h3,h9,h10,SS,eq_self,reduceIte,reduceCtorEq,Nat.reduceEqDiff,Nat.reduceAdd]
  refine brD.intro (fun _=>?_) (fun g=>absurd (by decide) g)
  simp (disch:=omega) only [h0,h2,h3,h9,h10,SS,eq_self,reduceIte,reduceCtorEq,Nat.reduceEqDiff,Nat.reduceAdd]
  refine LoopH.by (fun m' s' H'=>∃ i,m'+i=ls.length/\1<=i/\s' 0=v/\s' 2=.int .i64 (ls.length:Int)/\s' 3=fnCmp/\s' 9=.int .i64 ((i:Nat):Int)/\H=H') (ls.length - 1) ?_ ?_
  ·exact ⟨1,by omega,by omega,by simp [SS,eq_self,reduceIte,reduceCtorEq,Nat.reduceEqDiff,Nat.reduceAdd,h0],by simp [SS,eq_self,reduceIte,reduceCtorEq,Nat.reduceEqDiff,Nat.reduceAdd,h2],by simp [SS,eq_self,reduceIte,reduceCtorEq,Nat.reduceEqDiff,Nat.reduceAdd,h3],by simp [SS,eq_self,reduceIte,reduceCtorEq,Nat.reduceEqDiff,Nat.reduceAdd,h9],rfl⟩
  ·rintro m' s' H' ⟨i,hm,hi1,g0,g2,g3,g9,rfl⟩
   have e1:(i:Int) - 1=((i - 1:Nat):Int):=by omega
   simp (disch:=omega) only [g0,g2,g3,g9,SS,eq_self,reduceIte,reduceCtorEq,Nat.reduceEqDiff,Nat.reduceAdd]
   refine brD.intro (fun g=>?_) (fun g=>?_)
   ·have hi:i<ls.length:=by omega
    have hc1:=h.cell hi
    have hc2:=h.cell (show i - 1<ls.length by omega)
    simp (disch:=omega) only [g,g0,g2,g3,g9,wrap64,e1,h.row.ix Tryz.underlying32 cs27,Int.toNat_natCast,hc1,hc2,SS,eq_self,reduceIte,reduceCtorEq,Nat.reduceEqDiff,Nat.reduceAdd]
    refine CallH.by (h.cmp hi (show i - 1<ls.length by omega)) ?_
    rintro _ _ ⟨rfl,rfl⟩
    simp (disch:=omega) only [g,SS,eq_self,reduceIte,reduceCtorEq,Nat.reduceEqDiff,Nat.reduceAdd]
    refine brD.intro (fun e=>absurd e (h.le (by omega) hi)) (fun e=>?_)
    simp (disch:=omega) only [g,e,g0,g2,g3,g9,wrap64,SS,eq_self,reduceIte,reduceCtorEq,Nat.reduceEqDiff,Nat.reduceAdd]
    refine ⟨m' - 1,by omega,i+1,?_⟩
    (repeat' apply And.intro) <;> first | (simp only [Value.int.injEq,true_and];omega) | omega | rfl | assumption | (simp;done) | (simp;omega)
   ·have hi:i=ls.length:=by omega
    subst hi
    simp (disch:=omega) only [g,g0,g2,g3,g9,SS,eq_self,reduceIte,reduceCtorEq,Nat.reduceEqDiff,Nat.reduceAdd]
    refine hQ _ _ _ ?_
    simp (disch:=omega) only [SS,eq_self,reduceIte,reduceCtorEq,Nat.reduceEqDiff,Nat.reduceAdd]
theorem insCmp_c (h:Sts H v us ls) :
  ACalls Tryz.prog 187 [v,.int .i64 0,.int .i64 (ls.length:Int),fnCmp] H fun r H'=>H=H':=by
 refine in187 rfl ?_
 intro Q hQ
 have hb:=h.bnd
 have hl:=h.len
 simp (disch:=omega) only [cd187,wrap64,SS,eq_self,reduceIte,reduceCtorEq,Nat.reduceEqDiff,Nat.reduceAdd]
 refine LoopH.by (fun m s H'=>∃ i,m+i=ls.length+1/\1<=i/\s 0=v/\s 1=.int .i64 0/\s 2=.int .i64 (ls.length:Int)/\s 3=fnCmp/\s 8=.int .i64 ((i:Nat):Int)/\H=H') ls.length ?_ ?_
 ·exact ⟨1,by omega,by omega,rfl,rfl,rfl,rfl,rfl,rfl⟩
 ·rintro m s H' ⟨i,hm,hi1,h0,h1,h2,h3,h8,rfl⟩
  simp (disch:=omega) only [h0,h1,h2,h3,h8,SS,eq_self,reduceIte,reduceCtorEq,Nat.reduceEqDiff,Nat.reduceAdd]
  refine brD.intro (fun g=>?_) (fun g=>?_)
  ·have hi:i<ls.length:=by omega
   have e1:(i:Int) - 1=((i - 1:Nat):Int):=by omega
   have hc1:=h.cell hi
   have hc2:=h.cell (show i - 1<ls.length by omega)
   simp (disch:=omega) only [h0,h1,h2,h3,h8,SS,eq_self,reduceIte,reduceCtorEq,Nat.reduceEqDiff,Nat.reduceAdd]
   refine LoopH.by (fun m' s' H'=>s' 0=v/\s' 1=.int .i64 0/\s' 2=.int .i64 (ls.length:Int)/\s' 3=fnCmp/\s' 8=.int .i64 ((i:Nat):Int)/\s' 9=.int .i64 ((i:Nat):Int)/\H=H') 0 ?_ ?_
   ·simp only [SS,eq_self,reduceIte,reduceCtorEq,Nat.reduceEqDiff,Nat.reduceAdd,h0,h1,h2,h3,h8]
   ·rintro m' s' H' ⟨g0,g1,g2,g3,g8,g9,rfl⟩
    have hgt:(i:Int) > 0:=by omega
    simp (disch:=omega) only [g0,g1,g2,g3,g8,g9,SS,eq_self,reduceIte,reduceCtorEq,Nat.reduceEqDiff,Nat.reduceAdd]
    refine brD.intro (fun q=>?_) (fun q=>absurd hgt q)
    simp (disch:=omega) only [q,g0,g1,g2,g3,g8,g9,wrap64,e1,h.row.ix Tryz.underlying32 cs27,Int.toNat_natCast,hc1,hc2,SS,eq_self,reduceIte,reduceCtorEq,Nat.reduceEqDiff,Nat.reduceAdd]
    refine CallH.by (h.cmp hi (show i - 1<ls.length by omega)) ?_
    rintro _ _ ⟨rfl,rfl⟩
    simp (disch:=omega) only [q,SS,eq_self,reduceIte,reduceCtorEq,Nat.reduceEqDiff,Nat.reduceAdd]
    refine brD.intro (fun e=>absurd e (h.le (by omega) hi)) (fun e=>?_)
    simp (disch:=omega) only [q,e,g0,g1,g2,g3,g8,g9,wrap64,SS,eq_self,reduceIte,reduceCtorEq,Nat.reduceEqDiff,Nat.reduceAdd]
    refine ⟨m - 1,by omega,i+1,?_⟩
    (repeat' apply And.intro) <;> first | (simp only [Value.int.injEq,true_and];omega) | omega | rfl | assumption | (simp;done) | (simp;omega)
  ·simp (disch:=omega) only [SS,eq_self,reduceIte,reduceCtorEq,Nat.reduceEqDiff,Nat.reduceAdd]
   refine hQ _ _ _ ?_
   simp (disch:=omega) only [SS,eq_self,reduceIte,reduceCtorEq,Nat.reduceEqDiff,Nat.reduceAdd]
theorem alloc_int (H:AH):allocA Tryz.prog 3 H=some (.pointer (some ⟨H.length,0,none⟩),H ++ [.cells [.int .i64 0] 3 false]):=by kernel_rfl
theorem choosePivot_c (h:Sts H v us ls)(h1:13<=ls.length) :
    ACalls Tryz.prog 190 [v,.int .i64 0,.int .i64 (ls.length:Int),fnCmp] H fun r H'=>(∃ j:Int,r=.tuple (List.toArray [.int .i64 j,.int .i64 1]))/\H<+:H':=by
  refine in190 rfl ?_
  intro Q hQ
  have hb:=h.bnd
  have hl:=h.len
  obtain ⟨q,hqd⟩:∃ q,ls.length / 4=q:=⟨_,rfl⟩
  have hq:IntKind.i64.wrap ((ls.length:Int).tdiv 4)=(q:Int):=by
    rw [Int.tdiv_eq_ediv_of_nonneg (by omega),wrap64 (by omega) (by omega)]
    omega
  have e1:(0:Int)+(q:Int) * 1=(q:Int):=by omega
  have e2:(0:Int)+(q:Int) * 2=((2 * q:Nat):Int):=by omega
  have e3:(0:Int)+(q:Int) * 3=((3 * q:Nat):Int):=by omega
  have e0:(ls.length:Int) - 0=(ls.length:Int):=by omega
  simp (disch:=omega) only [cd190,alloc_int,wrap64,e0,hq,e1,e2,e3,SS,eq_self,reduceIte,reduceCtorEq,Nat.reduceEqDiff,Nat.reduceAdd]
  generalize hA:H ++ [AObj.cells [.int .i64 0] 3 false]=A
  have pA:H<+:A:=by rw [<- hA];exact List.prefix_append _ _
  have cA:A[H.length]?=some (.cells [.int .i64 0] 3 false):=by rw [<- hA];exact at_new ..
  have hA2:=h.pre pA
  refine brD.intro (fun g=>?_) (fun g=>absurd (show (ls.length:Int) ≥ 8 by omega) g)
  simp (disch:=omega) only [SS,eq_self,reduceIte,reduceCtorEq,Nat.reduceEqDiff,Nat.reduceAdd]
  refine brD.intro (fun g2=>?_) (fun g2=>?_)
  . simp (disch:=omega) only [SS,eq_self,reduceIte,reduceCtorEq,Nat.reduceEqDiff,Nat.reduceAdd]
    refine CallH.by (medianAdj_c hA2 q _ (by omega) (by omega)) ?_
    rintro _ _ ⟨rfl,rfl⟩
    simp (disch:=omega) only [SS,eq_self,reduceIte,reduceCtorEq,Nat.reduceEqDiff,Nat.reduceAdd]
    refine CallH.by (medianAdj_c hA2 (2 * q) _ (by omega) (by omega)) ?_
    rintro _ _ ⟨rfl,rfl⟩
    simp (disch:=omega) only [SS,eq_self,reduceIte,reduceCtorEq,Nat.reduceEqDiff,Nat.reduceAdd]
    refine CallH.by (medianAdj_c hA2 (3 * q) _ (by omega) (by omega)) ?_
    rintro _ _ ⟨rfl,rfl⟩
    simp (disch:=omega) only [SS,eq_self,reduceIte,reduceCtorEq,Nat.reduceEqDiff,Nat.reduceAdd]
    refine CallH.by (median_c hA2 q (2 * q) (3 * q) _ (by omega) (by omega) (by omega)) ?_
    rintro _ _ ⟨rfl,rfl⟩
    simp (disch:=omega) only [cell_of cA,SS,eq_self,reduceIte,reduceCtorEq,Nat.reduceEqDiff,Nat.reduceAdd]
    first
      | (refine brD.intro (fun _=>?_) (fun g3=>absurd rfl g3)
         simp (disch:=omega) only [SS,eq_self,reduceIte,reduceCtorEq,Nat.reduceEqDiff,Nat.reduceAdd])
      | skip
    refine hQ _ _ _ ?_
    simp (disch:=omega) only [SS,eq_self,reduceIte,reduceCtorEq,Nat.reduceEqDiff,Nat.reduceAdd]
    exact ⟨⟨_,rfl⟩,pA⟩
  . simp (disch:=omega) only [SS,eq_self,reduceIte,reduceCtorEq,Nat.reduceEqDiff,Nat.reduceAdd]
    refine CallH.by (median_c hA2 q (2 * q) (3 * q) _ (by omega) (by omega) (by omega)) ?_
    rintro _ _ ⟨rfl,rfl⟩
    simp (disch:=omega) only [cell_of cA,SS,eq_self,reduceIte,reduceCtorEq,Nat.reduceEqDiff,Nat.reduceAdd]
    first
      | (refine brD.intro (fun _=>?_) (fun g3=>absurd rfl g3)
         simp (disch:=omega) only [SS,eq_self,reduceIte,reduceCtorEq,Nat.reduceEqDiff,Nat.reduceAdd])
      | skip
    refine hQ _ _ _ ?_
    simp (disch:=omega) only [SS,eq_self,reduceIte,reduceCtorEq,Nat.reduceEqDiff,Nat.reduceAdd]
    exact ⟨⟨_,rfl⟩,pA⟩
theorem pdqCmp_c (h:Sts H v us ls)(lim:Int)(hlim:lim ≠ 0∨ls.length<=12) :
  ACalls Tryz.prog 165 [v,.int .i64 0,.int .i64 (ls.length:Int),.int .i64 lim,fnCmp] H fun r H'=>H<+:H':=by
 refine in165 rfl ?_
 intro Q hQ
 have hb:=h.bnd
 have e0:(ls.length:Int) - 0=(ls.length:Int):=by omega
 simp (disch:=omega) only [cd165,SS,eq_self,reduceIte,reduceCtorEq,Nat.reduceEqDiff,Nat.reduceAdd]
 refine LoopH.by (fun m s H'=>s 0=v/\s 1=.int .i64 0/\s 2=.int .i64 (ls.length:Int)/\s 3=.int .i64 lim/\s 4=fnCmp/\s 10=.bool true/\s 11=.bool true/\H=H') 0 ?_ ?_
 ·exact ⟨rfl,rfl,rfl,rfl,rfl,rfl,rfl,rfl⟩
 ·rintro m s H' ⟨h0,h1,h2,h3,h4,h10,h11,rfl⟩
  simp (disch:=omega) only [h0,h1,h2,h3,h4,h10,h11,wrap64,e0,SS,eq_self,reduceIte,reduceCtorEq,Nat.reduceEqDiff,Nat.reduceAdd]
  refine brD.intro (fun g=>?_) (fun g=>?_)
  ·simp (disch:=omega) only [h0,h1,h2,h3,h4,h10,h11,SS,eq_self,reduceIte,reduceCtorEq,Nat.reduceEqDiff,Nat.reduceAdd]
   refine CallH.by (insCmp_c h) ?_
   rintro _ _ rfl
   simp (disch:=omega) only [SS,eq_self,reduceIte,reduceCtorEq,Nat.reduceEqDiff,Nat.reduceAdd]
   refine hQ _ _ _ ?_
   simp (disch:=omega) only [SS,eq_self,reduceIte,reduceCtorEq,Nat.reduceEqDiff,Nat.reduceAdd]
   exact List.prefix_refl _
  ·have hlim':lim ≠ 0:=hlim.resolve_right (by omega)
   simp (disch:=omega) only [h0,h1,h2,h3,h4,h10,h11,SS,eq_self,reduceIte,reduceCtorEq,Nat.reduceEqDiff,Nat.reduceAdd]
   refine brD.intro (fun g2=>absurd g2 hlim') (fun g2=>?_)
   simp (disch:=omega) only [h0,h1,h2,h3,h4,h10,h11,SS,eq_self,reduceIte,reduceCtorEq,Nat.reduceEqDiff,Nat.reduceAdd]
   refine CallH.by (choosePivot_c h (by omega)) ?_
   rintro _ A ⟨⟨j,rfl⟩,pA⟩
   simp (disch:=omega) only [h0,h1,h2,h3,h4,h10,h11,SS,eq_self,reduceIte,reduceCtorEq,Nat.reduceEqDiff,Nat.reduceAdd]
   refine brD.intro (fun g3=>absurd g3 (by decide)) (fun g3=>?_)
   simp (disch:=omega) only [h0,h1,h2,h3,h4,h10,h11,SS,eq_self,reduceIte,reduceCtorEq,Nat.reduceEqDiff,Nat.reduceAdd]
   refine CallH.by (partialIns_c (h.pre pA) (by omega)) ?_
   rintro _ _ ⟨rfl,rfl⟩
   simp (disch:=omega) only [SS,eq_self,reduceIte,reduceCtorEq,Nat.reduceEqDiff,Nat.reduceAdd]
   refine hQ _ _ _ ?_
   simp (disch:=omega) only [SS,eq_self,reduceIte,reduceCtorEq,Nat.reduceEqDiff,Nat.reduceAdd]
   exact pA
end
def cd125:Cd:=(.seq (.reg [⟨⟨some 5,.move (.tmp 0),none⟩,[]⟩,
 ⟨⟨some 6,.call ⟨(.builtin .len),#[.tmp 5],#[32]⟩,none⟩,[]⟩,
 ⟨⟨some 4,.assign (.tmp 6),none⟩,[]⟩]) (.reg [⟨⟨some 7,.move (.tmp 0),none⟩,[]⟩,
 ⟨⟨some 8,.move (.tmp 4),none⟩,[]⟩,
 ⟨⟨some 9,.move (.tmp 4),none⟩,[]⟩,
 ⟨⟨some 10,.convert 3 94 (.tmp 9),none⟩,[]⟩,
 ⟨⟨some 11,.call ⟨(.value (.func 166)),#[.tmp 10],#[94]⟩,none⟩,[]⟩,
 ⟨⟨some 12,.move (.tmp 1),none⟩,[]⟩,
 ⟨⟨some 13,.call ⟨(.value (.func 165)),#[.tmp 7,(.const (.int .i64 0)),.tmp 8,.tmp 11,.tmp 12],#[32,3,3,3,41]⟩,none⟩,[]⟩]))
theorem in125:InT Tryz.prog 125 2 [] cd125:=InT.mk (by kernel_rfl) [] Tryz.func125 rfl (by kernel_rfl) (by kernel_rfl) (of_decide_eq_true (by kernel_rfl)) (by kernel_rfl)
end Go.Proofs.YtlcipphiflcaiaaGreat.Ai
namespace Go.Proofs.YtlcipphiflcaiaaGreat.Ai
open Go Go.RowKit
theorem str_at {P:Program}{t:TypeId}(hu:P.underlying t=some .string)(s:ByteArray)(hz:s.size=256)(hp:∀ i:Fin 256,0<i.1->1<=(s.data.getD i.1 0).toNat)(k:IntKind)(n:Nat)(h0:0<n)(h1:n<256):∃ b:Nat,1<=b/\b<256/\indexA P t (.string s) (.int k (n:Int))=some (.int .u8 (b:Int)):=by
 have hl:n<s.data.size:=by have:s.data.size=256:=hz;omega
 have hlt:n<s.size:=by omega
 have e1:s[(n:Int).toNat]?=some s[n]:=by rw [Int.toNat_natCast];simp [hlt]
 have e2:=hp ⟨n,h1⟩ h0
 have e3:s.data.getD n 0=s[n]:=by
  rw [Array.getD_eq_getD_getElem?,Array.getElem?_eq_getElem hl];rfl
 refine ⟨s[n].toNat,?_,UInt8.toNat_lt _,?_⟩
 ·rw [<- e3];exact e2
 ·simp only [indexA,hu,if_pos (show (0:Int)<=n by omega),e1]
theorem Len64b_c (n:Nat)(H:AH)(h0:0<n)(hn:n<65536):ACalls Tryz.prog 196 [.int .u64 (n:Int)] H fun r H'=>(∃ k:Int,r=.int .i64 k/\1<=k)/\H=H':=by
 refine in196 rfl ?_
 intro Q hQ
 have k8:binA Tryz.prog .shr 65 (.int .u64 (n:Int)) (.int .u64 8)=some (.int .u64 ((n / 256:Nat):Int)):=by
  simp only [binA,shiftA]
  rw [if_pos (.inr trivial),if_neg (by decide)]
  congr 2
  have:(2 ^ min (8:Int).toNat IntKind.u64.bits:Int)=256:=by decide
  rw [this,Int.fdiv_eq_ediv_of_nonneg _ (by decide)]
  omega
 simp (disch:=omega) only [cd196,SS,eq_self,reduceIte,reduceCtorEq,Nat.reduceEqDiff,Nat.reduceAdd]
 refine brD.intro (fun h=>absurd h (by omega)) (fun _=>?_)
 simp (disch:=omega) only [SS,eq_self,reduceIte,reduceCtorEq,Nat.reduceEqDiff,Nat.reduceAdd]
 refine brD.intro (fun h=>absurd h (by omega)) (fun _=>?_)
 simp (disch:=omega) only [SS,eq_self,reduceIte,reduceCtorEq,Nat.reduceEqDiff,Nat.reduceAdd]
 refine brD.intro (fun h=>?_) (fun h=>?_)
 ·have hw:IntKind.u8.wrap ((n / 256:Nat):Int)=((n / 256:Nat):Int):=wrapU8 (by omega) (by omega)
  simp (disch:=omega) only [k8,hw,wrap64,SS,eq_self,reduceIte,reduceCtorEq,Nat.reduceEqDiff,Nat.reduceAdd]
  generalize hs:(ByteArray.mk _)=s
  have hz:s.size=256:=by rw [<- hs];rfl
  have hp:∀ i:Fin 256,0<i.1->1<=(s.data.getD i.1 0).toNat:=by rw [<- hs];decide +kernel
  obtain ⟨b,hb1,hb2,hb⟩:=str_at (P:=Tryz.prog) Tryz.underlying9 s hz hp .u8 (n / 256) (by omega) (by omega)
  simp (disch:=omega) only [hb,wrap64,SS,eq_self,reduceIte,reduceCtorEq,Nat.reduceEqDiff,Nat.reduceAdd]
  refine hQ _ _ _ ?_
  simp (disch:=omega) only [SS,eq_self,reduceIte,reduceCtorEq,Nat.reduceEqDiff,Nat.reduceAdd]
  exact ⟨_,rfl,by omega⟩
 ·have hw:IntKind.u8.wrap (n:Int)=(n:Int):=wrapU8 (by omega) (by omega)
  simp (disch:=omega) only [hw,wrap64,SS,eq_self,reduceIte,reduceCtorEq,Nat.reduceEqDiff,Nat.reduceAdd]
  generalize hs:(ByteArray.mk _)=s
  have hz:s.size=256:=by rw [<- hs];rfl
  have hp:∀ i:Fin 256,0<i.1->1<=(s.data.getD i.1 0).toNat:=by rw [<- hs];decide +kernel
  obtain ⟨b,hb1,hb2,hb⟩:=str_at (P:=Tryz.prog) Tryz.underlying9 s hz hp .u8 n (by omega) (by omega)
  simp (disch:=omega) only [hb,wrap64,SS,eq_self,reduceIte,reduceCtorEq,Nat.reduceEqDiff,Nat.reduceAdd]
  refine hQ _ _ _ ?_
  simp (disch:=omega) only [SS,eq_self,reduceIte,reduceCtorEq,Nat.reduceEqDiff,Nat.reduceAdd]
  exact ⟨_,rfl,by omega⟩
theorem Lenb_c (n:Nat)(H:AH)(h0:0<n)(hn:n<65536):ACalls Tryz.prog 166 [.int .u64 (n:Int)] H fun r H'=>(∃ k:Int,r=.int .i64 k/\1<=k)/\H=H':=by
 refine in166 rfl ?_
 intro Q hQ
 simp (disch:=omega) only [cd166,SS,eq_self,reduceIte,reduceCtorEq,Nat.reduceEqDiff,Nat.reduceAdd]
 refine CallH.by (Len64b_c n H h0 hn) ?_
 rintro _ _ ⟨⟨k,rfl,hk⟩,rfl⟩
 simp (disch:=omega) only [SS,eq_self,reduceIte,reduceCtorEq,Nat.reduceEqDiff,Nat.reduceAdd]
 refine hQ _ _ _ ?_
 simp (disch:=omega) only [SS,eq_self,reduceIte,reduceCtorEq,Nat.reduceEqDiff,Nat.reduceAdd]
 exact ⟨_,rfl,hk⟩
theorem str_z {P:Program}{t:TypeId}(hu:P.underlying t=some .string)(s:ByteArray)(hz:s.size=256)(k:IntKind)(n:Nat)(h1:n<256):∃ b:Nat,b<256/\indexA P t (.string s) (.int k (n:Int))=some (.int .u8 (b:Int)):=by
 have hlt:n<s.size:=by omega
 have e1:s[(n:Int).toNat]?=some s[n]:=by rw [Int.toNat_natCast];simp [hlt]
 refine ⟨s[n].toNat,UInt8.toNat_lt _,?_⟩
 simp only [indexA,hu,if_pos (show (0:Int)<=n by omega),e1]
theorem Len64z_c (n:Nat)(H:AH)(h0:n=0):ACalls Tryz.prog 196 [.int .u64 (n:Int)] H fun r H'=>(∃ k:Int,r=.int .i64 k)/\H=H':=by
 refine in196 rfl ?_
 intro Q hQ
 simp (disch:=omega) only [cd196,SS,eq_self,reduceIte,reduceCtorEq,Nat.reduceEqDiff,Nat.reduceAdd]
 refine brD.intro (fun h=>absurd h (by omega)) (fun _=>?_)
 simp (disch:=omega) only [SS,eq_self,reduceIte,reduceCtorEq,Nat.reduceEqDiff,Nat.reduceAdd]
 refine brD.intro (fun h=>absurd h (by omega)) (fun _=>?_)
 simp (disch:=omega) only [SS,eq_self,reduceIte,reduceCtorEq,Nat.reduceEqDiff,Nat.reduceAdd]
 refine brD.intro (fun h=>absurd h (by omega)) (fun _=>?_)
 have hw:IntKind.u8.wrap (n:Int)=(n:Int):=wrapU8 (by omega) (by omega)
 simp (disch:=omega) only [hw,wrap64,SS,eq_self,reduceIte,reduceCtorEq,Nat.reduceEqDiff,Nat.reduceAdd]
 generalize hs:(ByteArray.mk _)=s
 have hz:s.size=256:=by rw [<- hs];rfl
 obtain ⟨b,hb2,hb⟩:=str_z (P:=Tryz.prog) Tryz.underlying9 s hz .u8 n (by omega)
 simp (disch:=omega) only [hb,wrap64,SS,eq_self,reduceIte,reduceCtorEq,Nat.reduceEqDiff,Nat.reduceAdd]
 refine hQ _ _ _ ?_
 simp (disch:=omega) only [SS,eq_self,reduceIte,reduceCtorEq,Nat.reduceEqDiff,Nat.reduceAdd]
 exact ⟨_,rfl⟩
theorem Lenz_c (n:Nat)(H:AH)(h0:n=0):ACalls Tryz.prog 166 [.int .u64 (n:Int)] H fun r H'=>(∃ k:Int,r=.int .i64 k)/\H=H':=by
 refine in166 rfl ?_
 intro Q hQ
 simp (disch:=omega) only [cd166,SS,eq_self,reduceIte,reduceCtorEq,Nat.reduceEqDiff,Nat.reduceAdd]
 refine CallH.by (Len64z_c n H h0) ?_
 rintro _ _ ⟨⟨k,rfl⟩,rfl⟩
 simp (disch:=omega) only [SS,eq_self,reduceIte,reduceCtorEq,Nat.reduceEqDiff,Nat.reduceAdd]
 refine hQ _ _ _ ?_
 simp (disch:=omega) only [SS,eq_self,reduceIte,reduceCtorEq,Nat.reduceEqDiff,Nat.reduceAdd]
 exact ⟨_,rfl⟩
theorem SortFunc_c {H:AH}{v:Value}{us:List Value}{ls:List (List Int)}(h:Sts H v us ls) :
  ACalls Tryz.prog 125 [v,fnCmp] H fun r H'=>H<+:H':=by
 refine in125 rfl ?_
 intro Q hQ
 have hb:=h.bnd
 have hl:=h.len
 have hU:IntKind.u64.wrap (ls.length:Int)=(ls.length:Int):=by rw [IntKind.wrap_u64];omega
 simp (disch:=omega) only [cd125,h.row.len Tryz.underlying32,hl,hU,SS,eq_self,reduceIte,reduceCtorEq,Nat.reduceEqDiff,Nat.reduceAdd]
 by_cases h1:1<=ls.length
 rotate_left
 ·refine CallH.by (Lenz_c ls.length H (by omega)) ?_
  rintro _ _ ⟨⟨k,rfl⟩,rfl⟩
  simp (disch:=omega) only [SS,eq_self,reduceIte,reduceCtorEq,Nat.reduceEqDiff,Nat.reduceAdd]
  refine CallH.by (pdqCmp_c h k (.inr (by omega))) ?_
  rintro _ B hB
  simp (disch:=omega) only [SS,eq_self,reduceIte,reduceCtorEq,Nat.reduceEqDiff,Nat.reduceAdd]
  refine hQ _ _ _ ?_
  simp (disch:=omega) only [SS,eq_self,reduceIte,reduceCtorEq,Nat.reduceEqDiff,Nat.reduceAdd]
  exact hB
 refine CallH.by (Lenb_c ls.length H (by omega) (by omega)) ?_
 rintro _ _ ⟨⟨k,rfl,hk⟩,rfl⟩
 simp (disch:=omega) only [SS,eq_self,reduceIte,reduceCtorEq,Nat.reduceEqDiff,Nat.reduceAdd]
 refine CallH.by (pdqCmp_c h k (.inl (by omega))) ?_
 rintro _ B hB
 simp (disch:=omega) only [SS,eq_self,reduceIte,reduceCtorEq,Nat.reduceEqDiff,Nat.reduceAdd]
 refine hQ _ _ _ ?_
 simp (disch:=omega) only [SS,eq_self,reduceIte,reduceCtorEq,Nat.reduceEqDiff,Nat.reduceAdd]
 exact hB
theorem cmpL_pre:∀ (p a b:List Int),cmpL (p ++ a) (p ++ b)=cmpL a b
 | [],a,b=>rfl
 | x :: p,a,b=>by
  show cmpL (x :: (p ++ a)) (x :: (p ++ b))=_
  rw [cmpL]
  have:cmpI x x=0:=by unfold cmpI;simp
  simp only [this]
  simpa using cmpL_pre p a b
theorem srtL_of {ls:List (List Int)}(h:ls.Pairwise fun x y=>0<cmpL y x):SrtL ls:=by
 intro i j hij hj
 rw [List.pairwise_iff_getElem] at h
 have:=h i j (by omega) hj hij
 have e1:ls.getD i []=ls[i]:=by simp [show i<ls.length by omega]
 have e2:ls.getD j []=ls[j]:=by simp [hj]
 rw [e1,e2];exact this
theorem cmpL_head (p r q:List Int){e f:Int}(h:e<f):0<cmpL (p ++ f :: q) (p ++ e :: r):=by
 rw [cmpL_pre,cmpL]
 have h1:cmpI f e=1:=by
  unfold cmpI
  have a:¬ f<e:=by omega
  simp [a,h]
 rw [h1,if_pos (by decide)];decide
def grA (es:List (Int × Int))(n:Nat):Nat->List Int->List (List Int)
 | 0,T=>if T.length+1=n then [T] else []
 | k+1,T=>if T.length+1=n then [T] else
   (if jnB es n T (enA es ((es.length - (k+1):Nat):Int)) (enB es ((es.length - (k+1):Nat):Int))=true then [] else grA es n k (T ++ [((es.length - (k+1):Nat):Int)])) ++ grA es n k T
theorem grA_full {es:List (Int × Int)}{n:Nat}{T:List Int}(h:T.length+1=n):∀ k,grA es n k T=[T]
 | 0=>by rw [grA,if_pos h]
 | k+1=>by rw [grA,if_pos h]
theorem grA_few {es:List (Int × Int)}{n:Nat}:∀ k (T:List Int),T.length+1+k<n->grA es n k T=[]
 | 0,T,h=>by rw [grA,if_neg (by omega)]
 | k+1,T,h=>by
  rw [grA,if_neg (by omega),grA_few k T (by omega),List.append_nil]
  split
  ·rfl
  ·exact grA_few k _ (by simp;omega)
def Fst (es:List (Int × Int))(T:List Int):Prop:=∀ k,k<T.length->¬ Jn es (T.take k) (enA es (T.getD k 0)) (enB es (T.getD k 0))
theorem Fst.nil (es:List (Int × Int)):Fst es []:=fun k hk=>absurd hk (Nat.not_lt_zero k)
theorem Fst.snoc {es:List (Int × Int)}{T:List Int}{e:Int}(h:Fst es T)(he:¬ Jn es T (enA es e) (enB es e)):Fst es (T ++ [e]):=by
 intro k hk
 rw [List.length_append,List.length_singleton] at hk
 by_cases g:k<T.length
 ·have e1:(T ++ [e]).getD k 0=T.getD k 0:=by
   rw [List.getD_eq_getElem?_getD,List.getElem?_append_left g,<- List.getD_eq_getElem?_getD]
  rw [e1,List.take_append_of_le_length (by omega)]
  exact h k g
 ·have:k=T.length:=by omega
  subst this
  have e1:(T ++ [e]).getD T.length 0=e:=by
   rw [List.getD_eq_getElem?_getD,List.getElem?_append_right (Nat.le_refl _)];simp
  rw [e1,List.take_append_of_le_length (Nat.le_refl _),List.take_length]
  exact he
structure Beg (n:Nat) (es:List (Int × Int)) (k:Nat) (T:List Int):Prop where
 fst:Fst es T
 asc:T.Pairwise (· < ·)
 low:∀ e ∈ T,0<=e/\e<((es.length - k:Nat):Int)
 len:T.length+1<=n
theorem Beg.ed {n:Nat}{es:List (Int × Int)}{k:Nat}{T:List Int}(h:Beg n es k T):EdIn es T:=fun e he=>by have:=h.low e he;omega
theorem Beg.nil {n:Nat}(hn:1<=n)(es:List (Int × Int)):Beg n es es.length []:=⟨Fst.nil es,.nil,fun e he=>by simp at he,hn⟩
theorem Beg.skip {n:Nat}{es:List (Int × Int)}{k:Nat}{T:List Int}(h:Beg n es (k+1) T):Beg n es k T:=⟨h.fst,h.asc,fun e he=>by have:=h.low e he;omega,h.len⟩
theorem Beg.snoc {n:Nat}{es:List (Int × Int)}(hg:Grd (n:Int) es){k:Nat}{T:List Int}(h:Beg n es (k+1) T)(hk:k+1<=es.length)(hl:T.length+1 ≠ n)(hj:¬ jnB es n T (enA es ((es.length - (k+1):Nat):Int)) (enB es ((es.length - (k+1):Nat):Int))=true):Beg n es k (T ++ [((es.length - (k+1):Nat):Int)]):=by
 have he:(0:Int)<=((es.length - (k+1):Nat):Int)/\((es.length - (k+1):Nat):Int)<es.length:=by omega
 have hen:=en_eq hg he
 refine ⟨h.fst.snoc fun q=>hj ((jnB_iff hg h.ed (by omega) (by omega)).2 q),?_,fun e hm=>?_,by have:=h.len;simp;omega⟩
 ·rw [List.pairwise_append]
  exact ⟨h.asc,by simp,fun a ha b hb=>by rw [List.mem_singleton.1 hb];exact (h.low a ha).2⟩
 ·rcases List.mem_append.1 hm with q | q
  ·have:=h.low e q;omega
  ·rw [List.mem_singleton.1 q];omega
theorem Beg.tree {n:Nat}{es:List (Int × Int)}(hg:Grd (n:Int) es){k:Nat}{T:List Int}(h:Beg n es k T)(hl:T.length+1=n):TreL n es T :=
 ⟨hl,h.asc,h.ed,(tree_iff (h.asc.imp fun q e=>by omega) hl (h.ed.ends hg)).1 h.fst⟩
theorem grA_tree {n:Nat}{es:List (Int × Int)}(hg:Grd (n:Int) es):∀ (k:Nat) (T:List Int),k<=es.length->Beg n es k T->∀ U ∈ grA es n k T,TreL n es U/\∃ r,U=T ++ r
 | 0,T,hk,h,U,hU=>by
  rw [grA] at hU
  split at hU
  ·rename_i e
   rw [List.mem_singleton] at hU
   subst hU
   exact ⟨h.tree hg e,[],by simp⟩
  ·simp at hU
 | k+1,T,hk,h,U,hU=>by
  rw [grA] at hU
  split at hU
  ·rename_i e
   rw [List.mem_singleton] at hU
   subst hU
   exact ⟨h.tree hg e,[],by simp⟩
  ·rename_i e
   rcases List.mem_append.1 hU with hU | hU
   ·split at hU
    ·simp at hU
    ·rename_i hj
     obtain ⟨h1,r,h2⟩:=grA_tree hg k _ (by omega) (h.snoc hg hk e hj) U hU
     exact ⟨h1,_,by rw [h2,List.append_assoc]⟩
   ·exact grA_tree hg k T (by omega) h.skip U hU
theorem grA_rest {n:Nat}{es:List (Int × Int)}:∀ (k:Nat) (T:List Int),k<=es.length->∀ U ∈ grA es n k T,∃ r,U=T ++ r/\∀ e ∈ r,((es.length - k:Nat):Int)<=e
 | 0,T,hk,U,hU=>by
  rw [grA] at hU
  split at hU
  ·rw [List.mem_singleton] at hU;subst hU;exact ⟨[],by simp,by simp⟩
  ·simp at hU
 | k+1,T,hk,U,hU=>by
  rw [grA] at hU
  split at hU
  ·rw [List.mem_singleton] at hU;subst hU;exact ⟨[],by simp,by simp⟩
  ·rcases List.mem_append.1 hU with hU | hU
   ·split at hU
    ·simp at hU
    ·obtain ⟨r,r1,r2⟩:=grA_rest k _ (by omega) U hU
     refine ⟨_ :: r,by rw [r1,List.append_assoc];rfl,fun e he=>?_⟩
     rcases List.mem_cons.1 he with rfl | he
     ·exact Int.le_refl _
     ·have:=r2 e he;omega
   ·obtain ⟨r,r1,r2⟩:=grA_rest k T (by omega) U hU
    exact ⟨r,r1,fun e he=>by have:=r2 e he;omega⟩
theorem grA_pw {n:Nat}{es:List (Int × Int)}(hg:Grd (n:Int) es):∀ (k:Nat) (T:List Int),k<=es.length->Beg n es k T->(grA es n k T).Pairwise fun x y=>0<cmpL y x
 | 0,T,hk,h=>by rw [grA];split <;> simp
 | k+1,T,hk,h=>by
  rw [grA]
  split
  ·simp
  ·rename_i e
   rw [List.pairwise_append]
   refine ⟨?_,grA_pw hg k T (by omega) h.skip,fun U hU V hV=>?_⟩
   ·split
    ·exact .nil
    ·rename_i hj
     exact grA_pw hg k _ (by omega) (h.snoc hg hk e hj)
   ·split at hU
    ·simp at hU
    ·rename_i hj
     obtain ⟨r,r1,r2⟩:=grA_rest k _ (by omega) U hU
     obtain ⟨q,q1,q2⟩:=grA_rest k T (by omega) V hV
     obtain ⟨tV,_⟩:=grA_tree hg k T (by omega) h.skip V hV
     cases q with
     | nil =>
      have:=tV.1
      rw [q1,List.append_nil] at this
      exact absurd this e
     | cons f q =>
      rw [r1,q1,List.append_assoc]
      refine cmpL_head T r q ?_
      have:=q2 f (by simp)
      omega
theorem grA_all {n:Nat}{es:List (Int × Int)}(hg:Grd (n:Int) es){U:List Int}(hU:TreL n es U):∀ (k:Nat) (T r:List Int),k<=es.length->Beg n es k T->U=T ++ r->(∀ e ∈ r,((es.length - k:Nat):Int)<=e)->U ∈ grA es n k T
 | 0,T,r,hk,h,hr,hge=>by
  have hrn:r=[]:=by
   cases r with
   | nil=>rfl
   | cons f r =>
    have h1:=hge f (by simp)
    have h2:=hU.2.2.1 f (by rw [hr];simp)
    omega
  subst hrn
  rw [List.append_nil] at hr
  subst hr
  rw [grA,if_pos hU.1];simp
 | k+1,T,r,hk,h,hr,hge=>by
  rw [grA]
  by_cases e:T.length+1=n
  ·rw [if_pos e]
   have hrn:r=[]:=by
    have:=hU.1
    rw [hr,List.length_append] at this
    exact List.eq_nil_of_length_eq_zero (by omega)
   rw [hr,hrn];simp
  ·rw [if_neg e,List.mem_append]
   have hfst:=(tree_iff (hU.2.1.imp fun q e=>by omega) hU.1 (hU.2.2.1.ends hg)).2 hU.2.2.2
   cases r with
   | nil=>rw [hr,List.append_nil] at hU;exact absurd hU.1 e
   | cons f r =>
    have hf:=hge f (by simp)
    have hasc:=hU.2.1
    rw [hr,List.pairwise_append] at hasc
    have hasc2:=List.pairwise_cons.1 hasc.2.1
    by_cases g:f=((es.length - (k+1):Nat):Int)
    ·left
     subst g
     have hen:=en_eq hg (hU.2.2.1 _ (by rw [hr];simp):(0:Int)<=((es.length - (k+1):Nat):Int)/\((es.length - (k+1):Nat):Int)<es.length)
     have hj:¬ jnB es n T (enA es ((es.length - (k+1):Nat):Int)) (enB es ((es.length - (k+1):Nat):Int))=true:=by
      intro q
      have q:=(jnB_iff hg h.ed (by omega) (by omega)).1 q
      have h1:=hfst T.length (by rw [hr];simp)
      have e1:U.getD T.length 0=((es.length - (k+1):Nat):Int):=by
       rw [hr,List.getD_eq_getElem?_getD,List.getElem?_append_right (Nat.le_refl _)];simp
      have e2:U.take T.length=T:=by rw [hr,List.take_append_of_le_length (Nat.le_refl _),List.take_length]
      rw [e1,e2] at h1
      exact h1 q
     rw [if_neg hj]
     refine grA_all hg hU k _ r (by omega) (h.snoc hg hk e hj) (by rw [hr,List.append_assoc];rfl) fun x hx=>?_
     have:=hasc2.1 x hx
     omega
    ·right
     refine grA_all hg hU k T (f :: r) (by omega) h.skip hr fun x hx=>?_
     rcases List.mem_cons.1 hx with rfl | hx
     ·omega
     ·have:=hasc2.1 x hx;omega
def treA (n:Nat)(es:List (Int × Int)):List (List Int):=grA es n es.length []
theorem treA_iff {n:Nat}(hn:1<=n){es:List (Int × Int)}(hg:Grd (n:Int) es)(U:List Int):U ∈ treA n es↔TreL n es U :=
 ⟨fun h=>(grA_tree hg _ [] (Nat.le_refl _) (Beg.nil hn es) U h).1,fun h=>grA_all hg h es.length [] U (Nat.le_refl _) (Beg.nil hn es) (by simp) fun e he=>by have:=h.2.2.1 e he;omega⟩
theorem treA_pw {n:Nat}(hn:1<=n){es:List (Int × Int)}(hg:Grd (n:Int) es):(treA n es).Pairwise fun x y=>0<cmpL y x:=grA_pw hg _ [] (Nat.le_refl _) (Beg.nil hn es)
def swL (ws:List Int)(T:List Int):Int:=(T.map fun e=>ws.getD e.toNat 0).sum
theorem swL_app (ws:List Int)(T U:List Int):swL ws (T ++ U)=swL ws T+swL ws U:=by unfold swL;rw [List.map_append,List.sum_append]
def krN (n:Nat)(es:List (Int × Int))(ws:List Int)(w:Int)(K:List Int):Nat->List Int
 | 0=>K
 | k+1=>if ws.getD k 0=w/\jnB es n (krN n es ws w K k) (enA es (k:Int)) (enB es (k:Int))=false then krN n es ws w K k ++ [(k:Int)] else krN n es ws w K k
def krW (n:Nat)(es:List (Int × Int))(ws:List Int):Nat->List Int
 | 0=>[]
 | w+1=>krN n es ws (w:Int) (krW n es ws w) es.length
theorem Jn.over {es:List (Int × Int)}{T U:List Int}(h:∀ e ∈ T,Jn es U (enA es e) (enB es e)){x y:Nat}(hj:Jn es T x y):Jn es U x y:=by
 induction hj with
 | refl x=>exact .refl x
 | edge e q=>exact h e q
 | symm _ ih=>exact .symm ih
 | trans _ _ i1 i2=>exact .trans i1 i2
structure Krs (n:Nat) (es:List (Int × Int)) (ws:List Int) (w:Int) (k:Nat) (K:List Int):Prop where
 fst:Fst es K
 nd:K.Nodup
 ed:EdIn es K
 low:∀ e ∈ K,ws.getD e.toNat 0<=w
 all:∀ e:Nat,e<es.length->(ws.getD e 0<w∨(ws.getD e 0=w/\e<k))->Jn es K (enA es (e:Int)) (enB es (e:Int))
theorem krN_ok {n:Nat}{es:List (Int × Int)}{ws:List Int}(hg:Grd (n:Int) es){w:Int}{K:List Int}(h:Krs n es ws w 0 K):∀ k,k<=es.length ->
  Krs n es ws w k (krN n es ws w K k)/\∃ r,krN n es ws w K k=K ++ r/\∀ e ∈ r,ws.getD e.toNat 0=w:=by
 intro k
 induction k with
 | zero=>intro _;exact ⟨h,[],by simp [krN],by simp⟩
 | succ k ih =>
  intro hk
  obtain ⟨i1,r,i2,i3⟩:=ih (by omega)
  have hend:=EdIn.ends hg i1.ed
  have hek:(0:Int)<=(k:Int)/\(k:Int)<es.length:=by omega
  have ee:=en_eq hg hek
  have hjn:=jnB_not hg i1.ed (i:=enA es (k:Int)) (j:=enB es (k:Int)) (by omega) (by omega)
  have hji:=jnB_iff hg i1.ed (i:=enA es (k:Int)) (j:=enB es (k:Int)) (by omega) (by omega)
  rw [krN]
  by_cases c:ws.getD k 0=w/\jnB es n (krN n es ws w K k) (enA es (k:Int)) (enB es (k:Int))=false
  ·rw [if_pos c]
   have hn:=hjn.1 c.2
   refine ⟨⟨i1.fst.snoc hn,?_,?_,?_,?_⟩,r ++ [(k:Int)],by rw [i2,List.append_assoc],?_⟩
   ·rw [List.nodup_append]
    refine ⟨i1.nd,by simp,fun a ha b hb e=>?_⟩
    rw [List.mem_singleton.1 hb] at e
    subst e
    exact hn (.edge _ ha)
   ·intro e he
    rcases List.mem_append.1 he with q | q
    ·exact i1.ed e q
    ·rw [List.mem_singleton.1 q];exact hek
   ·intro e he
    rcases List.mem_append.1 he with q | q
    ·exact i1.low e q
    ·rw [List.mem_singleton.1 q,Int.toNat_natCast];omega
   ·intro e he hw
    have hs:∀ x ∈ krN n es ws w K k,x ∈ krN n es ws w K k ++ [(k:Int)]:=fun x hx=>List.mem_append_left _ hx
    by_cases q:e=k
    ·subst q;exact .edge _ (by simp)
    ·exact (i1.all e he (by omega)).mono hs
   ·intro e he
    rcases List.mem_append.1 he with q | q
    ·exact i3 e q
    ·rw [List.mem_singleton.1 q,Int.toNat_natCast];exact c.1
  ·rw [if_neg c]
   refine ⟨⟨i1.fst,i1.nd,i1.ed,i1.low,fun e he hw=>?_⟩,r,i2,i3⟩
   by_cases q:e=k/\ws.getD e 0=w
   ·obtain ⟨rfl,q2⟩:=q
    refine hji.1 ?_
    cases hb:jnB es n (krN n es ws w K e) (enA es (e:Int)) (enB es (e:Int)) with
    | true=>rfl
    | false=>exact absurd ⟨q2,hb⟩ c
   ·exact i1.all e he (by omega)
theorem Krs.next {n:Nat}{es:List (Int × Int)}{ws:List Int}{w:Int}{K:List Int}(h:Krs n es ws w es.length K):Krs n es ws (w+1) 0 K :=
 ⟨h.fst,h.nd,h.ed,fun e he=>by have:=h.low e he;omega,fun e he hw=>h.all e he (by omega)⟩
theorem krW_ok {n:Nat}{es:List (Int × Int)}{ws:List Int}(hg:Grd (n:Int) es)(hw:∀ e:Nat,e<es.length->0<=ws.getD e 0):∀ w:Nat,Krs n es ws (w:Int) 0 (krW n es ws w):=by
 intro w
 induction w with
 | zero=>exact ⟨Fst.nil es,.nil,fun e he=>by simp [krW] at he,fun e he=>by simp [krW] at he,fun e he h=>by have:=hw e he;omega⟩
 | succ w ih =>
  have:=(krN_ok hg ih es.length (Nat.le_refl _)).1.next
  rw [krW]
  rw [show ((w+1:Nat):Int)=(w:Int)+1 by omega]
  exact this
theorem Fst.few {n:Nat}(hn:1<=n){es:List (Int × Int)}(hg:Grd (n:Int) es){K:List Int}(h:Fst es K)(he:EdIn es K):K.length+1<=n:=by
 have key:∀ j,j<=K.length->cls (Jn es (K.take j)) n+j<=n:=by
  intro j
  induction j with
  | zero=>intro _;rw [List.take_zero,cls_nil];omega
  | succ j ih =>
   intro hj
   have h1:=ih (by omega)
   have hm:K.getD j 0 ∈ K:=by simp [show j<K.length by omega]
   have hen:=EdIn.ends hg he _ hm
   have h2:=cls_two (es:=es) (T:=K.take j) (U:=K.take (j+1)) (e:=K.getD j 0) (n:=n) (fun x hx=>by
    rw [List.take_add_one];exact List.mem_append_left _ hx) (by
    rw [List.take_add_one,List.getElem?_eq_getElem (by omega)]
    refine List.mem_append_right _ ?_
    simp [show j<K.length by omega]) hen.1 hen.2 (h j (by omega))
   omega
 refine Classical.byContradiction fun hc=>?_
 have h1:=key (n - 1) (by omega)
 have h2:=cls_conn (es:=es) (T:=K.take (n - 1)) (n:=n) (by omega)
 have hm:K.getD (n - 1) 0 ∈ K:=by simp [show n - 1<K.length by omega]
 have hen:=EdIn.ends hg he _ hm
 exact h (n - 1) (by omega) (h2 _ _ hen.1 hen.2)
theorem filt_two (p:Int->Bool):∀ l:List Int,l.length=(l.filter p).length+(l.filter fun e=>!p e).length
 | []=>rfl
 | a :: l=>by
  have:=filt_two p l
  cases h:p a <;> simp [h] <;> omega
theorem kr_many {n:Nat}(hn:1<=n){es:List (Int × Int)}(hg:Grd (n:Int) es){ws:List Int}{w:Int}{K T:List Int}(hT:TreL n es T)(h:Krs n es ws w 0 K):(T.filter fun e=>decide (ws.getD e.toNat 0<w)).length<=K.length:=by
 have hc:Conn es (K ++ T.filter fun e=>!decide (ws.getD e.toNat 0<w)) n:=by
  intro x y hx hy
  refine Jn.over (T:=T) (fun e he=>?_) (hT.2.2.2 x y hx hy)
  by_cases q:ws.getD e.toNat 0<w
  ·have hb:=hT.2.2.1 e he
   have:=h.all e.toNat (by omega) (.inl q)
   rw [show ((e.toNat:Nat):Int)=e by omega] at this
   exact this.mono fun x hx=>List.mem_append_left _ hx
  ·exact .edge e (List.mem_append_right _ (List.mem_filter.2 ⟨he,by rw [decide_eq_false q];rfl⟩))
 have h1:=conn_cls hc
 have h2:=cls_le es n (K ++ T.filter fun e=>!decide (ws.getD e.toNat 0<w))
 have h4:=filt_two (fun e:Int=>decide (ws.getD e.toNat 0<w)) T
 have h5:=hT.1
 rw [List.length_append] at h2
 omega
theorem sw_split (ws:List Int)(w:Int):∀ T:List Int,swL ws (T.filter fun e=>decide (ws.getD e.toNat 0<w+1))=swL ws (T.filter fun e=>decide (ws.getD e.toNat 0<w))+w * (((T.filter fun e=>decide (ws.getD e.toNat 0<w+1)).length:Int) - ((T.filter fun e=>decide (ws.getD e.toNat 0<w)).length:Int))
 | []=>by simp [swL]
 | a :: T=>by
  have ih:=sw_split ws w T
  have e0:∀ (x:Int) (l:List Int),swL ws (x :: l)=ws.getD x.toNat 0+swL ws l:=fun x l=>by simp [swL]
  by_cases q:ws.getD a.toNat 0<w
  ·rw [List.filter_cons_of_pos (by rw [decide_eq_true_eq];omega),List.filter_cons_of_pos (by simpa using q),e0,e0,ih,List.length_cons,List.length_cons]
   rw [show (((T.filter fun e=>decide (ws.getD e.toNat 0<w+1)).length+1:Nat):Int) - (((T.filter fun e=>decide (ws.getD e.toNat 0<w)).length+1:Nat):Int)=((T.filter fun e=>decide (ws.getD e.toNat 0<w+1)).length:Int) - ((T.filter fun e=>decide (ws.getD e.toNat 0<w)).length:Int) by omega]
   omega
  ·by_cases q2:ws.getD a.toNat 0=w
   ·rw [List.filter_cons_of_pos (by rw [decide_eq_true_eq];omega),List.filter_cons_of_neg (by simpa using q),e0,ih,List.length_cons]
    rw [show (((T.filter fun e=>decide (ws.getD e.toNat 0<w+1)).length+1:Nat):Int) - ((T.filter fun e=>decide (ws.getD e.toNat 0<w)).length:Int)=(((T.filter fun e=>decide (ws.getD e.toNat 0<w+1)).length:Int) - ((T.filter fun e=>decide (ws.getD e.toNat 0<w)).length:Int))+1 by omega,Int.mul_add,Int.mul_one]
    omega
   ·rw [List.filter_cons_of_neg (by rw [decide_eq_true_eq];omega),List.filter_cons_of_neg (by simpa using q)]
    exact ih
theorem sw_same (ws:List Int)(w:Int):∀ r:List Int,(∀ e ∈ r,ws.getD e.toNat 0=w)->swL ws r=w * (r.length:Int)
 | [],_=>by simp [swL]
 | a :: r,h=>by
  have ih:=sw_same ws w r fun e he=>h e (List.mem_cons_of_mem _ he)
  have h1:=h a (by simp)
  have e0:swL ws (a :: r)=ws.getD a.toNat 0+swL ws r:=by simp [swL]
  rw [e0,ih,h1,List.length_cons,show ((r.length+1:Nat):Int)=(r.length:Int)+1 by omega,Int.mul_add,Int.mul_one]
  omega
theorem kr_least {n:Nat}(hn:1<=n){es:List (Int × Int)}(hg:Grd (n:Int) es){ws:List Int}{M:Nat}(hw:∀ e:Nat,e<es.length->0<=ws.getD e 0/\ws.getD e 0<(M:Int)){T:List Int}(hT:TreL n es T):swL ws (krW n es ws M)<=swL ws T:=by
 have h0:∀ e:Nat,e<es.length->0<=ws.getD e 0:=fun e he=>(hw e he).1
 have key:∀ w:Nat,swL ws (krW n es ws w)+(w:Int) * ((T.filter fun e=>decide (ws.getD e.toNat 0<(w:Int))).length:Int)<=swL ws (T.filter fun e=>decide (ws.getD e.toNat 0<(w:Int)))+(w:Int) * ((krW n es ws w).length:Int):=by
  intro w
  induction w with
  | zero =>
   have:T.filter (fun e=>decide (ws.getD e.toNat 0<((0:Nat):Int)))=[]:=by
    rw [List.filter_eq_nil_iff]
    intro e he
    have:=hT.2.2.1 e he
    have:=h0 e.toNat (by omega)
    simp only [decide_eq_true_eq]
    omega
   rw [this]
   simp [krW,swL]
  | succ w ih =>
   have hs:=sw_split ws (w:Int) T
   have hm:=kr_many hn hg hT (krW_ok hg h0 (w+1))
   rw [show ((w+1:Nat):Int)=(w:Int)+1 by omega] at hm ⊢
   obtain ⟨_,r,e1,e2⟩:=krN_ok hg (krW_ok hg h0 w) es.length (Nat.le_refl _)
   have e3:krW n es ws (w+1)=krW n es ws w ++ r:=by rw [krW];exact e1
   have e4:=sw_same ws (w:Int) r e2
   rw [e3] at hm ⊢
   rw [swL_app,e4,hs]
   rw [List.length_append] at hm ⊢
   generalize (T.filter fun e=>decide (ws.getD e.toNat 0<(w:Int)+1)).length=t1 at *
   generalize (T.filter fun e=>decide (ws.getD e.toNat 0<(w:Int))).length=t0 at *
   generalize (krW n es ws w).length=k0 at *
   rw [show ((k0+r.length:Nat):Int)=(k0:Int)+(r.length:Int) by omega]
   rw [Int.add_mul,Int.add_mul,Int.mul_sub,Int.mul_add,Int.one_mul,Int.one_mul]
   omega
 have h1:=key M
 have hall:T.filter (fun e=>decide (ws.getD e.toNat 0<(M:Int)))=T:=by
  rw [List.filter_eq_self]
  intro e he
  have:=hT.2.2.1 e he
  have:=(hw e.toNat (by omega)).2
  simpa using this
 rw [hall] at h1
 have h2:=(krW_ok hg h0 M).fst.few hn hg (krW_ok hg h0 M).ed
 have h3:=hT.1
 have h4:(M:Int) * ((krW n es ws M).length:Int)<=(M:Int) * (T.length:Int):=Int.mul_le_mul_of_nonneg_left (by omega) (by omega)
 omega
def cd199:Cd:=(.seq (.reg [⟨⟨some 2,.assign (.const (.int .i64 0)),none⟩,[]⟩]) (.seq (.reg [⟨⟨some 3,.move (.tmp 0),none⟩,[]⟩,⟨⟨some 4,.binOp .shr 65 (.tmp 3) (.const (.int .u64 1)) 94,none⟩,[]⟩,⟨⟨some 5,.binOp .and 65 (.tmp 4) (.const (.int .u64 6148914691236517205)) 65,none⟩,[]⟩,⟨⟨some 6,.move (.tmp 0),none⟩,[]⟩,⟨⟨some 7,.binOp .and 65 (.tmp 6) (.const (.int .u64 6148914691236517205)) 65,none⟩,[]⟩,⟨⟨some 8,.binOp .add 65 (.tmp 5) (.tmp 7) 65,none⟩,[]⟩,⟨⟨some 0,.assign (.tmp 8),none⟩,[]⟩]) (.seq (.reg [⟨⟨some 9,.move (.tmp 0),none⟩,[]⟩,⟨⟨some 10,.binOp .shr 65 (.tmp 9) (.const (.int .u64 2)) 94,none⟩,[]⟩,⟨⟨some 11,.binOp .and 65 (.tmp 10) (.const (.int .u64 3689348814741910323)) 65,none⟩,[]⟩,⟨⟨some 12,.move (.tmp 0),none⟩,[]⟩,⟨⟨some 13,.binOp .and 65 (.tmp 12) (.const (.int .u64 3689348814741910323)) 65,none⟩,[]⟩,⟨⟨some 14,.binOp .add 65 (.tmp 11) (.tmp 13) 65,none⟩,[]⟩,
 ⟨⟨some 0,.assign (.tmp 14),none⟩,[]⟩]) (.seq (.reg [⟨⟨some 15,.move (.tmp 0),none⟩,[]⟩,⟨⟨some 16,.binOp .shr 65 (.tmp 15) (.const (.int .u64 4)) 94,none⟩,[]⟩,⟨⟨some 17,.move (.tmp 0),none⟩,[]⟩,⟨⟨some 18,.binOp .add 65 (.tmp 16) (.tmp 17) 65,none⟩,[]⟩,⟨⟨some 19,.binOp .and 65 (.tmp 18) (.const (.int .u64 1085102592571150095)) 65,none⟩,[]⟩,⟨⟨some 0,.assign (.tmp 19),none⟩,[]⟩]) (.seq (.reg [⟨⟨some 20,.move (.tmp 0),none⟩,[]⟩,⟨⟨some 21,.move (.tmp 0),none⟩,[]⟩,⟨⟨some 22,.binOp .shr 65 (.tmp 21) (.const (.int .u64 8)) 94,none⟩,[]⟩,⟨⟨some 23,.binOp .add 65 (.tmp 20) (.tmp 22) 65,none⟩,[]⟩,⟨⟨some 0,.assign (.tmp 23),none⟩,[]⟩]) (.seq (.reg [⟨⟨some 24,.move (.tmp 0),none⟩,[]⟩,⟨⟨some 25,.move (.tmp 0),none⟩,[]⟩,⟨⟨some 26,.binOp .shr 65 (.tmp 25) (.const (.int .u64 16)) 94,none⟩,[]⟩,
 ⟨⟨some 27,.binOp .add 65 (.tmp 24) (.tmp 26) 65,none⟩,[]⟩,
  ⟨⟨some 0,.assign (.tmp 27),none⟩,[]⟩]) (.seq (.reg [⟨⟨some 28,.move (.tmp 0),none⟩,[]⟩,
  ⟨⟨some 29,.move (.tmp 0),none⟩,[]⟩,
  ⟨⟨some 30,.binOp .shr 65 (.tmp 29) (.const (.int .u64 32)) 94,none⟩,[]⟩,
  ⟨⟨some 31,.binOp .add 65 (.tmp 28) (.tmp 30) 65,none⟩,[]⟩,
  ⟨⟨some 0,.assign (.tmp 31),none⟩,[]⟩]) (.seq (.reg [⟨⟨some 32,.move (.tmp 0),none⟩,[]⟩,
  ⟨⟨some 33,.convert 65 3 (.tmp 32),none⟩,[]⟩,
  ⟨⟨some 34,.binOp .and 3 (.tmp 33) (.const (.int .i64 127)) 3,none⟩,[]⟩,
  ⟨⟨some 2,.assign (.tmp 34),none⟩,[]⟩]) .ret))))))))
theorem in199:InT Tryz.prog 199 1 [.tmp 2] cd199:=InT.mk (by kernel_rfl) [] Tryz.func199 rfl (by kernel_rfl) (by kernel_rfl) (of_decide_eq_true (by kernel_rfl)) (by kernel_rfl)
def cd168:Cd:=(.seq (.reg [⟨⟨some 2,.assign (.const (.int .i64 0)),none⟩,[]⟩]) (.seq (.cond (.const (.bool false)) (.seq (.reg [⟨⟨some 3,.move (.tmp 0),none⟩,[]⟩,
 ⟨⟨some 4,.convert 94 169 (.tmp 3),none⟩,[]⟩,
 ⟨⟨some 5,.call ⟨(.value (.func 198)),#[.tmp 4],#[169]⟩,none⟩,[]⟩,
 ⟨⟨some 2,.assign (.tmp 5),none⟩,[]⟩]) .ret) .skip) (.seq (.reg [⟨⟨some 6,.move (.tmp 0),none⟩,[]⟩,
 ⟨⟨some 7,.call ⟨(.value (.func 199)),#[.tmp 6],#[65]⟩,none⟩,[]⟩,
 ⟨⟨some 2,.assign (.tmp 7),none⟩,[]⟩]) .ret)))
theorem in168:InT Tryz.prog 168 1 [.tmp 2] cd168:=InT.mk (by kernel_rfl) [] Tryz.func168 rfl (by kernel_rfl) (by kernel_rfl) (of_decide_eq_true (by kernel_rfl)) (by kernel_rfl)
def cd129:Cd:=(.seq (.reg [⟨⟨some 2,.assign (.const (.int .i64 0)),none⟩,[]⟩]) (.seq (.reg [⟨⟨some 3,.move (.tmp 0),none⟩,[]⟩,
 ⟨⟨some 4,.call ⟨(.value (.func 168)),#[.tmp 3],#[94]⟩,none⟩,[]⟩,
 ⟨⟨some 2,.assign (.tmp 4),none⟩,[]⟩]) .ret))
theorem in129:InT Tryz.prog 129 1 [.tmp 2] cd129:=InT.mk (by kernel_rfl) [] Tryz.func129 rfl (by kernel_rfl) (by kernel_rfl) (of_decide_eq_true (by kernel_rfl)) (by kernel_rfl)
end Go.Proofs.YtlcipphiflcaiaaGreat.Ai
namespace Go.Proofs.YtlcipphiflcaiaaGreat.Ai
open Go Go.RowKit
def pc1 (b:Nat):Nat:=((b / 2 ^ 1) &&& 6148914691236517205)+(b &&& 6148914691236517205)
def pc2 (b:Nat):Nat:=((b / 2 ^ 2) &&& 3689348814741910323)+(b &&& 3689348814741910323)
def pc3 (b:Nat):Nat:=(b / 2 ^ 4+b) &&& 1085102592571150095
def pcS8 (b:Nat):Nat:=b+b / 2 ^ 8
def pcS16 (b:Nat):Nat:=b+b / 2 ^ 16
def pcS32 (b:Nat):Nat:=b+b / 2 ^ 32
def popc (b:Nat):Nat:=pcS32 (pcS16 (pcS8 (pc3 (pc2 (pc1 b))))) &&& 127
theorem pc1_le (b:Nat):pc1 b<=12297829382473034410:=by
 unfold pc1
 have h1:(b / 2 ^ 1) &&& 6148914691236517205<=6148914691236517205:=Nat.and_le_right
 have h2:b &&& 6148914691236517205<=6148914691236517205:=Nat.and_le_right
 omega
theorem pc2_le (b:Nat):pc2 b<=7378697629483820646:=by
 unfold pc2
 have h1:(b / 2 ^ 2) &&& 3689348814741910323<=3689348814741910323:=Nat.and_le_right
 have h2:b &&& 3689348814741910323<=3689348814741910323:=Nat.and_le_right
 omega
theorem pc3_le (b:Nat):pc3 b<=1085102592571150095:=by unfold pc3;exact Nat.and_le_right
theorem bin_shrU (P:Program)(t:TypeId)(b y:Nat)(hy:y<64):binA P .shr t (.int .u64 (b:Int)) (.int .u64 (y:Int))=some (.int .u64 ((b / 2 ^ y:Nat):Int)):=by
 have:¬ ((y:Int)<0):=by omega
 simp only [binA,shiftA,this,if_false,IntKind.bits]
 rw [if_pos (.inr trivial)]
 have:=shr_nat b y (by omega)
 simp only [this]
theorem bin_addU (P:Program)(t:TypeId)(a b:Nat)(h:a+b<2 ^ 64):binA P .add t (.int .u64 (a:Int)) (.int .u64 (b:Int))=some (.int .u64 ((a+b:Nat):Int)):=by
 have e:IntKind.u64.wrap ((a:Int)+(b:Int))=((a+b:Nat):Int):=by rw [IntKind.wrap_u64];omega
 simp only [binA,intA,e]
 simp
theorem bin_and127 (P:Program)(t:TypeId)(a:Nat)(ha:a<2 ^ 63):binA P .and t (.int .i64 (a:Int)) (.int .i64 127)=some (.int .i64 ((a &&& 127:Nat):Int)):=by
 have e:bitsA .and .i64 (a:Int) 127=((a &&& 127:Nat):Int):=by
  have h:a &&& 127<=127:=Nat.and_le_right
  have e:(BitVec.ofInt 64 (a:Int) &&& BitVec.ofInt 64 ((127:Nat):Int)).toNat=a &&& 127:=by rw [BitVec.toNat_and,ofInt_nat a (by omega),ofInt_nat 127 (by decide)]
  show IntKind.i64.wrap (((BitVec.ofInt 64 (a:Int) &&& BitVec.ofInt 64 ((127:Nat):Int)).toNat:Nat):Int)=_
  rw [e,wrap64 (by omega) (by omega)]
 simp only [binA,intA,e]
 simp
theorem Ones64_c (b:Nat)(H:AH)(hb:b<2 ^ 64):ACalls Tryz.prog 199 [.int .u64 (b:Int)] H fun r H'=>r=.int .i64 ((popc b:Nat):Int)/\H=H':=by
 refine in199 rfl ?_
 intro Q hQ
 have l1:=pc1_le b
 have l2:=pc2_le (pc1 b)
 have l3:=pc3_le (pc2 (pc1 b))
 have m1:(b / 2 ^ 1) &&& 6148914691236517205<=6148914691236517205:=Nat.and_le_right
 have m2:b &&& 6148914691236517205<=6148914691236517205:=Nat.and_le_right
 have m3:(pc1 b / 2 ^ 2) &&& 3689348814741910323<=3689348814741910323:=Nat.and_le_right
 have m4:pc1 b &&& 3689348814741910323<=3689348814741910323:=Nat.and_le_right
 have n8:pcS8 (pc3 (pc2 (pc1 b)))<=1085102592571150095+1085102592571150095:=by unfold pcS8;omega
 have n16:pcS16 (pcS8 (pc3 (pc2 (pc1 b))))<=4 * 1085102592571150095:=by unfold pcS16;omega
 have n32:pcS32 (pcS16 (pcS8 (pc3 (pc2 (pc1 b)))))<=8 * 1085102592571150095:=by unfold pcS32;omega
 have k1:binA Tryz.prog .shr 65 (.int .u64 ((b:Nat):Int)) (.int .u64 1)=some (.int .u64 ((b / 2 ^ 1:Nat):Int)):=bin_shrU _ _ b 1 (by decide)
 have k2:binA Tryz.prog .and 65 (.int .u64 ((b / 2 ^ 1:Nat):Int)) (.int .u64 6148914691236517205)=some (.int .u64 (((b / 2 ^ 1) &&& 6148914691236517205:Nat):Int)):=bin_and _ _ (b / 2 ^ 1) 6148914691236517205 (by omega) (by decide)
 have k3:binA Tryz.prog .and 65 (.int .u64 ((b:Nat):Int)) (.int .u64 6148914691236517205)=some (.int .u64 ((b &&& 6148914691236517205:Nat):Int)):=bin_and _ _ b 6148914691236517205 hb (by decide)
 have k4:binA Tryz.prog .add 65 (.int .u64 (((b / 2 ^ 1) &&& 6148914691236517205:Nat):Int)) (.int .u64 ((b &&& 6148914691236517205:Nat):Int))=some (.int .u64 ((pc1 b:Nat):Int)):=bin_addU _ _ _ _ (by omega)
 have k5:binA Tryz.prog .shr 65 (.int .u64 ((pc1 b:Nat):Int)) (.int .u64 2)=some (.int .u64 ((pc1 b / 2 ^ 2:Nat):Int)):=bin_shrU _ _ (pc1 b) 2 (by decide)
 have k6:binA Tryz.prog .and 65 (.int .u64 ((pc1 b / 2 ^ 2:Nat):Int)) (.int .u64 3689348814741910323)=some (.int .u64 (((pc1 b / 2 ^ 2) &&& 3689348814741910323:Nat):Int)):=bin_and _ _ (pc1 b / 2 ^ 2) 3689348814741910323 (by omega) (by decide)
 have k7:binA Tryz.prog .and 65 (.int .u64 ((pc1 b:Nat):Int)) (.int .u64 3689348814741910323)=some (.int .u64 ((pc1 b &&& 3689348814741910323:Nat):Int)):=bin_and _ _ (pc1 b) 3689348814741910323 (by omega) (by decide)
 have k8:binA Tryz.prog .add 65 (.int .u64 (((pc1 b / 2 ^ 2) &&& 3689348814741910323:Nat):Int)) (.int .u64 ((pc1 b &&& 3689348814741910323:Nat):Int))=some (.int .u64 ((pc2 (pc1 b):Nat):Int)):=bin_addU _ _ _ _ (by omega)
 have k9:binA Tryz.prog .shr 65 (.int .u64 ((pc2 (pc1 b):Nat):Int)) (.int .u64 4)=some (.int .u64 ((pc2 (pc1 b) / 2 ^ 4:Nat):Int)):=bin_shrU _ _ (pc2 (pc1 b)) 4 (by decide)
 have k10:binA Tryz.prog .add 65 (.int .u64 ((pc2 (pc1 b) / 2 ^ 4:Nat):Int)) (.int .u64 ((pc2 (pc1 b):Nat):Int))=some (.int .u64 ((pc2 (pc1 b) / 2 ^ 4+pc2 (pc1 b):Nat):Int)):=bin_addU _ _ _ _ (by omega)
 have k11:binA Tryz.prog .and 65 (.int .u64 ((pc2 (pc1 b) / 2 ^ 4+pc2 (pc1 b):Nat):Int)) (.int .u64 1085102592571150095)=some (.int .u64 ((pc3 (pc2 (pc1 b)):Nat):Int)):=bin_and _ _ (pc2 (pc1 b) / 2 ^ 4+pc2 (pc1 b)) 1085102592571150095 (by omega) (by decide)
 have k12:binA Tryz.prog .shr 65 (.int .u64 ((pc3 (pc2 (pc1 b)):Nat):Int)) (.int .u64 8)=some (.int .u64 ((pc3 (pc2 (pc1 b)) / 2 ^ 8:Nat):Int)):=bin_shrU _ _ (pc3 (pc2 (pc1 b))) 8 (by decide)
 have k13:binA Tryz.prog .add 65 (.int .u64 ((pc3 (pc2 (pc1 b)):Nat):Int)) (.int .u64 ((pc3 (pc2 (pc1 b)) / 2 ^ 8:Nat):Int))=some (.int .u64 ((pcS8 (pc3 (pc2 (pc1 b))):Nat):Int)):=bin_addU _ _ _ _ (by omega)
 have k14:binA Tryz.prog .shr 65 (.int .u64 ((pcS8 (pc3 (pc2 (pc1 b))):Nat):Int)) (.int .u64 16)=some (.int .u64 ((pcS8 (pc3 (pc2 (pc1 b))) / 2 ^ 16:Nat):Int)):=bin_shrU _ _ (pcS8 (pc3 (pc2 (pc1 b)))) 16 (by decide)
 have k15:binA Tryz.prog .add 65 (.int .u64 ((pcS8 (pc3 (pc2 (pc1 b))):Nat):Int)) (.int .u64 ((pcS8 (pc3 (pc2 (pc1 b))) / 2 ^ 16:Nat):Int))=some (.int .u64 ((pcS16 (pcS8 (pc3 (pc2 (pc1 b)))):Nat):Int)):=bin_addU _ _ _ _ (by omega)
 have k16:binA Tryz.prog .shr 65 (.int .u64 ((pcS16 (pcS8 (pc3 (pc2 (pc1 b)))):Nat):Int)) (.int .u64 32)=some (.int .u64 ((pcS16 (pcS8 (pc3 (pc2 (pc1 b)))) / 2 ^ 32:Nat):Int)):=bin_shrU _ _ (pcS16 (pcS8 (pc3 (pc2 (pc1 b))))) 32 (by decide)
 have k17:binA Tryz.prog .add 65 (.int .u64 ((pcS16 (pcS8 (pc3 (pc2 (pc1 b)))):Nat):Int)) (.int .u64 ((pcS16 (pcS8 (pc3 (pc2 (pc1 b)))) / 2 ^ 32:Nat):Int))=some (.int .u64 ((pcS32 (pcS16 (pcS8 (pc3 (pc2 (pc1 b))))):Nat):Int)):=bin_addU _ _ _ _ (by omega)
 have c1:convA Tryz.prog 65 3 (.int .u64 ((pcS32 (pcS16 (pcS8 (pc3 (pc2 (pc1 b))))):Nat):Int))=some (.int .i64 ((pcS32 (pcS16 (pcS8 (pc3 (pc2 (pc1 b))))):Nat):Int)):=by
  simp only [convA,Tryz.underlying65,Tryz.underlying3]
  rw [wrap64 (by omega) (by omega)]
 have c2:=bin_and127 Tryz.prog 3 (pcS32 (pcS16 (pcS8 (pc3 (pc2 (pc1 b)))))) (by omega)
 simp (disch:=omega) only [cd199,k1,k2,k3,k4,k5,k6,k7,k8,k9,k10,k11,k12,k13,k14,k15,k16,k17,c1,c2,SS,eq_self,reduceIte,reduceCtorEq,Nat.reduceEqDiff,Nat.reduceAdd]
 refine hQ _ _ _ ?_
 simp (disch:=omega) only [SS,eq_self,reduceIte,reduceCtorEq,Nat.reduceEqDiff,Nat.reduceAdd]
 rfl
theorem Ones_c (b:Nat)(H:AH)(hb:b<2 ^ 64):ACalls Tryz.prog 168 [.int .u64 (b:Int)] H fun r H'=>r=.int .i64 ((popc b:Nat):Int)/\H=H':=by
 refine in168 rfl ?_
 intro Q hQ
 simp (disch:=omega) only [cd168,SS,eq_self,reduceIte,reduceCtorEq,Nat.reduceEqDiff,Nat.reduceAdd]
 refine CallH.by (Ones64_c b H hb) ?_
 rintro _ _ ⟨rfl,rfl⟩
 simp (disch:=omega) only [SS,eq_self,reduceIte,reduceCtorEq,Nat.reduceEqDiff,Nat.reduceAdd]
 refine hQ _ _ _ ?_
 simp (disch:=omega) only [SS,eq_self,reduceIte,reduceCtorEq,Nat.reduceEqDiff,Nat.reduceAdd]
theorem size_c (b:Nat)(H:AH)(hb:b<2 ^ 64):ACalls Tryz.prog 129 [.int .u64 (b:Int)] H fun r H'=>r=.int .i64 ((popc b:Nat):Int)/\H=H':=by
 refine in129 rfl ?_
 intro Q hQ
 simp (disch:=omega) only [cd129,SS,eq_self,reduceIte,reduceCtorEq,Nat.reduceEqDiff,Nat.reduceAdd]
 refine CallH.by (Ones_c b H hb) ?_
 rintro _ _ ⟨rfl,rfl⟩
 simp (disch:=omega) only [SS,eq_self,reduceIte,reduceCtorEq,Nat.reduceEqDiff,Nat.reduceAdd]
 refine hQ _ _ _ ?_
 simp (disch:=omega) only [SS,eq_self,reduceIte,reduceCtorEq,Nat.reduceEqDiff,Nat.reduceAdd]
theorem nodup_leB {α:Type}[DecidableEq α]:∀ (l m:List α),l.Nodup->(∀ x ∈ l,x ∈ m)->l.length<=m.length
 | [],m,_,_=>by simp
 | x :: l,m,hn,h=>by
  have hn':=List.nodup_cons.1 hn
  have hx:=h x (by simp)
  have:=nodup_leB l (m.erase x) hn'.2 fun y hy=>by
   exact (List.mem_erase_of_ne (fun e=>by subst e;exact hn'.1 hy)).2 (h y (by simp [hy]))
  have h2:=List.length_erase_of_mem hx
  have h3:=List.length_pos_of_mem hx
  simp only [List.length_cons];omega
theorem nodup_back {α:Type}[DecidableEq α]{l m:List α}(hn:l.Nodup)(h:∀ x ∈ l,x ∈ m)(hl:m.length<=l.length):∀ x ∈ m,x ∈ l:=by
 intro x hx
 refine Classical.byContradiction fun q=>?_
 have:=nodup_leB (x :: l) m (List.nodup_cons.2 ⟨q,hn⟩) (fun y hy=>by
  rcases List.mem_cons.1 hy with rfl | hy
  ·exact hx
  ·exact h y hy)
 simp only [List.length_cons] at this;omega
noncomputable def pdc (p:Prop):Bool:=@decide p (Classical.propDecidable p)
theorem pdc_iff {p:Prop}:pdc p=true↔p:=⟨fun h=>@of_decide_eq_true p (Classical.propDecidable p) h,fun h=>@decide_eq_true p (Classical.propDecidable p) h⟩
theorem pdc_no {p:Prop}(h:¬ p):pdc p=false:=by
 rw [<- Bool.not_eq_true,pdc_iff];exact h
noncomputable def sepC (es:List (Int × Int))(E:List Int)(x y:Nat):Nat:=E.countP fun e=>pdc (¬ Jn es (wo1 E e) x y)
theorem sepC_le (es:List (Int × Int))(E:List Int)(x y:Nat):sepC es E x y<=E.length:=List.countP_le_length
theorem sepC_symm (es:List (Int × Int))(E:List Int)(x y:Nat):sepC es E x y=sepC es E y x:=by
 unfold sepC
 congr 1
 funext e
 have:(¬ Jn es (wo1 E e) x y)=¬ Jn es (wo1 E e) y x:=propext ⟨fun h q=>h q.symm,fun h q=>h q.symm⟩
 rw [this]
theorem sepC_self (es:List (Int × Int))(E:List Int)(x:Nat):sepC es E x x=0:=by
 unfold sepC
 rw [List.countP_eq_zero]
 intro e _ h
 exact pdc_iff.1 h (.refl x)
theorem wo1_cons_self {E:List Int}{e:Int}(h:e ∉ E):wo1 (e :: E) e=E:=by
 unfold wo1
 rw [List.filter_cons]
 simp only [ne_eq,not_true_eq_false,decide_false,Bool.false_eq_true,if_false]
 rw [List.filter_eq_self]
 intro y hy
 simp only [decide_eq_true_eq]
 exact fun q=>h (q ▸ hy)
theorem sepC_old {es:List (Int × Int)}{E:List Int}{e0:Int}(h0:e0 ∉ E){x y:Nat}(hj:Jn es E x y):sepC es (e0 :: E) x y<=sepC es E x y:=by
 unfold sepC
 rw [List.countP_cons,wo1_cons_self h0]
 have:pdc (¬ Jn es E x y)=false:=by
  exact pdc_no fun q=>q hj
 rw [this]
 simp only [Bool.false_eq_true,if_false,Nat.add_zero]
 refine List.countP_mono_left fun e he h=>?_
 rw [pdc_iff] at h ⊢
 exact fun q=>h (q.mono fun z hz=>wo1_mem.2 ⟨List.mem_cons_of_mem _ (wo1_mem.1 hz).1,(wo1_mem.1 hz).2⟩)
theorem sepC_new {es:List (Int × Int)}{E:List Int}{e0:Int}(h0:e0 ∉ E){w z:Nat}(hj:Jn es [e0] w z)(y:Nat):sepC es (e0 :: E) z y<=sepC es E w y+1:=by
 unfold sepC
 rw [List.countP_cons]
 have h1:(E.countP fun e=>pdc (¬ Jn es (wo1 (e0 :: E) e) z y))<=E.countP fun e=>pdc (¬ Jn es (wo1 E e) w y):=by
  refine List.countP_mono_left fun e he h=>?_
  rw [pdc_iff] at h ⊢
  intro q
  have hne:e0 ≠ e:=fun q=>h0 (q ▸ he)
  have a:Jn es (wo1 (e0 :: E) e) w z:=hj.mono fun x hx=>by
   rw [List.mem_singleton] at hx
   subst hx
   exact wo1_mem.2 ⟨by simp,hne⟩
  exact h (a.symm.trans (q.mono fun z hz=>wo1_mem.2 ⟨List.mem_cons_of_mem _ (wo1_mem.1 hz).1,(wo1_mem.1 hz).2⟩))
 split <;> omega
def prL:List Nat->List (Nat × Nat)
 | []=>[]
 | x :: l=>l.map (fun y=>(x,y)) ++ prL l
theorem prL_mem {x y:Nat}:∀ {l:List Nat},x ∈ l->y ∈ l->x ≠ y->(x,y) ∈ prL l∨(y,x) ∈ prL l
 | [],h,_,_=>by simp at h
 | z :: l,hx,hy,hne=>by
  unfold prL
  rcases List.mem_cons.1 hx with h1 | h1
  ·rcases List.mem_cons.1 hy with h2 | h2
   ·exact absurd (h1.trans h2.symm) hne
   ·left;rw [List.mem_append];left;exact List.mem_map.2 ⟨y,h2,by rw [h1]⟩
  ·rcases List.mem_cons.1 hy with h2 | h2
   ·right;rw [List.mem_append];left;exact List.mem_map.2 ⟨x,h1,by rw [h2]⟩
   ·rcases prL_mem h1 h2 hne with q | q
    ·left;exact List.mem_append_right _ q
    ·right;exact List.mem_append_right _ q
theorem prL_in {x y:Nat}:∀ {l:List Nat},(x,y) ∈ prL l->x ∈ l/\y ∈ l
 | [],h=>by simp [prL] at h
 | z :: l,h=>by
  unfold prL at h
  rcases List.mem_append.1 h with q | q
  ·obtain ⟨w,h1,h2⟩:=List.mem_map.1 q
   rw [Prod.mk.injEq] at h2
   obtain ⟨rfl,rfl⟩:=h2
   exact ⟨by simp,by simp [h1]⟩
  ·obtain ⟨h1,h2⟩:=prL_in q
   exact ⟨by simp [h1],by simp [h2]⟩
def triN (j:Nat):Nat:=j * (j - 1) / 2
theorem triN_succ (j:Nat):triN (j+1)=triN j+j:=by
 unfold triN
 cases j with
 | zero=>rfl
 | succ j =>
  simp only [Nat.add_sub_cancel]
  rw [Nat.succ_mul (j+1) (j+1),Nat.mul_succ (j+1) j]
  generalize (j+1) * j=z
  omega
structure Grow (es:List (Int × Int)) (T:List Int) (n:Nat) (vs:List Nat) (E:List Int):Prop where
 nd:vs.Nodup
 lt:∀ x ∈ vs,x<n
 nde:E.Nodup
 sub:∀ e ∈ E,e ∈ T
 len:E.length+1=vs.length
 con:∀ x ∈ vs,∀ y ∈ vs,Jn es E x y
 ends:∀ e ∈ E,enA es e ∈ vs/\enB es e ∈ vs
 row:∀ x ∈ vs,∀ k,(vs.countP fun y=>decide (k<=sepC es E x y))<=vs.length - k
 pr:∀ k,1<=k->((prL vs).countP fun p=>decide (k<=sepC es E p.1 p.2))<=triN (vs.length+1 - k)
theorem Grow.one (es:List (Int × Int))(T:List Int){n:Nat}(hn:0<n):Grow es T n [0] []:=by
 refine ⟨by simp,fun x hx=>by rw [List.mem_singleton] at hx;omega,.nil,by simp,rfl,fun x hx y hy=>?_,by simp,fun x hx k=>?_,fun k hk=>by simp [prL]⟩
 ·rw [List.mem_singleton] at hx hy
  subst hx;subst hy;exact .refl 0
 ·rw [List.mem_singleton] at hx
  subst hx
  rw [List.countP_cons,List.countP_nil,sepC_self]
  cases k <;> simp
theorem Grow.step {es:List (Int × Int)}{T:List Int}{n:Nat}{vs:List Nat}{E:List Int}(g:Grow es T n vs E){e0:Int}{w z:Nat}(he:e0 ∈ T)(hw:w ∈ vs)(hz:z ∉ vs)(hzn:z<n)(hj:Jn es [e0] w z)(hz':(enA es e0=w/\enB es e0=z)∨(enA es e0=z/\enB es e0=w)):Grow es T n (z :: vs) (e0 :: E):=by
 have h0:e0 ∉ E:=fun q=>by
  have:=g.ends e0 q
  rcases hz' with ⟨_,q2⟩ | ⟨q1,_⟩
  ·rw [q2] at this;exact hz this.2
  ·rw [q1] at this;exact hz this.1
 have up:∀ {x y},Jn es E x y->Jn es (e0 :: E) x y:=fun h=>h.mono fun e he=>List.mem_cons_of_mem _ he
 have hwz:Jn es (e0 :: E) w z:=hj.mono fun e he=>by rw [List.mem_singleton] at he;simp [he]
 have old:∀ x ∈ vs,∀ y ∈ vs,sepC es (e0 :: E) x y<=sepC es E x y:=fun x hx y hy=>sepC_old h0 (g.con x hx y hy)
 have new:∀ y,sepC es (e0 :: E) z y<=sepC es E w y+1:=fun y=>sepC_new h0 hj y
 have toz:∀ x ∈ vs,Jn es (e0 :: E) x z:=fun x hx=>(up (g.con x hx w hw)).trans hwz
 have hlen:=g.len
 have zrow:∀ k,1<=k->(vs.countP fun y=>decide (k<=sepC es (e0 :: E) z y))<=vs.length - (k - 1):=by
  intro k hk
  refine Nat.le_trans (List.countP_mono_left fun y hy h=>?_) (g.row w hw (k - 1))
  rw [decide_eq_true_eq] at h ⊢
  have:=new y
  omega
 refine ⟨List.nodup_cons.2 ⟨hz,g.nd⟩,fun x hx=>?_,List.nodup_cons.2 ⟨h0,g.nde⟩,fun e h=>?_,by simp only [List.length_cons];omega,fun x hx y hy=>?_,fun e h=>?_,fun x hx k=>?_,fun k hk=>?_⟩
 ·rcases List.mem_cons.1 hx with rfl | hx
  ·exact hzn
  ·exact g.lt x hx
 ·rcases List.mem_cons.1 h with rfl | h
  ·exact he
  ·exact g.sub e h
 ·rcases List.mem_cons.1 hx with h1 | h1 <;> rcases List.mem_cons.1 hy with h2 | h2
  ·rw [h1,h2];exact .refl _
  ·rw [h1];exact (toz y h2).symm
  ·rw [h2];exact toz x h1
  ·exact up (g.con x h1 y h2)
 ·rcases List.mem_cons.1 h with rfl | h
  ·rcases hz' with ⟨q1,q2⟩ | ⟨q1,q2⟩
   ·rw [q1,q2];exact ⟨by simp [hw],by simp⟩
   ·rw [q1,q2];exact ⟨by simp,by simp [hw]⟩
  ·have:=g.ends e h
   exact ⟨by simp [this.1],by simp [this.2]⟩
 ·rw [List.countP_cons,List.length_cons]
  rcases List.mem_cons.1 hx with rfl | hx
  ·rw [sepC_self]
   by_cases hk:k=0
   ·subst hk
    have:=List.countP_le_length (p:=fun y=>decide (0<=sepC es (e0 :: E) x y)) (l:=vs)
    simp only [Nat.le_refl,decide_true,if_true];omega
   ·have:=zrow k (by omega)
    have h2:decide (k<=0)=false:=decide_eq_false (by omega)
    rw [h2]
    simp only [Bool.false_eq_true,if_false];omega
  ·have h1:(vs.countP fun y=>decide (k<=sepC es (e0 :: E) x y))<=vs.length - k:=by
    refine Nat.le_trans (List.countP_mono_left fun y hy h=>?_) (g.row x hx k)
    rw [decide_eq_true_eq] at h ⊢
    have:=old x hx y hy
    omega
   by_cases hk:k<=vs.length
   ·split <;> omega
   ·have h2:decide (k<=sepC es (e0 :: E) x z)=false:=by
     refine decide_eq_false ?_
     have:=sepC_le es (e0 :: E) x z
     simp only [List.length_cons] at this
     omega
    rw [h2]
    simp only [Bool.false_eq_true,if_false];omega
 ·unfold prL
  rw [List.countP_append,List.countP_map]
  have h1:vs.countP ((fun p:Nat × Nat=>decide (k<=sepC es (e0 :: E) p.1 p.2)) ∘ fun y=>(z,y))<=vs.length - (k - 1):=zrow k hk
  have h2:((prL vs).countP fun p=>decide (k<=sepC es (e0 :: E) p.1 p.2))<=triN (vs.length+1 - k):=by
   refine Nat.le_trans (List.countP_mono_left fun p hp h=>?_) (g.pr k hk)
   rw [decide_eq_true_eq] at h ⊢
   have hi:=prL_in (x:=p.1) (y:=p.2) hp
   have:=old p.1 hi.1 p.2 hi.2
   omega
  rw [List.length_cons]
  by_cases hk2:k<=vs.length+1
  ·have e:vs.length+1+1 - k=(vs.length+1 - k)+1:=by omega
   rw [e,triN_succ];omega
  ·have hz0:vs.length - (k - 1)=0:=by omega
   have e:vs.length+1+1 - k=vs.length+1 - k:=by omega
   rw [e];omega
theorem jn_inv {es:List (Int × Int)}{T:List Int}{p:Nat->Prop}(h:∀ e ∈ T,p (enA es e)↔p (enB es e)){x y:Nat}(hj:Jn es T x y):p x↔p y:=by
 induction hj with
 | refl=>exact Iff.rfl
 | edge e he=>exact h e he
 | symm _ ih=>exact ih.symm
 | trans _ _ i1 i2=>exact i1.trans i2
theorem grow_all {es:List (Int × Int)}{T:List Int}{n:Nat}(h:Tree es T n)(hn:0<n):∀ m,m+1<=n->∃ vs E,Grow es T n vs E/\vs.length=m+1
 | 0,_=>⟨[0],[],.one es T hn,rfl⟩
 | m+1,hm=>by
  obtain ⟨vs,E,g,hl⟩:=grow_all h hn m (by omega)
  obtain ⟨y,hy,hyv⟩:∃ y,y<n/\y ∉ vs:=by
   refine Classical.byContradiction fun q=>?_
   have:=nodup_leB (List.range n) vs List.nodup_range fun x hx=>Classical.byContradiction fun q2=>q ⟨x,List.mem_range.1 hx,q2⟩
   rw [List.length_range] at this;omega
  obtain ⟨v,hv⟩:∃ v,v ∈ vs:=by
   cases vs with
   | nil=>simp at hl
   | cons v vs=>exact ⟨v,by simp⟩
  have hj:=h.conn v y (g.lt v hv) hy
  obtain ⟨e,he,hne⟩:∃ e,e ∈ T/\¬ (enA es e ∈ vs↔enB es e ∈ vs):=by
   refine Classical.byContradiction fun q=>?_
   have:=jn_inv (p:=fun x=>x ∈ vs) (fun e he=>Classical.byContradiction fun q2=>q ⟨e,he,q2⟩) hj
   exact hyv (this.1 hv)
  have hen:=h.ends e he
  by_cases ha:enA es e ∈ vs
  ·have hb:enB es e ∉ vs:=fun q=>hne ⟨fun _=>q,fun _=>ha⟩
   exact ⟨_,_,g.step he ha hb hen.2 (.edge e (by simp)) (.inl ⟨rfl,rfl⟩),by simp [hl]⟩
  ·have hb:enB es e ∈ vs:=Classical.byContradiction fun q=>hne ⟨fun r=>absurd r ha,fun r=>absurd r q⟩
   exact ⟨_,_,g.step he hb ha hen.1 (.symm (.edge e (by simp))) (.inr ⟨rfl,rfl⟩),by simp [hl]⟩
theorem far_few {es:List (Int × Int)}{T:List Int}{n:Nat}(h:Tree es T n)(hn:0<n){F:List Int}(hF:F.Nodup)(hfe:∀ f ∈ F,enA es f<enB es f/\enB es f<n)(hinj:∀ f ∈ F,∀ g ∈ F,enA es f=enA es g->enB es f=enB es g->f=g)(k:Nat)(hk:1<=k) :
  (F.countP fun f=>decide (k<=sepC es T (enA es f) (enB es f)))<=triN (n+1 - k):=by
 obtain ⟨vs,E,g,hl⟩:=grow_all h hn (n - 1) (by omega)
 have hl:vs.length=n:=by omega
 have hET:=nodup_back g.nde g.sub (by have:=h.len;have:=g.len;omega)
 have hsame:∀ x y,sepC es T x y<=sepC es E x y:=by
  intro x y
  unfold sepC
  rw [List.countP_eq_length_filter,List.countP_eq_length_filter]
  refine nodup_leB _ _ (h.nd.sublist List.filter_sublist) fun e he=>?_
  rw [List.mem_filter,pdc_iff] at he ⊢
  exact ⟨hET e he.1,fun q=>he.2 (q.mono fun z hz=>wo1_mem.2 ⟨g.sub z (wo1_mem.1 hz).1,(wo1_mem.1 hz).2⟩)⟩
 have hvs:∀ x,x<n->x ∈ vs:=fun x hx=>nodup_back g.nd (m:=List.range n) (fun y hy=>List.mem_range.2 (g.lt y hy)) (by rw [List.length_range];omega) x (List.mem_range.2 hx)
 have hp:=g.pr k hk
 rw [hl] at hp
 refine Nat.le_trans ?_ hp
 rw [List.countP_eq_length_filter,List.countP_eq_length_filter]
 let m:Int->Nat × Nat:=fun f=>if (enA es f,enB es f) ∈ prL vs then (enA es f,enB es f) else (enB es f,enA es f)
 have hm:∀ f,m f=(enA es f,enB es f)∨m f=(enB es f,enA es f):=by
  intro f
  show (if _ then _ else _)=_∨(if _ then _ else _)=_
  split
  ·exact .inl rfl
  ·exact .inr rfl
 have:=nodup_leB ((F.filter fun f=>decide (k<=sepC es T (enA es f) (enB es f))).map m) ((prL vs).filter fun p=>decide (k<=sepC es E p.1 p.2)) ?_ ?_
 ·rw [List.length_map] at this;exact this
 ·rw [List.Nodup,List.pairwise_map]
  refine List.Pairwise.imp_of_mem ?_ (hF.sublist List.filter_sublist)
  intro f f' h1 h2 hne heq
  have h1:=(List.mem_filter.1 h1).1
  have h2:=(List.mem_filter.1 h2).1
  have a1:=hfe f h1
  have a2:=hfe f' h2
  rcases hm f with q | q <;> rcases hm f' with q2 | q2 <;> rw [q,q2,Prod.mk.injEq] at heq
  ·exact hne (hinj f h1 f' h2 heq.1 heq.2)
  ·omega
  ·omega
  ·exact hne (hinj f h1 f' h2 heq.2 heq.1)
 ·intro p hp
  obtain ⟨f,hf,rfl⟩:=List.mem_map.1 hp
  rw [List.mem_filter,decide_eq_true_eq] at hf
  obtain ⟨hf,hk⟩:=hf
  have a:=hfe f hf
  have hs:=hsame (enA es f) (enB es f)
  rw [List.mem_filter,decide_eq_true_eq]
  show (if _ then _ else _) ∈ _/\k<=sepC es E (if _ then _ else _:Nat × Nat).1 (if _ then _ else _:Nat × Nat).2
  split
  ·rename_i q;exact ⟨q,by simp only;omega⟩
  ·rename_i q
   refine ⟨(prL_mem (hvs _ (by omega)) (hvs _ a.2) (by omega)).resolve_left q,?_⟩
   simp only
   rw [sepC_symm];omega
def farS (n m:Nat):Nat:=((List.range 7).map fun k=>min m (triN (n - k))).foldl (·+·) 0
theorem sum_cnt {α:Type}(c:α->Nat):∀ (F:List α),(∀ f ∈ F,c f<=7)->(F.map c).foldr (·+·) 0=F.countP (fun f=>decide (1<=c f))+F.countP (fun f=>decide (2<=c f))+F.countP (fun f=>decide (3<=c f))+F.countP (fun f=>decide (4<=c f))+F.countP (fun f=>decide (5<=c f))+F.countP (fun f=>decide (6<=c f))+F.countP (fun f=>decide (7<=c f))
 | [],_=>rfl
 | f :: F,h=>by
  have ih:=sum_cnt c F fun g hg=>h g (by simp [hg])
  have hf:=h f (by simp)
  rw [List.map_cons,List.foldr_cons,ih]
  simp only [List.countP_cons,decide_eq_true_eq]
  generalize c f=m at *
  have:m=0∨m=1∨m=2∨m=3∨m=4∨m=5∨m=6∨m=7:=by omega
  rcases this with rfl | rfl | rfl | rfl | rfl | rfl | rfl | rfl <;> simp <;> omega
theorem far_sum {es:List (Int × Int)}{T:List Int}{n:Nat}(h:Tree es T n)(hn:0<n)(h8:n<=8){F:List Int}(hF:F.Nodup)(hfe:∀ f ∈ F,enA es f<enB es f/\enB es f<n)(hinj:∀ f ∈ F,∀ g ∈ F,enA es f=enA es g->enB es f=enB es g->f=g) :
  (F.map fun f=>sepC es T (enA es f) (enB es f)).foldr (·+·) 0<=farS n F.length:=by
 rw [sum_cnt _ F fun f _=>by have:=sepC_le es T (enA es f) (enB es f);have:=h.len;omega]
 have key:=far_few h hn hF hfe hinj
 have b:∀ k,(F.countP fun f=>decide (k<=sepC es T (enA es f) (enB es f)))<=F.length:=fun k=>List.countP_le_length
 have m:∀ k,1<=k->(F.countP fun f=>decide (k<=sepC es T (enA es f) (enB es f)))<=min F.length (triN (n+1 - k)):=fun k hk=>Nat.le_min.2 ⟨b k,key k hk⟩
 have e:farS n F.length=min F.length (triN (n+1 - 1))+min F.length (triN (n+1 - 2))+min F.length (triN (n+1 - 3))+min F.length (triN (n+1 - 4))+min F.length (triN (n+1 - 5))+min F.length (triN (n+1 - 6))+min F.length (triN (n+1 - 7)):=by
  unfold farS
  simp only [List.range,List.range.loop,List.map_cons,List.map_nil,List.foldl_cons,List.foldl_nil]
  have:∀ k,n+1 - (k+1)=n - k:=fun k=>by omega
  rw [this 0,this 1,this 2,this 3,this 4,this 5,this 6]
  omega
 rw [e]
 have m1:=m 1 (by omega)
 have m2:=m 2 (by omega)
 have m3:=m 3 (by omega)
 have m4:=m 4 (by omega)
 have m5:=m 5 (by omega)
 have m6:=m 6 (by omega)
 have m7:=m 7 (by omega)
 omega
theorem and_split (k:Nat){x m:Nat}(y n:Nat)(hx:x<2 ^ k)(hm:m<2 ^ k):(2 ^ k * y+x) &&& (2 ^ k * n+m)=2 ^ k * (y &&& n)+(x &&& m):=by
 refine Nat.eq_of_testBit_eq fun j=>?_
 rw [Nat.testBit_and,Nat.testBit_two_pow_mul_add _ hx,Nat.testBit_two_pow_mul_add _ hm,Nat.testBit_two_pow_mul_add _ (Nat.lt_of_le_of_lt Nat.and_le_left hx)]
 split
 ·rw [Nat.testBit_and]
 ·rw [Nat.testBit_and]
theorem and_top (k:Nat){y:Nat}(n m:Nat)(hy:y<2 ^ k)(hm:m<2 ^ k):y &&& (2 ^ k * n+m)=y &&& m:=by
 have:=and_split k 0 n hy hm
 rw [Nat.mul_zero,Nat.zero_add,Nat.zero_and,Nat.mul_zero,Nat.zero_add] at this
 exact this
theorem pc1_split {x y:Nat}(hx:x<256)(hy:y<2 ^ 48):pc1 (256 * y+x)=256 * pc1 y+pc1 x:=by
 unfold pc1
 have e1:(256 * y+x) / 2 ^ 1=2 ^ 8 * (y / 2)+(128 * (y % 2)+x / 2):=by omega
 have e2:256 * y+x=2 ^ 8 * y+x:=by omega
 have eM:6148914691236517205=2 ^ 8 * 24019198012642645+85:=by decide
 have eM2:6148914691236517205=2 ^ 56 * 85+24019198012642645:=by decide
 rw [e1,e2]
 conv=>lhs;rw [eM]
 rw [and_split 8 _ _ (by omega) (by decide),and_split 8 _ _ (by omega) (by decide)]
 have t1:=and_top 56 (y:=y / 2) 85 24019198012642645 (by omega) (by decide)
 have t2:=and_top 56 (y:=y) 85 24019198012642645 (by omega) (by decide)
 have t3:=and_top 8 (y:=x / 2) 24019198012642645 85 (by omega) (by decide)
 have t4:=and_top 8 (y:=x) 24019198012642645 85 (by omega) (by decide)
 have t5:=and_split 7 (x:=x / 2) (m:=85) (y % 2) 0 (by omega) (by decide)
 have e5:128 * (y % 2)+x / 2=2 ^ 7 * (y % 2)+x / 2:=by omega
 rw [<- eM2] at t1 t2
 rw [<- eM] at t3 t4
 rw [Nat.and_zero,Nat.mul_zero,Nat.zero_add,Nat.zero_add] at t5
 have e6:y / 2 ^ 1=y / 2:=by omega
 have e7:x / 2 ^ 1=x / 2:=by omega
 rw [e5,t5,e6,e7,t1,t2,t3,t4]
 omega
theorem pc2_split {x y:Nat}(hx:x<256)(hy:y<2 ^ 48):pc2 (256 * y+x)=256 * pc2 y+pc2 x:=by
 unfold pc2
 have e1:(256 * y+x) / 2 ^ 2=2 ^ 8 * (y / 4)+(64 * (y % 4)+x / 4):=by omega
 have e2:256 * y+x=2 ^ 8 * y+x:=by omega
 have eM:3689348814741910323=2 ^ 8 * 14411518807585587+51:=by decide
 have eM2:3689348814741910323=2 ^ 56 * 51+14411518807585587:=by decide
 rw [e1,e2]
 conv=>lhs;rw [eM]
 rw [and_split 8 _ _ (by omega) (by decide),and_split 8 _ _ (by omega) (by decide)]
 have t1:=and_top 56 (y:=y / 4) 51 14411518807585587 (by omega) (by decide)
 have t2:=and_top 56 (y:=y) 51 14411518807585587 (by omega) (by decide)
 have t3:=and_top 8 (y:=x / 4) 14411518807585587 51 (by omega) (by decide)
 have t4:=and_top 8 (y:=x) 14411518807585587 51 (by omega) (by decide)
 have t5:=and_split 6 (x:=x / 4) (m:=51) (y % 4) 0 (by omega) (by decide)
 have e5:64 * (y % 4)+x / 4=2 ^ 6 * (y % 4)+x / 4:=by omega
 rw [<- eM2] at t1 t2
 rw [<- eM] at t3 t4
 rw [Nat.and_zero,Nat.mul_zero,Nat.zero_add,Nat.zero_add] at t5
 have e6:y / 2 ^ 2=y / 4:=by omega
 have e7:x / 2 ^ 2=x / 4:=by omega
 rw [e5,t5,e6,e7,t1,t2,t3,t4]
 omega
theorem pc3_split {x y:Nat}(hx:x<=68)(hy:y<2 ^ 40)(hy16:y % 16<=4):pc3 (256 * y+x)=256 * pc3 y+pc3 x:=by
 unfold pc3
 have e1:(256 * y+x) / 2 ^ 4+(256 * y+x)=2 ^ 8 * (y / 16+y)+(16 * (y % 16)+x / 16+x):=by omega
 have eM:1085102592571150095=2 ^ 8 * 4238682002231055+15:=by decide
 have eM2:1085102592571150095=2 ^ 56 * 15+4238682002231055:=by decide
 rw [e1]
 conv=>lhs;rw [eM]
 rw [and_split 8 _ _ (by omega) (by decide)]
 have t1:=and_top 56 (y:=y / 16+y) 15 4238682002231055 (by omega) (by decide)
 have t3:=and_top 8 (y:=x / 16+x) 4238682002231055 15 (by omega) (by decide)
 rw [<- eM2] at t1
 rw [<- eM] at t3
 have m1:(16 * (y % 16)+x / 16+x) &&& 15=(16 * (y % 16)+x / 16+x) % 16:=Nat.and_two_pow_sub_one_eq_mod _ 4
 have m2:(x / 16+x) &&& 15=(x / 16+x) % 16:=Nat.and_two_pow_sub_one_eq_mod _ 4
 have e6:y / 2 ^ 4=y / 16:=by omega
 have e7:x / 2 ^ 4=x / 16:=by omega
 rw [e6,e7,t1,t3,m1,m2]
 omega
def cb8 (x:Nat):Nat:=pc3 (pc2 (pc1 x))
def byteOk:Bool:=(List.range 256).all fun x=>decide (cb8 x=(List.range 8).countP fun j=>x.testBit j) && (Nat.ble (pc1 x) 170 && (Nat.ble (pc2 (pc1 x)) 68 && Nat.ble (pc2 (pc1 x) % 16) 4))
theorem byteOk_ok:byteOk=true:=by decide +kernel
theorem byte_ok {x:Nat}(h:x<256):cb8 x=((List.range 8).countP fun j=>x.testBit j)/\pc1 x<=170/\pc2 (pc1 x)<=68/\pc2 (pc1 x) % 16<=4:=by
 have:=byteOk_ok
 unfold byteOk at this
 rw [List.all_eq_true] at this
 have:=this x (List.mem_range.2 h)
 simp only [Bool.and_eq_true,decide_eq_true_eq] at this
 exact ⟨this.1,Nat.le_of_ble_eq_true this.2.1,Nat.le_of_ble_eq_true this.2.2.1,Nat.le_of_ble_eq_true this.2.2.2⟩
theorem popc_bytes {a b c d:Nat}(ha:a<256)(hb:b<256)(hc:c<256)(hd:d<256):popc (a+256 * (b+256 * (c+256 * d)))=cb8 a+cb8 b+cb8 c+cb8 d:=by
 obtain ⟨a0,a1,a2,a3⟩:=byte_ok ha
 obtain ⟨b0,b1,b2,b3⟩:=byte_ok hb
 obtain ⟨c0,c1,c2,c3⟩:=byte_ok hc
 obtain ⟨d0,d1,d2,d3⟩:=byte_ok hd
 have le8:∀ x:Nat,((List.range 8).countP fun j=>x.testBit j)<=8:=fun x=>by
  have:=List.countP_le_length (p:=fun j=>x.testBit j) (l:=List.range 8)
  rw [List.length_range] at this
  exact this
 have a8:=le8 a
 have b8:=le8 b
 have c8:=le8 c
 have d8:=le8 d
 have e:a+256 * (b+256 * (c+256 * d))=256 * (256 * (256 * d+c)+b)+a:=by omega
 rw [e]
 have p1:pc1 (256 * (256 * (256 * d+c)+b)+a)=256 * (256 * (256 * pc1 d+pc1 c)+pc1 b)+pc1 a:=by
  rw [pc1_split ha (by omega),pc1_split hb (by omega),pc1_split hc (by omega)]
 have p2:pc2 (256 * (256 * (256 * pc1 d+pc1 c)+pc1 b)+pc1 a)=256 * (256 * (256 * pc2 (pc1 d)+pc2 (pc1 c))+pc2 (pc1 b))+pc2 (pc1 a):=by
  rw [pc2_split (by omega) (by omega),pc2_split (by omega) (by omega),pc2_split (by omega) (by omega)]
 have p3:pc3 (256 * (256 * (256 * pc2 (pc1 d)+pc2 (pc1 c))+pc2 (pc1 b))+pc2 (pc1 a))=256 * (256 * (256 * cb8 d+cb8 c)+cb8 b)+cb8 a:=by
  rw [pc3_split (by omega) (by omega) (by omega),pc3_split (by omega) (by omega) (by omega),pc3_split (by omega) (by omega) (by omega)]
  rfl
 unfold popc
 rw [p1,p2,p3]
 rw [<- a0] at a8
 rw [<- b0] at b8
 rw [<- c0] at c8
 rw [<- d0] at d8
 have m:∀ z:Nat,z &&& 127=z % 128:=fun z=>Nat.and_two_pow_sub_one_eq_mod z 7
 rw [m]
 unfold pcS32 pcS16 pcS8
 generalize cb8 a=A at *
 generalize cb8 b=B at *
 generalize cb8 c=C at *
 generalize cb8 d=D at *
 clear p1 p2 p3 a0 a1 a2 a3 b0 b1 b2 b3 c0 c1 c2 c3 d0 d1 d2 d3 e
 have s1:(256 * (256 * (256 * D+C)+B)+A) / 2 ^ 8=256 * (256 * D+C)+B:=by omega
 rw [s1]
 have s2:(256 * (256 * (256 * D+C)+B)+A+(256 * (256 * D+C)+B)) / 2 ^ 16=256 * D+(C+D):=by omega
 rw [s2]
 have s3:(256 * (256 * (256 * D+C)+B)+A+(256 * (256 * D+C)+B)+(256 * D+(C+D))) / 2 ^ 32=0:=by omega
 rw [s3]
 omega
theorem popc_cnt {b:Nat}(h:b<2 ^ 32):popc b=(List.range 32).countP fun z=>b.testBit z:=by
 have e:b=b % 256+256 * (b / 256 % 256+256 * (b / 65536 % 256+256 * (b / 16777216))):=by omega
 have hp:=popc_bytes (a:=b % 256) (b:=b / 256 % 256) (c:=b / 65536 % 256) (d:=b / 16777216) (by omega) (by omega) (by omega) (by omega)
 rw [<- e] at hp
 rw [hp,(byte_ok (x:=b % 256) (by omega)).1,(byte_ok (x:=b / 256 % 256) (by omega)).1,(byte_ok (x:=b / 65536 % 256) (by omega)).1,(byte_ok (x:=b / 16777216) (by omega)).1]
 have r32:List.range 32=List.range 8 ++ ((List.range 8).map (·+8) ++ ((List.range 8).map (·+16) ++ (List.range 8).map (·+24))):=by decide
 rw [r32,List.countP_append,List.countP_append,List.countP_append,List.countP_map,List.countP_map,List.countP_map]
 have tb:∀ (x j:Nat),x.testBit j=decide (x / 2 ^ j % 2=1):=fun x j=>Nat.testBit_eq_decide_div_mod_eq
 have k0:((List.range 8).countP fun j=>(b % 256).testBit j)=(List.range 8).countP fun z=>b.testBit z:=List.countP_congr fun j hj=>by
  rw [show (256:Nat)=2 ^ 8 from rfl,Nat.testBit_mod_two_pow,decide_eq_true (List.mem_range.1 hj),Bool.true_and]
 have kk:∀ s:Nat,((List.range 8).countP fun j=>(b / 2 ^ s % 256).testBit j)=(List.range 8).countP ((fun z=>b.testBit z) ∘ (·+s)):=fun s=>List.countP_congr fun j hj=>by
  rw [show (256:Nat)=2 ^ 8 from rfl,Nat.testBit_mod_two_pow,decide_eq_true (List.mem_range.1 hj),Bool.true_and,Nat.testBit_div_two_pow]
  show _↔b.testBit (j+s)=true
  exact Iff.rfl
 have k1:=kk 8
 have k2:=kk 16
 have k3:=kk 24
 rw [k0]
 have e1:b / 2 ^ 8=b / 256:=rfl
 have e2:b / 2 ^ 16=b / 65536:=rfl
 have e3:b / 2 ^ 24 % 256=b / 16777216:=by omega
 rw [e1] at k1
 rw [e2] at k2
 rw [e3] at k3
 rw [k1,k2,k3]
 omega
theorem popc_len2 {b:Nat}{s:List Int}(hb:b<2 ^ 64/\∀ z,z<64->b.testBit z=decide ((z:Int) ∈ s))(hs:s.Pairwise (· < ·))(hr:∀ x ∈ s,0<=x/\x<28):popc b=s.length:=by
 have h28:b<2 ^ 32:=by
  refine Nat.lt_pow_two_of_testBit b fun i hi=>?_
  by_cases q:i<64
  ·rw [hb.2 i q,decide_eq_false_iff_not]
   intro w
   have:=hr _ w
   omega
  ·exact Nat.testBit_lt_two_pow (Nat.lt_of_lt_of_le hb.1 (Nat.pow_le_pow_right (by omega) (by omega)))
 rw [popc_cnt h28,List.countP_eq_length_filter]
 have h1:=nodup_leB (((List.range 32).filter fun z=>b.testBit z).map fun z:Nat=>(z:Int)) s (by
  rw [List.Nodup,List.pairwise_map]
  exact (List.nodup_range.sublist List.filter_sublist).imp fun q e=>q (by omega)) fun x hx=>by
   obtain ⟨z,hz,rfl⟩:=List.mem_map.1 hx
   obtain ⟨z1,z2⟩:=List.mem_filter.1 hz
   have:=List.mem_range.1 z1
   rw [hb.2 z (by omega)] at z2
   exact of_decide_eq_true z2
 have h2:=nodup_leB s (((List.range 32).filter fun z=>b.testBit z).map fun z:Nat=>(z:Int)) (hs.imp fun q e=>by omega) fun x hx=>by
  have:=hr x hx
  refine List.mem_map.2 ⟨x.toNat,List.mem_filter.2 ⟨List.mem_range.2 (by omega),?_⟩,by omega⟩
  rw [hb.2 _ (by omega),decide_eq_true_eq]
  have e:((x.toNat:Nat):Int)=x:=by omega
  rw [e];exact hx
 rw [List.length_map] at h1 h2
 omega
def pr6:List (Nat × Nat):=[(0,1),(0,2),(1,2),(0,3),(1,3),(2,3),(0,4),(1,4),(2,4),(3,4),(0,5),(1,5),(2,5),(3,5),(4,5)]
def pid (i j:Nat):Nat:=j * (j - 1) / 2+i
def sg1:List Nat:=[1099,1101,1102,1107,1109,1110,1114,1116,1123,1125,1126,1129,1132,1137,1138,1144,1163,1165,1166,1171,1173,1174,1178,1180,
 1187,1189,1190,1193,1196,1201,1202,1208,1226,1228,1234,1236,1250,1252,1256,1264,1291,1293,1294,1299,1301,1302,1306,1308,
 1315,1317,1318,1321,1324,1329,1330,1336,1353,1356,1361,1364,1368,1377,1380,1392,1417,1418,1425,1426,1432,1441,1442,1448,
 1480,1488,1504,1547,1549,1550,1555,1557,1558,1562,1564,1571,1573,1574,1577,1580,1585,1586,1592,1603,1605,1606,1618,1620,
 1633,1636,1648,1667,1669,1670,1674,1676,1697,1698,1704,1730,1732,1760,1795,1797,1798,1801,1804,1809,1810,1816,1857,1860,
 1872,1921,1922,1928,1984]
def sg2:List Nat:=[2123,2125,2126,2131,2133,2134,2138,2140,2147,2149,2150,2153,2156,2161,2162,2168,2187,2189,2190,2195,2197,2198,2202,2204,
 2211,2213,2214,2217,2220,2225,2226,2232,2250,2252,2258,2260,2274,2276,2280,2288,2315,2317,2318,2323,2325,2326,2330,2332,
 2339,2341,2342,2345,2348,2353,2354,2360,2377,2380,2385,2388,2392,2401,2404,2416,2441,2442,2449,2450,2456,2465,2466,2472,
 2504,2512,2528,2571,2573,2574,2579,2581,2582,2586,2588,2595,2597,2598,2601,2604,2609,2610,2616,2627,2629,2630,2642,2644,
 2657,2660,2672,2691,2693,2694,2698,2700,2721,2722,2728,2754,2756,2784,2819,2821,2822,2825,2828,2833,2834,2840,2881,2884,
 2896,2945,2946,2952,3008,3146,3148,3154,3156,3170,3172,3176,3184,3210,3212,3218,3220,3234,3236,3240,3248,3338,3340,3346,
 3348,3362,3364,3368,3376,3400,3408,3424,3464,3472,3488,3594,3596,3602,3604,3618,3620,3624,3632,3650,3652,3680,3714,3716,
 3744,3842,3844,3848,3856,3904,3968]
def sg3:List Nat:=[4171,4173,4174,4179,4181,4182,4186,4188,4195,4197,4198,4201,4204,4209,4210,4216,4235,4237,4238,4243,4245,4246,4250,4252,
 4259,4261,4262,4265,4268,4273,4274,4280,4298,4300,4306,4308,4322,4324,4328,4336,4363,4365,4366,4371,4373,4374,4378,4380,
 4387,4389,4390,4393,4396,4401,4402,4408,4425,4428,4433,4436,4440,4449,4452,4464,4489,4490,4497,4498,4504,4513,4514,4520,
 4552,4560,4576,4619,4621,4622,4627,4629,4630,4634,4636,4643,4645,4646,4649,4652,4657,4658,4664,4675,4677,4678,4690,4692,
 4705,4708,4720,4739,4741,4742,4746,4748,4769,4770,4776,4802,4804,4832,4867,4869,4870,4873,4876,4881,4882,4888,4929,4932,
 4944,4993,4994,5000,5056,5193,5196,5201,5204,5208,5217,5220,5232,5257,5260,5265,5268,5272,5281,5284,5296,5320,5328,5344,
 5385,5388,5393,5396,5400,5409,5412,5424,5512,5520,5536,5641,5644,5649,5652,5656,5665,5668,5680,5697,5700,5712,5761,5764,
 5768,5792,5824,5889,5892,5904,6016,6217,6218,6225,6226,6232,6241,6242,6248,6281,6282,6289,6290,6296,6305,6306,6312,6344,
 6352,6368,6409,6410,6417,6418,6424,6433,6434,6440,6472,6480,6496,6665,6666,6673,6674,6680,6689,6690,6696,6721,6722,6736,
 6752,6785,6786,6792,6848,6913,6914,6920,6976,7240,7248,7264,7304,7312,7328,7432,7440,7456,7688,7696,7712,7744,7808,7936]
def sg4:List Nat:=[8267,8269,8270,8275,8277,8278,8282,8284,8291,8293,8294,8297,8300,8305,8306,8312,8331,8333,8334,8339,8341,8342,8346,8348,
 8355,8357,8358,8361,8364,8369,8370,8376,8394,8396,8402,8404,8418,8420,8424,8432,8459,8461,8462,8467,8469,8470,8474,8476,
 8483,8485,8486,8489,8492,8497,8498,8504,8521,8524,8529,8532,8536,8545,8548,8560,8585,8586,8593,8594,8600,8609,8610,8616,
 8648,8656,8672,8715,8717,8718,8723,8725,8726,8730,8732,8739,8741,8742,8745,8748,8753,8754,8760,8771,8773,8774,8786,8788,
 8801,8804,8816,8835,8837,8838,8842,8844,8865,8866,8872,8898,8900,8928,8963,8965,8966,8969,8972,8977,8978,8984,9025,9028,
 9040,9089,9090,9096,9152,9283,9285,9286,9298,9300,9313,9316,9328,9347,9349,9350,9362,9364,9377,9380,9392,9410,9412,9440,
 9475,9477,9478,9490,9492,9505,9508,9520,9537,9540,9552,9601,9602,9616,9632,9664,9731,9733,9734,9746,9748,9761,9764,9776,
 9858,9860,9888,9985,9988,10000,10112,10307,10309,10310,10314,10316,10337,10338,10344,10371,10373,10374,10378,10380,10401,10402,10408,10434,
 10436,10464,10499,10501,10502,10506,10508,10529,10530,10536,10561,10564,10568,10592,10625,10626,10632,10688,10755,10757,10758,10762,10764,10785,
 10786,10792,10818,10820,10848,11009,11010,11016,11072,11330,11332,11360,11394,11396,11424,11522,11524,11552,11584,11648,11778,11780,11808,12032,
 12355,12357,12358,12361,12364,12369,12370,12376,12419,12421,12422,12425,12428,12433,12434,12440,12482,12484,12488,12496,12547,12549,12550,12553,
 12556,12561,12562,12568,12609,12612,12624,12673,12674,12680,12736,12803,12805,12806,12809,12812,12817,12818,12824,12865,12868,12880,12929,12930,
 12936,12992,13377,13380,13392,13441,13444,13456,13504,13569,13572,13584,13696,13825,13828,13840,13952,14401,14402,14408,14465,14466,14472,14528,
 14593,14594,14600,14656,14849,14850,14856,14912,15424,15488,15616,15872]
def sg5:List Nat:=[16459,16461,16462,16467,16469,16470,16474,16476,16483,16485,16486,16489,16492,16497,16498,16504,16523,16525,16526,16531,16533,16534,16538,16540,
 16547,16549,16550,16553,16556,16561,16562,16568,16586,16588,16594,16596,16610,16612,16616,16624,16651,16653,16654,16659,16661,16662,16666,16668,
 16675,16677,16678,16681,16684,16689,16690,16696,16713,16716,16721,16724,16728,16737,16740,16752,16777,16778,16785,16786,16792,16801,16802,16808,
 16840,16848,16864,16907,16909,16910,16915,16917,16918,16922,16924,16931,16933,16934,16937,16940,16945,16946,16952,16963,16965,16966,16978,16980,
 16993,16996,17008,17027,17029,17030,17034,17036,17057,17058,17064,17090,17092,17120,17155,17157,17158,17161,17164,17169,17170,17176,17217,17220,
 17232,17281,17282,17288,17344,17419,17421,17422,17427,17429,17430,17434,17436,17443,17445,17446,17449,17452,17457,17458,17464,17546,17548,17554,
 17556,17570,17572,17576,17584,17673,17676,17681,17684,17688,17697,17700,17712,17800,17808,17824,17923,17925,17926,17938,17940,17953,17956,17968,
 18050,18052,18080,18177,18180,18192,18304,18443,18445,18446,18451,18453,18454,18458,18460,18467,18469,18470,18473,18476,18481,18482,18488,18506,
 18508,18514,18516,18530,18532,18536,18544,18697,18698,18705,18706,18712,18721,18722,18728,18760,18768,18784,18947,18949,18950,18954,18956,18977,
 18978,18984,19010,19012,19040,19201,19202,19208,19264,19466,19468,19474,19476,19490,19492,19496,19504,19720,19728,19744,19970,19972,20000,20224,
 20491,20493,20494,20499,20501,20502,20506,20508,20515,20517,20518,20521,20524,20529,20530,20536,20553,20556,20561,20564,20568,20577,20580,20592,
 20617,20618,20625,20626,20632,20641,20642,20648,20680,20688,20704,20995,20997,20998,21001,21004,21009,21010,21016,21057,21060,21072,21121,21122,
 21128,21184,21513,21516,21521,21524,21528,21537,21540,21552,21640,21648,21664,22017,22020,22032,22144,22537,22538,22545,22546,22552,22561,22562,
 22568,22600,22608,22624,23041,23042,23048,23104,23560,23568,23584,24064,24587,24589,24590,24595,24597,24598,24602,24604,24611,24613,24614,24617,
 24620,24625,24626,24632,24643,24645,24646,24658,24660,24673,24676,24688,24707,24709,24710,24714,24716,24737,24738,24744,24770,24772,24800,24835,
 24837,24838,24841,24844,24849,24850,24856,24897,24900,24912,24961,24962,24968,25024,25603,25605,25606,25618,25620,25633,25636,25648,25730,25732,
 25760,25857,25860,25872,25984,26627,26629,26630,26634,26636,26657,26658,26664,26690,26692,26720,26881,26882,26888,26944,27650,27652,27680,27904,
 28675,28677,28678,28681,28684,28689,28690,28696,28737,28740,28752,28801,28802,28808,28864,29697,29700,29712,29824,30721,30722,30728,30784,31744]
def pat6:Nat->List Nat
 | 0=>[]
 | 1=>sg1
 | 2=>sg1 ++ sg2
 | 3=>sg1 ++ (sg2 ++ sg3)
 | 4=>sg1 ++ (sg2 ++ (sg3 ++ sg4))
 | _=>sg1 ++ (sg2 ++ (sg3 ++ (sg4 ++ sg5)))
def bt (p i:Nat):Bool:=Nat.beq ((p >>> i) % 2) 1
def cl6 (p:Nat)(r:Nat):Nat:=(List.range 15).foldl (fun r i=>if bt p i && (bt r (pr6.getD i (0,0)).1 || bt r (pr6.getD i (0,0)).2) then r ||| (1 <<< (pr6.getD i (0,0)).1 ||| 1 <<< (pr6.getD i (0,0)).2) else r) r
def con6 (p:Nat):Bool:=Nat.beq (cl6 p (cl6 p (cl6 p (cl6 p (cl6 p 1))))) 63
def cnt6 (p:Nat):Nat:=(List.range 15).countP (bt p)
def asc6:List Nat->Bool
 | []=>true
 | [_]=>true
 | a :: b :: l=>Nat.blt a b && asc6 (b :: l)
set_option maxRecDepth 100000 in
theorem pat6_ok:((pat6 5).all fun p=>con6 p && (Nat.beq (cnt6 p) 5 && Nat.blt p 32768))=true:=by decide +kernel
set_option maxRecDepth 100000 in
theorem pat6_asc:asc6 (pat6 5)=true:=by decide +kernel
def toN:List Bool->Nat
 | []=>0
 | b :: l=>(if b then 1 else 0)+2 * toN l
def allB:Nat->List (List Bool)
 | 0=>[[]]
 | n+1=>(allB n).flatMap fun l=>[false :: l,true :: l]
def F6 (m d:Nat):Nat :=
 if m=9 then (if 2<=d then 48 else 0) else
 if m=10 then (if d=0 then 0 else if d=1 then 75 else if d=2 then 96 else 121) else
 if m=11 then 125 else if m=12 then 300 else if m=13 then 540 else if m=14 then 864 else if m=15 then 1296 else 0
def tch (u i:Nat):Bool:=Nat.beq (pr6.getD i (0,0)).1 u || Nat.beq (pr6.getD i (0,0)).2 u
def deg6 (p u:Nat):Nat:=(List.range 15).countP fun i=>bt p i && tch u i
def b6 (m i:Nat):Nat:=(m >>> i) % 2
def dq6 (m:Nat):Nat->Nat
 | 0=>b6 m 0+b6 m 1+b6 m 3+b6 m 6+b6 m 10
 | 1=>b6 m 0+b6 m 2+b6 m 4+b6 m 7+b6 m 11
 | 2=>b6 m 1+b6 m 2+b6 m 5+b6 m 8+b6 m 12
 | 3=>b6 m 3+b6 m 4+b6 m 5+b6 m 9+b6 m 13
 | 4=>b6 m 6+b6 m 7+b6 m 8+b6 m 9+b6 m 14
 | _=>0
def cq6 (m:Nat):Nat:=b6 m 0+b6 m 1+b6 m 2+b6 m 3+b6 m 4+b6 m 5+b6 m 6+b6 m 7+b6 m 8+b6 m 9+b6 m 10+b6 m 11+b6 m 12+b6 m 13+b6 m 14
def atL (m:Nat):List Nat->Nat->Bool
 | _,0=>true
 | [],_+1=>false
 | p :: l,k+1=>cond (Nat.beq (Nat.land p m) p) (atL m l k) (atL m l (k+1))
def msk (d:Nat)(bs:List Bool):Nat:=toN bs+(2 ^ d - 1) * 1024
def chk6 (d:Nat)(bs:List Bool):Bool :=
 !(Nat.ble d (dq6 (msk d bs) 0) && (Nat.ble d (dq6 (msk d bs) 1) && (Nat.ble d (dq6 (msk d bs) 2) && (Nat.ble d (dq6 (msk d bs) 3) && Nat.ble d (dq6 (msk d bs) 4))))) || atL (msk d bs) (pat6 d) (F6 (cq6 (msk d bs)) d)
set_option maxRecDepth 100000 in
theorem chk6_0:(allB 10).all (chk6 0)=true:=by decide +kernel
set_option maxRecDepth 100000 in
theorem chk6_1:(allB 10).all (chk6 1)=true:=by decide +kernel
set_option maxRecDepth 100000 in
theorem chk6_2:(allB 10).all (chk6 2)=true:=by decide +kernel
set_option maxRecDepth 100000 in
theorem chk6_3:(allB 10).all (chk6 3)=true:=by decide +kernel
set_option maxRecDepth 100000 in
theorem chk6_4:(allB 10).all (chk6 4)=true:=by decide +kernel
set_option maxRecDepth 100000 in
theorem chk6_5:(allB 10).all (chk6 5)=true:=by decide +kernel
theorem chk6_ok {d:Nat}(h:d<=5):(allB 10).all (chk6 d)=true:=by
 have:d=0∨d=1∨d=2∨d=3∨d=4∨d=5:=by omega
 rcases this with rfl | rfl | rfl | rfl | rfl | rfl
 ·exact chk6_0
 ·exact chk6_1
 ·exact chk6_2
 ·exact chk6_3
 ·exact chk6_4
 ·exact chk6_5
theorem atL_ok (m:Nat):∀ (l:List Nat) (k:Nat),atL m l k=true->k<=l.countP fun p=>decide (p &&& m=p)
 | _,0,_=>Nat.zero_le _
 | [],k+1,h=>by simp [atL] at h
 | p :: l,k+1,h=>by
  unfold atL at h
  rw [List.countP_cons]
  by_cases e:p &&& m=p
  ·have e2:Nat.beq (Nat.land p m) p=true:=by rw [Nat.beq_eq];exact e
   rw [e2,cond_true] at h
   have:=atL_ok m l k h
   rw [decide_eq_true e,if_pos rfl];omega
  ·have e2:Nat.beq (Nat.land p m) p=false:=by
    rw [<- Bool.not_eq_true,Nat.beq_eq];exact e
   rw [e2,cond_false] at h
   have:=atL_ok m l (k+1) h
   rw [decide_eq_false e];simp only [Bool.false_eq_true,if_false];omega
theorem pat6_sub {d:Nat}(h:d<=5):(pat6 d).Sublist (pat6 5):=by
 have a:∀ (l m n:List Nat),m.Sublist n->(l ++ m).Sublist (l ++ n):=fun l m n q=>(List.append_sublist_append_left l).2 q
 have hd:d=0∨d=1∨d=2∨d=3∨d=4∨d=5:=by omega
 rcases hd with rfl | rfl | rfl | rfl | rfl | rfl
 ·exact List.nil_sublist _
 ·exact List.sublist_append_left _ _
 ·exact a _ _ _ (List.sublist_append_left _ _)
 ·exact a _ _ _ (a _ _ _ (List.sublist_append_left _ _))
 ·exact a _ _ _ (a _ _ _ (a _ _ _ (List.sublist_append_left _ _)))
 ·exact List.Sublist.refl _
theorem allB_mem:∀ (n:Nat) (bs:List Bool),bs.length=n->bs ∈ allB n
 | 0,bs,h=>by rw [List.eq_nil_of_length_eq_zero h];simp [allB]
 | n+1,[],h=>by simp at h
 | n+1,b :: bs,h=>by
  unfold allB
  rw [List.mem_flatMap]
  exact ⟨bs,allB_mem n bs (by simpa using h),by cases b <;> simp⟩
theorem b6_bt (m i:Nat):b6 m i=if bt m i=true then 1 else 0:=by
 unfold b6 bt
 have h:(m >>> i) % 2=0∨(m >>> i) % 2=1:=by omega
 rcases h with h | h <;> rw [h] <;> rfl
theorem cq6_ok (m:Nat):cnt6 m=cq6 m:=by
 unfold cnt6 cq6
 simp only [b6_bt,List.range,List.range.loop,List.countP_cons,List.countP_nil]
 omega
theorem dq6_ok (m:Nat){u:Nat}(hu:u<5):deg6 m u=dq6 m u:=by
 have h:∀ i,(if (bt m i && true)=true then 1 else 0)=b6 m i:=fun i=>by rw [b6_bt,Bool.and_true]
 have h0:∀ i,(if (bt m i && false)=true then 1 else 0)=0:=fun i=>by rw [Bool.and_false];rfl
 have hc:u=0∨u=1∨u=2∨u=3∨u=4:=by omega
 rcases hc with rfl | rfl | rfl | rfl | rfl
 ·have t:(List.range 15).map (tch 0)=[true,true,false,true,false,false,true,false,false,false,true,false,false,false,false]:=by decide
  simp only [List.range,List.range.loop,List.map_cons,List.map_nil,List.cons.injEq,and_true] at t
  obtain ⟨t0,t1,t2,t3,t4,t5,t6,t7,t8,t9,t10,t11,t12,t13,t14⟩:=t
  unfold deg6
  simp only [List.range,List.range.loop,List.countP_cons,List.countP_nil,t0,t1,t2,t3,t4,t5,t6,t7,t8,t9,t10,t11,t12,t13,t14,h,h0,dq6]
  omega
 ·have t:(List.range 15).map (tch 1)=[true,false,true,false,true,false,false,true,false,false,false,true,false,false,false]:=by decide
  simp only [List.range,List.range.loop,List.map_cons,List.map_nil,List.cons.injEq,and_true] at t
  obtain ⟨t0,t1,t2,t3,t4,t5,t6,t7,t8,t9,t10,t11,t12,t13,t14⟩:=t
  unfold deg6
  simp only [List.range,List.range.loop,List.countP_cons,List.countP_nil,t0,t1,t2,t3,t4,t5,t6,t7,t8,t9,t10,t11,t12,t13,t14,h,h0,dq6]
  omega
 ·have t:(List.range 15).map (tch 2)=[false,true,true,false,false,true,false,false,true,false,false,false,true,false,false]:=by decide
  simp only [List.range,List.range.loop,List.map_cons,List.map_nil,List.cons.injEq,and_true] at t
  obtain ⟨t0,t1,t2,t3,t4,t5,t6,t7,t8,t9,t10,t11,t12,t13,t14⟩:=t
  unfold deg6
  simp only [List.range,List.range.loop,List.countP_cons,List.countP_nil,t0,t1,t2,t3,t4,t5,t6,t7,t8,t9,t10,t11,t12,t13,t14,h,h0,dq6]
  omega
 ·have t:(List.range 15).map (tch 3)=[false,false,false,true,true,true,false,false,false,true,false,false,false,true,false]:=by decide
  simp only [List.range,List.range.loop,List.map_cons,List.map_nil,List.cons.injEq,and_true] at t
  obtain ⟨t0,t1,t2,t3,t4,t5,t6,t7,t8,t9,t10,t11,t12,t13,t14⟩:=t
  unfold deg6
  simp only [List.range,List.range.loop,List.countP_cons,List.countP_nil,t0,t1,t2,t3,t4,t5,t6,t7,t8,t9,t10,t11,t12,t13,t14,h,h0,dq6]
  omega
 ·have t:(List.range 15).map (tch 4)=[false,false,false,false,false,false,true,true,true,true,false,false,false,false,true]:=by decide
  simp only [List.range,List.range.loop,List.map_cons,List.map_nil,List.cons.injEq,and_true] at t
  obtain ⟨t0,t1,t2,t3,t4,t5,t6,t7,t8,t9,t10,t11,t12,t13,t14⟩:=t
  unfold deg6
  simp only [List.range,List.range.loop,List.countP_cons,List.countP_nil,t0,t1,t2,t3,t4,t5,t6,t7,t8,t9,t10,t11,t12,t13,t14,h,h0,dq6]
  omega
theorem bt_iff (p i:Nat):bt p i=p.testBit i:=by
 unfold bt
 rw [Nat.testBit_eq_decide_div_mod_eq,<- Nat.shiftRight_eq_div_pow,Bool.eq_iff_iff,Nat.beq_eq,decide_eq_true_eq]
theorem toN_bit:∀ (bs:List Bool) (i:Nat),(toN bs).testBit i=bs.getD i false
 | [],i=>by simp [toN]
 | b :: bs,0=>by
  rw [Nat.testBit_zero]
  simp only [toN]
  cases b <;> simp <;> omega
 | b :: bs,i+1=>by
  rw [Nat.testBit_succ]
  have:toN (b :: bs) / 2=toN bs:=by simp only [toN];cases b <;> simp <;> omega
  rw [this,toN_bit bs i];rfl
theorem toN_lt:∀ (bs:List Bool),toN bs<2 ^ bs.length
 | []=>by simp [toN]
 | b :: bs=>by
  have:=toN_lt bs
  simp only [toN]
  rw [List.length_cons,Nat.pow_succ]
  cases b <;> simp <;> omega
theorem msk_bit {d:Nat}{bs:List Bool}(hb:bs.length=10)(hd:d<=5)(i:Nat):(msk d bs).testBit i=if i<10 then bs.getD i false else decide (i<10+d):=by
 have h1:=toN_lt bs
 rw [hb] at h1
 unfold msk
 rw [show (1024:Nat)=2 ^ 10 from rfl,Nat.add_comm,Nat.mul_comm,Nat.testBit_two_pow_mul_add _ h1]
 split
 ·exact toN_bit bs i
 ·rw [Nat.testBit_two_pow_sub_one,decide_eq_decide];omega
theorem asc6_ok:∀ (l:List Nat),asc6 l=true->l.Pairwise (· < ·)
 | [],_=>.nil
 | [a],_=>by simp
 | a :: b :: l,h=>by
  unfold asc6 at h
  rw [Bool.and_eq_true] at h
  have ih:=asc6_ok (b :: l) h.2
  have hab:a<b:=by have:=h.1;unfold Nat.blt at this;exact Nat.le_of_ble_eq_true this
  refine List.pairwise_cons.2 ⟨fun x hx=>?_,ih⟩
  rcases List.mem_cons.1 hx with rfl | hx
  ·exact hab
  ·have:=(List.pairwise_cons.1 ih).1 x hx;omega
theorem cl6_ok {R:Nat->Nat->Prop}(rr:R 0 0)(rs:∀ {a b},R a b->R b a)(rt:∀ {a b c},R a b->R b c->R a c){p:Nat}(hp:∀ i,i<15->p.testBit i=true->R (pr6.getD i (0,0)).1 (pr6.getD i (0,0)).2)
  {r:Nat}(h:∀ x,r.testBit x=true->R 0 x):∀ x,(cl6 p r).testBit x=true->R 0 x:=by
 unfold cl6
 have key:∀ (l:List Nat) (r:Nat),(∀ i ∈ l,i<15)->(∀ x,r.testBit x=true->R 0 x)->∀ x,(l.foldl (fun r i=>if bt p i && (bt r (pr6.getD i (0,0)).1 || bt r (pr6.getD i (0,0)).2) then r ||| (1 <<< (pr6.getD i (0,0)).1 ||| 1 <<< (pr6.getD i (0,0)).2) else r) r).testBit x=true->R 0 x:=by
  intro l
  induction l with
  | nil=>intro r _ h x hx;exact h x hx
  | cons i l ih =>
   intro r hl h
   rw [List.foldl_cons]
   refine ih _ (fun j hj=>hl j (by simp [hj])) ?_
   intro x hx
   split at hx
   ·rename_i g
    rw [Bool.and_eq_true,Bool.or_eq_true,bt_iff,bt_iff,bt_iff] at g
    have e:=hp i (hl i (by simp)) g.1
    have both:R 0 (pr6.getD i (0,0)).1/\R 0 (pr6.getD i (0,0)).2:=by
     rcases g.2 with q | q
     ·exact ⟨h _ q,rt (h _ q) e⟩
     ·exact ⟨rt (h _ q) (rs e),h _ q⟩
    rw [Nat.testBit_or,Nat.testBit_or,Nat.one_shiftLeft,Nat.one_shiftLeft,Nat.testBit_two_pow,Nat.testBit_two_pow,Bool.or_eq_true,Bool.or_eq_true,decide_eq_true_eq,decide_eq_true_eq] at hx
    rcases hx with q | q | q
    ·exact h x q
    ·rw [<- q];exact both.1
    ·rw [<- q];exact both.2
   ·exact h x hx
 exact key _ r (fun i hi=>List.mem_range.1 hi) h
theorem con6_ok {R:Nat->Nat->Prop}(rr:R 0 0)(rs:∀ {a b},R a b->R b a)(rt:∀ {a b c},R a b->R b c->R a c){p:Nat}(hc:con6 p=true)(hp:∀ i,i<15->p.testBit i=true->R (pr6.getD i (0,0)).1 (pr6.getD i (0,0)).2):∀ x,x<6->R 0 x:=by
 intro x hx
 have h0:∀ x,(1:Nat).testBit x=true->R 0 x:=by
  intro x hx
  have:x=0:=by
   rw [show (1:Nat)=2 ^ 0 from rfl,Nat.testBit_two_pow,decide_eq_true_eq] at hx
   exact hx.symm
  subst this;exact rr
 have h5:=cl6_ok rr rs rt hp (cl6_ok rr rs rt hp (cl6_ok rr rs rt hp (cl6_ok rr rs rt hp (cl6_ok rr rs rt hp h0))))
 have e:=Nat.eq_of_beq_eq_true hc
 refine h5 x ?_
 rw [e,show (63:Nat)=2 ^ 6 - 1 from rfl,Nat.testBit_two_pow_sub_one]
 exact decide_eq_true hx
theorem asc_ext:∀ {l m:List Int},l.Pairwise (· < ·)->m.Pairwise (· < ·)->(∀ x,x ∈ l↔x ∈ m)->l=m
 | [],[],_,_,_=>rfl
 | [],b :: m,_,_,h=>by have:=(h b).2 (by simp);simp at this
 | a :: l,[],_,_,h=>by have:=(h a).1 (by simp);simp at this
 | a :: l,b :: m,hl,hm,h=>by
  have hl':=List.pairwise_cons.1 hl
  have hm':=List.pairwise_cons.1 hm
  have e:a=b:=by
   have h1:=(h a).1 (by simp)
   have h2:=(h b).2 (by simp)
   rcases List.mem_cons.1 h1 with q | q
   ·exact q
   ·rcases List.mem_cons.1 h2 with p | p
    ·exact p.symm
    ·have:=hm'.1 a q
     have:=hl'.1 b p
     omega
  subst e
  rw [asc_ext hl'.2 hm'.2 fun x=>?_]
  have:=h x
  constructor
  ·intro hx
   rcases List.mem_cons.1 (this.1 (by simp [hx])) with q | q
   ·have:=hl'.1 x hx;omega
   ·exact q
  ·intro hx
   rcases List.mem_cons.1 (this.2 (by simp [hx])) with q | q
   ·have:=hm'.1 x hx;omega
   ·exact q
def inc (es:List (Int × Int))(v:Nat)(e:Int):Bool:=decide (enA es e=v∨enB es e=v)
theorem inc_iff {es:List (Int × Int)}{v:Nat}{e:Int}:inc es v e=true↔enA es e=v∨enB es e=v:=by unfold inc;exact decide_eq_true_iff
structure SG (es:List (Int × Int)) (A:List Int) (V:List Nat):Prop where
 asc:A.Pairwise (· < ·)
 nd:V.Nodup
 ends:∀ e ∈ A,(enA es e ∈ V/\enB es e ∈ V)/\enA es e<enB es e
 inj:∀ e ∈ A,∀ f ∈ A,enA es e=enA es f->enB es e=enB es f->e=f
def dgA (es:List (Int × Int))(A:List Int)(v:Nat):Nat:=A.countP (inc es v)
def cutV (es:List (Int × Int))(A:List Int)(v:Nat):List Int:=A.filter fun e=>!inc es v e
theorem cutV_mem {es:List (Int × Int)}{A:List Int}{v:Nat}{e:Int}:e ∈ cutV es A v↔e ∈ A/\¬ (enA es e=v∨enB es e=v):=by
 unfold cutV
 rw [List.mem_filter,Bool.not_eq_true',<- Bool.not_eq_true,inc_iff]
theorem SG.ndA {es:List (Int × Int)}{A:List Int}{V:List Nat}(h:SG es A V):A.Nodup:=h.asc.imp fun q e=>by omega
theorem SG.cut {es:List (Int × Int)}{A:List Int}{V:List Nat}(h:SG es A V)(v:Nat):SG es (cutV es A v) (V.erase v):=by
 refine ⟨h.asc.sublist List.filter_sublist,h.nd.sublist List.erase_sublist,fun e he=>?_,fun e he f hf=>h.inj e (cutV_mem.1 he).1 f (cutV_mem.1 hf).1⟩
 obtain ⟨h1,h2⟩:=cutV_mem.1 he
 obtain ⟨⟨h3,h4⟩,h5⟩:=h.ends e h1
 exact ⟨⟨(List.mem_erase_of_ne fun q=>h2 (.inl q)).2 h3,(List.mem_erase_of_ne fun q=>h2 (.inr q)).2 h4⟩,h5⟩
theorem cut_len (es:List (Int × Int))(v:Nat):∀ A:List Int,(cutV es A v).length+dgA es A v=A.length
 | []=>rfl
 | e :: A=>by
  have:=cut_len es v A
  unfold cutV dgA at *
  rw [List.filter_cons,List.countP_cons]
  cases inc es v e <;> simp <;> omega
theorem SG.cut_dg {es:List (Int × Int)}{A:List Int}{V:List Nat}(h:SG es A V){u v:Nat}(hne:u ≠ v):dgA es A u<=dgA es (cutV es A v) u+1:=by
 have h1:∀ B:List Int,dgA es B u=dgA es (cutV es B v) u+B.countP fun e=>inc es u e && inc es v e:=by
  intro B
  induction B with
  | nil=>rfl
  | cons e B ih =>
   unfold dgA cutV at *
   rw [List.countP_cons,List.filter_cons,List.countP_cons]
   cases hu:inc es u e <;> cases hv:inc es v e <;> simp [hu] <;> omega
 have h2:(A.countP fun e=>inc es u e && inc es v e)<=1:=by
  rw [List.countP_eq_length_filter]
  have hn:=(h.ndA.sublist (List.filter_sublist (p:=fun e=>inc es u e && inc es v e)))
  have hall:∀ e ∈ A.filter (fun e=>inc es u e && inc es v e),∀ f ∈ A.filter (fun e=>inc es u e && inc es v e),e=f:=by
   intro e he f hf
   rw [List.mem_filter,Bool.and_eq_true,inc_iff,inc_iff] at he hf
   have l1:=(h.ends e he.1).2
   have l2:=(h.ends f hf.1).2
   refine h.inj e he.1 f hf.1 ?_ ?_ <;> omega
  generalize A.filter (fun e=>inc es u e && inc es v e)=l at *
  match l,hn,hall with
  | [],_,_=>simp
  | [a],_,_=>simp
  | a :: b :: l,hn,hall =>
   have:=hall a (by simp) b (by simp)
   subst this
   simp at hn
 have:=h1 A
 omega
def sumL (f:Nat->Nat)(V:List Nat):Nat:=(V.map f).foldr (·+·) 0
theorem sumL_add (f g:Nat->Nat):∀ V,sumL (fun v=>f v+g v) V=sumL f V+sumL g V
 | []=>rfl
 | v :: V=>by
  have:=sumL_add f g V
  unfold sumL at *
  simp only [List.map_cons,List.foldr_cons];omega
theorem sumL_cnt (p:Nat->Bool):∀ V,sumL (fun v=>if p v=true then 1 else 0) V=V.countP p
 | []=>rfl
 | v :: V=>by
  have:=sumL_cnt p V
  unfold sumL at *
  rw [List.map_cons,List.foldr_cons,List.countP_cons,this];omega
theorem sumL_ge (f:Nat->Nat)(m:Nat):∀ V,(∀ v ∈ V,m<=f v)->m * V.length<=sumL f V
 | [],_=>by simp [sumL]
 | v :: V,h=>by
  have:=sumL_ge f m V fun x hx=>h x (by simp [hx])
  have:=h v (by simp)
  unfold sumL at *
  rw [List.map_cons,List.foldr_cons,List.length_cons,Nat.mul_succ];omega
theorem two_ends {V:List Nat}(hn:V.Nodup){a b:Nat}(ha:a ∈ V)(hb:b ∈ V)(hne:a ≠ b):(V.countP fun v=>decide (a=v∨b=v))=2:=by
 rw [List.countP_eq_length_filter]
 have h1:=nodup_leB (V.filter fun v=>decide (a=v∨b=v)) [a,b] (hn.sublist List.filter_sublist) fun x hx=>by
  rw [List.mem_filter,decide_eq_true_eq] at hx
  rcases hx.2 with q | q <;> simp [q]
 have h2:=nodup_leB [a,b] (V.filter fun v=>decide (a=v∨b=v)) (by simp [hne]) fun x hx=>by
  rw [List.mem_filter,decide_eq_true_eq]
  simp only [List.mem_cons,List.not_mem_nil,or_false] at hx
  rcases hx with rfl | rfl
  ·exact ⟨ha,.inl rfl⟩
  ·exact ⟨hb,.inr rfl⟩
 simp only [List.length_cons,List.length_nil] at h1 h2
 omega
theorem handshake {es:List (Int × Int)}{V:List Nat}(hn:V.Nodup):∀ A:List Int,(∀ e ∈ A,(enA es e ∈ V/\enB es e ∈ V)/\enA es e<enB es e)->sumL (dgA es A) V=2 * A.length
 | [],_=>by
  have:=sumL_cnt (fun _=>false) V
  have e:(dgA es [])=fun v=>if (fun _:Nat=>false) v=true then 1 else 0:=by funext v;rfl
  rw [e,this,List.countP_eq_zero.2 (by simp)];rfl
 | e :: A,h=>by
  have ih:=handshake hn A fun f hf=>h f (by simp [hf])
  obtain ⟨⟨h1,h2⟩,h3⟩:=h e (by simp)
  have hd:dgA es (e :: A)=fun v=>dgA es A v+if (fun v=>decide (enA es e=v∨enB es e=v)) v=true then 1 else 0:=by
   funext v
   unfold dgA
   rw [List.countP_cons];rfl
  rw [hd,sumL_add,ih,sumL_cnt,two_ends hn h1 h2 (by omega),List.length_cons];omega
theorem exists_min (f:Nat->Nat):∀ V:List Nat,V ≠ []->∃ v ∈ V,∀ u ∈ V,f v<=f u
 | [],h=>absurd rfl h
 | [v],_=>⟨v,by simp,by simp⟩
 | v :: w :: V,_=>by
  obtain ⟨x,h1,h2⟩:=exists_min f (w :: V) (by simp)
  by_cases g:f v<=f x
  ·refine ⟨v,by simp,fun u hu=>?_⟩
   rcases List.mem_cons.1 hu with rfl | hu
   ·exact Nat.le_refl _
   ·exact Nat.le_trans g (h2 u hu)
  ·refine ⟨x,List.mem_cons_of_mem _ h1,fun u hu=>?_⟩
   rcases List.mem_cons.1 hu with rfl | hu
   ·omega
   ·exact h2 u hu
theorem SG.min {es:List (Int × Int)}{A:List Int}{V:List Nat}(h:SG es A V)(hV:V ≠ []):∃ v ∈ V,(∀ u ∈ V,dgA es A v<=dgA es A u)/\dgA es A v * V.length<=2 * A.length:=by
 obtain ⟨v,h1,h2⟩:=exists_min (dgA es A) V hV
 refine ⟨v,h1,h2,?_⟩
 rw [<- handshake h.nd A h.ends]
 exact sumL_ge _ _ _ h2
structure STr (es:List (Int × Int)) (A:List Int) (V:List Nat) (T:List Int):Prop where
 asc:T.Pairwise (· < ·)
 sub:∀ e ∈ T,e ∈ A
 len:T.length+1=V.length
 con:∀ x ∈ V,∀ y ∈ V,Jn es T x y
def LB (es:List (Int × Int))(A:List Int)(V:List Nat)(k:Nat):Prop:=∃ L:List (List Int),L.Nodup/\k<=L.length/\∀ T ∈ L,STr es A V T
theorem LB.mono {es:List (Int × Int)}{A B:List Int}{V:List Nat}{k m:Nat}(h:LB es A V k)(hs:∀ e ∈ A,e ∈ B)(hm:m<=k):LB es B V m:=by
 obtain ⟨L,h1,h2,h3⟩:=h
 exact ⟨L,h1,by omega,fun T hT=>⟨(h3 T hT).asc,fun e he=>hs e ((h3 T hT).sub e he),(h3 T hT).len,(h3 T hT).con⟩⟩
theorem LB.leaf {es:List (Int × Int)}{A:List Int}{V:List Nat}(h:SG es A V){v:Nat}(hv:v ∈ V){k:Nat}(hL:LB es (cutV es A v) (V.erase v) k):LB es A V (dgA es A v * k):=by
 obtain ⟨L,l1,l2,l3⟩:=hL
 have hlen:=List.length_erase_of_mem hv
 have hpos:=List.length_pos_of_mem hv
 have key:∀ I:List Int,I.Nodup->(∀ e ∈ I,e ∈ A/\inc es v e=true)->∃ M:List (List Int),M.Nodup/\I.length * k<=M.length/\∀ U ∈ M,STr es A V U/\∃ e ∈ I,e ∈ U/\∀ f ∈ U,inc es v f=true->f=e:=by
  intro I
  induction I with
  | nil=>intro _ _;exact ⟨[],.nil,by simp,by simp⟩
  | cons e I ih =>
   intro hn hI
   have hn':=List.nodup_cons.1 hn
   obtain ⟨M,m1,m2,m3⟩:=ih hn'.2 fun f hf=>hI f (by simp [hf])
   obtain ⟨heA,hev⟩:=hI e (by simp)
   have notin:∀ T ∈ L,∀ f ∈ T,inc es v f=false:=by
    intro T hT f hf
    have:=(cutV_mem.1 ((l3 T hT).sub f hf)).2
    rw [<- Bool.not_eq_true,inc_iff];exact this
   have heT:∀ T ∈ L,e ∉ T:=fun T hT q=>by have:=notin T hT e q;rw [hev] at this;cases this
   have hput:∀ T ∈ L,STr es A V (put T e):=by
    intro T hT
    have t:=l3 T hT
    have up:∀ {x y},Jn es T x y->Jn es (put T e) x y:=fun q=>q.mono fun f hf=>(put_mem _ _ _).2 (.inr hf)
    have hE:Jn es (put T e) (enA es e) (enB es e):=.edge e ((put_mem _ _ _).2 (.inl rfl))
    obtain ⟨w,hw,hwv,hjw⟩:∃ w,w ∈ V/\w ≠ v/\Jn es (put T e) v w:=by
     have hen:=h.ends e heA
     rcases inc_iff.1 hev with q | q
     ·exact ⟨enB es e,hen.1.2,by omega,by rw [q] at hE;exact hE⟩
     ·exact ⟨enA es e,hen.1.1,by omega,by rw [q] at hE;exact hE.symm⟩
    have hall:∀ x ∈ V,Jn es (put T e) x w:=by
     intro x hx
     by_cases g:x=v
     ·subst g;exact hjw
     ·exact up (t.con x ((List.mem_erase_of_ne g).2 hx) w ((List.mem_erase_of_ne hwv).2 hw))
    refine ⟨put_sorted _ _ t.asc,fun f hf=>?_,?_,fun x hx y hy=>(hall x hx).trans (hall y hy).symm⟩
    ·rcases (put_mem _ _ _).1 hf with rfl | q
     ·exact heA
     ·exact (cutV_mem.1 (t.sub f q)).1
    ·have:=(put_perm T e (heT T hT)).length_eq
     rw [List.length_cons] at this
     have:=t.len
     omega
   refine ⟨L.map (fun T=>put T e) ++ M,?_,?_,?_⟩
   ·rw [List.nodup_append]
    refine ⟨?_,m1,?_⟩
    ·rw [List.Nodup,List.pairwise_map]
     refine List.Pairwise.imp_of_mem ?_ l1
     intro T U hT hU hne heq
     refine hne (asc_ext (l3 T hT).asc (l3 U hU).asc fun x=>?_)
     have hx:x ∈ put T e↔x ∈ put U e:=by rw [heq]
     rw [put_mem,put_mem] at hx
     constructor
     ·intro q
      rcases hx.1 (.inr q) with r | r
      ·subst r;exact absurd q (heT T hT)
      ·exact r
     ·intro q
      rcases hx.2 (.inr q) with r | r
      ·subst r;exact absurd q (heT U hU)
      ·exact r
    ·intro U hU W hW heq
     subst heq
     obtain ⟨T,hT,rfl⟩:=List.mem_map.1 hU
     obtain ⟨f,f1,f2,f3⟩:=(m3 _ hW).2
     have:=f3 e ((put_mem _ _ _).2 (.inl rfl)) hev
     subst this
     exact hn'.1 f1
   ·rw [List.length_append,List.length_map,List.length_cons,Nat.succ_mul];omega
   ·intro U hU
    rcases List.mem_append.1 hU with q | q
    ·obtain ⟨T,hT,rfl⟩:=List.mem_map.1 q
     refine ⟨hput T hT,e,by simp,(put_mem _ _ _).2 (.inl rfl),fun f hf hi=>?_⟩
     rcases (put_mem _ _ _).1 hf with r | r
     ·exact r
     ·have:=notin T hT f r;rw [hi] at this;cases this
    ·obtain ⟨s,f,f1,f2,f3⟩:=m3 U q
     exact ⟨s,f,by simp [f1],f2,f3⟩
 obtain ⟨M,m1,m2,m3⟩:=key (A.filter (inc es v)) (h.ndA.sublist List.filter_sublist) fun e he=>List.mem_filter.1 he
 refine ⟨M,m1,?_,fun U hU=>(m3 U hU).1⟩
 have:dgA es A v=(A.filter (inc es v)).length:=List.countP_eq_length_filter ..
 rw [this];exact m2
theorem flt_len {α:Type}(p:α->Bool):∀ l:List α,(l.filter p).length+(l.filter fun x=>!p x).length=l.length
 | []=>rfl
 | x :: l=>by
  have:=flt_len p l
  rw [List.filter_cons,List.filter_cons]
  cases p x <;> simp <;> omega
theorem nodup_at {l:List Nat}(h:l.Nodup){i j:Nat}(hi:i<l.length)(hj:j<l.length)(e:l.getD i 0=l.getD j 0):i=j:=by
 have e1:l.getD i 0=l[i]:=by simp [hi]
 have e2:l.getD j 0=l[j]:=by simp [hj]
 rw [e1,e2] at e
 have hp:=List.pairwise_iff_getElem.1 h
 rcases Nat.lt_trichotomy i j with q | q | q
 ·exact absurd e (hp i j hi hj q)
 ·exact q
 ·exact absurd e.symm (hp j i hj hi q)
theorem idx_at {l:List Nat}{x:Nat}(hx:x ∈ l):l.idxOf x<l.length/\l.getD (l.idxOf x) 0=x:=by
 have h1:=List.idxOf_lt_length_iff.2 hx
 refine ⟨h1,?_⟩
 rw [List.getD_eq_getElem?_getD,List.getElem?_eq_getElem h1,Option.getD_some]
 exact List.getElem_idxOf h1
theorem pid_ok:∀ j:Fin 6,∀ i:Fin 6,i.val<j.val->pid i.val j.val<15/\pr6.getD (pid i.val j.val) (0,0)=(i.val,j.val):=by decide
theorem tch_last:∀ i:Fin 10,tch 5 i.val=false:=by decide
theorem tch_star:∀ u:Fin 5,tch 5 (10+u.val)=true/\pr6.getD (10+u.val) (0,0)=(u.val,5)/\pid u.val 5=10+u.val:=by decide
theorem star_cnt:∀ d:Fin 6,(List.range 15).countP (fun i=>decide (10<=i/\i<10+d.val))=d.val:=by decide
theorem pr6_lt:∀ i:Fin 15,(pr6.getD i.val (0,0)).1<(pr6.getD i.val (0,0)).2/\(pr6.getD i.val (0,0)).2<6:=by decide
def pix (es:List (Int × Int))(ord:List Nat)(e:Int):Nat :=
 if ord.idxOf (enA es e)<ord.idxOf (enB es e) then pid (ord.idxOf (enA es e)) (ord.idxOf (enB es e)) else pid (ord.idxOf (enB es e)) (ord.idxOf (enA es e))
structure Or6 (es:List (Int × Int)) (A:List Int) (V ord:List Nat):Prop where
 sg:SG es A V
 nd:ord.Nodup
 len:ord.length=6
 mem:∀ x,x ∈ ord↔x ∈ V
theorem Or6.pix {es:List (Int × Int)}{A:List Int}{V ord:List Nat}(h:Or6 es A V ord){e:Int}(he:e ∈ A) :
  pix es ord e<15/\((ord.getD (pr6.getD (pix es ord e) (0,0)).1 0=enA es e/\ord.getD (pr6.getD (pix es ord e) (0,0)).2 0=enB es e)∨(ord.getD (pr6.getD (pix es ord e) (0,0)).1 0=enB es e/\ord.getD (pr6.getD (pix es ord e) (0,0)).2 0=enA es e)):=by
 obtain ⟨⟨h1,h2⟩,h3⟩:=h.sg.ends e he
 obtain ⟨a1,a2⟩:=idx_at ((h.mem _).2 h1)
 obtain ⟨b1,b2⟩:=idx_at ((h.mem _).2 h2)
 have hl:=h.len
 have hne:ord.idxOf (enA es e) ≠ ord.idxOf (enB es e):=fun q=>by rw [q,b2] at a2;omega
 unfold Ai.pix
 split
 ·rename_i q
  have:=pid_ok ⟨ord.idxOf (enB es e),by omega⟩ ⟨ord.idxOf (enA es e),by omega⟩ q
  simp only at this
  rw [this.2]
  exact ⟨this.1,.inl ⟨a2,b2⟩⟩
 ·rename_i q
  have:=pid_ok ⟨ord.idxOf (enA es e),by omega⟩ ⟨ord.idxOf (enB es e),by omega⟩ (show ord.idxOf (enB es e)<ord.idxOf (enA es e) by omega)
  simp only at this
  rw [this.2]
  exact ⟨this.1,.inr ⟨b2,a2⟩⟩
theorem Or6.inj {es:List (Int × Int)}{A:List Int}{V ord:List Nat}(h:Or6 es A V ord){e f:Int}(he:e ∈ A)(hf:f ∈ A)(hp:Ai.pix es ord e=Ai.pix es ord f):e=f:=by
 have h1:=(h.pix he).2
 have h2:=(h.pix hf).2
 rw [hp] at h1
 have l1:=(h.sg.ends e he).2
 have l2:=(h.sg.ends f hf).2
 refine h.sg.inj e he f hf ?_ ?_ <;> omega
def bb6 (es:List (Int × Int))(A:List Int)(ord:List Nat)(i:Nat):Bool:=A.any fun e=>decide (pix es ord e=i)
theorem bb6_iff {es:List (Int × Int)}{A:List Int}{ord:List Nat}{i:Nat}:bb6 es A ord i=true↔∃ e ∈ A,pix es ord e=i:=by
 unfold bb6
 rw [List.any_eq_true]
 simp only [decide_eq_true_eq]
theorem Or6.cnt {es:List (Int × Int)}{A:List Int}{V ord:List Nat}(h:Or6 es A V ord)(q:Nat->Bool):(A.countP fun e=>q (Ai.pix es ord e))=(List.range 15).countP fun i=>bb6 es A ord i && q i:=by
 rw [List.countP_eq_length_filter,List.countP_eq_length_filter]
 have hn:((A.filter fun e=>q (Ai.pix es ord e)).map (Ai.pix es ord)).Nodup:=by
  rw [List.Nodup,List.pairwise_map]
  refine List.Pairwise.imp_of_mem ?_ (h.sg.ndA.sublist List.filter_sublist)
  intro e f he hf hne heq
  exact hne (h.inj (List.mem_filter.1 he).1 (List.mem_filter.1 hf).1 heq)
 have h1:=nodup_leB _ ((List.range 15).filter fun i=>bb6 es A ord i && q i) hn fun i hi=>by
  obtain ⟨e,he,rfl⟩:=List.mem_map.1 hi
  obtain ⟨he,hq⟩:=List.mem_filter.1 he
  rw [List.mem_filter,List.mem_range,Bool.and_eq_true]
  exact ⟨(h.pix he).1,bb6_iff.2 ⟨e,he,rfl⟩,hq⟩
 have h2:=nodup_leB ((List.range 15).filter fun i=>bb6 es A ord i && q i) ((A.filter fun e=>q (Ai.pix es ord e)).map (Ai.pix es ord)) (List.nodup_range.sublist List.filter_sublist) fun i hi=>by
  rw [List.mem_filter,Bool.and_eq_true] at hi
  obtain ⟨e,he,rfl⟩:=bb6_iff.1 hi.2.1
  exact List.mem_map.2 ⟨e,List.mem_filter.2 ⟨he,hi.2.2⟩,rfl⟩
 rw [List.length_map] at h1 h2
 omega
theorem Or6.deg {es:List (Int × Int)}{A:List Int}{V ord:List Nat}(h:Or6 es A V ord){u:Nat}(hu:u<6):dgA es A (ord.getD u 0)=(List.range 15).countP fun i=>bb6 es A ord i && tch u i:=by
 rw [<- h.cnt]
 unfold dgA
 refine List.countP_congr fun e he=>?_
 obtain ⟨p1,p2⟩:=h.pix he
 have hr:=pr6_lt ⟨Ai.pix es ord e,p1⟩
 simp only at hr
 have hl:=h.len
 rw [inc_iff]
 unfold tch
 rw [Bool.or_eq_true,Nat.beq_eq,Nat.beq_eq]
 have key:∀ k,k<6->(ord.getD k 0=ord.getD u 0↔k=u):=fun k hk=>⟨fun q=>nodup_at h.nd (by omega) (by omega) q,fun q=>by rw [q]⟩
 rw [<- key _ (by omega),<- key _ hr.2]
 rcases p2 with ⟨q1,q2⟩ | ⟨q1,q2⟩ <;> rw [q1,q2]
 exact Or.comm
theorem Or6.lb {es:List (Int × Int)}{A:List Int}{V ord:List Nat}(h:Or6 es A V ord){m:Nat}(hm:∀ i,i<15->m.testBit i=bb6 es A ord i){d:Nat}(hd:d<=5):LB es A V ((pat6 d).countP fun p=>decide (p &&& m=p)):=by
 let Tp:Nat->List Int:=fun p=>A.filter fun e=>p.testBit (Ai.pix es ord e)
 have hVl:V.length=6:=by
  have h1:=nodup_leB ord V h.nd fun x hx=>(h.mem x).1 hx
  have h2:=nodup_leB V ord h.sg.nd fun x hx=>(h.mem x).2 hx
  have:=h.len
  omega
 have hsub:∀ p,p &&& m=p->∀ i,p.testBit i=true->m.testBit i=true:=by
  intro p hp i hi
  have:(p &&& m).testBit i=true:=by rw [hp];exact hi
  rw [Nat.testBit_and,Bool.and_eq_true] at this
  exact this.2
 have hpat:∀ p ∈ pat6 d,con6 p=true/\cnt6 p=5/\p<32768:=by
  intro p hp
  have:=pat6_ok
  rw [List.all_eq_true] at this
  have:=this p ((pat6_sub hd).subset hp)
  rw [Bool.and_eq_true,Bool.and_eq_true] at this
  refine ⟨this.1,Nat.eq_of_beq_eq_true this.2.1,?_⟩
  have:=this.2.2
  unfold Nat.blt at this
  exact Nat.le_of_ble_eq_true this
 have h15:∀ p,p<32768->∀ i,p.testBit i=true->i<15:=by
  intro p hp i hi
  refine Nat.lt_of_not_le fun q=>?_
  have:p.testBit i=false:=Nat.testBit_lt_two_pow (Nat.lt_of_lt_of_le hp (by
   rw [show (32768:Nat)=2 ^ 15 from rfl]
   exact Nat.pow_le_pow_right (by omega) q))
  rw [hi] at this
  cases this
 refine ⟨((pat6 d).filter fun p=>decide (p &&& m=p)).map Tp,?_,?_,?_⟩
 ·rw [List.Nodup,List.pairwise_map]
  have hnd:(pat6 d).Pairwise (· ≠ ·):=((asc6_ok _ pat6_asc).sublist (pat6_sub hd)).imp fun q=>by omega
  refine List.Pairwise.imp_of_mem ?_ (hnd.sublist List.filter_sublist)
  intro p p' hp hp' hne heq
  obtain ⟨hp,hpm⟩:=List.mem_filter.1 hp
  obtain ⟨hp',hpm'⟩:=List.mem_filter.1 hp'
  rw [decide_eq_true_eq] at hpm hpm'
  refine hne (Nat.eq_of_testBit_eq fun i=>?_)
  have key:∀ p p':Nat,p &&& m=p->p<32768->Tp p=Tp p'->p.testBit i=true->p'.testBit i=true:=by
   intro p p' hpm hlt heq hi
   have hi15:=h15 p hlt i hi
   have:=hsub p hpm i hi
   rw [hm i hi15] at this
   obtain ⟨e,he,hpe⟩:=bb6_iff.1 this
   have h1:e ∈ Tp p:=List.mem_filter.2 ⟨he,by show p.testBit (Ai.pix es ord e)=true;rw [hpe];exact hi⟩
   rw [heq] at h1
   have:=(List.mem_filter.1 h1).2
   rw [hpe] at this
   exact this
  rw [Bool.eq_iff_iff]
  exact ⟨key p p' hpm (hpat p hp).2.2 heq,key p' p hpm' (hpat p' hp').2.2 heq.symm⟩
 ·rw [List.length_map,List.countP_eq_length_filter]
  exact Nat.le_refl _
 ·intro T hT
  obtain ⟨p,hp,rfl⟩:=List.mem_map.1 hT
  obtain ⟨hp,hpm⟩:=List.mem_filter.1 hp
  rw [decide_eq_true_eq] at hpm
  obtain ⟨c1,c2,c3⟩:=hpat p hp
  refine ⟨h.sg.asc.sublist List.filter_sublist,fun e he=>(List.mem_filter.1 he).1,?_,?_⟩
  ·have:=h.cnt fun i=>p.testBit i
   rw [List.countP_eq_length_filter] at this
   have e2:((List.range 15).countP fun i=>bb6 es A ord i && p.testBit i)=cnt6 p:=by
    unfold cnt6
    refine List.countP_congr fun i hi=>?_
    rw [bt_iff,Bool.and_eq_true]
    refine ⟨fun q=>q.2,fun q=>⟨?_,q⟩⟩
    rw [<- hm i (List.mem_range.1 hi)]
    exact hsub p hpm i q
   show (A.filter fun e=>p.testBit (Ai.pix es ord e)).length+1=V.length
   omega
  ·have hcon:=con6_ok (R:=fun x y=>Jn es (Tp p) (ord.getD x 0) (ord.getD y 0)) (.refl _) (fun q=>q.symm) (fun q r=>q.trans r) c1 fun i hi15 hi=>by
    have:=hsub p hpm i hi
    rw [hm i hi15] at this
    obtain ⟨e,he,hpe⟩:=bb6_iff.1 this
    have h1:e ∈ Tp p:=List.mem_filter.2 ⟨he,by show p.testBit (Ai.pix es ord e)=true;rw [hpe];exact hi⟩
    have h2:=(h.pix he).2
    rw [hpe] at h2
    rcases h2 with ⟨q1,q2⟩ | ⟨q1,q2⟩
    ·rw [q1,q2];exact .edge e h1
    ·rw [q1,q2];exact .symm (.edge e h1)
   intro x hx y hy
   obtain ⟨x1,x2⟩:=idx_at ((h.mem x).2 hx)
   obtain ⟨y1,y2⟩:=idx_at ((h.mem y).2 hy)
   have hl:=h.len
   have a:=hcon (ord.idxOf x) (by omega)
   have b:=hcon (ord.idxOf y) (by omega)
   rw [x2] at a
   rw [y2] at b
   exact a.symm.trans b
theorem base6 {es:List (Int × Int)}{A:List Int}{V:List Nat}(h:SG es A V)(hV:V.length=6):∃ d,(∃ v ∈ V,dgA es A v=d)/\(∀ u ∈ V,d<=dgA es A u)/\A.length<=15/\LB es A V (F6 A.length d):=by
 obtain ⟨v,hv,hmin,_⟩:=h.min (fun q=>by rw [q] at hV;simp at hV)
 let adj:Nat->Bool:=fun u=>A.any fun e=>inc es u e && inc es v e
 have hadj:∀ u,adj u=true↔∃ e ∈ A,inc es u e=true/\inc es v e=true:=by
  intro u
  show (A.any fun e=>inc es u e && inc es v e)=true↔_
  rw [List.any_eq_true]
  simp only [Bool.and_eq_true]
 have hWl:=List.length_erase_of_mem hv
 have hWn:(V.erase v).Nodup:=h.nd.sublist List.erase_sublist
 have hWv:∀ x,x ∈ V.erase v↔x ∈ V/\x ≠ v:=by
  intro x
  by_cases q:x=v
  ·subst q
   refine ⟨fun r=>?_,fun r=>absurd rfl r.2⟩
   exfalso
   have h1:=nodup_leB (x :: (V.erase x).erase x) (V.erase x) (List.nodup_cons.2 ⟨fun w=>?_,hWn.sublist List.erase_sublist⟩) (fun y hy=>by
    rcases List.mem_cons.1 hy with rfl | hy
    ·exact r
    ·exact List.mem_of_mem_erase hy)
   ·have h2:=(List.Nodup.mem_erase_iff h.nd).1 r
    exact h2.1 rfl
   ·have h2:=(List.Nodup.mem_erase_iff h.nd).1 r
    exact h2.1 rfl
  ·rw [List.mem_erase_of_ne q]
   exact ⟨fun r=>⟨r,q⟩,fun r=>r.1⟩
 generalize hW:V.erase v=W at *
 have hsp:=flt_len adj W
 generalize hNs:W.filter adj=Ns at *
 generalize hOs:(W.filter fun x=>!adj x)=Os at *
 have nsm:∀ x,x ∈ Ns↔x ∈ W/\adj x=true:=fun x=>by rw [<- hNs,List.mem_filter]
 have osm:∀ x,x ∈ Os↔x ∈ W/\adj x=false:=fun x=>by rw [<- hOs,List.mem_filter,Bool.not_eq_true']
 have nsn:Ns.Nodup:=by rw [<- hNs];exact hWn.sublist List.filter_sublist
 have osn:Os.Nodup:=by rw [<- hOs];exact hWn.sublist List.filter_sublist
 have ho:Or6 es A V (Ns ++ (Os ++ [v])):=by
  refine ⟨h,?_,by simp only [List.length_append,List.length_singleton];omega,fun x=>?_⟩
  ·rw [List.nodup_append,List.nodup_append]
   refine ⟨nsn,⟨osn,by simp,fun a ha b hb=>?_⟩,fun a ha b hb=>?_⟩
   ·rw [List.mem_singleton] at hb
    subst hb
    exact ((hWv a).1 ((osm a).1 ha).1).2
   ·rintro rfl
    rcases List.mem_append.1 hb with q | q
    ·have h1:=((nsm a).1 ha).2
     have h2:=((osm a).1 q).2
     rw [h1] at h2;cases h2
    ·rw [List.mem_singleton] at q
     exact ((hWv a).1 ((nsm a).1 ha).1).2 q
  ·rw [List.mem_append,List.mem_append,List.mem_singleton,nsm,osm,hWv]
   constructor
   ·rintro (q | q | q)
    ·exact q.1.1
    ·exact q.1.1
    ·rw [q];exact hv
   ·intro q
    by_cases e:x=v
    ·exact .inr (.inr e)
    ·cases hb:adj x with
     | true=>exact .inl ⟨⟨q,e⟩,rfl⟩
     | false=>exact .inr (.inl ⟨⟨q,e⟩,rfl⟩)
 have hlenO:=ho.len
 have hd5:Ns.length<=5:=by omega
 have at5:(Ns ++ (Os ++ [v])).getD 5 0=v:=by
  rw [List.getD_eq_getElem?_getD,List.getElem?_append_right (by omega),List.getElem?_append_right (by omega)]
  have:5 - Ns.length - Os.length=0:=by omega
  rw [this];rfl
 have atN:∀ u,u<5->((Ns ++ (Os ++ [v])).getD u 0 ∈ W/\(adj ((Ns ++ (Os ++ [v])).getD u 0)=true↔u<Ns.length)):=by
  intro u hu
  by_cases q:u<Ns.length
  ·have e:(Ns ++ (Os ++ [v])).getD u 0=Ns.getD u 0:=by
    rw [List.getD_eq_getElem?_getD,List.getElem?_append_left q,<- List.getD_eq_getElem?_getD]
   have hm:Ns.getD u 0 ∈ Ns:=by simp [q]
   rw [e]
   exact ⟨((nsm _).1 hm).1,⟨fun _=>q,fun _=>((nsm _).1 hm).2⟩⟩
  ·have e:(Ns ++ (Os ++ [v])).getD u 0=Os.getD (u - Ns.length) 0:=by
    rw [List.getD_eq_getElem?_getD,List.getElem?_append_right (by omega),List.getElem?_append_left (by omega),<- List.getD_eq_getElem?_getD]
   have hm:Os.getD (u - Ns.length) 0 ∈ Os:=by simp [show u - Ns.length<Os.length by omega]
   rw [e]
   refine ⟨((osm _).1 hm).1,⟨fun w=>?_,fun w=>absurd w q⟩⟩
   have:=((osm _).1 hm).2
   rw [w] at this;cases this
 generalize hor:Ns ++ (Os ++ [v])=ord at *
 have star:∀ u,u<5->bb6 es A ord (10+u)=decide (10+u<10+Ns.length):=by
  intro u hu
  obtain ⟨t1,t2,t3⟩:=tch_star ⟨u,hu⟩
  simp only at t1 t2 t3
  rw [Bool.eq_iff_iff,decide_eq_true_eq]
  have hiff:=(atN u hu).2
  rw [hadj] at hiff
  constructor
  ·intro hb
   obtain ⟨e,he,hp⟩:=bb6_iff.1 hb
   have h2:=(ho.pix he).2
   rw [hp,t2] at h2
   simp only [at5] at h2
   have:u<Ns.length:=hiff.1 ⟨e,he,by
    rw [inc_iff,inc_iff]
    rcases h2 with ⟨q1,q2⟩ | ⟨q1,q2⟩
    ·exact ⟨.inl q1.symm,.inr q2.symm⟩
    ·exact ⟨.inr q1.symm,.inl q2.symm⟩⟩
   omega
  ·intro hlt
   obtain ⟨e,he,i1,i2⟩:=hiff.2 (by omega)
   rw [inc_iff] at i1 i2
   have hne:ord.getD u 0 ≠ v:=((hWv _).1 (atN u hu).1).2
   have iu:ord.idxOf (ord.getD u 0)=u:=by
    have hm:ord.getD u 0 ∈ ord:=by simp [show u<ord.length by omega]
    obtain ⟨x1,x2⟩:=idx_at hm
    exact nodup_at ho.nd x1 (by omega) x2
   have iv:ord.idxOf v=5:=by
    have hm:v ∈ ord:=(ho.mem v).2 hv
    obtain ⟨x1,x2⟩:=idx_at hm
    exact nodup_at ho.nd x1 (by omega) (by rw [x2,at5])
   refine bb6_iff.2 ⟨e,he,?_⟩
   rw [<- t3]
   unfold Ai.pix
   have hends:(enA es e=ord.getD u 0/\enB es e=v)∨(enA es e=v/\enB es e=ord.getD u 0):=by omega
   rcases hends with ⟨q1,q2⟩ | ⟨q1,q2⟩
   ·rw [q1,q2,iu,iv,if_pos hu]
   ·rw [q1,q2,iu,iv,if_neg (by omega)]
 have hdv:dgA es A v=Ns.length:=by
  have h1:=ho.deg (u:=5) (by omega)
  rw [at5] at h1
  rw [h1]
  refine Eq.trans ?_ (star_cnt ⟨Ns.length,by omega⟩)
  refine List.countP_congr fun i hi=>?_
  have hi:=List.mem_range.1 hi
  rw [Bool.and_eq_true,decide_eq_true_eq]
  by_cases q:i<10
  ·have:=tch_last ⟨i,q⟩
   simp only at this
   rw [this]
   exact ⟨fun w=>absurd w.2 (by simp),fun w=>by omega⟩
  ·have e:10+(i - 10)=i:=by omega
   have h2:=star (i - 10) (by omega)
   have h3:=(tch_star ⟨i - 10,by omega⟩).1
   simp only at h3
   rw [e] at h2 h3
   rw [h2,h3,decide_eq_true_eq]
   exact ⟨fun w=>⟨by omega,w.1⟩,fun w=>⟨w.2,rfl⟩⟩
 let bs:List Bool:=(List.range 10).map (bb6 es A ord)
 have hbs:bs.length=10:=by simp [bs]
 have hmask:∀ i,i<15->(msk Ns.length bs).testBit i=bb6 es A ord i:=by
  intro i hi
  rw [msk_bit hbs hd5]
  split
  ·rename_i q
   simp [bs,q]
  ·rename_i q
   have e:10+(i - 10)=i:=by omega
   have h2:=star (i - 10) (by omega)
   rw [e] at h2
   rw [h2]
 have hcnt:cnt6 (msk Ns.length bs)=A.length:=by
  have h1:=ho.cnt fun _=>true
  rw [List.countP_eq_length.2 (fun _ _=>rfl)] at h1
  rw [h1]
  unfold cnt6
  refine List.countP_congr fun i hi=>?_
  rw [bt_iff,hmask i (List.mem_range.1 hi),Bool.and_true]
 have hdeg:∀ u,u<5->deg6 (msk Ns.length bs) u=dgA es A (ord.getD u 0):=by
  intro u hu
  rw [ho.deg (by omega)]
  unfold deg6
  refine List.countP_congr fun i hi=>?_
  rw [bt_iff,hmask i (List.mem_range.1 hi)]
 have hge:∀ u,u<5->Nat.ble Ns.length (dq6 (msk Ns.length bs) u)=true:=by
  intro u hu
  refine Nat.ble_eq_true_of_le ?_
  rw [<- dq6_ok _ hu,hdeg u hu,<- hdv]
  exact hmin _ ((hWv _).1 (atN u hu).1).1
 have hck:=chk6_ok hd5
 rw [List.all_eq_true] at hck
 have hck:=hck bs (allB_mem 10 bs hbs)
 unfold chk6 at hck
 rw [hge 0 (by omega),hge 1 (by omega),hge 2 (by omega),hge 3 (by omega),hge 4 (by omega)] at hck
 simp only [Bool.and_self,Bool.not_true,Bool.false_or] at hck
 have hfin:=atL_ok _ _ _ hck
 rw [<- cq6_ok,hcnt] at hfin
 refine ⟨Ns.length,⟨v,hv,hdv⟩,fun u hu=>by rw [<- hdv];exact hmin u hu,?_,(ho.lb hmask hd5).mono (fun _ q=>q) hfin⟩
 rw [<- hcnt]
 unfold cnt6
 have:=List.countP_le_length (p:=bt (msk Ns.length bs)) (l:=List.range 15)
 rw [List.length_range] at this
 exact this
theorem SG.cut_len {es:List (Int × Int)}{A:List Int}{V:List Nat}(h:SG es A V){v:Nat}(hv:v ∈ V):(V.erase v).length+1=V.length:=by
 have:=List.length_erase_of_mem hv
 have:=List.length_pos_of_mem hv
 omega
theorem SG.low {es:List (Int × Int)}{A:List Int}{V:List Nat}(h:SG es A V){v:Nat}{k:Nat}(hk:∀ u ∈ V,k<=dgA es A u):∀ u ∈ V.erase v,k - 1<=dgA es (cutV es A v) u:=by
 intro u hu
 have h1:=(List.Nodup.mem_erase_iff h.nd).1 hu
 have:=h.cut_dg h1.1
 have:=hk u h1.2
 omega
theorem lb7 {es:List (Int × Int)}{A:List Int}{V:List Nat}(h:SG es A V)(hV:V.length=7) :
  (A.length=14->(∀ u ∈ V,1<=dgA es A u)->LB es A V 301)/\(A.length=13->(∀ u ∈ V,1<=dgA es A u)->LB es A V 151)/\(A.length=12->(∀ u ∈ V,2<=dgA es A u)->LB es A V 101)/\(A.length=17->LB es A V 301):=by
 obtain ⟨v,hv,hmin,hle⟩:=h.min (fun q=>by rw [q] at hV;simp at hV)
 have hl:=h.cut_len hv
 have hcl:=Ai.cut_len es v A
 obtain ⟨d,⟨w,hw,hwd⟩,hd,h15,hLB⟩:=base6 (h.cut v) (by omega)
 have hlow:=h.low (v:=v) (k:=dgA es A v) hmin
 have hlw:=hlow w hw
 rw [hwd] at hlw
 rw [hV] at hle
 have key:∀ k,k<=dgA es A v * F6 (cutV es A v).length d->LB es A V k:=fun k hk=>(LB.leaf h hv hLB).mono (fun _ q=>q) hk
 generalize hDe:dgA es A v=D at *
 generalize (cutV es A v).length=m at *
 refine ⟨fun hA h1=>?_,fun hA h1=>?_,fun hA h1=>?_,fun hA=>?_⟩
 ·have hD1:1<=D:=by have:=h1 v hv;omega
  refine key _ ?_
  have:D=1∨D=2∨D=3∨D=4:=by omega
  rcases this with rfl | rfl | rfl | rfl
  ·have:m=13:=by omega
   subst this;simp [F6]
  ·have:m=12:=by omega
   subst this;simp [F6]
  ·have:m=11:=by omega
   subst this;simp [F6]
  ·have:m=10:=by omega
   subst this
   unfold F6
   rw [if_neg (by omega),if_pos rfl,if_neg (by omega),if_neg (by omega),if_neg (by omega)];omega
 ·have hD1:1<=D:=by have:=h1 v hv;omega
  refine key _ ?_
  have:D=1∨D=2∨D=3:=by omega
  rcases this with rfl | rfl | rfl
  ·have:m=12:=by omega
   subst this;simp [F6]
  ·have:m=11:=by omega
   subst this;simp [F6]
  ·have:m=10:=by omega
   subst this
   unfold F6
   rw [if_neg (by omega),if_pos rfl,if_neg (by omega),if_neg (by omega)]
   split <;> omega
 ·have hD1:2<=D:=by have:=h1 v hv;omega
  refine key _ ?_
  have:D=2∨D=3:=by omega
  rcases this with rfl | rfl
  ·have:m=10:=by omega
   subst this
   unfold F6
   rw [if_neg (by omega),if_pos rfl,if_neg (by omega)]
   repeat' split
   all_goals omega
  ·have:m=9:=by omega
   subst this
   unfold F6
   rw [if_pos rfl,if_pos (by omega)];omega
 ·refine key _ ?_
  have:D=2∨D=3∨D=4:=by omega
  rcases this with rfl | rfl | rfl
  ·have:m=15:=by omega
   subst this;simp [F6]
  ·have:m=14:=by omega
   subst this;simp [F6]
  ·have:m=13:=by omega
   subst this;simp [F6]
theorem lb8 {es:List (Int × Int)}{A:List Int}{V:List Nat}(h:SG es A V)(hV:V.length=8)(hA:A.length=15)(hc:∀ x ∈ V,∀ y ∈ V,Jn es A x y):LB es A V 301:=by
 obtain ⟨v,hv,hmin,hle⟩:=h.min (fun q=>by rw [q] at hV;simp at hV)
 have hl:=h.cut_len hv
 have hcl:=Ai.cut_len es v A
 rw [hV,hA] at hle
 have closed:∀ (S:List Nat),S.length<8->(∃ x,x ∈ V/\x ∈ S)->¬ ∀ e ∈ A,(enA es e ∈ S↔enB es e ∈ S):=by
  rintro S hS ⟨x,hx,hxS⟩ hall
  obtain ⟨y,hy,hyS⟩:∃ y,y ∈ V/\y ∉ S:=by
   refine Classical.byContradiction fun q=>?_
   have:=nodup_leB V S h.nd fun z hz=>Classical.byContradiction fun q2=>q ⟨z,hz,q2⟩
   omega
  exact hyS ((jn_inv (p:=fun z=>z ∈ S) hall (hc x hx y hy)).1 hxS)
 have pos:∀ u ∈ V,1<=dgA es A u:=by
  intro u hu
  refine Nat.pos_of_ne_zero fun q=>?_
  unfold dgA at q
  rw [List.countP_eq_zero] at q
  refine closed [u] (by simp) ⟨u,hu,by simp⟩ fun e he=>?_
  have:=q e he
  rw [inc_iff] at this
  simp only [List.mem_singleton]
  exact ⟨fun w=>absurd (.inl w) this,fun w=>absurd (.inr w) this⟩
 have low:=h.low (v:=v) (k:=dgA es A v) hmin
 obtain ⟨l1,l2,l3,_⟩:=lb7 (h.cut v) (by omega)
 have hD1:=pos v hv
 have hD:dgA es A v=1∨dgA es A v=2∨dgA es A v=3:=by omega
 rcases hD with hD | hD | hD
 ·-- the only neighbour of v has another one
  have h14:LB es (cutV es A v) (V.erase v) 301:=by
   refine l1 (by omega) fun u hu=>Nat.pos_of_ne_zero fun q=>?_
   have hu':=(List.Nodup.mem_erase_iff h.nd).1 hu
   unfold dgA at q
   rw [List.countP_eq_zero] at q
   have onlyv:∀ e ∈ A,inc es u e=true->inc es v e=true:=by
    intro e he hi
    refine Classical.byContradiction fun w=>?_
    exact q e (cutV_mem.2 ⟨he,fun r=>w (inc_iff.2 r)⟩) hi
   obtain ⟨e0,he0,hi0⟩:∃ e,e ∈ A/\inc es u e=true:=by
    have:=pos u hu'.2
    unfold dgA at this
    exact List.countP_pos_iff.1 this
   have one:∀ e ∈ A,inc es v e=true->e=e0:=by
    intro e he hi
    unfold dgA at hD
    rw [List.countP_eq_length_filter] at hD
    have m1:e ∈ A.filter (inc es v):=List.mem_filter.2 ⟨he,hi⟩
    have m2:e0 ∈ A.filter (inc es v):=List.mem_filter.2 ⟨he0,onlyv e0 he0 hi0⟩
    match hL:A.filter (inc es v),hD with
    | [x],_ =>
     rw [hL,List.mem_singleton] at m1 m2
     rw [m1,m2]
   have i0:=inc_iff.1 hi0
   have iv:=inc_iff.1 (onlyv e0 he0 hi0)
   have ne:=hu'.1
   refine closed [u,v] (by simp) ⟨u,hu'.2,by simp⟩ fun e he=>?_
   simp only [List.mem_cons,List.not_mem_nil,or_false]
   by_cases q0:e=e0
   ·subst q0;omega
   ·have n1:¬ (enA es e=v∨enB es e=v):=fun w=>q0 (one e he (inc_iff.2 w))
    have n2:¬ (enA es e=u∨enB es e=u):=fun w=>q0 (one e he (onlyv e he (inc_iff.2 w)))
    omega
  have:=LB.leaf h hv h14
  rw [hD] at this
  exact this.mono (fun _ q=>q) (by omega)
 ·have:=LB.leaf h hv (l2 (by omega) fun u hu=>by have:=low u hu;omega)
  rw [hD] at this
  exact this.mono (fun _ q=>q) (by omega)
 ·have:=LB.leaf h hv (l3 (by omega) fun u hu=>by have:=low u hu;omega)
  rw [hD] at this
  exact this.mono (fun _ q=>q) (by omega)
theorem InL.parts {lo hi:Nat}{e2 e:TypeId}{H:AH}{v:Value}{ls:List (List Int)}(h:InL lo hi e2 e H v ls):∃ us:List Value,RowV e2 H v us/\us.length=ls.length/\∀ i,i<ls.length->InI lo hi e H (us.getD i undef) (ls.getD i []):=by
 rcases h with ⟨h1,h2⟩ | ⟨o,us,h0,h1,h2,h3,h4,h5,h6⟩
 ·subst h1;subst h2;exact ⟨[],.inl ⟨rfl,rfl⟩,rfl,fun i hi=>absurd hi (by simp)⟩
 ·refine ⟨us.take ls.length,.inr ⟨o,0,us,false,by simp [h0,Nat.min_eq_left h4],h3,by simp;omega,by simp [Nat.min_eq_left h4]⟩,by simp;omega,fun i hi=>?_⟩
  have:(us.take ls.length).getD i undef=us.getD i undef:=by
   rw [List.getD_eq_getElem?_getD,List.getD_eq_getElem?_getD,List.getElem?_take,if_pos hi]
  rw [this]
  exact (h5 i hi).1
def cd56:Cd:=(.seq (.reg [⟨⟨some 4,.alloc 34,none⟩,[]⟩]) (.seq (.reg [⟨⟨some 10,.move (.tmp 0),none⟩,[]⟩,⟨⟨some 11,.build 34 #[(0,.tmp 10)],none⟩,[]⟩,⟨⟨some 5,.alloc 34,none⟩,[]⟩,⟨⟨none,.store 34 (.tmp 5) (.tmp 11),none⟩,[]⟩]) (.seq (.reg [⟨⟨some 12,.fieldAddr 34 (.tmp 5) 0,none⟩,[]⟩,⟨⟨some 13,.load 32 (.tmp 12),none⟩,[]⟩,⟨⟨some 14,.call ⟨(.value (.func 125)),#[.tmp 13,(.func 126)],#[32,41]⟩,none⟩,[]⟩]) (.seq (.seq (.reg [⟨⟨some 15,.fieldAddr 34 (.tmp 5) 0,none⟩,[]⟩,⟨⟨some 16,.load 32 (.tmp 15),none⟩,[]⟩,⟨⟨some 17,.call ⟨(.builtin .len),#[.tmp 16],#[32]⟩,none⟩,[]⟩,⟨⟨some 18,.move (.const (.int .i64 0)),none⟩,[]⟩]) (.block 0 (.loop (.seq (.reg [⟨⟨some 19,.binOp .lss 3 (.tmp 18) (.tmp 17) 3,none⟩,[]⟩]) (.seq (.cond (.tmp 19) .skip (.exit 0)) (.seq (.block 1 (.seq (.reg [⟨⟨some 20,.move (.tmp 18),none⟩,[]⟩,⟨⟨some 21,.indexAddr 32 (.tmp 16) (.tmp 18),none⟩,[]⟩,⟨⟨some 22,.load 27 (.tmp 21),none⟩,[]⟩,⟨⟨some 6,.assign (.tmp 20),none⟩,[]⟩,
 ⟨⟨some 7,.assign (.tmp 22),none⟩,[]⟩]) (.seq (.reg [⟨⟨some 23,.fieldAddr 34 (.tmp 5) 0,none⟩,[]⟩,⟨⟨some 24,.load 32 (.tmp 23),none⟩,[]⟩,⟨⟨some 25,.move (.tmp 6),none⟩,[]⟩,⟨⟨some 26,.binOp .add 3 (.tmp 25) (.const (.int .i64 1)) 3,none⟩,[]⟩,⟨⟨some 27,.slice 32 (.tmp 24) (some (.tmp 26)) none none,none⟩,[]⟩,⟨⟨some 28,.call ⟨(.builtin .len),#[.tmp 27],#[32]⟩,none⟩,[]⟩,⟨⟨some 29,.move (.const (.int .i64 0)),none⟩,[]⟩]) (.block 2 (.loop (.seq (.reg [⟨⟨some 30,.binOp .lss 3 (.tmp 29) (.tmp 28) 3,none⟩,[]⟩]) (.seq (.cond (.tmp 30) .skip (.exit 2)) (.seq (.block 3 (.seq (.reg [⟨⟨some 31,.move (.tmp 29),none⟩,[]⟩,⟨⟨some 32,.indexAddr 32 (.tmp 27) (.tmp 29),none⟩,[]⟩,⟨⟨some 33,.load 27 (.tmp 32),none⟩,[]⟩,⟨⟨some 8,.assign (.tmp 31),none⟩,[]⟩,⟨⟨some 9,.assign (.tmp 33),none⟩,[]⟩]) (.seq (.reg [⟨⟨some 34,.move (.tmp 1),none⟩,[]⟩,⟨⟨some 35,.move (.tmp 7),none⟩,[]⟩,
 ⟨⟨some 36,.move (.tmp 9),none⟩,[]⟩,⟨⟨some 37,.call ⟨(.value (.tmp 34)),#[.tmp 35,.tmp 36],#[27,27]⟩,none⟩,[]⟩]) (.cond (.tmp 37) (.reg [⟨⟨some 38,.fieldAddr 34 (.tmp 5) 1,none⟩,[]⟩,⟨⟨some 39,.load 24 (.tmp 38),none⟩,[]⟩,⟨⟨some 40,.move (.tmp 6),none⟩,[]⟩,⟨⟨some 41,.move (.tmp 6),none⟩,[]⟩,⟨⟨some 42,.binOp .add 3 (.tmp 41) (.const (.int .i64 1)) 3,none⟩,[]⟩,⟨⟨some 43,.move (.tmp 8),none⟩,[]⟩,⟨⟨some 44,.binOp .add 3 (.tmp 42) (.tmp 43) 3,none⟩,[]⟩,⟨⟨some 45,.build 115 #[(0,.tmp 40),(1,.tmp 44)],none⟩,[]⟩,⟨⟨some 46,.buildSlice 24 1 #[(0,.tmp 45)],none⟩,[]⟩,⟨⟨some 47,.call ⟨(.builtin .append),#[.tmp 39,.tmp 46],#[24,24]⟩,none⟩,[]⟩,⟨⟨some 48,.fieldAddr 34 (.tmp 5) 1,none⟩,[]⟩,
 ⟨⟨none,.store 24 (.tmp 48) (.tmp 47),none⟩,[]⟩]) .skip)))) (.reg [⟨⟨some 49,.binOp .add 3 (.tmp 29) (.const (.int .i64 1)) 3,none⟩,[]⟩,
  ⟨⟨some 29,.move (.tmp 49),none⟩,[]⟩]))))))))) (.reg [⟨⟨some 50,.binOp .add 3 (.tmp 18) (.const (.int .i64 1)) 3,none⟩,[]⟩,
  ⟨⟨some 18,.move (.tmp 50),none⟩,[]⟩]))))))) (.seq (.reg [⟨⟨some 51,.load 34 (.tmp 5),none⟩,[]⟩,
  ⟨⟨none,.store 34 (.tmp 4) (.tmp 51),none⟩,[]⟩]) .ret)))))
theorem in56:InT Tryz.prog 56 2 [.cell 4 34] cd56:=InT.mk (by kernel_rfl) [] Tryz.func56 rfl (by kernel_rfl) (by kernel_rfl) (of_decide_eq_true (by kernel_rfl)) (by kernel_rfl)
end Go.Proofs.YtlcipphiflcaiaaGreat.Ai
namespace Go.Proofs.YtlcipphiflcaiaaGreat.Ai
open Go Go.RowKit
theorem alloc_sp (H:AH):allocA Tryz.prog 34 H=some (.pointer (some ⟨H.length,0,none⟩),H ++ [.cells [.slice none 0 0,.slice none 0 0] 34 false]):=by kernel_rfl
theorem bld_sp1 (p:Option Addr)(n c:Nat):buildA Tryz.prog 34 [(0,.slice p n c)]=some (.agg (List.toArray [.slice p n c,.slice none 0 0])):=by kernel_rfl
theorem bld_sp2 (p q:Option Addr)(n c m d:Nat):buildA Tryz.prog 34 [(0,.slice p n c),(1,.slice q m d)]=some (.agg (List.toArray [.slice p n c,.slice q m d])):=by kernel_rfl
theorem bld_sp0:buildA Tryz.prog 34 []=some (.agg (List.toArray [.slice none 0 0,.slice none 0 0])):=by kernel_rfl
theorem st_ss {e:TypeId}{H:AH}{o:Nat}{vs:List Value}(ho:H[o]?=some (.cells vs e false))(hv:vs.length=2)(p q:Option Addr)(n c m d:Nat) :
  storeA Tryz.prog 34 (.pointer (some ⟨o,0,none⟩)) (.agg (List.toArray [.slice p n c,.slice q m d])) H=some (H.set o (.cells [.slice p n c,.slice q m d] e false)):=by
 simp only [storeA,ho,cs34]
 have hcl:(Value.agg (List.toArray [.slice p n c,.slice q m d])).cells.toList=[.slice p n c,.slice q m d]:=rfl
 rw [hcl,if_pos ⟨rfl,rfl,by decide,by rw [hv];exact Nat.le_refl 2⟩]
 have:putAt vs 0 [.slice p n c,.slice q m d]=[.slice p n c,.slice q m d]:=by
  unfold putAt
  rw [List.take_zero,List.nil_append,List.drop_of_length_le (by simp;omega),List.append_nil]
 rw [this]
theorem end_cell2 (P:Program)(a b:Nat)(t:TypeId)(R:Value->AH->Prop)(s:Sl)(H:AH)(v w:Value)(h:loadA P t (s a) H=some v)(ht:isTup v=false)(hb:s b=w)(hw:isTup w=false)(hr:R (.tuple (List.toArray [v,w])) H):endA P [.cell a t,.tmp b] R .ret s H:=by
 subst hb
 simp only [endA,resA,h,ht]
 simp [hw,outA]
 exact hr
def stpI (p:List Int->List Int->Bool)(ls:List (List Int))(i:Nat):Nat->List (Int × Int)
 | 0=>[]
 | k+1=>stpI p ls i k ++ if p (ls.getD i []) (ls.getD (i+1+k) [])=true then [((i:Int),((i+1+k:Nat):Int))] else []
def stpO (p:List Int->List Int->Bool)(ls:List (List Int)):Nat->List (Int × Int)
 | 0=>[]
 | i+1=>stpO p ls i ++ stpI p ls i (ls.length - (i+1))
theorem stpI_len (p:List Int->List Int->Bool)(ls:List (List Int))(i k:Nat):(stpI p ls i k).length<=k:=by
 induction k with
 | zero=>simp [stpI]
 | succ k ih=>simp only [stpI,List.length_append];split <;> simp <;> omega
theorem stpO_len (p:List Int->List Int->Bool)(ls:List (List Int))(i:Nat):(stpO p ls i).length<=i * ls.length:=by
 induction i with
 | zero=>simp [stpO]
 | succ i ih =>
  have:=stpI_len p ls i (ls.length - (i+1))
  simp only [stpO,List.length_append,Nat.add_mul,Nat.one_mul]
  omega
abbrev steps (p:List Int->List Int->Bool)(ls:List (List Int)):List (Int × Int):=stpO p ls ls.length
def StepFn (HB:AH)(fS:FuncId)(caps:List Value)(ls:List (List Int))(p:List Int->List Int->Bool):Prop :=
 ∀ (a b:Value) (x y:List Int) (H:AH),HB<+:H->Row 3 H a x->Row 3 H b y->x ∈ ls->y ∈ ls->ACalls Tryz.prog fS (a :: b :: caps) H fun r H'=>r=.bool (p x y)/\H<+:H'
theorem spaceOf_c {HB H:AH}{v:Value}{us:List Value}{ls:List (List Int)}(h:Sts H v us ls)(hls:ls.length<=1000)(fS:FuncId)(caps:List Value)(p:List Int->List Int->Bool)(hS:StepFn HB fS caps ls p)(hp:HB<+:H) :
  ACalls Tryz.prog 56 [v,.func (.func fS) #[] (List.toArray caps)] H fun r H'=>∃ st,r=.agg (List.toArray [v,st])/\MineP 115 H H' st (steps p ls)/\H<+:H':=by
 refine in56 rfl ?_
 intro Q hQ
 have hul:=h.len
 obtain ⟨pv,hpv⟩:=h.row.shape
 have hb1:=bld_sp1 pv us.length us.length
 rw [<- hpv] at hb1
 simp (disch:=omega) only [cd56,alloc_sp,hb1,SS,eq_self,reduceIte,reduceCtorEq,Nat.reduceEqDiff,Nat.reduceAdd]
 generalize hA:H ++ [AObj.cells [.slice none 0 0,.slice none 0 0] 34 false]=A
 have pA:H<+:A:=by rw [<- hA];exact List.prefix_append _ _
 have cA:A[H.length]?=some (.cells [.slice none 0 0,.slice none 0 0] 34 false):=by rw [<- hA];exact at_new ..
 have lA:A.length=H.length+1:=by rw [<- hA];simp
 have st1:=st_ss (at_new A (.cells [.slice none 0 0,.slice none 0 0] 34 false)) rfl pv none us.length us.length 0 0
 rw [set_new,<- hpv] at st1
 simp (disch:=omega) only [st1,cell_new,SS,eq_self,reduceIte,reduceCtorEq,Nat.reduceEqDiff,Nat.reduceAdd]
 generalize hB:A ++ [AObj.cells [v,.slice none 0 0] 34 false]=B
 have pB:A<+:B:=by rw [<- hB];exact List.prefix_append _ _
 have cB:B[A.length]?=some (.cells [v,.slice none 0 0] 34 false):=by rw [<- hB];exact at_new ..
 have lB:B.length=A.length+1:=by rw [<- hB];simp
 have pHB:=pA.trans pB
 refine CallH.by (SortFunc_c (h.pre pHB)) ?_
 rintro _ C pC
 have pHC:=pHB.trans pC
 have lC:=pC.length_le
 have cC:=pre_at pC cB
 have cC0:=pre_at (pB.trans pC) cA
 simp (disch:=omega) only [cell_of cC,h.row.len Tryz.underlying32,hul,SS,eq_self,reduceIte,reduceCtorEq,Nat.reduceEqDiff,Nat.reduceAdd]
 refine LoopH.by (fun m s H'=>∃ i st,m+i=ls.length/\s 1=.func (.func fS) #[] (List.toArray caps)/\s 4=.pointer (some ⟨H.length,0,none⟩)/\s 5=.pointer (some ⟨A.length,0,none⟩)/\s 16=v/\s 17=.int .i64 (ls.length:Int)/\s 18=.int .i64 ((i:Nat):Int)/\H'[A.length]?=some (.cells [v,st] 34 false)/\H'[H.length]?=some (.cells [.slice none 0 0,.slice none 0 0] 34 false)/\(st=.slice none 0 0∨B.length<=rowO st)/\MineP 115 H H' st (stpO p ls i)/\H<+:H') ls.length ?_ ?_
 ·exact ⟨0,.slice none 0 0,by simp,rfl,rfl,rfl,rfl,rfl,rfl,cC,cC0,.inl rfl,.inl ⟨rfl,rfl⟩,pHC⟩
 rintro m s H' ⟨i,st,hm,s1,s4,s5,s16,s17,s18,hc5,hc4,hst,hmn,hpp⟩
 simp (disch:=omega) only [s1,s4,s5,s16,s17,s18,SS,eq_self,reduceIte,reduceCtorEq,Nat.reduceEqDiff,Nat.reduceAdd]
 refine brD.intro (fun g=>?_) (fun g=>?_)
 rotate_left
 ·have hi:i=ls.length:=by omega
  subst hi
  have hst2:isTup st=false:=hmn.row.tup
  obtain ⟨q,hq⟩:=hmn.row.shape
  have hstA:=st_ss hc4 rfl pv q us.length us.length (stpO p ls ls.length).length (stpO p ls ls.length).length
  rw [<- hpv,<- hq] at hstA
  simp (disch:=omega) only [s4,s5,ld_agg ag34 cs34 hc5,hstA,SS,eq_self,reduceIte,reduceCtorEq,Nat.reduceEqDiff,Nat.reduceAdd]
  have d4:=at_set (d:=.cells [v,st] 34 false) hc4
  refine hQ _ _ _ (end_cell _ _ _ _ _ _ (.agg (List.toArray [v,st])) ?_ rfl ⟨st,rfl,?_,?_⟩)
  ·simp (disch:=omega) only [s4,ld_agg ag34 cs34 d4,SS,eq_self,reduceIte,reduceCtorEq,Nat.reduceEqDiff,Nat.reduceAdd]
  ·rcases hst with e | e
   ·rcases hmn with hm0 | ⟨o,zs,q1,_⟩
    ·exact .inl hm0
    ·rw [e] at q1;cases q1
   ·refine hmn.keepL ?_
    intro hl y hy
    rw [List.getElem?_set_ne (by omega)]
    exact hy
  ·exact pre_set hpp (Nat.le_refl _) _
 have hi:i<ls.length:=by omega
 have hH':=h.pre hpp
 have hci:=hH'.cell hi
 have hri:=hH'.each i hi
 have hmi:ls.getD i [] ∈ ls:=by simp [hi]
 have hsl:=hH'.row.slice (P:=Tryz.prog) (t:=32) Tryz.underlying32 cs27 (bound_some (k:=.i64) (i:=(i:Int)+1) (by omega) 0) (hi_none us.length) (show ((i:Int)+1).toNat<=us.length by omega) (Nat.le_refl _)
 have hi1:((i:Int)+1).toNat=i+1:=by omega
 rw [hi1] at hsl
 obtain ⟨hsl1,hsl2,hsl3⟩:=hsl
 have hdl:(us.drop (i+1)).take (us.length - (i+1))=us.drop (i+1):=by rw [List.take_of_length_le (by simp)]
 rw [hdl] at hsl2
 have hdn:((us.drop (i+1)).length:Int)=((ls.length - (i+1):Nat):Int):=by simp;omega
 simp (disch:=omega) only [s1,s4,s5,s16,s17,s18,hH'.row.ix Tryz.underlying32 cs27,Int.toNat_natCast,hci,cell_of hc5,wrap64,hsl1,hsl2.len Tryz.underlying32,hdn,SS,eq_self,reduceIte,reduceCtorEq,Nat.reduceEqDiff,Nat.reduceAdd]
 refine LoopH.by (fun m' s' H''=>∃ j st',m'+j=ls.length - (i+1)/\s' 1=.func (.func fS) #[] (List.toArray caps)/\s' 4=.pointer (some ⟨H.length,0,none⟩)/\s' 5=.pointer (some ⟨A.length,0,none⟩)/\s' 6=.int .i64 ((i:Nat):Int)/\s' 7=us.getD i undef/\s' 16=v/\s' 17=.int .i64 (ls.length:Int)/\s' 18=.int .i64 ((i:Nat):Int)/\s' 27=subV v (i+1) us.length/\s' 28=.int .i64 ((ls.length - (i+1):Nat):Int)/\s' 29=.int .i64 ((j:Nat):Int)/\H''[A.length]?=some (.cells [v,st'] 34 false)/\H''[H.length]?=some (.cells [.slice none 0 0,.slice none 0 0] 34 false)/\(st'=.slice none 0 0∨B.length<=rowO st')/\MineP 115 H H'' st' (stpO p ls i ++ stpI p ls i j)/\H<+:H'') (ls.length - (i+1)) ?_ ?_
 ·refine ⟨0,st,by simp,?_⟩
  simp only [SS,eq_self,reduceIte,reduceCtorEq,Nat.reduceEqDiff,Nat.reduceAdd,s1,s4,s5,s16,s17,s18]
  have f0:MineP 115 H H' st (stpO p ls i ++ stpI p ls i 0):=by rw [stpI,List.append_nil];exact hmn
  (repeat' first | exact hc5 | exact hc4 | exact hst | exact f0 | exact hpp | apply And.intro) <;> first | (simp only [Value.int.injEq,true_and];omega) | omega | rfl | assumption | (simp;done) | (simp;omega)
 ·rintro m' s' H'' ⟨j,st',hm',g1,g4,g5,g6,g7,g16,g17,g18,g27,g28,g29,hc5',hc4',hst',hmn',hpp'⟩
  simp (disch:=omega) only [g1,g4,g5,g6,g7,g16,g17,g18,g27,g28,g29,SS,eq_self,reduceIte,reduceCtorEq,Nat.reduceEqDiff,Nat.reduceAdd]
  refine brD.intro (fun q=>?_) (fun q=>?_)
  ·have hj:i+1+j<ls.length:=by omega
   have hH2:=h.pre hpp'
   have hsl':=hH2.row.slice (P:=Tryz.prog) (t:=32) Tryz.underlying32 cs27 (bound_some (k:=.i64) (i:=(i:Int)+1) (by omega) 0) (hi_none us.length) (show ((i:Int)+1).toNat<=us.length by omega) (Nat.le_refl _)
   rw [hi1,hdl] at hsl'
   obtain ⟨_,hsr,_⟩:=hsl'
   have hjd:j<(us.drop (i+1)).length:=by simp;omega
   have hcj:=hsr.cell hjd
   have hdd:(us.drop (i+1)).getD j undef=us.getD (i+1+j) undef:=by
    rw [List.getD_eq_getElem?_getD,List.getD_eq_getElem?_getD,List.getElem?_drop]
   rw [hdd] at hcj
   have hmj:ls.getD (i+1+j) [] ∈ ls:=by simp [hj]
   simp (disch:=omega) only [g1,g4,g5,g6,g7,g16,g17,g18,g27,g28,g29,hsr.ix Tryz.underlying32 cs27,Int.toNat_natCast,hcj,SS,eq_self,reduceIte,reduceCtorEq,Nat.reduceEqDiff,Nat.reduceAdd]
   refine CallH.by (hS _ _ _ _ H'' (hp.trans hpp') (hH2.each i hi) (hH2.each (i+1+j) hj) hmi hmj) ?_
   rintro _ D ⟨rfl,pD⟩
   have hcD5:=pre_at pD hc5'
   have hcD4:=pre_at pD hc4'
   have hpD:=hpp'.trans pD
   have hmD:=hmn'.pre pD
   have hsl1:=stpO_len p ls i
   have hsl2:=stpI_len p ls i j
   have hmul:i * ls.length<=1000 * 1000:=Nat.mul_le_mul (by omega) hls
   have lD:=hpD.length_le
   have l5:=at_lt hc5'
   simp (disch:=omega) only [SS,eq_self,reduceIte,reduceCtorEq,Nat.reduceEqDiff,Nat.reduceAdd]
   refine brH.intro (fun e=>?_) (fun e=>?_)
   ·have hstep:stpI p ls i (j+1)=stpI p ls i j ++ [((i:Int),((i+1+j:Nat):Int))]:=by rw [stpI,if_pos e]
    obtain ⟨st2,H3,k1,k2,k3,k4,k5,k6⟩:=own1_24 hmD hpD (by rw [List.length_append];omega) (i:Int) ((i+1+j:Nat):Int)
    have hne:st'=.slice none 0 0∨∀ o,o<B.length->o ≠ rowO st':=hst'.imp id fun q o ho=>by omega
    have d5:H3[A.length]?=some (.cells [v,st'] 34 false):=k4 _ _ (hne.imp id fun q=>q _ (by omega)) hcD5
    have d4:H3[H.length]?=some (.cells [.slice none 0 0,.slice none 0 0] 34 false):=k4 _ _ (hne.imp id fun q=>q _ (by omega)) hcD4
    obtain ⟨q2,hq2⟩:=k2.row.shape
    have t1:isTup st2=false:=k6
    have t2:st2.cells.toList=[st2]:=by rw [hq2];rfl
    have hst3:=st_at (P:=Tryz.prog) (t:=24) (i:=1) (y:=st2) cs24 d5 (by show 1<2;decide) t1 t2
    have hidx:(i:Int)+1+(j:Int)=((i+1+j:Nat):Int):=by omega
    have lDB:B.length<=D.length:=by have:=hpp'.length_le;have:=pD.length_le;omega
    simp (disch:=omega) only [e,g1,g4,g5,g6,g7,g16,g17,g18,g27,g28,g29,cell_of hcD5,build_a2,wrap64,hidx,k1,hst3,SS,eq_self,reduceIte,reduceCtorEq,Nat.reduceEqDiff,Nat.reduceAdd]
    have f5:(H3.set A.length (.cells ([v,st'].set 1 st2) 34 false))[A.length]?=some (.cells [v,st2] 34 false):=by
     rw [List.getElem?_set_self (at_lt d5)];rfl
    have f4:(H3.set A.length (.cells ([v,st'].set 1 st2) 34 false))[H.length]?=some (.cells [.slice none 0 0,.slice none 0 0] 34 false):=by
     rw [List.getElem?_set_ne (by omega)];exact d4
    have fs':st2=.slice none 0 0∨B.length<=rowO st2:=.inr (by omega)
    have fm:MineP 115 H (H3.set A.length (.cells ([v,st'].set 1 st2) 34 false)) st2 (stpO p ls i ++ stpI p ls i (j+1)):=by
     rw [hstep,<- List.append_assoc]
     exact k2.keepL fun hl y hy=>by rw [List.getElem?_set_ne (by omega)];exact hy
    have fp:H<+:H3.set A.length (.cells ([v,st'].set 1 st2) 34 false):=pre_set k3 (by omega) _
    refine ⟨m' - 1,by omega,j+1,st2,?_⟩
    (repeat' first | exact f5 | exact f4 | exact fs' | exact fm | exact fp | apply And.intro) <;> first | (simp only [Value.int.injEq,true_and];omega) | omega | rfl | assumption | (simp;done) | (simp;omega)
   ·have hstep:stpI p ls i (j+1)=stpI p ls i j:=by rw [stpI,if_neg (by rw [e];decide),List.append_nil]
    rw [<- hstep] at hmD
    simp (disch:=omega) only [e,g1,g4,g5,g6,g7,g16,g17,g18,g27,g28,g29,wrap64,SS,eq_self,reduceIte,reduceCtorEq,Nat.reduceEqDiff,Nat.reduceAdd]
    refine ⟨m' - 1,by omega,j+1,st',?_⟩
    (repeat' first | exact hcD5 | exact hcD4 | exact hst' | exact hmD | exact hpD | apply And.intro) <;> first | (simp only [Value.int.injEq,true_and];omega) | omega | rfl | assumption | (simp;done) | (simp;omega)
  ·have hjj:j=ls.length - (i+1):=by omega
   subst hjj
   have hstO:stpO p ls (i+1)=stpO p ls i ++ stpI p ls i (ls.length - (i+1)):=rfl
   rw [<- hstO] at hmn'
   simp (disch:=omega) only [g1,g4,g5,g6,g7,g16,g17,g18,g27,g28,g29,wrap64,SS,eq_self,reduceIte,reduceCtorEq,Nat.reduceEqDiff,Nat.reduceAdd]
   refine ⟨m - 1,by omega,i+1,st',?_⟩
   (repeat' first | exact hc5' | exact hc4' | exact hst' | exact hmn' | exact hpp' | apply And.intro) <;> first | (simp only [Value.int.injEq,true_and];omega) | omega | rfl | assumption | (simp;done) | (simp;omega)
def adj1 (L:List (List Int))(e:Int × Int):List (List Int):=(L.set e.1.toNat (L.getD e.1.toNat [] ++ [e.2])).set e.2.toNat (L.getD e.2.toNat [] ++ [e.1])
def adjL (n:Nat)(ps:List (Int × Int)):List (List Int):=ps.foldl adj1 (List.replicate n [])
theorem adj1_len (L:List (List Int))(e:Int × Int):(adj1 L e).length=L.length:=by simp [adj1]
theorem adjF_len:∀ (ps:List (Int × Int)) (L:List (List Int)),(ps.foldl adj1 L).length=L.length
 | [],L=>rfl
 | e :: ps,L=>by rw [List.foldl_cons,adjF_len ps,adj1_len]
theorem adjL_len (n:Nat)(ps:List (Int × Int)):(adjL n ps).length=n:=by unfold adjL;rw [adjF_len];simp
theorem mk_lists {n:Int}(h0:0<=n)(h1:n<=1099511627776)(H:AH) :
  makeSliceA Tryz.prog 32 (.int .i64 n) (.int .i64 n) H=some (.slice (some ⟨H.length,0,none⟩) n.toNat n.toNat,H ++ [.cells (List.replicate n.toNat (.slice none 0 0)) 27 false]):=by
 have hb2:n.toNat * Tryz.prog.bytesOf 27<=281474976710656:=by
  rw [by27];omega
 have hzc:(Value.slice none 0 0).cells=#[.slice none 0 0]:=rfl
 have hzs:zerosA (.slice none 0 0) (n.toNat * 1)=List.replicate n.toNat (.slice none 0 0):=by
  unfold zerosA
  rw [hzc,Nat.mul_one]
  apply List.ext_getElem
  ·simp
  ·intro i h1 h2
   simp [Nat.mod_one]
 simp only [makeSliceA,Tryz.underlying32,cs27,ze27]
 rw [if_pos ⟨trivial,h0,by omega,hb2,by omega⟩,if_pos ⟨by simp [plainCs,hzc,plainC],by simp [hzc]⟩,hzs]
theorem own_base {e:TypeId}{H0 H1 H:AH}{v:Value}{xs:List Int}(h:Own e H0 H v xs)(hl:H1.length<=H0.length):Own e H1 H v xs:=by
 rcases h with h | ⟨o,h1,h2,h3⟩
 ·exact .inl h
 ·exact .inr ⟨o,h1,by omega,h3⟩
theorem own_keep {e:TypeId}{H0 H H':AH}{v:Value}{xs:List Int}(h:Own e H0 H v xs)(hh:∀ y,v ≠ .slice none 0 0->H[rowO v]?=some y->H'[rowO v]?=some y):Own e H0 H' v xs:=by
 rcases h with h | ⟨o,h1,h2,h3⟩
 ·exact .inl h
 ·exact .inr ⟨o,h1,h2,by subst h1;exact hh _ (by intro e;cases e) h3⟩
theorem own_nil {e:TypeId}{H0 H:AH}{v:Value}{xs:List Int}(h:Own e H0 H v xs):v=.slice none 0 0∨(H0.length<=rowO v/\rowO v<H.length):=by
 rcases h with h | ⟨o,h1,h2,h3⟩
 ·exact .inl h.1
 ·subst h1;exact .inr ⟨h2,at_lt h3⟩
structure Adj (C G:AH) (o:Nat) (us:List Value) (L:List (List Int)):Prop where
 at_:G[o]?=some (.cells us 27 false)
 olt:o<C.length
 len:us.length=L.length
 el:∀ i,i<L.length->Own 3 C G (us.getD i undef) (L.getD i [])
 ap:∀ i j,i ≠ j->i<L.length->j<L.length->Apart (us.getD i undef) (us.getD j undef)
 keep:∀ (j:Nat) (y:AObj),j ≠ o->C[j]?=some y->G[j]?=some y
 le:C.length<=G.length
theorem Adj.ne {C G:AH}{o:Nat}{us:List Value}{L:List (List Int)}(h:Adj C G o us L){i:Nat}(hi:i<L.length):us.getD i undef=.slice none 0 0∨rowO (us.getD i undef) ≠ o:=by
 rcases own_nil (h.el i hi) with g | g
 ·exact .inl g
 ·right;have:=h.olt;omega
theorem Adj.inU {C G:AH}{o lo:Nat}{us:List Value}{L:List (List Int)}(h:Adj C G o us L)(hlo:lo<=o):InU lo G.length 27 3 G o us L:=by
 have:=h.olt
 refine ⟨hlo,at_lt h.at_,h.at_,by rw [h.len];exact Nat.le_refl _,fun i hi=>⟨(InI.of (h.el i hi).mine).wide (by omega) (Nat.le_refl _),h.ne hi⟩,h.ap⟩
theorem Adj.pre {C G G':AH}{o:Nat}{us:List Value}{L:List (List Int)}(h:Adj C G o us L)(hp:G<+:G'):Adj C G' o us L :=
 ⟨pre_at hp h.at_,h.olt,h.len,fun i hi=>own_keep (h.el i hi) fun y _ hy=>pre_at hp hy,h.ap,fun j y hj hy=>pre_at hp (h.keep j y hj hy),Nat.le_trans h.le hp.length_le⟩
theorem Adj.upd1 {C G K:AH}{o x:Nat}{us:List Value}{L:List (List Int)}(h:Adj C G o us L)(hx:x<L.length){v1:Value}{l1:List Int}
  (h1:Own 3 C K v1 l1)(g1:G.length<=rowO v1)(hl:G.length<=K.length)
  (hk:∀ (j:Nat) (z:AObj),(us.getD x undef=.slice none 0 0∨j ≠ rowO (us.getD x undef))->G[j]?=some z->K[j]?=some z) :
  Adj C (K.set o (.cells (us.set x v1) 27 false)) o (us.set x v1) (L.set x l1):=by
 have hol:=h.olt
 have hle:=h.le
 have hul:=h.len
 have ax:us.getD x undef=.slice none 0 0∨o ≠ rowO (us.getD x undef):=(h.ne hx).imp id fun e=>fun q=>e q.symm
 have ko:=hk o _ ax h.at_
 have gu:∀ i,(us.set x v1).getD i undef=if x=i then (if x<us.length then v1 else undef) else us.getD i undef:=by
  intro i
  rw [List.getD_eq_getElem?_getD,List.getElem?_set]
  by_cases e1:x=i
  ·rw [if_pos e1,if_pos e1,if_pos (by omega),if_pos (by omega)];rfl
  ·rw [if_neg e1,if_neg e1,List.getD_eq_getElem?_getD]
 have gl:∀ i,(L.set x l1).getD i []=if x=i then (if x<L.length then l1 else []) else L.getD i []:=by
  intro i
  rw [List.getD_eq_getElem?_getD,List.getElem?_set]
  by_cases e1:x=i
  ·rw [if_pos e1,if_pos e1,if_pos (by omega),if_pos (by omega)];rfl
  ·rw [if_neg e1,if_neg e1,List.getD_eq_getElem?_getD]
 have setk:∀ {j:Nat} {z:AObj},j ≠ o->K[j]?=some z->(K.set o (.cells (us.set x v1) 27 false))[j]?=some z:=fun hj hz=>by
  rw [List.getElem?_set_ne (fun e=>hj e.symm)];exact hz
 have old:∀ i,i<L.length->i ≠ x->us.getD i undef ≠ .slice none 0 0->rowO (us.getD i undef)<G.length/\∀ z,G[rowO (us.getD i undef)]?=some z->K[rowO (us.getD i undef)]?=some z:=by
  intro i hi ix hn
  rcases own_nil (h.el i hi) with q | q
  ·exact absurd q hn
  refine ⟨q.2,fun z hz=>hk _ _ ?_ hz⟩
  rcases h.ap i x ix hi hx with q1 | q1 | q1
  ·exact .inl q1
  ·exact absurd q1 hn
  ·exact .inr q1
 refine ⟨at_set ko,hol,by simp [hul],fun i hi=>?_,fun i j hij hi hj=>?_,fun j z hj hz=>?_,by simp;omega⟩
 ·rw [List.length_set] at hi
  rw [gu,gl]
  by_cases e1:x=i
  ·rw [if_pos e1,if_pos e1,if_pos (by omega),if_pos (by omega)]
   exact own_keep h1 fun z _ hz=>setk (by omega) hz
  ·rw [if_neg e1,if_neg e1]
   refine own_keep (h.el i hi) fun z hn hz=>?_
   have hq:=old i hi (fun e=>e1 e.symm) hn
   refine setk ?_ (hq.2 z hz)
   rcases h.ne hi with q | q
   ·exact absurd q hn
   ·exact q
 ·rw [List.length_set] at hi hj
  have far:∀ (q:Nat) (v:Value),q<L.length->q ≠ x->G.length<=rowO v->us.getD q undef=.slice none 0 0∨rowO (us.getD q undef) ≠ rowO v:=by
   intro q v hq qx hv
   by_cases hn:us.getD q undef=.slice none 0 0
   ·exact .inl hn
   ·right;have:=(old q hq qx hn).1;omega
  rw [gu,gu]
  by_cases e1:x=i
  ·rw [if_pos e1,if_pos (by omega),if_neg (show ¬ x=j by omega)]
   rcases far j v1 hj (by omega) g1 with q | q
   ·exact .inl q
   ·exact .inr (.inr fun e=>q e.symm)
  ·rw [if_neg e1]
   by_cases e4:x=j
   ·rw [if_pos e4,if_pos (by omega)]
    rcases far i v1 hi (fun e=>e1 e.symm) g1 with q | q
    ·exact .inr (.inl q)
    ·exact .inr (.inr q)
   ·rw [if_neg e4];exact h.ap i j hij hi hj
 ·refine setk hj ?_
  have hC:us.getD x undef=.slice none 0 0∨j ≠ rowO (us.getD x undef):=by
   have hjl:=at_lt hz
   rcases own_nil (h.el x hx) with g | g
   ·exact .inl g
   ·right;omega
  exact hk j z hC (h.keep j z hj hz)
theorem Adj.same {C G K:AH}{o x:Nat}{us:List Value}{L:List (List Int)}(h:Adj C G o us L)(hx:x<L.length)(h1:Own 3 C K (us.getD x undef) (L.getD x []))(he:Else (us.getD x undef) G K):Adj C K o us L:=by
 have ax:us.getD x undef=.slice none 0 0∨o ≠ rowO (us.getD x undef):=(h.ne hx).imp id fun e=>fun q=>e q.symm
 refine ⟨he.2 _ _ ax h.at_,h.olt,h.len,fun i hi=>?_,h.ap,fun j z hj hz=>he.2 _ _ ?_ (h.keep j z hj hz),by rw [he.1];exact h.le⟩
 ·by_cases e:i=x
  ·subst e;exact h1
  ·refine own_keep (h.el i hi) fun z hn hz=>he.2 _ _ ?_ hz
   rcases h.ap i x e hi hx with q | q | q
   ·exact .inl q
   ·exact absurd q hn
   ·exact .inr q
 ·have hjl:=at_lt hz
  rcases own_nil (h.el x hx) with g | g
  ·exact .inl g
  ·right;omega
theorem Adj.app1 {C G:AH}{o x:Nat}{us:List Value}{L:List (List Int)}(h:Adj C G o us L)(hx:x<L.length)(hb:(L.getD x []).length<=1000000)(y:Int) :
  ∃ v K,appendA Tryz.prog 27 27 (us.getD x undef) (.slice (some ⟨G.length,0,none⟩) 1 1) (G ++ [.cells [.int .i64 y] 3 false])=some (v,K) /\
   (∀ (j:Nat) (z:AObj),(us.getD x undef=.slice none 0 0∨j ≠ rowO (us.getD x undef))->G[j]?=some z->K[j]?=some z)/\K[o]?=some (.cells us 27 false)/\isTup v=false/\v.cells.toList=[v] /\
   Adj C (K.set o (.cells (us.set x v) 27 false)) o (us.set x v) (L.set x (L.getD x [] ++ [y])):=by
 have hox:=h.el x hx
 have hle:=h.le
 have hlC:(G.take C.length).length=C.length:=by simp;omega
 have ox2:Own 3 (G.take C.length) G (us.getD x undef) (L.getD x []):=own_base hox (by omega)
 obtain ⟨v,K,j1,j2,j3,j4,j5,j6⟩:=own1_27 ox2 (List.take_prefix _ _) (by omega) y
 have hjC:Own 3 C K v (L.getD x [] ++ [y]):=own_base j2 (by omega)
 have ax:us.getD x undef=.slice none 0 0∨o ≠ rowO (us.getD x undef):=(h.ne hx).imp id fun e=>fun q=>e q.symm
 have hlK:G.length<=K.length:=by
  rcases own_nil hjC with q | q
  ·have h1:(L.getD x [] ++ [y]).length=0:=by
    rcases hjC with ⟨_,q1⟩ | ⟨o',q1,_⟩
    ·rw [q1];rfl
    ·rw [q1] at q;cases q
   simp at h1
  ·omega
 obtain ⟨p,hp⟩:=j2.row.shape
 exact ⟨v,K,j1,fun j z hj hz=>j4 j z hj hz,j4 o _ ax h.at_,j6,by rw [hp];rfl,h.upd1 hx hjC j5 hlK fun j z hj hz=>j4 j z hj hz⟩
def SpRow (H:AH)(a b:Value)(ls:List (List Int))(ps:List (Int × Int)):Prop:=(∃ bd,RowLB bd 27 3 H a ls)/\RowP 115 H b ps
def SpIn (lo hi:Nat)(H:AH)(a b:Value)(ls:List (List Int))(ps:List (Int × Int)):Prop:=∃ mid,lo<=mid/\mid<=hi/\InL lo mid 27 3 H a ls/\InP mid hi 115 H b ps
theorem SpIn.row {lo hi:Nat}{H:AH}{a b:Value}{ls:List (List Int)}{ps:List (Int × Int)}(h:SpIn lo hi H a b ls ps):SpRow H a b ls ps:=by
 obtain ⟨mid,h1,h2,h3,h4⟩:=h
 exact ⟨⟨_,h3.row⟩,h4.row.1⟩
theorem SpIn.pre {lo hi:Nat}{H H':AH}{a b:Value}{ls:List (List Int)}{ps:List (Int × Int)}(h:SpIn lo hi H a b ls ps)(hp:H<+:H'):SpIn lo hi H' a b ls ps:=by
 obtain ⟨mid,h1,h2,h3,h4⟩:=h
 exact ⟨mid,h1,h2,h3.pre hp,h4.pre hp⟩
theorem SpIn.keep {lo hi lo' hi':Nat}{H H':AH}{a b:Value}{ls:List (List Int)}{ps:List (Int × Int)}(h:SpIn lo hi H a b ls ps)(he:ElseR lo' hi' H H')(hl:hi<=lo'∨hi'<=lo):SpIn lo hi H' a b ls ps:=by
 obtain ⟨mid,h1,h2,h3,h4⟩:=h
 exact ⟨mid,h1,h2,h3.keep he (by omega),h4.keep he (by omega)⟩
theorem SpRow.pre {H H':AH}{a b:Value}{ls:List (List Int)}{ps:List (Int × Int)}(h:SpRow H a b ls ps)(hp:H<+:H'):SpRow H' a b ls ps:=⟨h.1.imp fun _ q=>q.pre hp,h.2.pre hp⟩
theorem SpRow.shape {H:AH}{a b:Value}{ls:List (List Int)}{ps:List (Int × Int)}(h:SpRow H a b ls ps):(∃ p n c,a=.slice p n c)/\∃ p n c,b=.slice p n c:=by
 obtain ⟨⟨bd,us,h1,_⟩,h2⟩:=h
 obtain ⟨p,e⟩:=h1.shape
 obtain ⟨q,e2⟩:=h2.shape
 exact ⟨⟨_,_,_,e⟩,⟨_,_,_,e2⟩⟩
theorem SpRow.box {H G:AH}{a b:Value}{ls:List (List Int)}{ps:List (Int × Int)}(h:SpRow G a b ls ps):boxA Tryz.prog 34 (.agg (List.toArray [a,b])) H=some (.pointer (some ⟨H.length,0,none⟩),H ++ [.cells [a,b] 34 false]):=by
 obtain ⟨⟨p,n,c,rfl⟩,⟨q,m,d,rfl⟩⟩:=h.shape
 kernel_rfl
theorem SpRow.store {e:TypeId}{H G:AH}{o:Nat}{vs:List Value}{a b:Value}{ls:List (List Int)}{ps:List (Int × Int)}(h:SpRow G a b ls ps)(ho:H[o]?=some (.cells vs e false))(hv:vs.length=2) :
  storeA Tryz.prog 34 (.pointer (some ⟨o,0,none⟩)) (.agg (List.toArray [a,b])) H=some (H.set o (.cells [a,b] e false)):=by
 obtain ⟨⟨p,n,c,rfl⟩,⟨q,m,d,rfl⟩⟩:=h.shape
 exact st_ss ho hv p q n c m d
end Go.Proofs.YtlcipphiflcaiaaGreat.Ai
