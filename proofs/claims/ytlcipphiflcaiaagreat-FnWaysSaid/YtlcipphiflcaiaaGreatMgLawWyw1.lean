/- Texts of this claim, joined: AiM1, AiM2. -/
import Derived.Below
import Derived.Calls
import Derived.WalkKit
import Derived.Laws.CopyRow
import Derived.Laws.AppendOwn
import Derived.Laws.MakeOwn
import Derived.Laws.StructEq
import Derived.WalkSpells
import Derived.MapKept
import Derived.Orders
set_option linter.unusedVariables false
set_option linter.unusedSimpArgs false
set_option maxHeartbeats 8000000
set_option maxRecDepth 20000
namespace Go.Proofs.YtlcipphiflcaiaaGreat.Ai
open Go Go.RowKit
structure Loc where
 blk:Nat
 base:Nat
 ext:Nat
 sz:Nat
abbrev Mu:=Nat->Option Loc
def All2 {α β:Type}(R:α->β->Prop):List α->List β->Prop
 | [],[]=>True
 | a :: as,b :: bs=>R a b/\All2 R as bs
 | _,_=>False
inductive AObj where
 | cells (vs:List Value) (t:TypeId) (ro:Bool)
 | mp (es:List (Value × Value))
 | dead
def AObj.wr:AObj->Bool
 | .cells _ _ ro=>!ro
 | .mp _=>true
 | .dead=>false
def AObj.live:AObj->Bool
 | .dead=>false
 | _=>true
abbrev AH:=List AObj
def CRel0 (μ:Mu):Value->Value->Prop
 | .bool b,v=>v=.bool b
 | .int k n,v=>v=.int k n
 | .string s,v=>v=.string s
 | .pointer none,v=>v=.pointer none
 | .pointer (some p),v=>p.spot=none/\∃ L,μ p.block=some L/\v=.pointer (some ⟨L.blk,L.base+p.off,none⟩)
 | .slice none n c,v=>n=0/\c=0/\v=.slice none 0 0
 | .slice (some p) n c,v=>p.spot=none/\c=n/\∃ a m,v=.slice (some a) n m/\n<=m /\
   (m=0∨∃ L,μ p.block=some L/\a=⟨L.blk,L.base+p.off,none⟩/\p.off+m * L.sz<=L.ext)
 | .map none,v=>v=.map none
 | .map (some o),v=>∃ L,μ o=some L/\v=.map (some L.blk)
 | .nilFunc,v=>v=.nilFunc
 | .nilIface,v=>v=.nilIface
 | _,_=>False
def FRel (μ:Mu):Value->Value->Prop
 | .agg cs,v=>∃ ds:Array Value,v=.agg ds/\All2 (CRel0 μ) cs.toList ds.toList
 | x,v=>CRel0 μ x v
def CRel (μ:Mu):Value->Value->Prop
 | .func fn fs cs,v=>∃ es ds:Array Value,v=.func fn es ds/\All2 (FRel μ) fs.toList es.toList/\All2 (CRel0 μ) cs.toList ds.toList
 | x,v=>CRel0 μ x v
def VRel (μ:Mu):Value->Value->Prop
 | .agg cs,v=>∃ ds:Array Value,v=.agg ds/\All2 (CRel μ) cs.toList ds.toList
 | x,v=>CRel μ x v
def TRel (μ:Mu):Value->Value->Prop
 | .tuple cs,v=>∃ ds:Array Value,v=.tuple ds/\All2 (VRel μ) cs.toList ds.toList
 | x,v=>VRel μ x v
def Mu.Le (μ μ':Mu):Prop:=∀ o L,μ o=some L->μ' o=some L
theorem Mu.Le.refl (μ:Mu):μ.Le μ:=fun _ _ h=>h
theorem Mu.Le.trans {a b c:Mu}(h:a.Le b)(k:b.Le c):a.Le c:=fun o L e=>k o L (h o L e)
theorem CRel0.mono {μ μ':Mu}(h:μ.Le μ'){v c:Value}(hv:CRel0 μ v c):CRel0 μ' v c:=by
 cases v with
 | pointer p =>
  cases p with
  | none=>exact hv
  | some p=>obtain ⟨h0,L,hL,e⟩:=hv;exact ⟨h0,L,h _ _ hL,e⟩
 | slice p n m =>
  cases p with
  | none=>exact hv
  | some p=>obtain ⟨h0,h1,a,m',e1,e2,e3⟩:=hv;exact ⟨h0,h1,a,m',e1,e2,e3.imp id fun ⟨L,hL,e⟩=>⟨L,h _ _ hL,e⟩⟩
 | map r =>
  cases r with
  | none=>exact hv
  | some o=>obtain ⟨L,hL,e⟩:=hv;exact ⟨L,h _ _ hL,e⟩
 | _=>exact hv
theorem all2_mono {α β:Type}{R S:α->β->Prop}(h:∀ a b,R a b->S a b){xs:List α}{ys:List β}(hr:All2 R xs ys):All2 S xs ys:=by
 induction xs generalizing ys with
 | nil=>cases ys <;> exact hr
 | cons x xs ih =>
  cases ys with
  | nil=>exact hr
  | cons y ys=>exact ⟨h _ _ hr.1,ih hr.2⟩
theorem FRel.mono {μ μ':Mu}(h:μ.Le μ'){v c:Value}(hv:FRel μ v c):FRel μ' v c:=by
 cases v with
 | agg cs=>obtain ⟨ds,e,hf⟩:=hv;exact ⟨ds,e,all2_mono (fun _ _=>CRel0.mono h) hf⟩
 | _=>simp only [FRel] at hv ⊢;exact CRel0.mono h hv
theorem CRel.mono {μ μ':Mu}(h:μ.Le μ'){v c:Value}(hv:CRel μ v c):CRel μ' v c:=by
 cases v with
 | func fn fs cs=>obtain ⟨es,ds,e,hf,hc⟩:=hv;exact ⟨es,ds,e,all2_mono (fun _ _=>FRel.mono h) hf,all2_mono (fun _ _=>CRel0.mono h) hc⟩
 | _=>simp only [CRel] at hv ⊢;exact CRel0.mono h hv
theorem VRel.mono {μ μ':Mu}(h:μ.Le μ'){v c:Value}(hv:VRel μ v c):VRel μ' v c:=by
 cases v with
 | agg cs=>obtain ⟨ds,e,hf⟩:=hv;exact ⟨ds,e,all2_mono (fun _ _=>CRel.mono h) hf⟩
 | _=>simp only [VRel] at hv ⊢;exact CRel.mono h hv
theorem TRel.mono {μ μ':Mu}(h:μ.Le μ'){v c:Value}(hv:TRel μ v c):TRel μ' v c:=by
 cases v with
 | tuple cs=>obtain ⟨ds,e,hf⟩:=hv;exact ⟨ds,e,all2_mono (fun _ _=>VRel.mono h) hf⟩
 | _=>simp only [TRel] at hv ⊢;exact VRel.mono h hv
def isOne:Value->Bool
 | .agg _ | .tuple _=>false
 | _=>true
theorem CRel.one {μ:Mu}{v c:Value}(h:CRel μ v c):isOne v=true/\c.oneCell'=true:=by
 cases v with
 | func fn fs cs=>obtain ⟨es,ds,e,hf,hc⟩:=h;subst e;exact ⟨rfl,rfl⟩
 | pointer p =>
  cases p with
  | none=>have e:c=_:=h;subst e;exact ⟨rfl,rfl⟩
  | some p=>obtain ⟨h0,L,hL,e⟩:=h;subst e;exact ⟨rfl,rfl⟩
 | slice p n m =>
  cases p with
  | none=>obtain ⟨_,_,e⟩:=h;subst e;exact ⟨rfl,rfl⟩
  | some p=>obtain ⟨h0,h1,a,m',e,_⟩:=h;subst e;exact ⟨rfl,rfl⟩
 | map r =>
  cases r with
  | none=>have e:c=_:=h;subst e;exact ⟨rfl,rfl⟩
  | some o=>obtain ⟨L,hL,e⟩:=h;subst e;exact ⟨rfl,rfl⟩
 | bool b=>have e:c=_:=h;subst e;exact ⟨rfl,rfl⟩
 | int k n=>have e:c=_:=h;subst e;exact ⟨rfl,rfl⟩
 | string s=>have e:c=_:=h;subst e;exact ⟨rfl,rfl⟩
 | nilFunc=>have e:c=_:=h;subst e;exact ⟨rfl,rfl⟩
 | nilIface=>have e:c=_:=h;subst e;exact ⟨rfl,rfl⟩
 | float _ _=>exact h.elim
 | complex _ _ _=>exact h.elim
 | chan _=>exact h.elim
 | iface _ _=>exact h.elim
 | agg _=>exact h.elim
 | tuple _=>exact h.elim
theorem TRel.of_c {μ:Mu}{v c:Value}(h1:isOne v=true)(h:CRel μ v c):TRel μ v c:=by
 cases v <;> first | exact h | (simp [isOne] at h1)
theorem CRel.of_t {μ:Mu}{v c:Value}(h1:isOne v=true)(h:TRel μ v c):CRel μ v c:=by
 cases v <;> first | exact h | (simp [isOne] at h1)
theorem VRel.of_t {μ:Mu}{v c:Value}(h1:∀ cs,v ≠ .tuple cs)(h:TRel μ v c):VRel μ v c:=by
 cases v <;> first | exact h | (exact absurd rfl (h1 _))
theorem VRel.cells {μ:Mu}{v c:Value}(h:VRel μ v c):All2 (CRel μ) v.cells.toList c.cells.toList:=by
 cases v with
 | agg cs=>obtain ⟨ds,e,hf⟩:=h;subst e;exact hf
 | tuple cs=>exact h.elim
 | _ =>
  simp only [VRel] at h
  have h1:=h.one.2
  cases c <;> first | (simp [Value.oneCell'] at h1;done) | exact ⟨h,trivial⟩
structure HRel (P:Program) (μ:Mu) (H:AH) (w:World):Prop where
 dom:∀ o,H.length<=o->μ o=none
 cells_:∀ o vs t ro L,H[o]?=some (.cells vs t ro)->μ o=some L->L.blk<w.heap.size/\0<L.sz/\L.sz=P.cellsOf t/\vs.length<=L.ext /\
  (∀ i v,vs[i]?=some v->∃ cv,w.cell? ⟨L.blk,L.base+i,none⟩=some cv/\CRel μ v cv) /\
  (ro=false->∃ cur,w.heap[L.blk]?=some (.cells cur t (0,0))/\L.base+L.ext<=cur.size)
 maps_:∀ o es L,H[o]?=some (.mp es)->μ o=some L->∃ cs clock,w.heap[L.blk]?=some (.map cs clock) /\
  All2 (fun (e:Value × Value) (m:MapEntry)=>CRel μ e.1 m.key/\CRel μ e.2 m.val) es cs.toList
 sep:∀ o o' x x' L L',o ≠ o'->H[o]?=some x->H[o']?=some x'->x.wr=true->x'.live=true->μ o=some L->μ o'=some L'->L.blk ≠ L'.blk
theorem HRel.cells {P:Program}{μ:Mu}{H:AH}{w:World}(h:HRel P μ H w){o:Nat}{vs:List Value}{t:TypeId}{ro:Bool}(ho:H[o]?=some (.cells vs t ro)){L:Loc}(hL:μ o=some L) :
  ∃ L,μ o=some L/\L.blk<w.heap.size/\0<L.sz/\L.sz=P.cellsOf t/\vs.length<=L.ext /\
  (∀ i v,vs[i]?=some v->∃ cv,w.cell? ⟨L.blk,L.base+i,none⟩=some cv/\CRel μ v cv) /\
  (ro=false->∃ cur,w.heap[L.blk]?=some (.cells cur t (0,0))/\L.base+L.ext<=cur.size):=⟨L,hL,h.cells_ o vs t ro L ho hL⟩
structure Evo (μ:Mu) (H:AH) (w:World) (μ':Mu) (H':AH) (w':World):Prop where
 le:μ.Le μ'
 len:H.length<=H'.length
 old:∀ o,o<H.length->μ' o=μ o
 os:w'.os=w.os
 tape:w'.tape=w.tape
 output:w'.output=w.output
 size:w.heap.size<=w'.heap.size
 frame:∀ b,b<w.heap.size->(∀ o x L,H[o]?=some x->x.wr=true->μ o=some L->L.blk ≠ b)->w'.heap[b]?=w.heap[b]?
 own:∀ o x L,H'[o]?=some x->x.wr=true->μ' o=some L->w.heap.size<=L.blk∨∃ o1 x1 L1,H[o1]?=some x1/\x1.wr=true/\μ o1=some L1/\L1.blk=L.blk
theorem Evo.refl (μ:Mu)(H:AH)(w:World):Evo μ H w μ H w :=
 ⟨Mu.Le.refl _,Nat.le_refl _,fun _ _=>rfl,rfl,rfl,rfl,Nat.le_refl _,fun _ _ _=>rfl,fun o x L h1 h2 h3=>.inr ⟨o,x,L,h1,h2,h3,rfl⟩⟩
theorem Evo.trans {μ μ' μ'':Mu}{H H' H'':AH}{w w' w'':World}(h:Evo μ H w μ' H' w')(k:Evo μ' H' w' μ'' H'' w''):Evo μ H w μ'' H'' w'':=by
 refine ⟨h.le.trans k.le,Nat.le_trans h.len k.len,fun o ho=>(k.old o (Nat.lt_of_lt_of_le ho h.len)).trans (h.old o ho),k.os.trans h.os,k.tape.trans h.tape,k.output.trans h.output,Nat.le_trans h.size k.size,?_,?_⟩
 ·intro b hb hn
  refine (k.frame b (Nat.lt_of_lt_of_le hb h.size) ?_).trans (h.frame b hb hn)
  intro o x L h1 h2 h3 e
  rcases h.own o x L h1 h2 h3 with h4 | ⟨o1,x1,L1,g1,g2,g3,g4⟩
  ·omega
  ·exact hn o1 x1 L1 g1 g2 g3 (g4.trans e)
 ·intro o x L h1 h2 h3
  rcases k.own o x L h1 h2 h3 with h4 | ⟨o1,x1,L1,g1,g2,g3,g4⟩
  ·exact .inl (Nat.le_trans h.size h4)
  ·rcases h.own o1 x1 L1 g1 g2 g3 with h5 | ⟨o2,x2,L2,f1,f2,f3,f4⟩
   ·exact .inl (by omega)
   ·exact .inr ⟨o2,x2,L2,f1,f2,f3,f4.trans g4⟩
theorem Evo.below {μ μ':Mu}{H H':AH}{w w':World}(h:Evo μ H w μ' H' w'){B:Nat}(hB:B<=w.heap.size)(ho:∀ o x L,H[o]?=some x->x.wr=true->μ o=some L->B<=L.blk):Below B w w' :=
 ⟨h.os,h.tape,h.output,h.size,fun k hk=>h.frame k (by omega) (fun o x L h1 h2 h3 e=>by have:=ho o x L h1 h2 h3;omega)⟩
theorem cell_of_block {w w':World}{a:Addr}(h:w'.heap[a.block]?=w.heap[a.block]?):w'.cell? a=w.cell? a:=by simp [World.cell?,h]
theorem HRel.same {P:Program}{μ:Mu}{H:AH}{w w':World}(h:HRel P μ H w)(hs:w.heap.size<=w'.heap.size)
  (hb:∀ o x L,H[o]?=some x->x.live=true->μ o=some L->w'.heap[L.blk]?=w.heap[L.blk]?):HRel P μ H w':=by
 refine ⟨h.dom,?_,?_,h.sep⟩
 ·intro o vs t ro L ho h1
  obtain ⟨h2,h3,h4,h5,h6,h7⟩:=h.cells_ o vs t ro L ho h1
  have e:=hb o _ L ho rfl h1
  refine ⟨by omega,h3,h4,h5,?_,?_⟩
  ·intro i v hv
   obtain ⟨cv,g1,g2⟩:=h6 i v hv
   exact ⟨cv,by rw [cell_of_block (a:=⟨L.blk,L.base+i,none⟩) e];exact g1,g2⟩
  ·intro hr
   rw [e];exact h7 hr
 ·intro o es L ho h1
  obtain ⟨cs,clock,h2,h3⟩:=h.maps_ o es L ho h1
  have e:=hb o _ L ho rfl h1
  exact ⟨cs,clock,by rw [e];exact h2,h3⟩
theorem HRel.drew {P:Program}{μ:Mu}{H:AH}{w:World}(h:HRel P μ H w):HRel P μ H w.drew:=h.same (Nat.le_refl _) (fun _ _ _ _ _ _=>rfl)
theorem Evo.drew (μ:Mu)(H:AH)(w:World):Evo μ H w μ H w.drew :=
 ⟨Mu.Le.refl _,Nat.le_refl _,fun _ _=>rfl,rfl,rfl,rfl,Nat.le_refl _,fun _ _ _=>rfl,fun o x L h1 h2 h3=>.inr ⟨o,x,L,h1,h2,h3,rfl⟩⟩
abbrev Sl:=Nat->Value
def Sl.put (s:Sl)(d:Option Nat)(v:Value):Sl :=
 match d with
 | none=>s
 | some d=>fun i=>if i=d then v else s i
theorem Sl.put_at (s:Sl)(d:Nat)(v:Value)(i:Nat):Sl.put s (some d) v i=if i=d then v else s i:=rfl
def evalA (s:Sl):Operand->Value
 | .tmp t=>s t
 | .const v=>v
 | .func f=>.func (.func f) #[] #[]
 | .global _=>undef
def plainC:Value->Bool
 | .bool _ | .int _ _ | .string _ | .pointer none | .slice none 0 0 | .map none | .nilFunc | .nilIface=>true
 | _=>false
def plainV:Value->Bool
 | .agg cs=>cs.toList.all plainC
 | .tuple cs=>cs.toList.all plainC
 | v=>plainC v
theorem plainC_self (μ:Mu){v:Value}(h:plainC v=true):CRel0 μ v v:=by
 unfold plainC at h
 split at h <;> first | rfl | exact ⟨rfl,rfl,rfl⟩ | cases h
theorem all2_self {α:Type}{R:α->α->Prop}{p:α->Bool}(h:∀ a,p a=true->R a a)(l:List α)(hl:l.all p=true):All2 R l l:=by
 induction l with
 | nil=>trivial
 | cons x l ih =>
  simp only [List.all_cons,Bool.and_eq_true] at hl
  exact ⟨h x hl.1,ih hl.2⟩
theorem CRel.of0 {μ:Mu}{v c:Value}(h:CRel0 μ v c):CRel μ v c:=by
 cases v <;> first | exact h.elim | exact h
theorem VRel.of0 {μ:Mu}{v c:Value}(h:CRel0 μ v c):VRel μ v c:=by
 cases v <;> first | exact h.elim | exact h
theorem TRel.of0 {μ:Mu}{v c:Value}(h:CRel0 μ v c):TRel μ v c:=by
 cases v <;> first | exact h.elim | exact h
def isF:Value->Bool
 | .agg cs=>cs.toList.all fun | .func _ _ _ | .agg _ | .tuple _=>false | _=>true
 | .func _ _ _ | .tuple _=>false
 | _=>true
theorem all2_imp {α β:Type}{R S:α->β->Prop}{p:α->Bool}(h:∀ a b,p a=true->R a b->S a b):∀ {xs:List α} {ys:List β},xs.all p=true->All2 R xs ys->All2 S xs ys
 | [],[],_,_=>trivial
 | x :: xs,y :: ys,hp,hr=>by
  simp only [List.all_cons,Bool.and_eq_true] at hp
  exact ⟨h _ _ hp.1 hr.1,all2_imp h hp.2 hr.2⟩
 | [],_ :: _,_,hr=>hr.elim
 | _ :: _,[],_,hr=>hr.elim
theorem FRel.of_t {μ:Mu}{v c:Value}(h1:isF v=true)(h:TRel μ v c):FRel μ v c:=by
 cases v with
 | agg cs =>
  obtain ⟨ds,e,hf⟩:=h
  refine ⟨ds,e,all2_imp (fun a b ha hab=>?_) h1 hf⟩
  cases a <;> first | exact hab | cases ha
 | func _ _ _=>cases h1
 | tuple _=>cases h1
 | _=>exact h
theorem TRel.of_f {μ:Mu}{v c:Value}(h:FRel μ v c):TRel μ v c:=by
 cases v with
 | agg cs=>obtain ⟨ds,e,hf⟩:=h;exact ⟨ds,e,all2_mono (fun _ _=>CRel.of0) hf⟩
 | _=>exact TRel.of0 h
theorem plainV_self (μ:Mu){v:Value}(h:plainV v=true):TRel μ v v:=by
 cases v with
 | agg cs=>exact ⟨cs,rfl,all2_self (fun a ha=>CRel.of0 (plainC_self μ ha)) _ h⟩
 | tuple cs=>exact ⟨cs,rfl,all2_self (fun a ha=>VRel.of0 (plainC_self μ ha)) _ h⟩
 | _=>exact TRel.of0 (plainC_self μ h)
structure SRel (N:Nat) (μ:Mu) (s:Sl) (a:Act):Prop where
 defers:a.defers=[]
 size:a.tmps.size=N
 at_:∀ i,TRel μ (s i) (a.tmps.getD i undef)
theorem SRel.mono {N:Nat}{μ μ':Mu}{s:Sl}{a:Act}(h:SRel N μ s a)(hm:μ.Le μ'):SRel N μ' s a:=⟨h.defers,h.size,fun i=>(h.at_ i).mono hm⟩
theorem TRel.undef (μ:Mu):TRel μ undef undef:=⟨#[],rfl,trivial⟩
theorem SRel.put {N:Nat}{μ:Mu}{s:Sl}{a:Act}(h:SRel N μ s a){d:Option Nat}(hd:∀ i,d=some i->i<N){v c:Value}(hv:TRel μ v c):SRel N μ (s.put d v) (a.put d c):=by
 cases d with
 | none=>exact h
 | some d =>
  have hlt:=hd d rfl
  refine ⟨h.defers,by simp [Act.put,h.size],fun i=>?_⟩
  simp only [Sl.put,Act.put,Array.getD_eq_getD_getElem?,Array.getElem?_setIfInBounds]
  by_cases e:i=d
  ·subst e
   rw [if_pos rfl,if_pos rfl,if_pos (by rw [h.size];exact hlt)]
   exact hv
  ·rw [if_neg e,if_neg (fun x=>e x.symm)]
   have:=h.at_ i
   simpa [Array.getD_eq_getD_getElem?] using this
def opOkC:Operand->Bool
 | .tmp _=>true
 | .const v=>plainV v
 | .func _=>true
 | .global _=>false
theorem SRel.eval {N:Nat}{μ:Mu}{s:Sl}{a:Act}(h:SRel N μ s a){x:Operand}(hx:opOkC x=true):TRel μ (evalA s x) (a.eval x):=by
 cases x with
 | tmp t=>exact h.at_ t
 | const v=>exact plainV_self μ hx
 | func f=>exact ⟨#[],#[],rfl,trivial,trivial⟩
 | global g=>cases hx
end Go.Proofs.YtlcipphiflcaiaaGreat.Ai
namespace Go.Proofs.YtlcipphiflcaiaaGreat.Ai
open Go Go.RowKit
def Mu.put (μ:Mu)(o:Nat)(L:Loc):Mu:=fun i=>if i=o then some L else μ i
theorem Mu.put_same (μ:Mu)(o:Nat)(L:Loc):μ.put o L o=some L:=by simp [Mu.put]
theorem Mu.put_other (μ:Mu)(o:Nat)(L:Loc){i:Nat}(h:i ≠ o):μ.put o L i=μ i:=by simp [Mu.put,h]
theorem Mu.le_put {μ:Mu}{o:Nat}{L:Loc}(h:μ o=none):μ.Le (μ.put o L):=by
 intro i L' hi
 by_cases e:i=o
 ·subst e;rw [h] at hi;cases hi
 ·rw [Mu.put_other _ _ _ e];exact hi
theorem cells_at {cur:Array Value}{t:TypeId}{fr:Nat × Nat}{w:World}{b i:Nat}(h:w.heap[b]?=some (.cells cur t fr)):w.cell? ⟨b,i,none⟩=cur[i]?:=by
 simp [World.cell?,h]
theorem HRel.live_lt {P:Program}{μ:Mu}{H:AH}{w:World}(h:HRel P μ H w){o:Nat}{x:AObj}(ho:H[o]?=some x)(hl:x.live=true){L:Loc}(hL:μ o=some L):L.blk<w.heap.size:=by
 cases x with
 | cells vs t ro=>exact (h.cells_ o vs t ro L ho hL).1
 | mp es =>
  obtain ⟨cs,clock,h2,_⟩:=h.maps_ o es L ho hL
  exact (Array.getElem?_eq_some_iff.1 h2).1
 | dead=>cases hl
theorem getElem?_snoc {α:Type}(l:List α)(x:α)(i:Nat):(l ++ [x])[i]?=if i=l.length then some x else l[i]?:=by
 by_cases h:i<l.length
 ·rw [List.getElem?_append_left h,if_neg (by omega)]
 ·by_cases e:i=l.length
  ·subst e;simp
  ·rw [if_neg e,List.getElem?_eq_none (by simp;omega),List.getElem?_eq_none (by omega)]
theorem getElem?_set' {α:Type}(l:List α)(o i:Nat)(x:α):(l.set o x)[i]?=if i=o/\o<l.length then some x else l[i]?:=by
 rw [List.getElem?_set]
 by_cases h:o=i
 ·subst h
  by_cases hl:o<l.length
  ·simp [hl]
  ·simp [hl]
 ·rw [if_neg h,if_neg (fun e=>h e.1.symm)]
theorem HRel.kill {P:Program}{μ:Mu}{H:AH}{w:World}(h:HRel P μ H w)(o:Nat):HRel P μ (H.set o .dead) w:=by
 have key:∀ (i:Nat) (x:AObj),(H.set o .dead)[i]?=some x->x.live=true->i ≠ o/\H[i]?=some x:=by
  intro i x hi hl
  rw [getElem?_set'] at hi
  split at hi
  ·cases hi;cases hl
  ·rename_i hn
   refine ⟨?_,hi⟩
   intro e
   subst e
   exact hn ⟨rfl,(List.getElem?_eq_some_iff.1 hi).1⟩
 refine ⟨fun i hi=>h.dom i (by simpa using hi),?_,?_,?_⟩
 ·intro i vs t ro L hi;exact h.cells_ i vs t ro L (key i _ hi rfl).2
 ·intro i es L hi;exact h.maps_ i es L (key i _ hi rfl).2
 ·intro i i' x x' L L' hne h1 h2 h3 h4
  have hx:x.live=true:=by cases x <;> first | rfl | cases h3
  exact h.sep i i' x x' L L' hne (key i x h1 hx).2 (key i' x' h2 h4).2 h3 h4
theorem Evo.kill {μ:Mu}{H:AH}{w:World}(o:Nat):Evo μ H w μ (H.set o .dead) w:=by
 refine ⟨Mu.Le.refl _,by simp,fun _ _=>rfl,rfl,rfl,rfl,Nat.le_refl _,fun _ _ _=>rfl,?_⟩
 intro i x L h1 h2 h3
 rw [getElem?_set'] at h1
 split at h1
 ·cases h1;cases h2
 ·exact .inr ⟨i,x,L,h1,h2,h3,rfl⟩
theorem HRel.alloc {P:Program}{μ:Mu}{H:AH}{w:World}(h:HRel P μ H w)(t:TypeId)(vs:List Value)(cur:Array Value)(ext:Nat)
  (hsz:0<P.cellsOf t)(hl:vs.length<=ext)(he:ext<=cur.size)(hc:∀ (i:Nat) (v:Value),vs[i]?=some v->∃ cv,cur[i]?=some cv/\CRel μ v cv) :
  HRel P (μ.put H.length ⟨w.heap.size,0,ext,P.cellsOf t⟩) (H ++ [.cells vs t false]) (w.alloc (.cells cur t)) /\
  Evo μ H w (μ.put H.length ⟨w.heap.size,0,ext,P.cellsOf t⟩) (H ++ [.cells vs t false]) (w.alloc (.cells cur t)):=by
 have hfree:μ H.length=none:=h.dom _ (Nat.le_refl _)
 have hle:μ.Le (μ.put H.length ⟨w.heap.size,0,ext,P.cellsOf t⟩):=Mu.le_put hfree
 have hnew:(w.alloc (.cells cur t)).heap[w.heap.size]?=some (.cells cur t (0,0)):=by show (w.heap.push _)[w.heap.size]?=_;simp
 have hold:∀ b,b<w.heap.size->(w.alloc (.cells cur t)).heap[b]?=w.heap[b]?:=fun b hb=>Below.heap_alloc w _ b hb
 refine ⟨⟨?_,?_,?_,?_⟩,⟨hle,by simp,fun o ho=>Mu.put_other _ _ _ (by omega),rfl,rfl,rfl,by simp,fun b hb _=>hold b hb,?_⟩⟩
 ·intro i hi
  simp only [List.length_append,List.length_cons,List.length_nil] at hi
  rw [Mu.put_other _ _ _ (by omega)];exact h.dom i (by omega)
 ·intro i vs' t' ro L hi hL
  rw [getElem?_snoc] at hi
  split at hi
  ·rename_i e
   simp only [Option.some.injEq,AObj.cells.injEq] at hi
   obtain ⟨rfl,rfl,rfl⟩:=hi
   subst e
   rw [Mu.put_same] at hL
   cases hL
   refine ⟨by simp,hsz,rfl,hl,?_,fun _=>⟨cur,hnew,by simpa using he⟩⟩
   intro i v hv
   obtain ⟨cv,g1,g2⟩:=hc i v hv
   exact ⟨cv,by rw [cells_at hnew];simpa using g1,g2.mono hle⟩
  ·rename_i e
   rw [Mu.put_other _ _ _ e] at hL
   obtain ⟨h2,h3,h4,h5,h6,h7⟩:=h.cells_ i vs' t' ro L hi hL
   refine ⟨by simp;omega,h3,h4,h5,?_,?_⟩
   ·intro j v hv
    obtain ⟨cv,g1,g2⟩:=h6 j v hv
    exact ⟨cv,by rw [cell_of_block (a:=⟨L.blk,L.base+j,none⟩) (hold _ h2)];exact g1,g2.mono hle⟩
   ·intro hr
    rw [hold _ h2];exact h7 hr
 ·intro i es L hi hL
  rw [getElem?_snoc] at hi
  split at hi
  ·cases hi
  ·rename_i e
   rw [Mu.put_other _ _ _ e] at hL
   obtain ⟨cs,clock,h2,h3⟩:=h.maps_ i es L hi hL
   refine ⟨cs,clock,?_,all2_mono (fun a b hab=>⟨hab.1.mono hle,hab.2.mono hle⟩) h3⟩
   rw [hold _ (Array.getElem?_eq_some_iff.1 h2).1];exact h2
 ·intro i i' x x' L L' hne h1 h2 h3 h4 h5 h6
  have hx:x.live=true:=by cases x <;> first | rfl | cases h3
  rw [getElem?_snoc] at h1 h2
  split at h1
  ·rename_i e
   subst e
   rw [Mu.put_same] at h5
   cases h5
   rw [if_neg (fun e=>hne e.symm)] at h2
   rw [Mu.put_other _ _ _ (fun e=>hne e.symm)] at h6
   have g2:=h.live_lt h2 h4 h6
   show w.heap.size ≠ L'.blk
   omega
  ·rename_i e
   rw [Mu.put_other _ _ _ e] at h5
   split at h2
   ·rename_i e'
    subst e'
    rw [Mu.put_same] at h6
    cases h6
    have g2:=h.live_lt h1 hx h5
    show L.blk ≠ w.heap.size
    omega
   ·rename_i e'
    rw [Mu.put_other _ _ _ e'] at h6
    exact h.sep i i' x x' L L' hne h1 h2 h3 h4 h5 h6
 ·intro i x L h1 h2 h3
  rw [getElem?_snoc] at h1
  split at h1
  ·rename_i e
   subst e
   rw [Mu.put_same] at h3
   cases h3
   exact .inl (Nat.le_refl _)
  ·rename_i e
   rw [Mu.put_other _ _ _ e] at h3
   exact .inr ⟨i,x,L,h1,h2,h3,rfl⟩
theorem HRel.rewrite {P:Program}{μ:Mu}{H:AH}{w:World}(h:HRel P μ H w){o:Nat}{vs:List Value}{t:TypeId}(ho:H[o]?=some (.cells vs t false))
  {L:Loc}(hL:μ o=some L){cur:Array Value}(hb:w.heap[L.blk]?=some (.cells cur t (0,0)))(cur':Array Value)(hs:cur'.size=cur.size)(vs':List Value)(hl:vs'.length<=L.ext)
  (hc:∀ (i:Nat) (v:Value),vs'[i]?=some v->∃ cv,cur'[L.base+i]?=some cv/\CRel μ v cv) :
  HRel P μ (H.set o (.cells vs' t false)) (w.setRow L.blk cur')/\Evo μ H w μ (H.set o (.cells vs' t false)) (w.setRow L.blk cur'):=by
 have hlt:o<H.length:=(List.getElem?_eq_some_iff.1 ho).1
 have hnew:(w.setRow L.blk cur').heap[L.blk]?=some (.cells cur' t (0,0)):=setRow_heap w L.blk cur cur' t (0,0) hb
 have hold:∀ b,b ≠ L.blk->(w.setRow L.blk cur').heap[b]?=w.heap[b]?:=fun b hb=>setRow_other w L.blk b cur' hb
 have hsize:(w.setRow L.blk cur').heap.size=w.heap.size:=by simp [World.setRow]
 obtain ⟨L0,f1,f2,f3,f4,f5,f6,f7⟩:=h.cells ho hL
 rw [hL] at f1;cases f1
 obtain ⟨cur0,k1,k2⟩:=f7 rfl
 rw [hb] at k1;cases k1
 refine ⟨⟨?_,?_,?_,?_⟩,⟨Mu.Le.refl _,by simp,fun _ _=>rfl,rfl,rfl,rfl,by rw [hsize];exact Nat.le_refl _,?_,?_⟩⟩
 ·intro i hi;exact h.dom i (by simpa using hi)
 ·intro i ws t' ro L1 hi h1
  rw [getElem?_set'] at hi
  split at hi
  ·rename_i e
   obtain ⟨rfl,_⟩:=e
   simp only [Option.some.injEq,AObj.cells.injEq] at hi
   obtain ⟨rfl,rfl,rfl⟩:=hi
   rw [hL] at h1;cases h1
   refine ⟨by rw [hsize];exact f2,f3,f4,hl,?_,fun _=>⟨cur',hnew,by rw [hs];exact k2⟩⟩
   intro j v hv
   obtain ⟨cv,g1,g2⟩:=hc j v hv
   exact ⟨cv,by rw [cells_at hnew];exact g1,g2⟩
  ·rename_i e
   have hne:i ≠ o:=fun x=>e ⟨x,hlt⟩
   obtain ⟨h2,h3,h4,h5,h6,h7⟩:=h.cells_ i ws t' ro L1 hi h1
   have hbk:L.blk ≠ L1.blk:=h.sep o i _ _ L L1 (Ne.symm hne) ho hi rfl rfl hL h1
   refine ⟨by rw [hsize];exact h2,h3,h4,h5,?_,?_⟩
   ·intro j v hv
    obtain ⟨cv,g1,g2⟩:=h6 j v hv
    exact ⟨cv,by rw [cell_of_block (a:=⟨L1.blk,L1.base+j,none⟩) (hold _ (Ne.symm hbk))];exact g1,g2⟩
   ·intro hr;rw [hold _ (Ne.symm hbk)];exact h7 hr
 ·intro i es L1 hi h1
  rw [getElem?_set'] at hi
  split at hi
  ·cases hi
  ·rename_i e
   have hne:i ≠ o:=fun x=>e ⟨x,hlt⟩
   obtain ⟨cs,clock,h2,h3⟩:=h.maps_ i es L1 hi h1
   have hbk:L.blk ≠ L1.blk:=h.sep o i _ _ L L1 (Ne.symm hne) ho hi rfl rfl hL h1
   exact ⟨cs,clock,by rw [hold _ (Ne.symm hbk)];exact h2,h3⟩
 ·have key:∀ (i:Nat) (x:AObj),(H.set o (.cells vs' t false))[i]?=some x->∃ y,H[i]?=some y/\y.live=x.live/\y.wr=x.wr:=by
   intro i x hi
   rw [getElem?_set'] at hi
   split at hi
   ·rename_i e
    obtain ⟨rfl,_⟩:=e
    cases hi
    exact ⟨_,ho,rfl,rfl⟩
   ·exact ⟨x,hi,rfl,rfl⟩
  intro i i' x x' L1 L2 hne h1 h2 h3 h4 h5 h6
  obtain ⟨y,a1,a2,a3⟩:=key i x h1
  obtain ⟨y',b1,b2,b3⟩:=key i' x' h2
  exact h.sep i i' y y' L1 L2 hne a1 b1 (a3.trans h3) (b2.trans h4) h5 h6
 ·intro b hb' hn
  exact hold b (fun e=>hn o _ L ho rfl hL e.symm)
 ·intro i x L1 h1 h2 h3
  rw [getElem?_set'] at h1
  split at h1
  ·rename_i e
   obtain ⟨rfl,_⟩:=e
   rw [hL] at h3;cases h3
   exact .inr ⟨i,_,L,ho,rfl,hL,rfl⟩
  ·exact .inr ⟨i,x,L1,h1,h2,h3,rfl⟩
theorem HRel.move {P:Program}{μ:Mu}{H:AH}{w:World}(h:HRel P μ H w){o:Nat}{vs:List Value}{t:TypeId}(ho:H[o]?=some (.cells vs t false))
  {L:Loc}(hL:μ o=some L)(k:Nat)(hk:k<=vs.length) :
  HRel P (μ.put H.length ⟨L.blk,L.base+k,L.ext - k,L.sz⟩) (H.set o .dead ++ [.cells (vs.drop k) t false]) w /\
  Evo μ H w (μ.put H.length ⟨L.blk,L.base+k,L.ext - k,L.sz⟩) (H.set o .dead ++ [.cells (vs.drop k) t false]) w:=by
 have hlt:o<H.length:=(List.getElem?_eq_some_iff.1 ho).1
 have hfree:μ H.length=none:=h.dom _ (Nat.le_refl _)
 have hle:μ.Le (μ.put H.length ⟨L.blk,L.base+k,L.ext - k,L.sz⟩):=Mu.le_put hfree
 obtain ⟨L0,f1,f2,f3,f4,f5,f6,f7⟩:=h.cells ho hL
 rw [hL] at f1;cases f1
 obtain ⟨cur,k1,k2⟩:=f7 rfl
 have key:∀ (i:Nat) (x:AObj),(H.set o .dead ++ [.cells (vs.drop k) t false])[i]?=some x->x.live=true->(i=H.length/\x=.cells (vs.drop k) t false)∨(i ≠ H.length/\i ≠ o/\H[i]?=some x):=by
  intro i x hi hl
  rw [getElem?_snoc,List.length_set] at hi
  split at hi
  ·rename_i e;cases hi;exact .inl ⟨e,rfl⟩
  ·rename_i e
   rw [getElem?_set'] at hi
   split at hi
   ·cases hi;cases hl
   ·rename_i e';exact .inr ⟨e,fun x=>e' ⟨x,hlt⟩,hi⟩
 refine ⟨⟨?_,?_,?_,?_⟩,⟨hle,by simp,fun o ho=>Mu.put_other _ _ _ (by omega),rfl,rfl,rfl,Nat.le_refl _,fun _ _ _=>rfl,?_⟩⟩
 ·intro i hi
  simp only [List.length_append,List.length_cons,List.length_nil,List.length_set] at hi
  rw [Mu.put_other _ _ _ (by omega)];exact h.dom i (by omega)
 ·intro i ws t' ro L1 hi h1
  rcases key i _ hi rfl with ⟨e,hx⟩ | ⟨e,e',hx⟩
  ·simp only [AObj.cells.injEq] at hx
   obtain ⟨rfl,rfl,rfl⟩:=hx
   subst e
   rw [Mu.put_same] at h1
   cases h1
   refine ⟨f2,f3,f4,by simp only [List.length_drop];omega,?_,fun _=>⟨cur,k1,by simp only;omega⟩⟩
   intro j v hv
   rw [List.getElem?_drop] at hv
   obtain ⟨cv,g1,g2⟩:=f6 _ v hv
   exact ⟨cv,by simpa [Nat.add_assoc] using g1,g2.mono hle⟩
  ·rw [Mu.put_other _ _ _ e] at h1
   obtain ⟨h2,h3,h4,h5,h6,h7⟩:=h.cells_ i ws t' ro L1 hx h1
   refine ⟨h2,h3,h4,h5,?_,h7⟩
   intro j v hv
   obtain ⟨cv,g1,g2⟩:=h6 j v hv
   exact ⟨cv,g1,g2.mono hle⟩
 ·intro i es L1 hi h1
  rcases key i _ hi rfl with ⟨e,hx⟩ | ⟨e,e',hx⟩
  ·cases hx
  ·rw [Mu.put_other _ _ _ e] at h1
   obtain ⟨cs,clock,h2,h3⟩:=h.maps_ i es L1 hx h1
   exact ⟨cs,clock,h2,all2_mono (fun a b hab=>⟨hab.1.mono hle,hab.2.mono hle⟩) h3⟩
 ·intro i i' x x' L1 L2 hne h1 h2 h3 h4 h5 h6
  have hx:x.live=true:=by cases x <;> first | rfl | cases h3
  rcases key i x h1 hx with ⟨e,gx⟩ | ⟨e,e',gx⟩ <;> rcases key i' x' h2 h4 with ⟨d,gy⟩ | ⟨d,d',gy⟩
  ·exact absurd (e.trans d.symm) hne
  ·subst e
   rw [Mu.put_same] at h5;cases h5
   rw [Mu.put_other _ _ _ d] at h6
   exact h.sep o i' _ x' L L2 (Ne.symm d') ho gy rfl h4 hL h6
  ·subst d
   rw [Mu.put_same] at h6;cases h6
   rw [Mu.put_other _ _ _ e] at h5
   exact h.sep i o x _ L1 L e' gx ho h3 rfl h5 hL
  ·rw [Mu.put_other _ _ _ e] at h5
   rw [Mu.put_other _ _ _ d] at h6
   exact h.sep i i' x x' L1 L2 hne gx gy h3 h4 h5 h6
 ·intro i x L1 h1 h2 h3
  have hx:x.live=true:=by cases x <;> first | rfl | cases h2
  rcases key i x h1 hx with ⟨e,gx⟩ | ⟨e,e',gx⟩
  ·subst e
   rw [Mu.put_same] at h3;cases h3
   exact .inr ⟨o,_,L,ho,rfl,hL,rfl⟩
  ·rw [Mu.put_other _ _ _ e] at h3
   exact .inr ⟨i,x,L1,gx,h2,h3,rfl⟩
theorem HRel.phantom {P:Program}{μ:Mu}{H:AH}{w:World}(h:HRel P μ H w)(obj:AObj):HRel P μ (H ++ [obj]) w:=by
 have hn:μ H.length=none:=h.dom _ (Nat.le_refl _)
 have key:∀ {i:Nat} {x:AObj} {L:Loc},(H ++ [obj])[i]?=some x->μ i=some L->H[i]?=some x:=by
  intro i x L hi hL
  rw [getElem?_snoc] at hi
  split at hi
  ·rename_i e;subst e;rw [hn] at hL;cases hL
  ·exact hi
 refine ⟨fun i hi=>h.dom i (by simp at hi;omega),fun i vs t ro L hi hL=>h.cells_ i vs t ro L (key hi hL) hL,fun i es L hi hL=>h.maps_ i es L (key hi hL) hL,?_⟩
 intro i i' x x' L L' hne h1 h2 h3 h4 h5 h6
 exact h.sep i i' x x' L L' hne (key h1 h5) (key h2 h6) h3 h4 h5 h6
theorem Evo.phantom {P:Program}{μ0 μ:Mu}{H0 H:AH}{w0 w:World}(h:Evo μ0 H0 w0 μ H w)(hH:HRel P μ H w)(obj:AObj):Evo μ0 H0 w0 μ (H ++ [obj]) w:=by
 refine ⟨h.le,by have:=h.len;simp;omega,h.old,h.os,h.tape,h.output,h.size,h.frame,?_⟩
 intro o x L h1 h2 h3
 rw [getElem?_snoc] at h1
 split at h1
 ·rename_i e;subst e;rw [hH.dom _ (Nat.le_refl _)] at h3;cases h3
 ·exact h.own o x L h1 h2 h3
theorem HRel.allocMap {P:Program}{μ:Mu}{H:AH}{w:World}(h:HRel P μ H w) :
  HRel P (μ.put H.length ⟨w.heap.size,0,0,1⟩) (H ++ [.mp []]) (w.alloc (.map #[] 0))/\Evo μ H w (μ.put H.length ⟨w.heap.size,0,0,1⟩) (H ++ [.mp []]) (w.alloc (.map #[] 0)):=by
 have hfree:μ H.length=none:=h.dom _ (Nat.le_refl _)
 have hle:μ.Le (μ.put H.length ⟨w.heap.size,0,0,1⟩):=Mu.le_put hfree
 have hnew:(w.alloc (.map #[] 0)).heap[w.heap.size]?=some (.map #[] 0):=by show (w.heap.push _)[w.heap.size]?=_;simp
 have hold:∀ b,b<w.heap.size->(w.alloc (.map #[] 0)).heap[b]?=w.heap[b]?:=fun b hb=>Below.heap_alloc w _ b hb
 refine ⟨⟨?_,?_,?_,?_⟩,⟨hle,by simp,fun o ho=>Mu.put_other _ _ _ (by omega),rfl,rfl,rfl,by simp,fun b hb _=>hold b hb,?_⟩⟩
 ·intro i hi
  simp only [List.length_append,List.length_cons,List.length_nil] at hi
  rw [Mu.put_other _ _ _ (by omega)];exact h.dom i (by omega)
 ·intro i vs' t' ro L hi hL
  rw [getElem?_snoc] at hi
  split at hi
  ·cases hi
  ·rename_i e
   rw [Mu.put_other _ _ _ e] at hL
   obtain ⟨h2,h3,h4,h5,h6,h7⟩:=h.cells_ i vs' t' ro L hi hL
   refine ⟨by simp;omega,h3,h4,h5,?_,?_⟩
   ·intro j v hv
    obtain ⟨cv,g1,g2⟩:=h6 j v hv
    exact ⟨cv,by rw [cell_of_block (a:=⟨L.blk,L.base+j,none⟩) (hold _ h2)];exact g1,g2.mono hle⟩
   ·intro hr
    rw [hold _ h2];exact h7 hr
 ·intro i es L hi hL
  rw [getElem?_snoc] at hi
  split at hi
  ·rename_i e
   simp only [Option.some.injEq,AObj.mp.injEq] at hi
   subst hi
   subst e
   rw [Mu.put_same] at hL
   cases hL
   exact ⟨#[],0,hnew,trivial⟩
  ·rename_i e
   rw [Mu.put_other _ _ _ e] at hL
   obtain ⟨cs,clock,h2,h3⟩:=h.maps_ i es L hi hL
   refine ⟨cs,clock,?_,all2_mono (fun a b hab=>⟨hab.1.mono hle,hab.2.mono hle⟩) h3⟩
   rw [hold _ (Array.getElem?_eq_some_iff.1 h2).1];exact h2
 ·intro i i' x x' L L' hne h1 h2 h3 h4 h5 h6
  have hx:x.live=true:=by cases x <;> first | rfl | cases h3
  rw [getElem?_snoc] at h1 h2
  split at h1
  ·rename_i e
   subst e
   rw [Mu.put_same] at h5
   cases h5
   rw [if_neg (fun e=>hne e.symm)] at h2
   rw [Mu.put_other _ _ _ (fun e=>hne e.symm)] at h6
   have g2:=h.live_lt h2 h4 h6
   show w.heap.size ≠ L'.blk
   omega
  ·rename_i e
   rw [Mu.put_other _ _ _ e] at h5
   split at h2
   ·rename_i e'
    subst e'
    rw [Mu.put_same] at h6
    cases h6
    have g2:=h.live_lt h1 hx h5
    show L.blk ≠ w.heap.size
    omega
   ·rename_i e'
    rw [Mu.put_other _ _ _ e'] at h6
    exact h.sep i i' x x' L L' hne h1 h2 h3 h4 h5 h6
 ·intro i x L h1 h2 h3
  rw [getElem?_snoc] at h1
  split at h1
  ·rename_i e
   subst e
   rw [Mu.put_same] at h3
   cases h3
   exact .inl (Nat.le_refl _)
  ·rename_i e
   rw [Mu.put_other _ _ _ e] at h3
   exact .inr ⟨i,x,L,h1,h2,h3,rfl⟩
theorem HRel.rewriteMap {P:Program}{μ:Mu}{H:AH}{w:World}(h:HRel P μ H w){o:Nat}{es:List (Value × Value)}(ho:H[o]?=some (.mp es)){L:Loc}(hL:μ o=some L)
  (cs':Array MapEntry)(clock':Nat)(es':List (Value × Value))(hc:All2 (fun (e:Value × Value) (m:MapEntry)=>CRel μ e.1 m.key/\CRel μ e.2 m.val) es' cs'.toList) :
  HRel P μ (H.set o (.mp es')) { w with heap:=w.heap.setIfInBounds L.blk (.map cs' clock') }/\Evo μ H w μ (H.set o (.mp es')) { w with heap:=w.heap.setIfInBounds L.blk (.map cs' clock') }:=by
 have hlt:o<H.length:=(List.getElem?_eq_some_iff.1 ho).1
 have hbl:=h.live_lt ho rfl hL
 have hnew:(w.heap.setIfInBounds L.blk (.map cs' clock'))[L.blk]?=some (.map cs' clock'):=by simp [hbl]
 have hold:∀ b,b ≠ L.blk->(w.heap.setIfInBounds L.blk (.map cs' clock'))[b]?=w.heap[b]?:=fun b hb=>by simp [Ne.symm hb]
 refine ⟨⟨?_,?_,?_,?_⟩,⟨Mu.Le.refl _,by simp,fun _ _=>rfl,rfl,rfl,rfl,by simp,?_,?_⟩⟩
 ·intro i hi;exact h.dom i (by simpa using hi)
 ·intro i ws t' ro L1 hi h1
  rw [getElem?_set'] at hi
  split at hi
  ·cases hi
  ·rename_i e
   have hne:i ≠ o:=fun x=>e ⟨x,hlt⟩
   obtain ⟨h2,h3,h4,h5,h6,h7⟩:=h.cells_ i ws t' ro L1 hi h1
   have hbk:L.blk ≠ L1.blk:=h.sep o i _ _ L L1 (Ne.symm hne) ho hi rfl rfl hL h1
   refine ⟨by simpa using h2,h3,h4,h5,?_,?_⟩
   ·intro j v hv
    obtain ⟨cv,g1,g2⟩:=h6 j v hv
    exact ⟨cv,by rw [cell_of_block (w:=w) (a:=⟨L1.blk,L1.base+j,none⟩) (hold _ (Ne.symm hbk))];exact g1,g2⟩
   ·intro hr
    obtain ⟨cur,k1,k2⟩:=h7 hr
    exact ⟨cur,(hold _ (Ne.symm hbk)).trans k1,k2⟩
 ·intro i es1 L1 hi h1
  rw [getElem?_set'] at hi
  split at hi
  ·rename_i e
   obtain ⟨rfl,_⟩:=e
   simp only [Option.some.injEq,AObj.mp.injEq] at hi
   subst hi
   rw [hL] at h1;cases h1
   exact ⟨cs',clock',hnew,hc⟩
  ·rename_i e
   have hne:i ≠ o:=fun x=>e ⟨x,hlt⟩
   obtain ⟨cs,clock,h2,h3⟩:=h.maps_ i es1 L1 hi h1
   have hbk:L.blk ≠ L1.blk:=h.sep o i _ _ L L1 (Ne.symm hne) ho hi rfl rfl hL h1
   exact ⟨cs,clock,(hold _ (Ne.symm hbk)).trans h2,h3⟩
 ·have key:∀ (i:Nat) (x:AObj),(H.set o (.mp es'))[i]?=some x->∃ y,H[i]?=some y/\y.live=x.live/\y.wr=x.wr:=by
   intro i x hi
   rw [getElem?_set'] at hi
   split at hi
   ·rename_i e
    obtain ⟨rfl,_⟩:=e
    cases hi
    exact ⟨_,ho,rfl,rfl⟩
   ·exact ⟨x,hi,rfl,rfl⟩
  intro i i' x x' L1 L2 hne h1 h2 h3 h4 h5 h6
  obtain ⟨y,a1,a2,a3⟩:=key i x h1
  obtain ⟨y',b1,b2,b3⟩:=key i' x' h2
  exact h.sep i i' y y' L1 L2 hne a1 b1 (a3.trans h3) (b2.trans h4) h5 h6
 ·intro b hb' hn
  exact hold b (fun e=>hn o _ L ho rfl hL e.symm)
 ·intro i x L1 h1 h2 h3
  rw [getElem?_set'] at h1
  split at h1
  ·rename_i e
   obtain ⟨rfl,_⟩:=e
   rw [hL] at h3;cases h3
   exact .inr ⟨i,_,L,ho,rfl,hL,rfl⟩
  ·exact .inr ⟨i,x,L1,h1,h2,h3,rfl⟩
end Go.Proofs.YtlcipphiflcaiaaGreat.Ai
namespace Go.Proofs.YtlcipphiflcaiaaGreat.Ai
open Go Go.RowKit
def Ok1 (P:Program)(μ:Mu)(H:AH)(w:World)(v:Value)(H':AH)(r:Result Next):Prop :=
 ∃ μ' cv w',(r=.ok (.value cv) w'∨(r=.ok .skip w'/\cv=undef))/\TRel μ' v cv/\HRel P μ' H' w'/\Evo μ H w μ' H' w'
theorem Ok1.same {P:Program}{μ:Mu}{H:AH}{w:World}{v cv:Value}(h:HRel P μ H w)(hv:TRel μ v cv):Ok1 P μ H w v H (.ok (.value cv) w) :=
 ⟨μ,cv,w,.inl rfl,hv,h,Evo.refl _ _ _⟩
theorem sizeOf_run {P:Program}{t:TypeId}(h:0<P.cellsOf t)(w:World):(Go.sizeOf t).run P w=.ok (P.cellsOf t) w:=by
 unfold Program.cellsOf at h ⊢
 cases hi:P.info? t with
 | none=>rw [hi] at h;simp at h
 | some i=>simp [Go.sizeOf,typeInfo,hi]
theorem sizeOf_info {P:Program}{t:TypeId}(h:0<P.cellsOf t):∃ i,P.info? t=some i/\i.size=P.cellsOf t/\i.bytes=P.bytesOf t:=by
 unfold Program.cellsOf at h ⊢
 unfold Program.bytesOf
 cases hi:P.info? t with
 | none=>rw [hi] at h;simp at h
 | some i=>exact ⟨i,rfl,by simp,by simp⟩
def isAggA (P:Program)(t:TypeId):Option Bool :=
 match P.underlying t with
 | some (.struct _)=>some true
 | some (.array _ _)=>some true
 | some _=>some false
 | none=>none
theorem isAgg_run {P:Program}{t:TypeId}{b:Bool}(h:isAggA P t=some b)(w:World):(isAgg t).run P w=.ok b w:=by
 unfold isAggA at h
 cases hu:P.underlying t with
 | none=>rw [hu] at h;cases h
 | some d=>rw [hu] at h;cases d <;> simp at h <;> subst h <;> simp [isAgg,run_underlying hu]
theorem Addr.add_lit' (b o k:Nat):(⟨b,o,none⟩:Addr).add k=⟨b,o+k,none⟩:=by
 unfold Addr.add
 split
 ·rename_i h;subst h;rfl
 ·rfl
def indexAddrA (P:Program)(t:TypeId)(x i:Value):Option Value :=
 match x,i with
 | .slice (some p) n _,.int _ i =>
  match P.underlying t with
  | some (.slice e)=>if 0<=i/\i<(n:Int)/\0<P.cellsOf e then some (.pointer (some ⟨p.block,p.off+i.toNat * P.cellsOf e,none⟩)) else none
  | _=>none
 | .pointer (some p),.int _ i =>
  match P.underlying t with
  | some (.array n e)=>if 0<=i/\i<(n:Int)/\0<P.cellsOf e then some (.pointer (some ⟨p.block,p.off+i.toNat * P.cellsOf e,none⟩)) else none
  | _=>none
 | _,_=>none
theorem indexAddrA_run {P:Program}{μ:Mu}{t:TypeId}{x i v cx ci:Value}(h:indexAddrA P t x i=some v)(hx:TRel μ x cx)(hi:TRel μ i ci)(w:World) :
  ∃ cv,(Instr.indexAt t cx ci).run P w=.ok cv w/\TRel μ v cv:=by
 unfold indexAddrA at h
 split at h
 ·rename_i p n c k i
  split at h
  ·rename_i e hu
   split at h
   ·rename_i hc
    obtain ⟨h0,h1,h2⟩:=hc
    cases h
    have hi':ci=.int k i:=hi
    subst hi'
    obtain ⟨e1,e2,a,m,e3,hm,e4⟩:=hx
    subst e3
    have hm0:m ≠ 0:=by omega
    rcases e4 with e4 | ⟨L,hL,e4,_⟩
    ·exact absurd e4 hm0
    ·subst e4
     refine ⟨.pointer (some ⟨L.blk,L.base+p.off+i.toNat * P.cellsOf e,none⟩),?_,⟨rfl,L,hL,by simp [Nat.add_assoc]⟩⟩
     simp [Instr.indexAt,asIntOf,run_underlying hu,h0,h1,sizeOf_run h2,Addr.add_lit']
   ·cases h
  ·cases h
 ·rename_i p k i
  split at h
  ·rename_i n e hu
   split at h
   ·rename_i hc
    obtain ⟨h0,h1,h2⟩:=hc
    cases h
    have hi':ci=.int k i:=hi
    subst hi'
    obtain ⟨e1,L,hL,e3⟩:=hx
    subst e3
    refine ⟨.pointer (some ⟨L.blk,L.base+p.off+i.toNat * P.cellsOf e,none⟩),?_,⟨rfl,L,hL,by simp [Nat.add_assoc]⟩⟩
    simp [Instr.indexAt,asIntOf,run_underlying hu,h0,h1,sizeOf_run h2,Addr.add_lit',Instr.sureAddr]
   ·cases h
  ·cases h
 ·cases h
def fieldAddrA (P:Program)(t:TypeId)(x:Value)(f:Nat):Option Value :=
 match x with
 | .pointer (some p) =>
  match P.underlying t with
  | some (.struct fs) =>
   match fs[f]? with
   | some fd=>if 0<P.cellsOf fd.type then some (.pointer (some ⟨p.block,p.off+fd.offset,none⟩)) else none
   | none=>none
  | _=>none
 | _=>none
theorem fieldAddrA_run {P:Program}{μ:Mu}{t:TypeId}{x v cx:Value}{f:Nat}(h:fieldAddrA P t x f=some v)(hx:TRel μ x cx)(w:World) :
  ∃ cv,(Instr.fieldAt t cx f).run P w=.ok cv w/\TRel μ v cv:=by
 unfold fieldAddrA at h
 split at h
 ·rename_i p
  split at h
  ·rename_i fs hu
   split at h
   ·rename_i fd hf
    split at h
    ·rename_i h2
     cases h
     obtain ⟨e1,L,hL,e3⟩:=hx
     subst e3
     refine ⟨.pointer (some ⟨L.blk,L.base+p.off+fd.offset,none⟩),?_,⟨rfl,L,hL,by simp [Nat.add_assoc]⟩⟩
     simp [Instr.fieldAt,run_underlying hu,hf,Instr.sureAddr,fieldPlace,sizeOf_run h2,Addr.add_lit',show ¬ P.cellsOf fd.type=0 from by omega]
    ·cases h
   ·cases h
  ·cases h
 ·cases h
def loadA (P:Program)(t:TypeId)(x:Value)(H:AH):Option Value :=
 match x with
 | .pointer (some p) =>
  match H[p.block]? with
  | some (.cells vs _ _) =>
   match isAggA P t with
   | some true=>if p.off+P.cellsOf t<=vs.length/\0<P.cellsOf t then some (.agg ((vs.drop p.off).take (P.cellsOf t)).toArray) else none
   | some false=>vs[p.off]?
   | none=>none
  | _=>none
 | _=>none
theorem all2_pick {R:Value->Value->Prop}{Q:Nat->Value->Prop}:∀ (vs:List Value) (k:Nat),(∀ (i:Nat) (v:Value),vs[i]?=some v->∃ cv,Q (k+i) cv/\R v cv) ->
  ∃ cs,All2 R vs cs/\cs.length=vs.length/\∀ (j:Nat) (c:Value),cs[j]?=some c->Q (k+j) c:=by
 intro vs
 induction vs with
 | nil=>intro k _;exact ⟨[],trivial,rfl,fun j c h=>by simp at h⟩
 | cons v vs ih =>
  intro k h
  obtain ⟨c,h1,h2⟩:=h 0 v rfl
  obtain ⟨cs,g1,g2,g3⟩:=ih (k+1) (fun i v hv=>by have:=h (i+1) v (by simpa using hv);rwa [show k+(i+1)=k+1+i from by omega] at this)
  refine ⟨c :: cs,⟨h2,g1⟩,by simp [g2],?_⟩
  intro j c' hj
  cases j with
  | zero=>simp at hj;subst hj;exact h1
  | succ j=>have:=g3 j c' (by simpa using hj);rwa [show k+1+j=k+(j+1) from by omega] at this
theorem all2_len {α β:Type}{R:α->β->Prop}:∀ {xs:List α} {ys:List β},All2 R xs ys->xs.length=ys.length
 | [],[],_=>rfl
 | _ :: _,_ :: _,h=>by simp [all2_len h.2]
theorem all2_at {α β:Type}{R:α->β->Prop}:∀ {xs:List α} {ys:List β},All2 R xs ys->∀ (i:Nat) (x:α),xs[i]?=some x->∃ y,ys[i]?=some y/\R x y
 | [],[],_,i,x,hx=>by simp at hx
 | a :: xs,b :: ys,h,i,x,hx=>by
  cases i with
  | zero=>simp at hx;subst hx;exact ⟨b,rfl,h.1⟩
  | succ i=>exact all2_at h.2 i x (by simpa using hx)
theorem HRel.range {P:Program}{μ:Mu}{H:AH}{w:World}(h:HRel P μ H w){o:Nat}{vs:List Value}{t:TypeId}{ro:Bool}(ho:H[o]?=some (.cells vs t ro)){L:Loc}(hL:μ o=some L)(k n:Nat) :
  ∃ cs,All2 (CRel μ) ((vs.drop k).take n) cs/\cs.length=((vs.drop k).take n).length/\∀ (j:Nat) (c:Value),cs[j]?=some c->w.cell? ((⟨L.blk,L.base+k,none⟩:Addr).add j)=some c:=by
 obtain ⟨L0,f1,f2,f3,f4,f5,f6,f7⟩:=h.cells ho hL
 rw [hL] at f1;cases f1
 have:=all2_pick (R:=CRel μ) (Q:=fun i c=>w.cell? ⟨L.blk,L.base+i,none⟩=some c) ((vs.drop k).take n) k (by
  intro i v hv
  rw [List.getElem?_take] at hv
  split at hv
  ·rw [List.getElem?_drop] at hv;exact f6 _ v hv
  ·cases hv)
 obtain ⟨cs,g1,g2,g3⟩:=this
 exact ⟨cs,g1,g2,fun j c hj=>by rw [Addr.add_lit',Nat.add_assoc];exact g3 j c hj⟩
theorem loadA_run {P:Program}{μ:Mu}{H:AH}{w:World}(hH:HRel P μ H w){t:TypeId}{x v cx:Value}(h:loadA P t x H=some v)(hx:TRel μ x cx) :
  ∃ cv,(Instr.loadAt t cx).run P w=.ok cv w/\TRel μ v cv:=by
 unfold loadA at h
 split at h
 ·rename_i p
  split at h
  ·rename_i vs t' ro ho
   obtain ⟨e1,L,hL,e3⟩:=hx
   subst e3
   split at h
   ·rename_i hagg
    split at h
    ·rename_i hc
     obtain ⟨h1,h2⟩:=hc
     cases h
     obtain ⟨cs,g1,g2,g3⟩:=hH.range ho hL p.off (P.cellsOf t)
     have hlen:cs.length=P.cellsOf t:=by rw [g2];simp;omega
     refine ⟨.agg cs.toArray,?_,⟨cs.toArray,rfl,by simpa using g1⟩⟩
     have hr:=run_loadCells_list (P:=P) w ⟨L.blk,L.base+p.off,none⟩ cs g3
     rw [hlen] at hr
     simp [Instr.loadAt,Instr.sureAddr,loadVar,isAgg_run hagg,sizeOf_run h2,hr]
    ·cases h
   ·rename_i hagg
    obtain ⟨L0,f1,f2,f3,f4,f5,f6,f7⟩:=hH.cells ho hL
    rw [hL] at f1;cases f1
    obtain ⟨cv,g1,g2⟩:=f6 _ v h
    refine ⟨cv,?_,TRel.of_c g2.one.1 g2⟩
    simp [Instr.loadAt,Instr.sureAddr,loadVar,isAgg_run hagg,g1]
   ·cases h
  ·cases h
 ·cases h
def putAt (vs:List Value)(k:Nat)(cs:List Value):List Value:=vs.take k ++ cs ++ vs.drop (k+cs.length)
def isTup:Value->Bool
 | .tuple _=>true
 | _=>false
theorem VRel.of_t' {μ:Mu}{v c:Value}(h1:isTup v=false)(h:TRel μ v c):VRel μ v c :=
 VRel.of_t (fun cs e=>by subst e;cases h1) h
def storeA (P:Program)(t:TypeId)(x y:Value)(H:AH):Option AH :=
 match x with
 | .pointer (some p) =>
  match H[p.block]? with
  | some (.cells vs e false) =>
   if isTup y=false/\y.cells.toList.length=P.cellsOf t/\0<P.cellsOf t/\p.off+y.cells.toList.length<=vs.length then
    some (H.set p.block (.cells (putAt vs p.off y.cells.toList) e false)) else none
  | _=>none
 | _=>none
theorem putAt_len (vs:List Value)(k:Nat)(cs:List Value)(h:k+cs.length<=vs.length):(putAt vs k cs).length=vs.length:=by
 simp [putAt];omega
theorem putAt_at (vs:List Value)(k:Nat)(cs:List Value)(h:k+cs.length<=vs.length)(i:Nat):(putAt vs k cs)[i]?=if i<k then vs[i]? else if i<k+cs.length then cs[i - k]? else vs[i]?:=by
 unfold putAt
 by_cases h1:i<k
 ·rw [if_pos h1,List.append_assoc,List.getElem?_append_left (by simp;omega),List.getElem?_take,if_pos h1]
 ·rw [if_neg h1,List.append_assoc,List.getElem?_append_right (by simp;omega)]
  have hk:(vs.take k).length=k:=by simp;omega
  rw [hk]
  by_cases h2:i<k+cs.length
  ·rw [if_pos h2,List.getElem?_append_left (by omega)]
  ·rw [if_neg h2,List.getElem?_append_right (by omega),List.getElem?_drop]
   congr 1;omega
theorem write_run {P:Program}{μ:Mu}{H:AH}{w:World}(hH:HRel P μ H w){o:Nat}{vs:List Value}{e:TypeId}(ho:H[o]?=some (.cells vs e false)){L:Loc}(hL:μ o=some L){k:Nat}{news cs:List Value}(h3:k+news.length<=vs.length)(hcs:All2 (CRel μ) news cs) :
  ∃ w',(storeCells ⟨L.blk,L.base+k,none⟩ cs).run P w=.ok () w'/\HRel P μ (H.set o (.cells (putAt vs k news) e false)) w'/\Evo μ H w μ (H.set o (.cells (putAt vs k news) e false)) w':=by
 have hl:=all2_len hcs
 obtain ⟨L0,f1,f2,f3,f4,f5,f6,f7⟩:=hH.cells ho hL
 rw [hL] at f1;cases f1
 obtain ⟨cur,k1,k2⟩:=f7 rfl
 have h1':∀ v ∈ cs,v.oneCell'=true:=by
  intro v hv
  obtain ⟨j,hj⟩:=List.getElem?_of_mem hv
  have hlt:j<news.length:=by rw [hl];exact (List.getElem?_eq_some_iff.1 hj).1
  obtain ⟨z,hz1,hz2⟩:=all2_at hcs j _ (List.getElem?_eq_getElem hlt)
  rw [hj] at hz1;cases hz1;exact hz2.one.2
 have hst:=run_storeCells_at (P:=P) L.blk (L.base+k) e cs 0 cur w k1 (by omega) h1'
 simp only [Nat.add_zero] at hst
 have hsz:(cur.toList.take (L.base+k) ++ cs ++ cur.toList.drop (L.base+k+cs.length)).toArray.size=cur.size:=by
  have a1:cur.toList.length=cur.size:=Array.length_toList
  simp only [List.size_toArray,List.length_append,List.length_take,List.length_drop]
  omega
 have hrw:=hH.rewrite ho hL k1 (cur.toList.take (L.base+k) ++ cs ++ cur.toList.drop (L.base+k+cs.length)).toArray hsz (putAt vs k news) (by rw [putAt_len _ _ _ h3];exact f5) (by
  intro i v hv
  have e:=putAt_at cur.toList (L.base+k) cs (by rw [show cur.toList.length=cur.size from Array.length_toList];omega) (L.base+i)
  unfold putAt at e
  rw [List.getElem?_toArray,e]
  rw [putAt_at _ _ _ h3] at hv
  by_cases g1:i<k
  ·rw [if_pos g1] at hv
   rw [if_pos (by omega)]
   obtain ⟨cv,a1,a2⟩:=f6 i v hv
   rw [cells_at k1] at a1
   exact ⟨cv,by simpa using a1,a2⟩
  ·rw [if_neg g1] at hv
   rw [if_neg (by omega)]
   by_cases g2:i<k+news.length
   ·rw [if_pos g2] at hv
    rw [if_pos (by omega)]
    obtain ⟨cv,a1,a2⟩:=all2_at hcs _ v hv
    exact ⟨cv,by rw [show L.base+i - (L.base+k)=i - k from by omega];exact a1,a2⟩
   ·rw [if_neg g2] at hv
    rw [if_neg (by omega)]
    obtain ⟨cv,a1,a2⟩:=f6 i v hv
    rw [cells_at k1] at a1
    exact ⟨cv,by simpa using a1,a2⟩)
 exact ⟨_,hst,hrw.1,hrw.2⟩
theorem storeA_run {P:Program}{μ:Mu}{H H':AH}{w:World}(hH:HRel P μ H w){t:TypeId}{x y cx cy:Value}(h:storeA P t x y H=some H')(hx:TRel μ x cx)(hy:TRel μ y cy) :
  ∃ w',(Instr.storeAt t cx cy).run P w=.ok () w'/\HRel P μ H' w'/\Evo μ H w μ H' w':=by
 unfold storeA at h
 split at h
 ·rename_i p
  split at h
  ·rename_i vs e ho
   split at h
   ·rename_i hc
    obtain ⟨ht,h1,h2,h3⟩:=hc
    cases h
    obtain ⟨e1,L,hL,e3⟩:=hx
    subst e3
    have hcs:=(VRel.of_t' ht hy).cells
    have hl:=all2_len hcs
    obtain ⟨L0,f1,f2,f3,f4,f5,f6,f7⟩:=hH.cells ho hL
    rw [hL] at f1;cases f1
    obtain ⟨cur,k1,k2⟩:=f7 rfl
    have h1':∀ v ∈ cy.cells.toList,v.oneCell'=true:=by
     intro v hv
     obtain ⟨j,hj⟩:=List.getElem?_of_mem hv
     have hlt:j<y.cells.toList.length:=by rw [hl];exact (List.getElem?_eq_some_iff.1 hj).1
     obtain ⟨z,hz1,hz2⟩:=all2_at hcs j _ (List.getElem?_eq_getElem hlt)
     rw [hj] at hz1;cases hz1;exact hz2.one.2
    have hst:=run_storeCells_at (P:=P) L.blk (L.base+p.off) e cy.cells.toList 0 cur w k1 (by omega) h1'
    simp only [Nat.add_zero] at hst
    have hsz:(cur.toList.take (L.base+p.off) ++ cy.cells.toList ++ cur.toList.drop (L.base+p.off+cy.cells.toList.length)).toArray.size=cur.size:=by
     have a1:cur.toList.length=cur.size:=Array.length_toList
     simp only [List.size_toArray,List.length_append,List.length_take,List.length_drop]
     omega
    have hrw:=hH.rewrite ho hL k1 (cur.toList.take (L.base+p.off) ++ cy.cells.toList ++ cur.toList.drop (L.base+p.off+cy.cells.toList.length)).toArray hsz (putAt vs p.off y.cells.toList) (by rw [putAt_len _ _ _ h3];exact f5) (by
     intro i v hv
     have e:=putAt_at cur.toList (L.base+p.off) cy.cells.toList (by rw [show cur.toList.length=cur.size from Array.length_toList];omega) (L.base+i)
     unfold putAt at e
     rw [List.getElem?_toArray,e]
     rw [putAt_at _ _ _ h3] at hv
     by_cases g1:i<p.off
     ·rw [if_pos g1] at hv;rw [if_pos (by omega)]
      obtain ⟨cv,a1,a2⟩:=f6 i v hv
      rw [cells_at k1] at a1
      exact ⟨cv,by simpa using a1,a2⟩
     ·rw [if_neg g1] at hv;rw [if_neg (by omega)]
      by_cases g2:i<p.off+y.cells.toList.length
      ·rw [if_pos g2] at hv;rw [if_pos (by omega)]
       obtain ⟨cv,a1,a2⟩:=all2_at hcs _ v hv
       exact ⟨cv,by rw [show L.base+i - (L.base+p.off)=i - p.off from by omega];exact a1,a2⟩
      ·rw [if_neg g2] at hv;rw [if_neg (by omega)]
       obtain ⟨cv,a1,a2⟩:=f6 i v hv
       rw [cells_at k1] at a1
       exact ⟨cv,by simpa using a1,a2⟩)
    refine ⟨_,?_,hrw⟩
    have hsize:cy.cells.size=P.cellsOf t:=by rw [<- Array.length_toList,<- hl];exact h1
    simp [Instr.storeAt,Instr.sureAddr,storeVar,sizeOf_run h2,hsize,hst]
   ·cases h
  ·cases h
 ·cases h
theorem newVar_ok {P:Program}{μ:Mu}{H:AH}{w:World}(hH:HRel P μ H w){t:TypeId}(hsz:0<P.cellsOf t){v cv:Value}(hv:VRel μ v cv) :
  ∃ μ' w',(newVar t cv).run P w=.ok ⟨w.heap.size,0,none⟩ w'/\μ' H.length=some ⟨w.heap.size,0,cv.cells.size,P.cellsOf t⟩/\HRel P μ' (H ++ [.cells v.cells.toList t false]) w'/\Evo μ H w μ' (H ++ [.cells v.cells.toList t false]) w':=by
 have hcs:=hv.cells
 have hl:=all2_len hcs
 have:=hH.alloc t v.cells.toList cv.cells cv.cells.size hsz (by rw [<- Array.length_toList,<- hl];exact Nat.le_refl _) (Nat.le_refl _) (by
  intro i x hx
  obtain ⟨y,h1,h2⟩:=all2_at hcs i x hx
  exact ⟨y,by simpa using h1,h2⟩)
 exact ⟨_,_,by simp [newVar,newRow],Mu.put_same _ _ _,this.1,this.2⟩
def boxA (P:Program)(t:TypeId)(v:Value)(H:AH):Option (Value × AH) :=
 if isTup v=false/\0<P.cellsOf t then some (.pointer (some ⟨H.length,0,none⟩),H ++ [.cells v.cells.toList t false]) else none
theorem boxA_run {P:Program}{μ:Mu}{H H':AH}{w:World}(hH:HRel P μ H w){t:TypeId}{v v' cv:Value}(h:boxA P t v H=some (v',H'))(hv:TRel μ v cv) :
  ∃ μ' c w',(Instr.box t cv).run P w=.ok c w'/\TRel μ' v' c/\HRel P μ' H' w'/\Evo μ H w μ' H' w':=by
 unfold boxA at h
 split at h
 ·rename_i hc
  cases h
  obtain ⟨μ',w',h1,h2,h3,h4⟩:=newVar_ok hH hc.2 (VRel.of_t' hc.1 hv)
  exact ⟨μ',.pointer (some ⟨w.heap.size,0,none⟩),w',by simp [Instr.box,h1],⟨rfl,_,h2,by simp⟩,h3,h4⟩
 ·cases h
def zeroA (P:Program)(t:TypeId):Option Value:=(P.info? t).bind (·.zero)
theorem zeroA_run {P:Program}{t:TypeId}{z:Value}(h:zeroA P t=some z)(w:World):(zeroValue t).run P w=.ok z w:=by
 unfold zeroA at h
 cases hi:P.info? t with
 | none=>rw [hi] at h;cases h
 | some i =>
  rw [hi] at h
  have hz:i.zero=some z:=h
  simp [zeroValue,typeInfo,hi,hz]
def allocA (P:Program)(t:TypeId)(H:AH):Option (Value × AH) :=
 match zeroA P t with
 | some z=>if plainV z=true then boxA P t z H else none
 | none=>none
theorem allocA_run {P:Program}{μ:Mu}{H H':AH}{w:World}(hH:HRel P μ H w){t:TypeId}{v':Value}(h:allocA P t H=some (v',H')) :
  ∃ μ' c w',(Instr.alloc t true (.tuple #[])).run P w=.ok c w'/\TRel μ' v' c/\HRel P μ' H' w'/\Evo μ H w μ' H' w':=by
 unfold allocA at h
 split at h
 ·rename_i z hz
  split at h
  ·rename_i hp
   obtain ⟨μ',c,w',h1,h2,h3,h4⟩:=boxA_run hH h (plainV_self μ hp)
   refine ⟨μ',c,w',?_,h2,h3,h4⟩
   simpa [Instr.alloc,zeroA_run hz,Instr.box] using h1
  ·cases h
 ·cases h
end Go.Proofs.YtlcipphiflcaiaaGreat.Ai
namespace Go.Proofs.YtlcipphiflcaiaaGreat.Ai
open Go Go.RowKit
def bitsA (op:BinOp)(k:IntKind)(x y:Int):Int :=
 match op with
 | .and=>k.wrap ((BitVec.ofInt k.bits x &&& BitVec.ofInt k.bits y).toNat)
 | .or=>k.wrap ((BitVec.ofInt k.bits x ||| BitVec.ofInt k.bits y).toNat)
 | .xor=>k.wrap ((BitVec.ofInt k.bits x ^^^ BitVec.ofInt k.bits y).toNat)
 | _=>k.wrap ((BitVec.ofInt k.bits x &&& ~~~ (BitVec.ofInt k.bits y)).toNat)
def intA (op:BinOp)(k:IntKind)(a b:Int):Option Value :=
 match op with
 | .add=>some (.int k (k.wrap (a+b)))
 | .sub=>some (.int k (k.wrap (a - b)))
 | .mul=>some (.int k (k.wrap (a * b)))
 | .quo=>if b=0 then none else some (.int k (k.wrap (a.tdiv b)))
 | .rem=>if b=0 then none else some (.int k (a.tmod b))
 | .and | .or | .xor | .andNot=>some (.int k (bitsA op k a b))
 | .eql=>some (.bool (a == b))
 | .neq=>some (.bool (a != b))
 | .lss=>some (.bool (a<b))
 | .leq=>some (.bool (a<=b))
 | .gtr=>some (.bool (a > b))
 | .geq=>some (.bool (a ≥ b))
 | _=>none
def shiftA (op:BinOp)(k:IntKind)(a b:Int):Option Value :=
 if b<0 then none else
 match op with
 | .shl=>some (.int k (k.wrap (a * 2 ^ (min b.toNat k.bits))))
 | _=>some (.int k (a.fdiv (2 ^ (min b.toNat k.bits))))
def eqA (P:Program)(t:TypeId)(x y:Value):Option Bool :=
 match x,y with
 | .bool a,.bool b=>match P.underlying t with | some .bool=>some (a == b) | _=>none
 | .slice a _ _,.slice none _ _=>match P.underlying t with | some (.slice _)=>some a.isNone | _=>none
 | .slice none _ _,.slice b _ _=>match P.underlying t with | some (.slice _)=>some b.isNone | _=>none
 | .agg xs,.agg ys =>
  match P.underlying t with
  | some (.array 2 e) =>
   match P.underlying e,xs.toList,ys.toList with
   | some (.int _),[.int j a,.int k b],[.int l c,.int m d] =>
    if j=l/\k=m/\P.cellsOf e=1/\P.eqGuardType P.depth t=false then some (a == c && b == d) else none
   | _,_,_=>none
  | _=>none
 | _,_=>none
def binA (P:Program)(op:BinOp)(t:TypeId)(x y:Value):Option Value :=
 match x,y with
 | .int k a,.int k' b =>
  if op=.shl∨op=.shr then shiftA op k a b else if k=k' then intA op k a b else none
 | _,_ =>
  match op with
  | .eql=>(eqA P t x y).map .bool
  | .neq=>(eqA P t x y).map fun b=>.bool (!b)
  | _=>none
theorem intA_run {P:Program}{op:BinOp}{k:IntKind}{a b:Int}{v:Value}(hop:¬ (op=.shl∨op=.shr))(h:intA op k a b=some v)(t:TypeId)(w:World) :
  (binOp op t (.int k a) (.int k b)).run P w=.ok v w/\∀ μ,TRel μ v v:=by
 cases op
 case shl=>exact absurd (.inl rfl) hop
 case shr=>exact absurd (.inr rfl) hop
 case quo =>
  simp only [intA] at h
  split at h
  ·cases h
  ·rename_i hb
   cases h
   exact ⟨by simp [binOp,Op.intDiv,hb],fun μ=>rfl⟩
 case rem =>
  simp only [intA] at h
  split at h
  ·cases h
  ·rename_i hb
   cases h
   exact ⟨by simp [binOp,Op.intDiv,hb],fun μ=>rfl⟩
 all_goals
  simp only [intA,Option.some.injEq] at h
  subst h
  exact ⟨by simp [binOp,Op.intArith,Op.intCmp,Op.intBits,bitsA],fun μ=>rfl⟩
theorem shiftA_run {P:Program}{op:BinOp}{k k':IntKind}{a b:Int}{v:Value}(hop:op=.shl∨op=.shr)(h:shiftA op k a b=some v)(t:TypeId)(w:World) :
  (binOp op t (.int k a) (.int k' b)).run P w=.ok v w/\∀ μ,TRel μ v v:=by
 unfold shiftA at h
 split at h
 ·cases h
 ·rename_i hb
  rcases hop with rfl | rfl
  ·simp only [Option.some.injEq] at h
   subst h
   exact ⟨by simp [binOp,Op.shift,hb],fun μ=>rfl⟩
  ·simp only [Option.some.injEq] at h
   subst h
   exact ⟨by simp [binOp,Op.shift,hb],fun μ=>rfl⟩
theorem eqGuard_none {P:Program}{op:BinOp}{t:TypeId}{x y:Operand}{a b:Value}(w:World)(h:(∀ xs ys,a=.agg xs->b=.agg ys->P.eqGuardType P.depth t=false)/\(a ≠ .nilIface)) :
    (eqGuard op t x y a b).run P w=.ok () w:=by
  unfold eqGuard
  cases op <;> first
    | rfl
    | (simp only [Bool.not_true,Bool.false_eq_true,if_false]
       split
       . exact absurd rfl h.2
       . simp [h.1 _ _ rfl rfl]
       . rfl)
theorem equalIn_bool (P:Program)(w:World)(d:Nat)(t:TypeId)(a b:Bool)(hu:P.underlying t=some .bool):(Op.equalIn (d+1) t (.bool a) (.bool b)).run P w=.ok (a == b) w:=by
 simp only [Op.equalIn,Sem.run_bind,run_underlying hu,Result.andThen_ok];rfl
theorem equalIn_slice_nil (P:Program)(w:World)(d:Nat)(t e:TypeId)(a:Option Addr)(n c n' c':Nat)(hu:P.underlying t=some (.slice e)) :
  (Op.equalIn (d+1) t (.slice a n c) (.slice none n' c')).run P w=.ok a.isNone w:=by
 cases a <;> (simp only [Op.equalIn,Sem.run_bind,run_underlying hu,Result.andThen_ok];rfl)
theorem equalIn_nil_slice (P:Program)(w:World)(d:Nat)(t e:TypeId)(a:Option Addr)(n c n' c':Nat)(hu:P.underlying t=some (.slice e)) :
  (Op.equalIn (d+1) t (.slice none n' c') (.slice a n c)).run P w=.ok a.isNone w:=by
 cases a <;> (simp only [Op.equalIn,Sem.run_bind,run_underlying hu,Result.andThen_ok];rfl)
theorem equalIn_int (P:Program)(w:World)(d:Nat)(t:TypeId)(k k':IntKind)(a b:Int)(hu:P.underlying t=some (.int k')):(Op.equalIn (d+1) t (.int k a) (.int k b)).run P w=.ok (a == b) w:=by
 simp only [Op.equalIn,Sem.run_bind,run_underlying hu,Result.andThen_ok,if_true];rfl
theorem part_one {P:Program}{e:TypeId}(hag:isAggA P e=some false)(w:World)(cs:Array Value)(i:Nat)(v:Value)(h:cs[i]?=some v):(part e cs i).run P w=.ok v w:=by
 simp only [part,Sem.run_bind,isAgg_run hag,Result.andThen_ok,Bool.false_eq_true,if_false,h];rfl
theorem equalIn_pair (P:Program)(w:World)(d:Nat)(t e:TypeId)(j k kk:IntKind)(a b c x:Int)(hu:P.underlying t=some (.array 2 e))(he:P.underlying e=some (.int kk))(hsz:P.cellsOf e=1) :
  (Op.equalIn (d+2) t (.agg #[.int j a,.int k b]) (.agg #[.int j c,.int k x])).run P w=.ok (a == c && b == x) w:=by
 have hag:isAggA P e=some false:=by unfold isAggA;rw [he]
 have hs:∀ w,(Go.sizeOf e).run P w=.ok 1 w:=fun w=>by have:=sizeOf_run (P:=P) (t:=e) (by omega) w;rwa [hsz] at this
 have q0:=fun (w:World) (u v:Value)=>part_one (P:=P) hag w #[u,v] 0 u rfl
 have q1:=fun (w:World) (u v:Value)=>part_one (P:=P) hag w #[u,v] 1 v rfl
 rw [Op.equalIn]
 simp only [Sem.run_bind,run_underlying hu,Result.andThen_ok,hs,Std.Legacy.Range.forIn_eq_forIn_range',Std.Legacy.Range.size,List.range']
 simp only [Nat.sub_zero,Nat.add_sub_cancel,Nat.reduceAdd,Nat.reduceSub,Nat.reduceDiv,Nat.div_one,List.range',List.forIn_cons,List.forIn_nil,Sem.run_bind,Nat.zero_mul,Nat.one_mul,q0,q1,Result.andThen_ok,equalIn_int P w d e _ kk _ _ he,Nat.zero_add]
 by_cases hac:a=c
 ·by_cases hbd:b=x
  ·simp [hac,hbd,q0,q1,equalIn_int P w d e _ kk _ _ he]
  ·simp [hac,hbd,q0,q1,equalIn_int P w d e _ kk _ _ he]
 ·simp [hac]
theorem eqA_run {P:Program}{μ:Mu}{t:TypeId}{x y cx cy:Value}{r:Bool}(h:eqA P t x y=some r)(hx:TRel μ x cx)(hy:TRel μ y cy)(w:World) :
  (Op.equal t cx cy).run P w=.ok r w/\(∀ xs ys,cx=.agg xs->cy=.agg ys->P.eqGuardType P.depth t=false)/\cx ≠ .nilIface/\(∀ k n,cx ≠ .int k n) /\
   (∀ op,op=.eql∨op=.neq->binOp op t cx cy=if op=.eql then (do pure (.bool (<- Op.equal t cx cy))) else (do pure (.bool (!(<- Op.equal t cx cy))))):=by
 unfold eqA at h
 split at h
 ·rename_i a b
  split at h
  ·rename_i hu
   cases h
   have e1:cx=.bool a:=hx
   have e2:cy=.bool b:=hy
   subst e1;subst e2
   refine ⟨equalIn_bool P w 9999 t a b hu,(fun xs ys e=>by cases e),(by simp),(fun _ _=>by simp),?_⟩
   intro op ho;rcases ho with rfl | rfl <;> simp [binOp]
  ·cases h
 ·rename_i a n c m d
  split at h
  ·rename_i e hu
   cases h
   obtain ⟨rfl,rfl,e2⟩:=hy
   subst e2
   have hc:∃ b n' c',cx=.slice b n' c'/\b.isNone=a.isNone:=by
    cases a with
    | none=>obtain ⟨_,_,e⟩:=hx;exact ⟨_,_,_,e,rfl⟩
    | some p=>obtain ⟨_,_,b,m',e,_⟩:=hx;exact ⟨_,_,_,e,rfl⟩
   obtain ⟨b,n',c',rfl,hb⟩:=hc
   refine ⟨?_,(fun xs ys e=>by cases e),(by simp),(fun _ _=>by simp),?_⟩
   ·rw [<- hb];exact equalIn_slice_nil P w 9999 t e b n' c' 0 0 hu
   ·intro op ho;rcases ho with rfl | rfl <;> simp [binOp]
  ·cases h
 ·rename_i n c d m2 c2 hne
  split at h
  ·rename_i e hu
   cases h
   obtain ⟨rfl,rfl,e2⟩:=hx
   subst e2
   have hc:∃ b' n' c',cy=.slice b' n' c'/\b'.isNone=d.isNone:=by
    cases d with
    | none=>obtain ⟨_,_,e⟩:=hy;exact ⟨_,_,_,e,rfl⟩
    | some p=>obtain ⟨_,_,b,m',e,_⟩:=hy;exact ⟨_,_,_,e,rfl⟩
   obtain ⟨b',n',c',rfl,hb⟩:=hc
   refine ⟨?_,(fun xs ys e=>by cases e),(by simp),(fun _ _=>by simp),?_⟩
   ·rw [<- hb];exact equalIn_nil_slice P w 9999 t e b' n' c' 0 0 hu
   ·intro op ho;rcases ho with rfl | rfl <;> simp [binOp]
  ·cases h
 ·rename_i xs ys
  split at h
  ·rename_i e hu
   split at h
   ·rename_i kk j a k b l c m d he hxs hys
    split at h
    ·rename_i hc
     obtain ⟨rfl,rfl,hsz,hg⟩:=hc
     cases h
     obtain ⟨ds,rfl,h1⟩:=hx
     obtain ⟨es,rfl,h2⟩:=hy
     rw [hxs] at h1;rw [hys] at h2
     have e1:ds=#[.int j a,.int k b]:=by
      rcases ds with ⟨l⟩
      match l,h1 with
      | [u,v],h1=>obtain ⟨h1,h3,_⟩:=h1;have:u=.int j a:=h1;have:v=.int k b:=h3;subst_vars;rfl
     have e2:es=#[.int j c,.int k d]:=by
      rcases es with ⟨l⟩
      match l,h2 with
      | [u,v],h2=>obtain ⟨h1,h3,_⟩:=h2;have:u=.int j c:=h1;have:v=.int k d:=h3;subst_vars;rfl
     subst e1;subst e2
     refine ⟨equalIn_pair P w 9998 t e j k kk a b c d hu he hsz,(fun xs ys _ _=>hg),(by simp),(fun _ _=>by simp),?_⟩
     ·intro op ho;rcases ho with rfl | rfl <;> simp [binOp]
    ·cases h
   ·cases h
  ·cases h
 ·cases h
theorem binA_run {P:Program}{μ:Mu}{op:BinOp}{t:TypeId}{x y cx cy v:Value}(h:binA P op t x y=some v)(hx:TRel μ x cx)(hy:TRel μ y cy)(ox oy:Operand)(w:World) :
  ((do eqGuard op t ox oy cx cy;binOp op t cx cy:Sem Value)).run P w=.ok v w/\TRel μ v v:=by
 unfold binA at h
 split at h
 ·rename_i k a k' b
  have e1:cx=.int k a:=hx
  have e2:cy=.int k' b:=hy
  subst e1;subst e2
  have hg:=eqGuard_none (P:=P) (op:=op) (t:=t) (x:=ox) (y:=oy) (a:=.int k a) (b:=.int k' b) w ⟨(fun _ _ e=>by cases e),(by simp)⟩
  split at h
  ·rename_i hop
   obtain ⟨r1,r2⟩:=shiftA_run (P:=P) hop h t (k':=k') w
   exact ⟨by simp only [Sem.run_bind,hg,Result.andThen_ok,r1],r2 μ⟩
  ·rename_i hop
   split at h
   ·rename_i hk
    subst hk
    obtain ⟨r1,r2⟩:=intA_run (P:=P) hop h t w
    exact ⟨by simp only [Sem.run_bind,hg,Result.andThen_ok,r1],r2 μ⟩
   ·cases h
 ·split at h
  ·cases hq:eqA P t x y with
   | none=>rw [hq] at h;cases h
   | some r =>
    rw [hq] at h;cases h
    obtain ⟨r1,r2,r3,r4,r5⟩:=eqA_run hq hx hy w
    have hg:=eqGuard_none (P:=P) (op:=.eql) (t:=t) (x:=ox) (y:=oy) w ⟨r2,r3⟩
    refine ⟨?_,rfl⟩
    rw [r5 _ (.inl rfl)]
    simp only [Sem.run_bind,hg,Result.andThen_ok,if_true,r1,Sem.run_pure]
  ·cases hq:eqA P t x y with
   | none=>rw [hq] at h;cases h
   | some r =>
    rw [hq] at h;cases h
    obtain ⟨r1,r2,r3,r4,r5⟩:=eqA_run hq hx hy w
    have hg:=eqGuard_none (P:=P) (op:=.neq) (t:=t) (x:=ox) (y:=oy) w ⟨r2,r3⟩
    refine ⟨?_,rfl⟩
    rw [r5 _ (.inr rfl)]
    simp only [Sem.run_bind,hg,Result.andThen_ok,r1,Sem.run_pure,reduceCtorEq,if_false]
  ·cases h
def unA (op:UnOp)(x:Value):Option Value :=
 match op,x with
 | .neg,.int k n=>some (.int k (k.wrap (0 - n)))
 | .xor,.int k n=>some (.int k (bitsA .xor k (if k.signed then -1 else k.max) n))
 | .not,.bool b=>some (.bool !b)
 | _,_=>none
theorem unA_run {P:Program}{μ:Mu}{op:UnOp}{x cx v:Value}(h:unA op x=some v)(hx:TRel μ x cx)(w:World):(Op.unary op cx).run P w=.ok v w/\TRel μ v v:=by
 unfold unA at h
 split at h
 ·rename_i k n;cases h;have e:cx=.int k n:=hx;subst e;exact ⟨by simp [Op.unary,Op.intArith],rfl⟩
 ·rename_i k n;cases h;have e:cx=.int k n:=hx;subst e;exact ⟨by simp [Op.unary,Op.intBits,bitsA],rfl⟩
 ·rename_i b;cases h;have e:cx=.bool b:=hx;subst e;exact ⟨by simp [Op.unary],rfl⟩
 ·cases h
def convA (P:Program)(s d:TypeId)(x:Value):Option Value :=
 match x with
 | .int _ n =>
  match P.underlying s,P.underlying d with
  | some _,some (.int k)=>some (.int k (k.wrap n))
  | _,_=>none
 | .slice a n c =>
  match P.underlying s,P.underlying d with
  | _,_=>none
 | _=>none
theorem convA_run {P:Program}{μ:Mu}{s d:TypeId}{x cx v:Value}(h:convA P s d x=some v)(hx:TRel μ x cx)(w:World):(convert s d cx).run P w=.ok v w/\TRel μ v v:=by
 unfold convA at h
 split at h
 ·rename_i j n
  split at h
  ·rename_i ds k h1 h2
   cases h
   have e:cx=.int j n:=hx
   subst e
   exact ⟨by simp [convert,run_underlying h1,run_underlying h2,Conv.intToInt],rfl⟩
  ·cases h
 ·cases h
 ·cases h
def boundA (i:Option Value)(d:Nat):Option Nat :=
 match i with
 | none=>some d
 | some (.int _ n)=>if 0<=n then some n.toNat else none
 | _=>none
def sliceA (P:Program)(t:TypeId)(x:Value)(lo hi mx:Option Value)(H:AH):Option Value :=
 match mx,x,P.underlying t with
 | none,.slice (some p) n _,some (.slice e) =>
  match boundA lo 0,boundA hi n,H[p.block]? with
  | some l,some h,some (.cells _ e' _) =>
   if l<=h/\h<=n/\e'=e/\0<P.cellsOf e then some (.slice (some ⟨p.block,p.off+l * P.cellsOf e,none⟩) (h - l) (h - l)) else none
  | _,_,_=>none
 | none,.slice none _ _,some (.slice e) =>
  match boundA lo 0,boundA hi 0 with
  | some 0,some 0=>if 0<P.cellsOf e then some (.slice none 0 0) else none
  | _,_=>none
 | _,_,_=>none
def BRel (i ci:Option Value):Prop:=(i=none/\ci=none)∨∃ k n,i=some (.int k n)/\ci=some (.int k n)
theorem boundA_low {P:Program}{i ci:Option Value}{l h:Nat}(hi:boundA i 0=some l)(hc:BRel i ci)(hl:l<=h)(w:World) :
  ((match ci with | some v=>Instr.sliceBound v h .sliceB | none=>pure 0):Sem Nat).run P w=.ok l w:=by
 rcases hc with ⟨rfl,rfl⟩ | ⟨k,n,rfl,rfl⟩
 ·simp only [boundA,Option.some.injEq] at hi;subst hi;rfl
 ·simp only [boundA] at hi
  split at hi
  ·rename_i h0
   cases hi
   simp only [Instr.sliceBound,asIntOf,Sem.run_bind,Sem.run_pure,Result.andThen_ok]
   rw [if_pos ⟨h0,by omega⟩];rfl
  ·cases hi
theorem boundA_high {P:Program}{i ci:Option Value}{h n cap:Nat}(hi:boundA i n=some h)(hc:BRel i ci)(hl:h<=cap)(w:World)(code:BoundsCode) :
  ((match ci with | some v=>Instr.sliceBound v cap code | none=>pure n):Sem Nat).run P w=.ok h w:=by
 rcases hc with ⟨rfl,rfl⟩ | ⟨k,m,rfl,rfl⟩
 ·simp only [boundA,Option.some.injEq] at hi;subst hi;rfl
 ·simp only [boundA] at hi
  split at hi
  ·rename_i h0
   cases hi
   simp only [Instr.sliceBound,asIntOf,Sem.run_bind,Sem.run_pure,Result.andThen_ok]
   rw [if_pos ⟨h0,by omega⟩];rfl
  ·cases hi
theorem sliceBounds_run {P:Program}{lo hi clo chi:Option Value}{l h n cap:Nat}(h1:boundA lo 0=some l)(h2:boundA hi n=some h)(c1:BRel lo clo)(c2:BRel hi chi)(hl:l<=h)(hh:h<=cap)(w:World) :
  (Instr.sliceBounds true n cap clo chi none).run P w=.ok (l,h,cap) w:=by
 have r1:=boundA_high (P:=P) (code:=.sliceAcap) h2 c2 hh w
 have r2:=boundA_low (P:=P) h1 c1 hl w
 rcases c2 with ⟨_,rfl⟩ | ⟨k,m,_,rfl⟩ <;> rcases c1 with ⟨_,rfl⟩ | ⟨k',m',_,rfl⟩ <;>
  ·simp only [Sem.run_pure,Result.ok.injEq,and_true] at r1 r2
   simp only [Instr.sliceBounds,Sem.run_bind,Sem.run_pure,Result.andThen_ok,if_true,Option.isSome_none,Bool.false_eq_true,if_false,r1,r2]
theorem sliceA_run {P:Program}{μ:Mu}{H:AH}{w:World}(hH:HRel P μ H w){t:TypeId}{x cx v:Value}{lo hi mx clo chi cmx:Option Value}(h:sliceA P t x lo hi mx H=some v)
  (hx:TRel μ x cx)(c1:BRel lo clo)(c2:BRel hi chi)(c3:mx=none->cmx=none) :
  ∃ cv,(Instr.sliceAt t cx clo chi cmx).run P w=.ok cv w/\TRel μ v cv:=by
 unfold sliceA at h
 split at h
 ·rename_i p n c e hu
  obtain rfl:=c3 rfl
  split at h
  ·rename_i l hh vs e' ro hb1 hb2 ho
   split at h
   ·rename_i hc
    obtain ⟨g1,g2,rfl,hsz⟩:=hc
    cases h
    obtain ⟨e1,rfl,a,m,e3,hm,e4⟩:=hx
    subst e3
    have r:=sliceBounds_run (P:=P) hb1 hb2 c1 c2 g1 (show hh<=m by omega) w
    refine ⟨.slice (if m=l then some a else some (a.add (l * P.cellsOf e'))) (hh - l) (m - l),?_,?_⟩
    ·simp only [Instr.sliceAt,Instr.slice,Sem.run_bind,run_underlying hu,Result.andThen_ok,r,sizeOf_run hsz,Option.map_some,Sem.run_pure]
    ·by_cases hml:m=l
     ·rw [if_pos hml]
      exact ⟨rfl,rfl,a,m - l,rfl,by omega,.inl (by omega)⟩
     ·rw [if_neg hml]
      rcases e4 with e4 | ⟨L,hL,e4,e5⟩
      ·omega
      ·subst e4
       obtain ⟨L0,f1,f2,f3,f4,_⟩:=hH.cells ho hL
       rw [hL] at f1;cases f1
       refine ⟨rfl,rfl,_,m - l,by rw [Addr.add_lit'],by omega,.inr ⟨L,hL,by simp [Nat.add_assoc],?_⟩⟩
       show p.off+l * P.cellsOf e'+(m - l) * L.sz<=L.ext
       rw [<- f4,Nat.add_assoc,<- Nat.add_mul,show l+(m - l)=m from by omega]
       exact e5
   ·cases h
  ·cases h
 ·rename_i n c e hu
  obtain rfl:=c3 rfl
  split at h
  ·rename_i hb1 hb2
   split at h
   ·rename_i hsz
    cases h
    obtain ⟨rfl,rfl,e2⟩:=hx
    subst e2
    have r:=sliceBounds_run (P:=P) hb1 hb2 c1 c2 (Nat.le_refl _) (Nat.le_refl 0) w
    refine ⟨.slice none 0 0,?_,⟨rfl,rfl,rfl⟩⟩
    simp only [Instr.sliceAt,Instr.slice,Sem.run_bind,run_underlying hu,Result.andThen_ok,r,sizeOf_run hsz,Sem.run_pure,if_true,Nat.sub_zero]
   ·cases h
  ·cases h
 ·cases h
def slice3A (P:Program)(t:TypeId)(x:Value)(lo hi:Option Value)(m:Value)(H:AH):Option (Value × AH) :=
 match x,hi,P.underlying t with
 | .slice (some p) n _,some hi,some (.slice e) =>
  match boundA lo 0,boundA (some hi) 0,boundA (some m) 0 with
  | some l,some h,some k=>if l=h/\h=k/\k<=n/\0<P.cellsOf e/\p.spot=none then some (.slice (some ⟨H.length,0,none⟩) 0 0,H ++ [.cells [] e false]) else none
  | _,_,_=>none
 | .slice none _ _,some hi,some (.slice e) =>
  match boundA lo 0,boundA (some hi) 0,boundA (some m) 0 with
  | some 0,some 0,some 0=>if 0<P.cellsOf e then some (.slice none 0 0,H) else none
  | _,_,_=>none
 | _,_,_=>none
theorem bound3_run {P:Program}{v:Value}{k cap:Nat}(h:boundA (some v) 0=some k)(hl:k<=cap)(w:World)(code:BoundsCode):(Instr.sliceBound v cap code).run P w=.ok k w:=by
 unfold boundA at h
 split at h
 ·rename_i e;cases e
 ·rename_i kk m e
  cases e
  split at h
  ·rename_i h0
   cases h
   simp only [Instr.sliceBound,asIntOf,Sem.run_bind,Sem.run_pure,Result.andThen_ok]
   rw [if_pos ⟨h0,by omega⟩];rfl
  ·cases h
 ·cases h
theorem slice3A_run {P:Program}{μ:Mu}{H H':AH}{w:World}(hH:HRel P μ H w){t:TypeId}{x cx v m:Value}{lo hi clo chi:Option Value}(h:slice3A P t x lo hi m H=some (v,H'))
  (hx:TRel μ x cx)(c1:BRel lo clo)(c2:BRel hi chi){cm:Value}(c3:BRel (some m) (some cm)) :
  ∃ cv,(Instr.sliceAt t cx clo chi (some cm)).run P w=.ok cv w/\TRel μ v cv/\HRel P μ H' w/\Evo μ H w μ H' w:=by
 have key:∀ {a b:Option Value} {va:Value},a=some va->BRel a b->b=some va:=by
  intro a b va e hb
  rcases hb with ⟨e1,_⟩ | ⟨k,n,e1,e2⟩
  ·rw [e1] at e;cases e
  ·rw [e1] at e;cases e;exact e2
 have em:=key rfl c3
 cases em
 unfold slice3A at h
 split at h
 ·rename_i p n c hi e hu
  have eh:=key rfl c2
  subst eh
  split at h
  ·rename_i l hh k hb1 hb2 hb3
   split at h
   ·rename_i hc
    obtain ⟨rfl,rfl,g2,hsz,hsp⟩:=hc
    cases h
    obtain ⟨e1,rfl,a,cap,e3,hm,e4⟩:=hx
    subst e3
    have r1:=bound3_run (P:=P) hb3 (show l<=cap by omega) w .slice3Acap
    have r2:=bound3_run (P:=P) hb2 (Nat.le_refl l) w .slice3B
    have r3:((match clo with | some v=>Instr.sliceBound v l .slice3C | none=>pure 0):Sem Nat).run P w=.ok l w:=by
     rcases c1 with ⟨rfl,rfl⟩ | ⟨k,n,rfl,rfl⟩
     ·simp only [boundA,Option.some.injEq] at hb1;subst hb1;rfl
     ·exact bound3_run (P:=P) hb1 (Nat.le_refl l) w .slice3C
    refine ⟨.slice (some a) 0 0,?_,⟨rfl,rfl,a,0,rfl,Nat.le_refl _,.inl rfl⟩,hH.phantom _,(Evo.refl _ _ _).phantom hH _⟩
    simp only [Instr.sliceAt,Instr.slice,Sem.run_bind,run_underlying hu,Result.andThen_ok,Instr.sliceBounds,r1,r2,if_true,Option.isSome_some]
    cases clo with
    | none =>
     simp only [Sem.run_pure,Result.ok.injEq,and_true] at r3
     subst r3
     simp only [Sem.run_bind,Sem.run_pure,Result.andThen_ok,sizeOf_run hsz,if_true,Nat.sub_self]
    | some v => 
     simp only [Sem.run_bind,r3,Sem.run_pure,Result.andThen_ok,sizeOf_run hsz,if_true,Nat.sub_self]
   ·cases h
  ·cases h
 ·rename_i n c hi e hu
  have eh:=key rfl c2
  subst eh
  split at h
  ·rename_i hb1 hb2 hb3
   split at h
   ·rename_i hsz
    cases h
    obtain ⟨rfl,rfl,e2⟩:=hx
    subst e2
    have r1:=bound3_run (P:=P) hb3 (Nat.le_refl 0) w .slice3Acap
    have r2:=bound3_run (P:=P) hb2 (Nat.le_refl 0) w .slice3B
    have r3:((match clo with | some v=>Instr.sliceBound v 0 .slice3C | none=>pure 0):Sem Nat).run P w=.ok 0 w:=by
     rcases c1 with ⟨rfl,rfl⟩ | ⟨k,n,rfl,rfl⟩
     ·rfl
     ·exact bound3_run (P:=P) hb1 (Nat.le_refl 0) w .slice3C
    refine ⟨.slice none 0 0,?_,⟨rfl,rfl,rfl⟩,hH,Evo.refl _ _ _⟩
    simp only [Instr.sliceAt,Instr.slice,Sem.run_bind,run_underlying hu,Result.andThen_ok,Instr.sliceBounds,r1,r2,if_true,Option.isSome_some]
    cases clo with
    | none=>simp only [Sem.run_bind,Sem.run_pure,Result.andThen_ok,sizeOf_run hsz,if_true,Nat.sub_self]
    | some v=>simp only [Sem.run_bind,r3,Sem.run_pure,Result.andThen_ok,sizeOf_run hsz,if_true,Nat.sub_self]
   ·cases h
  ·cases h
 ·cases h
end Go.Proofs.YtlcipphiflcaiaaGreat.Ai
namespace Go.Proofs.YtlcipphiflcaiaaGreat.Ai
open Go Go.RowKit
def sliceCells (P:Program)(e:TypeId)(x:Value)(H:AH):Option (Nat × List Value) :=
 match x with
 | .slice none _ _=>some (0,[])
 | .slice (some q) m _ =>
  match H[q.block]? with
  | some (.cells us e' _)=>if q.off+m * P.cellsOf e<=us.length/\e'=e then some (m,(us.drop q.off).take (m * P.cellsOf e)) else none
  | _=>none
 | _=>none
def zeroOk (P:Program)(e:TypeId):Bool :=
 match zeroA P e with
 | some z=>z.cells.size == P.cellsOf e
 | none=>false
theorem zeroOk_some {P:Program}{e:TypeId}(h:zeroOk P e=true):∃ z,zeroA P e=some z/\z.cells.size=P.cellsOf e:=by
 unfold zeroOk at h
 split at h
 ·rename_i z hz;exact ⟨z,hz,by simpa using h⟩
 ·cases h
def isSl:Value->Bool
 | .slice _ _ _=>true
 | _=>false
def appendA (P:Program)(t tx:TypeId)(s x:Value)(H:AH):Option (Value × AH) :=
 match P.underlying t with
 | some (.slice e) =>
  if t=tx/\0<P.cellsOf e then
   match sliceCells P e x H with
   | some (m,news) =>
    if m=0 then (if isSl s=true then some (s,H) else none) else
    match s with
    | .slice none _ _ =>
     if m * P.bytesOf e<=140737488355328/\m<=4611686018427387904/\zeroOk P e=true then some (.slice (some ⟨H.length,0,none⟩) m m,H ++ [.cells news e false]) else none
    | .slice (some p) n _ =>
     match H[p.block]? with
     | some (.cells vs e' false) =>
      if e'=e/\p.off+n * P.cellsOf e<=vs.length/\(n+m) * P.bytesOf e<=140737488355328/\n+m<=4611686018427387904/\zeroOk P e=true then
       some (.slice (some ⟨H.length,0,none⟩) (n+m) (n+m),H.set p.block .dead ++ [.cells ((vs.drop p.off).take (n * P.cellsOf e) ++ news) e false]) else none
     | _=>none
    | _=>none
   | none=>none
  else none
 | _=>none
theorem all2_append {α β:Type}{R:α->β->Prop}:∀ {xs:List α} {ys:List β} {xs':List α} {ys':List β},All2 R xs ys->All2 R xs' ys'->All2 R (xs ++ xs') (ys ++ ys')
 | [],[],_,_,_,h=>h
 | _ :: _,_ :: _,_,_,h,h'=>⟨h.1,all2_append h.2 h'⟩
theorem sliceCells_run {P:Program}{μ:Mu}{H:AH}{w:World}(hH:HRel P μ H w){e:TypeId}{x cx:Value}{m:Nat}{news:List Value}(h:sliceCells P e x H=some (m,news))(hx:TRel μ x cx) :
  (m=0/\news=[]/\cx=.slice none 0 0)∨∃ a c cs,cx=.slice (some a) m c/\All2 (CRel μ) news cs/\news.length=m * P.cellsOf e/\(m=0∨∀ (j:Nat) (v:Value),cs[j]?=some v->w.cell? (a.add j)=some v):=by
 unfold sliceCells at h
 split at h
 ·cases h
  obtain ⟨rfl,rfl,e2⟩:=hx
  exact .inl ⟨rfl,rfl,e2⟩
 ·rename_i q m' m
  split at h
  ·rename_i us e' ro ho
   split at h
   ·rename_i hc
    obtain ⟨g1,rfl⟩:=hc
    cases h
    obtain ⟨e1,rfl,a,c,e3,hm,e4⟩:=hx
    rcases e4 with e4 | ⟨L,hL,e4,_⟩
    ·have hm0:m=0:=by omega
     subst hm0
     exact .inr ⟨a,c,[],e3,by simp;trivial,by simp,.inl rfl⟩
    ·obtain ⟨cs,k1,k2,k3⟩:=hH.range ho hL q.off (m * P.cellsOf e')
     refine .inr ⟨a,c,cs,e3,k1,by simp;omega,?_⟩
     subst e4;exact .inr k3
   ·cases h
  ·cases h
 ·cases h
theorem one_of_all2 {μ:Mu}{xs ys:List Value}(h:All2 (CRel μ) xs ys):∀ v ∈ ys,v.oneCell'=true:=by
 intro v hv
 obtain ⟨j,hj⟩:=List.getElem?_of_mem hv
 have hlt:j<xs.length:=by rw [all2_len h];exact (List.getElem?_eq_some_iff.1 hj).1
 obtain ⟨z,hz1,hz2⟩:=all2_at h j _ (List.getElem?_eq_getElem hlt)
 rw [hj] at hz1;cases hz1;exact hz2.one.2
theorem run_append_room' {P:Program}(w:World)(t ty e:TypeId)(i:TypeInfo)(ht:P.underlying t=some (.slice e))(hi:P.info? e=some i)
  (g o sLen sCap:Nat)(cur:Array Value)(hg:w.heap[g]?=some (.cells cur e (0,0)))
  (a:Addr)(m c:Nat)(news:List Value)(hl:news.length=m * i.size)(hnews:∀ (j:Nat) (u:Value),news[j]?=some u->w.cell? (a.add j)=some u)(h1:∀ u ∈ news,u.oneCell'=true)
  (hroom:sLen+m<=sCap)(hfit:o+sLen * i.size+news.length<=cur.size) :
  (Builtin.append_ #[t,t] ty #[.slice (some ⟨g,o,none⟩) sLen sCap,.slice (some a) m c]).run P w =
   .ok (.slice (some ⟨g,o,none⟩) (sLen+m) sCap) (w.setRow g (cur.toList.take (o+sLen * i.size) ++ news ++ cur.toList.drop (o+sLen * i.size+news.length)).toArray):=by
 have hf:=run_firstCells_some (P:=P) w i.size m a m c news hl hnews
 have hf':(Builtin.firstCells i.size m (.slice (some a) m c)).run P w=.ok news.toArray w:=hf
 have hst:=run_storeCells_at (P:=P) g (o+sLen * i.size) e news 0 cur w hg (by simpa using hfit) h1
 simp only [Nat.add_zero] at hst
 simp [Builtin.append_,run_underlying ht,Go.sizeOf,typeInfo,hi,Builtin.lenOf,hroom,hf',Addr.add_lit',hst]
theorem append_none {P:Program}(w:World)(t ty e:TypeId)(i:TypeInfo)(ht:P.underlying t=some (.slice e))(hi:P.info? e=some i)(b:Option Addr)(n c:Nat)(hn:n<=c)(a:Option Addr)(c':Nat) :
  (Builtin.append_ #[t,t] ty #[.slice b n c,.slice a 0 c']).run P w=.ok (.slice b n c) w:=by
 cases a <;> cases b <;> simp [Builtin.append_,run_underlying ht,Go.sizeOf,typeInfo,hi,Builtin.lenOf,hn,Builtin.firstCells,loadCells,loadCellsFrom,storeCells]
theorem appendA_run {P:Program}{μ:Mu}{H H':AH}{w:World}(hH:HRel P μ H w){t tx:TypeId}{s x cs cx v:Value}(h:appendA P t tx s x H=some (v,H'))(hs:TRel μ s cs)(hx:TRel μ x cx)(ty:TypeId) :
  ∃ μ' cv w',(Builtin.append_ #[t,tx] ty #[cs,cx]).run P w=.ok cv w'/\TRel μ' v cv/\HRel P μ' H' w'/\Evo μ H w μ' H' w':=by
 unfold appendA at h
 split at h
 ·rename_i e hu
  split at h
  ·rename_i hc
   obtain ⟨rfl,hsz⟩:=hc
   obtain ⟨i,hi,hi1,hi2⟩:=sizeOf_info hsz
   split at h
   ·rename_i m news hsc
    have hsr:=sliceCells_run hH hsc hx
    split at h
    ·rename_i hm
     split at h
     case isFalse=>cases h
     rename_i hsl
     cases h
     subst hm
     have hcx:∃ a c',cx=.slice a 0 c':=by
      rcases hsr with ⟨_,_,e2⟩ | ⟨a,c,_,e2,_⟩
      ·exact ⟨_,_,e2⟩
      ·exact ⟨_,_,e2⟩
     obtain ⟨a,c',rfl⟩:=hcx
     have hcs:(∃ b n c,cs=.slice b n c/\n<=c):=by
      cases s with
      | slice p n c =>
       cases p with
       | none=>obtain ⟨rfl,rfl,e2⟩:=hs;exact ⟨none,0,0,e2,Nat.le_refl _⟩
       | some p=>obtain ⟨_,rfl,b,cap,e3,hnc,_⟩:=hs;exact ⟨_,_,_,e3,hnc⟩
      | _=>cases hsl
     obtain ⟨b,n,c,rfl,hn⟩:=hcs
     exact ⟨μ,_,w,append_none w t ty e i hu hi b n c hn a c',hs,hH,Evo.refl _ _ _⟩
    ·rename_i hm
     rcases hsr with ⟨e0,_⟩ | ⟨a,c,ns,rfl,hall,hlen,hat⟩
     ·exact absurd e0 hm
     have hat':∀ (j:Nat) (v:Value),ns[j]?=some v->w.cell? (a.add j)=some v:=by
      rcases hat with e0 | hat
      ·exact absurd e0 hm
      ·exact hat
     have hlen':=all2_len hall
     split at h
     ·split at h
      ·rename_i hb
       obtain ⟨hb1,hb2,hz⟩:=hb
       cases h
       obtain ⟨rfl,rfl,e2⟩:=hs
       subst e2
       obtain ⟨z,hz,hzs⟩:=zeroOk_some hz
       have hz':i.zero=some z:=by unfold zeroA at hz;rw [hi] at hz;exact hz
       have hr:=run_append_nil (P:=P) w t ty e i z hu hi hz' a m c ns (by rw [<- hlen',hlen,hi1]) hat' (by omega) (by omega) (by rw [hi2];omega)
       have hcap:=grownCap_ge w m 0 e
       have hal:=(hH.drew).alloc e news (ns.toArray ++ Builtin.zeroCells z.cells (grownCap w m 0 e - m)) (ns.toArray ++ Builtin.zeroCells z.cells (grownCap w m 0 e - m)).size hsz
        (by simp only [Array.size_append,List.size_toArray];omega) (Nat.le_refl _) (by
         intro j u hj
         obtain ⟨y,y1,y2⟩:=all2_at hall j u hj
         refine ⟨y,?_,y2⟩
         rw [Array.getElem?_append_left (by rw [List.size_toArray];exact (List.getElem?_eq_some_iff.1 y1).1)]
         simpa using y1)
       refine ⟨_,_,_,hr,⟨rfl,rfl,_,_,rfl,hcap,.inr ⟨_,Mu.put_same _ _ _,rfl,?_⟩⟩,hal.1,(Evo.drew μ H w).trans hal.2⟩
       simp only [Array.size_append,List.size_toArray,size_zeroCells,hzs,<- hlen',hlen,<- Nat.add_mul]
       rw [show m+(grownCap w m 0 e - m)=grownCap w m 0 e from by omega]
       simp
      ·cases h
     ·rename_i p n' n
      split at h
      ·rename_i vs e' ho
       split at h
       ·rename_i hb
        obtain ⟨rfl,hb0,hb1,hb2,hz⟩:=hb
        cases h
        obtain ⟨z,hz,hzs⟩:=zeroOk_some hz
        have hz':i.zero=some z:=by unfold zeroA at hz;rw [hi] at hz;exact hz
        obtain ⟨e1,rfl,b,cap,e3,hnc,e4⟩:=hs
        subst e3
        have hlive:p.block<H.length:=(List.getElem?_eq_some_iff.1 ho).1
        have hmul:(n+m) * P.cellsOf e'=n * P.cellsOf e'+m * P.cellsOf e':=Nat.add_mul _ _ _
        by_cases hroom:n+m<=cap
        ·rcases e4 with e4 | ⟨L,hL,e4,e5⟩
         ·omega
         subst e4
         obtain ⟨L0,f1,f2,f3,f4,f5,f6,f7⟩:=hH.cells ho hL
         rw [hL] at f1;cases f1
         obtain ⟨cur,k1,k2⟩:=f7 rfl
         have hcm:(n+m) * P.cellsOf e'<=cap * P.cellsOf e':=Nat.mul_le_mul_right _ hroom
         rw [f4] at e5
         have hr:=run_append_room' (P:=P) w t ty e' i hu hi L.blk (L.base+p.off) n cap cur k1 a m c ns (by rw [<- hlen',hlen,hi1]) hat' (one_of_all2 hall) hroom (by rw [hi1,<- hlen',hlen];omega)
         rw [hi1] at hr
         have hlt:(vs.take (p.off+n * P.cellsOf e')).length=p.off+n * P.cellsOf e':=by simp;omega
         have hrw:=hH.rewrite ho hL k1 (cur.toList.take (L.base+p.off+n * P.cellsOf e') ++ ns ++ cur.toList.drop (L.base+p.off+n * P.cellsOf e'+ns.length)).toArray
          (by
           have a1:cur.toList.length=cur.size:=Array.length_toList
           simp only [List.size_toArray,List.length_append,List.length_take,List.length_drop]
           omega) (vs.take (p.off+n * P.cellsOf e') ++ news) (by rw [List.length_append,hlt];omega) (by
           intro j u hj
           have eq:=putAt_at cur.toList (L.base+p.off+n * P.cellsOf e') ns (by rw [show cur.toList.length=cur.size from Array.length_toList];omega) (L.base+j)
           unfold putAt at eq
           rw [List.getElem?_toArray,eq]
           by_cases g1:j<p.off+n * P.cellsOf e'
           ·rw [List.getElem?_append_left (by omega),List.getElem?_take,if_pos g1] at hj
            rw [if_pos (by omega)]
            obtain ⟨cv,a1,a2⟩:=f6 j u hj
            rw [cells_at k1] at a1
            exact ⟨cv,by simpa using a1,a2⟩
           ·rw [List.getElem?_append_right (by omega),hlt] at hj
            have hjl:=(List.getElem?_eq_some_iff.1 hj).1
            rw [if_neg (by omega),if_pos (by omega)]
            obtain ⟨cv,a1,a2⟩:=all2_at hall _ u hj
            exact ⟨cv,by rw [show L.base+j - (L.base+p.off+n * P.cellsOf e')=j - (p.off+n * P.cellsOf e') from by omega];exact a1,a2⟩)
         have hmv:=hrw.1.move (o:=p.block) (vs:=vs.take (p.off+n * P.cellsOf e') ++ news) (t:=e') (by rw [getElem?_set',if_pos ⟨rfl,hlive⟩]) hL p.off (by rw [List.length_append,hlt];omega)
         have hdrop:(vs.take (p.off+n * P.cellsOf e') ++ news).drop p.off=(vs.drop p.off).take (n * P.cellsOf e') ++ news:=by
          rw [List.drop_append_of_le_length (by omega),List.drop_take,show p.off+n * P.cellsOf e' - p.off=n * P.cellsOf e' from by omega]
         rw [hdrop,List.set_set,List.length_set] at hmv
         refine ⟨_,_,_,hr,⟨rfl,rfl,_,cap,rfl,hroom,.inr ⟨_,Mu.put_same _ _ _,by simp,?_⟩⟩,hmv.1,hrw.2.trans hmv.2⟩
         show 0+cap * L.sz<=L.ext - p.off
         rw [f4];omega
        ·have hos:∃ os:List Value,All2 (CRel μ) ((vs.drop p.off).take (n * P.cellsOf e')) os/\os.length=n * P.cellsOf e'/\∀ (j:Nat) (v:Value),os[j]?=some v->w.cell? (b.add j)=some v:=by
          rcases e4 with e4 | ⟨L,hL,e4,_⟩
          ·have:n=0:=by omega
           subst this
           exact ⟨[],by simp;trivial,by simp,fun j v hj=>by simp at hj⟩
          ·obtain ⟨os,o1,o2,o3⟩:=hH.range ho hL p.off (n * P.cellsOf e')
           have hol:os.length=n * P.cellsOf e':=by rw [o2];simp;omega
           subst e4;exact ⟨os,o1,hol,o3⟩
         obtain ⟨os,o1,hol,o3'⟩:=hos
         have hr:=run_append_grow (P:=P) w t ty e' i z hu hi hz' b n cap os (by rw [hol,hi1]) o3' a m c ns (by rw [<- hlen',hlen,hi1]) hat' (by omega) (by omega) (growslice_fits (by omega) (by rw [hi2];omega))
         have hcap:=grownCap_ge w (n+m) cap e'
         have hal:=((hH.drew).kill p.block).alloc e' ((vs.drop p.off).take (n * P.cellsOf e') ++ news) (os.toArray ++ ns.toArray ++ Builtin.zeroCells z.cells (grownCap w (n+m) cap e' - (n+m))) (os.toArray ++ ns.toArray ++ Builtin.zeroCells z.cells (grownCap w (n+m) cap e' - (n+m))).size hsz
          (by
           have:=all2_len o1
           simp only [Array.size_append,List.size_toArray,List.length_append];omega) (Nat.le_refl _) (by
           intro j u hj
           obtain ⟨y,y1,y2⟩:=all2_at (all2_append o1 hall) j u hj
           refine ⟨y,?_,y2⟩
           have hjl:=(List.getElem?_eq_some_iff.1 y1).1
           rw [List.length_append] at hjl
           rw [Array.getElem?_append_left (by rw [Array.size_append,List.size_toArray,List.size_toArray];exact hjl)]
           rw [List.append_toArray]
           simpa using y1)
         rw [List.length_set] at hal
         refine ⟨_,_,_,hr,⟨rfl,rfl,_,_,rfl,hcap,.inr ⟨_,Mu.put_same _ _ _,rfl,?_⟩⟩,hal.1,((Evo.drew μ H w).trans (Evo.kill p.block)).trans hal.2⟩
         simp only [Array.size_append,List.size_toArray,size_zeroCells,hzs,<- hlen',hlen,hol]
         rw [<- Nat.add_mul,<- Nat.add_mul,show n+m+(grownCap w (n+m) cap e' - (n+m))=grownCap w (n+m) cap e' from by omega]
         simp
       ·cases h
      ·cases h
     ·cases h
   ·cases h
  ·cases h
 ·cases h
end Go.Proofs.YtlcipphiflcaiaaGreat.Ai
namespace Go.Proofs.YtlcipphiflcaiaaGreat.Ai
open Go Go.RowKit
theorem setIf_all2 {R:Value->Value->Prop}:∀ {xs ys:List Value} (h:All2 R xs ys) (i:Nat) {u v:Value},R u v->All2 R (xs.set i u) (ys.set i v)
 | [],[],_,_,_,_,_=>trivial
 | x :: xs,y :: ys,h,0,_,_,hr=>⟨hr,h.2⟩
 | x :: xs,y :: ys,h,i+1,_,_,hr=>⟨h.1,setIf_all2 h.2 i hr⟩
theorem foldl_put_all2 {R:Value->Value->Prop}(off:Nat):∀ (us vs:List Value) (k:Nat) (cs ds:Array Value),All2 R us vs->All2 R cs.toList ds.toList ->
  All2 R ((us.zipIdx k).foldl (fun (cs:Array Value) (p:Value × Nat)=>cs.setIfInBounds (off+p.2) p.1) cs).toList ((vs.zipIdx k).foldl (fun (cs:Array Value) (p:Value × Nat)=>cs.setIfInBounds (off+p.2) p.1) ds).toList
 | [],[],k,cs,ds,_,h=>h
 | u :: us,v :: vs,k,cs,ds,hr,h=>by
  simp only [List.zipIdx_cons,List.foldl_cons]
  exact foldl_put_all2 off us vs (k+1) _ _ hr.2 (by
   rw [Array.toList_setIfInBounds,Array.toList_setIfInBounds]
   exact setIf_all2 h _ hr.1)
theorem size_eq_of_all2 {R:Value->Value->Prop}{cs ds:Array Value}(h:All2 R cs.toList ds.toList):cs.size=ds.size:=by
 have:=all2_len h
 simpa using this
theorem fill_all2 {μ:Mu}(place:Nat->Option (Nat × Nat)):∀ (ps qs:List (Nat × Value)) (cs ds r:Array Value),
  All2 (fun (p q:Nat × Value)=>p.1=q.1/\VRel μ p.2 q.2) ps qs->All2 (CRel μ) cs.toList ds.toList->Instr.fill place cs ps=some r ->
  ∃ r',Instr.fill place ds qs=some r'/\All2 (CRel μ) r.toList r'.toList
 | [],[],cs,ds,r,_,h,hf=>by
  simp only [Instr.fill,Option.some.injEq] at hf ⊢
  subst hf;exact ⟨ds,rfl,h⟩
 | (i,v) :: ps,(j,v') :: qs,cs,ds,r,hp,h,hf=>by
  obtain ⟨⟨h1,h2⟩,h3⟩:=hp
  have h1':i=j:=h1
  subst h1'
  simp only [Instr.fill] at hf ⊢
  cases hpl:place i with
  | none=>rw [hpl] at hf;cases hf
  | some os =>
   obtain ⟨off,size⟩:=os
   rw [hpl] at hf
   simp only at hf ⊢
   have hvc:=VRel.cells h2
   have s1:=size_eq_of_all2 hvc
   have s2:=size_eq_of_all2 h
   have hvc':v.cells.size=v'.cells.size:=s1
   rw [hvc',s2] at hf
   split at hf
   ·cases hf
   ·rename_i hc
    rw [if_neg hc]
    refine fill_all2 place ps qs _ _ r h3 ?_ hf
    have:=foldl_put_all2 off v.cells.toList v'.cells.toList 0 cs ds hvc h
    rw [<- Array.foldl_toList,<- Array.foldl_toList,Array.toList_zipIdx,Array.toList_zipIdx]
    exact this
def partsA (s:Sl)(ps:Array (Nat × Operand)):List (Nat × Value):=ps.toList.map fun p=>(p.1,evalA s p.2)
def plainCs (z:Value):Bool:=z.cells.toList.all plainC
theorem plainCs_self (μ:Mu){z:Value}(h:plainCs z=true):All2 (CRel μ) z.cells.toList z.cells.toList :=
 all2_self (fun a ha=>CRel.of0 (plainC_self μ ha)) _ h
def zerosA (z:Value)(n:Nat):List Value:=((Array.range n).map (z.cells[· % z.cells.size]!)).toList
theorem zerosA_all2 (μ:Mu){z:Value}(h:plainCs z=true)(n:Nat)(hz:0<z.cells.size):All2 (CRel μ) (zerosA z n) ((Array.range n).map (z.cells[· % z.cells.size]!)).toList:=by
 refine all2_self (p:=plainC) (fun a ha=>CRel.of0 (plainC_self μ ha)) _ ?_
 unfold zerosA
 rw [List.all_eq_true]
 intro x hx
 simp only [Array.toList_map,List.mem_map] at hx
 obtain ⟨i,_,rfl⟩:=hx
 unfold plainCs at h
 rw [List.all_eq_true] at h
 have hlt:i % z.cells.size<z.cells.size:=Nat.mod_lt _ hz
 rw [getElem!_pos z.cells _ hlt]
 exact h _ (by rw [<- Array.getElem_toList];exact List.getElem_mem _)
def buildSliceA (P:Program)(t:TypeId)(len:Nat)(ps:List (Nat × Value))(H:AH):Option (Value × AH) :=
 match P.underlying t with
 | some (.slice e) =>
  if 0<P.cellsOf e/\len * P.cellsOf e<=16777216/\ps.all (fun p=>!isTup p.2)=true then
   match zeroA P e with
   | some z =>
    if plainCs z=true/\z.cells.size=P.cellsOf e then
     match Instr.fill (fun i=>some (i * P.cellsOf e,P.cellsOf e)) (zerosA z (len * P.cellsOf e)).toArray ps with
     | some r=>some (.slice (some ⟨H.length,0,none⟩) len len,H ++ [.cells r.toList e false])
     | none=>none
    else none
   | none=>none
  else none
 | _=>none
theorem parts_all2 {N:Nat}{μ:Mu}{s:Sl}{a:Act}(hs:SRel N μ s a):∀ (ps:List (Nat × Operand)),ps.all (fun p=>opOkC p.2)=true->(ps.map fun p=>(p.1,evalA s p.2)).all (fun p=>!isTup p.2)=true ->
  All2 (fun (p q:Nat × Value)=>p.1=q.1/\VRel μ p.2 q.2) (ps.map fun p=>(p.1,evalA s p.2)) (ps.map fun p=>(p.1,a.eval p.2))
 | [],_,_=>trivial
 | p :: ps,h,h'=>by
  simp only [List.all_cons,Bool.and_eq_true,List.map_cons,Bool.not_eq_true'] at h h' ⊢
  exact ⟨⟨rfl,VRel.of_t' h'.1 (hs.eval h.1)⟩,parts_all2 hs ps h.2 h'.2⟩
theorem fill_size (place:Nat->Option (Nat × Nat)):∀ (ps:List (Nat × Value)) (cs r:Array Value),Instr.fill place cs ps=some r->r.size=cs.size
 | [],cs,r,h=>by simp only [Instr.fill,Option.some.injEq] at h;rw [<- h]
 | (i,v) :: ps,cs,r,h=>by
  simp only [Instr.fill] at h
  split at h
  ·cases h
  ·split at h
   ·cases h
   ·rw [fill_size place ps _ r h]
    have:∀ (l:List (Value × Nat)) (off:Nat) (cs:Array Value),(l.foldl (fun (cs:Array Value) (p:Value × Nat)=>cs.setIfInBounds (off+p.2) p.1) cs).size=cs.size:=by
     intro l off
     induction l with
     | nil=>intro cs;rfl
     | cons x l ih=>intro cs;simp only [List.foldl_cons];rw [ih];simp
    rw [<- Array.foldl_toList]
    exact this _ _ _
theorem buildSliceA_run {P:Program}{N:Nat}{μ:Mu}{H H':AH}{w:World}(hH:HRel P μ H w){s:Sl}{a:Act}(hs:SRel N μ s a){t:TypeId}{len:Nat}{ps:Array (Nat × Operand)}{v:Value}
  (hok:ps.toList.all (fun p=>opOkC p.2)=true)(h:buildSliceA P t len (partsA s ps) H=some (v,H')) :
  ∃ μ' cv w',(Instr.buildSlice t len (ps.map fun (i,x)=>(i,a.eval x))).run P w=.ok cv w'/\TRel μ' v cv/\HRel P μ' H' w'/\Evo μ H w μ' H' w':=by
 unfold buildSliceA at h
 split at h
 ·rename_i e hu
  split at h
  ·rename_i hc
   obtain ⟨hsz,hbd,hnt⟩:=hc
   split at h
   ·rename_i z hz
    split at h
    ·rename_i hp
     obtain ⟨hp,hzs⟩:=hp
     split at h
     ·rename_i r hf
      cases h
      have hps:=parts_all2 hs ps.toList hok hnt
      obtain ⟨r',hf',hall⟩:=fill_all2 (μ:=μ) (fun i=>some (i * P.cellsOf e,P.cellsOf e)) _ _ (zerosA z (len * P.cellsOf e)).toArray ((Array.range (len * P.cellsOf e)).map (z.cells[· % z.cells.size]!)) r hps (by
       exact zerosA_all2 μ hp _ (by omega)) hf
      have hl:=all2_len hall
      have hal:=hH.alloc e r.toList r' r'.size hsz (by rw [hl];simp) (Nat.le_refl _) (by
       intro i x hx
       obtain ⟨y,h1,h2⟩:=all2_at hall i x hx
       exact ⟨y,by simpa using h1,h2⟩)
      have hr':r'.size=len * P.cellsOf e:=by rw [fill_size _ _ _ _ hf'];simp
      refine ⟨_,.slice (some ⟨w.heap.size,0,none⟩) len len,_,?_,⟨rfl,rfl,_,len,rfl,Nat.le_refl _,.inr ⟨_,Mu.put_same _ _ _,rfl,?_⟩⟩,hal.1,hal.2⟩
      ·have hps':(ps.map fun (i,x)=>(i,a.eval x)).toList=ps.toList.map fun p=>(p.1,a.eval p.2):=by simp
       simp only [Instr.buildSlice,Sem.run_bind,run_underlying hu,Result.andThen_ok,sizeOf_run hsz,Sem.run_ite]
       rw [if_neg (by omega)]
       by_cases h0:len * P.cellsOf e=0
       ·rw [if_pos h0]
        simp only [Sem.run_pure,Result.andThen_ok]
        rw [h0] at hf' ⊢
        have hf2:Instr.fill (fun i=>some (i * P.cellsOf e,P.cellsOf e)) ((Array.range 0).map fun x=>(#[]:Array Value)[x % (#[]:Array Value).size]!) (ps.map fun (i,x)=>(i,a.eval x)).toList=some r':=by
         have hnil:∀ f:Nat->Value,(Array.range 0).map f=#[]:=fun f=>by simp
         rw [hnil] at hf' ⊢
         rw [hps'];exact hf'
        rw [hf2]
        simp [newRow]
       ·rw [if_neg h0]
        simp only [Sem.run_bind,zeroA_run hz,Result.andThen_ok,Sem.run_pure]
        rw [hps',hf']
        simp [newRow]
      ·show 0+len * P.cellsOf e<=r'.size
       omega
     ·cases h
    ·cases h
   ·cases h
  ·cases h
 ·cases h
def buildA (P:Program)(t:TypeId)(ps:List (Nat × Value)):Option Value :=
 if ps.all (fun p=>!isTup p.2)=true then
  match zeroA P t with
  | some z =>
   if plainCs z=true then
    match P.underlying t with
    | some (.struct fs) =>
     if fs.toList.all (fun f=>decide (0<P.cellsOf f.type))=true then
      (Instr.fill ((fs.map fun f=>(f.offset,P.cellsOf f.type))[·]?) z.cells ps).map .agg
     else none
    | some (.array _ e)=>if 0<P.cellsOf e then (Instr.fill (fun i=>some (i * P.cellsOf e,P.cellsOf e)) z.cells ps).map .agg else none
    | _=>none
   else none
  | none=>none
 else none
theorem mapM_sizes {P:Program}(w:World):∀ (fs:List Field),fs.all (fun f=>decide (0<P.cellsOf f.type))=true ->
  (fs.mapM (fun f=>(do pure (f.offset,<- Go.sizeOf f.type):Sem (Nat × Nat)))).run P w=.ok (fs.map fun f=>(f.offset,P.cellsOf f.type)) w
 | [],_=>by simp
 | f :: fs,h=>by
  simp only [List.all_cons,Bool.and_eq_true,decide_eq_true_eq] at h
  simp only [List.mapM_cons,Sem.run_bind,sizeOf_run h.1,Result.andThen_ok,Sem.run_pure,mapM_sizes w fs h.2,List.map_cons]
theorem buildA_run {P:Program}{N:Nat}{μ:Mu}{w:World}{s:Sl}{a:Act}(hs:SRel N μ s a){t:TypeId}{ps:Array (Nat × Operand)}{v:Value}
  (hok:ps.toList.all (fun p=>opOkC p.2)=true)(h:buildA P t (partsA s ps)=some v) :
  ∃ cv,(Instr.build t (ps.map fun (i,x)=>(i,a.eval x))).run P w=.ok cv w/\TRel μ v cv:=by
 have hps':(ps.map fun (i,x)=>(i,a.eval x)).toList=ps.toList.map fun p=>(p.1,a.eval p.2):=by simp
 unfold buildA at h
 split at h
 ·rename_i hnt
  have hps:=parts_all2 hs ps.toList hok hnt
  split at h
  ·rename_i z hz
   split at h
   ·rename_i hp
    split at h
    ·rename_i fs hu
     split at h
     ·rename_i hsz
      cases hf:Instr.fill ((fs.map fun f=>(f.offset,P.cellsOf f.type))[·]?) z.cells (partsA s ps) with
      | none=>rw [hf] at h;cases h
      | some r =>
       rw [hf] at h;cases h
       obtain ⟨r',hf',hall⟩:=fill_all2 (μ:=μ) _ _ _ z.cells z.cells r hps (plainCs_self μ hp) hf
       refine ⟨.agg r',?_,⟨r',rfl,hall⟩⟩
       have hm:(fs.mapM (fun f=>(do pure (f.offset,<- Go.sizeOf f.type):Sem (Nat × Nat)))).run P w=.ok (fs.map fun f=>(f.offset,P.cellsOf f.type)) w:=by
        rw [Array.mapM_eq_mapM_toList,Sem.run_map,mapM_sizes w fs.toList hsz]
        simp only [Result.andThen_ok]
        rw [<- Array.toList_map,Array.toArray_toList]
       simp only [Instr.build,Sem.run_bind,zeroA_run hz,run_underlying hu,Result.andThen_ok,hm]
       rw [hps',hf'];rfl
     ·cases h
    ·rename_i n e hu
     split at h
     ·rename_i hsz
      cases hf:Instr.fill (fun i=>some (i * P.cellsOf e,P.cellsOf e)) z.cells (partsA s ps) with
      | none=>rw [hf] at h;cases h
      | some r =>
       rw [hf] at h;cases h
       obtain ⟨r',hf',hall⟩:=fill_all2 (μ:=μ) _ _ _ z.cells z.cells r hps (plainCs_self μ hp) hf
       refine ⟨.agg r',?_,⟨r',rfl,hall⟩⟩
       simp only [Instr.build,Sem.run_bind,zeroA_run hz,run_underlying hu,Result.andThen_ok,sizeOf_run hsz]
       rw [hps',hf'];rfl
     ·cases h
    ·cases h
   ·cases h
  ·cases h
 ·cases h
def makeSliceA (P:Program)(t:TypeId)(l c:Value)(H:AH):Option (Value × AH) :=
 match l,c,P.underlying t with
 | .int .i64 n,.int .i64 m,some (.slice e) =>
  if n=m/\0<=n/\0<P.cellsOf e/\n.toNat * P.bytesOf e<=281474976710656/\n<=9223372036854775807 then
   match zeroA P e with
   | some z=>if plainCs z=true/\z.cells.size=P.cellsOf e then some (.slice (some ⟨H.length,0,none⟩) n.toNat n.toNat,H ++ [.cells (zerosA z (n.toNat * P.cellsOf e)) e false]) else none
   | none=>none
  else none
 | _,_,_=>none
theorem makeSliceA_run {P:Program}{μ:Mu}{H H':AH}{w:World}(hH:HRel P μ H w){t:TypeId}{l c cl cc v:Value}(h:makeSliceA P t l c H=some (v,H'))(hl:TRel μ l cl)(hc:TRel μ c cc) :
  ∃ μ' cv w',(Instr.makeSlice t cl cc).run P w=.ok cv w'/\TRel μ' v cv/\HRel P μ' H' w'/\Evo μ H w μ' H' w':=by
 unfold makeSliceA at h
 split at h
 ·rename_i n m e hu
  have e1:cl=.int .i64 n:=hl
  have e2:cc=.int .i64 m:=hc
  subst e1;subst e2
  split at h
  ·rename_i hcnd
   obtain ⟨rfl,h0,hsz,hby,hmx⟩:=hcnd
   split at h
   ·rename_i z hz
    split at h
    ·rename_i hp
     obtain ⟨hp,hzs⟩:=hp
     cases h
     obtain ⟨i,hi,hi1,hi2⟩:=sizeOf_info hsz
     have hal:=hH.alloc e (zerosA z (n.toNat * P.cellsOf e)) ((Array.range (n.toNat * P.cellsOf e)).map (z.cells[· % z.cells.size]!)) (n.toNat * P.cellsOf e) hsz (by simp [zerosA]) (by simp) (by
      intro i x hx
      obtain ⟨y,h1,h2⟩:=all2_at (zerosA_all2 μ hp (n.toNat * P.cellsOf e) (by omega)) i x hx
      exact ⟨y,by rw [Array.getElem?_toList] at h1;exact h1,h2⟩)
     refine ⟨_,.slice (some ⟨w.heap.size,0,none⟩) n.toNat n.toNat,_,?_,⟨rfl,rfl,_,n.toNat,rfl,Nat.le_refl _,.inr ⟨_,Mu.put_same _ _ _,rfl,by simp⟩⟩,hal.1,hal.2⟩
     have hw:IntKind.i64.wrap n=n:=by rw [IntKind.wrap_i64];omega
     have hbi:(i.bytes:Int) * n<=281474976710656:=by
      rw [hi2]
      have:(n.toNat:Int)=n:=by omega
      rw [<- this]
      have h2:(((n.toNat * P.bytesOf e:Nat)):Int)<=281474976710656:=by omega
      rw [Int.natCast_mul] at h2
      rw [Int.mul_comm];exact h2
     have hn0:¬ n<0:=by omega
     have hbi':¬ (281474976710656<(i.bytes:Int) * n):=by omega
     simp only [Instr.makeSlice,Sem.run_bind,run_underlying hu,Result.andThen_ok,asInt,asIntOf,Sem.run_pure,typeInfo,run_program,hi,hw]
     simp [hn0,hbi',sizeOf_run hsz]
     by_cases h00:n.toNat * P.cellsOf e=0
     ·have hnil:∀ f:Nat->Value,(Array.range 0).map f=#[]:=fun f=>by simp
      rw [if_pos h00,h00]
      simp only [Result.andThen_ok,newRow,Sem.run_bind,run_newObj,Sem.run_pure,hnil]
      rfl
     ·rw [if_neg h00]
      simp [zeroA_run hz,newRow]
    ·cases h
   ·cases h
  ·cases h
 ·cases h
def mapT:TypeId:=999999
def findA (k:Value):List (Value × Value)->Nat->Option (Option (Nat × Value))
 | [],_=>some none
 | e :: es,i =>
  match k,e.1 with
  | .int a x,.int b y=>if a=b then (if x=y then some (some (i,e.2)) else findA k es (i+1)) else none
  | _,_=>none
abbrev ERel (μ:Mu)(e:Value × Value)(m:MapEntry):Prop:=CRel μ e.1 m.key/\CRel μ e.2 m.val
theorem findA_run {μ:Mu}{kk a:IntKind}{x:Int}:∀ (es:List (Value × Value)) (cs:List MapEntry) (i:Nat) (r:Option (Nat × Value)),All2 (ERel μ) es cs->findA (.int a x) es i=some r ->
  (r=none/\Instr.findNow (.int kk) (.int a x) cs i=some none)∨∃ (j:Nat) (v cv:Value) (m:MapEntry),r=some (i+j,v)/\Instr.findNow (.int kk) (.int a x) cs i=some (some (i+j,cv))/\CRel μ v cv/\cs[j]?=some m/\m.key=.int a x/\j<es.length
 | [],[],i,r,_,h=>by
  simp only [findA,Option.some.injEq] at h
  exact .inl ⟨h.symm,rfl⟩
 | e :: es,m :: cs,i,r,ha,h=>by
  obtain ⟨⟨hk,hv⟩,ht⟩:=ha
  simp only [findA] at h
  split at h
  ·rename_i a' x' b y e1 e2
   cases e1
   rw [e2] at hk
   have ek:m.key=.int b y:=hk
   split at h
   ·rename_i hab
    subst hab
    split at h
    ·rename_i hxy
     subst hxy
     simp only [Option.some.injEq] at h
     refine .inr ⟨0,e.2,m.val,m,h.symm,?_,hv,rfl,ek,by simp⟩
     simp [Instr.findNow,Instr.sameNow,ek]
    ·rename_i hxy
     have hne:(x == y)=false:=by simpa using hxy
     have hstep:Instr.findNow (.int kk) (.int a x) (m :: cs) i=Instr.findNow (.int kk) (.int a x) cs (i+1):=by
      simp [Instr.findNow,Instr.sameNow,ek,hne]
     rw [hstep]
     rcases findA_run es cs (i+1) r ht h with g | ⟨j,v,cv,m',g1,g2,g3,g4,g5,g6⟩
     ·exact .inl g
     ·refine .inr ⟨j+1,v,cv,m',?_,?_,g3,by simpa using g4,g5,by simp;omega⟩
      ·rw [g1];congr 2;omega
      ·rw [g2];congr 3;omega
   ·cases h
  ·cases h
 | [],_ :: _,_,_,ha,_=>ha.elim
 | _ :: _,[],_,_,ha,_=>ha.elim
def makeMapA (P:Program)(t:TypeId)(H:AH):Option (Value × AH):=some (.map (some H.length),H ++ [.mp []])
theorem makeMapA_run {P:Program}{μ:Mu}{H H':AH}{w:World}(hH:HRel P μ H w){t:TypeId}{v:Value}(h:makeMapA P t H=some (v,H')) :
  ∃ μ' cv w',(Instr.makeMap t none).run P w=.ok cv w'/\TRel μ' v cv/\HRel P μ' H' w'/\Evo μ H w μ' H' w':=by
 cases h
 have hal:=hH.allocMap
 exact ⟨_,.map (some w.heap.size),_,by simp [Instr.makeMap],⟨_,Mu.put_same _ _ _,rfl⟩,hal.1,hal.2⟩
def lookupA (P:Program)(t:TypeId)(m k:Value)(ok:Bool)(H:AH):Option Value :=
 match m,k,P.underlying t with
 | .map (some o),.int a x,some (.map kt et) =>
  match P.underlying kt,H[o]? with
  | some (.int _),some (.mp es) =>
   match findA (.int a x) es 0 with
   | some (some (_,v))=>if isOne v=true then some (if ok=true then .tuple #[v,.bool true] else v) else none
   | some none=>(match zeroA P et with | some z=>if plainC z=true then some (if ok=true then .tuple #[z,.bool false] else z) else none | none=>none)
   | none=>none
  | _,_=>none
 | _,_,_=>none
theorem plainC_one {z:Value}(h:plainC z=true):isOne z=true:=by
 cases z <;> first | rfl | cases h
theorem lookupA_run {P:Program}{μ:Mu}{H:AH}{w:World}(hH:HRel P μ H w){t:TypeId}{m k cm ck v:Value}{ok:Bool}(h:lookupA P t m k ok H=some v)(hm:TRel μ m cm)(hk:TRel μ k ck) :
  ∃ cv,(Instr.lookup t cm ck ok).run P w=.ok cv w/\TRel μ v cv:=by
 unfold lookupA at h
 split at h
 ·rename_i o a x kt et hu
  obtain ⟨L,hL,rfl⟩:=hm
  obtain rfl:ck=.int a x:=hk
  split at h
  ·rename_i kk es hkt ho
   obtain ⟨cs,clock,hb,hall⟩:=hH.maps_ o es L ho hL
   have hck:(Instr.checkKey cs.isEmpty 10000 kt (.int a x)).run P w=.ok () w:=by
    unfold Instr.checkKey
    simp only [Sem.run_bind,run_underlying hkt,Result.andThen_ok]
    rfl
   have tup:∀ (u cu:Value) (b:Bool),isOne u=true->CRel μ u cu->TRel μ (if ok=true then .tuple #[u,.bool b] else u) (if ok=true then .tuple #[cu,.bool b] else cu):=by
    intro u cu b h1 h2
    cases ok with
    | true=>exact ⟨_,rfl,(by cases u <;> first | exact h2 | cases h1),rfl,trivial⟩
    | false=>exact TRel.of_c h1 h2
   split at h
   ·rename_i j u hf
    split at h
    ·rename_i h1
     cases h
     rcases findA_run (kk:=kk) es cs.toList 0 _ hall hf with ⟨g,_⟩ | ⟨j',v',cv,m',g1,g2,g3,g4,g5,_⟩
     ·cases g
     ·cases g1
      refine ⟨if ok=true then .tuple #[cv,.bool true] else cv,?_,tup _ _ _ h1 g3⟩
      simp only [Instr.lookup,Sem.run_bind,run_underlying hu,Result.andThen_ok,MapKept.run_getObj_map hb,Sem.run_pure,hck,MapKept.run_findKey hkt g2]
    ·cases h
   ·rename_i hf
    split at h
    ·rename_i z hz
     split at h
     ·rename_i hp
      cases h
      rcases findA_run (kk:=kk) es cs.toList 0 _ hall hf with ⟨_,g2⟩ | ⟨j',v',cv,m',g1,_⟩
      ·refine ⟨if ok=true then .tuple #[z,.bool false] else z,?_,tup _ _ _ (plainC_one hp) (CRel.of0 (plainC_self μ hp))⟩
       simp only [Instr.lookup,Sem.run_bind,run_underlying hu,Result.andThen_ok,MapKept.run_getObj_map hb,Sem.run_pure,hck,MapKept.run_findKey hkt g2,zeroA_run hz]
      ·cases g1
     ·cases h
    ·cases h
   ·cases h
  ·cases h
 ·cases h
def updA (P:Program)(t:TypeId)(m k v:Value)(H:AH):Option AH :=
 match m,k,P.underlying t with
 | .map (some o),.int a x,some (.map kt _) =>
  match P.underlying kt,H[o]? with
  | some (.int _),some (.mp es) =>
   if isOne v=true then
    match findA (.int a x) es 0 with
    | some (some (j,_))=>some (H.set o (.mp (es.set j (.int a x,v))))
    | some none=>some (H.set o (.mp (es ++ [(.int a x,v)])))
    | none=>none
   else none
  | _,_=>none
 | _,_,_=>none
theorem all2_set {α β:Type}{R:α->β->Prop}:∀ {xs:List α} {ys:List β} (h:All2 R xs ys) (i:Nat) {u:α} {v:β},R u v->All2 R (xs.set i u) (ys.set i v)
 | [],[],_,_,_,_,_=>trivial
 | x :: xs,y :: ys,h,0,_,_,hr=>⟨hr,h.2⟩
 | x :: xs,y :: ys,h,i+1,_,_,hr=>⟨h.1,all2_set h.2 i hr⟩
theorem updA_run {P:Program}{μ:Mu}{H H':AH}{w:World}(hH:HRel P μ H w){t:TypeId}{m k v cm ck cv:Value}(h:updA P t m k v H=some H')(hm:TRel μ m cm)(hk:TRel μ k ck)(hv:TRel μ v cv) :
  ∃ w',(Instr.mapUpdate t cm ck cv).run P w=.ok () w'/\HRel P μ H' w'/\Evo μ H w μ H' w':=by
 unfold updA at h
 split at h
 ·rename_i o a x kt et hu
  obtain ⟨L,hL,rfl⟩:=hm
  obtain rfl:ck=.int a x:=hk
  split at h
  ·rename_i kk es hkt ho
   split at h
   ·rename_i h1
    have hvc:=CRel.of_t h1 hv
    obtain ⟨cs,clock,hb,hall⟩:=hH.maps_ o es L ho hL
    have hck:(Instr.checkKey false 10000 kt (.int a x)).run P w=.ok () w:=by
     unfold Instr.checkKey
     simp only [Sem.run_bind,run_underlying hkt,Result.andThen_ok]
     rfl
    split at h
    ·rename_i j u hf
     cases h
     rcases findA_run (kk:=kk) es cs.toList 0 _ hall hf with ⟨g,_⟩ | ⟨j',v',c,m',g1,g2,g3,g4,g5,g6⟩
     ·cases g
     ·simp only [Option.some.injEq,Prod.mk.injEq] at g1
      obtain ⟨g1,_⟩:=g1
      obtain rfl:j=j':=by omega
      have hj:cs[j]?=some m':=by simpa using g4
      have hml:(cs.modify j fun e=>{ e with key:=.int a x,val:=cv }).toList=cs.toList.set j { m' with key:=.int a x,val:=cv }:=by
       apply List.ext_getElem?
       intro i
       rw [Array.getElem?_toList,List.getElem?_set,Array.getElem?_modify]
       by_cases e:j=i
       ·subst e
        obtain ⟨hjl,hje⟩:=Array.getElem?_eq_some_iff.1 hj
        simp [hj,hjl,hje]
       ·simp [e]
      have hrw:=hH.rewriteMap ho hL (cs.modify j fun e=>{ e with key:=.int a x,val:=cv }) clock (es.set j (.int a x,v)) (by
       rw [hml]
       exact all2_set hall j ⟨rfl,hvc⟩)
      refine ⟨_,?_,hrw.1,hrw.2⟩
      have g2':Instr.findNow (.int kk) (.int a x) cs.toList 0=some (some (j,c)):=by rw [g2];congr 3;omega
      have hst:(Instr.keyThatStays (.int a x) (.int a x)).run P w=.ok (.int a x) w:=by
       simp [Instr.keyThatStays,Instr.sameBits]
      simp only [Instr.mapUpdate,Sem.run_bind,run_underlying hu,Result.andThen_ok,MapKept.run_getObj_map hb,hck,MapKept.run_findKey hkt g2',hj,Option.map_some,Option.getD_some,g5,hst,MapKept.run_setObj_map _ hb]
    ·rename_i hf
     cases h
     rcases findA_run (kk:=kk) es cs.toList 0 _ hall hf with ⟨_,g2⟩ | ⟨j',v',c,m',g1,_⟩
     ·have hrw:=hH.rewriteMap ho hL (cs.push { key:=.int a x,val:=cv,born:=clock }) (clock+1) (es ++ [(.int a x,v)]) (by
       rw [Array.toList_push]
       exact all2_append hall ⟨⟨rfl,hvc⟩,trivial⟩)
      refine ⟨_,?_,hrw.1,hrw.2⟩
      simp only [Instr.mapUpdate,Sem.run_bind,run_underlying hu,Result.andThen_ok,MapKept.run_getObj_map hb,hck,MapKept.run_findKey hkt g2,MapKept.run_setObj_map _ hb]
     ·cases g1
    ·cases h
   ·cases h
  ·cases h
 ·cases h
def lenMapA (P:Program)(t:TypeId)(x:Value)(H:AH):Option Value :=
 match x,P.underlying t with
 | .map (some o),some (.map _ _)=>(match H[o]? with | some (.mp es)=>some (.int .i64 es.length) | _=>none)
 | _,_=>none
theorem lenMapA_run {P:Program}{μ:Mu}{H:AH}{w:World}(hH:HRel P μ H w){t:TypeId}{x cx v:Value}(h:lenMapA P t x H=some v)(hx:TRel μ x cx)(ty:TypeId):(Builtin.len_ #[t] ty #[cx]).run P w=.ok v w/\TRel μ v v:=by
 unfold lenMapA at h
 split at h
 ·rename_i o kt et hu
  obtain ⟨L,hL,rfl⟩:=hx
  split at h
  ·rename_i es ho
   cases h
   obtain ⟨cs,clock,hb,hall⟩:=hH.maps_ o es L ho hL
   refine ⟨?_,rfl⟩
   have hl:=all2_len hall
   simp [Builtin.len_,run_underlying hu,MapKept.run_getObj_map hb,goInt,hl]
  ·cases h
 ·cases h
end Go.Proofs.YtlcipphiflcaiaaGreat.Ai
namespace Go.Proofs.YtlcipphiflcaiaaGreat.Ai
open Go Go.RowKit
theorem TRel.of_vrel {μ:Mu}{v c:Value}(h:VRel μ v c):TRel μ v c:=by
 cases v <;> first | exact h | exact h.elim
theorem VRel.of_crel {μ:Mu}{v c:Value}(h:CRel μ v c):VRel μ v c:=by
 cases v <;> first | exact h | exact h.elim
def extractA (x:Value)(i:Nat):Option Value :=
 match x with
 | .tuple vs=>vs[i]?
 | _=>none
theorem extractA_run {P:Program}{μ:Mu}{x cx v:Value}{i:Nat}(h:extractA x i=some v)(hx:TRel μ x cx)(w:World):∃ cv,(Instr.extract cx i).run P w=.ok cv w/\TRel μ v cv:=by
 unfold extractA at h
 split at h
 ·rename_i vs
  obtain ⟨ds,rfl,hall⟩:=hx
  obtain ⟨y,h1,h2⟩:=all2_at hall i v (by simpa using h)
  have h1':ds[i]?=some y:=by simpa using h1
  exact ⟨y,by simp [Instr.extract,h1'],TRel.of_vrel h2⟩
 ·cases h
def partA (P:Program)(t:TypeId)(cs:Array Value)(off:Nat):Option Value :=
 match isAggA P t with
 | some true=>if 0<P.cellsOf t then some (.agg (cs.extract off (off+P.cellsOf t))) else none
 | some false=>cs[off]?
 | none=>none
theorem all2_extract {R:Value->Value->Prop}{cs ds:Array Value}(h:All2 R cs.toList ds.toList)(a b:Nat):All2 R (cs.extract a b).toList (ds.extract a b).toList:=by
 have key:∀ (n:Nat) (xs ys:List Value),All2 R xs ys->All2 R (xs.drop n) (ys.drop n):=by
  intro n
  induction n with
  | zero=>intro xs ys h;exact h
  | succ n ih =>
   intro xs ys h
   match xs,ys,h with
   | [],[],h=>exact trivial
   | _ :: xs,_ :: ys,h=>exact ih xs ys h.2
 have key2:∀ (n:Nat) (xs ys:List Value),All2 R xs ys->All2 R (xs.take n) (ys.take n):=by
  intro n
  induction n with
  | zero=>intro xs ys h;exact trivial
  | succ n ih =>
   intro xs ys h
   match xs,ys,h with
   | [],[],h=>exact trivial
   | _ :: xs,_ :: ys,h=>exact ⟨h.1,ih xs ys h.2⟩
 rw [Array.toList_extract,Array.toList_extract,List.extract_eq_take_drop,List.extract_eq_take_drop]
 exact key2 _ _ _ (key _ _ _ h)
theorem partA_run {P:Program}{μ:Mu}{t:TypeId}{cs ds:Array Value}{off:Nat}{v:Value}(h:partA P t cs off=some v)(hall:All2 (CRel μ) cs.toList ds.toList)(w:World) :
  ∃ cv,(part t ds off).run P w=.ok cv w/\TRel μ v cv:=by
 unfold partA at h
 split at h
 ·rename_i hag
  split at h
  ·rename_i hsz
   cases h
   refine ⟨.agg (ds.extract off (off+P.cellsOf t)),?_,⟨_,rfl,all2_extract hall _ _⟩⟩
   simp only [part,Sem.run_bind,isAgg_run hag,Result.andThen_ok,if_true,sizeOf_run hsz,Sem.run_pure]
  ·cases h
 ·rename_i hag
  obtain ⟨y,h1,h2⟩:=all2_at hall off v (by simpa using h)
  exact ⟨y,part_one hag w ds off y (by simpa using h1),TRel.of_vrel (VRel.of_crel h2)⟩
 ·cases h
def fieldA (P:Program)(t:TypeId)(x:Value)(f:Nat):Option Value :=
 match x,P.underlying t with
 | .agg cs,some (.struct fs) =>
  match fs[f]? with
  | some fd=>partA P fd.type cs fd.offset
  | none=>none
 | _,_=>none
theorem fieldA_run {P:Program}{μ:Mu}{t:TypeId}{x cx v:Value}{f:Nat}(h:fieldA P t x f=some v)(hx:TRel μ x cx)(w:World):∃ cv,(Instr.field t cx f).run P w=.ok cv w/\TRel μ v cv:=by
 unfold fieldA at h
 split at h
 ·rename_i cs fs hu
  obtain ⟨ds,rfl,hall⟩:=hx
  split at h
  ·rename_i fd hf
   obtain ⟨cv,h1,h2⟩:=partA_run h hall w
   refine ⟨cv,?_,h2⟩
   simp only [Instr.field,Sem.run_bind,run_underlying hu,Result.andThen_ok,hf,asAgg,Sem.run_pure,h1]
  ·cases h
 ·cases h
def indexA (P:Program)(t:TypeId)(x i:Value):Option Value :=
 match x,i,P.underlying t with
 | .agg cs,.int _ i,some (.array n e)=>if 0<=i/\i<(n:Int)/\0<P.cellsOf e then partA P e cs (i.toNat * P.cellsOf e) else none
 | .string s,.int _ i,some .string=>if 0<=i then (match s[i.toNat]? with | some b=>some (.int .u8 b.toNat) | none=>none) else none
 | _,_,_=>none
theorem indexA_run {P:Program}{μ:Mu}{t:TypeId}{x i cx ci v:Value}(h:indexA P t x i=some v)(hx:TRel μ x cx)(hi:TRel μ i ci)(w:World):∃ cv,(Instr.index t cx ci).run P w=.ok cv w/\TRel μ v cv:=by
 unfold indexA at h
 split at h
 ·rename_i cs k i n e hu
  obtain ⟨ds,rfl,hall⟩:=hx
  have e1:ci=.int k i:=hi
  subst e1
  split at h
  ·rename_i hc
   obtain ⟨h0,h1,h2⟩:=hc
   obtain ⟨cv,g1,g2⟩:=partA_run h hall w
   refine ⟨cv,?_,g2⟩
   simp only [Instr.index,asIntOf,Sem.run_bind,Sem.run_pure,Result.andThen_ok,run_underlying hu]
   rw [if_pos ⟨h0,h1⟩]
   simp only [Sem.run_bind,sizeOf_run h2,Result.andThen_ok,g1]
  ·cases h
 ·rename_i s k i hu
  have e0:cx=.string s:=hx
  have e1:ci=.int k i:=hi
  subst e0;subst e1
  split at h
  ·rename_i h0
   split at h
   ·rename_i b hb
    cases h
    refine ⟨.int .u8 b.toNat,?_,rfl⟩
    simp only [Instr.index,asIntOf,Sem.run_bind,Sem.run_pure,Result.andThen_ok,run_underlying hu]
    rw [if_pos h0,hb];rfl
   ·cases h
  ·cases h
 ·cases h
def lenA (P:Program)(t:TypeId)(x:Value):Option Value :=
 match x,P.underlying t with
 | .slice _ n _,some (.slice _)=>some (.int .i64 n)
 | _,_=>none
theorem lenA_run {P:Program}{μ:Mu}{t:TypeId}{x cx v:Value}(h:lenA P t x=some v)(hx:TRel μ x cx)(ty:TypeId)(w:World):(Builtin.len_ #[t] ty #[cx]).run P w=.ok v w/\TRel μ v v:=by
 unfold lenA at h
 split at h
 ·rename_i a n c e hu
  cases h
  have hc:∃ b c',cx=.slice b n c':=by
   cases a with
   | none=>obtain ⟨rfl,rfl,e⟩:=hx;exact ⟨_,_,e⟩
   | some p=>obtain ⟨_,rfl,b,m,e,_⟩:=hx;exact ⟨_,_,e⟩
  obtain ⟨b,c',rfl⟩:=hc
  refine ⟨?_,rfl⟩
  simp [Builtin.len_,run_underlying hu,goInt]
 ·cases h
def foldA (f:Int->Int->Int)(k:IntKind):Int->List Value->Option Value
 | acc,[]=>some (.int k acc)
 | acc,.int _ y :: r=>foldA f k (f acc y) r
 | _,_=>none
def minmaxA (f:Int->Int->Int)(xs:List Value):Option Value :=
 match xs with
 | .int k x :: r=>foldA f k x r
 | _=>none
def minI (x y:Int):Int:=if y<x then y else x
def maxI (x y:Int):Int:=if y > x then y else x
theorem foldA_run {P:Program}{μ:Mu}(w:World)(f:Int->Int->Int)(g:Value->Value->Sem Value)(hg:∀ k x j y,g (.int k x) (.int j y)=pure (.int k (f x y))):∀ (xs cs:List Value) (k:IntKind) (acc:Int) (v:Value),
  foldA f k acc xs=some v->All2 (TRel μ) xs cs->(cs.foldlM g (.int k acc)).run P w=.ok v w/\TRel μ v v
 | [],[],k,acc,v,h,_=>by
  simp only [foldA,Option.some.injEq] at h
  subst h;exact ⟨by simp,rfl⟩
 | x :: xs,c :: cs,k,acc,v,h,ha=>by
  cases x with
  | int j y =>
   have e:c=.int j y:=ha.1
   subst e
   simp only [foldA] at h
   have:=foldA_run (P:=P) (μ:=μ) w f g hg xs cs k (f acc y) v h ha.2
   simp only [List.foldlM_cons,hg,pure_bind]
   exact this
  | _=>simp [foldA] at h
theorem minmaxA_run {P:Program}{μ:Mu}(w:World)(f:Int->Int->Int)(g:Value->Value->Sem Value)(hg:∀ k x j y,g (.int k x) (.int j y)=pure (.int k (f x y))){xs cs:List Value}{v:Value}
  (h:minmaxA f xs=some v)(ha:All2 (TRel μ) xs cs):∃ c rest,cs=c :: rest/\(rest.foldlM g c).run P w=.ok v w/\TRel μ v v:=by
 unfold minmaxA at h
 split at h
 ·rename_i k x r
  match cs,ha with
  | c :: rest,ha =>
   have e:c=.int k x:=ha.1
   subst e
   exact ⟨_,rest,rfl,foldA_run w f g hg r rest k x v h ha.2⟩
 ·cases h
def isC0:Value->Bool
 | .func _ _ _ | .agg _ | .tuple _=>false
 | _=>true
theorem CRel0.of_t {μ:Mu}{v c:Value}(h1:isC0 v=true)(h:TRel μ v c):CRel0 μ v c:=by
 cases v <;> first | exact h | (simp [isC0] at h1)
def makeFuncA (fn:Fn)(first captured:List Value):Option Value :=
 if first.all isF=true/\captured.all isC0=true then some (.func fn first.toArray captured.toArray) else none
def evalsA (s:Sl)(xs:Array Operand):List Value:=xs.toList.map (evalA s)
theorem evals_all2 {N:Nat}{μ:Mu}{s:Sl}{a:Act}(hs:SRel N μ s a):∀ (xs:List Operand),xs.all opOkC=true->All2 (TRel μ) (xs.map (evalA s)) (xs.map a.eval)
 | [],_=>trivial
 | x :: xs,h=>by
  simp only [List.all_cons,Bool.and_eq_true] at h
  exact ⟨hs.eval h.1,evals_all2 hs xs h.2⟩
def clearA (P:Program)(t:TypeId)(x:Value)(H:AH):Option (Value × AH) :=
 match x,P.underlying t with
 | .slice none _ _,some _=>some (undef,H)
 | .slice (some p) n _,some (.slice e) =>
  if n=0 then some (undef,H) else
  match H[p.block]?,zeroA P e with
  | some (.cells vs e' false),some z =>
   if e'=e/\plainCs z=true/\z.cells.size=P.cellsOf e/\0<P.cellsOf e/\p.off+n * P.cellsOf e<=vs.length then some (undef,H.set p.block (.cells (putAt vs p.off (zerosA z (n * P.cellsOf e))) e false)) else none
  | _,_=>none
 | _,_=>none
theorem clearA_run {P:Program}{μ:Mu}{H H':AH}{w:World}(hH:HRel P μ H w){t:TypeId}{x cx v:Value}(h:clearA P t x H=some (v,H'))(hx:TRel μ x cx)(ty:TypeId) :
  ∃ w',(Builtin.clear_ #[t] ty #[cx]).run P w=.ok undef w'/\v=undef/\HRel P μ H' w'/\Evo μ H w μ H' w':=by
 unfold clearA at h
 split at h
 ·rename_i n c u hu
  cases h
  obtain ⟨rfl,rfl,e2⟩:=hx
  subst e2
  refine ⟨w,?_,rfl,hH,Evo.refl _ _ _⟩
  simp only [Builtin.clear_,List.getElem?_toArray,List.getElem?_cons_zero,Sem.run_bind,run_underlying hu,Result.andThen_ok]
  cases u <;> rfl
 ·rename_i p n' n e hu
  obtain ⟨e1,rfl,a,m,e3,hm,e4⟩:=hx
  subst e3
  split at h
  ·rename_i h0
   cases h
   subst h0
   refine ⟨w,?_,rfl,hH,Evo.refl _ _ _⟩
   simp only [Builtin.clear_,List.getElem?_toArray,List.getElem?_cons_zero,Sem.run_bind,run_underlying hu,Result.andThen_ok]
   rfl
  ·rename_i h0
   split at h
   ·rename_i vs e' z ho hz
    split at h
    ·rename_i hc
     obtain ⟨rfl,hp,hzs,hsz,hb⟩:=hc
     cases h
     rcases e4 with e4 | ⟨L,hL,e4,e5⟩
     ·omega
     subst e4
     have hzl:(zerosA z (n * P.cellsOf e')).length=n * P.cellsOf e':=by simp [zerosA]
     obtain ⟨w',g1,g2,g3⟩:=write_run hH ho hL (k:=p.off) (news:=zerosA z (n * P.cellsOf e')) (by rw [hzl];exact hb) (zerosA_all2 μ hp (n * P.cellsOf e') (by omega))
     refine ⟨w',?_,rfl,g2,g3⟩
     have hzc:(Builtin.zeroCells z.cells n).toList=((Array.range (n * P.cellsOf e')).map (z.cells[· % z.cells.size]!)).toList:=by
      unfold Builtin.zeroCells;rw [hzs]
     cases n with
     | zero=>exact absurd rfl h0
     | succ n =>
      simp only [Builtin.clear_,List.getElem?_toArray,List.getElem?_cons_zero,Sem.run_bind,run_underlying hu,Result.andThen_ok,zeroA_run hz,hzc,g1,Sem.run_pure]
      rfl
    ·cases h
   ·cases h
 ·cases h
def copyA (P:Program)(t:TypeId)(d x:Value)(H:AH):Option (Value × AH) :=
 match d,P.underlying t with
 | .slice (some p) n _,some (.slice e) =>
  match H[p.block]?,sliceCells P e x H with
  | some (.cells vs e' false),some (m,news) =>
   if e'=e/\0<P.cellsOf e/\0<m/\0<n/\p.off+n * P.cellsOf e<=vs.length then
    some (.int .i64 ((min m n:Nat):Int),H.set p.block (.cells (putAt vs p.off (news.take (min m n * P.cellsOf e))) e false)) else none
  | _,_=>none
 | _,_=>none
theorem all2_take {α β:Type}{R:α->β->Prop}:∀ {xs:List α} {ys:List β} (n:Nat),All2 R xs ys->All2 R (xs.take n) (ys.take n)
 | [],[],n,_=>by simp;trivial
 | _ :: _,_ :: _,0,_=>trivial
 | _ :: _,_ :: _,n+1,h=>⟨h.1,all2_take n h.2⟩
theorem copyA_run {P:Program}{μ:Mu}{H H':AH}{w:World}(hH:HRel P μ H w){t ts:TypeId}{d x cd cx v:Value}(h:copyA P t d x H=some (v,H'))(hd:TRel μ d cd)(hx:TRel μ x cx)(ty:TypeId) :
  ∃ w',(Builtin.copy_ #[t,ts] ty #[cd,cx]).run P w=.ok v w'/\TRel μ v v/\HRel P μ H' w'/\Evo μ H w μ H' w':=by
 unfold copyA at h
 split at h
 ·rename_i p n' n e hu
  obtain ⟨e1,rfl,a,c,e3,hm,e4⟩:=hd
  subst e3
  split at h
  ·rename_i vs e' m news ho hsc
   split at h
   ·rename_i hc
    obtain ⟨rfl,hsz,hm0,hn0,hb⟩:=hc
    cases h
    obtain ⟨i,hi,hi1,hi2⟩:=sizeOf_info hsz
    rcases e4 with e4 | ⟨L,hL,e4,e5⟩
    ·omega
    subst e4
    rcases sliceCells_run hH hsc hx with ⟨e0,_⟩ | ⟨a2,c2,cs,rfl,hall,hlen,hat⟩
    ·omega
    have hat':∀ (j:Nat) (u:Value),cs[j]?=some u->w.cell? (a2.add j)=some u:=by
     rcases hat with e0 | hat
     ·omega
     ·exact hat
    have hmn:min m n * P.cellsOf e'<=m * P.cellsOf e':=Nat.mul_le_mul_right _ (Nat.min_le_left _ _)
    have hmn2:min m n * P.cellsOf e'<=n * P.cellsOf e':=Nat.mul_le_mul_right _ (Nat.min_le_right _ _)
    have hcl:(cs.take (min m n * P.cellsOf e')).length=min m n * P.cellsOf e':=by
     rw [List.length_take,<- all2_len hall,hlen];omega
    have hnl:(news.take (min m n * P.cellsOf e')).length=min m n * P.cellsOf e':=by
     rw [List.length_take,hlen];omega
    have hf:=run_firstCells_some (P:=P) w i.size (min m n) a2 m c2 (cs.take (min m n * P.cellsOf e')) (by rw [hcl,hi1]) (fun j u hj=>hat' j u (by
     rw [List.getElem?_take] at hj
     split at hj
     ·exact hj
     ·cases hj))
    obtain ⟨w',g1,g2,g3⟩:=write_run hH ho hL (k:=p.off) (news:=news.take (min m n * P.cellsOf e')) (by rw [hnl];omega) (all2_take (min m n * P.cellsOf e') hall)
    refine ⟨w',?_,rfl,g2,g3⟩
    have hf':(Builtin.firstCells i.size (Nat.min m n) (.slice (some a2) m c2)).run P w=.ok (cs.take (min m n * P.cellsOf e')).toArray w:=hf
    simp [Builtin.copy_,run_underlying hu,Go.sizeOf,typeInfo,hi,Builtin.lenOf,hf',g1]
    rfl
   ·cases h
  ·cases h
 ·cases h
def builtinA (P:Program)(b:Builtin)(ts:List TypeId)(xs:List Value)(H:AH):Option (Value × AH) :=
 match b,ts,xs with
 | .append,[t,tx],[s,x]=>appendA P t tx s x H
 | .len,[t],[x]=>if t=mapT then (lenMapA P t x H).map (·,H) else (lenA P t x).map (·,H)
 | .clear,[t],[x]=>clearA P t x H
 | .copy,[t,_],[d,x]=>copyA P t d x H
 | .min,_,xs=>(minmaxA minI xs).map (·,H)
 | .max,_,xs=>(minmaxA maxI xs).map (·,H)
 | _,_,_=>none
def stepA (P:Program)(op:Op)(s:Sl)(H:AH):Option (Value × AH) :=
 match op with
 | .move x | .assign x=>some (evalA s x,H)
 | .pick c a b=>match evalA s c with | .bool t=>some (if t then evalA s a else evalA s b,H) | _=>none
 | .alloc e=>allocA P e H
 | .box e x=>boxA P e (evalA s x) H
 | .build t ps=>(buildA P t (partsA s ps)).map (·,H)
 | .buildSlice t n ps=>buildSliceA P t n (partsA s ps) H
 | .load t a=>(loadA P t (evalA s a) H).map (·,H)
 | .store t a x=>(storeA P t (evalA s a) (evalA s x) H).map (undef,·)
 | .nilCheck x=>match evalA s x with | .pointer (some p)=>some (.pointer (some p),H) | .func (.func f) fs cs=>some (.func (.func f) fs cs,H) | _=>none
 | .binOp op t x y _=>(binA P op t (evalA s x) (evalA s y)).map (·,H)
 | .unOp op _ x=>(unA op (evalA s x)).map (·,H)
 | .convert a b x=>(convA P a b (evalA s x)).map (·,H)
 | .makeFunc fn first caps=>(makeFuncA fn (evalsA s first) (evalsA s caps)).map (·,H)
 | .makeSlice t l c=>makeSliceA P t (evalA s l) (evalA s c) H
 | .slice t x lo hi none=>(sliceA P t (evalA s x) (lo.map (evalA s)) (hi.map (evalA s)) none H).map (·,H)
 | .slice t x lo hi (some m)=>slice3A P t (evalA s x) (lo.map (evalA s)) (hi.map (evalA s)) (evalA s m) H
 | .fieldAddr t x f=>(fieldAddrA P t (evalA s x) f).map (·,H)
 | .field t x f=>(fieldA P t (evalA s x) f).map (·,H)
 | .indexAddr t x i=>(indexAddrA P t (evalA s x) (evalA s i)).map (·,H)
 | .index t x i=>(indexA P t (evalA s x) (evalA s i)).map (·,H)
 | .extract x i=>(extractA (evalA s x) i).map (·,H)
 | .makeMap t none=>makeMapA P t H
 | .lookup t m k ok=>(lookupA P t (evalA s m) (evalA s k) ok H).map (·,H)
 | .mapUpdate t m k x | .insert t m k x=>(updA P t (evalA s m) (evalA s k) (evalA s x) H).map (undef,·)
 | .call { callee:=.builtin b,args:=xs,argTypes:=ts }=>builtinA P b ts.toList (evalsA s xs) H
 | _=>none
def opOK:Op->Bool
 | .move x | .assign x | .box _ x | .load _ x | .nilCheck x | .unOp _ _ x | .convert _ _ x | .fieldAddr _ x _ | .field _ x _ | .extract x _=>opOkC x
 | .pick c a b=>opOkC c && opOkC a && opOkC b
 | .alloc _=>true
 | .build _ ps | .buildSlice _ _ ps=>ps.toList.all fun p=>opOkC p.2
 | .store _ a x=>opOkC a && opOkC x
 | .binOp _ _ x y _=>opOkC x && opOkC y
 | .makeFunc _ first caps=>first.toList.all opOkC && caps.toList.all opOkC
 | .makeSlice _ l c=>opOkC l && opOkC c
 | .slice _ x lo hi mx=>opOkC x && lo.all opOkC && hi.all opOkC && mx.all opOkC
 | .indexAddr _ x i | .index _ x i=>opOkC x && opOkC i
 | .call c=>c.args.toList.all opOkC && (match c.callee with | .value f=>opOkC f | .builtin _=>true | _=>false)
 | .makeInterface .. | .panic .. | .makeMap _ none=>true
 | .lookup _ m k _=>opOkC m && opOkC k
 | .mapUpdate _ m k x | .insert _ m k x=>opOkC m && opOkC k && opOkC x
 | _=>false
theorem ok1_value {P:Program}{μ:Mu}{H:AH}{w:World}(hH:HRel P μ H w){v cv:Value}{x:Sem Value}(hr:x.run P w=.ok cv w)(hv:TRel μ v cv):Ok1 P μ H w v H ((do pure (.value (<- x)):Sem Next).run P w) :=
 ⟨μ,cv,w,.inl (by simp only [Sem.run_bind,hr,Result.andThen_ok,Sem.run_pure]),hv,hH,Evo.refl _ _ _⟩
theorem ok1_value' {P:Program}{μ μ':Mu}{H H':AH}{w w':World}{v cv:Value}{x:Sem Value}(hr:x.run P w=.ok cv w')(hv:TRel μ' v cv)(hH:HRel P μ' H' w')(he:Evo μ H w μ' H' w'):Ok1 P μ H w v H' ((do pure (.value (<- x)):Sem Next).run P w) :=
 ⟨μ',cv,w',.inl (by simp only [Sem.run_bind,hr,Result.andThen_ok,Sem.run_pure]),hv,hH,he⟩
theorem map_some {α β:Type}{f:α->β}{x:Option α}{b:β}(h:x.map f=some b):∃ a,x=some a/\f a=b:=by
 cases x with
 | none=>cases h
 | some a=>exact ⟨a,rfl,by simpa using h⟩
theorem brel_of {N:Nat}{μ:Mu}{s:Sl}{a:Act}(hs:SRel N μ s a){o:Option Operand}(hok:o.all opOkC=true){d l:Nat}(h:boundA (o.map (evalA s)) d=some l):BRel (o.map (evalA s)) (o.map a.eval):=by
 cases o with
 | none=>exact .inl ⟨rfl,rfl⟩
 | some x =>
  have hx:=hs.eval (x:=x) (by simpa using hok)
  simp only [Option.map_some,boundA] at h
  split at h
  ·rename_i e;cases e
  ·rename_i k n e
   cases e2:evalA s x with
   | int k' n' =>
    rw [e2] at hx
    have:a.eval x=.int k' n':=hx
    exact .inr ⟨k',n',by simp [e2],by simp [this]⟩
   | _=>simp_all
  ·cases h
theorem stepA_ok {P:Program}{N:Nat}{μ:Mu}{H H':AH}{w:World}(hH:HRel P μ H w){s:Sl}{a:Act}(hs:SRel N μ s a)(o:Oper){v:Value}(hok:opOK o.op=true)(h:stepA P o.op s H=some (v,H')) :
  Ok1 P μ H w v H' ((execOp a.eval o).run P w):=by
 obtain ⟨dst,op,type,pos,after,guard⟩:=o
 simp only at h hok
 cases op with
 | move x=>simp only [stepA,Option.some.injEq,Prod.mk.injEq] at h;obtain ⟨rfl,rfl⟩:=h;exact Ok1.same hH (hs.eval hok)
 | assign x=>simp only [stepA,Option.some.injEq,Prod.mk.injEq] at h;obtain ⟨rfl,rfl⟩:=h;exact Ok1.same hH (hs.eval hok)
 | pick c x y =>
  simp only [stepA] at h
  simp only [opOK,Bool.and_eq_true] at hok
  split at h
  ·rename_i t e
   simp only [Option.some.injEq,Prod.mk.injEq] at h
   obtain ⟨rfl,rfl⟩:=h
   have hc:=hs.eval hok.1.1
   rw [e] at hc
   have hc':a.eval c=.bool t:=hc
   refine ⟨μ,if t then a.eval x else a.eval y,w,.inl ?_,?_,hH,Evo.refl _ _ _⟩
   ·simp [execOp,hc',asBool]
   ·cases t
    ·exact hs.eval hok.2
    ·exact hs.eval hok.1.2
  ·cases h
 | alloc e=>obtain ⟨μ',c,w',h1,h2,h3,h4⟩:=allocA_run hH h;exact ok1_value' h1 h2 h3 h4
 | box e x=>obtain ⟨μ',c,w',h1,h2,h3,h4⟩:=boxA_run hH h (hs.eval hok);exact ok1_value' h1 h2 h3 h4
 | build t ps =>
  obtain ⟨v',h1,h2⟩:=map_some h
  cases h2
  obtain ⟨cv,g1,g2⟩:=buildA_run (w:=w) hs hok h1
  exact ok1_value hH g1 g2
 | buildSlice t n ps=>obtain ⟨μ',c,w',h1,h2,h3,h4⟩:=buildSliceA_run hH hs hok h;exact ok1_value' h1 h2 h3 h4
 | load t x =>
  obtain ⟨v',h1,h2⟩:=map_some h
  cases h2
  obtain ⟨cv,g1,g2⟩:=loadA_run hH h1 (hs.eval hok)
  exact ok1_value hH g1 g2
 | store t x y =>
  obtain ⟨v',h1,h2⟩:=map_some h
  cases h2
  simp only [opOK,Bool.and_eq_true] at hok
  obtain ⟨w',g1,g2,g3⟩:=storeA_run hH h1 (hs.eval hok.1) (hs.eval hok.2)
  exact ⟨μ,undef,w',.inr ⟨by simp only [execOp,Sem.run_bind,g1,Result.andThen_ok,Sem.run_pure],rfl⟩,TRel.undef μ,g2,g3⟩
 | nilCheck x =>
  simp only [stepA] at h
  have hx:=hs.eval hok
  split at h
  ·rename_i p e
   cases h
   rw [e] at hx
   obtain ⟨h0,L,hL,e2⟩:=hx
   exact ⟨μ,a.eval x,w,.inl (by simp only [execOp,e2,Sem.run_pure]),by rw [e2];exact ⟨h0,L,hL,rfl⟩,hH,Evo.refl _ _ _⟩
  ·rename_i f fs cs e
   cases h
   rw [e] at hx
   obtain ⟨es,ds,e2,hall1,hall⟩:=hx
   exact ⟨μ,a.eval x,w,.inl (by simp only [execOp,e2,Sem.run_pure]),by rw [e2];exact ⟨es,ds,rfl,hall1,hall⟩,hH,Evo.refl _ _ _⟩
  ·cases h
 | binOp op t x y t2 =>
  obtain ⟨v',h1,h2⟩:=map_some h
  cases h2
  simp only [opOK,Bool.and_eq_true] at hok
  obtain ⟨g1,g2⟩:=binA_run h1 (hs.eval hok.1) (hs.eval hok.2) x y w
  exact ok1_value hH g1 g2
 | unOp op t x =>
  obtain ⟨v',h1,h2⟩:=map_some h
  cases h2
  obtain ⟨g1,g2⟩:=unA_run (P:=P) h1 (hs.eval hok) w
  exact ok1_value hH g1 g2
 | convert t1 t2 x =>
  obtain ⟨v',h1,h2⟩:=map_some h
  cases h2
  obtain ⟨g1,g2⟩:=convA_run h1 (hs.eval hok) w
  exact ok1_value hH g1 g2
 | makeFunc fn first caps =>
  obtain ⟨v',h1,h2⟩:=map_some h
  cases h2
  simp only [opOK,Bool.and_eq_true] at hok
  unfold makeFuncA at h1
  split at h1
  ·rename_i hc
   cases h1
   obtain ⟨hf,hc0⟩:=hc
   have hall1:=all2_imp (S:=FRel μ) (fun _ _=>FRel.of_t) hf (evals_all2 hs first.toList hok.1)
   have hall:=evals_all2 hs caps.toList hok.2
   have key:∀ (xs ys:List Value),xs.all isC0=true->All2 (TRel μ) xs ys->All2 (CRel0 μ) xs ys:=by
    intro xs
    induction xs with
    | nil=>intro ys _ h;cases ys <;> exact h
    | cons x xs ih =>
     intro ys h1 h2
     cases ys with
     | nil=>exact h2
     | cons y ys =>
      simp only [List.all_cons,Bool.and_eq_true] at h1
      exact ⟨CRel0.of_t h1.1 h2.1,ih ys h1.2 h2.2⟩
   refine ⟨μ,.func fn (first.map a.eval) (caps.map a.eval),w,.inl (by simp [execOp,Instr.makeFunc]),⟨_,_,rfl,?_,?_⟩,hH,Evo.refl _ _ _⟩
   ·simpa [evalsA] using hall1
   ·have:=key _ _ hc0 hall
    simpa [evalsA] using this
  ·cases h1
 | makeSlice t l c =>
  simp only [opOK,Bool.and_eq_true] at hok
  obtain ⟨μ',c,w',h1,h2,h3,h4⟩:=makeSliceA_run hH h (hs.eval hok.1) (hs.eval hok.2);exact ok1_value' h1 h2 h3 h4
 | slice t x lo hi mx =>
  simp only [opOK,Bool.and_eq_true] at hok
  cases mx with
  | none =>
   obtain ⟨v',h1,h2⟩:=map_some h
   cases h2
   have hb:∃ l r d d',boundA (lo.map (evalA s)) d=some l/\boundA (hi.map (evalA s)) d'=some r:=by
    unfold sliceA at h1
    split at h1
    ·split at h1
     ·rename_i hb1 hb2 _;exact ⟨_,_,_,_,hb1,hb2⟩
     ·cases h1
    ·split at h1
     ·rename_i hb1 hb2;exact ⟨_,_,_,_,hb1,hb2⟩
     ·cases h1
    ·cases h1
   obtain ⟨l,r,d,d',hb1,hb2⟩:=hb
   obtain ⟨cv,g1,g2⟩:=sliceA_run hH h1 (hs.eval hok.1.1.1) (brel_of hs hok.1.1.2 hb1) (brel_of hs hok.1.2 hb2) (cmx:=none) (fun _=>rfl)
   exact ok1_value hH g1 g2
  | some m =>
   have h1:slice3A P t (evalA s x) (lo.map (evalA s)) (hi.map (evalA s)) (evalA s m) H=some (v,H'):=h
   have hb:∃ l r k d d' d'',boundA (lo.map (evalA s)) d=some l/\boundA (hi.map (evalA s)) d'=some r/\boundA (some (evalA s m)) d''=some k:=by
    have h2:=h1
    unfold slice3A at h2
    split at h2
    ·rename_i e5 _
     split at h2
     ·rename_i hb1 hb2 hb3;rw [e5];exact ⟨_,_,_,_,_,_,hb1,hb2,hb3⟩
     ·cases h2
    ·rename_i e5 _
     split at h2
     ·rename_i hb1 hb2 hb3;rw [e5];exact ⟨_,_,_,_,_,_,hb1,hb2,hb3⟩
     ·cases h2
    ·cases h2
   obtain ⟨l,r,k,d,d',d'',hb1,hb2,hb3⟩:=hb
   have hm:=brel_of (o:=some m) hs hok.2 (d:=d'') hb3
   obtain ⟨cv,g1,g2,g3,g4⟩:=slice3A_run hH h1 (hs.eval hok.1.1.1) (brel_of hs hok.1.1.2 hb1) (brel_of hs hok.1.2 hb2) hm
   exact ok1_value' g1 g2 g3 g4
 | fieldAddr t x f =>
  obtain ⟨v',h1,h2⟩:=map_some h
  cases h2
  obtain ⟨cv,g1,g2⟩:=fieldAddrA_run h1 (hs.eval hok) w
  exact ok1_value hH g1 g2
 | field t x f =>
  obtain ⟨v',h1,h2⟩:=map_some h
  cases h2
  obtain ⟨cv,g1,g2⟩:=fieldA_run h1 (hs.eval hok) w
  exact ok1_value hH g1 g2
 | indexAddr t x i =>
  obtain ⟨v',h1,h2⟩:=map_some h
  cases h2
  simp only [opOK,Bool.and_eq_true] at hok
  obtain ⟨cv,g1,g2⟩:=indexAddrA_run h1 (hs.eval hok.1) (hs.eval hok.2) w
  exact ok1_value hH g1 g2
 | index t x i =>
  obtain ⟨v',h1,h2⟩:=map_some h
  cases h2
  simp only [opOK,Bool.and_eq_true] at hok
  obtain ⟨cv,g1,g2⟩:=indexA_run h1 (hs.eval hok.1) (hs.eval hok.2) w
  exact ok1_value hH g1 g2
 | extract x i =>
  obtain ⟨v',h1,h2⟩:=map_some h
  cases h2
  obtain ⟨cv,g1,g2⟩:=extractA_run (P:=P) h1 (hs.eval hok) w
  exact ok1_value hH g1 g2
 | makeMap t r =>
  cases r with
  | none=>obtain ⟨μ',c,w',h1,h2,h3,h4⟩:=makeMapA_run (t:=t) hH h;exact ok1_value' h1 h2 h3 h4
  | some _=>cases h
 | lookup t m k b =>
  obtain ⟨v',h1,h2⟩:=map_some h
  cases h2
  simp only [opOK,Bool.and_eq_true] at hok
  obtain ⟨cv,g1,g2⟩:=lookupA_run hH h1 (hs.eval hok.1) (hs.eval hok.2)
  exact ok1_value hH g1 g2
 | mapUpdate t m k x =>
  obtain ⟨v',h1,h2⟩:=map_some h
  cases h2
  simp only [opOK,Bool.and_eq_true] at hok
  obtain ⟨w',g1,g2,g3⟩:=updA_run hH h1 (hs.eval hok.1.1) (hs.eval hok.1.2) (hs.eval hok.2)
  exact ⟨μ,undef,w',.inr ⟨by simp only [execOp,Sem.run_bind,g1,Result.andThen_ok,Sem.run_pure],rfl⟩,TRel.undef μ,g2,g3⟩
 | insert t m k x =>
  obtain ⟨v',h1,h2⟩:=map_some h
  cases h2
  simp only [opOK,Bool.and_eq_true] at hok
  obtain ⟨w',g1,g2,g3⟩:=updA_run hH h1 (hs.eval hok.1.1) (hs.eval hok.1.2) (hs.eval hok.2)
  exact ⟨μ,undef,w',.inr ⟨by simp only [execOp,Sem.run_bind,g1,Result.andThen_ok,Sem.run_pure],rfl⟩,TRel.undef μ,g2,g3⟩
 | call c =>
  obtain ⟨callee,args,ts⟩:=c
  cases callee with
  | builtin b =>
   simp only [stepA] at h
   simp only [opOK,Bool.and_eq_true] at hok
   have hall:=evals_all2 hs args.toList hok.1
   have hargs:args.map a.eval=(args.toList.map a.eval).toArray:=by rw [<- Array.toList_map,Array.toArray_toList]
   unfold builtinA at h
   split at h
   ·rename_i t tx sv x e1 e2
    rw [show args.toList.map (evalA s)=[sv,x] from e2] at hall
    match hcs:args.toList.map a.eval,hall with
    | [c1,c2],hall =>
     obtain ⟨μ',cv,w',g1,g2,g3,g4⟩:=appendA_run hH h hall.1 hall.2.1 type
     have ets:ts=#[t,tx]:=by simpa using congrArg List.toArray e1
     refine ⟨μ',cv,w',.inl ?_,g2,g3,g4⟩
     rw [hcs] at hargs
     simp only [execOp,resolve,hargs,ets,pure_bind,invoke,builtin,Sem.run_bind]
     rw [show (Builtin.append_ #[t,tx] type [c1,c2].toArray).run P w=.ok cv w' from g1];rfl
   ·rename_i t x e1 e2
    rw [show args.toList.map (evalA s)=[x] from e2] at hall
    match hcs:args.toList.map a.eval,hall with
    | [c1],hall =>
     have key:H'=H/\(Builtin.len_ #[t] type #[c1]).run P w=.ok v w/\TRel μ v v:=by
      split at h
      ·obtain ⟨v',h1,h2⟩:=map_some h
       cases h2
       exact ⟨rfl,lenMapA_run hH h1 hall.1 type⟩
      ·obtain ⟨v',h1,h2⟩:=map_some h
       cases h2
       exact ⟨rfl,lenA_run (P:=P) h1 hall.1 type w⟩
     obtain ⟨rfl,g1,g2⟩:=key
     have ets:ts=#[t]:=by simpa using congrArg List.toArray e1
     refine ⟨μ,v,w,.inl ?_,g2,hH,Evo.refl _ _ _⟩
     rw [hcs] at hargs
     simp only [execOp,resolve,hargs,ets,pure_bind,invoke,builtin,Sem.run_bind]
     rw [show (Builtin.len_ #[t] type [c1].toArray).run P w=.ok v w from g1];rfl
   ·rename_i t x e1 e2
    rw [show args.toList.map (evalA s)=[x] from e2] at hall
    match hcs:args.toList.map a.eval,hall with
    | [c1],hall =>
     obtain ⟨w',g1,g2,g3,g4⟩:=clearA_run hH h hall.1 type
     have ets:ts=#[t]:=by simpa using congrArg List.toArray e1
     subst g2
     refine ⟨μ,undef,w',.inl ?_,TRel.undef μ,g3,g4⟩
     rw [hcs] at hargs
     simp only [execOp,resolve,hargs,ets,pure_bind,invoke,builtin,Sem.run_bind]
     rw [show (Builtin.clear_ #[t] type [c1].toArray).run P w=.ok undef w' from g1];rfl
   ·rename_i t tx dv x e1 e2
    rw [show args.toList.map (evalA s)=[dv,x] from e2] at hall
    match hcs:args.toList.map a.eval,hall with
    | [c1,c2],hall =>
     obtain ⟨w',g1,g2,g3,g4⟩:=copyA_run (ts:=tx) hH h hall.1 hall.2.1 type
     have ets:ts=#[t,tx]:=by simpa using congrArg List.toArray e1
     refine ⟨μ,v,w',.inl ?_,g2,g3,g4⟩
     rw [hcs] at hargs
     simp only [execOp,resolve,hargs,ets,pure_bind,invoke,builtin,Sem.run_bind]
     rw [show (Builtin.copy_ #[t,tx] type [c1,c2].toArray).run P w=.ok v w' from g1];rfl
   ·obtain ⟨v',h1,h2⟩:=map_some h
    cases h2
    obtain ⟨c,rest,g0,g1,g2⟩:=minmaxA_run (P:=P) w minI Builtin.min2 (fun _ _ _ _=>rfl) h1 hall
    refine ⟨μ,v,w,.inl ?_,g2,hH,Evo.refl _ _ _⟩
    rw [g0] at hargs
    simp only [execOp,resolve,hargs,pure_bind,invoke,builtin,Sem.run_bind,Builtin.min_]
    rw [g1];rfl
   ·obtain ⟨v',h1,h2⟩:=map_some h
    cases h2
    obtain ⟨c,rest,g0,g1,g2⟩:=minmaxA_run (P:=P) w maxI Builtin.max2 (fun _ _ _ _=>rfl) h1 hall
    refine ⟨μ,v,w,.inl ?_,g2,hH,Evo.refl _ _ _⟩
    rw [g0] at hargs
    simp only [execOp,resolve,hargs,pure_bind,invoke,builtin,Sem.run_bind,Builtin.max_]
    rw [g1];rfl
   ·cases h
  | value f=>cases h
  | invoke r m=>cases h
 | _=>cases h
def ACalls (P:Program)(f:FuncId)(args:List Value)(H:AH)(R:Value->AH->Prop):Prop :=
  (∃ fn, P.funcs[f]? = some fn ∧ fn.body.isNone = false ∧ (fn.name == "runtime.NumGoroutine") = false) ∧
  ∀ (μ:Mu) (w:World) (cargs:Array Value),HRel P μ H w->All2 (TRel μ) args cargs.toList ->
    Calls P f cargs w fun e w'=>∃ μ' r H' cr,e=.returned cr/\TRel μ' r cr/\HRel P μ' H' w'/\Evo μ H w μ' H' w'/\R r H'
theorem ACalls.mono {P:Program}{f:FuncId}{args:List Value}{H:AH}{R R':Value->AH->Prop}(h:ACalls P f args H R)(hr:∀ r H',R r H'->R' r H'):ACalls P f args H R' :=
 ⟨h.1,fun μ w cargs hH ha=>(h.2 μ w cargs hH ha).mono fun e w' ⟨μ',r,H',cr,h1,h2,h3,h4,h5⟩=>⟨μ',r,H',cr,h1,h2,h3,h4,hr r H' h5⟩⟩
def stepW (P:Program)(op:Op)(s:Sl)(H:AH)(K:Value->AH->Prop):Prop :=
 match op with
 | .call { callee:=.value f,args:=xs,.. } =>
  match evalA s f with
  | .func (.func g) fs caps=>ACalls P g (fs.toList ++ (evalsA s xs ++ caps.toList)) H K
  | _=>False
 | op =>
  match stepA P op s H with
  | some (v,H')=>K v H'
  | none=>False
def guardVal (ops:List Oper)(j:Nat)(s:Sl):Option Bool :=
 match (ops[j]?).bind (·.dst) with
 | some d=>match s d with | .bool b=>some b | _=>none
 | none=>none
def Post (P:Program)(N:Nat)(μ:Mu)(H:AH)(w:World)(Q:Exit->Sl->AH->Prop):Exit->Act->World->Prop:=fun e a' w' =>
 ∃ μ' s' H',HRel P μ' H' w'/\SRel N μ' s' a'/\Evo μ H w μ' H' w'/\Q e s' H'
theorem Post.trans {P:Program}{N:Nat}{μ μ':Mu}{H H':AH}{w w':World}{Q:Exit->Sl->AH->Prop}(h:Evo μ H w μ' H' w'){e:Exit}{a:Act}{w2:World}(hp:Post P N μ' H' w' Q e a w2):Post P N μ H w Q e a w2:=by
 obtain ⟨μ2,s2,H2,h1,h2,h3,h4⟩:=hp
 exact ⟨μ2,s2,H2,h1,h2,h.trans h3,h4⟩
def AWP (P:Program)(N:Nat)(c:Code)(Q:Exit->Sl->AH->Prop)(s:Sl)(H:AH):Prop :=
 ∀ (μ:Mu) (a:Act) (w:World),HRel P μ H w->SRel N μ s a->c.wp P (Post P N μ H w Q) a w
theorem trel_bool {μ:Mu}{v:Value}{b:Bool}(h:TRel μ v (.bool b)):v=.bool b:=by
 cases v with
 | bool c=>have:Value.bool b=.bool c:=h;rw [this]
 | int k n=>have:Value.bool b=.int k n:=h;cases this
 | string s=>have:Value.bool b=.string s:=h;cases this
 | pointer p =>
  cases p with
  | none=>have:Value.bool b=.pointer none:=h;cases this
  | some p=>obtain ⟨_,L,_,e⟩:=h;cases e
 | slice p n c =>
  cases p with
  | none=>obtain ⟨_,_,e⟩:=h;cases e
  | some p=>obtain ⟨_,_,a,m,e,_⟩:=h;cases e
 | map r =>
  cases r with
  | none=>have:Value.bool b=.map none:=h;cases this
  | some r=>obtain ⟨L,_,e⟩:=h;cases e
 | nilFunc=>have:Value.bool b=.nilFunc:=h;cases this
 | nilIface=>have:Value.bool b=.nilIface:=h;cases this
 | func f fs cs=>obtain ⟨_,ds,e,_⟩:=h;cases e
 | agg cs=>obtain ⟨ds,e,_⟩:=h;cases e
 | tuple cs=>obtain ⟨ds,e,_⟩:=h;cases e
 | float _ _=>exact h.elim
 | complex _ _ _=>exact h.elim
 | chan _=>exact h.elim
 | iface _ _=>exact h.elim
theorem yielded_eq {N:Nat}{μ:Mu}{s:Sl}{a:Act}(hs:SRel N μ s a)(ops:Array Oper)(j:Nat):yielded ops a.tmps j=guardVal ops.toList j s:=by
 unfold yielded guardVal
 rw [Array.getElem?_toList]
 cases hd:(ops[j]?).bind (·.dst) with
 | none=>rfl
 | some d =>
  have h:=hs.at_ d
  simp only [Option.bind_some]
  rw [Array.getD_eq_getD_getElem?] at h
  cases ht:a.tmps[d]? with
  | none =>
   rw [ht] at h
   simp only [Option.getD_none] at h
   cases hv:s d <;> first | rfl | (rw [hv] at h;have:undef=.bool _:=h;cases this)
  | some v =>
   rw [ht] at h
   simp only [Option.getD_some] at h
   cases v with
   | bool b=>rw [trel_bool h]
   | _ =>
    cases hv:s d <;> first | rfl | (rw [hv] at h;cases (show _=Value.bool _ from h))
theorem stepW_sound {P:Program}{N:Nat}{μ:Mu}{H:AH}{w:World}(hH:HRel P μ H w){s:Sl}{a:Act}(hs:SRel N μ s a)(o:Oper)(hok:opOK o.op=true)(hd:∀ i,o.dst=some i->i<N)
  {K:Value->AH->Prop}{next:Act->World->Prop}{Q:Exit->Act->World->Prop}(h:stepW P o.op s H K)
  (hn:∀ v H' μ' cv w',K v H'->TRel μ' v cv->HRel P μ' H' w'->Evo μ H w μ' H' w'->next (a.put o.dst cv) w'):o.wp P a w next Q:=by
 have plain:(∃ v H',stepA P o.op s H=some (v,H')/\K v H')->o.wp P a w next Q:=by
  rintro ⟨v,H',h1,h2⟩
  obtain ⟨μ',cv,w',g1,g2,g3,g4⟩:=stepA_ok hH hs o hok h1
  unfold Oper.wp
  rcases g1 with g1 | ⟨g1,rfl⟩
  ·rw [g1];exact hn v H' μ' cv w' h2 g2 g3 g4
  ·rw [g1];exact hn v H' μ' undef w' h2 g2 g3 g4
 have other:(match stepA P o.op s H with | some (v,H')=>K v H' | none=>False)->o.wp P a w next Q:=by
  intro h
  split at h
  ·rename_i v H' e;exact plain ⟨v,H',e,h⟩
  ·exact h.elim
 obtain ⟨dst,op,type,pos,after,guard⟩:=o
 cases op with
 | call c =>
  obtain ⟨callee,xs,ts⟩:=c
  cases callee with
  | value f =>
   simp only [stepW] at h
   simp only [opOK,Bool.and_eq_true] at hok
   split at h
   ·rename_i g fs caps e
    have hf:=hs.eval hok.2
    rw [e] at hf
    obtain ⟨es,ds,e2,hfs,hcaps⟩:=hf
    obtain ⟨⟨fn,f1,f2,f3⟩,hc⟩:=h
    have hargs:=evals_all2 hs xs.toList hok.1
    have hall:All2 (TRel μ) (fs.toList ++ (evalsA s xs ++ caps.toList)) (es ++ xs.map a.eval ++ ds).toList:=by
     rw [Array.toList_append,Array.toList_append,Array.toList_map,List.append_assoc]
     refine all2_append (all2_mono (fun _ _=>TRel.of_f) hfs) (all2_append hargs ?_)
     have key:∀ (as bs:List Value),All2 (CRel0 μ) as bs->All2 (TRel μ) as bs:=fun as bs hab=>all2_mono (fun _ _=>TRel.of0) hab
     exact key _ _ hcaps
    have hrun:(execOp a.eval ⟨dst,.call ⟨.value f,xs,ts⟩,type,pos,after,guard⟩).run P w=.ok (.enter g (es ++ xs.map a.eval ++ ds)) w:=by
     simp only [execOp,resolve,e2,Deferred.ofValue,pure_bind,invoke]
     simp only [callFunc,Sem.run_bind,run_program,Result.andThen_ok,f1,f3,Bool.false_eq_true,if_false,f2,Sem.run_pure]
    unfold Oper.wp
    rw [hrun]
    refine (hc μ w _ hH hall).mono ?_
    rintro e w' ⟨μ',r,H',cr,rfl,k1,k2,k3,k4⟩
    exact hn r H' μ' cr w' k4 k1 k2 k3
   ·exact h.elim
  | builtin b=>exact other h
  | invoke r m=>exact other h
 | _=>exact other h
end Go.Proofs.YtlcipphiflcaiaaGreat.Ai
namespace Go.Proofs.YtlcipphiflcaiaaGreat.Ai
open Go Go.RowKit
structure Opx where
 dst:Option Nat
 op:Op
 grd:Option (Nat × Bool)
structure Stp where
 x:Opx
 ws:List Opx
def Br (b:Bool)(A B:Prop):Prop:=(b=true->A)/\(b=false->B)
theorem Br.intro {b:Bool}{A B:Prop}(h1:b=true->A)(h2:b=false->B):Br b A B:=⟨h1,h2⟩
theorem Br.T (A B:Prop):Br true A B=A:=by simp [Br]
theorem Br.F (A B:Prop):Br false A B=B:=by simp [Br]
def runX (P:Program)(x:Opx)(s:Sl)(H:AH)(K:Value->AH->Prop):Prop :=
 match x.grd with
 | none=>stepW P x.op s H K
 | some (g,want)=>match s g with
  | .bool b=>(match want with | true=>Br b (stepW P x.op s H K) (K undef H) | false=>Br b (K undef H) (stepW P x.op s H K))
  | _=>K undef H
def idOf:Value->Option Nat
 | .pointer (some p)=>some p.block
 | .slice (some p) _ _=>some p.block
 | _=>none
def isMk:Op->Bool
 | .alloc _ | .box .. | .buildSlice .. | .makeSlice ..=>true
 | _=>false
def grdOn (g:Option (Nat × Bool))(s:Sl):Prop :=
 match g with
 | none=>True
 | some (g,want)=>s g=.bool want
def watch1 (P:Program)(x:Opx)(s:Sl)(H H':AH):Prop :=
 match x.dst with
 | none=>False
 | some d =>
  match isMk x.op with
  | true=>match idOf (s d) with | some o=>H'[o]?=H[o]? | none=>True
  | false=>grdOn x.grd s->stepA P x.op s H'=some (s d,H')
def watchA (P:Program)(s:Sl)(H H':AH):List Opx->Prop
 | []=>True
 | x :: xs=>watch1 P x s H H'/\watchA P s H H' xs
theorem watchA_mem {P:Program}{s:Sl}{H H':AH}{xs:List Opx}{x:Opx}(h:watchA P s H H' xs)(hm:x ∈ xs):watch1 P x s H H':=by
 induction xs with
 | nil=>cases hm
 | cons y xs ih =>
  simp only [watchA] at h
  rcases List.mem_cons.1 hm with e | hm
  ·rw [e];exact h.1
  ·exact ih h.2 hm
def wpSteps (P:Program)(Q:Sl->AH->Prop):List Stp->Sl->AH->Prop
 | [],s,H=>Q s H
 | t :: rest,s,H=>runX P t.x s H fun v H'=>watchA P (s.put t.x.dst v) H H' t.ws/\wpSteps P Q rest (s.put t.x.dst v) H'
def grdOf (ops:Array Oper)(o:Oper):Option (Option (Nat × Bool)) :=
 match o.guard with
 | none=>some none
 | some (j,want)=>match (ops[j]?).bind (·.dst) with | some d=>some (some (d,want)) | none=>none
def opxOf (ops:Array Oper)(o:Oper):Option Opx:=(grdOf ops o).map fun g=>⟨o.dst,o.op,g⟩
theorem oper_sound {P:Program}{N:Nat}{μ:Mu}{H:AH}{w:World}(hH:HRel P μ H w){s:Sl}{a:Act}(hs:SRel N μ s a){ops:Array Oper}{i:Nat}{o:Oper}(ho:ops[i]?=some o){g:Option (Nat × Bool)}(hg:grdOf ops o=some g)
  (hok:opOK o.op=true)(hd:∀ i,o.dst=some i->i<N){K:Value->AH->Prop}{next:Act->World->Prop}{Q:Exit->Act->World->Prop}(h:runX P ⟨o.dst,o.op,g⟩ s H K)
  (hn:∀ v H' μ' cv w',K v H'->TRel μ' v cv->HRel P μ' H' w'->Evo μ H w μ' H' w'->next (a.put o.dst cv) w'):wpOp P ops Q i next a w:=by
 unfold wpOp
 simp only [ho]
 unfold grdOf at hg
 unfold runX at h
 cases hgd:o.guard with
 | none =>
  rw [hgd] at hg
  cases hg
  rw [if_pos (by simp [Region.wanted,hgd])]
  exact .inl (stepW_sound hH hs o hok hd h hn)
 | some gw =>
  obtain ⟨j,want⟩:=gw
  rw [hgd] at hg
  simp only at hg
  have hy:=yielded_eq hs ops j
  unfold guardVal at hy
  rw [Array.getElem?_toList] at hy
  split at hg
  ·rename_i d e
   cases hg
   rw [e] at hy
   simp only at hy h
   split at h
   ·rename_i b eb
    rw [eb] at hy
    simp only at hy
    by_cases hb:b=want
    ·rw [if_pos (by simp [Region.wanted,hgd,hy,hb])]
     exact .inl (stepW_sound hH hs o hok hd (by subst hb;cases b <;> first | exact h.1 rfl | exact h.2 rfl) hn)
    ·rw [if_neg (by simp [Region.wanted,hgd,hy,hb])]
     exact hn undef H μ undef w (by cases b <;> cases want <;> first | exact h.1 rfl | exact h.2 rfl | exact absurd rfl hb) (TRel.undef _) hH (Evo.refl _ _ _)
   ·rename_i hnb
    have hy':yielded ops a.tmps j=none:=by
     rw [hy]
     split
     ·rename_i b eb;exact absurd eb (hnb b)
     ·rfl
    rw [if_neg (by simp [Region.wanted,hgd,hy'])]
    exact hn undef H μ undef w h (TRel.undef _) hH (Evo.refl _ _ _)
  ·cases hg
theorem Oper.wp_weaken {P:Program}{o:Oper}{a:Act}{w:World}{K K':Act->World->Prop}{Q Q':Exit->Act->World->Prop}(h:∀ a w,K a w->K' a w)(hq:∀ e a w,Q e a w->Q' e a w)(hh:o.wp P a w K Q):o.wp P a w K' Q':=by
 unfold Oper.wp at *
 generalize (execOp a.eval o).run P w=r at *
 cases r with
 | ok n w' =>
  cases n <;> simp only [Oper.upon] at hh ⊢ <;>
   first
    | exact h _ _ hh
    | exact Calls.mono hh (fun e w'' he=>by cases e <;> first | exact h _ _ he | exact hq _ _ _ he | (obtain ⟨a0,w0,h0⟩:=he;exact ⟨a0,w0,hq _ _ _ h0⟩))
    | exact Rows.mono hh (fun _ _ he=>h _ _ he)
 | halt x w'=>cases x <;> simp only [Oper.upon] at hh ⊢ <;> exact hq _ _ _ hh
theorem wpOps_weaken {P:Program}{ops:Array Oper}{Q Q':Exit->Act->World->Prop}(hq:∀ e a w,Q e a w->Q' e a w):∀ (is:List Nat) (a:Act) (w:World),wpOps P ops Q is a w->wpOps P ops Q' is a w:=by
 intro is
 induction is with
 | nil=>intro a w h;exact hq _ _ _ h
 | cons i is ihs =>
  intro a w2 h
  simp only [wpOps] at h ⊢
  split
  ·rename_i e;rw [e] at h;exact ihs _ _ h
  ·rename_i o2 e
   rw [e] at h
   simp only at h
   split
   ·rename_i hw;rw [if_pos hw] at h
    exact h.imp (Oper.wp_weaken ihs hq) (fun h=>⟨h.1,by obtain ⟨a0,w0,h0⟩:=h.2;exact ⟨a0,w0,hq _ _ _ h0⟩⟩)
   ·rename_i hw;rw [if_neg hw] at h;exact ihs _ _ h
def textSteps (ops:Array Oper):List Oper->Option (List Stp)
 | []=>some []
 | o :: l=>match opxOf ops o,textSteps ops l with
  | some x,some r=>some (⟨x,[]⟩ :: r)
  | _,_=>none
theorem text_sound {P:Program}{N:Nat}{ops:Array Oper}{Q:Exit->Sl->AH->Prop}:∀ (l:List Oper) (k:Nat),(∀ j,l[j]?=ops[k+j]?)->(∀ o ∈ l,opOK o.op=true/\∀ i,o.dst=some i->i<N)->∀ ts,textSteps ops l=some ts ->
  ∀ (s:Sl) (H:AH) (μ:Mu) (a:Act) (w:World),wpSteps P (Q .normal) ts s H->HRel P μ H w->SRel N μ s a->wpOps P ops (Post P N μ H w Q) (List.range' k l.length) a w
 | [],k,_,_,ts,ht,s,H,μ,a,w,h,hH,hs=>by
  simp only [textSteps,Option.some.injEq] at ht
  subst ht
  exact ⟨μ,s,H,hH,hs,Evo.refl _ _ _,h⟩
 | o :: l,k,hl,hok,ts,ht,s,H,μ,a,w,h,hH,hs=>by
  have h0:ops[k]?=some o:=by have:=hl 0;simpa using this.symm
  have hl':∀ j,l[j]?=ops[k+1+j]?:=fun j=>by have:=hl (j+1);rw [show k+(j+1)=k+1+j from by omega] at this;simpa using this
  simp only [textSteps] at ht
  split at ht
  ·rename_i x r hx hr
   cases ht
   unfold opxOf at hx
   cases hg:grdOf ops o with
   | none=>rw [hg] at hx;cases hx
   | some g =>
    rw [hg] at hx
    cases hx
    simp only [wpSteps] at h
    rw [List.length_cons,List.range'_succ,wpOps_cons]
    refine oper_sound hH hs h0 hg (hok o List.mem_cons_self).1 (hok o List.mem_cons_self).2 h ?_
    intro v H' μ' cv w' hk hv hH' he
    refine wpOps_weaken (fun e a w h=>Post.trans he h) _ _ _ ?_
    exact text_sound l (k+1) hl' (fun o ho=>hok o (List.mem_cons_of_mem _ ho)) r hr _ _ _ _ _ hk.2 hH' ((hs.mono he.le).put (hok o List.mem_cons_self).2 hv)
  ·cases ht
end Go.Proofs.YtlcipphiflcaiaaGreat.Ai
namespace Go.Proofs.YtlcipphiflcaiaaGreat.Ai
open Go Go.RowKit
def fl:Op->Nat
 | .move _ | .assign _ | .pick .. | .build .. | .nilCheck _ | .binOp .. | .unOp .. | .convert .. | .makeFunc .. | .fieldAddr .. | .field .. | .indexAddr .. | .index .. | .extract ..=>1
 | .load .. | .slice _ _ _ _ none=>2
 | .alloc _ | .box .. | .buildSlice .. | .makeSlice ..=>3
 | .call { callee:=.builtin .len,argTypes:=ts,.. }=>if ts.toList=[mapT] then 0 else 1
 | .call { callee:=.builtin .min,.. } | .call { callee:=.builtin .max,.. }=>1
 | _=>0
theorem fl_mk {op:Op}:fl op=3->isMk op=true:=by
 unfold fl;split <;> intro h <;> first | rfl | cases h | (split at h <;> cases h)
theorem fl_notmk {op:Op}:fl op=1∨fl op=2->isMk op=false:=by
 unfold fl;split <;> intro h <;> first | rfl | (rcases h with h | h <;> cases h)
theorem evalsA_congr {s s':Sl}{xs:List Operand}(h:∀ x ∈ xs,evalA s x=evalA s' x):xs.map (evalA s)=xs.map (evalA s'):=List.map_congr_left h
theorem stepA_congr {P:Program}{op:Op}{s s':Sl}(h:∀ x ∈ op.operands,evalA s x=evalA s' x)(H:AH):stepA P op s H=stepA P op s' H:=by
 cases op with
 | build t ps =>
  have:partsA s ps=partsA s' ps:=by
   unfold partsA
   exact List.map_congr_left fun p hp=>by rw [h p.2 (by simpa [Op.operands] using ⟨p.1,by simpa using hp⟩)]
  simp only [stepA,this]
 | buildSlice t n ps =>
  have:partsA s ps=partsA s' ps:=by
   unfold partsA
   exact List.map_congr_left fun p hp=>by rw [h p.2 (by simpa [Op.operands] using ⟨p.1,by simpa using hp⟩)]
  simp only [stepA,this]
 | makeFunc fn first caps =>
  have h1:evalsA s first=evalsA s' first:=evalsA_congr fun x hx=>h x (by simp [Op.operands];exact .inl (by simpa using hx))
  have h2:evalsA s caps=evalsA s' caps:=evalsA_congr fun x hx=>h x (by simp [Op.operands];exact .inr (by simpa using hx))
  simp only [stepA,h1,h2]
 | slice t x lo hi mx =>
  have h0:=h x (by simp [Op.operands])
  have h1:lo.map (evalA s)=lo.map (evalA s'):=by cases lo <;> first | rfl | (simp only [Option.map_some];rw [h _ (by simp [Op.operands])])
  have h2:hi.map (evalA s)=hi.map (evalA s'):=by cases hi <;> first | rfl | (simp only [Option.map_some];rw [h _ (by simp [Op.operands])])
  cases mx with
  | none=>simp only [stepA,h0,h1,h2]
  | some m =>
   have h3:=h m (by simp [Op.operands])
   simp only [stepA,h0,h1,h2,h3]
 | call c =>
  obtain ⟨callee,xs,ts⟩:=c
  cases callee with
  | builtin b =>
   have:evalsA s xs=evalsA s' xs:=evalsA_congr fun x hx=>h x (by simp [Op.operands,Call.operands];simpa using hx)
   simp only [stepA,this]
  | _=>rfl
 | move x=>simp only [stepA,h x (by simp [Op.operands])]
 | assign x=>simp only [stepA,h x (by simp [Op.operands])]
 | box e x=>simp only [stepA,h x (by simp [Op.operands])]
 | load e x=>simp only [stepA,h x (by simp [Op.operands])]
 | nilCheck x=>simp only [stepA,h x (by simp [Op.operands])]
 | unOp o e x=>simp only [stepA,h x (by simp [Op.operands])]
 | convert e f x=>simp only [stepA,h x (by simp [Op.operands])]
 | fieldAddr e x f=>simp only [stepA,h x (by simp [Op.operands])]
 | field e x f=>simp only [stepA,h x (by simp [Op.operands])]
 | extract x f=>simp only [stepA,h x (by simp [Op.operands])]
 | pick c x y=>simp only [stepA,h c (by simp [Op.operands]),h x (by simp [Op.operands]),h y (by simp [Op.operands])]
 | store e x y=>simp only [stepA,h x (by simp [Op.operands]),h y (by simp [Op.operands])]
 | binOp o e x y f=>simp only [stepA,h x (by simp [Op.operands]),h y (by simp [Op.operands])]
 | makeSlice e x y=>simp only [stepA,h x (by simp [Op.operands]),h y (by simp [Op.operands])]
 | indexAddr e x y=>simp only [stepA,h x (by simp [Op.operands]),h y (by simp [Op.operands])]
 | index e x y=>simp only [stepA,h x (by simp [Op.operands]),h y (by simp [Op.operands])]
 | lookup e x y b=>simp only [stepA,h x (by simp [Op.operands]),h y (by simp [Op.operands])]
 | mapUpdate e x y z=>simp only [stepA,h x (by simp [Op.operands]),h y (by simp [Op.operands]),h z (by simp [Op.operands])]
 | insert e x y z=>simp only [stepA,h x (by simp [Op.operands]),h y (by simp [Op.operands]),h z (by simp [Op.operands])]
 | makeMap t r=>cases r <;> rfl
 | _=>rfl
theorem stepW_congr {P:Program}{op:Op}{s s':Sl}(h:∀ x ∈ op.operands,evalA s x=evalA s' x)(H:AH)(K:Value->AH->Prop):stepW P op s H K=stepW P op s' H K:=by
 cases op with
 | call c =>
  obtain ⟨callee,xs,ts⟩:=c
  cases callee with
  | value f =>
   have h1:evalsA s xs=evalsA s' xs:=evalsA_congr fun x hx=>h x (by simp [Op.operands,Call.operands];exact .inr (by simpa using hx))
   have h2:evalA s f=evalA s' f:=h f (by simp [Op.operands,Call.operands])
   simp only [stepW,h1,h2]
  | builtin b=>simp only [stepW,stepA_congr h]
  | invoke r m=>simp only [stepW,stepA_congr h]
 | _=>simp only [stepW,stepA_congr h]
theorem pair_map {x:Option Value}{v:Value}{H H1:AH}(h:x.map (·,H)=some (v,H1)):H1=H/\x=some v:=by
 cases x with
 | none=>cases h
 | some a=>simp only [Option.map_some,Option.some.injEq,Prod.mk.injEq] at h;exact ⟨h.2.symm,by rw [h.1]⟩
theorem pure_step {P:Program}{op:Op}{s:Sl}{H H1:AH}{v:Value}(hp:fl op=1)(h:stepA P op s H=some (v,H1)):H1=H/\∀ H2,stepA P op s H2=some (v,H2):=by
 cases op with
 | move x=>simp only [stepA,Option.some.injEq,Prod.mk.injEq] at h ⊢;exact ⟨h.2.symm,fun _=>⟨h.1,trivial⟩⟩
 | assign x=>simp only [stepA,Option.some.injEq,Prod.mk.injEq] at h ⊢;exact ⟨h.2.symm,fun _=>⟨h.1,trivial⟩⟩
 | pick c x y =>
  simp only [stepA] at h ⊢
  split at h
  ·simp only [Option.some.injEq,Prod.mk.injEq] at h ⊢;exact ⟨h.2.symm,fun _=>⟨h.1,trivial⟩⟩
  ·cases h
 | nilCheck x =>
  simp only [stepA] at h ⊢
  split at h
  ·simp only [Option.some.injEq,Prod.mk.injEq] at h ⊢;exact ⟨h.2.symm,fun _=>⟨h.1,trivial⟩⟩
  ·simp only [Option.some.injEq,Prod.mk.injEq] at h ⊢;exact ⟨h.2.symm,fun _=>⟨h.1,trivial⟩⟩
  ·cases h
 | build t ps=>obtain ⟨e,k⟩:=pair_map h;exact ⟨e,fun H2=>by simp only [stepA,k,Option.map_some]⟩
 | binOp o t x y f=>obtain ⟨e,k⟩:=pair_map h;exact ⟨e,fun H2=>by simp only [stepA,k,Option.map_some]⟩
 | unOp o t x=>obtain ⟨e,k⟩:=pair_map h;exact ⟨e,fun H2=>by simp only [stepA,k,Option.map_some]⟩
 | convert t f x=>obtain ⟨e,k⟩:=pair_map h;exact ⟨e,fun H2=>by simp only [stepA,k,Option.map_some]⟩
 | makeFunc t f x=>obtain ⟨e,k⟩:=pair_map h;exact ⟨e,fun H2=>by simp only [stepA,k,Option.map_some]⟩
 | fieldAddr t x f=>obtain ⟨e,k⟩:=pair_map h;exact ⟨e,fun H2=>by simp only [stepA,k,Option.map_some]⟩
 | field t x f=>obtain ⟨e,k⟩:=pair_map h;exact ⟨e,fun H2=>by simp only [stepA,k,Option.map_some]⟩
 | indexAddr t x f=>obtain ⟨e,k⟩:=pair_map h;exact ⟨e,fun H2=>by simp only [stepA,k,Option.map_some]⟩
 | index t x f=>obtain ⟨e,k⟩:=pair_map h;exact ⟨e,fun H2=>by simp only [stepA,k,Option.map_some]⟩
 | extract x f=>obtain ⟨e,k⟩:=pair_map h;exact ⟨e,fun H2=>by simp only [stepA,k,Option.map_some]⟩
 | call c =>
  obtain ⟨callee,xs,ts⟩:=c
  cases callee with
  | builtin b =>
   cases b with
   | len =>
    simp only [stepA] at h ⊢
    have ht0:∀ t:TypeId,ts.toList=[t]->¬ t=mapT:=fun t e1 e=>by
     have hp':(if ts.toList=[mapT] then 0 else 1)=1:=hp
     rw [e1,e,if_pos rfl] at hp'
     cases hp'
    unfold builtinA at h ⊢
    split at h <;> first | (rename_i hb _ _;cases hb;done) | (rename_i hb;cases hb;done) | cases h | skip
    all_goals
     rename_i e1 e2
     rw [if_neg (ht0 _ e1)] at h
     obtain ⟨e,k⟩:=pair_map h
     refine ⟨e,fun H2=>?_⟩
     simp only [e1,e2,if_neg (ht0 _ e1),k,Option.map_some]
   | min =>
    simp only [stepA,builtinA] at h ⊢
    obtain ⟨e,k⟩:=pair_map h;exact ⟨e,fun H2=>by simp only [k,Option.map_some]⟩
   | max =>
    simp only [stepA,builtinA] at h ⊢
    obtain ⟨e,k⟩:=pair_map h;exact ⟨e,fun H2=>by simp only [k,Option.map_some]⟩
   | _=>cases hp
  | _=>cases hp
 | slice t x lo hi mx=>cases mx <;> cases hp
 | _=>cases hp
theorem read_step {P:Program}{op:Op}{s:Sl}{H H1:AH}{v:Value}(hp:fl op=2)(h:stepA P op s H=some (v,H1)):H1=H/\∀ o,stepA P op s (H ++ [o])=some (v,H ++ [o]):=by
 have look:∀ {b:Nat} {x:AObj} (o:AObj),H[b]?=some x->(H ++ [o])[b]?=some x:=by
  intro b x o hb
  rw [List.getElem?_append_left (List.getElem?_eq_some_iff.1 hb).1];exact hb
 cases op with
 | load t x =>
  obtain ⟨e,k⟩:=pair_map h
  refine ⟨e,fun o=>?_⟩
  have k2:loadA P t (evalA s x) (H ++ [o])=some v:=by
   unfold loadA at k ⊢
   split at k
   ·split at k
    ·rename_i hb;simp only [look o hb];exact k
    ·cases k
   ·cases k
  simp only [stepA,k2,Option.map_some]
 | slice t x lo hi mx =>
  cases mx with
  | some m=>cases hp
  | none =>
  obtain ⟨e,k⟩:=pair_map h
  refine ⟨e,fun o=>?_⟩
  have k2:sliceA P t (evalA s x) (lo.map (evalA s)) (hi.map (evalA s)) none (H ++ [o])=some v:=by
   unfold sliceA at k ⊢
   split at k
   ·split at k
    ·rename_i h1 h2 hb;simp only [h1,h2,look o hb];exact k
    ·cases k
   ·exact k
   ·cases k
  simp only [stepA,k2,Option.map_some]
 | call c =>
  obtain ⟨callee,xs,ts⟩:=c
  cases callee with
  | builtin b=>cases b <;> first | cases hp | (simp only [fl] at hp;split at hp <;> cases hp)
  | _=>cases hp
 | _=>cases hp
def Made (P:Program)(op:Oper)(s:Sl)(vof:Nat->Value)(obj:AObj):Prop :=
 ∀ (N:Nat) (μ:Mu) (a:Act) (w:World),SRel N μ s a->∃ cv cur t vs ext,obj=.cells vs t false/\(execOp a.eval op).run P w=.ok (.value cv) (w.alloc (.cells cur t)) /\
  0<P.cellsOf t/\vs.length<=ext/\ext<=cur.size/\(∀ (i:Nat) (v:Value),vs[i]?=some v->∃ cv,cur[i]?=some cv/\CRel μ v cv) /\
  ∀ (μ':Mu) o,μ' o=some ⟨w.heap.size,0,ext,P.cellsOf t⟩->TRel μ' (vof o) cv
theorem box_made {P:Program}{t:TypeId}{v v':Value}{H H':AH}(h:boxA P t v H=some (v',H')) :
  ∃ (vof:Nat->Value) (obj:AObj),v'=vof H.length/\H'=H ++ [obj]/\idOf v'=some H.length/\∀ (μ:Mu) (w:World) (cv:Value),TRel μ v cv->∃ c cur vs ext,obj=.cells vs t false/\(Instr.box t cv).run P w=.ok c (w.alloc (.cells cur t)) /\
  0<P.cellsOf t/\vs.length<=ext/\ext<=cur.size/\(∀ (i:Nat) (v:Value),vs[i]?=some v->∃ cv,cur[i]?=some cv/\CRel μ v cv) /\
  ∀ (μ':Mu) o,μ' o=some ⟨w.heap.size,0,ext,P.cellsOf t⟩->TRel μ' (vof o) c:=by
 unfold boxA at h
 split at h
 ·rename_i hc
  cases h
  refine ⟨fun o=>.pointer (some ⟨o,0,none⟩),_,rfl,rfl,rfl,?_⟩
  intro μ w cv hv
  have hcs:=(VRel.of_t' hc.1 hv).cells
  have hl:=all2_len hcs
  refine ⟨.pointer (some ⟨w.heap.size,0,none⟩),cv.cells,_,cv.cells.size,rfl,by simp [Instr.box,newVar,newRow],hc.2,by rw [<- Array.length_toList,<- hl];exact Nat.le_refl _,Nat.le_refl _,?_,?_⟩
  ·intro i x hx
   obtain ⟨y,h1,h2⟩:=all2_at hcs i x hx
   exact ⟨y,by simpa using h1,h2⟩
  ·intro μ' o ho
   exact ⟨rfl,_,ho,by simp⟩
 ·cases h
theorem mk_step {P:Program}{o:Oper}{s:Sl}{H H1:AH}{v:Value}(hp:fl o.op=3)(hok:opOK o.op=true)(h:stepA P o.op s H=some (v,H1)) :
  ∃ (vof:Nat->Value) (obj:AObj),v=vof H.length/\H1=H ++ [obj]/\idOf v=some H.length/\Made P o s vof obj:=by
 obtain ⟨dst,op,type,pos,after,guard⟩:=o
 simp only at h hok hp
 cases op with
 | box e x =>
  obtain ⟨vof,obj,h1,h2,h0,h3⟩:=box_made h
  refine ⟨vof,obj,h1,h2,h0,?_⟩
  intro N μ a w hs
  obtain ⟨c,cur,vs,ext,g1,g2,g3⟩:=h3 μ w _ (hs.eval hok)
  refine ⟨c,cur,e,vs,ext,g1,?_,g3⟩
  simp only [execOp,Sem.run_bind]
  have:(Instr.box e (a.eval x)).run P w=.ok c (w.alloc (.cells cur e)):=g2
  rw [this];rfl
 | alloc e =>
  have h':allocA P e H=some (v,H1):=h
  unfold allocA at h'
  split at h'
  ·rename_i z hz
   split at h'
   ·rename_i hpz
    obtain ⟨vof,obj,h1,h2,h0,h3⟩:=box_made h'
    refine ⟨vof,obj,h1,h2,h0,?_⟩
    intro N μ a w hs
    obtain ⟨c,cur,vs,ext,g1,g2,g3⟩:=h3 μ w _ (plainV_self μ hpz)
    refine ⟨c,cur,e,vs,ext,g1,?_,g3⟩
    have:(Instr.alloc e true (.tuple #[])).run P w=.ok c (w.alloc (.cells cur e)):=by
     simpa [Instr.alloc,zeroA_run hz,Instr.box] using g2
    simp only [execOp,Sem.run_bind]
    rw [this];rfl
   ·cases h'
  ·cases h'
 | buildSlice t len ps =>
  have h':buildSliceA P t len (partsA s ps) H=some (v,H1):=h
  unfold buildSliceA at h'
  split at h'
  ·rename_i e hu
   split at h'
   ·rename_i hc
    obtain ⟨hsz,hbd,hnt⟩:=hc
    split at h'
    ·rename_i z hz
     split at h'
     ·rename_i hp
      obtain ⟨hp,hzs⟩:=hp
      split at h'
      ·rename_i r hf
       cases h'
       refine ⟨fun o=>.slice (some ⟨o,0,none⟩) len len,_,rfl,rfl,rfl,?_⟩
       intro N μ a w hs
       have hps:=parts_all2 hs ps.toList hok hnt
       obtain ⟨r',hf',hall⟩:=fill_all2 (μ:=μ) (fun i=>some (i * P.cellsOf e,P.cellsOf e)) _ _ (zerosA z (len * P.cellsOf e)).toArray ((Array.range (len * P.cellsOf e)).map (z.cells[· % z.cells.size]!)) r hps (by
        exact zerosA_all2 μ hp _ (by omega)) hf
       have hl:=all2_len hall
       have hr':r'.size=len * P.cellsOf e:=by rw [fill_size _ _ _ _ hf'];simp
       refine ⟨.slice (some ⟨w.heap.size,0,none⟩) len len,r',e,_,r'.size,rfl,?_,hsz,by rw [hl];simp,Nat.le_refl _,?_,?_⟩
       ·have hps':(ps.map fun (i,x)=>(i,a.eval x)).toList=ps.toList.map fun p=>(p.1,a.eval p.2):=by simp
        have hrun:(Instr.buildSlice t len (ps.map fun (i,x)=>(i,a.eval x))).run P w=.ok (.slice (some ⟨w.heap.size,0,none⟩) len len) (w.alloc (.cells r' e)):=by
         simp only [Instr.buildSlice,Sem.run_bind,run_underlying hu,Result.andThen_ok,sizeOf_run hsz,Sem.run_ite]
         rw [if_neg (by omega)]
         by_cases h0:len * P.cellsOf e=0
         ·rw [if_pos h0]
          simp only [Sem.run_pure,Result.andThen_ok]
          rw [h0] at hf' ⊢
          have hf2:Instr.fill (fun i=>some (i * P.cellsOf e,P.cellsOf e)) ((Array.range 0).map fun x=>(#[]:Array Value)[x % (#[]:Array Value).size]!) (ps.map fun (i,x)=>(i,a.eval x)).toList=some r':=by
           have hnil:∀ f:Nat->Value,(Array.range 0).map f=#[]:=fun f=>by simp
           rw [hnil] at hf' ⊢
           rw [hps'];exact hf'
          rw [hf2]
          simp [newRow]
         ·rw [if_neg h0]
          simp only [Sem.run_bind,zeroA_run hz,Result.andThen_ok,Sem.run_pure]
          rw [hps',hf']
          simp [newRow]
        simp only [execOp,Sem.run_bind]
        rw [hrun];rfl
       ·intro i x hx
        obtain ⟨y,h1,h2⟩:=all2_at hall i x hx
        exact ⟨y,by simpa using h1,h2⟩
       ·intro μ' o ho
        refine ⟨rfl,rfl,_,len,rfl,Nat.le_refl _,.inr ⟨_,ho,by simp,?_⟩⟩
        show 0+len * P.cellsOf e<=r'.size
        omega
      ·cases h'
     ·cases h'
    ·cases h'
   ·cases h'
  ·cases h'
 | makeSlice t l c =>
  have h':makeSliceA P t (evalA s l) (evalA s c) H=some (v,H1):=h
  simp only [opOK,Bool.and_eq_true] at hok
  generalize hl:evalA s l=vl at h'
  generalize hc:evalA s c=vc at h'
  unfold makeSliceA at h'
  split at h'
  ·rename_i n m e hu
   split at h'
   ·rename_i hcnd
    obtain ⟨rfl,h0,hsz,hby,hmx⟩:=hcnd
    split at h'
    ·rename_i z hz
     split at h'
     ·rename_i hp
      obtain ⟨hp,hzs⟩:=hp
      cases h'
      refine ⟨fun o=>.slice (some ⟨o,0,none⟩) n.toNat n.toNat,_,rfl,rfl,rfl,?_⟩
      intro N μ a w hs
      have e1:=hs.eval hok.1
      have e2:=hs.eval hok.2
      rw [hl] at e1
      rw [hc] at e2
      have e1:a.eval l=.int .i64 n:=e1
      have e2:a.eval c=.int .i64 n:=e2
      obtain ⟨i,hi,hi1,hi2⟩:=sizeOf_info hsz
      refine ⟨.slice (some ⟨w.heap.size,0,none⟩) n.toNat n.toNat,(Array.range (n.toNat * P.cellsOf e)).map (z.cells[· % z.cells.size]!),e,_,n.toNat * P.cellsOf e,rfl,?_,hsz,by simp [zerosA],by simp,?_,?_⟩
      ·have hw:IntKind.i64.wrap n=n:=by rw [IntKind.wrap_i64];omega
       have hbi:(i.bytes:Int) * n<=281474976710656:=by
        rw [hi2]
        have:(n.toNat:Int)=n:=by omega
        rw [<- this]
        have h2:(((n.toNat * P.bytesOf e:Nat)):Int)<=281474976710656:=by omega
        rw [Int.natCast_mul] at h2
        rw [Int.mul_comm];exact h2
       have hn0:¬ n<0:=by omega
       have hbi':¬ (281474976710656<(i.bytes:Int) * n):=by omega
       have hrun:(Instr.makeSlice t (.int .i64 n) (.int .i64 n)).run P w=.ok (.slice (some ⟨w.heap.size,0,none⟩) n.toNat n.toNat) (w.alloc (.cells ((Array.range (n.toNat * P.cellsOf e)).map (z.cells[· % z.cells.size]!)) e)):=by
        simp only [Instr.makeSlice,Sem.run_bind,run_underlying hu,Result.andThen_ok,asInt,asIntOf,Sem.run_pure,typeInfo,run_program,hi,hw]
        simp [hn0,hbi',sizeOf_run hsz]
        by_cases h00:n.toNat * P.cellsOf e=0
        ·have hnil:∀ f:Nat->Value,(Array.range 0).map f=#[]:=fun f=>by simp
         rw [if_pos h00,h00]
         simp only [Result.andThen_ok,newRow,Sem.run_bind,run_newObj,Sem.run_pure,hnil]
         rfl
        ·rw [if_neg h00]
         simp [zeroA_run hz,newRow]
       simp only [execOp,Sem.run_bind,e1,e2]
       rw [hrun];rfl
      ·intro i x hx
       obtain ⟨y,h1,h2⟩:=all2_at (zerosA_all2 μ hp (n.toNat * P.cellsOf e) (by omega)) i x hx
       exact ⟨y,by rw [Array.getElem?_toList] at h1;exact h1,h2⟩
      ·intro μ' o ho
       exact ⟨rfl,rfl,_,n.toNat,rfl,Nat.le_refl _,.inr ⟨_,ho,by simp,by simp⟩⟩
     ·cases h'
    ·cases h'
   ·cases h'
  ·cases h'
 | call c =>
  obtain ⟨callee,xs,ts⟩:=c
  cases callee with
  | builtin b=>cases b <;> first | cases hp | (simp only [fl] at hp;split at hp <;> cases hp)
  | _=>cases hp
 | slice t x lo hi mx=>cases mx <;> cases hp
 | _=>cases hp
theorem HRel.realize {P:Program}{μ:Mu}{H:AH}{w:World}(h:HRel P μ H w){o:Nat}{t:TypeId}{vs:List Value}{cur:Array Value}{ext:Nat}(ho:H[o]?=some (.cells vs t false))(hm:μ o=none)
  (hsz:0<P.cellsOf t)(hl:vs.length<=ext)(he:ext<=cur.size)(hc:∀ (i:Nat) (v:Value),vs[i]?=some v->∃ cv,cur[i]?=some cv/\CRel μ v cv) :
  HRel P (μ.put o ⟨w.heap.size,0,ext,P.cellsOf t⟩) H (w.alloc (.cells cur t)):=by
 have hlt:o<H.length:=(List.getElem?_eq_some_iff.1 ho).1
 have hle:μ.Le (μ.put o ⟨w.heap.size,0,ext,P.cellsOf t⟩):=Mu.le_put hm
 have hnew:(w.alloc (.cells cur t)).heap[w.heap.size]?=some (.cells cur t (0,0)):=by show (w.heap.push _)[w.heap.size]?=_;simp
 have hold:∀ b,b<w.heap.size->(w.alloc (.cells cur t)).heap[b]?=w.heap[b]?:=fun b hb=>Below.heap_alloc w _ b hb
 refine ⟨?_,?_,?_,?_⟩
 ·intro i hi
  rw [Mu.put_other _ _ _ (by omega)];exact h.dom i hi
 ·intro i vs' t' ro L hi hL
  by_cases e:i=o
  ·subst e
   rw [ho] at hi
   simp only [Option.some.injEq,AObj.cells.injEq] at hi
   obtain ⟨rfl,rfl,rfl⟩:=hi
   rw [Mu.put_same] at hL
   cases hL
   refine ⟨by simp,hsz,rfl,hl,?_,fun _=>⟨cur,hnew,by simpa using he⟩⟩
   intro j v hv
   obtain ⟨cv,g1,g2⟩:=hc j v hv
   exact ⟨cv,by rw [cells_at hnew];simpa using g1,g2.mono hle⟩
  ·rw [Mu.put_other _ _ _ e] at hL
   obtain ⟨h2,h3,h4,h5,h6,h7⟩:=h.cells_ i vs' t' ro L hi hL
   refine ⟨by simp;omega,h3,h4,h5,?_,?_⟩
   ·intro j v hv
    obtain ⟨cv,g1,g2⟩:=h6 j v hv
    exact ⟨cv,by rw [cell_of_block (a:=⟨L.blk,L.base+j,none⟩) (hold _ h2)];exact g1,g2.mono hle⟩
   ·intro hr
    rw [hold _ h2];exact h7 hr
 ·intro i es L hi hL
  by_cases e:i=o
  ·subst e;rw [ho] at hi;cases hi
  ·rw [Mu.put_other _ _ _ e] at hL
   obtain ⟨cs,clock,h2,h3⟩:=h.maps_ i es L hi hL
   refine ⟨cs,clock,?_,all2_mono (fun a b hab=>⟨hab.1.mono hle,hab.2.mono hle⟩) h3⟩
   rw [hold _ (Array.getElem?_eq_some_iff.1 h2).1];exact h2
 ·intro i i' x x' L L' hne h1 h2 h3 h4 h5 h6
  have hx:x.live=true:=by cases x <;> first | rfl | cases h3
  by_cases e:i=o
  ·subst e
   rw [Mu.put_same] at h5
   cases h5
   rw [Mu.put_other _ _ _ (fun e=>hne e.symm)] at h6
   have g2:=h.live_lt h2 h4 h6
   show w.heap.size ≠ L'.blk
   omega
  ·rw [Mu.put_other _ _ _ e] at h5
   by_cases e':i'=o
   ·subst e'
    rw [Mu.put_same] at h6
    cases h6
    have g2:=h.live_lt h1 hx h5
    show L.blk ≠ w.heap.size
    omega
   ·rw [Mu.put_other _ _ _ e'] at h6
    exact h.sep i i' x x' L L' hne h1 h2 h3 h4 h5 h6
theorem Evo.realize {μ0 μ:Mu}{H0 H:AH}{w0 w:World}(h:Evo μ0 H0 w0 μ H w){o:Nat}(hm:μ o=none)(hlo:H0.length<=o)(L:Loc)(hL:L.blk=w.heap.size)(c:Obj):Evo μ0 H0 w0 (μ.put o L) H (w.alloc c):=by
 refine ⟨h.le.trans (Mu.le_put hm),h.len,fun i hi=>by rw [Mu.put_other _ _ _ (by omega)];exact h.old i hi,h.os,h.tape,h.output,by simp;have:=h.size;omega,?_,?_⟩
 ·intro b hb hn
  rw [Below.heap_alloc w _ b (by have:=h.size;omega)]
  exact h.frame b hb hn
 ·intro i x L' h1 h2 h3
  by_cases e:i=o
  ·subst e
   rw [Mu.put_same] at h3
   cases h3
   exact .inl (by rw [hL];exact h.size)
  ·rw [Mu.put_other _ _ _ e] at h3
   exact h.own i x L' h1 h2 h3
end Go.Proofs.YtlcipphiflcaiaaGreat.Ai
namespace Go.Proofs.YtlcipphiflcaiaaGreat.Ai
open Go Go.RowKit
def readsOf (x:Opx):List Nat:=(x.op.operands.toList.filterMap fun | .tmp t=>some t | _=>none) ++ (match x.grd with | some (g,_)=>[g] | none=>[])
def opxAt (ops:Array Oper)(j:Nat):Option Opx:=(ops[j]?).bind (opxOf ops)
def bitsOk (ops:Array Oper)(B:Array Nat):Bool :=
 (List.range ops.size).all fun i=>match ops[i]? with
  | some o=>(B.getD i 0 == o.after.toList.foldl (fun s e=>if Region.binds .any e=true then s ||| 2 ^ e.on ||| B.getD e.on 0 else s) 0) && o.after.toList.all (fun e=>!Region.binds .any e || decide (e.on<i))
  | none=>false
def drawChk (N:Nat)(ops:Array Oper)(B:Array Nat):List (Nat × Bool)->List Nat->Option Nat->Bool
 | [],pre,_=>(List.range ops.size).all fun i=>pre.contains i
 | (i,c) :: rest,pre,last =>
  match ops[i]? with
  | none=>false
  | some o =>
   match opxOf ops o with
   | none=>false
   | some x =>
    !pre.contains i && opOK o.op && o.dst.all (fun d=>decide (d<N)) && (match last with | some l=>(B.getD i 0).testBit l | none=>true) &&
    (pre.all fun j=>match opxAt ops j with
     | some y=>(match y.dst with | some d=>!(readsOf x).contains d || (B.getD i 0).testBit j | none=>true) &&
       (match x.dst with | some d=>(c && (B.getD i 0).testBit j) || (!(readsOf y).contains d && y.dst != some d) | none=>true)
     | none=>false) &&
    (c || (fl o.op != 0 && o.dst.isSome && x.dst.all (fun d=>!(readsOf x).contains d))) && drawChk N ops B rest (i :: pre) (if c=true then some i else last)
def wsOf (ops:Array Oper)(B:Array Nat)(pre:List Nat)(i:Nat):List Opx :=
 pre.filterMap fun j=>if (B.getD i 0).testBit j=true then none else match opxAt ops j with | some y=>if 2<=fl y.op then some y else none | none=>none
def stepsOf (ops:Array Oper)(B:Array Nat):List (Nat × Bool)->List Nat->List Stp
 | [],_=>[]
 | (i,c) :: rest,pre=>match opxAt ops i with
  | some x=>⟨x,if c=true then wsOf ops B pre i else []⟩ :: stepsOf ops B rest (i :: pre)
  | none=>[]
theorem eval_of_reads {x:Opx}{s s':Sl}(h:∀ i ∈ readsOf x,s' i=s i):∀ o ∈ x.op.operands,evalA s' o=evalA s o:=by
 intro o ho
 cases o with
 | tmp t=>exact h t (List.mem_append_left _ (List.mem_filterMap.2 ⟨.tmp t,by simpa using ho,rfl⟩))
 | _=>rfl
theorem grdOn_congr {x:Opx}{s s':Sl}(h:∀ i ∈ readsOf x,s' i=s i):grdOn x.grd s'↔grdOn x.grd s:=by
 unfold grdOn
 cases hg:x.grd with
 | none=>exact Iff.rfl
 | some g =>
  obtain ⟨g,want⟩:=g
  have:s' g=s g:=h g (List.mem_append_right _ (by rw [hg];simp))
  simp only [this]
theorem runX_congr {P:Program}{x:Opx}{s s':Sl}(h:∀ i ∈ readsOf x,s' i=s i)(H:AH)(K:Value->AH->Prop):runX P x s' H K=runX P x s H K:=by
 unfold runX
 have h1:=stepW_congr (P:=P) (eval_of_reads h) H K
 cases hg:x.grd with
 | none=>simp only [h1]
 | some g =>
  obtain ⟨g,want⟩:=g
  have:s' g=s g:=h g (List.mem_append_right _ (by rw [hg];simp))
  simp only [this,h1]
theorem runX_fl {P:Program}{x:Opx}{s:Sl}{H:AH}{K:Value->AH->Prop}(hf:fl x.op ≠ 0)(h:runX P x s H K):∃ v H',K v H'/\((¬ grdOn x.grd s/\v=undef/\H'=H)∨(grdOn x.grd s/\stepA P x.op s H=some (v,H'))):=by
 have key:stepW P x.op s H K->∃ v H',K v H'/\stepA P x.op s H=some (v,H'):=by
  intro h
  have other:(match stepA P x.op s H with | some (v,H')=>K v H' | none=>False)->∃ v H',K v H'/\stepA P x.op s H=some (v,H'):=by
   intro h
   split at h
   ·rename_i v H' e;exact ⟨v,H',h,e⟩
   ·exact h.elim
  obtain ⟨dst,op,grd⟩:=x
  cases op with
  | call c =>
   obtain ⟨callee,xs,ts⟩:=c
   cases callee with
   | value f=>exact absurd rfl hf
   | builtin b=>exact other h
   | invoke r m=>exact other h
  | _=>exact other h
 unfold runX at h
 cases hg:x.grd with
 | none =>
  rw [hg] at h
  obtain ⟨v,H',h1,h2⟩:=key h
  exact ⟨v,H',h1,.inr ⟨trivial,h2⟩⟩
 | some g =>
  obtain ⟨g,want⟩:=g
  rw [hg] at h
  simp only at h
  split at h
  ·rename_i b e
   by_cases hb:b=want
   ·obtain ⟨v,H',h1,h2⟩:=key (by subst hb;cases b <;> first | exact h.1 rfl | exact h.2 rfl)
    exact ⟨v,H',h1,.inr ⟨by simp [grdOn,e,hb],h2⟩⟩
   ·exact ⟨undef,H,(by cases b <;> cases want <;> first | exact h.1 rfl | exact h.2 rfl | exact absurd rfl hb),.inl ⟨by simp [grdOn,e,hb],rfl,rfl⟩⟩
  ·rename_i hn
   exact ⟨undef,H,h,.inl ⟨by simp only [grdOn];exact hn want,rfl,rfl⟩⟩
theorem opxOf_some {ops:Array Oper}{o:Oper}{x:Opx}(h:opxOf ops o=some x):grdOf ops o=some x.grd/\x.dst=o.dst/\x.op=o.op:=by
 unfold opxOf at h
 cases hg:grdOf ops o with
 | none=>rw [hg] at h;cases h
 | some g=>rw [hg] at h;cases h;exact ⟨rfl,rfl,rfl⟩
theorem wanted_iff {N:Nat}{μ:Mu}{s:Sl}{a:Act}(hs:SRel N μ s a){ops:Array Oper}{o:Oper}{x:Opx}(hx:opxOf ops o=some x):Region.wanted o (yielded ops a.tmps)=true↔grdOn x.grd s:=by
 have hg:=(opxOf_some hx).1
 unfold grdOf at hg
 unfold Region.wanted grdOn
 cases hgd:o.guard with
 | none=>rw [hgd] at hg;simp only [Option.some.injEq] at hg;rw [<- hg];simp
 | some gw =>
  obtain ⟨j,want⟩:=gw
  rw [hgd] at hg
  simp only at hg
  have hy:=yielded_eq hs ops j
  unfold guardVal at hy
  rw [Array.getElem?_toList] at hy
  split at hg
  ·rename_i d e
   simp only [Option.some.injEq] at hg
   rw [<- hg]
   rw [e] at hy
   simp only at hy ⊢
   rw [hy]
   split
   ·rename_i b eb;rw [eb];simp
   ·rename_i hn
    constructor
    ·intro h;simp at h
    ·intro h;exact absurd h (hn want)
  ·cases hg
structure Lag (P:Program) (s:Sl) (μ:Mu) (H0 H:AH) (id:Nat) (x:Opx):Prop where
 flt:fl x.op ≠ 0
 dst:∃ d,x.dst=some d/\(¬ grdOn x.grd s->s d=undef)/\(grdOn x.grd s ->
  (fl x.op=1->∀ H2,stepA P x.op s H2=some (s d,H2))/\(fl x.op=2->stepA P x.op s H=some (s d,H)) /\
  (fl x.op=3->∃ H1 obj,stepA P x.op s H1=some (s d,H1 ++ [obj])/\id=H1.length/\idOf (s d)=some id/\H[id]?=some obj/\μ id=none/\H0.length<=id))
theorem Lag.keep {P:Program}{s s':Sl}{μ μ':Mu}{H0 H H':AH}{id:Nat}{x:Opx}(h:Lag P s μ H0 H id x)(hr:∀ i ∈ readsOf x,s' i=s i)(hd:∀ d,x.dst=some d->s' d=s d)
  (h2:fl x.op=2->∀ d,x.dst=some d->grdOn x.grd s'->stepA P x.op s' H'=some (s' d,H'))
  (h3:fl x.op=3->grdOn x.grd s'->∀ d,x.dst=some d->idOf (s' d)=some id->H'[id]?=H[id]?)(h4:μ id=none->id<H.length->μ' id=none):Lag P s' μ' H0 H' id x:=by
 obtain ⟨hf,d,hd0,k1,k2⟩:=h
 have e:=hd d hd0
 refine ⟨hf,d,hd0,fun hn=>by rw [e];exact k1 (fun hg=>hn ((grdOn_congr hr).2 hg)),fun hg=>?_⟩
 obtain ⟨g1,g2,g3⟩:=k2 ((grdOn_congr hr).1 hg)
 refine ⟨fun hp H2=>by rw [stepA_congr (eval_of_reads hr),e];exact g1 hp H2,fun hp=>h2 hp d hd0 hg,fun hp=>?_⟩
 obtain ⟨H1,obj,f1,f2,f3,f4,f5,f6⟩:=g3 hp
 refine ⟨H1,obj,by rw [stepA_congr (eval_of_reads hr),e];exact f1,f2,by rw [e];exact f3,?_,h4 f5 (List.getElem?_eq_some_iff.1 f4).1,f6⟩
 rw [h3 hp hg d hd0 (by rw [e];exact f3)];exact f4
structure Side (P:Program) (N:Nat) (ops:Array Oper) (μ0:Mu) (H0:AH) (w0:World) (pre:List Nat) (listed:Array Bool) (μ:Mu) (s sa:Sl) (H:AH) (ids:Nat->Nat) (a:Act) (w:World):Prop where
 hH:HRel P μ H w
 hs:SRel N μ sa a
 evo:Evo μ0 H0 w0 μ H w
 agree:∀ i,(∀ j ∈ pre,listed.getD j true=false->∀ x,opxAt ops j=some x->x.dst ≠ some i)->sa i=s i
 lag:∀ j ∈ pre,listed.getD j true=false->∃ x,opxAt ops j=some x/\Lag P s μ H0 H (ids j) x
 apart:∀ j ∈ pre,∀ k ∈ pre,listed.getD j true=false->listed.getD k true=false->j ≠ k->∀ x y,opxAt ops j=some x->opxAt ops k=some y->fl x.op=3->fl y.op=3->grdOn x.grd s->grdOn y.grd s->ids j ≠ ids k
structure Chk (N:Nat) (ops:Array Oper) (B:Array Nat) (i:Nat) (c:Bool) (pre:List Nat) (last:Option Nat) (o:Oper) (x:Opx):Prop where
 at_:ops[i]?=some o
 opx:opxOf ops o=some x
 new:i ∉ pre
 ok:opOK o.op=true
 dst:∀ d,o.dst=some d->d<N
 last:∀ l,last=some l->(B.getD i 0).testBit l=true
 rd:∀ j ∈ pre,∀ y d,opxAt ops j=some y->y.dst=some d->d ∈ readsOf x->(B.getD i 0).testBit j=true
 wr:∀ j ∈ pre,∀ y d,opxAt ops j=some y->x.dst=some d->(c=true/\(B.getD i 0).testBit j=true)∨(d ∉ readsOf y/\y.dst ≠ some d)
 known:∀ j ∈ pre,∃ y,opxAt ops j=some y
 flo:c=false->fl x.op ≠ 0/\∃ d,x.dst=some d/\d ∉ readsOf x
theorem Chk.optAt {N:Nat}{ops:Array Oper}{B:Array Nat}{i:Nat}{c:Bool}{pre:List Nat}{last:Option Nat}{o:Oper}{x:Opx}(h:Chk N ops B i c pre last o x):opxAt ops i=some x:=by
 unfold opxAt;rw [h.at_];exact h.opx
theorem drawChk_cons {N:Nat}{ops:Array Oper}{B:Array Nat}{i:Nat}{c:Bool}{rest:List (Nat × Bool)}{pre:List Nat}{last:Option Nat}(h:drawChk N ops B ((i,c) :: rest) pre last=true) :
  (∃ o x,Chk N ops B i c pre last o x)/\drawChk N ops B rest (i :: pre) (if c=true then some i else last)=true:=by
 unfold drawChk at h
 split at h
 ·cases h
 ·rename_i o ho
  split at h
  ·cases h
  ·rename_i x hx
   simp only [Bool.and_eq_true] at h
   obtain ⟨⟨⟨⟨⟨⟨h1,h2⟩,h3⟩,h4⟩,h5⟩,h6⟩,h7⟩:=h
   refine ⟨⟨o,x,ho,hx,by simpa using h1,h2,?_,?_,?_,?_,?_,?_⟩,h7⟩
   ·intro d hd;rw [hd] at h3;simpa using h3
   ·intro l hl;rw [hl] at h4;exact h4
   ·intro j hj y d hy hd hm
    have:=List.all_eq_true.1 h5 j hj
    rw [hy] at this
    simp only [hd,Bool.and_eq_true,Bool.or_eq_true] at this
    rcases this.1 with h | h
    ·simp [hm] at h
    ·exact h
   ·intro j hj y d hy hd
    have:=List.all_eq_true.1 h5 j hj
    rw [hy] at this
    simp only [hd,Bool.and_eq_true,Bool.or_eq_true] at this
    rcases this.2 with h | h
    ·exact .inl h
    ·exact .inr ⟨by simpa using h.1,by simpa using h.2⟩
   ·intro j hj
    have:=List.all_eq_true.1 h5 j hj
    split at this
    ·rename_i y hy;exact ⟨y,hy⟩
    ·cases this
   ·intro hc
    subst hc
    simp only [Bool.false_or,Bool.and_eq_true] at h6
    obtain ⟨_,e1,e2⟩:=opxOf_some hx
    obtain ⟨d,hd⟩:=Option.isSome_iff_exists.1 h6.1.2
    refine ⟨by rw [e2];simpa using h6.1.1,d,by rw [e1];exact hd,?_⟩
    have:=h6.2
    rw [e1,hd] at this
    simpa using this
theorem fold_bits {B:Array Nat}{j:Nat}:∀ (es:List Edge) (s:Nat),(es.foldl (fun s e=>if Region.binds .any e=true then s ||| 2 ^ e.on ||| B.getD e.on 0 else s) s).testBit j=true ->
  s.testBit j=true∨∃ e ∈ es,Region.binds .any e=true/\(j=e.on∨(B.getD e.on 0).testBit j=true)
 | [],s,h=>.inl h
 | e :: es,s,h=>by
  simp only [List.foldl_cons] at h
  rcases fold_bits es _ h with h1 | ⟨e',h1,h2,h3⟩
  ·split at h1
   ·rename_i hb
    rw [Nat.testBit_or,Nat.testBit_or,Nat.testBit_two_pow] at h1
    simp only [Bool.or_eq_true,decide_eq_true_eq] at h1
    rcases h1 with (h1 | h1) | h1
    ·exact .inl h1
    ·exact .inr ⟨e,List.mem_cons_self,hb,.inl h1.symm⟩
    ·exact .inr ⟨e,List.mem_cons_self,hb,.inr h1⟩
   ·exact .inl h1
  ·exact .inr ⟨e',List.mem_cons_of_mem _ h1,h2,h3⟩
def Closed (ops:Array Oper)(listed:Array Bool):Prop:=∀ j o,listed.getD j true=true->ops[j]?=some o->∀ e ∈ o.after,Region.binds .any e=true->listed.getD e.on false=true
theorem listed_agree {listed:Array Bool}{j:Nat}(h:listed.getD j false=true):listed.getD j true=true:=by
 rw [Array.getD_eq_getD_getElem?] at h ⊢
 cases hj:listed[j]? with
 | none=>rfl
 | some b=>rw [hj] at h;exact h
theorem bits_listed {ops:Array Oper}{B:Array Nat}(hB:bitsOk ops B=true){listed:Array Bool}(hc:Closed ops listed):∀ (i:Nat) (o:Oper),ops[i]?=some o->(∀ e ∈ o.after,Region.binds .any e=true->listed.getD e.on false=true)->∀ j,(B.getD i 0).testBit j=true->listed.getD j false=true:=by
 intro i
 induction i using Nat.strongRecOn with
 | _ i ih =>
  intro o ho hr j hj
  have hi:i<ops.size:=(Array.getElem?_eq_some_iff.1 ho).1
  have hk:=List.all_eq_true.1 hB i (List.mem_range.2 hi)
  rw [ho] at hk
  simp only [Bool.and_eq_true,beq_iff_eq] at hk
  rw [hk.1] at hj
  rcases fold_bits _ _ hj with h | ⟨e,h1,h2,h3⟩
  ·simp at h
  ·have hl:=hr e (by simpa using h1) h2
   rcases h3 with rfl | h3
   ·exact hl
   ·have hlt:e.on<i:=by have:=List.all_eq_true.1 hk.2 e h1;simpa [h2] using this
    have he:e.on<ops.size:=by omega
    exact ih e.on hlt ops[e.on] (by simp [he]) (hc e.on _ (listed_agree hl) (by simp [he])) j h3
theorem all_listed {ops:Array Oper}{B:Array Nat}(hB:bitsOk ops B=true){listed:Array Bool}(hsz:listed.size=ops.size)(hr:Region.ready .any ops listed=[]):∀ i,i<ops.size->listed.getD i true=true:=by
 intro i
 induction i using Nat.strongRecOn with
 | _ i ih =>
  intro hi
  cases hl:listed.getD i true with
  | true=>rfl
  | false =>
   have hk:=List.all_eq_true.1 hB i (List.mem_range.2 hi)
   have ho:ops[i]?=some ops[i]:=by simp [hi]
   rw [ho] at hk
   simp only [Bool.and_eq_true,beq_iff_eq] at hk
   have:i ∈ Region.ready .any ops listed:=by
    rw [mem_ready]
    refine ⟨hl,ops[i],ho,?_⟩
    intro e he hb
    have hlt:e.on<i:=by have:=List.all_eq_true.1 hk.2 e (by simpa using he);simpa [hb] using this
    have:=ih e.on hlt (by omega)
    rw [Array.getD_eq_getD_getElem?] at this ⊢
    have hin:e.on<listed.size:=by omega
    rw [Array.getElem?_eq_getElem hin] at this ⊢
    exact this
   rw [hr] at this
   cases this
end Go.Proofs.YtlcipphiflcaiaaGreat.Ai
namespace Go.Proofs.YtlcipphiflcaiaaGreat.Ai
open Go Go.RowKit
theorem wpOp_on {P:Program}{ops:Array Oper}{Q:Exit->Act->World->Prop}{i:Nat}{o:Oper}{K:Act->World->Prop}{a:Act}{w:World}(ho:ops[i]?=some o)(hw:Region.wanted o (yielded ops a.tmps)=true)(h:o.wp P a w K Q):wpOp P ops Q i K a w:=by
 unfold wpOp;simp only [ho];rw [if_pos hw];exact .inl h
theorem wpOp_off {P:Program}{ops:Array Oper}{Q:Exit->Act->World->Prop}{i:Nat}{o:Oper}{K:Act->World->Prop}{a:Act}{w:World}(ho:ops[i]?=some o)(hw:¬ Region.wanted o (yielded ops a.tmps)=true)(h:K (a.put o.dst undef) w):wpOp P ops Q i K a w:=by
 unfold wpOp;simp only [ho];rw [if_neg hw];exact h
theorem put_ne (s:Sl){d:Option Nat}{v:Value}{i:Nat}(h:d ≠ some i):Sl.put s d v i=s i:=by
 cases d with
 | none=>rfl
 | some d=>rw [Sl.put_at,if_neg (fun e=>h (by rw [e]))]
theorem put_eq (s:Sl)(v:Value)(i:Nat):Sl.put s (some i) v i=v:=by rw [Sl.put_at,if_pos rfl]
section
variable {P:Program} {N:Nat} {ops:Array Oper} {B:Array Nat} {μ0:Mu} {H0:AH} {w0:World}
theorem Side.float {i:Nat}{pre:List Nat}{last:Option Nat}{o:Oper}{x:Opx}(hk:Chk N ops B i false pre last o x){listed:Array Bool}{μ:Mu}{s sa:Sl}{H:AH}{ids:Nat->Nat}{a:Act}{w:World}
  (h:Side P N ops μ0 H0 w0 pre listed μ s sa H ids a w)(hl:listed.getD i true=false){v:Value}{H':AH}(hv:(¬ grdOn x.grd s/\v=undef/\H'=H)∨(grdOn x.grd s/\stepA P x.op s H=some (v,H'))) :
  ∃ ids',Side P N ops μ0 H0 w0 (i :: pre) listed μ (s.put x.dst v) sa H' ids' a w:=by
 obtain ⟨hfl,d,hd,hself⟩:=hk.flo rfl
 have hop:opOK x.op=true:=by rw [(opxOf_some hk.opx).2.2];exact hk.ok
 have far:∀ j ∈ pre,∀ y,opxAt ops j=some y->d ∉ readsOf y/\y.dst ≠ some d:=by
  intro j hj y hy
  rcases hk.wr j hj y d hy hd with ⟨e,_⟩ | h
  ·cases e
  ·exact h
 have heap:H'=H∨∃ obj,H'=H ++ [obj]/\fl x.op=3:=by
  rcases hv with ⟨_,_,e⟩ | ⟨_,e⟩
  ·exact .inl e
  ·have hc:fl x.op=1∨fl x.op=2∨fl x.op=3:=by
    have:fl x.op<=3:=by unfold fl;split <;> first | omega | (split <;> omega)
    omega
   rcases hc with hc | hc | hc
   ·exact .inl (pure_step hc e).1
   ·exact .inl (read_step hc e).1
   ·have he:=(opxOf_some hk.opx).2.2
    rw [he] at e hc
    obtain ⟨vof,obj,g1,g2,g3,g4⟩:=mk_step hc hk.ok e
    exact .inr ⟨obj,g2,by rw [he];exact hc⟩
 have hlen:H.length<=H'.length:=by rcases heap with rfl | ⟨obj,rfl,_⟩ <;> simp
 have look:∀ k,k<H.length->H'[k]?=H[k]?:=by
  intro k hk
  rcases heap with rfl | ⟨obj,rfl,_⟩
  ·rfl
  ·rw [List.getElem?_append_left hk]
 have hH':HRel P μ H' w:=by
  rcases heap with rfl | ⟨obj,rfl,_⟩
  ·exact h.hH
  ·exact h.hH.phantom obj
 have hE':Evo μ0 H0 w0 μ H' w:=by
  rcases heap with rfl | ⟨obj,rfl,_⟩
  ·exact h.evo
  ·exact h.evo.phantom h.hH obj
 let ids':Nat->Nat:=fun j=>if j=i then H.length else ids j
 have selfr:grdOn x.grd s->(fl x.op=1->True):=fun _ _=>trivial
 have oldlag:∀ j ∈ pre,listed.getD j true=false->∃ y,opxAt ops j=some y/\Lag P (s.put x.dst v) μ H0 H' (ids j) y:=by
  intro j hj hjl
  obtain ⟨y,hy,hlag⟩:=h.lag j hj hjl
  obtain ⟨f1,f2⟩:=far j hj y hy
  refine ⟨y,hy,hlag.keep (fun k hk=>put_ne s (by rw [hd];intro e;cases e;exact f1 hk)) (fun e he=>put_ne s (by rw [hd];intro e';cases e';exact f2 he)) ?_ ?_ (fun e _=>e)⟩
  ·intro hp e he hg
   obtain ⟨_,e',he',_,k2⟩:=hlag
   rw [he] at he';cases he'
   have hr:∀ k ∈ readsOf y,s.put x.dst v k=s k:=fun k hk=>put_ne s (by rw [hd];intro e;cases e;exact f1 hk)
   have hst:=(k2 ((grdOn_congr hr).1 hg)).2.1 hp
   rw [stepA_congr (eval_of_reads hr),show s.put x.dst v e=s e from put_ne s (by rw [hd];intro e';cases e';exact f2 he)]
   rcases heap with rfl | ⟨obj,rfl,_⟩
   ·exact hst
   ·exact (read_step hp hst).2 obj
  ·intro hp hg e he hid
   obtain ⟨_,e',he',_,k2⟩:=hlag
   have hr:∀ k ∈ readsOf y,s.put x.dst v k=s k:=fun k hk=>put_ne s (by rw [hd];intro e;cases e;exact f1 hk)
   obtain ⟨H1,obj,g1,g2,g3,g4,g5,g6⟩:=(k2 ((grdOn_congr hr).1 hg)).2.2 hp
   exact look _ (List.getElem?_eq_some_iff.1 g4).1
 have idsold:∀ j ∈ pre,ids' j=ids j:=by
  intro j hj
  have:j ≠ i:=fun e=>hk.new (e ▸ hj)
  simp [ids',this]
 ·have hr:∀ k ∈ readsOf x,s.put x.dst v k=s k:=fun k hk=>put_ne s (by rw [hd];intro e;cases e;exact hself hk)
  have mine:Lag P (s.put x.dst v) μ H0 H' H.length x:=by
   refine ⟨hfl,d,hd,?_,?_⟩
   ·intro hn
    rw [hd,put_eq]
    rcases hv with ⟨_,e,_⟩ | ⟨e,_⟩
    ·exact e
    ·exact absurd ((grdOn_congr hr).2 e) hn
   ·intro hg
    have hg0:=(grdOn_congr hr).1 hg
    rcases hv with ⟨e,_⟩ | ⟨_,e⟩
    ·exact absurd hg0 e
    ·rw [hd,put_eq]
     have er:∀ H2,stepA P x.op (s.put (some d) v) H2=stepA P x.op s H2:=fun H2=>by rw [<- hd];exact stepA_congr (eval_of_reads hr) H2
     refine ⟨fun hp H2=>by rw [er];exact (pure_step hp e).2 H2,fun hp=>?_,fun hp=>?_⟩
     ·have e2:=(read_step hp e).1
      rw [er,e2];rw [e2] at e;exact e
     ·have he:=(opxOf_some hk.opx).2.2
      have hp':fl o.op=3:=by rw [<- he];exact hp
      have e':stepA P o.op s H=some (v,H'):=by rw [<- he];exact e
      obtain ⟨vof,obj,g1,g2,g3,g4⟩:=mk_step hp' hk.ok e'
      refine ⟨H,obj,by rw [er,<- g2];exact e,rfl,g3,?_,h.hH.dom _ (Nat.le_refl _),h.evo.len⟩
      rw [g2];simp
  refine ⟨ids',hH',h.hs,hE',?_,?_,?_⟩
  ·intro k hkk
   have hne:d ≠ k:=fun e=>hkk i List.mem_cons_self hl x hk.optAt (by rw [hd,e])
   rw [put_ne s (by rw [hd];intro e;cases e;exact hne rfl)]
   exact h.agree k (fun j hj=>hkk j (List.mem_cons_of_mem _ hj))
  ·intro j hj hjl
   rcases List.mem_cons.1 hj with rfl | hj
   ·exact ⟨x,hk.optAt,by simpa [ids'] using mine⟩
   ·obtain ⟨y,hy,hlag⟩:=oldlag j hj hjl
    exact ⟨y,hy,by rw [idsold j hj];exact hlag⟩
  ·intro j hj k hkm hjl hkl hne y z hy hz hfy hfz hgy hgz
   have lt:∀ j ∈ pre,listed.getD j true=false->∀ y,opxAt ops j=some y->fl y.op=3->grdOn y.grd (s.put x.dst v)->ids j<H.length:=by
    intro j hj hjl y hy hfy hgy
    obtain ⟨y',hy',hlag⟩:=h.lag j hj hjl
    rw [hy] at hy';cases hy'
    obtain ⟨_,e',he',_,k2⟩:=hlag
    have hr:∀ k ∈ readsOf y,s.put x.dst v k=s k:=fun k hk=>put_ne s (by rw [hd];intro e;cases e;exact (far j hj y hy).1 hk)
    obtain ⟨H1,obj,g1,g2,g3,g4,g5,g6⟩:=(k2 ((grdOn_congr hr).1 hgy)).2.2 hfy
    exact (List.getElem?_eq_some_iff.1 g4).1
   rcases List.mem_cons.1 hj with ej | hj1 <;> rcases List.mem_cons.1 hkm with ek | hk1
   ·exact absurd (ej.trans ek.symm) hne
   ·rw [idsold k hk1]
    have:=lt k hk1 hkl z hz hfz hgz
    simp only [ids',ej,if_true];omega
   ·rw [idsold j hj1]
    have:=lt j hj1 hjl y hy hfy hgy
    simp only [ids',ek,if_true];omega
   ·have hj:=hj1
    have hkm:=hk1
    rw [idsold j hj,idsold k hkm]
    refine h.apart j hj k hkm hjl hkl hne y z hy hz hfy hfz ((grdOn_congr ?_).1 hgy) ((grdOn_congr ?_).1 hgz)
    ·exact fun q hq=>put_ne s (by rw [hd];intro e;cases e;exact (far j hj y hy).1 hq)
    ·exact fun q hq=>put_ne s (by rw [hd];intro e;cases e;exact (far k hkm z hz).1 hq)
def PreOk (N:Nat)(ops:Array Oper)(B:Array Nat)(chn:Nat->Bool):List Nat->Prop
 | []=>True
 | i :: pre=>(∃ last o x,Chk N ops B i (chn i) pre last o x)/\PreOk N ops B chn pre
theorem PreOk.at_ {chn:Nat->Bool}:∀ {pre:List Nat},PreOk N ops B chn pre->∀ j ∈ pre,∃ p l o x,Chk N ops B j (chn j) p l o x
 | [],_,j,hj=>by cases hj
 | i :: pre,h,j,hj=>by
  simp only [PreOk] at h
  rcases List.mem_cons.1 hj with e | hj
  ·rw [e];obtain ⟨l,o,x,hk⟩:=h.1;exact ⟨_,l,o,x,hk⟩
  ·exact PreOk.at_ h.2 j hj
theorem PreOk.reads {chn:Nat->Bool}:∀ {pre:List Nat},PreOk N ops B chn pre->∀ j ∈ pre,∀ k ∈ pre,chn j=false->chn k=false->∀ x y d,opxAt ops j=some x->opxAt ops k=some y->y.dst=some d->d ∈ readsOf x->(B.getD j 0).testBit k=true
 | [],_,j,hj,_,_,_,_,_,_,_,_,_,_,_=>by cases hj
 | i :: pre,h,j,hj,k,hk,hcj,hck,x,y,d,hx,hy,hd,hm=>by
  simp only [PreOk] at h
  obtain ⟨⟨l,o,z,hz⟩,h2⟩:=h
  rcases List.mem_cons.1 hj with ej | hj1 <;> rcases List.mem_cons.1 hk with ek | hk1
  ·subst ej;subst ek
   rw [hx] at hy;cases hy
   have:=hz.optAt;rw [hx] at this;cases this
   obtain ⟨_,d',hd',hn⟩:=hz.flo hcj
   rw [hd] at hd';cases hd'
   exact absurd hm hn
  ·subst ej
   have:=hz.optAt;rw [hx] at this;cases this
   exact hz.rd k hk1 y d hy hd hm
  ·subst ek
   have:=hz.optAt;rw [hy] at this;cases this
   rcases hz.wr j hj1 x d hx hd with ⟨e,_⟩ | ⟨e,_⟩
   ·rw [hck] at e;cases e
   ·exact absurd hm e
  ·exact PreOk.reads h2 j hj1 k hk1 hcj hck x y d hx hy hd hm
theorem getD_set_same {listed:Array Bool}{i:Nat}:(listed.setIfInBounds i true).getD i true=true:=by
 rw [Array.getD_eq_getD_getElem?,Array.getElem?_setIfInBounds]
 by_cases h:i<listed.size
 ·simp [h]
 ·simp [h]
theorem unlisted_of_set {listed:Array Bool}{i j:Nat}(h:(listed.setIfInBounds i true).getD j true=false):j ≠ i/\listed.getD j true=false:=by
 have hne:j ≠ i:=by
  intro e
  subst e
  rw [getD_set_same] at h;cases h
 exact ⟨hne,by rw [getD_set_ne true (Ne.symm hne)] at h;exact h⟩
theorem Side.late {chn:Nat->Bool}{pre:List Nat}(hpre:PreOk N ops B chn pre)(hB:bitsOk ops B=true){listed:Array Bool}(hcl:Closed ops listed){μ:Mu}{s sa:Sl}{H:AH}{ids:Nat->Nat}{a:Act}{w:World}
  (h:Side P N ops μ0 H0 w0 pre listed μ s sa H ids a w)(hch:∀ j ∈ pre,chn j=true->listed.getD j false=true){j:Nat}(hj:j ∈ pre)(hr:j ∈ Region.ready .any ops listed){next:Act->World->Prop}{Q:Exit->Act->World->Prop}
  (hn:∀ μ' sa' a' w',Side P N ops μ0 H0 w0 pre (listed.setIfInBounds j true) μ' s sa' H ids a' w'->next a' w'):wpOp P ops Q j next a w:=by
 obtain ⟨hjl,o,ho,hedge⟩:=mem_ready.1 hr
 obtain ⟨p,l,o',x,hk⟩:=hpre.at_ j hj
 have e0:=hk.at_;rw [ho] at e0;cases e0
 obtain ⟨x',hx',hlag⟩:=h.lag j hj hjl
 have e1:=hk.optAt;rw [hx'] at e1;cases e1
 have bits:=bits_listed hB hcl j o ho hedge
 have nochn:∀ k ∈ pre,listed.getD k true=false->chn k=false:=by
  intro k hkm hkl
  cases hc:chn k with
  | false=>rfl
  | true=>have:=listed_agree (hch k hkm hc);rw [hkl] at this;cases this
 have hcj:=nochn j hj hjl
 have reads:∀ r ∈ readsOf x,sa r=s r:=by
  intro r hrm
  refine h.agree r ?_
  intro k hkm hkl y hy hd
  have:=hpre.reads j hj k hkm hcj (nochn k hkm hkl) x y r hx' hy hd hrm
  have:=listed_agree (bits k this)
  rw [hkl] at this;cases this
 obtain ⟨hfl,d,hd,hoff,hon⟩:=hlag
 have hod:o.dst=some d:=by rw [<- (opxOf_some hk.opx).2.1];exact hd
 have hop:=(opxOf_some hk.opx).2.2
 have hdN:∀ i,o.dst=some i->i<N:=hk.dst
 have fin:∀ (μ':Mu) (cv:Value) (w':World),HRel P μ' H w'->Evo μ0 H0 w0 μ' H w'->μ.Le μ'->TRel μ' (s d) cv->(∀ k ∈ pre,k ≠ j->listed.getD k true=false->∀ y,opxAt ops k=some y->fl y.op=3->grdOn y.grd s->μ (ids k)=none->ids k<H.length->μ' (ids k)=none)->next (a.put o.dst cv) w':=by
  intro μ' cv w' g1 g2 g3 g4 g5
  refine hn μ' (sa.put o.dst (s d)) _ w' ⟨g1,(h.hs.mono g3).put hdN g4,g2,?_,?_,?_⟩
  ·intro i hi
   rw [hod]
   by_cases e:d=i
   ·subst e;rw [put_eq]
   ·rw [put_ne sa (fun e'=>e (Option.some.inj e'))]
    refine h.agree i ?_
    intro k hkm hkl y hy hdk
    by_cases ekj:k=j
    ·subst ekj
     rw [hx'] at hy;cases hy
     rw [hd] at hdk;cases hdk;exact e rfl
    ·exact hi k hkm (by rw [getD_set_ne true (Ne.symm ekj)];exact hkl) y hy hdk
  ·intro k hkm hkl
   obtain ⟨hne,hkl⟩:=unlisted_of_set hkl
   obtain ⟨y,hy,hly⟩:=h.lag k hkm hkl
   refine ⟨y,hy,?_⟩
   obtain ⟨q1,d',q2,q3,q4⟩:=hly
   refine ⟨q1,d',q2,q3,fun hg=>⟨(q4 hg).1,(q4 hg).2.1,fun hp=>?_⟩⟩
   obtain ⟨H1,obj,f1,f2,f3,f4,f5,f6⟩:=(q4 hg).2.2 hp
   exact ⟨H1,obj,f1,f2,f3,f4,g5 k hkm hne hkl y hy hp hg f5 (List.getElem?_eq_some_iff.1 f4).1,f6⟩
  ·intro k hkm k' hkm' hkl hkl'
   exact h.apart k hkm k' hkm' (unlisted_of_set hkl).2 (unlisted_of_set hkl').2
 by_cases hg:grdOn x.grd s
 ·have hw:Region.wanted o (yielded ops a.tmps)=true:=(wanted_iff h.hs hk.opx).2 ((grdOn_congr reads).2 hg)
  refine wpOp_on ho hw ?_
  obtain ⟨k1,k2,k3⟩:=hon hg
  have hc:fl x.op=1∨fl x.op=2∨fl x.op=3:=by
   have:fl x.op<=3:=by unfold fl;split <;> first | omega | (split <;> omega)
   omega
  have plain:stepA P x.op s H=some (s d,H)->o.wp P a w next Q:=by
   intro hst
   have hst':stepA P o.op sa H=some (s d,H):=by rw [<- hop,stepA_congr (eval_of_reads reads)];exact hst
   obtain ⟨μ',cv,w',g1,g2,g3,g4⟩:=stepA_ok h.hH h.hs o hk.ok hst'
   have key:next (a.put o.dst cv) w':=fin μ' cv w' g3 (h.evo.trans g4) g4.le g2 (fun k _ _ _ _ _ _ _ hm hlt=>by rw [g4.old _ hlt];exact hm)
   unfold Oper.wp
   rcases g1 with g1 | ⟨g1,e⟩
   ·rw [g1];exact key
   ·rw [g1]
    rw [e] at g2
    exact fin μ' undef w' g3 (h.evo.trans g4) g4.le g2 (fun k _ _ _ _ _ _ _ hm hlt=>by rw [g4.old _ hlt];exact hm)
  rcases hc with hc | hc | hc
  ·exact plain (k1 hc H)
  ·exact plain (k2 hc)
  ·obtain ⟨H1,obj,f1,f2,f3,f4,f5,f6⟩:=k3 hc
   have f1':stepA P o.op sa H1=some (s d,H1 ++ [obj]):=by rw [<- hop,stepA_congr (eval_of_reads reads)];exact f1
   obtain ⟨vof,obj',m1,m2,m3,m4⟩:=mk_step (by rw [<- hop];exact hc) hk.ok f1'
   have eo:obj'=obj:=by simpa using m2.symm
   subst eo
   obtain ⟨cv,cur,t,vs,ext,c1,c2,c3,c4,c5,c6,c7⟩:=m4 N μ a w h.hs
   subst c1
   unfold Oper.wp
   rw [c2]
   have hre:=h.hH.realize f4 f5 c3 c4 c5 c6
   refine fin _ cv _ hre (h.evo.realize f5 f6 _ rfl _) (Mu.le_put f5) (by rw [m1,<- f2];exact c7 _ _ (Mu.put_same _ _ _)) ?_
   intro k hkm hne hkl y hy hp hgy hm hlt
   rw [Mu.put_other]
   ·exact hm
   ·exact h.apart k hkm j hj hkl hjl hne y x hy hx' hp hc hgy hg
 ·have hw:¬ Region.wanted o (yielded ops a.tmps)=true:=fun hw=>hg ((grdOn_congr reads).1 ((wanted_iff h.hs hk.opx).1 hw))
  refine wpOp_off ho hw ?_
  exact fin μ undef w h.hH h.evo (Mu.Le.refl _) (by rw [hoff hg];exact TRel.undef _) (fun k _ _ _ _ _ _ _ hm _=>hm)
theorem mem_wsOf {pre:List Nat}{i j:Nat}{y:Opx}(hj:j ∈ pre)(hb:¬ (B.getD i 0).testBit j=true)(hy:opxAt ops j=some y)(hf:2<=fl y.op):y ∈ wsOf ops B pre i:=by
 unfold wsOf
 refine List.mem_filterMap.2 ⟨j,hj,?_⟩
 rw [if_neg hb,hy]
 simp [hf]
theorem Side.chain {pre:List Nat}(hB:bitsOk ops B=true){listed:Array Bool}(hcl:Closed ops listed){μ:Mu}{s sa:Sl}{H:AH}{ids:Nat->Nat}{a:Act}{w:World}
  (h:Side P N ops μ0 H0 w0 pre listed μ s sa H ids a w){i:Nat}{last:Option Nat}{o:Oper}{x:Opx}(hk:Chk N ops B i true pre last o x)(hr:i ∈ Region.ready .any ops listed){K:Value->AH->Prop}
  (hx:runX P x s H fun v H'=>watchA P (s.put x.dst v) H H' (wsOf ops B pre i)/\K v H'){next:Act->World->Prop}{Q:Exit->Act->World->Prop}
  (hn:∀ v H' μ' sa' a' w',K v H'->Side P N ops μ0 H0 w0 (i :: pre) (listed.setIfInBounds i true) μ' (s.put x.dst v) sa' H' ids a' w'->next a' w'):wpOp P ops Q i next a w:=by
 obtain ⟨hil,o',ho,hedge⟩:=mem_ready.1 hr
 have e0:=hk.at_;rw [ho] at e0;cases e0
 have bits:=bits_listed hB hcl i o ho hedge
 have nobit:∀ k,listed.getD k true=false->¬ (B.getD i 0).testBit k=true:=by
  intro k hkl hb
  have:=listed_agree (bits k hb)
  rw [hkl] at this;cases this
 have reads:∀ r ∈ readsOf x,sa r=s r:=by
  intro r hrm
  refine h.agree r ?_
  intro k hkm hkl y hy hd
  exact nobit k hkl (hk.rd k hkm y r hy hd hrm)
 obtain ⟨hg,e1,e2⟩:=opxOf_some hk.opx
 have hxs:runX P ⟨o.dst,o.op,x.grd⟩ sa H fun v H'=>watchA P (s.put x.dst v) H H' (wsOf ops B pre i)/\K v H':=by
  rw [<- e1,<- e2]
  have:=runX_congr (P:=P) reads H (fun v H'=>watchA P (s.put x.dst v) H H' (wsOf ops B pre i)/\K v H')
  exact this ▸ hx
 refine oper_sound h.hH h.hs ho hg hk.ok hk.dst hxs ?_
 rintro v H' μ' cv w' ⟨hwt,hK⟩ hv hH' he
 have far:∀ j ∈ pre,listed.getD j true=false->∀ y d,opxAt ops j=some y->x.dst=some d->d ∉ readsOf y/\y.dst ≠ some d:=by
  intro j hj hjl y d hy hd
  rcases hk.wr j hj y d hy hd with ⟨_,hb⟩ | h
  ·exact absurd hb (nobit j hjl)
  ·exact h
 refine hn v H' μ' (sa.put x.dst v) _ w' hK ⟨hH',?_,h.evo.trans he,?_,?_,?_⟩
 ·rw [e1];exact (h.hs.mono he.le).put hk.dst hv
 ·intro q hq
  by_cases e:x.dst=some q
  ·rw [e,put_eq,put_eq]
  ·rw [put_ne sa e,put_ne s e]
   refine h.agree q ?_
   intro k hkm hkl y hy
   by_cases ek:k=i
   ·exact absurd (ek ▸ hkm) hk.new
   ·exact hq k (List.mem_cons_of_mem _ hkm) (by rw [getD_set_ne true (Ne.symm ek)];exact hkl) y hy
 ·intro k hkm hkl
  obtain ⟨hne,hkl⟩:=unlisted_of_set hkl
  have hkp:k ∈ pre:=by rcases List.mem_cons.1 hkm with e | e;exact absurd e hne;exact e
  obtain ⟨y,hy,hly⟩:=h.lag k hkp hkl
  refine ⟨y,hy,?_⟩
  have hrd:∀ q ∈ readsOf y,s.put x.dst v q=s q:=fun q hq=>put_ne s (fun e=>(far k hkp hkl y q hy e).1 hq)
  refine hly.keep hrd (fun q hq=>put_ne s (fun e=>(far k hkp hkl y q hy e).2 hq)) ?_ ?_ ?_
  ·intro hp q hq hgq
   have:=watchA_mem hwt (mem_wsOf hkp (nobit k hkl) hy (by omega))
   unfold watch1 at this
   rw [hq] at this
   simp only [fl_notmk (.inr hp)] at this
   exact this hgq
  ·intro hp hgq q hq hid
   have:=watchA_mem hwt (mem_wsOf hkp (nobit k hkl) hy (by omega))
   unfold watch1 at this
   rw [hq] at this
   simp only [fl_mk hp,hid] at this
   exact this
  ·intro hm hlt
   rw [he.old _ hlt];exact hm
 ·intro j hj k hkm hjl hkl hne y z hy hz hfy hfz hgy hgz
  obtain ⟨hji,hjl⟩:=unlisted_of_set hjl
  obtain ⟨hki,hkl⟩:=unlisted_of_set hkl
  have hjp:j ∈ pre:=by rcases List.mem_cons.1 hj with e | e;exact absurd e hji;exact e
  have hkp:k ∈ pre:=by rcases List.mem_cons.1 hkm with e | e;exact absurd e hki;exact e
  refine h.apart j hjp k hkp hjl hkl hne y z hy hz hfy hfz ((grdOn_congr ?_).1 hgy) ((grdOn_congr ?_).1 hgz)
  ·exact fun q hq=>put_ne s (fun e=>(far j hjp hjl y q hy e).1 hq)
  ·exact fun q hq=>put_ne s (fun e=>(far k hkp hkl z q hz e).1 hq)
theorem drawChk_all:∀ {rest:List (Nat × Bool)} {pre:List Nat} {last:Option Nat},drawChk N ops B rest pre last=true->∀ i,i<ops.size->i ∈ pre∨∃ c,(i,c) ∈ rest
 | [],pre,last,h,i,hi=>by
  have:=List.all_eq_true.1 h i (List.mem_range.2 hi)
  exact .inl (by simpa using this)
 | (k,c) :: rest,pre,last,h,i,hi=>by
  rcases drawChk_all (drawChk_cons h).2 i hi with h1 | ⟨c',h1⟩
  ·rcases List.mem_cons.1 h1 with rfl | h1
   ·exact .inr ⟨c,List.mem_cons_self⟩
   ·exact .inl h1
  ·exact .inr ⟨c',List.mem_cons_of_mem _ h1⟩
theorem drawChk_last:∀ {rest:List (Nat × Bool)} {pre:List Nat} {l0:Nat},drawChk N ops B rest pre (some l0)=true->∀ i c,(i,c) ∈ rest->∃ l,(l=l0∨(l,true) ∈ rest)/\(B.getD i 0).testBit l=true
 | [],pre,l0,h,i,c,hi=>by cases hi
 | (k,c') :: rest,pre,l0,h,i,c,hi=>by
  obtain ⟨⟨o,x,hk⟩,h2⟩:=drawChk_cons h
  rcases List.mem_cons.1 hi with e | hi1
  ·cases e;exact ⟨l0,.inl rfl,hk.last l0 rfl⟩
  ·cases c' with
   | true =>
    rw [if_pos rfl] at h2
    obtain ⟨l,h3,h4⟩:=drawChk_last h2 i c hi1
    refine ⟨l,.inr ?_,h4⟩
    rcases h3 with rfl | h3
    ·exact List.mem_cons_self
    ·exact List.mem_cons_of_mem _ h3
   | false =>
    rw [if_neg (by simp)] at h2
    obtain ⟨l,h3,h4⟩:=drawChk_last h2 i c hi1
    exact ⟨l,h3.imp id (List.mem_cons_of_mem _),h4⟩
structure Good (P:Program) (N:Nat) (ops:Array Oper) (B:Array Nat) (chn:Nat->Bool) (Q:Sl->AH->Prop) (μ0:Mu) (H0:AH) (w0:World) (listed:Array Bool) (a:Act) (w:World) (pre:List Nat) (rest:List (Nat × Bool)) (last:Option Nat) (μ:Mu) (s sa:Sl) (H:AH) (ids:Nat->Nat):Prop where
 side:Side P N ops μ0 H0 w0 pre listed μ s sa H ids a w
 pok:PreOk N ops B chn pre
 lst:∀ j ∈ pre,chn j=true->listed.getD j false=true
 chk:drawChk N ops B rest pre last=true
 wp:wpSteps P Q (stepsOf ops B rest pre) s H
 un:∀ p ∈ rest,listed.getD p.1 true=false
 flag:∀ p ∈ rest,chn p.1=p.2
theorem Good.advance {chn:Nat->Bool}{Q:Sl->AH->Prop}{listed:Array Bool}{a:Act}{w:World}{μ:Mu}{sa:Sl}:∀ (rest:List (Nat × Bool)) (pre:List Nat) (last:Option Nat) (s:Sl) (H:AH) (ids:Nat->Nat),Good P N ops B chn Q μ0 H0 w0 listed a w pre rest last μ s sa H ids ->
  ∃ pre' rest' last' s' H' ids',Good P N ops B chn Q μ0 H0 w0 listed a w pre' rest' last' μ s' sa H' ids'/\(rest'=[]∨∃ i r,rest'=(i,true) :: r)
 | [],pre,last,s,H,ids,h=>⟨pre,[],last,s,H,ids,h,.inl rfl⟩
 | (i,true) :: r,pre,last,s,H,ids,h=>⟨pre,_,last,s,H,ids,h,.inr ⟨i,r,rfl⟩⟩
 | (i,false) :: r,pre,last,s,H,ids,h=>by
  obtain ⟨⟨o,x,hk⟩,h2⟩:=drawChk_cons h.chk
  have hw:=h.wp
  simp only [stepsOf,hk.optAt,Bool.false_eq_true,if_false,wpSteps,watchA,true_and] at hw
  obtain ⟨v,H',g1,g2⟩:=runX_fl (hk.flo rfl).1 hw
  have hl:=h.un (i,false) List.mem_cons_self
  have hf:=h.flag (i,false) List.mem_cons_self
  obtain ⟨ids',hs⟩:=h.side.float hk hl g2
  refine Good.advance r (i :: pre) _ (s.put x.dst v) H' ids' ⟨hs,⟨⟨last,o,x,by rw [hf];exact hk⟩,h.pok⟩,?_,h2,g1,fun p hp=>h.un p (List.mem_cons_of_mem _ hp),fun p hp=>h.flag p (List.mem_cons_of_mem _ hp)⟩
  intro j hj hc
  rcases List.mem_cons.1 hj with e | hj
  ·rw [e] at hc;rw [hf] at hc;cases hc
  ·exact h.lst j hj hc
def cnt (ops:Array Oper)(listed:Array Bool):Nat:=((List.range ops.size).filter fun i=>!listed.getD i true).length
theorem filter_lt {p q:Nat->Bool}:∀ (l:List Nat),(∀ x,q x=true->p x=true)->∀ i ∈ l,p i=true->q i=false->(l.filter q).length<(l.filter p).length
 | [],_,i,hi,_,_=>by cases hi
 | x :: l,h,i,hi,hp,hq=>by
  have hle:∀ l:List Nat,(l.filter q).length<=(l.filter p).length:=by
   intro l
   induction l with
   | nil=>exact Nat.le_refl _
   | cons y l ih =>
    simp only [List.filter_cons]
    cases hy:q y with
    | true=>rw [h y hy];simp only [if_true,List.length_cons];omega
    | false=>cases hp:p y <;> simp <;> omega
  have hll:=hle l
  simp only [List.filter_cons]
  rcases List.mem_cons.1 hi with e | hi
  ·subst e;rw [hp,hq];simp only [if_true,List.length_cons,Bool.false_eq_true,if_false];omega
  ·have:=filter_lt l h i hi hp hq
   cases hx:q x with
   | true=>rw [h x hx];simp only [if_true,List.length_cons];omega
   | false=>cases hp:p x <;> simp <;> omega
theorem cnt_set {listed:Array Bool}{i:Nat}(hi:i<ops.size)(hl:listed.getD i true=false):cnt ops (listed.setIfInBounds i true)<cnt ops listed:=by
 refine filter_lt _ ?_ i (List.mem_range.2 hi) (by simp [hl]) (by rw [getD_set_same];rfl)
 intro x hx
 have hx':(listed.setIfInBounds i true).getD x true=false:=by simpa using hx
 simp [(unlisted_of_set hx').2]
theorem closed_set {listed:Array Bool}(hc:Closed ops listed){i:Nat}(hr:i ∈ Region.ready .any ops listed):Closed ops (listed.setIfInBounds i true):=by
 obtain ⟨_,o,ho,he⟩:=mem_ready.1 hr
 intro j o' hj ho' e hem hb
 refine getD_set_true ?_
 by_cases hji:j=i
 ·subst hji
  rw [ho] at ho';cases ho'
  exact he e hem hb
 ·exact hc j o' (by rw [getD_set_ne true (Ne.symm hji)] at hj;exact hj) ho' e hem hb
theorem any_sound (hB:bitsOk ops B=true){chn:Nat->Bool}{Q:Exit->Sl->AH->Prop}:∀ (fuel:Nat) (listed:Array Bool) (a:Act) (w:World) (pre:List Nat) (rest:List (Nat × Bool)) (last:Option Nat) (μ:Mu) (s sa:Sl) (H:AH) (ids:Nat->Nat),
  Good P N ops B chn (Q .normal) μ0 H0 w0 listed a w pre rest last μ s sa H ids->Closed ops listed->listed.size=ops.size->cnt ops listed<=fuel->wpAny P .any ops (Post P N μ0 H0 w0 Q) fuel listed a w:=by
 intro fuel
 induction fuel with
 | zero =>
  intro listed a w pre rest last μ s sa H ids hg hcl hsz hcnt
  have hall:∀ i,i<ops.size->listed.getD i true=true:=by
   intro i hi
   cases hl:listed.getD i true with
   | true=>rfl
   | false=>have:=cnt_set hi hl;omega
  have hr:Region.ready .any ops listed=[]:=by
   cases hrr:Region.ready .any ops listed with
   | nil=>rfl
   | cons j r =>
    have hj:j ∈ Region.ready .any ops listed:=by rw [hrr];exact List.mem_cons_self
    obtain ⟨h1,o,h2,_⟩:=mem_ready.1 hj
    rw [hall j (Array.getElem?_eq_some_iff.1 h2).1] at h1;cases h1
  refine ⟨hr,?_⟩
  exact fin hall (Good.advance rest pre last s H ids hg)
 | succ fuel ih =>
  intro listed a w pre rest last μ s sa H ids hg hcl hsz hcnt
  obtain ⟨pre',rest',last',s',H',ids',hg',hrest⟩:=Good.advance rest pre last s H ids hg
  refine ⟨fun hr=>fin (all_listed hB hsz hr) ⟨pre',rest',last',s',H',ids',hg',hrest⟩,?_⟩
  intro i hi
  obtain ⟨hil,o,ho,hedge⟩:=mem_ready.1 hi
  have hin:i<ops.size:=(Array.getElem?_eq_some_iff.1 ho).1
  have hcnt':cnt ops (listed.setIfInBounds i true)<=fuel:=by have:=cnt_set hin hil;omega
  have hsz':(listed.setIfInBounds i true).size=ops.size:=by simpa using hsz
  have hcl':=closed_set hcl hi
  rcases drawChk_all hg'.chk i hin with hp | ⟨c,hp⟩
  ·refine hg'.side.late hg'.pok hB hcl hg'.lst hp hi ?_
   intro μ2 sa2 a2 w2 hs2
   refine ih _ _ _ pre' rest' last' μ2 s' sa2 H' ids' ⟨hs2,hg'.pok,fun j hj hc=>getD_set_true (hg'.lst j hj hc),hg'.chk,hg'.wp,?_,hg'.flag⟩ hcl' hsz' hcnt'
   intro p hpm
   have:p.1 ≠ i:=by
    intro e
    have h1:=hg'.un p hpm
    exact notboth hg'.chk i hp p hpm e
   rw [getD_set_ne true (Ne.symm this)];exact hg'.un p hpm
  ·rcases hrest with e | ⟨k,r,e⟩
   ·rw [e] at hp;cases hp
   ·subst e
    obtain ⟨⟨o',x,hk⟩,h2⟩:=drawChk_cons hg'.chk
    rw [if_pos rfl] at h2
    rcases List.mem_cons.1 hp with e | hp
    ·cases e
     have hw:=hg'.wp
     simp only [stepsOf,hk.optAt,if_true,wpSteps] at hw
     refine hg'.side.chain hB hcl hk hi hw ?_
     intro v H2 μ2 sa2 a2 w2 hK hs2
     have hf:=hg'.flag (i,true) List.mem_cons_self
     refine ih _ _ _ (i :: pre') r _ μ2 _ sa2 H2 ids' ⟨hs2,⟨⟨last',o',x,by rw [hf];exact hk⟩,hg'.pok⟩,?_,h2,hK,?_,fun p hp=>hg'.flag p (List.mem_cons_of_mem _ hp)⟩ hcl' hsz' hcnt'
     ·intro j hj hc
      rcases List.mem_cons.1 hj with e | hj
      ·rw [e]
       rw [Array.getD_eq_getD_getElem?,Array.getElem?_setIfInBounds]
       simp [show i<listed.size from by omega]
      ·exact getD_set_true (hg'.lst j hj hc)
     ·intro p hpm
      have:p.1 ≠ i:=fun e=>notboth h2 i List.mem_cons_self p hpm e
      rw [getD_set_ne true (Ne.symm this)];exact hg'.un p (List.mem_cons_of_mem _ hpm)
    ·obtain ⟨l,h3,h4⟩:=drawChk_last h2 i c hp
     have hll:=listed_agree (bits_listed hB hcl i o ho hedge l h4)
     have hul:listed.getD l true=false:=by
      rcases h3 with rfl | h3
      ·exact hg'.un (l,true) List.mem_cons_self
      ·exact hg'.un (l,true) (List.mem_cons_of_mem _ h3)
     rw [hul] at hll;cases hll
where
 notboth:∀ {rest:List (Nat × Bool)} {pre:List Nat} {last:Option Nat},drawChk N ops B rest pre last=true->∀ i,i ∈ pre->∀ p ∈ rest,p.1=i->False:=by
  intro rest
  induction rest with
  | nil=>intro pre last _ i _ p hp;cases hp
  | cons q rest ihr =>
   intro pre last h i hi p hp e
   obtain ⟨k,c⟩:=q
   obtain ⟨⟨o,x,hk⟩,h2⟩:=drawChk_cons h
   rcases List.mem_cons.1 hp with e2 | hp
   ·rw [e2] at e;exact hk.new (by rw [show k=i from e];exact hi)
   ·exact ihr h2 i (List.mem_cons_of_mem _ hi) p hp e
 fin:∀ {listed:Array Bool} {a:Act} {w:World} {μ:Mu} {sa:Sl},(∀ i,i<ops.size->listed.getD i true=true) ->
   (∃ pre' rest' last' s' H' ids',Good P N ops B chn (Q .normal) μ0 H0 w0 listed a w pre' rest' last' μ s' sa H' ids'/\(rest'=[]∨∃ i r,rest'=(i,true) :: r))->Post P N μ0 H0 w0 Q .normal a w:=by
  intro listed a w μ sa hall h
  obtain ⟨pre,rest,last,s,H,ids,hg,hr⟩:=h
  have hnil:rest=[]:=by
   rcases hr with e | ⟨i,r,e⟩
   ·exact e
   ·subst e
    obtain ⟨⟨o,x,hk⟩,_⟩:=drawChk_cons hg.chk
    have:=hg.un (i,true) List.mem_cons_self
    rw [hall i (Array.getElem?_eq_some_iff.1 hk.at_).1] at this;cases this
  subst hnil
  have hsa:sa=s:=by
   funext i
   refine hg.side.agree i ?_
   intro j hj hl x hx
   have:j<ops.size:=by
    unfold opxAt at hx
    cases ho:ops[j]? with
    | none=>rw [ho] at hx;cases hx
    | some o=>exact (Array.getElem?_eq_some_iff.1 ho).1
   rw [hall j this] at hl;cases hl
  have hw:=hg.wp
  simp only [stepsOf,wpSteps] at hw
  have hs:=hg.side.hs
  rw [hsa] at hs
  exact ⟨μ,s,H,hg.side.hH,hs,hg.side.evo,hw⟩
theorem draw_sound (hm:P.follows .mixedOrders=true)(hB:bitsOk ops B=true){cl:List (Nat × Bool)}(hchk:drawChk N ops B cl [] none=true){Q:Exit->Sl->AH->Prop}{s:Sl}{H:AH}{id:Nat}
  (h:wpSteps P (Q .normal) (stepsOf ops B cl []) s H){μ:Mu}{a:Act}{w:World}(hH:HRel P μ H w)(hs:SRel N μ s a):(Code.region id ops true).wp P (Post P N μ H w Q) a w:=by
 refine wp_region_any hm ?_
 let chn:Nat->Bool:=fun i=>cl.any fun p=>p.1 == i && p.2
 have hflag:∀ (cl:List (Nat × Bool)) (pre:List Nat) (last:Option Nat),drawChk N ops B cl pre last=true->∀ p ∈ cl,(cl.any fun q=>q.1 == p.1 && q.2)=p.2:=by
  intro cl
  induction cl with
  | nil=>intro _ _ _ p hp;cases hp
  | cons q cl ih =>
   intro pre last hc p hp
   obtain ⟨k,c⟩:=q
   obtain ⟨⟨o,x,hk⟩,h2⟩:=drawChk_cons hc
   have none':(cl.any fun q=>q.1 == k && q.2)=false:=by
    rw [List.any_eq_false]
    intro q hq hx
    simp only [Bool.and_eq_true,beq_iff_eq] at hx
    exact any_sound.notboth h2 k List.mem_cons_self q hq hx.1
   simp only [List.any_cons]
   rcases List.mem_cons.1 hp with e | hp
   ·rw [e];simp only [beq_self_eq_true,Bool.true_and]
    rw [none',Bool.or_false]
   ·rw [ih _ _ h2 p hp]
    have hne:k ≠ p.1:=fun e=>any_sound.notboth h2 k List.mem_cons_self p hp e.symm
    simp [hne]
 have hw':HRel P μ H { w with drawn:=w.drawn+1 }:=hH.drew
 have key:wpAny P .any ops (Post P N μ H { w with drawn:=w.drawn+1 } Q) ops.size (Array.replicate ops.size false) a { w with drawn:=w.drawn+1 }:=by
  refine any_sound (B:=B) (chn:=chn) hB ops.size _ _ _ [] cl none μ s s H (fun _=>0) ⟨⟨hw',hs,Evo.refl _ _ _,fun _ _=>rfl,fun j hj=>(by cases hj),fun j hj=>(by cases hj)⟩,trivial,fun j hj=>(by cases hj),hchk,h,?_,hflag cl [] none hchk⟩ ?_ (by simp) ?_
  ·intro p hp
   have:p.1<ops.size:=by
    clear hflag
    have key:∀ (cl:List (Nat × Bool)) (pre:List Nat) (last:Option Nat),drawChk N ops B cl pre last=true->∀ p ∈ cl,p.1<ops.size:=by
     intro cl
     induction cl with
     | nil=>intro _ _ _ p hp;cases hp
     | cons q cl ih =>
      intro pre last hc p hp
      obtain ⟨k,c⟩:=q
      obtain ⟨⟨o,x,hk⟩,h2⟩:=drawChk_cons hc
      rcases List.mem_cons.1 hp with e | hp
      ·rw [e];exact (Array.getElem?_eq_some_iff.1 hk.at_).1
      ·exact ih _ _ h2 p hp
    exact key cl [] none hchk p hp
   simp [this]
  ·intro j o hj ho e he hb
   have:j<ops.size:=(Array.getElem?_eq_some_iff.1 ho).1
   simp [this] at hj
  ·unfold cnt
   exact Nat.le_trans (List.length_filter_le _ _) (by simp)
 have he:Evo μ H w μ H { w with drawn:=w.drawn+1 }:=Evo.drew μ H w
 exact wpAny_weaken (fun e a w2 h=>Post.trans he h) _ _ _ _ key
where
 wpAny_weaken {Q Q':Exit->Act->World->Prop} (hq:∀ e a w,Q e a w->Q' e a w):∀ (fuel:Nat) (listed:Array Bool) (a:Act) (w:World),wpAny P .any ops Q fuel listed a w->wpAny P .any ops Q' fuel listed a w:=by
  intro fuel
  induction fuel with
  | zero=>intro listed a w h;exact ⟨h.1,hq _ _ _ h.2⟩
  | succ fuel ih =>
   intro listed a w h
   refine ⟨fun hr=>hq _ _ _ (h.1 hr),fun i hi=>?_⟩
   have:=h.2 i hi
   unfold wpOp at this ⊢
   split
   ·rename_i e;rw [e] at this;exact ih _ _ _ this
   ·rename_i o e
    rw [e] at this
    simp only at this
    split
    ·rename_i hw;rw [if_pos hw] at this
     exact this.imp (Oper.wp_weaken (ih _) hq) (fun h=>⟨h.1,by obtain ⟨a0,w0,h0⟩:=h.2;exact ⟨a0,w0,hq _ _ _ h0⟩⟩)
    ·rename_i hw;rw [if_neg hw] at this;exact ih _ _ _ this
end
end Go.Proofs.YtlcipphiflcaiaaGreat.Ai
namespace Go.Proofs.YtlcipphiflcaiaaGreat.Ai
open Go Go.RowKit
theorem wp_loop_down {P:Program}{Q:Exit->Act->World->Prop}{c:Code}(I:Nat->Act->World->Prop)
  (round:∀ n a w,I n a w->c.wp P (Exit.then (fun a' w'=>∃ m,m<n/\I m a' w') Q) a w){n:Nat}{a:Act}{w:World}(h₀:I n a w):(Code.loop c).wp P Q a w:=by
 intro b k cs
 have key:∀ n a w,I n a w->∃ e a' w',Q e a' w'/\Arrives P (lone (b.at a (.code c :: .inLoop c :: k)) cs w) b k cs e a' w':=by
  intro n
  induction n using Nat.strongRecOn with
  | _ n ih =>
   intro a w hI
   obtain ⟨e,a₁,w₁,hq,harr⟩:=round n a w hI b (.inLoop c :: k) cs
   cases e with
   | normal =>
    obtain ⟨m,hlt,hI₁⟩:=hq
    obtain ⟨e₂,a₂,w₂,hq₂,harr₂⟩:=ih m hlt a₁ w₁ hI₁
    exact ⟨e₂,a₂,w₂,hq₂,.of_steps (Steps.trans harr (.one step_inLoop)) harr₂⟩
   | exit id=>exact ⟨_,a₁,w₁,hq,.pass (x:=.inLoop c) rfl (fun _ _=>.inl (by simp)) harr⟩
   | goto l=>exact ⟨_,a₁,w₁,hq,.pass (x:=.inLoop c) rfl (fun _ _=>.inl (by simp)) harr⟩
   | ret=>exact ⟨_,a₁,w₁,hq,.pass (x:=.inLoop c) rfl (fun _ _=>.inl (by simp)) harr⟩
   | panic ch=>exact ⟨_,a₁,w₁,hq,.pass (x:=.inLoop c) rfl (fun _ _=>.inl (by simp)) harr⟩
   | outgrown=>exact ⟨_,a₁,w₁,hq,.pass (x:=.inLoop c) rfl (fun _ _=>.inl (by simp)) harr⟩
 obtain ⟨e,a',w',hq,harr⟩:=key n a w h₀
 exact ⟨e,a',w',hq,.of_steps (.one step_loop) harr⟩
inductive Cd where
 | skip
 | exit (id:Nat)
 | ret
 | reg (ts:List Stp)
 | seq (a b:Cd)
 | cond (c:Operand) (t e:Cd)
 | block (id:Nat) (c:Cd)
 | loop (c:Cd)
def lookO (ords:List (Nat × List (Nat × Bool)))(id:Nat):List (Nat × Bool) :=
 match ords with
 | []=>[]
 | (i,l) :: r=>if i=id then l else lookO r id
def opsOK (N:Nat)(ops:List Oper):Bool:=ops.all fun o=>opOK o.op && (o.dst.all fun d=>decide (d<N))
def slim (N:Nat)(ords:List (Nat × List (Nat × Bool))):Code->Option Cd
 | .skip=>some .skip
 | .exit id=>some (.exit id)
 | .ret=>some .ret
 | .region id ops draw =>
  match draw with
  | true =>
   match bitsOk ops (Region.before ops) && drawChk N ops (Region.before ops) (lookO ords id) [] none with
   | true=>some (.reg (stepsOf ops (Region.before ops) (lookO ords id) []))
   | false=>none
  | false =>
   match opsOK N ops.toList with
   | true=>(textSteps ops ops.toList).map .reg
   | false=>none
 | .seq a b=>match slim N ords a,slim N ords b with | some x,some y=>some (.seq x y) | _,_=>none
 | .cond c t e=>match opOkC c,slim N ords t,slim N ords e with | true,some x,some y=>some (.cond c x y) | _,_,_=>none
 | .block id c=>(slim N ords c).map (.block id)
 | .loop c=>(slim N ords c).map .loop
 | _=>none
def thenA (K:Sl->AH->Prop)(Q:Exit->Sl->AH->Prop):Exit->Sl->AH->Prop
 | .normal,s,H=>K s H
 | e,s,H=>Q e s H
def blockA (id:Nat)(Q:Exit->Sl->AH->Prop):Exit->Sl->AH->Prop
 | .exit id',s,H=>if id'=id then Q .normal s H else Q (.exit id') s H
 | e,s,H=>Q e s H
def LoopA (body:(Sl->AH->Prop)->Sl->AH->Prop)(s:Sl)(H:AH):Prop :=
 ∃ I:Nat->Sl->AH->Prop,(∃ n,I n s H)/\∀ n s H,I n s H->body (fun s' H'=>∃ m,m<n/\I m s' H') s H
def wpC (P:Program):Cd->(Exit->Sl->AH->Prop)->Sl->AH->Prop
 | .skip,Q,s,H=>Q .normal s H
 | .reg ts,Q,s,H=>wpSteps P (Q .normal) ts s H
 | .seq a b,Q,s,H=>wpC P a (thenA (wpC P b Q) Q) s H
 | .cond c t e,Q,s,H=>match evalA s c with | .bool b=>Br b (wpC P t Q s H) (wpC P e Q s H) | _=>False
 | .block id c,Q,s,H=>wpC P c (blockA id Q) s H
 | .loop c,Q,s,H=>LoopA (fun K=>wpC P c (thenA K Q)) s H
 | .exit id,Q,s,H=>Q (.exit id) s H
 | .ret,Q,s,H=>Q .ret s H
theorem wpC_sound {P:Program}{N:Nat}{ords:List (Nat × List (Nat × Bool))}(hm:P.follows .mixedOrders=true):∀ (c:Code) (d:Cd),slim N ords c=some d->∀ (Q:Exit->Sl->AH->Prop) (s:Sl) (H:AH),wpC P d Q s H->AWP P N c Q s H:=by
 intro c
 induction c with
 | skip=>intro d hd Q s H h μ a w hH hs;cases hd;exact wp_skip ⟨μ,s,H,hH,hs,Evo.refl _ _ _,h⟩
 | exit id=>intro d hd Q s H h μ a w hH hs;cases hd;exact wp_exit ⟨μ,s,H,hH,hs,Evo.refl _ _ _,h⟩
 | ret=>intro d hd Q s H h μ a w hH hs;cases hd;exact wp_ret ⟨μ,s,H,hH,hs,Evo.refl _ _ _,h⟩
 | region id ops draw =>
  intro d hd Q s H h μ a w hH hs
  cases draw with
  | false =>
   simp only [slim] at hd
   split at hd
   ·rename_i hok
    cases ht:textSteps ops ops.toList with
    | none=>rw [ht] at hd;cases hd
    | some ts =>
     rw [ht] at hd
     cases hd
     refine wp_region ?_
     have:=text_sound (P:=P) (N:=N) (Q:=Q) ops.toList 0 (fun j=>by rw [Array.getElem?_toList,Nat.zero_add]) (by
      intro o ho
      have:=List.all_eq_true.1 hok o ho
      simp only [Bool.and_eq_true] at this
      refine ⟨this.1,fun i hi=>?_⟩
      have h2:=this.2
      rw [hi] at h2
      simpa using h2) ts ht s H μ a w h hH hs
     rwa [Array.length_toList,<- List.range_eq_range'] at this
   ·cases hd
  | true =>
   simp only [slim] at hd
   split at hd
   ·rename_i hok
    cases hd
    simp only [Bool.and_eq_true] at hok
    exact draw_sound hm hok.1 hok.2 h hH hs
   ·cases hd
 | seq x y ihx ihy =>
  intro d hd Q s H h μ a w hH hs
  simp only [slim] at hd
  split at hd
  ·rename_i dx dy ex ey
   cases hd
   refine wp_seq (wp_mono (ihx dx ex _ s H h μ a w hH hs) ?_)
   intro e a' w' hp
   obtain ⟨μ',s',H',h1,h2,h3,h4⟩:=hp
   cases e with
   | normal=>exact wp_mono (ihy dy ey _ s' H' h4 μ' a' w' h1 h2) (fun e a2 w2 hp=>Post.trans h3 hp)
   | _=>exact ⟨μ',s',H',h1,h2,h3,h4⟩
  ·cases hd
 | cond c x y ihx ihy =>
  intro d hd Q s H h μ a w hH hs
  simp only [slim] at hd
  split at hd
  ·rename_i dx dy hok ex ey
   cases hd
   simp only [wpC] at h
   split at h
   ·rename_i b e
    have hc:=hs.eval hok
    rw [e] at hc
    have hc':a.eval c=.bool b:=hc
    refine wp_cond hc' ?_
    cases b with
    | true=>exact ihx dx ex Q s H (h.1 rfl) μ a w hH hs
    | false=>exact ihy dy ey Q s H (h.2 rfl) μ a w hH hs
   ·exact h.elim
  ·cases hd
 | block id c ih =>
  intro d hd Q s H h μ a w hH hs
  simp only [slim] at hd
  cases hc:slim N ords c with
  | none=>rw [hc] at hd;cases hd
  | some dc =>
   rw [hc] at hd
   cases hd
   refine wp_block (wp_mono (ih dc hc _ s H h μ a w hH hs) ?_)
   intro e a' w' hp
   obtain ⟨μ',s',H',h1,h2,h3,h4⟩:=hp
   cases e with
   | exit id' =>
    simp only [Exit.inBlock]
    simp only [blockA] at h4
    split
    ·rename_i e;rw [if_pos e] at h4;exact ⟨μ',s',H',h1,h2,h3,h4⟩
    ·rename_i e;rw [if_neg e] at h4;exact ⟨μ',s',H',h1,h2,h3,h4⟩
   | _=>exact ⟨μ',s',H',h1,h2,h3,h4⟩
 | loop c ih =>
  intro d hd Q s H h μ a w hH hs
  simp only [slim] at hd
  cases hc:slim N ords c with
  | none=>rw [hc] at hd;cases hd
  | some dc =>
   rw [hc] at hd
   cases hd
   obtain ⟨I,⟨n,h0⟩,hr⟩:=h
   refine wp_loop_down (fun n a' w'=>∃ μ' s' H',HRel P μ' H' w'/\SRel N μ' s' a'/\Evo μ H w μ' H' w'/\I n s' H') ?_ (n:=n) ⟨μ,s,H,hH,hs,Evo.refl _ _ _,h0⟩
   rintro n a1 w1 ⟨μ1,s1,H1,g1,g2,g3,g4⟩
   refine wp_mono (ih dc hc _ s1 H1 (hr n s1 H1 g4) μ1 a1 w1 g1 g2) ?_
   intro e a' w' hp
   obtain ⟨μ',s',H',h1,h2,h3,h4⟩:=hp
   cases e with
   | normal=>obtain ⟨m,hm,hI⟩:=h4;exact ⟨m,hm,μ',s',H',h1,h2,g3.trans h3,hI⟩
   | _=>exact ⟨μ',s',H',h1,h2,g3.trans h3,h4⟩
 | _=>intro d hd;cases hd
def resA (P:Program)(s:Sl)(H:AH):List ResultVar->Option (List Value)
 | []=>some []
 | .tmp t :: rs=>if isTup (s t)=true then none else (resA P s H rs).map (s t :: ·)
 | .cell a t :: rs=>match loadA P t (s a) H with | some v=>if isTup v=true then none else (resA P s H rs).map (v :: ·) | none=>none
def outA (vs:List Value):Value :=
 match vs with
 | [v]=>v
 | vs=>.tuple vs.toArray
theorem loadA_ptr {P:Program}{t:TypeId}{x v:Value}{H:AH}(h:loadA P t x H=some v):∃ p,x=.pointer (some p):=by
 unfold loadA at h
 split at h
 ·exact ⟨_,rfl⟩
 ·cases h
def rdRes (a:Act):ResultVar->Sem Value
 | .tmp t=>pure (a.tmps.getD t undef)
 | .cell x t=>do loadVar t (<- asAddr (a.tmps.getD x undef))
theorem asAddr_run {P:Program}(p:Addr)(w:World):(asAddr (.pointer (some p))).run P w=.ok p w:=rfl
theorem resA_run {P:Program}{N:Nat}{μ:Mu}{H:AH}{w:World}(hH:HRel P μ H w){s:Sl}{a:Act}(hs:SRel N μ s a):∀ (rs:List ResultVar) (vs:List Value),resA P s H rs=some vs ->
  ∃ cs,(rs.mapM (rdRes a)).run P w=.ok cs w/\All2 (VRel μ) vs cs
 | [],vs,h=>by simp only [resA,Option.some.injEq] at h;subst h;exact ⟨[],by simp,trivial⟩
 | .tmp t :: rs,vs,h=>by
  simp only [resA] at h
  split at h
  ·cases h
  ·rename_i hnt
   obtain ⟨us,h1,h2⟩:=map_some h
   subst h2
   obtain ⟨cs,g1,g2⟩:=resA_run hH hs rs us h1
   refine ⟨a.tmps.getD t undef :: cs,?_,VRel.of_t' (by simpa using hnt) (hs.at_ t),g2⟩
   simp only [List.mapM_cons,rdRes,Sem.run_bind,Sem.run_pure,Result.andThen_ok,g1]
 | .cell x t :: rs,vs,h=>by
  simp only [resA] at h
  split at h
  ·rename_i v hv
   split at h
   ·cases h
   ·rename_i hnt
    obtain ⟨us,h1,h2⟩:=map_some h
    subst h2
    obtain ⟨cs,g1,g2⟩:=resA_run hH hs rs us h1
    obtain ⟨p,hp⟩:=loadA_ptr hv
    have hx:=hs.at_ x
    obtain ⟨cv,k1,k2⟩:=loadA_run hH hv hx
    rw [hp] at hx
    obtain ⟨_,L,_,e⟩:=hx
    refine ⟨cv :: cs,?_,VRel.of_t' (by simpa using hnt) k2,g2⟩
    rw [e] at k1
    have k1':(loadVar t ⟨L.blk,L.base+p.off,none⟩).run P w=.ok cv w:=by
     simpa [Instr.loadAt,Instr.sureAddr] using k1
    simp only [List.mapM_cons,rdRes,Sem.run_bind,e,asAddr_run,Sem.run_pure,Result.andThen_ok,k1',g1]
  ·cases h
theorem results_run {P:Program}{N:Nat}{μ:Mu}{H:AH}{w:World}(hH:HRel P μ H w){s:Sl}{a:Act}(hs:SRel N μ s a){fn:Func}{vs:List Value}(h:resA P s H fn.results.toList=some vs) :
  ∃ c,(results fn a.tmps).run P w=.ok c w/\TRel μ (outA vs) c:=by
 obtain ⟨cs,g1,g2⟩:=resA_run hH hs fn.results.toList vs h
 have hm:(fn.results.mapM (rdRes a)).run P w=.ok cs.toArray w:=by
  rw [Array.mapM_eq_mapM_toList,Sem.run_map,g1];rfl
 have hl:=all2_len g2
 refine ⟨if h:cs.toArray.size=1 then cs.toArray[0] else .tuple cs.toArray,?_,?_⟩
 ·change ((fn.results.mapM (rdRes a)) >>= fun vs=>pure (if h:vs.size=1 then vs[0] else .tuple vs):Sem Value).run P w=_
  rw [Sem.run_bind,hm]
  rfl
 ·match vs,cs,g2,hl with
  | [],[],_,_=>exact ⟨#[],rfl,trivial⟩
  | [v],[c],g2,_=>exact TRel.of_vrel g2.1
  | v :: v2 :: vs,c :: c2 :: cs,g2,_ =>
   refine ⟨(c :: c2 :: cs).toArray,?_,g2⟩
   simp
def enterA (args:List Value):Sl:=fun i=>args.getD i undef
def endA (P:Program)(rs:List ResultVar)(R:Value->AH->Prop):Exit->Sl->AH->Prop
 | .normal,s,H | .ret,s,H=>match resA P s H rs with | some vs=>R (outA vs) H | none=>False
 | _,_,_=>False
theorem ACalls.intro {P : Program} (hm : P.follows .mixedOrders = true) {f : FuncId} {fn : Func} {c : Code} {d : Cd} {ords : List (Nat × List (Nat × Bool))} {args : List Value} {H : AH} {R : Value → AH → Prop} (hf : P.funcs[f]? = some fn) (hb : fn.body = some c) (hn : (fn.name == "runtime.NumGoroutine") = false)
    (hok:slim fn.ntmps ords c=some d) {n:Nat} (hl:args.length=n) (hl2:n<=fn.ntmps) {rs:List ResultVar} (hrs:fn.results.toList=rs) (h':∀ (Q:Exit->Sl->AH->Prop),(∀ e s H,endA P rs R e s H->Q e s H)->wpC P d Q (enterA args) H):ACalls P f args H R:=by
  subst hl
  subst hrs
  have h:=h' _ (fun _ _ _ h=>h)
  have hl:=hl2
  refine ⟨⟨fn,hf,by rw [hb];rfl,hn⟩,?_⟩
  intro μ w cargs hH ha
  have hlen0:=all2_len ha
  have hlen:args.length=cargs.size:=by rw [hlen0];exact Array.length_toList
  have hs:SRel fn.ntmps μ (enterA args) { tmps:=cargs ++ Array.replicate (fn.ntmps - cargs.size) undef,defers:=[] }:=by
    refine ⟨rfl,by simp;omega,?_⟩
    intro i
    unfold enterA
    rw [Array.getD_eq_getD_getElem?,List.getD_eq_getElem?_getD]
    by_cases hi:i<args.length
    . obtain ⟨y,h1,h2⟩:=all2_at ha i args[i] (List.getElem?_eq_getElem hi)
      rw [List.getElem?_eq_getElem hi,Array.getElem?_append_left (by omega)]
      have h1':cargs[i]?=some y:=by simpa using h1
      rw [h1'];exact h2
    . rw [List.getElem?_eq_none (by omega)]
      simp only [Option.getD_none]
      rw [Array.getElem?_append_right (by omega)]
      by_cases h2:i - cargs.size<fn.ntmps - cargs.size
      . simp [h2];exact TRel.undef μ
      . simp [h2];exact TRel.undef μ
  refine calls_of_wp hf hb (wp_mono (wpC_sound hm c d hok _ _ H h μ _ w hH hs) ?_)
  intro e a' w' hp
  obtain ⟨μ',s',H',h1,h2,h3,h4⟩:=hp
  have fin:(match resA P s' H' fn.results.toList with | some vs=>R (outA vs) H' | none=>False)->a'.defers=[]/\∃ v,(results fn a'.tmps).run P w'=.ok v w'/\∃ μ'' r H'' cr,Ending.returned v=.returned cr/\TRel μ'' r cr/\HRel P μ'' H'' w'/\Evo μ H w μ'' H'' w'/\R r H'':=by
    intro h4
    split at h4
    . rename_i vs e
      obtain ⟨c,g1,g2⟩:=results_run h1 h2 e
      exact ⟨h2.defers,c,g1,μ',outA vs,H',c,rfl,g2,h1,h3,h4⟩
    . exact h4.elim
  cases e with
  | normal=>exact fin h4
  | ret=>exact fin h4
  | _=>exact h4.elim
def InT (P:Program)(f k:Nat)(rv:List ResultVar)(c:Cd):Prop:=∀ {args:List Value} {H:AH} {R:Value->AH->Prop},args.length=k->(∀ (Q:Exit->Sl->AH->Prop),(∀ e s H,endA P rv R e s H->Q e s H)->wpC P c Q (enterA args) H)->ACalls P f args H R
theorem InT.mk {P : Program} (hm : P.follows .mixedOrders = true) {f : FuncId} {fn : Func} {c : Code} {d : Cd} (ords : List (Nat × List (Nat × Bool))) (hf : P.funcs[f]? = some fn) (hb : fn.body = some c) (hn : (fn.name == "runtime.NumGoroutine") = false)
    (hok:slim fn.ntmps ords c=some d) {n:Nat} (hl2:n<=fn.ntmps) {rs:List ResultVar} (hrs:fn.results.toList=rs):InT P f n rs d:=fun {args H R} hl h=>ACalls.intro hm hf hb hn hok hl hl2 hrs h
theorem ACalls.calls {P:Program}{f:FuncId}{args:List Value}{H:AH}{R:Value->AH->Prop}(h:ACalls P f args H R){μ:Mu}{w:World}{cargs:Array Value}(hH:HRel P μ H w)(ha:All2 (TRel μ) args cargs.toList)
  {B:Nat}(hB:B<=w.heap.size)(ho:∀ o x L,H[o]?=some x->x.wr=true->μ o=some L->B<=L.blk) :
  Calls P f cargs w fun e w'=>∃ μ' r H' cr,e=.returned cr/\TRel μ' r cr/\HRel P μ' H' w'/\Below B w w'/\R r H' :=
 (h.2 μ w cargs hH ha).mono fun e w' ⟨μ',r,H',cr,h1,h2,h3,h4,h5⟩=>⟨μ',r,H',cr,h1,h2,h3,h4.below hB ho,h5⟩
end Go.Proofs.YtlcipphiflcaiaaGreat.Ai
