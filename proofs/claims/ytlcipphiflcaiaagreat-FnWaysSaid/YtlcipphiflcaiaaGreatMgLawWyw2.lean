/- Texts of this claim, joined: AiM3. -/
import Derived.WalkKit
import Derived.ProofKit
import Derived.OpenShut
import Derived.ShutString
import Derived.ChangeOld
import Derived.Below
import Derived.SizedLaws
import Derived.WideKeyPair
import Derived.Test.YtlcipphiflcaiaaGreatMgLawWyw1
set_option linter.unusedVariables false
set_option linter.unusedSimpArgs false
set_option maxHeartbeats 8000000
set_option maxRecDepth 20000
namespace Go.Proofs.YtlcipphiflcaiaaGreat.Ai
open Go Go.RowKit
class Hold (α:Type) where
  v:α
def brH (b:Bool)[A:Hold Prop][B:Hold Prop]:Prop:=(b=true->A.v)/\(b=false->B.v)
theorem brH.intro {b:Bool}{A B:Prop}(h1:b=true->A)(h2:b=false->B):@brH b ⟨A⟩ ⟨B⟩:=⟨h1,h2⟩
theorem brD.intro {p:Prop}{dp:Decidable p}{A B:Prop}(h1:p->A)(h2:¬ p->B):@brH (@decide p dp) ⟨A⟩ ⟨B⟩:=⟨fun h=>h1 (of_decide_eq_true h),fun h=>h2 (of_decide_eq_false h)⟩
def letA (o:Option Value)[k:Hold (Value->Prop)]:Prop:=match o with | some v=>k.v v | none=>False
def letP (o:Option (Value × AH))[k:Hold (Value->AH->Prop)]:Prop:=match o with | some p=>k.v p.1 p.2 | none=>False
def letH (o:Option AH)[k:Hold (AH->Prop)]:Prop:=match o with | some h=>k.v h | none=>False
def condA (v:Value)[A:Hold Prop][B:Hold Prop]:Prop:=match v with | .bool b=>@brH b A B | _=>False
def guardA (v:Value)[A:Hold Prop][B:Hold Prop]:Prop:=match v with | .bool b=>@brH b A B | _=>B.v
def guardB (v:Value)[A:Hold Prop][B:Hold Prop]:Prop:=match v with | .bool b=>@brH b B A | _=>B.v
def stepH (P:Program)(op:Op)(s:Sl)(H:AH)[K:Hold (Value->AH->Prop)]:Prop:=stepW P op s H K.v
def runH (P:Program)(x:Opx)(s:Sl)(H:AH)[K:Hold (Value->AH->Prop)]:Prop:=runX P x s H K.v
def callH (P:Program)(f:Value)(xs:List Value)(H:AH)[K:Hold (Value->AH->Prop)]:Prop:=match f with | .func (.func g) fs caps=>ACalls P g (fs.toList ++ (xs ++ caps.toList)) H K.v | _=>False
def CallH (P:Program)(g:FuncId)(xs:List Value)(H:AH)[K:Hold (Value->AH->Prop)]:Prop:=ACalls P g xs H K.v
def LoopH (s:Sl)(H:AH)[body:Hold ((Sl->AH->Prop)->Sl->AH->Prop)]:Prop:=LoopA body.v s H
theorem CallH.by {P:Program}{g:FuncId}{xs:List Value}{H:AH}{K R:Value->AH->Prop}(h:ACalls P g xs H R)(hk:∀ r H',R r H'->K r H'):@CallH P g xs H ⟨K⟩:=h.mono hk
theorem LoopH.by {body:(Sl->AH->Prop)->Sl->AH->Prop}{s:Sl}{H:AH}(I:Nat->Sl->AH->Prop)(n:Nat)(h0:I n s H)(hr:∀ n s H,I n s H->body (fun s' H'=>∃ m,m<n/\I m s' H') s H):@LoopH s H ⟨body⟩:=⟨I,⟨n,h0⟩,hr⟩
def pickA (c a b:Value):Option Value:=match c with | .bool t=>some (if t=true then a else b) | _=>none
theorem stepH_let (P:Program)(op:Op)(s:Sl)(H:AH)(K:Value->AH->Prop)(o:Option Value)(h:stepA P op s H=o.map (·,H))(hs:stepW P op s H K=(match stepA P op s H with | some (v,H')=>K v H' | none=>False)):@stepH P op s H ⟨K⟩=@letA o ⟨fun v=>K v H⟩:=by
 show stepW P op s H K=_
 rw [hs,h]
 cases o <;> rfl
theorem stepH_letP (P:Program)(op:Op)(s:Sl)(H:AH)(K:Value->AH->Prop)(o:Option (Value × AH))(h:stepA P op s H=o)(hs:stepW P op s H K=(match stepA P op s H with | some (v,H')=>K v H' | none=>False)):@stepH P op s H ⟨K⟩=@letP o ⟨K⟩:=by
 show stepW P op s H K=_
 rw [hs,h];cases o <;> rfl
theorem pick_step (P:Program)(c a b:Operand)(s:Sl)(H:AH):stepA P (.pick c a b) s H=(pickA (evalA s c) (evalA s a) (evalA s b)).map (·,H):=by
 simp only [stepA,pickA]
 cases evalA s c <;> rfl
def lenS (P:Program)(t:TypeId)(x:Value)(H:AH):Option Value:=if t=mapT then lenMapA P t x H else lenA P t x
theorem len_step (P:Program)(x:Operand)(t:TypeId)(s:Sl)(H:AH):stepA P (.call ⟨.builtin .len,List.toArray [x],List.toArray [t]⟩) s H=(lenS P t (evalA s x) H).map (·,H):=by
 show (if t=mapT then (lenMapA P t (evalA s x) H).map (·,H) else (lenA P t (evalA s x)).map (·,H))=_
 unfold lenS
 split <;> rfl
theorem lenS_sl {P:Program}{t:TypeId}(h:t ≠ mapT)(x:Value)(H:AH):lenS P t x H=lenA P t x:=if_neg h
def nilA (x:Value):Option Value:=match x with | .pointer (some p)=>some (.pointer (some p)) | .func (.func f) fs cs=>some (.func (.func f) fs cs) | _=>none
theorem nil_step (P:Program)(x:Operand)(s:Sl)(H:AH):stepA P (.nilCheck x) s H=(nilA (evalA s x)).map (·,H):=by
 simp only [stepA,nilA]
 split <;> simp_all
theorem S :
  (∀ (P:Program) Q s H,wpC P .skip Q s H=Q .normal s H) /\
  (∀ (P:Program) Q s H id,wpC P (.exit id) Q s H=Q (.exit id) s H) /\
  (∀ (P:Program) Q s H,wpC P .ret Q s H=Q .ret s H) /\
  (∀ (P:Program) Q s H ts,wpC P (.reg ts) Q s H=wpSteps P (Q .normal) ts s H) /\
  (∀ (P:Program) Q s H a b,wpC P (.seq a b) Q s H=wpC P a (thenA (wpC P b Q) Q) s H) /\
  (∀ (P:Program) Q s H c t e,wpC P (.cond c t e) Q s H=@condA (evalA s c) ⟨wpC P t Q s H⟩ ⟨wpC P e Q s H⟩) /\
  (∀ (P:Program) Q s H id c,wpC P (.block id c) Q s H=wpC P c (blockA id Q) s H) /\
  (∀ (P:Program) Q s H c,wpC P (.loop c) Q s H=@LoopH s H ⟨fun K=>wpC P c (thenA K Q)⟩) /\
  (∀ K Q s H,thenA K Q .normal s H=K s H) /\
  (∀ K Q s H id,thenA K Q (.exit id) s H=Q (.exit id) s H) /\
  (∀ K Q s H,thenA K Q .ret s H=Q .ret s H) /\
  (∀ id Q s H,blockA id Q .normal s H=Q .normal s H) /\
  (∀ id Q s H id',blockA id Q (.exit id') s H=if id'=id then Q .normal s H else Q (.exit id') s H) /\
  (∀ id Q s H,blockA id Q .ret s H=Q .ret s H) /\
  (∀ (P:Program) Q s H,wpSteps P Q [] s H=Q s H) /\
  (∀ (P:Program) Q s H x rest,wpSteps P Q (⟨x,[]⟩ :: rest) s H=@runH P x s H ⟨fun v H'=>wpSteps P Q rest (s.put x.dst v) H'⟩) /\
  (∀ (P:Program) Q s H x w ws rest,wpSteps P Q (⟨x,w :: ws⟩ :: rest) s H=@runH P x s H ⟨fun v H'=>watchA P (s.put x.dst v) H H' (w :: ws)/\wpSteps P Q rest (s.put x.dst v) H'⟩) /\
  (∀ (P:Program) s H H' x xs,watchA P s H H' (x :: xs)=(watch1 P x s H H'/\watchA P s H H' xs)) /\
  (∀ (P:Program) s H H',watchA P s H H' []=True) /\
  (∀ (P:Program) d op s H K,@runH P ⟨d,op,none⟩ s H ⟨K⟩=@stepH P op s H ⟨K⟩) /\
  (∀ (P:Program) d op g s H K,@runH P ⟨d,op,some (g,true)⟩ s H ⟨K⟩=@guardA (s g) ⟨@stepH P op s H ⟨K⟩⟩ ⟨K undef H⟩) /\
  (∀ (P:Program) d op g s H K,@runH P ⟨d,op,some (g,false)⟩ s H ⟨K⟩=@guardB (s g) ⟨@stepH P op s H ⟨K⟩⟩ ⟨K undef H⟩) /\
  (∀ b A B,@condA (.bool b) ⟨A⟩ ⟨B⟩=@brH b ⟨A⟩ ⟨B⟩) /\
  (∀ b A B,@guardA (.bool b) ⟨A⟩ ⟨B⟩=@brH b ⟨A⟩ ⟨B⟩) /\
  (∀ b A B,@guardB (.bool b) ⟨A⟩ ⟨B⟩=@brH b ⟨B⟩ ⟨A⟩) /\
  (∀ vs A B,@guardA (.tuple vs) ⟨A⟩ ⟨B⟩=B) /\
  (∀ vs A B,@guardB (.tuple vs) ⟨A⟩ ⟨B⟩=B) /\
  (∀ A B,@guardA undef ⟨A⟩ ⟨B⟩=B) /\
  (∀ A B,@guardB undef ⟨A⟩ ⟨B⟩=B) /\
  (∀ b A B,@brH (!b) ⟨A⟩ ⟨B⟩=@brH b ⟨B⟩ ⟨A⟩) /\
  (∀ A B,@brH true ⟨A⟩ ⟨B⟩=A) /\
  (∀ A B,@brH false ⟨A⟩ ⟨B⟩=B) /\
  (∀ v k,@letA (some v) ⟨k⟩=k v) /\
  (∀ k,@letA none k=False) /\
  (∀ v h k,@letP (some (v,h)) ⟨k⟩=k v h) /\
  (∀ k,@letP none k=False) /\
  (∀ h k,@letH (some h) ⟨k⟩=k h) /\
  (∀ k,@letH none k=False) /\
  (∀ (P:Program) g fs caps xs H K,@callH P (.func (.func g) (List.toArray fs) (List.toArray caps)) xs H ⟨K⟩=@CallH P g (fs ++ (xs ++ caps)) H ⟨K⟩) /\
  (∀ s t,evalA s (.tmp t)=s t) /\
  (∀ s v,evalA s (.const v)=v) /\
  (∀ s f,evalA s (.func f)=.func (.func f) #[] #[]) /\
  (∀ s l,evalsA s (List.toArray l)=l.map (evalA s)) /\
  (∀ s l,partsA s (List.toArray l)=l.map fun p=>(p.1,evalA s p.2)) /\
  (∀ s d v i,Sl.put s (some d) v i=if i=d then v else s i) /\
  (∀ s v,Sl.put s none v=s):=by
 refine ⟨?_,?_,?_,?_,?_,?_,?_,?_,?_,?_,?_,?_,?_,?_,?_,?_,?_,?_,?_,?_,?_,?_,?_,?_,?_,?_,?_,?_,?_,?_,?_,?_,?_,?_,?_,?_,?_,?_,?_,?_,?_,?_,?_,?_,?_,?_⟩
 all_goals intros
 all_goals first
  | rfl
  | (simp [brH];done)
  | (rename_i b A B;cases b <;> simp [brH];done)
  | (simp [wpSteps,watchA,runH,stepH,runX];done)
  | (simp [evalsA,partsA,callH,CallH];done)
  | skip
theorem S1 :
  (∀ (P:Program) s H K x,@stepH P (.move x) s H ⟨K⟩=K (evalA s x) H) /\
  (∀ (P:Program) s H K x,@stepH P (.assign x) s H ⟨K⟩=K (evalA s x) H) /\
  (∀ (P:Program) s H K c a b,@stepH P (.pick c a b) s H ⟨K⟩=@letA (pickA (evalA s c) (evalA s a) (evalA s b)) ⟨fun v=>K v H⟩) /\
  (∀ a b,pickA (.bool true) a b=some a) /\
  (∀ a b,pickA (.bool false) a b=some b) /\
  (∀ (P:Program) s H K e,@stepH P (.alloc e) s H ⟨K⟩=@letP (allocA P e H) ⟨K⟩) /\
  (∀ (P:Program) s H K e x,@stepH P (.box e x) s H ⟨K⟩=@letP (boxA P e (evalA s x) H) ⟨K⟩) /\
  (∀ (P:Program) s H K t ps,@stepH P (.build t ps) s H ⟨K⟩=@letA (buildA P t (partsA s ps)) ⟨fun v=>K v H⟩) /\
  (∀ (P:Program) s H K t n ps,@stepH P (.buildSlice t n ps) s H ⟨K⟩=@letP (buildSliceA P t n (partsA s ps) H) ⟨K⟩) /\
  (∀ (P:Program) s H K t x,@stepH P (.load t x) s H ⟨K⟩=@letA (loadA P t (evalA s x) H) ⟨fun v=>K v H⟩) /\
  (∀ (P:Program) s H K t a x,@stepH P (.store t a x) s H ⟨K⟩=@letH (storeA P t (evalA s a) (evalA s x) H) ⟨fun h=>K undef h⟩) /\
  (∀ (P:Program) s H K op t x y u,@stepH P (.binOp op t x y u) s H ⟨K⟩=@letA (binA P op t (evalA s x) (evalA s y)) ⟨fun v=>K v H⟩) /\
  (∀ (P:Program) s H K op t x,@stepH P (.unOp op t x) s H ⟨K⟩=@letA (unA op (evalA s x)) ⟨fun v=>K v H⟩) /\
  (∀ (P:Program) s H K a b x,@stepH P (.convert a b x) s H ⟨K⟩=@letA (convA P a b (evalA s x)) ⟨fun v=>K v H⟩) /\
  (∀ (P:Program) s H K f xs ys,@stepH P (.makeFunc f xs ys) s H ⟨K⟩=@letA (makeFuncA f (evalsA s xs) (evalsA s ys)) ⟨fun v=>K v H⟩) /\
  (∀ (P:Program) s H K t l c,@stepH P (.makeSlice t l c) s H ⟨K⟩=@letP (makeSliceA P t (evalA s l) (evalA s c) H) ⟨K⟩) /\
  (∀ (P:Program) s H K t x lo hi,@stepH P (.slice t x lo hi none) s H ⟨K⟩=@letA (sliceA P t (evalA s x) (lo.map (evalA s)) (hi.map (evalA s)) none H) ⟨fun v=>K v H⟩) /\
  (∀ (P:Program) s H K t x lo hi m,@stepH P (.slice t x lo hi (some m)) s H ⟨K⟩=@letP (slice3A P t (evalA s x) (lo.map (evalA s)) (hi.map (evalA s)) (evalA s m) H) ⟨K⟩) /\
  (∀ (P:Program) s H K x t,@stepH P (.call ⟨.builtin .clear,List.toArray [x],List.toArray [t]⟩) s H ⟨K⟩=@letP (clearA P t (evalA s x) H) ⟨K⟩) /\
  (∀ (P:Program) s H K x y t t2,@stepH P (.call ⟨.builtin .copy,List.toArray [x,y],List.toArray [t,t2]⟩) s H ⟨K⟩=@letP (copyA P t (evalA s x) (evalA s y) H) ⟨K⟩) /\
  (∀ (P:Program) s H K t x f,@stepH P (.fieldAddr t x f) s H ⟨K⟩=@letA (fieldAddrA P t (evalA s x) f) ⟨fun v=>K v H⟩) /\
  (∀ (P:Program) s H K t x f,@stepH P (.field t x f) s H ⟨K⟩=@letA (fieldA P t (evalA s x) f) ⟨fun v=>K v H⟩) /\
  (∀ (P:Program) s H K t x f,@stepH P (.indexAddr t x f) s H ⟨K⟩=@letA (indexAddrA P t (evalA s x) (evalA s f)) ⟨fun v=>K v H⟩) /\
  (∀ (P:Program) s H K t x f,@stepH P (.index t x f) s H ⟨K⟩=@letA (indexA P t (evalA s x) (evalA s f)) ⟨fun v=>K v H⟩) /\
  (∀ (P:Program) s H K x i,@stepH P (.extract x i) s H ⟨K⟩=@letA (extractA (evalA s x) i) ⟨fun v=>K v H⟩) /\
  (∀ (P:Program) s H K x,@stepH P (.nilCheck x) s H ⟨K⟩=@letA (nilA (evalA s x)) ⟨fun v=>K v H⟩) /\
  (∀ p,nilA (.pointer (some p))=some (.pointer (some p))) /\
  (∀ f fs cs,nilA (.func (.func f) fs cs)=some (.func (.func f) fs cs)) /\
  (∀ (P:Program) s H K f xs ts,@stepH P (.call ⟨.value f,xs,ts⟩) s H ⟨K⟩=@callH P (evalA s f) (evalsA s xs) H ⟨K⟩) /\
  (∀ (P:Program) s H K x y t t2,@stepH P (.call ⟨.builtin .append,List.toArray [x,y],List.toArray [t,t2]⟩) s H ⟨K⟩=@letP (appendA P t t2 (evalA s x) (evalA s y) H) ⟨K⟩) /\
  (∀ (P:Program) s H K x t,@stepH P (.call ⟨.builtin .len,List.toArray [x],List.toArray [t]⟩) s H ⟨K⟩=@letA (lenS P t (evalA s x) H) ⟨fun v=>K v H⟩) /\
  (∀ (P:Program) s H K t,@stepH P (.makeMap t none) s H ⟨K⟩=@letP (makeMapA P t H) ⟨K⟩) /\
  (∀ (P:Program) s H K t m k b,@stepH P (.lookup t m k b) s H ⟨K⟩=@letA (lookupA P t (evalA s m) (evalA s k) b H) ⟨fun v=>K v H⟩) /\
  (∀ (P:Program) s H K t m k x,@stepH P (.mapUpdate t m k x) s H ⟨K⟩=@letH (updA P t (evalA s m) (evalA s k) (evalA s x) H) ⟨fun h=>K undef h⟩) /\
  (∀ (P:Program) s H K t m k x,@stepH P (.insert t m k x) s H ⟨K⟩=@letH (updA P t (evalA s m) (evalA s k) (evalA s x) H) ⟨fun h=>K undef h⟩) /\
  (∀ (P:Program) s H K xs ts,@stepH P (.call ⟨.builtin .min,xs,ts⟩) s H ⟨K⟩=@letA (minmaxA minI (evalsA s xs)) ⟨fun v=>K v H⟩) /\
  (∀ (P:Program) s H K xs ts,@stepH P (.call ⟨.builtin .max,xs,ts⟩) s H ⟨K⟩=@letA (minmaxA maxI (evalsA s xs)) ⟨fun v=>K v H⟩) /\
  (∀ l i,extractA (.tuple (List.toArray l)) i=l[i]?):=by
 refine ⟨?_,?_,?_,?_,?_,?_,?_,?_,?_,?_,?_,?_,?_,?_,?_,?_,?_,?_,?_,?_,?_,?_,?_,?_,?_,?_,?_,?_,?_,?_,?_,?_,?_,?_,?_,?_,?_,?_⟩
 all_goals intros
 all_goals first
  | rfl
  | exact stepH_let _ _ _ _ _ _ (pick_step ..) rfl
  | exact stepH_let _ _ _ _ _ _ (nil_step ..) rfl
  | exact stepH_let _ _ _ _ _ _ (len_step ..) rfl
  | exact stepH_let _ _ _ _ _ _ rfl rfl
  | exact stepH_letP _ _ _ _ _ _ rfl rfl
  | skip
 all_goals first
  | (simp [extractA,pickA,nilA];done)
  | (simp [stepH,stepW,stepA,callH];done)
  | (simp only [stepH,stepW,stepA,letH];cases storeA _ _ _ _ _ <;> rfl)
  | (simp only [stepH,stepW,stepA,letH];cases updA _ _ _ _ _ _ <;> rfl)
  | skip
end Go.Proofs.YtlcipphiflcaiaaGreat.Ai
namespace Go.Proofs.YtlcipphiflcaiaaGreat.Ai
open Go Go.RowKit
theorem S2 :
  (∀ (P:Program) t k a b,binA P .add t (.int k a) (.int k b)=some (.int k (k.wrap (a+b))))/\(∀ (P:Program) t k a b,binA P .sub t (.int k a) (.int k b)=some (.int k (k.wrap (a - b))))/\(∀ (P:Program) t k a b,binA P .mul t (.int k a) (.int k b)=some (.int k (k.wrap (a * b)))) /\
  (∀ (P:Program) t k a b,b ≠ 0->binA P .quo t (.int k a) (.int k b)=some (.int k (k.wrap (a.tdiv b))))/\(∀ (P:Program) t k a b,b ≠ 0->binA P .rem t (.int k a) (.int k b)=some (.int k (a.tmod b))) /\
  (∀ (P:Program) t k a b,binA P .eql t (.int k a) (.int k b)=some (.bool (decide (a=b))))/\(∀ (P:Program) t k a b,binA P .neq t (.int k a) (.int k b)=some (.bool (decide (a ≠ b)))) /\
  (∀ (P:Program) t k a b,binA P .lss t (.int k a) (.int k b)=some (.bool (decide (a<b))))/\(∀ (P:Program) t k a b,binA P .leq t (.int k a) (.int k b)=some (.bool (decide (a<=b)))) /\
  (∀ (P:Program) t k a b,binA P .gtr t (.int k a) (.int k b)=some (.bool (decide (b<a))))/\(∀ (P:Program) t k a b,binA P .geq t (.int k a) (.int k b)=some (.bool (decide (b<=a)))) /\
  (∀ b,unA .not (.bool b)=some (.bool (!b)))/\(∀ k n,unA .neg (.int k n)=some (.int k (k.wrap (0 - n)))) /\
  (∀ k n,isOne (.int k n)=true)/\(∀ b,isOne (.bool b)=true)/\(∀ p n c,isOne (.slice p n c)=true)/\(∀ p,isOne (.pointer p)=true)/\(∀ k n,isTup (.int k n)=false)/\(∀ b,isTup (.bool b)=false)/\(∀ p n c,isTup (.slice p n c)=false)/\(∀ p,isTup (.pointer p)=false)/\(∀ cs,isTup (.agg cs)=false) /\
  (∀ (Q:Nat->Value->Prop) (x:Value),True):=by
 refine ⟨?_,?_,?_,?_,?_,?_,?_,?_,?_,?_,?_,?_,?_,?_,?_,?_,?_,?_,?_,?_,?_,?_,?_⟩
 all_goals intros
 all_goals first
  | rfl
  | trivial
  | (simp [binA,intA, *];done)
  | (rename_i a b;by_cases h:a=b <;> simp [binA,intA,h];done)
theorem S3 :
  (∀ (P:Program) a R s H,endA P [.tmp a] R .ret s H=(isTup (s a)=false/\R (s a) H))/\(∀ (P:Program) a R s H,endA P [.tmp a] R .normal s H=(isTup (s a)=false/\R (s a) H)) /\
  (∀ (P:Program) a b R s H,endA P [.tmp a,.tmp b] R .ret s H=((isTup (s a)=false/\isTup (s b)=false)/\R (.tuple (List.toArray [s a,s b])) H)) /\
  (∀ (P:Program) a b c R s H,endA P [.tmp a,.tmp b,.tmp c] R .ret s H=((isTup (s a)=false/\isTup (s b)=false/\isTup (s c)=false)/\R (.tuple (List.toArray [s a,s b,s c])) H)) /\
  (∀ (P:Program) R s H,endA P [] R .ret s H=R (.tuple #[]) H)/\(∀ (P:Program) R s H,endA P [] R .normal s H=R (.tuple #[]) H) /\
  (∀ (l:List Value) i,enterA l i=l.getD i undef):=by
 refine ⟨?_,?_,?_,?_,?_,?_,?_⟩
 all_goals intros
 all_goals first
  | rfl
  | skip
 all_goals simp only [endA,resA]
 ·rename_i P a R s H
  cases h:isTup (s a) <;> simp [outA]
 ·rename_i P a R s H
  cases h:isTup (s a) <;> simp [outA]
 ·rename_i P a b R s H
  cases h:isTup (s a) <;> cases h2:isTup (s b) <;> simp [outA]
 ·rename_i P a b c R s H
  cases h:isTup (s a) <;> cases h2:isTup (s b) <;> cases h3:isTup (s c) <;> simp [outA]
def keptA (v:Value)(H H':AH):Prop:=match idOf v with | some o=>H'[o]?=H[o]? | none=>True
theorem S5:(∀ {α:Type} (a b:α),(a ≠ b)=¬ (a=b))/\((¬ True)=False)/\((¬ False)=True)/\(∀ p:Prop,(p/\p)=p)/\(∀ p:Prop,(True/\p)=p)/\(∀ p:Prop,(p/\True)=p) /\
    (∀ n:Nat,0+n=n)/\(∀ n:Nat,n+0=n)/\(∀ {α β:Type} (f:α->β),Option.map f none=none)/\(∀ {α β:Type} (f:α->β) (a:α),Option.map f (some a)=some (f a)) /\
    (∀ {α β:Type} (f:α->β) (a:α) (l:List α),List.map f (a :: l)=f a :: List.map f l)/\(∀ {α β:Type} (f:α->β),List.map f []=[])/\(∀ {α:Type} (l:List α),l ++ []=l)/\(∀ {α:Type} (a:α) (l m:List α),(a :: l) ++ m=a :: (l ++ m))/\(∀ {α:Type} (l:List α),[] ++ l=l) /\
    (∀ {α:Type} (a:α) (l:List α),(a :: l)[0]?=some a)/\(∀ {α:Type} (a:α) (l:List α) (n:Nat),(a :: l)[n+1]?=l[n]?)/\(∀ {α:Type} (a:α) (l:List α) (d:α),(a :: l).getD 0 d=a)/\(∀ {α:Type} (a:α) (l:List α) (n:Nat) (d:α),(a :: l).getD (n+1) d=l.getD n d)/\(∀ {α:Type} (n:Nat) (d:α),([]:List α).getD n d=d) /\
    ((!true)=false)/\((!false)=true)/\(∀ h:Decidable True,@decide True h=true)/\(∀ h:Decidable False,@decide False h=false) :=
  ⟨fun _ _=>rfl,not_true_eq_false,not_false_eq_true,and_self,true_and,and_true,Nat.zero_add,Nat.add_zero,fun _=>rfl,fun _ _=>rfl,fun _ _ _=>rfl,fun _=>rfl,List.append_nil,fun _ _ _=>rfl,fun _=>rfl,
   fun _ _=>rfl,fun _ _ _=>rfl,fun _ _ _=>rfl,fun _ _ _ _=>rfl,fun _ _=>rfl,rfl,rfl,fun h=>@decide_true h,fun h=>@decide_false h⟩
theorem S4 :
  (∀ (P:Program) s H H' d t a,watch1 P ⟨some d,.load t a,none⟩ s H H'=(loadA P t (evalA s a) H'=some (s d))) /\
  (∀ (P:Program) s H H' d t a g b,watch1 P ⟨some d,.load t a,some (g,b)⟩ s H H'=(s g=.bool b->loadA P t (evalA s a) H'=some (s d))) /\
  (∀ (P:Program) s H H' d t x lo hi,watch1 P ⟨some d,.slice t x lo hi none,none⟩ s H H'=(sliceA P t (evalA s x) (lo.map (evalA s)) (hi.map (evalA s)) none H'=some (s d))) /\
  (∀ (P:Program) s H H' d t x lo hi g b,watch1 P ⟨some d,.slice t x lo hi none,some (g,b)⟩ s H H'=(s g=.bool b->sliceA P t (evalA s x) (lo.map (evalA s)) (hi.map (evalA s)) none H'=some (s d))) /\
  (∀ (P:Program) s H H' d e g,watch1 P ⟨some d,.alloc e,g⟩ s H H'=keptA (s d) H H') /\
  (∀ (P:Program) s H H' d e x g,watch1 P ⟨some d,.box e x,g⟩ s H H'=keptA (s d) H H') /\
  (∀ (P:Program) s H H' d t n ps g,watch1 P ⟨some d,.buildSlice t n ps,g⟩ s H H'=keptA (s d) H H') /\
  (∀ (P:Program) s H H' d t n c g,watch1 P ⟨some d,.makeSlice t n c,g⟩ s H H'=keptA (s d) H H') /\
  (∀ p n c H H',keptA (.slice (some p) n c) H H'=(H'[p.block]?=H[p.block]?))/\(∀ n c H H',keptA (.slice none n c) H H'=True) /\
  (∀ p H H',keptA (.pointer (some p)) H H'=(H'[p.block]?=H[p.block]?))/\(∀ vs H H',keptA (.tuple vs) H H'=True) /\
  (∀ f k a b,minmaxA f [.int k a,.int k b]=some (.int k (f a b))):=by
 refine ⟨?_,?_,?_,?_,?_,?_,?_,?_,?_,?_,?_,?_,?_⟩
 all_goals intros
 all_goals first
  | rfl
  | (simp only [watch1,isMk,grdOn,stepA];simp;done)
  | skip
theorem wrap64 {n:Int}(h1 : -9223372036854775808<=n)(h2:n<=9223372036854775807):IntKind.i64.wrap n=n:=by
 rw [IntKind.wrap_i64];omega
def ints (xs:List Int):List Value:=xs.map (.int .i64)
theorem ints_len (xs:List Int):(ints xs).length=xs.length:=by simp [ints]
theorem ints_app (xs ys:List Int):ints (xs ++ ys)=ints xs ++ ints ys:=by simp [ints]
theorem ints_at (xs:List Int){i:Nat}(h:i<xs.length):(ints xs)[i]?=some (.int .i64 (xs.getD i 0)):=by
 simp [ints,h,List.getElem?_eq_getElem]
def cellA (H:AH)(o i:Nat):Option Value:=match H[o]? with | some (.cells vs _ _)=>vs[i]? | _=>none
theorem ld_one {P:Program}{t:TypeId}(h:isAggA P t=some false)(p:Addr)(H:AH):loadA P t (.pointer (some p)) H=cellA H p.block p.off:=by
 simp only [loadA,cellA,h]
 cases H[p.block]? with
 | none=>rfl
 | some x=>cases x <;> rfl
theorem cell_of {H:AH}{o:Nat}{vs:List Value}{t:TypeId}{ro:Bool}(h:H[o]?=some (.cells vs t ro))(i:Nat):cellA H o i=vs[i]?:=by simp only [cellA,h]
theorem cell_ints {H:AH}{o:Nat}{xs:List Int}{t:TypeId}{ro:Bool}(h:H[o]?=some (.cells (ints xs) t ro)){i:Nat}(hi:i<xs.length):cellA H o i=some (.int .i64 (xs.getD i 0)):=by rw [cell_of h,ints_at xs hi]
theorem ix_one {P:Program}{t e:TypeId}(hu:P.underlying t=some (.slice e))(hc:P.cellsOf e=1)(p:Addr)(n c:Nat)(k:IntKind){i:Int}(h0:0<=i)(h1:i<(n:Int)) :
  indexAddrA P t (.slice (some p) n c) (.int k i)=some (.pointer (some ⟨p.block,p.off+i.toNat,none⟩)):=by
 simp [indexAddrA,hu,hc,h0,h1]
theorem ix_arr {P:Program}{t e:TypeId}{n:Nat}(hu:P.underlying t=some (.array n e))(hc:P.cellsOf e=1)(p:Addr)(k:IntKind){i:Int}(h0:0<=i)(h1:i<(n:Int)) :
  indexAddrA P t (.pointer (some p)) (.int k i)=some (.pointer (some ⟨p.block,p.off+i.toNat,none⟩)):=by
 simp [indexAddrA,hu,hc,h0,h1]
theorem ln_sl {P:Program}{t e:TypeId}(hu:P.underlying t=some (.slice e))(p:Option Addr)(n c:Nat):lenA P t (.slice p n c)=some (.int .i64 n):=by
 simp [lenA,hu]
theorem eq_bool_eql {P:Program}{t:TypeId}(hu:P.underlying t=some .bool)(a b:Bool):binA P .eql t (.bool a) (.bool b)=some (.bool (decide (a=b))):=by
 simp only [binA,eqA,hu];cases a <;> cases b <;> rfl
theorem eq_bool_neq {P:Program}{t:TypeId}(hu:P.underlying t=some .bool)(a b:Bool):binA P .neq t (.bool a) (.bool b)=some (.bool (decide (a ≠ b))):=by
 simp only [binA,eqA,hu];cases a <;> cases b <;> rfl
theorem eq_nil_eql {P:Program}{t e:TypeId}(hu:P.underlying t=some (.slice e))(a:Option Addr)(n c m d:Nat):binA P .eql t (.slice a n c) (.slice none m d)=some (.bool a.isNone):=by
 simp only [binA,eqA,hu];rfl
theorem eq_nil_neq {P:Program}{t e:TypeId}(hu:P.underlying t=some (.slice e))(a:Option Addr)(n c m d:Nat):binA P .neq t (.slice a n c) (.slice none m d)=some (.bool (!a.isNone)):=by
 simp only [binA,eqA,hu];rfl
theorem bs0 {P:Program}{t e:TypeId}{z:Value}(hu:P.underlying t=some (.slice e))(hc:P.cellsOf e=1)(hz:zeroA P e=some z)(hp:plainCs z=true/\z.cells.size=1)(H:AH) :
  buildSliceA P t 0 [] H=some (.slice (some ⟨H.length,0,none⟩) 0 0,H ++ [.cells [] e false]):=by
 have hp':plainCs z=true/\z.cells.size=P.cellsOf e:=by rw [hc];exact hp
 simp only [buildSliceA,hu,hc,hz]
 rw [if_pos (by simp),if_pos hp]
 simp [Instr.fill,zerosA]
theorem bs1 {P:Program}{t e:TypeId}{z:Value}(hu:P.underlying t=some (.slice e))(hc:P.cellsOf e=1)(hz:zeroA P e=some z)(hp:plainCs z=true/\z.cells.size=1)(H:AH){a:Value}(ha:isOne a=true) :
  buildSliceA P t 1 [(0,a)] H=some (.slice (some ⟨H.length,0,none⟩) 1 1,H ++ [.cells [a] e false]):=by
 simp only [buildSliceA,hu,hc,hz]
 have ht:isTup a=false:=by cases a <;> first | rfl | cases ha
 have hcl:a.cells=#[a]:=by cases a <;> first | rfl | cases ha
 rw [if_pos (by simp [ht]),if_pos hp]
 simp [Instr.fill,zerosA,hcl,Array.range]
theorem bs2 {P:Program}{t e:TypeId}{z:Value}(hu:P.underlying t=some (.slice e))(hc:P.cellsOf e=1)(hz:zeroA P e=some z)(hp:plainCs z=true/\z.cells.size=1)(H:AH){a b:Value}(ha:isOne a=true)(hb:isOne b=true) :
  buildSliceA P t 2 [(0,a),(1,b)] H=some (.slice (some ⟨H.length,0,none⟩) 2 2,H ++ [.cells [a,b] e false]):=by
 simp only [buildSliceA,hu,hc,hz]
 have ht:isTup a=false:=by cases a <;> first | rfl | cases ha
 have hcl:a.cells=#[a]:=by cases a <;> first | rfl | cases ha
 have ht2:isTup b=false:=by cases b <;> first | rfl | cases hb
 have hcl2:b.cells=#[b]:=by cases b <;> first | rfl | cases hb
 rw [if_pos (by simp [ht,ht2]),if_pos hp]
 simp [Instr.fill,zerosA,hcl,hcl2,Array.range]
theorem bs3 {P:Program}{t e:TypeId}{z:Value}(hu:P.underlying t=some (.slice e))(hc:P.cellsOf e=1)(hz:zeroA P e=some z)(hp:plainCs z=true/\z.cells.size=1)(H:AH){a b c:Value}(ha:isOne a=true)(hb:isOne b=true)(hcc:isOne c=true) :
  buildSliceA P t 3 [(0,a),(1,b),(2,c)] H=some (.slice (some ⟨H.length,0,none⟩) 3 3,H ++ [.cells [a,b,c] e false]):=by
 simp only [buildSliceA,hu,hc,hz]
 have ht:isTup a=false:=by cases a <;> first | rfl | cases ha
 have hcl:a.cells=#[a]:=by cases a <;> first | rfl | cases ha
 have ht2:isTup b=false:=by cases b <;> first | rfl | cases hb
 have hcl2:b.cells=#[b]:=by cases b <;> first | rfl | cases hb
 have ht3:isTup c=false:=by cases c <;> first | rfl | cases hcc
 have hcl3:c.cells=#[c]:=by cases c <;> first | rfl | cases hcc
 rw [if_pos (by simp [ht,ht2,ht3]),if_pos hp]
 simp [Instr.fill,zerosA,hcl,hcl2,hcl3,Array.range]
theorem pre_app {H0 H:AH}(h:H0<+:H)(l:AH):H0<+:H ++ l:=h.trans (List.prefix_append _ _)
theorem pre_set {H0 H:AH}(h:H0<+:H){o:Nat}(ho:H0.length<=o)(x:AObj):H0<+:H.set o x:=by
 obtain ⟨l,rfl⟩:=h
 rw [List.set_append_right _ _ ho]
 exact List.prefix_append _ _
theorem pre_at {H0 H:AH}(h:H0<+:H){o:Nat}{x:AObj}(ho:H0[o]?=some x):H[o]?=some x:=by
 obtain ⟨l,rfl⟩:=h
 rw [List.getElem?_append_left (List.getElem?_eq_some_iff.1 ho).1];exact ho
theorem at_new1 (H:AH)(o:Nat)(d a b:AObj):(H.set o d ++ [a,b])[H.length+1]?=some b:=by
 rw [List.getElem?_append_right (by simp)];simp
theorem at_new (H:AH)(a:AObj):(H ++ [a])[H.length]?=some a:=by simp
theorem at_old {H:AH}{o o':Nat}{x d:AObj}(h:H[o']?=some x)(hne:o ≠ o')(l:AH):(H.set o d ++ l)[o']?=some x:=by
 have hlt:=(List.getElem?_eq_some_iff.1 h).1
 rw [List.getElem?_append_left (by simpa using hlt),List.getElem?_set_ne hne];exact h
theorem at_app {H:AH}{o:Nat}{x:AObj}(h:H[o]?=some x)(l:AH):(H ++ l)[o]?=some x:=by
 rw [List.getElem?_append_left (List.getElem?_eq_some_iff.1 h).1];exact h
theorem at_lt {H:AH}{o:Nat}{x:AObj}(h:H[o]?=some x):o<H.length:=(List.getElem?_eq_some_iff.1 h).1
theorem putAt_ints (xs:List Int)(i:Nat)(x:Int)(h:i<xs.length):putAt (ints xs) i [.int .i64 x]=ints (xs.set i x):=by
 unfold putAt ints
 simp only [List.length_cons,List.length_nil]
 rw [List.set_eq_take_append_cons_drop,if_pos h]
 simp
theorem st_ints {P:Program}{t t':TypeId}(hc:P.cellsOf t=1){H:AH}{o i:Nat}{xs:List Int}{x:Int}(ho:H[o]?=some (.cells (ints xs) t' false))(hi:i<xs.length) :
  storeA P t (.pointer (some ⟨o,i,none⟩)) (.int .i64 x) H=some (H.set o (.cells (ints (xs.set i x)) t' false)):=by
 simp only [storeA,ho]
 have hcl:(Value.int IntKind.i64 x).cells.toList=[.int .i64 x]:=rfl
 rw [hcl,if_pos ⟨rfl,by rw [hc];rfl,by omega,by rw [ints_len];simp;omega⟩,putAt_ints xs i x hi]
theorem st_new {P:Program}{t e:TypeId}{H:AH}{vs:List Value}{y:Value}(h1:isTup y=false)(h2:y.cells.toList.length=P.cellsOf t)(h3:0<P.cellsOf t)(h4:vs.length=P.cellsOf t) :
  storeA P t (.pointer (some ⟨H.length,0,none⟩)) y (H ++ [.cells vs e false])=some (H ++ [.cells y.cells.toList e false]):=by
 simp only [storeA,at_new]
 rw [if_pos ⟨h1,h2,h3,by omega⟩]
 have:putAt vs 0 y.cells.toList=y.cells.toList:=by
  unfold putAt
  rw [List.take_zero,List.nil_append,List.drop_of_length_le (by omega),List.append_nil]
 rw [this]
 simp
theorem set_new (H:AH)(a b:AObj):(H ++ [a]).set H.length b=H ++ [b]:=by simp
theorem at_set {H:AH}{o:Nat}{x d:AObj}(h:H[o]?=some x):(H.set o d)[o]?=some d:=by
 rw [List.getElem?_set_self (at_lt h)]
end Go.Proofs.YtlcipphiflcaiaaGreat.Ai
namespace Go.Proofs.YtlcipphiflcaiaaGreat.Ai
open Go Go.RowKit
def rowO:Value->Nat
 | .slice (some p) _ _=>p.block
 | _=>0
def rowK:Value->Nat
 | .slice (some p) _ _=>p.off
 | _=>0
def Row (e:TypeId)(H:AH)(v:Value)(xs:List Int):Prop :=
 (v=.slice none 0 0/\xs=[])∨∃ o k vs ro,v=.slice (some ⟨o,k,none⟩) xs.length xs.length/\H[o]?=some (.cells vs e ro)/\k+xs.length<=vs.length/\(vs.drop k).take xs.length=ints xs
def Own (e:TypeId)(H0 H:AH)(v:Value)(xs:List Int):Prop :=
 (v=.slice none 0 0/\xs=[])∨∃ o,v=.slice (some ⟨o,0,none⟩) xs.length xs.length/\H0.length<=o/\H[o]?=some (.cells (ints xs) e false)
theorem Own.row {e:TypeId}{H0 H:AH}{v:Value}{xs:List Int}(h:Own e H0 H v xs):Row e H v xs:=by
 rcases h with h | ⟨o,h1,h2,h3⟩
 ·exact .inl h
 ·refine .inr ⟨o,0,_,_,h1,h3,by simp [ints_len],?_⟩
  rw [List.drop_zero,List.take_of_length_le (by simp [ints_len])]
theorem Row.mono {e:TypeId}{H H':AH}{v:Value}{xs:List Int}(h:Row e H v xs)(hh:∀ x,H[rowO v]?=some x->H'[rowO v]?=some x):Row e H' v xs:=by
 rcases h with h | ⟨o,k,vs,ro,h1,h2,h3⟩
 ·exact .inl h
 ·subst h1;exact .inr ⟨o,k,vs,ro,rfl,hh _ h2,h3⟩
theorem Row.pre {e:TypeId}{H H':AH}{v:Value}{xs:List Int}(h:Row e H v xs)(hp:H<+:H'):Row e H' v xs:=h.mono fun x hx=>pre_at hp hx
theorem Row.shape {e:TypeId}{H:AH}{v:Value}{xs:List Int}(h:Row e H v xs):∃ p,v=.slice p xs.length xs.length:=by
 rcases h with ⟨h1,h2⟩ | ⟨o,k,vs,ro,h1,_⟩
 ·subst h2;exact ⟨_,h1⟩
 ·exact ⟨_,h1⟩
theorem Row.tup {e:TypeId}{H:AH}{v:Value}{xs:List Int}(h:Row e H v xs):isTup v=false:=by
 obtain ⟨p,rfl⟩:=h.shape;rfl
theorem Row.len {P:Program}{t e:TypeId}(hu:P.underlying t=some (.slice e)){H:AH}{v:Value}{xs:List Int}(h:Row e H v xs):lenA P t v=some (.int .i64 xs.length):=by
 obtain ⟨p,rfl⟩:=h.shape;exact ln_sl hu _ _ _
theorem Row.ix {P:Program}{t e:TypeId}(hu:P.underlying t=some (.slice e))(hc:P.cellsOf e=1){H:AH}{v:Value}{xs:List Int}(h:Row e H v xs)(k:IntKind){i:Int}(h0:0<=i)(h1:i<(xs.length:Int)) :
  indexAddrA P t v (.int k i)=some (.pointer (some ⟨rowO v,rowK v+i.toNat,none⟩)):=by
 rcases h with ⟨_,h2⟩ | ⟨o,k2,vs,ro,e1,_⟩
 ·subst h2;simp at h1;omega
 ·subst e1;exact ix_one hu hc _ _ _ _ h0 h1
theorem Row.cell {e:TypeId}{H:AH}{v:Value}{xs:List Int}(h:Row e H v xs){j:Nat}(hj:j<xs.length):cellA H (rowO v) (rowK v+j)=some (.int .i64 (xs.getD j 0)):=by
 rcases h with ⟨_,h2⟩ | ⟨o,k,vs,ro,e1,h2,h3,h4⟩
 ·subst h2;simp at hj
 ·subst e1
  rw [show cellA H (rowO _) _=cellA H o (k+j) from rfl,cell_of h2]
  have:=congrArg (·[j]?) h4
  simp only [List.getElem?_take,List.getElem?_drop,if_pos hj] at this
  rw [this,ints_at xs hj]
theorem Row.cells {P:Program}{e:TypeId}(hc:P.cellsOf e=1){H:AH}{v:Value}{xs:List Int}(h:Row e H v xs):sliceCells P e v H=some (xs.length,ints xs):=by
 rcases h with ⟨h1,h2⟩ | ⟨o,k,vs,ro,e1,h2,h3,h4⟩
 ·subst h1;subst h2;rfl
 ·subst e1
  simp only [sliceCells,h2,hc,Nat.mul_one]
  rw [if_pos ⟨h3,trivial⟩,h4]
def subV (v:Value)(l h:Nat):Value :=
 match v with
 | .slice (some p) _ _=>.slice (some ⟨p.block,p.off+l,none⟩) (h - l) (h - l)
 | _=>.slice none 0 0
theorem Row.slice {P:Program}{t e:TypeId}(hu:P.underlying t=some (.slice e))(hc:P.cellsOf e=1){H:AH}{v:Value}{xs:List Int}(h:Row e H v xs){lo hi:Option Value}{l r:Nat}(h1:boundA lo 0=some l)(h2:boundA hi xs.length=some r)(hl:l<=r)(hr:r<=xs.length) :
  sliceA P t v lo hi none H=some (subV v l r)/\Row e H (subV v l r) ((xs.drop l).take (r - l))/\(rowO (subV v l r)=rowO v):=by
 rcases h with ⟨e1,e2⟩ | ⟨o,k,vs,ro,e1,g2,g3,g4⟩
 ·subst e1;subst e2
  have hr0:r=0:=by simpa using hr
  have hl0:l=0:=by omega
  subst hr0;subst hl0
  refine ⟨?_,.inl ⟨rfl,by simp⟩,rfl⟩
  simp only [List.length_nil] at h2
  simp only [sliceA,hu,h1,h2,hc,subV];rfl
 ·subst e1
  refine ⟨?_,.inr ⟨o,k+l,vs,ro,?_,g2,?_,?_⟩,rfl⟩
  ·simp only [sliceA,hu,h1,h2,g2,hc,Nat.mul_one,subV]
   rw [if_pos ⟨hl,hr,trivial,Nat.one_pos⟩]
  ·simp only [subV,List.length_take,List.length_drop]
   rw [Nat.min_eq_left (by omega)]
  ·simp only [List.length_take,List.length_drop];omega
  ·have e3:((xs.drop l).take (r - l)).length=r - l:=by simp;omega
   rw [e3,<- List.drop_drop]
   have e4:ints ((xs.drop l).take (r - l))=((ints xs).drop l).take (r - l):=by simp [ints,List.map_drop,List.map_take]
   rw [e4,<- g4,List.drop_take,List.take_take,Nat.min_eq_left (by omega)]
theorem lo_none:boundA none 0=some 0:=rfl
theorem hi_none (n:Nat):boundA none n=some n:=rfl
theorem bound_some {k:IntKind}{i:Int}(h:0<=i)(d:Nat):boundA (some (.int k i)) d=some i.toNat:=by simp [boundA,h]
theorem Own.app {P:Program}{t e:TypeId}(hu:P.underlying t=some (.slice e))(hc:P.cellsOf e=1)(hby:P.bytesOf e<=64)(hz:zeroOk P e=true){H0 H:AH}{v x:Value}{ys xs:List Int}(h:Own e H0 H v ys)(hx:Row e H x xs)(hp:H0<+:H)(hb:ys.length+xs.length<=1099511627776) :
  ∃ v' H',appendA P t t v x H=some (v',H')/\Own e H0 H' v' (ys ++ xs)/\H0<+:H'/\(∀ o y,(v=.slice none 0 0∨o ≠ rowO v)->H[o]?=some y->H'[o]?=some y)/\(H.length<=rowO v'∨(v'=v/\H'=H)):=by
 have hcells:=hx.cells (P:=P) hc
 have hb2:(ys.length+xs.length) * P.bytesOf e<=140737488355328:=by
  refine Nat.le_trans (Nat.mul_le_mul_left _ hby) ?_
  omega
 by_cases hm:xs.length=0
 ·have hx0:xs=[]:=List.eq_nil_of_length_eq_zero hm
  subst hx0
  refine ⟨v,H,?_,by simpa using h,hp,fun o y _ hy=>hy,.inr ⟨rfl,rfl⟩⟩
  have hsl:isSl v=true:=by rcases h with ⟨h1,_⟩ | ⟨o,h1,_⟩ <;> subst h1 <;> rfl
  simp only [appendA,hu,hc,hcells,hsl]
  simp
 ·rcases h with ⟨h1,h2⟩ | ⟨o,h1,h2,h3⟩
  ·subst h1;subst h2
   refine ⟨.slice (some ⟨H.length,0,none⟩) xs.length xs.length,H ++ [.cells (ints xs) e false],?_,.inr ⟨H.length,rfl,hp.length_le,at_new ..⟩,pre_app hp _,fun o y _ hy=>at_app hy _,.inl (Nat.le_refl _)⟩
   simp only [appendA,hu,hc,hcells,hz]
   simp only [List.length_nil,Nat.zero_add] at hb hb2
   simp [hm,hb2];omega
  ·subst h1
   refine ⟨.slice (some ⟨H.length,0,none⟩) (ys.length+xs.length) (ys.length+xs.length),H.set o .dead ++ [.cells (ints (ys ++ xs)) e false],?_,.inr ⟨H.length,by simp,hp.length_le,?_⟩,pre_app (pre_set hp h2 _) _,?_,.inl (Nat.le_refl _)⟩
   ·simp only [appendA,hu,hc,hcells,hz,h3]
    rw [if_pos (by simp),if_neg hm,if_pos ⟨trivial,by simp [ints_len],hb2,by omega,trivial⟩]
    simp only [Nat.mul_one,List.drop_zero,ints_app]
    rw [List.take_of_length_le (by simp [ints_len])]
   ·simp
   ·intro o' y hne hy
    refine at_old hy ?_ _
    rcases hne with hne | hne
    ·cases hne
    ·exact fun e=>hne e.symm
theorem Own.keep {e:TypeId}{H0 H H':AH}{v:Value}{xs:List Int}(h:Own e H0 H v xs)(hh:∀ y,H[rowO v]?=some y->H'[rowO v]?=some y):Own e H0 H' v xs:=by
 rcases h with h | ⟨o,h1,h2,h3⟩
 ·exact .inl h
 ·subst h1;exact .inr ⟨o,rfl,h2,hh _ h3⟩
theorem Own.pre {e:TypeId}{H0 H H':AH}{v:Value}{xs:List Int}(h:Own e H0 H v xs)(hp:H<+:H'):Own e H0 H' v xs:=h.keep fun _ hy=>pre_at hp hy
theorem Own.base {e:TypeId}{H0 H1 H:AH}{v:Value}{xs:List Int}(h:Own e H1 H v xs)(hp:H0<+:H1):Own e H0 H v xs:=by
 rcases h with h | ⟨o,h1,h2,h3⟩
 ·exact .inl h
 ·exact .inr ⟨o,h1,Nat.le_trans hp.length_le h2,h3⟩
theorem Row.apart {e:TypeId}{H0 H:AH}{x v:Value}{xs ys:List Int}(hx:Row e H0 x xs)(h:Own e H0 H v ys):v=.slice none 0 0∨x=.slice none 0 0∨rowO x ≠ rowO v:=by
 rcases h with h | ⟨o,h1,h2,h3⟩
 ·exact .inl h.1
 ·rcases hx with hx | ⟨o',k,vs,ro,g1,g2,_⟩
  ·exact .inr (.inl hx.1)
  ·subst h1;subst g1
   refine .inr (.inr ?_)
   have:=at_lt g2
   show o' ≠ o
   omega
theorem Row.low {e:TypeId}{H0:AH}{x:Value}{xs:List Int}(hx:Row e H0 x xs):x=.slice none 0 0∨rowO x<H0.length:=by
 rcases hx with hx | ⟨o',k,vs,ro,g1,g2,_⟩
 ·exact .inl hx.1
 ·subst g1;exact .inr (at_lt g2)
theorem mk_ints {P:Program}{t e:TypeId}(hu:P.underlying t=some (.slice e))(hc:P.cellsOf e=1)(hby:P.bytesOf e<=64)(hz:zeroA P e=some (.int .i64 0)){n:Int}(h0:0<=n)(h1:n<=1099511627776)(H:AH) :
  makeSliceA P t (.int .i64 n) (.int .i64 n) H=some (.slice (some ⟨H.length,0,none⟩) n.toNat n.toNat,H ++ [.cells (ints (List.replicate n.toNat 0)) e false]):=by
 have hb2:n.toNat * P.bytesOf e<=281474976710656:=by
  refine Nat.le_trans (Nat.mul_le_mul_left _ hby) ?_
  omega
 have hzc:(Value.int IntKind.i64 0).cells=#[.int .i64 0]:=rfl
 have hzs:zerosA (.int .i64 0) (n.toNat * 1)=ints (List.replicate n.toNat 0):=by
  unfold zerosA ints
  rw [hzc,Nat.mul_one,List.map_replicate]
  apply List.ext_getElem
  ·simp
  ·intro i h1 h2
   simp [Nat.mod_one]
 simp only [makeSliceA,hu,hc,hz]
 rw [if_pos ⟨trivial,h0,by omega,hb2,by omega⟩,if_pos ⟨by simp [plainCs,hzc,plainC],by simp [hzc]⟩,hzs]
end Go.Proofs.YtlcipphiflcaiaaGreat.Ai
namespace Go.Proofs.YtlcipphiflcaiaaGreat.Ai
open Go Go.RowKit
def RowV (e:TypeId)(H:AH)(v:Value)(us:List Value):Prop :=
 (v=.slice none 0 0/\us=[])∨∃ o k vs ro,v=.slice (some ⟨o,k,none⟩) us.length us.length/\H[o]?=some (.cells vs e ro)/\k+us.length<=vs.length/\(vs.drop k).take us.length=us
theorem RowV.mono {e:TypeId}{H H':AH}{v:Value}{us:List Value}(h:RowV e H v us)(hh:∀ x,H[rowO v]?=some x->H'[rowO v]?=some x):RowV e H' v us:=by
 rcases h with h | ⟨o,k,vs,ro,h1,h2,h3⟩
 ·exact .inl h
 ·subst h1;exact .inr ⟨o,k,vs,ro,rfl,hh _ h2,h3⟩
theorem RowV.pre {e:TypeId}{H H':AH}{v:Value}{us:List Value}(h:RowV e H v us)(hp:H<+:H'):RowV e H' v us:=h.mono fun x hx=>pre_at hp hx
theorem RowV.shape {e:TypeId}{H:AH}{v:Value}{us:List Value}(h:RowV e H v us):∃ p,v=.slice p us.length us.length:=by
 rcases h with ⟨h1,h2⟩ | ⟨o,k,vs,ro,h1,_⟩
 ·subst h2;exact ⟨_,h1⟩
 ·exact ⟨_,h1⟩
theorem RowV.tup {e:TypeId}{H:AH}{v:Value}{us:List Value}(h:RowV e H v us):isTup v=false:=by
 obtain ⟨p,rfl⟩:=h.shape;rfl
theorem RowV.len {P:Program}{t e:TypeId}(hu:P.underlying t=some (.slice e)){H:AH}{v:Value}{us:List Value}(h:RowV e H v us):lenA P t v=some (.int .i64 us.length):=by
 obtain ⟨p,rfl⟩:=h.shape;exact ln_sl hu _ _ _
theorem RowV.ix {P:Program}{t e:TypeId}(hu:P.underlying t=some (.slice e))(hc:P.cellsOf e=1){H:AH}{v:Value}{us:List Value}(h:RowV e H v us)(k:IntKind){i:Int}(h0:0<=i)(h1:i<(us.length:Int)) :
  indexAddrA P t v (.int k i)=some (.pointer (some ⟨rowO v,rowK v+i.toNat,none⟩)):=by
 rcases h with ⟨_,h2⟩ | ⟨o,k2,vs,ro,e1,_⟩
 ·subst h2;simp at h1;omega
 ·subst e1;exact ix_one hu hc _ _ _ _ h0 h1
theorem RowV.cell {e:TypeId}{H:AH}{v:Value}{us:List Value}(h:RowV e H v us){j:Nat}(hj:j<us.length):cellA H (rowO v) (rowK v+j)=some (us.getD j undef):=by
 rcases h with ⟨_,h2⟩ | ⟨o,k,vs,ro,e1,h2,h3,h4⟩
 ·subst h2;simp at hj
 ·subst e1
  rw [show cellA H (rowO _) _=cellA H o (k+j) from rfl,cell_of h2]
  have:=congrArg (·[j]?) h4
  simp only [List.getElem?_take,List.getElem?_drop,if_pos hj] at this
  rw [this]
  simp [hj]
theorem RowV.cells {P:Program}{e:TypeId}(hc:P.cellsOf e=1){H:AH}{v:Value}{us:List Value}(h:RowV e H v us):sliceCells P e v H=some (us.length,us):=by
 rcases h with ⟨h1,h2⟩ | ⟨o,k,vs,ro,e1,h2,h3,h4⟩
 ·subst h1;subst h2;rfl
 ·subst e1
  simp only [sliceCells,h2,hc,Nat.mul_one]
  rw [if_pos ⟨h3,trivial⟩,h4]
theorem RowV.new (e:TypeId)(H:AH)(us:List Value):RowV e (H ++ [.cells us e false]) (.slice (some ⟨H.length,0,none⟩) us.length us.length) us:=by
 refine .inr ⟨H.length,0,us,false,rfl,at_new ..,by simp,?_⟩
 simp
theorem RowV.slice {P:Program}{t e:TypeId}(hu:P.underlying t=some (.slice e))(hc:P.cellsOf e=1){H:AH}{v:Value}{us:List Value}(h:RowV e H v us){lo hi:Option Value}{l r:Nat}(h1:boundA lo 0=some l)(h2:boundA hi us.length=some r)(hl:l<=r)(hr:r<=us.length) :
  sliceA P t v lo hi none H=some (subV v l r)/\RowV e H (subV v l r) ((us.drop l).take (r - l))/\(rowO (subV v l r)=rowO v):=by
 rcases h with ⟨e1,e2⟩ | ⟨o,k,vs,ro,e1,g2,g3,g4⟩
 ·subst e1;subst e2
  have hr0:r=0:=by simpa using hr
  have hl0:l=0:=by omega
  subst hr0;subst hl0
  refine ⟨?_,.inl ⟨rfl,by simp⟩,rfl⟩
  simp only [List.length_nil] at h2
  simp only [sliceA,hu,h1,h2,hc,subV];rfl
 ·subst e1
  refine ⟨?_,.inr ⟨o,k+l,vs,ro,?_,g2,?_,?_⟩,rfl⟩
  ·simp only [sliceA,hu,h1,h2,g2,hc,Nat.mul_one,subV]
   rw [if_pos ⟨hl,hr,trivial,Nat.one_pos⟩]
  ·simp only [subV,List.length_take,List.length_drop]
   rw [Nat.min_eq_left (by omega)]
  ·simp only [List.length_take,List.length_drop];omega
  ·have e3:((us.drop l).take (r - l)).length=r - l:=by simp;omega
   rw [e3,<- List.drop_drop]
   have e4:(us.drop l).take (r - l)=(((vs.drop k).take us.length).drop l).take (r - l):=by rw [g4]
   rw [e4,List.drop_take,List.take_take,Nat.min_eq_left (by omega)]
end Go.Proofs.YtlcipphiflcaiaaGreat.Ai
namespace Go.Proofs.YtlcipphiflcaiaaGreat.Ai
open Go Go.RowKit
def Mine (e:TypeId)(H0 H:AH)(v:Value)(xs:List Int):Prop :=
 (v=.slice none 0 0/\xs=[])∨∃ o zs,v=.slice (some ⟨o,0,none⟩) xs.length xs.length/\H0.length<=o/\H[o]?=some (.cells (ints zs) e false)/\zs.take xs.length=xs
theorem Own.mine {e:TypeId}{H0 H:AH}{v:Value}{xs:List Int}(h:Own e H0 H v xs):Mine e H0 H v xs:=by
 rcases h with h | ⟨o,h1,h2,h3⟩
 ·exact .inl h
 ·exact .inr ⟨o,xs,h1,h2,h3,List.take_length ..⟩
theorem Mine.row {e:TypeId}{H0 H:AH}{v:Value}{xs:List Int}(h:Mine e H0 H v xs):Row e H v xs:=by
 rcases h with h | ⟨o,zs,h1,h2,h3,h4⟩
 ·exact .inl h
 ·have hl:xs.length<=zs.length:=by have:=congrArg List.length h4;simp at this;omega
  refine .inr ⟨o,0,_,_,h1,h3,by rw [ints_len];omega,?_⟩
  rw [List.drop_zero]
  have:(ints zs).take xs.length=ints (zs.take xs.length):=by simp [ints,List.map_take]
  rw [this,h4]
theorem Mine.keep {e:TypeId}{H0 H H':AH}{v:Value}{xs:List Int}(h:Mine e H0 H v xs)(hh:∀ y,H[rowO v]?=some y->H'[rowO v]?=some y):Mine e H0 H' v xs:=by
 rcases h with h | ⟨o,zs,h1,h2,h3,h4⟩
 ·exact .inl h
 ·subst h1;exact .inr ⟨o,zs,rfl,h2,hh _ h3,h4⟩
theorem Mine.pre {e:TypeId}{H0 H H':AH}{v:Value}{xs:List Int}(h:Mine e H0 H v xs)(hp:H<+:H'):Mine e H0 H' v xs:=h.keep fun _ hy=>pre_at hp hy
theorem Mine.base {e:TypeId}{H0 H1 H:AH}{v:Value}{xs:List Int}(h:Mine e H1 H v xs)(hp:H0<+:H1):Mine e H0 H v xs:=by
 rcases h with h | ⟨o,zs,h1,h2,h3,h4⟩
 ·exact .inl h
 ·exact .inr ⟨o,zs,h1,Nat.le_trans hp.length_le h2,h3,h4⟩
def Else (v:Value)(H H':AH):Prop:=H'.length=H.length/\∀ o x,(v=.slice none 0 0∨o ≠ rowO v)->H[o]?=some x->H'[o]?=some x
theorem Else.refl (v:Value)(H:AH):Else v H H:=⟨rfl,fun _ _ _ h=>h⟩
theorem Else.trans {v:Value}{H H' H'':AH}(h:Else v H H')(k:Else v H' H''):Else v H H'':=⟨k.1.trans h.1,fun o x hn hx=>k.2 o x hn (h.2 o x hn hx)⟩
theorem Else.set {o:Nat}{p:Nat}{n c:Nat}(H:AH)(x:AObj):Else (.slice (some ⟨o,p,none⟩) n c) H (H.set o x):=by
 refine ⟨by simp,fun o' y hn hy=>?_⟩
 rcases hn with hn | hn
 ·cases hn
 ·have hn':o ≠ o':=fun e=>hn e.symm
  rw [List.getElem?_set_ne hn'];exact hy
theorem prefix_of {H0 H:AH}(h:∀ (o:Nat) (x:AObj),H0[o]?=some x->H[o]?=some x):H0<+:H:=by
 rw [List.prefix_iff_eq_take]
 apply List.ext_getElem?
 intro i
 rw [List.getElem?_take]
 by_cases hi:i<H0.length
 ·rw [if_pos hi,List.getElem?_eq_getElem hi,h i _ (List.getElem?_eq_getElem hi)]
 ·rw [if_neg hi,List.getElem?_eq_none (by omega)]
theorem Row.else {e e':TypeId}{H0 H H':AH}{x v:Value}{xs ys:List Int}(hx:Row e H x xs)(ho:rowO x<H0.length)(h:Mine e' H0 H v ys)(he:Else v H H'):Row e H' x xs:=by
 refine hx.mono fun y hy=>he.2 _ _ ?_ hy
 rcases h with h | ⟨o,zs,h1,h2,h3,h4⟩
 ·exact .inl h.1
 ·subst h1
  refine .inr ?_
  show rowO x ≠ o
  omega
theorem Row.nil {e:TypeId}{H:AH}{v:Value}{xs:List Int}(h:Row e H v xs):(v=.slice none 0 0/\xs=[])∨rowO v<H.length:=by
 rcases h with h | ⟨o,k,vs,ro,h1,h2,_⟩
 ·exact .inl h
 ·subst h1;exact .inr (at_lt h2)
theorem Mine.else {e e':TypeId}{H0 H H':AH}{x v:Value}{xs ys:List Int}(hm:Mine e H0 H v ys)(hx:Row e' H0 x xs)(he:Else x H H'):Mine e H0 H' v ys:=by
 rcases hm with h | ⟨o,zs,h1,h2,h3,h4⟩
 ·exact .inl h
 ·refine .inr ⟨o,zs,h1,h2,he.2 _ _ ?_ h3,h4⟩
  rcases hx.nil with h | h
  ·exact .inl h.1
  ·exact .inr (by omega)
def Apart (x v:Value):Prop:=v=.slice none 0 0∨x=.slice none 0 0∨rowO x ≠ rowO v
def Kept (v:Value)(H H':AH):Prop:=∀ o y,(v=.slice none 0 0∨o ≠ rowO v)->H[o]?=some y->H'[o]?=some y
theorem Row.kept {e:TypeId}{H H':AH}{x v:Value}{xs:List Int}(hr:Row e H x xs)(ha:Apart x v)(hk:Kept v H H'):Row e H' x xs:=by
 rcases ha with ha | ha | ha
 ·exact hr.mono fun y hy=>hk _ _ (.inl ha) hy
 ·rcases hr with h | ⟨o,k,vs,ro,h1,_⟩
  ·exact .inl h
  ·rw [h1] at ha;cases ha
 ·exact hr.mono fun y hy=>hk _ _ (.inr ha) hy
theorem Apart.new {e:TypeId}{H:AH}{x v:Value}{xs:List Int}(hr:Row e H x xs)(h:H.length<=rowO v):Apart x v:=by
 rcases hr.nil with g | g
 ·exact .inr (.inl g.1)
 ·exact .inr (.inr (by omega))
theorem Own.app1 {P:Program}{t e:TypeId}(hu:P.underlying t=some (.slice e))(hc:P.cellsOf e=1)(hby:P.bytesOf e<=64)(hz:zeroOk P e=true){H0 H:AH}{v:Value}{ys:List Int}(h:Own e H0 H v ys)(hp:H0<+:H)(hb:ys.length<=1099511627775)(x:Int) :
  ∃ v' H',appendA P t t v (.slice (some ⟨H.length,0,none⟩) 1 1) (H ++ [.cells [.int .i64 x] e false])=some (v',H')/\Own e H0 H' v' (ys ++ [x])/\H0<+:H'/\Kept v H H'/\H.length<=rowO v'/\isTup v'=false:=by
 have hx:Row e (H ++ [.cells [.int .i64 x] e false]) (.slice (some ⟨H.length,0,none⟩) 1 1) [x]:=.inr ⟨H.length,0,[.int .i64 x],false,rfl,at_new ..,by simp,rfl⟩
 obtain ⟨v',H',h1,h2,h3,h4,h5⟩:=(h.pre (List.prefix_append H [.cells [.int .i64 x] e false])).app hu hc hby hz hx (pre_app hp _) (by simp;omega)
 refine ⟨v',H',h1,h2,h3,fun o y hn hy=>h4 o y hn (at_app hy _),?_,h2.row.tup⟩
 rcases h5 with h5 | ⟨h5,h6⟩
 ·simp only [List.length_append,List.length_cons,List.length_nil] at h5;omega
 ·subst h5
  obtain ⟨p,e1⟩:=h.row.shape
  obtain ⟨q,e2⟩:=h2.row.shape
  rw [e1] at e2
  simp at e2
end Go.Proofs.YtlcipphiflcaiaaGreat.Ai
namespace Go.Proofs.YtlcipphiflcaiaaGreat.Ai
open Go Go.RowKit
def ElseR (lo hi:Nat)(H H':AH):Prop:=H'.length=H.length/\∀ (o:Nat) (x:AObj),(o<lo∨hi<=o)->H[o]?=some x->H'[o]?=some x
theorem ElseR.refl (lo hi:Nat)(H:AH):ElseR lo hi H H:=⟨rfl,fun _ _ _ h=>h⟩
theorem ElseR.trans {lo hi:Nat}{H H' H'':AH}(h:ElseR lo hi H H')(k:ElseR lo hi H' H''):ElseR lo hi H H'':=⟨k.1.trans h.1,fun o x hn hx=>k.2 o x hn (h.2 o x hn hx)⟩
theorem ElseR.pre {lo hi:Nat}{H0 H H':AH}(h:ElseR lo hi H H')(hp:H0<+:H)(hl:H0.length<=lo):H0<+:H' :=
 prefix_of fun o x hx=>h.2 o x (.inl (by have:=at_lt hx;omega)) (pre_at hp hx)
def RowB (b:Nat)(e:TypeId)(H:AH)(v:Value)(xs:List Int):Prop:=Row e H v xs/\(v=.slice none 0 0∨rowO v<b)
def InI (lo hi:Nat)(e:TypeId)(H:AH)(v:Value)(xs:List Int):Prop :=
 (v=.slice none 0 0/\xs=[])∨∃ o zs,v=.slice (some ⟨o,0,none⟩) xs.length xs.length/\lo<=o/\o<hi/\H[o]?=some (.cells (ints zs) e false)/\zs.take xs.length=xs
theorem Row.nilv {e:TypeId}{H:AH}{v:Value}{xs:List Int}(h:Row e H v xs)(hv:v=.slice none 0 0):xs=[]:=by
 rcases h with h | ⟨o,k,vs,ro,h1,_⟩
 ·exact h.2
 ·rw [h1] at hv;cases hv
theorem Row.b {e:TypeId}{H:AH}{v:Value}{xs:List Int}(h:Row e H v xs):RowB H.length e H v xs:=⟨h,h.nil.imp (fun g=>g.1) id⟩
theorem RowB.pre {b:Nat}{e:TypeId}{H H':AH}{v:Value}{xs:List Int}(h:RowB b e H v xs)(hp:H<+:H'):RowB b e H' v xs:=⟨h.1.pre hp,h.2⟩
theorem RowB.keep {b lo hi:Nat}{e:TypeId}{H H':AH}{v:Value}{xs:List Int}(h:RowB b e H v xs)(he:ElseR lo hi H H')(hl:b<=lo):RowB b e H' v xs:=by
 refine ⟨?_,h.2⟩
 rcases h.2 with g | g
 ·exact .inl ⟨g,h.1.nilv g⟩
 ·exact h.1.mono fun y hy=>he.2 _ _ (.inl (by omega)) hy
theorem InI.row {lo hi:Nat}{e:TypeId}{H:AH}{v:Value}{xs:List Int}(h:InI lo hi e H v xs):RowB hi e H v xs:=by
 rcases h with h | ⟨o,zs,h1,h2,h3,h4,h5⟩
 ·exact ⟨.inl h,.inl h.1⟩
 ·have hl:xs.length<=zs.length:=by have:=congrArg List.length h5;simp at this;omega
  refine ⟨.inr ⟨o,0,_,_,h1,h4,by rw [ints_len];omega,?_⟩,.inr (by rw [h1];exact h3)⟩
  rw [List.drop_zero]
  have:(ints zs).take xs.length=ints (zs.take xs.length):=by simp [ints,List.map_take]
  rw [this,h5]
theorem InI.of {e:TypeId}{H0 H:AH}{v:Value}{xs:List Int}(h:Mine e H0 H v xs):InI H0.length H.length e H v xs:=by
 rcases h with h | ⟨o,zs,h1,h2,h3,h4⟩
 ·exact .inl h
 ·exact .inr ⟨o,zs,h1,h2,at_lt h3,h3,h4⟩
theorem InI.mine {hi:Nat}{e:TypeId}{H0 H:AH}{v:Value}{xs:List Int}(h:InI H0.length hi e H v xs):Mine e H0 H v xs:=by
 rcases h with h | ⟨o,zs,h1,h2,h3,h4,h5⟩
 ·exact .inl h
 ·exact .inr ⟨o,zs,h1,h2,h4,h5⟩
theorem InI.wide {lo hi lo' hi':Nat}{e:TypeId}{H:AH}{v:Value}{xs:List Int}(h:InI lo hi e H v xs)(h1:lo'<=lo)(h2:hi<=hi'):InI lo' hi' e H v xs:=by
 rcases h with h | ⟨o,zs,g1,g2,g3,g4,g5⟩
 ·exact .inl h
 ·exact .inr ⟨o,zs,g1,by omega,by omega,g4,g5⟩
theorem InI.move {lo hi:Nat}{e:TypeId}{H H':AH}{v:Value}{xs:List Int}(h:InI lo hi e H v xs)(hh:∀ y,v ≠ .slice none 0 0->H[rowO v]?=some y->H'[rowO v]?=some y):InI lo hi e H' v xs:=by
 rcases h with h | ⟨o,zs,g1,g2,g3,g4,g5⟩
 ·exact .inl h
 ·subst g1;exact .inr ⟨o,zs,rfl,g2,g3,hh _ (by intro e;cases e) g4,g5⟩
theorem InI.pre {lo hi:Nat}{e:TypeId}{H H':AH}{v:Value}{xs:List Int}(h:InI lo hi e H v xs)(hp:H<+:H'):InI lo hi e H' v xs:=h.move fun _ _ hy=>pre_at hp hy
theorem InI.keep {lo hi lo' hi':Nat}{e:TypeId}{H H':AH}{v:Value}{xs:List Int}(h:InI lo hi e H v xs)(he:ElseR lo' hi' H H')(hl:hi<=lo'∨hi'<=lo):InI lo hi e H' v xs:=by
 rcases h with h | ⟨o,zs,g1,g2,g3,g4,g5⟩
 ·exact .inl h
 ·exact .inr ⟨o,zs,g1,g2,g3,he.2 _ _ (by omega) g4,g5⟩
theorem InI.at_ {lo hi:Nat}{e:TypeId}{H:AH}{v:Value}{xs:List Int}(h:InI lo hi e H v xs):v=.slice none 0 0∨(lo<=rowO v/\rowO v<hi):=by
 rcases h with h | ⟨o,zs,g1,g2,g3,g4,g5⟩
 ·exact .inl h.1
 ·subst g1;exact .inr ⟨g2,g3⟩
def RowLB (b:Nat)(e2 e:TypeId)(H:AH)(v:Value)(ls:List (List Int)):Prop :=
 ∃ us:List Value,RowV e2 H v us/\(v=.slice none 0 0∨rowO v<b)/\us.length=ls.length/\∀ i,i<ls.length->RowB b e H (us.getD i undef) (ls.getD i [])
def InU (lo hi:Nat)(e2 e:TypeId)(H:AH)(o:Nat)(us:List Value)(ls:List (List Int)):Prop :=
 lo<=o/\o<hi/\H[o]?=some (.cells us e2 false)/\ls.length<=us.length/\(∀ i,i<ls.length->InI lo hi e H (us.getD i undef) (ls.getD i [])/\(us.getD i undef=.slice none 0 0∨rowO (us.getD i undef) ≠ o)) /\
 ∀ i j,i ≠ j->i<ls.length->j<ls.length->Apart (us.getD i undef) (us.getD j undef)
def InL (lo hi:Nat)(e2 e:TypeId)(H:AH)(v:Value)(ls:List (List Int)):Prop :=
 (v=.slice none 0 0/\ls=[])∨∃ o us,v=.slice (some ⟨o,0,none⟩) ls.length ls.length/\InU lo hi e2 e H o us ls
theorem RowV.nilv {e:TypeId}{H:AH}{v:Value}{us:List Value}(h:RowV e H v us)(hv:v=.slice none 0 0):us=[]:=by
 rcases h with h | ⟨o,k,vs,ro,h1,_⟩
 ·exact h.2
 ·rw [h1] at hv;cases hv
theorem RowLB.pre {b:Nat}{e2 e:TypeId}{H H':AH}{v:Value}{ls:List (List Int)}(h:RowLB b e2 e H v ls)(hp:H<+:H'):RowLB b e2 e H' v ls:=by
 obtain ⟨us,h1,h2,h3,h4⟩:=h
 exact ⟨us,h1.pre hp,h2,h3,fun i hi=>(h4 i hi).pre hp⟩
theorem RowLB.keep {b lo hi:Nat}{e2 e:TypeId}{H H':AH}{v:Value}{ls:List (List Int)}(h:RowLB b e2 e H v ls)(he:ElseR lo hi H H')(hl:b<=lo):RowLB b e2 e H' v ls:=by
 obtain ⟨us,h1,h2,h3,h4⟩:=h
 refine ⟨us,?_,h2,h3,fun i hi=>(h4 i hi).keep he hl⟩
 rcases h2 with g | g
 ·exact .inl ⟨g,h1.nilv g⟩
 ·exact h1.mono fun y hy=>he.2 _ _ (.inl (by omega)) hy
theorem InU.row {lo hi:Nat}{e2 e:TypeId}{H:AH}{o:Nat}{us:List Value}{ls:List (List Int)}(h:InU lo hi e2 e H o us ls):RowLB hi e2 e H (.slice (some ⟨o,0,none⟩) ls.length ls.length) ls:=by
 obtain ⟨h1,h2,h3,h4,h5,h6⟩:=h
 refine ⟨us.take ls.length,.inr ⟨o,0,us,false,by simp [Nat.min_eq_left h4],h3,by simp;omega,by simp [Nat.min_eq_left h4]⟩,.inr h2,by simp;omega,fun i hi=>?_⟩
 have:(us.take ls.length).getD i undef=us.getD i undef:=by
  rw [List.getD_eq_getElem?_getD,List.getD_eq_getElem?_getD,List.getElem?_take,if_pos hi]
 rw [this]
 exact (h5 i hi).1.row
theorem InL.row {lo hi:Nat}{e2 e:TypeId}{H:AH}{v:Value}{ls:List (List Int)}(h:InL lo hi e2 e H v ls):RowLB hi e2 e H v ls:=by
 rcases h with ⟨h1,h2⟩ | ⟨o,us,h1,h2⟩
 ·subst h1;subst h2;exact ⟨[],.inl ⟨rfl,rfl⟩,.inl rfl,rfl,fun i hi=>absurd hi (by simp)⟩
 ·rw [h1];exact h2.row
theorem InU.move {lo hi:Nat}{e2 e:TypeId}{H H':AH}{o:Nat}{us:List Value}{ls:List (List Int)}(h:InU lo hi e2 e H o us ls)(hh:∀ (j:Nat) (y:AObj),lo<=j->j<hi->H[j]?=some y->H'[j]?=some y):InU lo hi e2 e H' o us ls:=by
 obtain ⟨h1,h2,h3,h4,h5,h6⟩:=h
 refine ⟨h1,h2,hh _ _ h1 h2 h3,h4,fun i hi=>⟨(h5 i hi).1.move fun y hn hy=>?_,(h5 i hi).2⟩,h6⟩
 rcases (h5 i hi).1.at_ with g | g
 ·exact absurd g hn
 ·exact hh _ _ g.1 g.2 hy
theorem InL.pre {lo hi:Nat}{e2 e:TypeId}{H H':AH}{v:Value}{ls:List (List Int)}(h:InL lo hi e2 e H v ls)(hp:H<+:H'):InL lo hi e2 e H' v ls:=by
 rcases h with h | ⟨o,us,h1,h2⟩
 ·exact .inl h
 ·exact .inr ⟨o,us,h1,h2.move fun j y _ _ hy=>pre_at hp hy⟩
theorem InL.keep {lo hi lo' hi':Nat}{e2 e:TypeId}{H H':AH}{v:Value}{ls:List (List Int)}(h:InL lo hi e2 e H v ls)(he:ElseR lo' hi' H H')(hl:hi<=lo'∨hi'<=lo):InL lo hi e2 e H' v ls:=by
 rcases h with h | ⟨o,us,h1,h2⟩
 ·exact .inl h
 ·exact .inr ⟨o,us,h1,h2.move fun j y _ _ hy=>he.2 _ _ (by omega) hy⟩
theorem InL.wide {lo hi lo' hi':Nat}{e2 e:TypeId}{H:AH}{v:Value}{ls:List (List Int)}(h:InL lo hi e2 e H v ls)(h1:lo'<=lo)(h2:hi<=hi'):InL lo' hi' e2 e H v ls:=by
 rcases h with h | ⟨o,us,g1,g2,g3,g4,g5,g6,g7⟩
 ·exact .inl h
 ·exact .inr ⟨o,us,g1,by omega,by omega,g4,g5,fun i hi=>⟨(g6 i hi).1.wide h1 h2,(g6 i hi).2⟩,g7⟩
theorem InL.app1 {P:Program}{t2 e2 e:TypeId}(hu:P.underlying t2=some (.slice e2))(hc:P.cellsOf e2=1)(hby:P.bytesOf e2<=64)(hz:zeroOk P e2=true){lo hi hi2:Nat}{H:AH}{v w:Value}{ls:List (List Int)}{l:List Int}
  (h:InL lo hi e2 e H v ls)(hw:InI hi hi2 e H w l)(hl1:lo<=hi)(hl2:hi<=H.length)(hl3:hi2<=H.length)(hb:ls.length<=1099511627775) :
  ∃ v' H',appendA P t2 t2 v (.slice (some ⟨H.length,0,none⟩) 1 1) (H ++ [.cells [w] e2 false])=some (v',H')/\InL lo H'.length e2 e H' v' (ls ++ [l])/\(∀ H0:AH,H0<+:H->H0.length<=lo->H0<+:H')/\H.length<=H'.length/\isTup v'=false:=by
 have hone:isTup w=false:=by rcases hw with g | ⟨o,zs,g1,_⟩ <;> first | (rw [g.1];rfl) | (rw [g1];rfl)
 have bb:∀ n:Nat,n<=1099511627776->n * P.bytesOf e2<=140737488355328:=fun n hn=>by
  refine Nat.le_trans (Nat.mul_le_mul_left _ hby) ?_
  omega
 have hsc:sliceCells P e2 (.slice (some ⟨H.length,0,none⟩) 1 1) (H ++ [.cells [w] e2 false])=some (1,[w]):=by
  simp only [sliceCells,at_new,hc];simp
 rcases h with ⟨h1,h2⟩ | ⟨o,us,h1,h2,h3,h4,h5,h6,h7⟩
 ·subst h1;subst h2
  refine ⟨.slice (some ⟨H.length+1,0,none⟩) 1 1,H ++ [.cells [w] e2 false] ++ [.cells [w] e2 false],?_,?_,fun H0 hp _=>pre_app (pre_app hp _) _,by simp,rfl⟩
  ·simp only [appendA,hu,hc,hsc,hz]
   have:=bb 1 (by omega)
   simp at this ⊢
   exact this
  ·refine .inr ⟨H.length+1,[w],rfl,by omega,by simp,?_,by simp,?_,?_⟩
   ·rw [List.getElem?_append_right (by simp)];simp
   ·intro i hi'
    simp only [List.nil_append,List.length_cons,List.length_nil] at hi'
    obtain rfl:i=0:=by omega
    refine ⟨((hw.pre (List.prefix_append _ _)).pre (List.prefix_append _ _)).wide hl1 (by simp;omega),?_⟩
    rcases hw.at_ with g | g
    ·exact .inl g
    ·right
     show rowO w ≠ H.length+1
     omega
   ·intro i j hij hi' hj'
    simp at hi' hj';omega
 ·subst h1
  have ho:=at_lt h4
  have hlt:o<(H ++ [AObj.cells [w] e2 false]).length:=by simp;omega
  refine ⟨.slice (some ⟨H.length+1,0,none⟩) (ls.length+1) (ls.length+1),(H ++ [AObj.cells [w] e2 false]).set o AObj.dead ++ [AObj.cells (us.take ls.length ++ [w]) e2 false],?_,?_,?_,by simp;omega,rfl⟩
  ·have ho2:(H ++ [AObj.cells [w] e2 false])[o]?=some (.cells us e2 false):=at_app h4 _
   simp only [appendA,hu,hc,hsc,hz,ho2]
   rw [if_pos (by simp),if_neg (by simp),if_pos ⟨trivial,by omega,bb _ (by omega),by omega,trivial⟩]
   simp
  ·have keep:∀ (j:Nat) (y:AObj),j ≠ o->H[j]?=some y->((H ++ [AObj.cells [w] e2 false]).set o .dead ++ [AObj.cells (us.take ls.length ++ [w]) e2 false])[j]?=some y:=by
    intro j y hj hy
    exact at_old (at_app hy _) (fun e=>hj e.symm) _
   have hul:(us.take ls.length).length=ls.length:=by simp;omega
   have uat:∀ i,i<ls.length->(us.take ls.length ++ [w]).getD i undef=us.getD i undef:=by
    intro i hi'
    rw [List.getD_eq_getElem?_getD,List.getD_eq_getElem?_getD,List.getElem?_append_left (by omega),List.getElem?_take,if_pos hi']
   have ulast:(us.take ls.length ++ [w]).getD ls.length undef=w:=by
    rw [List.getD_eq_getElem?_getD,List.getElem?_append_right (by omega),hul];simp
   have lat:∀ i,i<ls.length->(ls ++ [l]).getD i []=ls.getD i []:=by
    intro i hi'
    rw [List.getD_eq_getElem?_getD,List.getD_eq_getElem?_getD,List.getElem?_append_left hi']
   have llast:(ls ++ [l]).getD ls.length []=l:=by
    rw [List.getD_eq_getElem?_getD,List.getElem?_append_right (by omega)];simp
   have aw:∀ i,i<ls.length->Apart (us.getD i undef) w:=by
    intro i hi'
    rcases (h6 i hi').1.at_ with g | g
    ·exact .inr (.inl g)
    ·rcases hw.at_ with g' | g'
     ·exact .inl g'
     ·exact .inr (.inr (by omega))
   refine .inr ⟨H.length+1,us.take ls.length ++ [w],by simp,by omega,by simp,?_,by simp;omega,?_,?_⟩
   ·rw [List.getElem?_append_right (by simp)];simp
   ·intro i hi'
    simp only [List.length_append,List.length_cons,List.length_nil] at hi'
    by_cases hc':i<ls.length
    ·rw [uat i hc',lat i hc']
     obtain ⟨k1,k2⟩:=h6 i hc'
     refine ⟨(k1.move fun y hn hy=>?_).wide (Nat.le_refl _) (by simp;omega),?_⟩
     ·rcases k2 with g | g
      ·exact absurd g hn
      ·exact keep _ _ g hy
     ·rcases k1.at_ with g | g
      ·exact .inl g
      ·exact .inr (by omega)
    ·obtain rfl:i=ls.length:=by omega
     rw [ulast,llast]
     refine ⟨(hw.move fun y hn hy=>?_).wide hl1 (by simp;omega),?_⟩
     ·rcases hw.at_ with g | g
      ·exact absurd g hn
      ·exact keep _ _ (by omega) hy
     ·rcases hw.at_ with g | g
      ·exact .inl g
      ·exact .inr (by omega)
   ·intro i j hij hi' hj'
    simp only [List.length_append,List.length_cons,List.length_nil] at hi' hj'
    by_cases ci:i<ls.length <;> by_cases cj:j<ls.length
    ·rw [uat i ci,uat j cj];exact h7 i j hij ci cj
    ·obtain rfl:j=ls.length:=by omega
     rw [uat i ci,ulast];exact aw i ci
    ·obtain rfl:i=ls.length:=by omega
     rw [uat j cj,ulast]
     rcases aw j cj with g | g | g
     ·exact .inr (.inl g)
     ·exact .inl g
     ·exact .inr (.inr fun e=>g e.symm)
    ·omega
  ·intro H0 hp hl0
   refine pre_app (pre_set (pre_app hp _) (by omega) _) _
end Go.Proofs.YtlcipphiflcaiaaGreat.Ai
namespace Go.Proofs.YtlcipphiflcaiaaGreat.Ai
open Go Go.RowKit
def I64 (x:Int):Prop := -9223372036854775808<=x/\x<=9223372036854775807
def IsRow (k:IntKind)(w:World)(a:Option Addr)(len cap:Nat)(zs:List Int):Prop :=
 (a=none/\len=0/\cap=0/\zs=[]) ∨
 ∃ x,a=some x/\len<=cap/\cap<=maxLen/\zs.length=cap/\(∀ i,i<zs.length->w.cell? (x.add i)=some (.int k (zs.getD i 0)))/\∀ n ∈ zs,(Lit.int k n).wf=true
structure Args (P:Program) (μ:Mu) (H:AH) (W:World):Prop where
 rel:HRel P μ H W
 ro:∀ (o:Nat) (x:AObj),H[o]?=some x->x.wr=false
theorem Args.nil0 (P:Program)(W:World):Args P (fun _=>none) [] W:=⟨⟨fun _ _=>rfl,fun _ _ _ _ _ h=>by simp at h,fun _ _ _ h=>by simp at h,fun _ _ _ _ _ _ _ h=>by simp at h⟩,fun _ _ h=>by simp at h⟩
theorem Args.wr {P:Program}{μ:Mu}{H:AH}{W:World}(h:Args P μ H W):∀ (o:Nat) (x:AObj) (L:Loc),H[o]?=some x->x.wr=true->μ o=some L->W.heap.size<=L.blk:=fun o x L ho hw=>by
 rw [h.ro o x ho] at hw;cases hw
end Go.Proofs.YtlcipphiflcaiaaGreat.Ai
namespace Go.Proofs.YtlcipphiflcaiaaGreat.Ai
open Go Go.RowKit
def Away (q o:Nat)(us:List Value)(ls:List (List Int)):Prop:=o ≠ q/\∀ i,i<ls.length->us.getD i undef=.slice none 0 0∨rowO (us.getD i undef) ≠ q
theorem InU.moveq {lo hi q:Nat}{e2 e:TypeId}{H H':AH}{o:Nat}{us:List Value}{ls:List (List Int)}(h:InU lo hi e2 e H o us ls)(ha:Away q o us ls)(hh:∀ (j:Nat) (y:AObj),j ≠ q->H[j]?=some y->H'[j]?=some y):InU lo hi e2 e H' o us ls:=by
 obtain ⟨h1,h2,h3,h4,h5,h6⟩:=h
 refine ⟨h1,h2,hh _ _ ha.1 h3,h4,fun i hi=>⟨(h5 i hi).1.move fun y hn hy=>?_,(h5 i hi).2⟩,h6⟩
 rcases ha.2 i hi with g | g
 ·exact absurd g hn
 ·exact hh _ _ g hy
theorem InU.wide {lo hi lo' hi':Nat}{e2 e:TypeId}{H:AH}{o:Nat}{us:List Value}{ls:List (List Int)}(h:InU lo hi e2 e H o us ls)(h1:lo'<=lo)(h2:hi<=hi'):InU lo' hi' e2 e H o us ls:=by
 obtain ⟨g2,g3,g4,g5,g6,g7⟩:=h
 exact ⟨by omega,by omega,g4,g5,fun i hi=>⟨(g6 i hi).1.wide h1 h2,(g6 i hi).2⟩,g7⟩
theorem InU.pre {lo hi:Nat}{e2 e:TypeId}{H H':AH}{o:Nat}{us:List Value}{ls:List (List Int)}(h:InU lo hi e2 e H o us ls)(hp:H<+:H'):InU lo hi e2 e H' o us ls:=h.move fun j y _ _ hy=>pre_at hp hy
theorem InU.inl {lo hi:Nat}{e2 e:TypeId}{H:AH}{o:Nat}{us:List Value}{ls:List (List Int)}(h:InU lo hi e2 e H o us ls):InL lo hi e2 e H (.slice (some ⟨o,0,none⟩) ls.length ls.length) ls:=.inr ⟨o,us,rfl,h⟩
theorem InU.new (lo:Nat)(e2 e:TypeId)(H:AH)(hl:lo<=H.length):InU lo (H.length+1) e2 e (H ++ [.cells [] e2 false]) H.length [] [] :=
 ⟨hl,by omega,at_new ..,Nat.le_refl _,fun i hi=>absurd hi (by simp),fun i j _ hi _=>absurd hi (by simp)⟩
theorem InU.app1 {P:Program}{t2 e2 e:TypeId}(hu:P.underlying t2=some (.slice e2))(hc:P.cellsOf e2=1)(hby:P.bytesOf e2<=64)(hz:zeroOk P e2=true){lo hi hi2:Nat}{H:AH}{o:Nat}{us:List Value}{w:Value}{ls:List (List Int)}{l:List Int}
  (h:InU lo hi e2 e H o us ls)(hw:InI hi hi2 e H w l)(hl1:lo<=hi)(hl2:hi<=H.length)(hl3:hi2<=H.length)(hb:ls.length<=1099511627775) :
  ∃ H',appendA P t2 t2 (.slice (some ⟨o,0,none⟩) ls.length ls.length) (.slice (some ⟨H.length,0,none⟩) 1 1) (H ++ [.cells [w] e2 false])=some (.slice (some ⟨H.length+1,0,none⟩) (ls.length+1) (ls.length+1),H') /\
   InU lo (H.length+2) e2 e H' (H.length+1) (us.take ls.length ++ [w]) (ls ++ [l])/\H'.length=H.length+2/\(∀ (j:Nat) (y:AObj),j ≠ o->H[j]?=some y->H'[j]?=some y):=by
 have bb:∀ n:Nat,n<=1099511627776->n * P.bytesOf e2<=140737488355328:=fun n hn=>by
  refine Nat.le_trans (Nat.mul_le_mul_left _ hby) ?_
  omega
 have hsc:sliceCells P e2 (.slice (some ⟨H.length,0,none⟩) 1 1) (H ++ [.cells [w] e2 false])=some (1,[w]):=by
  simp only [sliceCells,at_new,hc];simp
 obtain ⟨h2,h3,h4,h5,h6,h7⟩:=h
 have ho:=at_lt h4
 have hlt:o<(H ++ [AObj.cells [w] e2 false]).length:=by simp;omega
 have keep:∀ (j:Nat) (y:AObj),j ≠ o->H[j]?=some y->((H ++ [AObj.cells [w] e2 false]).set o AObj.dead ++ [AObj.cells (us.take ls.length ++ [w]) e2 false])[j]?=some y:=by
  intro j y hj hy
  exact at_old (at_app hy _) (fun e=>hj e.symm) _
 refine ⟨(H ++ [AObj.cells [w] e2 false]).set o AObj.dead ++ [AObj.cells (us.take ls.length ++ [w]) e2 false],?_,?_,by simp,keep⟩
 ·have ho2:(H ++ [AObj.cells [w] e2 false])[o]?=some (.cells us e2 false):=at_app h4 _
  simp only [appendA,hu,hc,hsc,hz,ho2]
  rw [if_pos (by simp),if_neg (by simp),if_pos ⟨trivial,by omega,bb _ (by omega),by omega,trivial⟩]
  simp
 ·have hul:(us.take ls.length).length=ls.length:=by simp;omega
  have uat:∀ i,i<ls.length->(us.take ls.length ++ [w]).getD i undef=us.getD i undef:=by
   intro i hi'
   rw [List.getD_eq_getElem?_getD,List.getD_eq_getElem?_getD,List.getElem?_append_left (by omega),List.getElem?_take,if_pos hi']
  have ulast:(us.take ls.length ++ [w]).getD ls.length undef=w:=by
   rw [List.getD_eq_getElem?_getD,List.getElem?_append_right (by omega),hul];simp
  have lat:∀ i,i<ls.length->(ls ++ [l]).getD i []=ls.getD i []:=by
   intro i hi'
   rw [List.getD_eq_getElem?_getD,List.getD_eq_getElem?_getD,List.getElem?_append_left hi']
  have llast:(ls ++ [l]).getD ls.length []=l:=by
   rw [List.getD_eq_getElem?_getD,List.getElem?_append_right (by omega)];simp
  have aw:∀ i,i<ls.length->Apart (us.getD i undef) w:=by
   intro i hi'
   rcases (h6 i hi').1.at_ with g | g
   ·exact .inr (.inl g)
   ·rcases hw.at_ with g' | g'
    ·exact .inl g'
    ·exact .inr (.inr (by omega))
  refine ⟨by omega,by omega,?_,by simp;omega,?_,?_⟩
  ·rw [List.getElem?_append_right (by simp)];simp
  ·intro i hi'
   simp only [List.length_append,List.length_cons,List.length_nil] at hi'
   by_cases hc':i<ls.length
   ·rw [uat i hc',lat i hc']
    obtain ⟨k1,k2⟩:=h6 i hc'
    refine ⟨(k1.move fun y hn hy=>?_).wide (Nat.le_refl _) (by omega),?_⟩
    ·rcases k2 with g | g
     ·exact absurd g hn
     ·exact keep _ _ g hy
    ·rcases k1.at_ with g | g
     ·exact .inl g
     ·exact .inr (by omega)
   ·obtain rfl:i=ls.length:=by omega
    rw [ulast,llast]
    refine ⟨(hw.move fun y hn hy=>?_).wide hl1 (by omega),?_⟩
    ·rcases hw.at_ with g | g
     ·exact absurd g hn
     ·exact keep _ _ (by omega) hy
    ·rcases hw.at_ with g | g
     ·exact .inl g
     ·exact .inr (by omega)
  ·intro i j hij hi' hj'
   simp only [List.length_append,List.length_cons,List.length_nil] at hi' hj'
   by_cases ci:i<ls.length <;> by_cases cj:j<ls.length
   ·rw [uat i ci,uat j cj];exact h7 i j hij ci cj
   ·obtain rfl:j=ls.length:=by omega
    rw [uat i ci,ulast];exact aw i ci
   ·obtain rfl:i=ls.length:=by omega
    rw [uat j cj,ulast]
    rcases aw j cj with g | g | g
    ·exact .inr (.inl g)
    ·exact .inl g
    ·exact .inr (.inr fun e=>g e.symm)
   ·omega
end Go.Proofs.YtlcipphiflcaiaaGreat.Ai
namespace Go.Proofs.YtlcipphiflcaiaaGreat.Ai
open Go Go.RowKit
def flat (ps:List (Int × Int)):List Int:=ps.flatMap fun p=>[p.1,p.2]
theorem flat_cons (p:Int × Int)(ps:List (Int × Int)):flat (p :: ps)=p.1 :: p.2 :: flat ps:=rfl
theorem flat_len (ps:List (Int × Int)):(flat ps).length=2 * ps.length:=by
 induction ps with
 | nil=>rfl
 | cons p ps ih=>rw [flat_cons];simp only [List.length_cons,ih];omega
theorem flat_app (ps qs:List (Int × Int)):flat (ps ++ qs)=flat ps ++ flat qs:=by simp [flat]
theorem flat_take (ps:List (Int × Int))(i:Nat):(flat ps).take (2 * i)=flat (ps.take i):=by
 induction ps generalizing i with
 | nil=>simp [flat]
 | cons p ps ih =>
  cases i with
  | zero=>simp [flat]
  | succ i=>rw [flat_cons,show 2 * (i+1)=2 * i+1+1 from by omega,List.take_succ_cons,List.take_succ_cons,ih,List.take_succ_cons,flat_cons]
theorem flat_drop (ps:List (Int × Int))(i:Nat):(flat ps).drop (2 * i)=flat (ps.drop i):=by
 induction ps generalizing i with
 | nil=>simp [flat]
 | cons p ps ih =>
  cases i with
  | zero=>simp [flat]
  | succ i=>rw [flat_cons,show 2 * (i+1)=2 * i+1+1 from by omega,List.drop_succ_cons,List.drop_succ_cons,ih,List.drop_succ_cons]
theorem flat_at0 (ps:List (Int × Int))(i:Nat)(h:i<ps.length):(flat ps).getD (2 * i) 0=(ps.getD i (0,0)).1:=by
 induction ps generalizing i with
 | nil=>simp at h
 | cons p ps ih =>
  cases i with
  | zero=>rfl
  | succ i =>
   simp only [List.length_cons] at h
   rw [flat_cons,show 2 * (i+1)=2 * i+1+1 from by omega,List.getD_cons_succ,List.getD_cons_succ,ih i (by omega),List.getD_cons_succ]
theorem flat_at1 (ps:List (Int × Int))(i:Nat)(h:i<ps.length):(flat ps).getD (2 * i+1) 0=(ps.getD i (0,0)).2:=by
 induction ps generalizing i with
 | nil=>simp at h
 | cons p ps ih =>
  cases i with
  | zero=>rfl
  | succ i =>
   simp only [List.length_cons] at h
   rw [flat_cons,show 2 * (i+1)+1=2 * i+1+1+1 from by omega,List.getD_cons_succ,List.getD_cons_succ,ih i (by omega),List.getD_cons_succ]
theorem flat_snoc (ps:List (Int × Int))(a b:Int):flat (ps ++ [(a,b)])=flat ps ++ [a,b]:=by rw [flat_app];rfl
def RowP (e:TypeId)(H:AH)(v:Value)(ps:List (Int × Int)):Prop :=
 (v=.slice none 0 0/\ps=[])∨∃ o k vs ro,v=.slice (some ⟨o,k,none⟩) ps.length ps.length/\H[o]?=some (.cells vs e ro)/\k+2 * ps.length<=vs.length/\(vs.drop k).take (2 * ps.length)=ints (flat ps)
def MineP (e:TypeId)(H0 H:AH)(v:Value)(ps:List (Int × Int)):Prop :=
 (v=.slice none 0 0/\ps=[])∨∃ o zs,v=.slice (some ⟨o,0,none⟩) ps.length ps.length/\H0.length<=o/\H[o]?=some (.cells (ints zs) e false)/\zs.take (2 * ps.length)=flat ps
theorem take_flat_len {zs:List Int}{ps:List (Int × Int)}(h:zs.take (2 * ps.length)=flat ps):2 * ps.length<=zs.length:=by
 have:=congrArg List.length h
 rw [flat_len,List.length_take] at this;omega
theorem MineP.row {e:TypeId}{H0 H:AH}{v:Value}{ps:List (Int × Int)}(h:MineP e H0 H v ps):RowP e H v ps:=by
 rcases h with h | ⟨o,zs,h1,h2,h3,h4⟩
 ·exact .inl h
 ·have hl:=take_flat_len h4
  refine .inr ⟨o,0,_,_,h1,h3,by rw [ints_len];omega,?_⟩
  rw [List.drop_zero]
  have:(ints zs).take (2 * ps.length)=ints (zs.take (2 * ps.length)):=by simp [ints,List.map_take]
  rw [this,h4]
theorem MineP.keep {e:TypeId}{H0 H H':AH}{v:Value}{ps:List (Int × Int)}(h:MineP e H0 H v ps)(hh:∀ y,H[rowO v]?=some y->H'[rowO v]?=some y):MineP e H0 H' v ps:=by
 rcases h with h | ⟨o,zs,h1,h2,h3,h4⟩
 ·exact .inl h
 ·subst h1;exact .inr ⟨o,zs,rfl,h2,hh _ h3,h4⟩
theorem MineP.pre {e:TypeId}{H0 H H':AH}{v:Value}{ps:List (Int × Int)}(h:MineP e H0 H v ps)(hp:H<+:H'):MineP e H0 H' v ps:=h.keep fun _ hy=>pre_at hp hy
theorem MineP.base {e:TypeId}{H0 H1 H:AH}{v:Value}{ps:List (Int × Int)}(h:MineP e H1 H v ps)(hp:H0<+:H1):MineP e H0 H v ps:=by
 rcases h with h | ⟨o,zs,h1,h2,h3,h4⟩
 ·exact .inl h
 ·exact .inr ⟨o,zs,h1,Nat.le_trans hp.length_le h2,h3,h4⟩
theorem MineP.new (e:TypeId)(H0 H:AH)(ps:List (Int × Int))(hl:H0.length<=H.length):MineP e H0 (H ++ [.cells (ints (flat ps)) e false]) (.slice (some ⟨H.length,0,none⟩) ps.length ps.length) ps :=
 .inr ⟨H.length,_,rfl,hl,at_new ..,by rw [List.take_of_length_le (by rw [flat_len];omega)]⟩
theorem RowP.mono {e:TypeId}{H H':AH}{v:Value}{ps:List (Int × Int)}(h:RowP e H v ps)(hh:∀ x,H[rowO v]?=some x->H'[rowO v]?=some x):RowP e H' v ps:=by
 rcases h with h | ⟨o,k,vs,ro,h1,h2,h3⟩
 ·exact .inl h
 ·subst h1;exact .inr ⟨o,k,vs,ro,rfl,hh _ h2,h3⟩
theorem RowP.pre {e:TypeId}{H H':AH}{v:Value}{ps:List (Int × Int)}(h:RowP e H v ps)(hp:H<+:H'):RowP e H' v ps:=h.mono fun x hx=>pre_at hp hx
theorem RowP.shape {e:TypeId}{H:AH}{v:Value}{ps:List (Int × Int)}(h:RowP e H v ps):∃ p,v=.slice p ps.length ps.length:=by
 rcases h with ⟨h1,h2⟩ | ⟨o,k,vs,ro,h1,_⟩
 ·subst h2;exact ⟨_,h1⟩
 ·exact ⟨_,h1⟩
theorem RowP.tup {e:TypeId}{H:AH}{v:Value}{ps:List (Int × Int)}(h:RowP e H v ps):isTup v=false:=by
 obtain ⟨p,rfl⟩:=h.shape;rfl
theorem RowP.len {P:Program}{t e:TypeId}(hu:P.underlying t=some (.slice e)){H:AH}{v:Value}{ps:List (Int × Int)}(h:RowP e H v ps):lenA P t v=some (.int .i64 ps.length):=by
 obtain ⟨p,rfl⟩:=h.shape;exact ln_sl hu _ _ _
theorem ix_two {P:Program}{t e:TypeId}(hu:P.underlying t=some (.slice e))(hc:P.cellsOf e=2)(p:Addr)(n c:Nat)(k:IntKind){i:Int}(h0:0<=i)(h1:i<(n:Int)) :
  indexAddrA P t (.slice (some p) n c) (.int k i)=some (.pointer (some ⟨p.block,p.off+2 * i.toNat,none⟩)):=by
 simp only [indexAddrA,hu,hc]
 rw [if_pos ⟨h0,h1,by omega⟩,Nat.mul_comm]
theorem RowP.ix {P:Program}{t e:TypeId}(hu:P.underlying t=some (.slice e))(hc:P.cellsOf e=2){H:AH}{v:Value}{ps:List (Int × Int)}(h:RowP e H v ps)(k:IntKind){i:Int}(h0:0<=i)(h1:i<(ps.length:Int)) :
  indexAddrA P t v (.int k i)=some (.pointer (some ⟨rowO v,rowK v+2 * i.toNat,none⟩)):=by
 rcases h with ⟨_,h2⟩ | ⟨o,k2,vs,ro,e1,_⟩
 ·subst h2;simp at h1;omega
 ·subst e1;exact ix_two hu hc _ _ _ _ h0 h1
theorem RowP.cell {e:TypeId}{H:AH}{v:Value}{ps:List (Int × Int)}(h:RowP e H v ps){j:Nat}(hj:j<2 * ps.length):cellA H (rowO v) (rowK v+j)=some (.int .i64 ((flat ps).getD j 0)):=by
 rcases h with ⟨_,h2⟩ | ⟨o,k,vs,ro,e1,h2,h3,h4⟩
 ·subst h2;simp at hj
 ·subst e1
  rw [show cellA H (rowO _) _=cellA H o (k+j) from rfl,cell_of h2]
  have:=congrArg (·[j]?) h4
  simp only [List.getElem?_take,List.getElem?_drop,if_pos hj] at this
  rw [this,ints_at (flat ps) (by rw [flat_len];exact hj)]
theorem RowP.cell0 {e:TypeId}{H:AH}{v:Value}{ps:List (Int × Int)}(h:RowP e H v ps){i:Nat}(hi:i<ps.length):cellA H (rowO v) (rowK v+2 * i)=some (.int .i64 (ps.getD i (0,0)).1):=by
 rw [h.cell (by omega),flat_at0 ps i hi]
theorem RowP.cell1 {e:TypeId}{H:AH}{v:Value}{ps:List (Int × Int)}(h:RowP e H v ps){i:Nat}(hi:i<ps.length):cellA H (rowO v) (rowK v+2 * i+1)=some (.int .i64 (ps.getD i (0,0)).2):=by
 rw [Nat.add_assoc,h.cell (by omega),flat_at1 ps i hi]
theorem ld_two {P:Program}{t:TypeId}(h:isAggA P t=some true)(hc:P.cellsOf t=2){p:Addr}{H:AH}{a b:Value}(h0:cellA H p.block p.off=some a)(h1:cellA H p.block (p.off+1)=some b):loadA P t (.pointer (some p)) H=some (.agg (List.toArray [a,b])):=by
 unfold cellA at h0 h1
 simp only [loadA,h,hc]
 split at h0
 ·rename_i vs ty ro ho
  simp only [ho] at h1 ⊢
  have l1:=(List.getElem?_eq_some_iff.1 h1).1
  rw [if_pos ⟨by omega,by omega⟩]
  have:(vs.drop p.off).take 2=[a,b]:=by
   apply List.ext_getElem?
   intro i
   rw [List.getElem?_take]
   rcases i with _ | _ | i
   ·simp [h0]
   ·simp [h1]
   ·simp;intro;omega
  rw [this]
 ·cases h0
theorem RowP.ld {P:Program}{t2 e:TypeId}(ha:isAggA P t2=some true)(hc:P.cellsOf t2=2){H:AH}{v:Value}{ps:List (Int × Int)}(h:RowP e H v ps){i:Nat}(hi:i<ps.length) :
  loadA P t2 (.pointer (some ⟨rowO v,rowK v+2 * i,none⟩)) H=some (.agg (List.toArray [.int .i64 (ps.getD i (0,0)).1,.int .i64 (ps.getD i (0,0)).2])) :=
 ld_two ha hc (h.cell0 hi) (h.cell1 hi)
theorem RowP.nil {e:TypeId}{H:AH}{v:Value}{ps:List (Int × Int)}(h:RowP e H v ps):(v=.slice none 0 0/\ps=[])∨rowO v<H.length:=by
 rcases h with h | ⟨o,k,vs,ro,h1,h2,_⟩
 ·exact .inl h
 ·subst h1;exact .inr (at_lt h2)
theorem RowP.nilv {e:TypeId}{H:AH}{v:Value}{ps:List (Int × Int)}(h:RowP e H v ps)(hv:v=.slice none 0 0):ps=[]:=by
 rcases h with h | ⟨o,k,vs,ro,h1,_⟩
 ·exact h.2
 ·rw [h1] at hv;cases hv
theorem RowP.kept {e:TypeId}{H H':AH}{x v:Value}{ps:List (Int × Int)}(hr:RowP e H x ps)(ha:Apart x v)(hk:Kept v H H'):RowP e H' x ps:=by
 rcases ha with ha | ha | ha
 ·exact hr.mono fun y hy=>hk _ _ (.inl ha) hy
 ·rcases hr with h | ⟨o,k,vs,ro,h1,_⟩
  ·exact .inl h
  ·rw [h1] at ha;cases ha
 ·exact hr.mono fun y hy=>hk _ _ (.inr ha) hy
theorem bsP0 {P:Program}{t e:TypeId}{z:Value}(hu:P.underlying t=some (.slice e))(hc:P.cellsOf e=2)(hz:zeroA P e=some z)(hp:plainCs z=true/\z.cells.size=2)(H:AH) :
  buildSliceA P t 0 [] H=some (.slice (some ⟨H.length,0,none⟩) 0 0,H ++ [.cells [] e false]):=by
 have hp':plainCs z=true/\z.cells.size=P.cellsOf e:=by rw [hc];exact hp
 simp only [buildSliceA,hu,hc,hz]
 rw [if_pos (by simp),if_pos hp]
 simp [Instr.fill,zerosA]
theorem bsP1 {P:Program}{t e:TypeId}(hu:P.underlying t=some (.slice e))(hc:P.cellsOf e=2)(hz:zeroA P e=some (.agg #[.int .i64 0,.int .i64 0]))(H:AH)(a b:Value) :
  buildSliceA P t 1 [(0,.agg (List.toArray [a,b]))] H=some (.slice (some ⟨H.length,0,none⟩) 1 1,H ++ [.cells [a,b] e false]):=by
 have hcl:(Value.agg (List.toArray [a,b])).cells=#[a,b]:=rfl
 have hcz:(Value.agg #[.int .i64 0,.int .i64 0]).cells=#[.int .i64 0,.int .i64 0]:=rfl
 simp only [buildSliceA,hu,hc,hz]
 rw [if_pos (by simp [isTup]),if_pos ⟨by simp [plainCs,hcz,plainC],by rw [hcz];rfl⟩]
 simp [Instr.fill,zerosA,hcl,hcz,Array.range]
theorem MineP.nil0 {P:Program}{e:TypeId}(H0 H:AH)(hl:H0.length<=H.length):MineP e H0 (H ++ [.cells [] e false]) (.slice (some ⟨H.length,0,none⟩) 0 0) []:=MineP.new e H0 H [] hl
theorem MineP.app1 {P:Program}{t e:TypeId}(hu:P.underlying t=some (.slice e))(hc:P.cellsOf e=2)(hby:P.bytesOf e<=64)(hz:zeroOk P e=true){H0 H:AH}{v:Value}{ps:List (Int × Int)}(h:MineP e H0 H v ps)(hp:H0<+:H)(hb:ps.length<=1099511627775)(a b:Int) :
  ∃ v' H',appendA P t t v (.slice (some ⟨H.length,0,none⟩) 1 1) (H ++ [.cells [.int .i64 a,.int .i64 b] e false])=some (v',H')/\MineP e H0 H' v' (ps ++ [(a,b)])/\H0<+:H'/\Kept v H H'/\H.length<=rowO v'/\isTup v'=false:=by
 have bb:∀ n:Nat,n<=1099511627776->n * P.bytesOf e<=140737488355328:=fun n hn=>by
  refine Nat.le_trans (Nat.mul_le_mul_left _ hby) ?_
  omega
 have hsc:sliceCells P e (.slice (some ⟨H.length,0,none⟩) 1 1) (H ++ [.cells [.int .i64 a,.int .i64 b] e false])=some (1,[.int .i64 a,.int .i64 b]):=by
  simp only [sliceCells,at_new,hc];simp
 rcases h with ⟨h1,h2⟩ | ⟨o,zs,h1,h2,h3,h4⟩
 ·subst h1;subst h2
  refine ⟨.slice (some ⟨H.length+1,0,none⟩) 1 1,H ++ [.cells [.int .i64 a,.int .i64 b] e false] ++ [.cells [.int .i64 a,.int .i64 b] e false],?_,?_,pre_app (pre_app hp _) _,fun o y _ hy=>at_app (at_app hy _) _,by show H.length<=H.length+1;omega,rfl⟩
  ·simp only [appendA,hu,hc,hsc,hz]
   have:=bb 1 (by omega)
   simp at this ⊢
   exact this
  ·have hlen:=hp.length_le
   refine .inr ⟨H.length+1,[a,b],rfl,by omega,?_,rfl⟩
   rw [List.getElem?_append_right (by simp)];simp [ints]
 ·subst h1
  have ho:=at_lt h3
  have hl:=take_flat_len h4
  have ho2:(H ++ [AObj.cells [.int .i64 a,.int .i64 b] e false])[o]?=some (.cells (ints zs) e false):=at_app h3 _
  refine ⟨.slice (some ⟨H.length+1,0,none⟩) (ps.length+1) (ps.length+1),(H ++ [AObj.cells [.int .i64 a,.int .i64 b] e false]).set o AObj.dead ++ [AObj.cells (ints (flat (ps ++ [(a,b)]))) e false],?_,?_,pre_app (pre_set (pre_app hp _) (by omega) _) _,?_,by show H.length<=H.length+1;omega,rfl⟩
  ·simp only [appendA,hu,hc,hsc,hz,ho2]
   rw [if_pos (by simp),if_neg (by simp),if_pos ⟨trivial,by rw [ints_len];omega,bb _ (by omega),by omega,trivial⟩]
   have:((ints zs).drop 0).take (ps.length * 2) ++ [.int .i64 a,.int .i64 b]=ints (flat (ps ++ [(a,b)])):=by
    rw [flat_snoc,ints_app,<- h4,List.drop_zero,Nat.mul_comm]
    simp [ints,List.map_take]
   rw [this]
   simp
  ·have hlen:=hp.length_le
   refine .inr ⟨H.length+1,flat (ps ++ [(a,b)]),by simp,by omega,?_,?_⟩
   ·rw [List.getElem?_append_right (by simp)];simp
   ·rw [List.take_of_length_le (by rw [flat_len];omega)]
  ·intro o' y hne hy
   refine at_old (at_app hy _) ?_ _
   rcases hne with hne | hne
   ·cases hne
   ·exact fun e=>hne e.symm
def RowPB (b:Nat)(e:TypeId)(H:AH)(v:Value)(ps:List (Int × Int)):Prop:=RowP e H v ps/\(v=.slice none 0 0∨rowO v<b)
def InP (lo hi:Nat)(e:TypeId)(H:AH)(v:Value)(ps:List (Int × Int)):Prop :=
 (v=.slice none 0 0/\ps=[])∨∃ o zs,v=.slice (some ⟨o,0,none⟩) ps.length ps.length/\lo<=o/\o<hi/\H[o]?=some (.cells (ints zs) e false)/\zs.take (2 * ps.length)=flat ps
theorem RowP.b {e:TypeId}{H:AH}{v:Value}{ps:List (Int × Int)}(h:RowP e H v ps):RowPB H.length e H v ps:=⟨h,h.nil.imp (fun g=>g.1) id⟩
theorem RowPB.pre {b:Nat}{e:TypeId}{H H':AH}{v:Value}{ps:List (Int × Int)}(h:RowPB b e H v ps)(hp:H<+:H'):RowPB b e H' v ps:=⟨h.1.pre hp,h.2⟩
theorem RowPB.keep {b lo hi:Nat}{e:TypeId}{H H':AH}{v:Value}{ps:List (Int × Int)}(h:RowPB b e H v ps)(he:ElseR lo hi H H')(hl:b<=lo):RowPB b e H' v ps:=by
 refine ⟨?_,h.2⟩
 rcases h.2 with g | g
 ·exact .inl ⟨g,h.1.nilv g⟩
 ·exact h.1.mono fun y hy=>he.2 _ _ (.inl (by omega)) hy
theorem InP.row {lo hi:Nat}{e:TypeId}{H:AH}{v:Value}{ps:List (Int × Int)}(h:InP lo hi e H v ps):RowPB hi e H v ps:=by
 rcases h with h | ⟨o,zs,h1,h2,h3,h4,h5⟩
 ·exact ⟨.inl h,.inl h.1⟩
 ·have:MineP e [] H v ps:=.inr ⟨o,zs,h1,Nat.zero_le _,h4,h5⟩
  exact ⟨this.row,.inr (by rw [h1];exact h3)⟩
theorem InP.of {e:TypeId}{H0 H:AH}{v:Value}{ps:List (Int × Int)}(h:MineP e H0 H v ps):InP H0.length H.length e H v ps:=by
 rcases h with h | ⟨o,zs,h1,h2,h3,h4⟩
 ·exact .inl h
 ·exact .inr ⟨o,zs,h1,h2,at_lt h3,h3,h4⟩
theorem InP.wide {lo hi lo' hi':Nat}{e:TypeId}{H:AH}{v:Value}{ps:List (Int × Int)}(h:InP lo hi e H v ps)(h1:lo'<=lo)(h2:hi<=hi'):InP lo' hi' e H v ps:=by
 rcases h with h | ⟨o,zs,g1,g2,g3,g4,g5⟩
 ·exact .inl h
 ·exact .inr ⟨o,zs,g1,by omega,by omega,g4,g5⟩
theorem InP.move {lo hi:Nat}{e:TypeId}{H H':AH}{v:Value}{ps:List (Int × Int)}(h:InP lo hi e H v ps)(hh:∀ y,v ≠ .slice none 0 0->H[rowO v]?=some y->H'[rowO v]?=some y):InP lo hi e H' v ps:=by
 rcases h with h | ⟨o,zs,g1,g2,g3,g4,g5⟩
 ·exact .inl h
 ·subst g1;exact .inr ⟨o,zs,rfl,g2,g3,hh _ (by intro e;cases e) g4,g5⟩
theorem InP.pre {lo hi:Nat}{e:TypeId}{H H':AH}{v:Value}{ps:List (Int × Int)}(h:InP lo hi e H v ps)(hp:H<+:H'):InP lo hi e H' v ps:=h.move fun _ _ hy=>pre_at hp hy
theorem InP.keep {lo hi lo' hi':Nat}{e:TypeId}{H H':AH}{v:Value}{ps:List (Int × Int)}(h:InP lo hi e H v ps)(he:ElseR lo' hi' H H')(hl:hi<=lo'∨hi'<=lo):InP lo hi e H' v ps:=by
 rcases h with h | ⟨o,zs,g1,g2,g3,g4,g5⟩
 ·exact .inl h
 ·exact .inr ⟨o,zs,g1,g2,g3,he.2 _ _ (by omega) g4,g5⟩
theorem InP.at_ {lo hi:Nat}{e:TypeId}{H:AH}{v:Value}{ps:List (Int × Int)}(h:InP lo hi e H v ps):v=.slice none 0 0∨(lo<=rowO v/\rowO v<hi):=by
 rcases h with h | ⟨o,zs,g1,g2,g3,g4,g5⟩
 ·exact .inl h.1
 ·subst g1;exact .inr ⟨g2,g3⟩
end Go.Proofs.YtlcipphiflcaiaaGreat.Ai
namespace Go.Proofs.YtlcipphiflcaiaaGreat.Ai
open Go Go.RowKit
theorem HRel.below {P:Program}{μ:Mu}{H:AH}{w w':World}(h:HRel P μ H w)(hb:Below w.heap.size w w'):HRel P μ H w' :=
 h.same hb.size fun o x L ho hl hL=>hb.block _ (h.live_lt ho hl hL)
end Go.Proofs.YtlcipphiflcaiaaGreat.Ai
namespace Go.Proofs.YtlcipphiflcaiaaGreat.Ai
open Go Go.RowKit Go.ChangeShapes
section
variable {E:Type} {enc:TypeId × Value->E} {P:Program} {W:World} {base:Nat} {held:Bool}
end
end Go.Proofs.YtlcipphiflcaiaaGreat.Ai
