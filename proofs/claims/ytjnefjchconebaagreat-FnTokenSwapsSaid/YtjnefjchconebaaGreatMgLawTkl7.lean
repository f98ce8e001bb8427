/- Texts of this claim, joined: TkW, Chg, OrN, Lst, All9, PmS, Tsp, SpP, Isp, Place, Tkl, ArB. -/
import Derived.Test.YtjnefjchconebaaGreatProg
import Derived.KernelRfl
import Derived.Test.YtjnefjchconebaaGreatMgLawTkl6
set_option linter.unusedVariables false
set_option linter.unusedSimpArgs false
set_option maxHeartbeats 8000000
set_option maxRecDepth 20000
namespace Go.Proofs.YtjnefjchconebaaGreat.Ai
open Go Go.RowKit
def tkA (n:Nat):Bool:=(pms n).all fun a=>decide (Prm a) && decide (dfL a a=[]) && Nat.ble ((pms n).countP fun b=>ts2 b a || ts2 a b) 12 &&
  ((pms n).all fun b=>!ts2 a b || (decide (b=swp a ((dfL a b).getD 0 0).toNat ((dfL a b).getD 1 0).toNat) && decide (0<=(dfL a b).getD 0 0/\(dfL a b).getD 0 0<(dfL a b).getD 1 0))) &&
  ((List.range n).all fun y=>(List.range y).all fun x=>decide (dfL a (swp a x y)=[(x:Int),(y:Int)]))
theorem tkA0:tkA 0=true:=by decide +kernel
theorem tkA1:tkA 1=true:=by decide +kernel
theorem tkA2:tkA 2=true:=by decide +kernel
theorem tkA3:tkA 3=true:=by decide +kernel
theorem tkA4:tkA 4=true:=by decide +kernel
theorem tkA5:tkA 5=true:=by decide +kernel
theorem tk_ok {n:Nat}(hn:n<=5){a:List Int}(ha:a ∈ pms n):Bd n a/\dfL a a=[]/\((pms n).countP fun b=>ts2 b a || ts2 a b)<=12/\(∀ b ∈ pms n,ts2 a b=true->b=swp a ((dfL a b).getD 0 0).toNat ((dfL a b).getD 1 0).toNat/\0<=(dfL a b).getD 0 0/\(dfL a b).getD 0 0<(dfL a b).getD 1 0)/\∀ x y:Nat,x<y->y<n->dfL a (swp a x y)=[(x:Int),(y:Int)]:=by
  have h:tkA n=true:=by
    have:n=0∨n=1∨n=2∨n=3∨n=4∨n=5:=by omega
    rcases this with rfl | rfl | rfl | rfl | rfl | rfl
    . exact tkA0
    . exact tkA1
    . exact tkA2
    . exact tkA3
    . exact tkA4
    . exact tkA5
  have h2:=List.all_eq_true.1 h a ha
  simp only [Bool.and_eq_true,decide_eq_true_eq,List.all_eq_true,Nat.ble_eq,List.mem_range,Bool.or_eq_true,Bool.not_eq_true'] at h2
  obtain ⟨⟨⟨⟨h3,h4⟩,h5⟩,h6⟩,h7⟩:=h2
  refine ⟨⟨h3,(pms_ok hn).2.2.1 a ha⟩,h4,h5,fun b hb hts=>?_,fun x y hx hy=>h7 y hy x hx⟩
  rcases h6 b hb with q | q
  . rw [q] at hts;cases hts
  . exact q
theorem ts_nxt {n:Nat}(hn:n<=5){es:List (Int × Int)}(hg:Grd (n:Int) es){a b:List Int}(ha:a ∈ pms n)(hb:b ∈ pms n):tsP es a b=true↔b ∈ nxt es false a:=by
  obtain ⟨_,_,_,h4,h5⟩:=tk_ok hn ha
  unfold tsP
  rw [Bool.and_eq_true,decide_eq_true_eq,nxt_false,List.mem_map]
  constructor
  . rintro ⟨h1,h2⟩
    obtain ⟨q1,q2,q3⟩:=h4 b hb (by unfold ts2;exact decide_eq_true h1)
    rcases (nearB_iff es _ _).1 h2 with e | e
    . exact ⟨_,e,q1.symm⟩
    . have:=grd_mem hg e
      simp only at this
      omega
  . rintro ⟨e,he,rfl⟩
    obtain ⟨q1,q2,q3⟩:=grd_mem hg he
    obtain ⟨e1,e2⟩:=e
    simp only at q1 q2 q3
    have:=h5 e1.toNat e2.toNat (by omega) (by omega)
    simp only
    rw [this]
    refine ⟨rfl,?_⟩
    rw [nearB_iff]
    left
    have f1:((e1.toNat:Nat):Int)=e1:=by omega
    have f2:((e2.toNat:Nat):Int)=e2:=by omega
    simp only [List.getD_cons_zero,List.getD_cons_succ,f1,f2]
    exact he
theorem tk_adj {n:Nat}(hn:n<=5){es:List (Int × Int)}(hg:Grd (n:Int) es){u v:Nat}(hu:u<(pms n).length)(hv:v<(pms n).length) :
    (v:Int) ∈ (rdS (pms n).length (steps (tsP es) (pms n))).getD u []↔(pms n).getD v [] ∈ nxt es false ((pms n).getD u []):=by
  have mu:(pms n).getD u [] ∈ pms n:=by simp [hu]
  have mv:(pms n).getD v [] ∈ pms n:=by simp [hv]
  have bu:=(tk_ok hn mu).1
  have bv:=(tk_ok hn mv).1
  rw [rdS_at _ _ hu,steps_nb _ _ hu hv,ts_nxt hn hg mv mu,ts_nxt hn hg mu mv]
  constructor
  . rintro (⟨_,h⟩ | ⟨_,h⟩)
    . exact nxt_back hg false bv h
    . exact h
  . intro h
    rcases Nat.lt_trichotomy u v with g | g | g
    . exact .inr ⟨g,h⟩
    . subst g
      have:=(ts_nxt hn hg mu mu).2 h
      unfold tsP at this
      rw [(tk_ok hn mu).2.1] at this
      simp at this
    . exact .inl ⟨g,nxt_back hg false bu h⟩
theorem tk_bfs {n:Nat}(hn:n<=5){es:List (Int × Int)}(hg:Grd (n:Int) es){i:Nat}(hi:i<(pms n).length){j:Nat}(hj:j<(pms n).length) :
    (bfs (rdS (pms n).length (steps (tsP es) (pms n))) i).getD j 0=(bdD (bdR es false ((pms n).getD i [])) ((pms n).getD j [])).getD (-1):=by
  have hok:=rdS_ok (steps_ok (tsP es) (pms n))
  have hlen:=rdS_len (pms n).length (steps (tsP es) (pms n))
  have adj:=fun {u v:Nat} (hu:u<(pms n).length) (hv:v<(pms n).length)=>tk_adj hn hg hu hv
  have bd:∀ {u:Nat},u<(pms n).length->Bd n ((pms n).getD u []):=fun hu=>(tk_ok hn (by simp [hu])).1
  have bi:=bd hi
  have hi':i<(rdS (pms n).length (steps (tsP es) (pms n))).length:=by rw [hlen];exact hi
  generalize hL:rdS (pms n).length (steps (tsP es) (pms n))=L at *
  have A:∀ (k:Nat) (p b:List Int),Wlk es false k p b->p=(pms n).getD i []->∀ v,v<(pms n).length->(pms n).getD v []=b->0<=(bfs L i).getD v 0/\(bfs L i).getD v 0<=k:=by
    intro k p b hw
    have srt:=(pms_ok hn).1
    induction hw with
    | nil b =>
      intro hp v hv hb
      have e:v=i:=by
        rw [hp] at hb
        rcases Nat.lt_trichotomy v i with g | g | g
        . have:=srt v i g hi;rw [hb,cmpL_self] at this;omega
        . exact g
        . have:=srt i v g hv;rw [hb,cmpL_self] at this;omega
      subst e
      rw [bfs_zero hok hi']
      omega
    | cons h hd ih =>
      rename_i k b c d
      intro hp v hv hb
      have hc:Bd n c:=by
        rw [hp] at h
        exact h.bd hg bi
      have hcm:c ∈ pms n:=by
        have:=pms_mem hc.1
        rw [hc.2] at this
        exact this
      obtain ⟨u,hu,e⟩:=List.mem_iff_getElem.1 hcm
      have e':(pms n).getD u []=c:=by simp [hu,e]
      obtain ⟨i1,i2⟩:=ih hp u hu e'
      have hy:(v:Int) ∈ L.getD u []:=(adj hu hv).2 (by rw [e',hb];exact hd)
      have:=bfs_edge hok hi' (u:=u) (by rw [hlen];exact hu) i1 hy
      rw [Int.toNat_natCast] at this
      omega
  obtain ⟨q,hDI⟩:=bfs_DI hok hi'
  have B:∀ (d v:Nat),v<(pms n).length->(bfs L i).getD v 0=d->Wlk es false d ((pms n).getD i []) ((pms n).getD v []):=by
    intro d
    induction d with
    | zero =>
      intro v hv hd
      rcases hDI.src v (by rw [hlen];exact hv) (show 0<=(bfs L i).getD v 0 by omega) with ⟨e,_⟩ | ⟨u,u1,u2,u3,u4⟩
      . subst e;exact .nil _
      . have u2':0<=(bfs L i).getD u 0:=u2
        have u4':(bfs L i).getD v 0=(bfs L i).getD u 0+1:=u4
        omega
    | succ d ih =>
      intro v hv hd
      rcases hDI.src v (by rw [hlen];exact hv) (show 0<=(bfs L i).getD v 0 by omega) with ⟨e,e0⟩ | ⟨u,u1,u2,u3,u4⟩
      . have e0':(bfs L i).getD v 0=0:=e0
        omega
      . have u4':(bfs L i).getD v 0=(bfs L i).getD u 0+1:=u4
        rw [hlen] at u1
        exact .cons (ih u u1 (by omega)) ((adj u1 hv).1 u3)
  have rng:=(bfs_rng L hok i hi').2 j (by rw [hlen];exact hj)
  cases hD:bdD (bdR es false ((pms n).getD i [])) ((pms n).getD j []) with
  | none =>
    show (bfs L i).getD j 0 = -1
    rcases (show (bfs L i).getD j 0<0∨0<=(bfs L i).getD j 0 by omega) with g | g
    . omega
    . have hw:=B ((bfs L i).getD j 0).toNat j hj (by omega)
      obtain ⟨x,h1,_⟩:=wlk_dist (by omega) hg bi hw
      rw [hD] at h1
      cases h1
  | some d =>
    show (bfs L i).getD j 0=d
    have hd0:0<=d:=by
      have hI:=bdR_I (show n<=6 by omega) hg false bi
      exact (hI.rng _ (bdD_mem hD)).1
    have hw:=dist_wlk (show n<=6 by omega) hg bi d.toNat ((pms n).getD j []) (by rw [Int.toNat_of_nonneg hd0];exact hD)
    have hw2:=hw.back hg (bd hj)
    obtain ⟨a1,a2⟩:=A _ _ _ hw2 rfl j hj rfl
    have hw3:=B ((bfs L i).getD j 0).toNat j hj (by omega)
    obtain ⟨x,h1,h2,h3⟩:=wlk_dist (by omega) hg bi hw3
    rw [hD] at h1
    cases h1
    omega
theorem tk_deg {n:Nat}(hn:n<=5)(es:List (Int × Int))(x:Int):(nbS (steps (tsP es) (pms n)) x).length<=12:=by
  by_cases hx:0<=x/\x<(pms n).length
  rotate_left
  . have:nbS (steps (tsP es) (pms n)) x=[]:=by
      rw [List.eq_nil_iff_forall_not_mem]
      intro y hy
      have hok:=steps_ok (tsP es) (pms n)
      rcases (nbS_mem _ x y).1 hy with q | q
      . have:=hok.rng _ q;simp only at this;omega
      . have:=hok.rng _ q;simp only at this;omega
    rw [this]
    simp
  obtain ⟨k,rfl⟩:∃ k:Nat,x=k:=⟨x.toNat,by omega⟩
  have hk:k<(pms n).length:=by omega
  have hok:=steps_ok (tsP es) (pms n)
  have h12:=(tk_ok hn (a:=(pms n).getD k []) (by simp [hk])).2.2.1
  refine Nat.le_trans (nbS_cnt (tsP es) (pms n) k) (Nat.le_trans (List.countP_mono_left fun m _ h=>?_) h12)
  rw [Bool.or_eq_true] at h ⊢
  rcases h with h | h
  . left
    unfold tsP at h
    rw [Bool.and_eq_true] at h
    exact h.1
  . right
    unfold tsP at h
    rw [Bool.and_eq_true] at h
    exact h.1
def cd84:Cd:=(.seq (.reg [⟨⟨some 4,.assign (.const (.slice none 0 0)),none⟩,[]⟩]) (.seq (.reg [⟨⟨some 8,.buildSlice 27 0 #[],none⟩,[]⟩,⟨⟨some 5,.assign (.tmp 8),none⟩,[]⟩]) (.seq (.seq (.reg [⟨⟨some 9,.move (.tmp 0),none⟩,[]⟩,⟨⟨some 10,.call ⟨(.builtin .len),#[.tmp 9],#[27]⟩,none⟩,[]⟩,⟨⟨some 11,.move (.const (.int .i64 0)),none⟩,[]⟩]) (.block 0 (.loop (.seq (.reg [⟨⟨some 12,.binOp .lss 3 (.tmp 11) (.tmp 10) 3,none⟩,[]⟩]) (.seq (.cond (.tmp 12) .skip (.exit 0)) (.seq (.block 1 (.seq (.reg [⟨⟨some 13,.move (.tmp 11),none⟩,[]⟩,⟨⟨some 14,.indexAddr 27 (.tmp 9) (.tmp 11),none⟩,[]⟩,⟨⟨some 15,.load 3 (.tmp 14),none⟩,[]⟩,⟨⟨some 6,.assign (.tmp 13),none⟩,[]⟩,⟨⟨some 7,.assign (.tmp 15),none⟩,[]⟩]) (.seq (.reg [⟨⟨some 16,.move (.tmp 1),none⟩,[]⟩,⟨⟨some 17,.move (.tmp 6),none⟩,[]⟩,⟨⟨some 18,.indexAddr 27 (.tmp 16) (.tmp 17),none⟩,[]⟩,⟨⟨some 19,.load 3 (.tmp 18),none⟩,[]⟩,⟨⟨some 20,.move (.tmp 7),none⟩,[]⟩,
 ⟨⟨some 21,.binOp .neq 3 (.tmp 19) (.tmp 20) 3,none⟩,[]⟩]) (.cond (.tmp 21) (.reg [⟨⟨some 22,.move (.tmp 5),none⟩,[]⟩,
  ⟨⟨some 23,.move (.tmp 6),none⟩,[]⟩,
  ⟨⟨some 24,.buildSlice 27 1 #[(0,.tmp 23)],none⟩,[]⟩,
  ⟨⟨some 25,.call ⟨(.builtin .append),#[.tmp 22,.tmp 24],#[27,27]⟩,none⟩,[]⟩,
  ⟨⟨some 5,.assign (.tmp 25),none⟩,[]⟩]) .skip)))) (.reg [⟨⟨some 26,.binOp .add 3 (.tmp 11) (.const (.int .i64 1)) 3,none⟩,[]⟩,
  ⟨⟨some 11,.move (.tmp 26),none⟩,[]⟩]))))))) (.seq (.reg [⟨⟨some 27,.move (.tmp 5),none⟩,[]⟩,
  ⟨⟨some 4,.assign (.tmp 27),none⟩,[]⟩]) .ret))))
theorem in84:InT Tryz.prog 84 2 [.tmp 4] cd84:=InT.mk (by kernel_rfl) [] Tryz.func84 rfl (by kernel_rfl) (by kernel_rfl) (of_decide_eq_true (by kernel_rfl)) (by kernel_rfl)
def cd87:Cd:=(.seq (.reg [⟨⟨some 4,.assign (.const (.slice none 0 0)),none⟩,[]⟩]) (.seq (.reg [⟨⟨some 7,.buildSlice 27 0 #[],none⟩,[]⟩,⟨⟨some 5,.assign (.tmp 7),none⟩,[]⟩]) (.seq (.seq (.reg [⟨⟨some 6,.assign (.const (.int .i64 0)),none⟩,[]⟩]) (.block 0 (.loop (.seq (.seq (.reg [⟨⟨some 8,.move (.tmp 6),none⟩,[]⟩,⟨⟨some 9,.move (.tmp 0),none⟩,[]⟩,⟨⟨some 10,.call ⟨(.builtin .len),#[.tmp 9],#[27]⟩,none⟩,[]⟩,⟨⟨some 11,.binOp .lss 3 (.tmp 8) (.tmp 10) 3,none⟩,[]⟩]) (.cond (.tmp 11) .skip (.exit 0))) (.seq (.block 1 (.seq (.reg [⟨⟨some 14,.move (.tmp 0),none⟩,[]⟩,⟨⟨some 15,.move (.tmp 6),none⟩,[]⟩,⟨⟨some 16,.indexAddr 27 (.tmp 14) (.tmp 15),none⟩,[]⟩,⟨⟨some 17,.load 3 (.tmp 16),none⟩,[]⟩,⟨⟨some 18,.move (.tmp 1),none⟩,[]⟩,⟨⟨some 19,.move (.tmp 6),none⟩,[]⟩,⟨⟨some 20,.indexAddr 27 (.tmp 18) (.tmp 19),none⟩,[]⟩,⟨⟨some 21,.load 3 (.tmp 20),none⟩,[]⟩,
 ⟨⟨some 22,.binOp .neq 3 (.tmp 17) (.tmp 21) 3,none⟩,[]⟩]) (.cond (.tmp 22) (.reg [⟨⟨some 23,.move (.tmp 5),none⟩,[]⟩,
  ⟨⟨some 24,.move (.tmp 6),none⟩,[]⟩,
  ⟨⟨some 25,.buildSlice 27 1 #[(0,.tmp 24)],none⟩,[]⟩,
  ⟨⟨some 26,.call ⟨(.builtin .append),#[.tmp 23,.tmp 25],#[27,27]⟩,none⟩,[]⟩,
  ⟨⟨some 5,.assign (.tmp 26),none⟩,[]⟩]) .skip))) (.reg [⟨⟨some 12,.move (.tmp 6),none⟩,[]⟩,
  ⟨⟨some 13,.binOp .add 3 (.tmp 12) (.const (.int .i64 1)) 3,none⟩,[]⟩,
  ⟨⟨some 6,.assign (.tmp 13),none⟩,[]⟩])))))) (.seq (.reg [⟨⟨some 27,.move (.tmp 5),none⟩,[]⟩,
  ⟨⟨some 4,.assign (.tmp 27),none⟩,[]⟩]) .ret))))
theorem in87:InT Tryz.prog 87 2 [.tmp 4] cd87:=InT.mk (by kernel_rfl) [(5,[(0,false),(1,false),(2,false),(3,false),(4,false),(5,false),(6,false),(7,false),(8,false)])] Tryz.func87 rfl (by kernel_rfl) (by kernel_rfl) (of_decide_eq_true (by kernel_rfl)) (by kernel_rfl)
end Go.Proofs.YtjnefjchconebaaGreat.Ai
namespace Go.Proofs.YtjnefjchconebaaGreat.Ai
open Go Go.RowKit
theorem places_c (v w:Value)(xs ys:List Int)(H:AH)(hr:Row 3 H v xs)(hs:Row 3 H w ys)(hlen:xs.length<=1048576)(hl:ys.length=xs.length) :
    ACalls Tryz.prog 84 [v,w] H fun r H'=>Own 3 H H' r (dfL xs ys)/\H<+:H':=by
  refine in84 rfl ?_
  intro Q hQ
  simp (disch:=omega) only [cd84,SS,eq_self,reduceIte,reduceCtorEq,Nat.reduceEqDiff,Nat.reduceAdd]
  generalize hA:H ++ [AObj.cells [] 3 false]=A
  have pA:H<+:A:=by rw [<- hA];exact List.prefix_append _ _
  have cA:A[H.length]?=some (.cells (ints []) 3 false):=by rw [<- hA];exact at_new ..
  have own0:Own 3 H A (.slice (some ⟨H.length,0,none⟩) 0 0) (dfF xs ys 0):=.inr ⟨H.length,rfl,Nat.le_refl _,cA⟩
  simp (disch:=omega) only [(hr.pre pA).len Tryz.underlying27,SS,eq_self,reduceIte,reduceCtorEq,Nat.reduceEqDiff,Nat.reduceAdd]
  refine LoopH.by (fun m s H'=>∃ (i:Nat),m+i=xs.length/\s 0=v/\s 1=w/\s 9=v/\s 10=.int .i64 (xs.length:Int)/\s 11=.int .i64 ((i:Nat):Int)/\Own 3 H H' (s 5) (dfF xs ys i)/\H<+:H') xs.length ?_ ?_
  . refine ⟨0,?_⟩
    simp (disch:=omega) only [SS,eq_self,reduceIte,reduceCtorEq,Nat.reduceEqDiff,Nat.reduceAdd]
    (repeat' first | exact own0 | exact pA | apply And.intro) <;> first | (simp only [Value.int.injEq,true_and];omega) | omega | rfl | assumption | (simp;done) | (simp;omega)
  rintro m s H' ⟨i,hm,k0,k1,k9,k10,k11,ho,hp⟩
  generalize hU:s 5=U at *
  simp (disch:=omega) only [k0,k1,k9,k10,k11,hU,SS,eq_self,reduceIte,reduceCtorEq,Nat.reduceEqDiff,Nat.reduceAdd]
  refine brD.intro (fun q=>?_) (fun q=>?_)
  . have hi:i<xs.length:=by omega
    have hx:=(hr.pre hp).cell hi
    have hy:=(hs.pre hp).cell (show i<ys.length by omega)
    simp (disch:=omega) only [k0,k1,k9,k10,k11,hU,(hr.pre hp).ix Tryz.underlying27 cs3,(hs.pre hp).ix Tryz.underlying27 cs3,Int.toNat_natCast,hx,hy,SS,eq_self,reduceIte,reduceCtorEq,Nat.reduceEqDiff,Nat.reduceAdd]
    refine brD.intro (fun e=>?_) (fun e=>?_)
    . have hd:dfF xs ys (i+1)=dfF xs ys i ++ [(i:Int)]:=by rw [dfF,if_pos (by omega)]
      obtain ⟨U',H2,j1,j2,j3,j4,j5,j6⟩:=own1_27 ho hp (by have:=dfF_len xs ys i;omega) (i:Int)
      rw [<- hd] at j2
      simp (disch:=omega) only [e,k0,k1,k9,k10,k11,hU,j1,wrap64,SS,eq_self,reduceIte,reduceCtorEq,Nat.reduceEqDiff,Nat.reduceAdd]
      refine ⟨m - 1,by omega,i+1,?_⟩
      (repeat' first | exact j2 | exact j3 | apply And.intro) <;> first | (simp only [Value.int.injEq,true_and];omega) | omega | rfl | assumption | (simp;done) | (simp;omega)
    . have hd:dfF xs ys (i+1)=dfF xs ys i:=by rw [dfF,if_neg (by omega),List.append_nil]
      rw [<- hd] at ho
      simp (disch:=omega) only [e,k0,k1,k9,k10,k11,hU,wrap64,SS,eq_self,reduceIte,reduceCtorEq,Nat.reduceEqDiff,Nat.reduceAdd]
      refine ⟨m - 1,by omega,i+1,?_⟩
      (repeat' first | exact ho | exact hp | apply And.intro) <;> first | (simp only [Value.int.injEq,true_and];omega) | omega | rfl | assumption | (simp;done) | (simp;omega)
  . simp (disch:=omega) only [hU,SS,eq_self,reduceIte,reduceCtorEq,Nat.reduceEqDiff,Nat.reduceAdd]
    refine hQ _ _ _ ?_
    simp (disch:=omega) only [hU,ho.row.tup,SS,eq_self,reduceIte,reduceCtorEq,Nat.reduceEqDiff,Nat.reduceAdd]
    have hi:i=xs.length:=by omega
    subst hi
    exact ⟨ho,hp⟩
theorem l5Changed_c (v w:Value)(xs ys:List Int)(H:AH)(hr:Row 3 H v xs)(hs:Row 3 H w ys)(hlen:xs.length<=1048576)(hl:ys.length=xs.length) :
    ACalls Tryz.prog 87 [v,w] H fun r H'=>Own 3 H H' r (dfL xs ys)/\H<+:H':=by
  refine in87 rfl ?_
  intro Q hQ
  simp (disch:=omega) only [cd87,SS,eq_self,reduceIte,reduceCtorEq,Nat.reduceEqDiff,Nat.reduceAdd]
  generalize hA:H ++ [AObj.cells [] 3 false]=A
  have pA:H<+:A:=by rw [<- hA];exact List.prefix_append _ _
  have cA:A[H.length]?=some (.cells (ints []) 3 false):=by rw [<- hA];exact at_new ..
  have own0:Own 3 H A (.slice (some ⟨H.length,0,none⟩) 0 0) (dfF xs ys 0):=.inr ⟨H.length,rfl,Nat.le_refl _,cA⟩
  refine LoopH.by (fun m s H'=>∃ (i:Nat),m+i=xs.length/\s 0=v/\s 1=w/\s 6=.int .i64 ((i:Nat):Int)/\Own 3 H H' (s 5) (dfF xs ys i)/\H<+:H') xs.length ?_ ?_
  . refine ⟨0,?_⟩
    simp (disch:=omega) only [SS,eq_self,reduceIte,reduceCtorEq,Nat.reduceEqDiff,Nat.reduceAdd]
    (repeat' first | exact own0 | exact pA | apply And.intro) <;> first | (simp only [Value.int.injEq,true_and];omega) | omega | rfl | assumption | (simp;done) | (simp;omega)
  rintro m s H' ⟨i,hm,k0,k1,k6,ho,hp⟩
  generalize hU:s 5=U at *
  simp (disch:=omega) only [k0,k1,k6,hU,(hr.pre hp).len Tryz.underlying27,SS,eq_self,reduceIte,reduceCtorEq,Nat.reduceEqDiff,Nat.reduceAdd]
  refine brD.intro (fun q=>?_) (fun q=>?_)
  . have hi:i<xs.length:=by omega
    have hx:=(hr.pre hp).cell hi
    have hy:=(hs.pre hp).cell (show i<ys.length by omega)
    simp (disch:=omega) only [k0,k1,k6,hU,(hr.pre hp).ix Tryz.underlying27 cs3,(hs.pre hp).ix Tryz.underlying27 cs3,Int.toNat_natCast,hx,hy,SS,eq_self,reduceIte,reduceCtorEq,Nat.reduceEqDiff,Nat.reduceAdd]
    refine brD.intro (fun e=>?_) (fun e=>?_)
    . have hd:dfF xs ys (i+1)=dfF xs ys i ++ [(i:Int)]:=by rw [dfF,if_pos (by omega)]
      obtain ⟨U',H2,j1,j2,j3,j4,j5,j6⟩:=own1_27 ho hp (by have:=dfF_len xs ys i;omega) (i:Int)
      rw [<- hd] at j2
      simp (disch:=omega) only [e,k0,k1,k6,hU,j1,wrap64,SS,eq_self,reduceIte,reduceCtorEq,Nat.reduceEqDiff,Nat.reduceAdd]
      refine ⟨m - 1,by omega,i+1,?_⟩
      (repeat' first | exact j2 | exact j3 | apply And.intro) <;> first | (simp only [Value.int.injEq,true_and];omega) | omega | rfl | assumption | (simp;done) | (simp;omega)
    . have hd:dfF xs ys (i+1)=dfF xs ys i:=by rw [dfF,if_neg (by omega),List.append_nil]
      rw [<- hd] at ho
      simp (disch:=omega) only [e,k0,k1,k6,hU,wrap64,SS,eq_self,reduceIte,reduceCtorEq,Nat.reduceEqDiff,Nat.reduceAdd]
      refine ⟨m - 1,by omega,i+1,?_⟩
      (repeat' first | exact ho | exact hp | apply And.intro) <;> first | (simp only [Value.int.injEq,true_and];omega) | omega | rfl | assumption | (simp;done) | (simp;omega)
  . simp (disch:=omega) only [hU,SS,eq_self,reduceIte,reduceCtorEq,Nat.reduceEqDiff,Nat.reduceAdd]
    refine hQ _ _ _ ?_
    simp (disch:=omega) only [hU,ho.row.tup,SS,eq_self,reduceIte,reduceCtorEq,Nat.reduceEqDiff,Nat.reduceAdd]
    have hi:i=xs.length:=by omega
    subst hi
    exact ⟨ho,hp⟩
def cd80:Cd:=(.seq (.reg [⟨⟨some 1,.box 38 (.tmp 0),none⟩,[]⟩,⟨⟨some 2,.alloc 38,none⟩,[]⟩,⟨⟨some 3,.assign (.const (.bool false)),none⟩,[]⟩]) (.seq (.seq (.reg [⟨⟨some 4,.fieldAddr 38 (.tmp 1) 0,none⟩,[]⟩,⟨⟨some 5,.load 36 (.tmp 4),none⟩,[]⟩,⟨⟨some 6,.call ⟨(.builtin .len),#[.tmp 5],#[36]⟩,none⟩,[]⟩,⟨⟨some 7,.binOp .gtr 3 (.tmp 6) (.const (.int .i64 300)) 3,none⟩,[]⟩,⟨⟨some 8,.move (.tmp 7),none⟩,[]⟩,⟨⟨some 9,.fieldAddr 38 (.tmp 1) 1,some (8,false)⟩,[]⟩,⟨⟨some 10,.load 24 (.tmp 9),some (8,false)⟩,[]⟩,⟨⟨some 11,.call ⟨(.builtin .len),#[.tmp 10],#[24]⟩,some (8,false)⟩,[]⟩,⟨⟨some 12,.binOp .gtr 3 (.tmp 11) (.const (.int .i64 6000)) 3,some (8,false)⟩,[]⟩,⟨⟨some 13,.pick (.tmp 8) (.const (.bool true)) (.tmp 12),none⟩,[]⟩]) (.cond (.tmp 13) (.seq (.reg [⟨⟨some 14,.build 38 #[],none⟩,[]⟩,
 ⟨⟨none,.store 38 (.tmp 2) (.tmp 14),none⟩,[]⟩,
  ⟨⟨some 3,.assign (.const (.bool false)),none⟩,[]⟩]) .ret) .skip)) (.seq (.reg [⟨⟨some 15,.load 38 (.tmp 1),none⟩,[]⟩,
  ⟨⟨none,.store 38 (.tmp 2) (.tmp 15),none⟩,[]⟩,
  ⟨⟨some 3,.assign (.const (.bool true)),none⟩,[]⟩]) .ret)))
theorem in80:InT Tryz.prog 80 1 [.cell 2 38,.tmp 3] cd80:=InT.mk (by kernel_rfl) [] Tryz.func80 rfl (by kernel_rfl) (by kernel_rfl) (of_decide_eq_true (by kernel_rfl)) (by kernel_rfl)
end Go.Proofs.YtjnefjchconebaaGreat.Ai
namespace Go.Proofs.YtjnefjchconebaaGreat.Ai
open Go Go.RowKit
theorem orNone_c (a b:Value)(ls:List (List Int))(ps:List (Int × Int))(H:AH)(hr:SpRow H a b ls ps)(hl:ls.length<=300)(hp:ps.length<=6000) :
    ACalls Tryz.prog 80 [.agg (List.toArray [a,b])] H fun r H'=>r=.tuple (List.toArray [.agg (List.toArray [a,b]),.bool true])/\H<+:H':=by
  refine in80 rfl ?_
  intro Q hQ
  simp (disch:=omega) only [cd80,hr.box,SS,eq_self,reduceIte,reduceCtorEq,Nat.reduceEqDiff,Nat.reduceAdd]
  generalize hA0:H ++ [AObj.cells [a,b] 38 false]=A0
  have pA0:H<+:A0:=by rw [<- hA0];exact List.prefix_append _ _
  have cA0:A0[H.length]?=some (.cells [a,b] 38 false):=by rw [<- hA0];exact at_new ..
  simp (disch:=omega) only [alloc_sp,SS,eq_self,reduceIte,reduceCtorEq,Nat.reduceEqDiff,Nat.reduceAdd]
  generalize hA:A0 ++ [AObj.cells [.slice none 0 0,.slice none 0 0] 38 false]=A
  have pA:A0<+:A:=by rw [<- hA];exact List.prefix_append _ _
  have cA:A[A0.length]?=some (.cells [.slice none 0 0,.slice none 0 0] 38 false):=by rw [<- hA];exact at_new ..
  have cB:=pre_at pA cA0
  have rA:=hr.pre (pA0.trans pA)
  obtain ⟨bd,us,r1,r2,r3⟩:=rA.1
  have g1:¬ (300<(us.length:Int)):=by omega
  have g2:¬ (6000<(ps.length:Int)):=by omega
  have hst:=rA.store cA rfl
  simp (disch:=omega) only [cell_of cB,r1.len Tryz.underlying36,rA.2.len Tryz.underlying24,decide_eq_false g1,decide_eq_false g2,ld_agg ag38 cs38 cB,hst,SS,eq_self,reduceIte,reduceCtorEq,Nat.reduceEqDiff,Nat.reduceAdd]
  have d4:=at_set (d:=.cells [a,b] 38 false) cA
  refine hQ _ _ _ (end_cell2 _ _ _ _ _ _ _ (.agg (List.toArray [a,b])) (.bool true) ?_ rfl ?_ rfl ⟨rfl,?_⟩)
  . simp (disch:=omega) only [ld_agg ag38 cs38 d4,SS,eq_self,reduceIte,reduceCtorEq,Nat.reduceEqDiff,Nat.reduceAdd]
  . simp (disch:=omega) only [SS,eq_self,reduceIte,reduceCtorEq,Nat.reduceEqDiff,Nat.reduceAdd]
  . exact pre_set (pA0.trans pA) (by have:=pA0.length_le;omega) _
structure LSt (HB:AH) (fx:List (Nat × AObj)) (pe:Nat) (F:Nat->Prop) (H:AH) (ed:List Int):Prop where
  fix:∀ q ∈ fx,H[q.1]?=some q.2/\¬ F q.1/\q.1 ≠ pe
  e:∃ oe zs,H[pe]?=some (.cells [.slice (some ⟨oe,0,none⟩) ed.length ed.length] 27 false)/\H[oe]?=some (.cells (ints zs) 3 false)/\zs.take ed.length=ed/\¬ F oe/\oe ≠ pe/\(∀ q ∈ fx,q.1 ≠ oe)/\HB.length<=oe
  out:¬ F pe
  lo:HB.length<=pe
  pre:HB<+:H
section
variable {HB:AH} {fx:List (Nat × AObj)} {pe:Nat} {F F':Nat->Prop} {H H':AH} {ed:List Int}
theorem LSt.cb (h:LSt HB fx pe F H ed)(hlive:∀ o,F o->HB.length<=o)(hF:∀ o,F' o->F o∨H.length<=o)(hk:∀ o y,¬ F o->H[o]?=some y->H'[o]?=some y):LSt HB fx pe F' H' ed:=by
  obtain ⟨oe,zs,e1,e2,e3,e4,e5⟩:=h.e
  have no:∀ {o x},¬ F o->H[o]?=some x->¬ F' o:=fun ho hx hf=>by
    rcases hF _ hf with g | g
    . exact ho g
    . have:=at_lt hx;omega
  refine ⟨fun q hq=>?_,⟨oe,zs,hk _ _ h.out e1,hk _ _ e4 e2,e3,no e4 e2,e5⟩,no h.out e1,h.lo,?_⟩
  . obtain ⟨q1,q2,q3⟩:=h.fix q hq
    exact ⟨hk _ _ q2 q1,no q2 q1,q3⟩
  . exact prefix_of fun o x hx=>hk o x (fun hf=>by have:=hlive o hf;have:=at_lt hx;omega) (pre_at h.pre hx)
theorem LSt.row (h:LSt HB fx pe F H ed):∃ w,cellA H pe 0=some w/\Row 3 H w ed/\¬ F (rowO w)/\isTup w=false:=by
  obtain ⟨oe,zs,e1,e2,e3,e4,e5⟩:=h.e
  refine ⟨_,cell_of e1 0,?_,e4,rfl⟩
  have hzl:ed.length<=zs.length:=by
    have:=congrArg List.length e3
    rw [List.length_take] at this;omega
  refine .inr ⟨oe,0,ints zs,false,rfl,e2,by rw [ints_len];omega,?_⟩
  rw [List.drop_zero]
  have:(ints zs).take ed.length=ints (zs.take ed.length):=by simp [ints,List.map_take]
  rw [this,e3]
theorem LSt.push (h:LSt HB fx pe F H ed)(hlive:∀ o,F o->o<H.length)(hb:ed.length<=1048576)(x:Int) :
    ∃ w H2 H3,cellA H pe 0=some (.slice (some w) ed.length ed.length)/\appendA Tryz.prog 27 27 (.slice (some w) ed.length ed.length) (.slice (some ⟨H.length,0,none⟩) 1 1) (H ++ [.cells [.int .i64 x] 3 false])=some (.slice (some ⟨H.length+1,0,none⟩) (ed.length+1) (ed.length+1),H2) /\
      storeA Tryz.prog 27 (.pointer (some ⟨pe,0,none⟩)) (.slice (some ⟨H.length+1,0,none⟩) (ed.length+1) (ed.length+1)) H2=some H3/\LSt HB fx pe F H3 (ed ++ [x])/\(∀ o y,F o->H[o]?=some y->H3[o]?=some y)/\H.length<=H3.length /\
      ∀ o y,o ≠ pe->(∀ w',cellA H pe 0=some w'->o ≠ rowO w')->H[o]?=some y->H3[o]?=some y:=by
  obtain ⟨oe,zs,e1,e2,e3,e4,e8,e5,e9⟩:=h.e
  have hzl:ed.length<=zs.length:=by
    have:=congrArg List.length e3
    rw [List.length_take] at this;omega
  have k1:=app_q (P:=Tryz.prog) (t:=27) (k:=0) (n:=ed.length) (c:=ed.length) (x:=x) Tryz.underlying27 cs3 (by rw [by3];decide) zk3 e2 (by omega) (by omega)
  rw [List.drop_zero,e3] at k1
  have at_:∀ {o y},o ≠ oe->H[o]?=some y->(H.set oe .dead ++ [AObj.cells [.int .i64 x] 3 false,.cells (ints (ed ++ [x])) 3 false])[o]?=some y:=by
    intro o y ho hy
    rw [List.getElem?_append_left (by simpa using at_lt hy),List.getElem?_set_ne (fun e=>ho e.symm)]
    exact hy
  have a1:=at_ (fun e=>e8 e.symm) e1
  have hst:=st_at (P:=Tryz.prog) (t:=27) (i:=0) (y:=.slice (some ⟨H.length+1,0,none⟩) (ed.length+1) (ed.length+1)) cs27 a1 (by show 0<1;decide) rfl rfl
  have l1:=at_lt e1
  have l2:=at_lt e2
  have aw:∀ {o y},o ≠ oe->o ≠ pe->H[o]?=some y->((H.set oe .dead ++ [AObj.cells [.int .i64 x] 3 false,.cells (ints (ed ++ [x])) 3 false]).set pe (.cells ([Value.slice (some ⟨oe,0,none⟩) ed.length ed.length].set 0 (.slice (some ⟨H.length+1,0,none⟩) (ed.length+1) (ed.length+1))) 27 false))[o]?=some y:=by
    intro o y ho1 ho2 hy
    rw [List.getElem?_set_ne (fun e=>ho2 e.symm)]
    exact at_ ho1 hy
  have lo:=h.lo
  refine ⟨_,_,_,cell_of e1 0,k1,hst,⟨fun q hq=>?_,⟨H.length+1,ed ++ [x],?_,?_,?_,?_,by omega,fun q hq=>?_,by have:=h.pre.length_le;omega⟩,h.out,h.lo,?_⟩,?_,by simp,?_⟩
  . obtain ⟨q1,q2,q3⟩:=h.fix q hq
    exact ⟨aw (e5 q hq) q3 q1,q2,q3⟩
  . rw [List.getElem?_set_self (by simp;omega)]
    simp
  . rw [List.getElem?_set_ne (by omega),List.getElem?_append_right (by simp)]
    simp
  . rw [List.take_of_length_le (Nat.le_refl _)]
  . intro hf;have:=hlive _ hf;omega
  . have:=at_lt (h.fix q hq).1;omega
  . exact prefix_of fun o y hy=>aw (by have:=at_lt hy;omega) (by have:=at_lt hy;omega) (pre_at h.pre hy)
  . intro o y hf hy
    exact aw (fun e=>e4 (e ▸ hf)) (fun e=>h.out (e ▸ hf)) hy
  . intro o y ho1 ho2 hy
    exact aw (ho2 _ (cell_of e1 0)) ho1 hy
theorem LSt.pop {x:Int}(h:LSt HB fx pe F H (ed ++ [x])) :
    ∃ w c,cellA H pe 0=some (.slice (some w) (ed.length+1) c)/\sliceA Tryz.prog 27 (.slice (some w) (ed.length+1) c) none (some (.int .i64 (ed.length:Int))) none H=some (.slice (some w) ed.length ed.length) /\
      ∃ H3,storeA Tryz.prog 27 (.pointer (some ⟨pe,0,none⟩)) (.slice (some w) ed.length ed.length) H=some H3/\LSt HB fx pe F H3 ed/\(∀ o y,F o->H[o]?=some y->H3[o]?=some y)/\H3.length=H.length:=by
  obtain ⟨oe,zs,e1,e2,e3,e4,e8,e5,e9⟩:=h.e
  have hl:(ed ++ [x]).length=ed.length+1:=by simp
  rw [hl] at e1 e3
  have hz:zs.take ed.length=ed:=by
    have:=congrArg (List.take ed.length) e3
    rw [List.take_take,Nat.min_eq_left (by omega)] at this
    simpa using this
  have hsl:=sl_own (P:=Tryz.prog) (t:=27) (k:=0) (n:=ed.length+1) (c:=ed.length+1) Tryz.underlying27 cs3 e2 lo_none (bound_some (k:=.i64) (i:=(ed.length:Int)) (by omega) (ed.length+1)) (Nat.zero_le _) (by omega)
  simp only [Int.toNat_natCast,Nat.add_zero,Nat.sub_zero] at hsl
  have hst:=st_at (P:=Tryz.prog) (t:=27) (i:=0) (y:=.slice (some ⟨oe,0,none⟩) ed.length ed.length) cs27 e1 (by show 0<1;decide) rfl rfl
  have aw:∀ {o y},o ≠ pe->H[o]?=some y->(H.set pe (.cells ([Value.slice (some ⟨oe,0,none⟩) (ed.length+1) (ed.length+1)].set 0 (.slice (some ⟨oe,0,none⟩) ed.length ed.length)) 27 false))[o]?=some y:=by
    intro o y ho hy
    rw [List.getElem?_set_ne (fun e=>ho e.symm)];exact hy
  have lo:=h.lo
  refine ⟨_,_,cell_of e1 0,hsl,_,hst,⟨fun q hq=>?_,⟨oe,zs,?_,aw e8 e2,hz,e4,e8,e5,e9⟩,h.out,h.lo,?_⟩,fun o y hf hy=>aw (fun e=>h.out (e ▸ hf)) hy,by simp⟩
  . obtain ⟨q1,q2,q3⟩:=h.fix q hq
    exact ⟨aw q3 q1,q2,q3⟩
  . rw [List.getElem?_set_self (at_lt e1)];rfl
  . exact prefix_of fun o y hy=>aw (by have:=at_lt hy;omega) (pre_at h.pre hy)
end
def Obs (o:Nat)(us:List Value)(ls:List (List Int))(j:Nat):Prop:=j=o∨∃ i,i<ls.length/\us.getD i undef ≠ .slice none 0 0/\j=rowO (us.getD i undef)
theorem InU.refit2 {lo hi:Nat}{e2 e:TypeId}{H H':AH}{o:Nat}{us:List Value}{ls:List (List Int)}(h:InU lo hi e2 e H o us ls)(hk:∀ j y,Obs o us ls j->H[j]?=some y->H'[j]?=some y):InU lo H'.length e2 e H' o us ls:=by
  obtain ⟨h1,h2,h3,h4,h5,h6⟩:=h
  have k3:=hk _ _ (.inl rfl) h3
  refine ⟨h1,at_lt k3,k3,h4,fun i hi=>⟨?_,(h5 i hi).2⟩,h6⟩
  rcases (h5 i hi).1 with g | ⟨oo,zs,g1,g2,g3,g4,g5⟩
  . exact .inl g
  . have:=hk oo _ (.inr ⟨i,hi,(by rw [g1];intro e;cases e),(by rw [g1];rfl)⟩) g4
    exact .inr ⟨oo,zs,g1,g2,at_lt this,this,g5⟩
theorem InU.obs {lo hi:Nat}{e2 e:TypeId}{H:AH}{o:Nat}{us:List Value}{ls:List (List Int)}(h:InU lo hi e2 e H o us ls){j:Nat}(hj:Obs o us ls j):lo<=j/\j<hi:=by
  obtain ⟨h1,h2,h3,h4,h5,h6⟩:=h
  rcases hj with rfl | ⟨i,hi,hn,rfl⟩
  . exact ⟨h1,h2⟩
  . rcases (h5 i hi).1.at_ with g | g
    . exact absurd g hn
    . exact g
theorem getD_snoc {us:List Value}{n i:Nat}{c:Value}(hn:n<=us.length):(us.take n ++ [c]).getD i undef=if i<n then us.getD i undef else if i=n then c else undef:=by
  rw [List.getD_eq_getElem?_getD,List.getElem?_append]
  have hl:(us.take n).length=n:=by simp;omega
  rw [hl]
  split
  . rw [List.getElem?_take,if_pos (by assumption),List.getD_eq_getElem?_getD]
  . split
    . rename_i h;subst h;simp
    . rw [List.getElem?_eq_none (by simp;omega)];rfl
def IOut (HB:AH)(po:Nat)(out:List (List Int))(F:Nat->Prop)(H:AH):Prop :=
  ∃ o us,H[po]?=some (.cells [.slice (some ⟨o,0,none⟩) out.length out.length] 36 false)/\InU HB.length H.length 27 3 H o us out/\HB.length<=po/\¬ Obs o us out po/\F=fun j=>j=po∨Obs o us out j
theorem IOut.live {HB H:AH}{po:Nat}{out:List (List Int)}{F:Nat->Prop}(h:IOut HB po out F H){o:Nat}(ho:F o):o<H.length/\HB.length<=o:=by
  obtain ⟨oo,us,h1,h2,h3,h4,rfl⟩:=h
  have ho':o=po∨Obs oo us out o:=ho
  rcases ho' with rfl | hj
  . exact ⟨at_lt h1,h3⟩
  . have:=h2.obs hj
    exact ⟨this.2,this.1⟩
theorem IOut.keep {HB H H':AH}{po:Nat}{out:List (List Int)}{F:Nat->Prop}(h:IOut HB po out F H)(hk:∀ o y,F o->H[o]?=some y->H'[o]?=some y):IOut HB po out F H':=by
  obtain ⟨oo,us,h1,h2,h3,h4,rfl⟩:=h
  exact ⟨oo,us,hk _ _ (.inl rfl) h1,h2.refit2 fun j y hj hy=>hk _ _ (.inr hj) hy,h3,h4,rfl⟩
theorem IOut.push {HB H C:AH}{po:Nat}{out:List (List Int)}{F:Nat->Prop}(h:IOut HB po out F H)(hp:HB<+:H){c:Value}{xs:List Int}(pC:H<+:C)(hc:Own 3 H C c xs)(hb:out.length<=1000000000) :
    ∃ w H3 H4,cellA H po 0=some (.slice (some w) out.length out.length)/\cellA C po 0=some (.slice (some w) out.length out.length)/\buildSliceA Tryz.prog 36 1 [(0,c)] C=some (.slice (some ⟨C.length,0,none⟩) 1 1,C ++ [.cells [c] 27 false]) /\
      appendA Tryz.prog 36 36 (.slice (some w) out.length out.length) (.slice (some ⟨C.length,0,none⟩) 1 1) (C ++ [.cells [c] 27 false])=some (.slice (some ⟨C.length+1,0,none⟩) (out.length+1) (out.length+1),H3) /\
      storeA Tryz.prog 36 (.pointer (some ⟨po,0,none⟩)) (.slice (some ⟨C.length+1,0,none⟩) (out.length+1) (out.length+1)) H3=some H4 /\
      ∃ F',IOut HB po (out ++ [xs]) F' H4/\(∀ o,F' o->F o∨H.length<=o)/\∀ o y,¬ F o->H[o]?=some y->H4[o]?=some y:=by
  obtain ⟨o,us,h2,h3,h4,h7,rfl⟩:=h
  have c2:=pre_at pC h2
  have hinw:=InI.of hc.mine
  obtain ⟨H3,k1,k2,k3,k4⟩:=(h3.pre pC).app1 (P:=Tryz.prog) (t2:=36) Tryz.underlying36 cs27 (by rw [by27];decide) zk27 hinw hp.length_le pC.length_le (Nat.le_refl _) (by omega)
  have hbs:buildSliceA Tryz.prog 36 1 [(0,c)] C=some (.slice (some ⟨C.length,0,none⟩) 1 1,C ++ [.cells [c] 27 false]):=by
    obtain ⟨q,eq⟩:=hc.row.shape
    rw [eq]
    exact bs1 Tryz.underlying36 cs27 ze27 ⟨by kernel_rfl,by kernel_rfl⟩ C rfl
  have lC:=pC.length_le
  have l2:=at_lt h2
  have d2:=k4 po _ (fun e=>h7 (.inl e)) c2
  have hst:=st_at (P:=Tryz.prog) (t:=36) (i:=0) (y:=.slice (some ⟨C.length+1,0,none⟩) (out.length+1) (out.length+1)) cs36 d2 (by show 0<1;decide) rfl rfl
  have e2:(H3.set po (.cells ([Value.slice (some ⟨o,0,none⟩) out.length out.length].set 0 (.slice (some ⟨C.length+1,0,none⟩) (out.length+1) (out.length+1))) 36 false))[po]?=some (.cells [.slice (some ⟨C.length+1,0,none⟩) (out.length+1) (out.length+1)] 36 false):=by
    rw [List.getElem?_set_self (by omega)];rfl
  have hal:(out ++ [xs]).length=out.length+1:=by simp
  have hcO:c=.slice none 0 0∨H.length<=rowO c:=by
    rcases hc with ⟨q,_⟩ | ⟨oc,q,hoc,_⟩
    . exact .inl q
    . exact .inr (by rw [q];exact hoc)
  have hul:=h3.2.2.2.1
  have aw2:Away po (C.length+1) (us.take out.length ++ [c]) (out ++ [xs]):=by
    refine ⟨by omega,fun i hi=>?_⟩
    rw [hal] at hi
    rw [getD_snoc hul]
    split
    . rename_i hi2
      by_cases hn:us.getD i undef=.slice none 0 0
      . exact .inl hn
      . exact .inr fun e=>h7 (.inr ⟨i,hi2,hn,e.symm⟩)
    . rw [if_pos (by omega)]
      exact hcO.imp id fun q=>by omega
  have k2':=(k2.wide (Nat.le_refl _) (Nat.le_of_eq k3.symm):InU HB.length H3.length 27 3 H3 _ _ _)
  refine ⟨_,H3,_,cell_of h2 0,cell_of c2 0,hbs,k1,hst,fun j=>j=po∨Obs (C.length+1) (us.take out.length ++ [c]) (out ++ [xs]) j,⟨C.length+1,us.take out.length ++ [c],by rw [hal];exact e2,?_,h4,?_,rfl⟩,?_,?_⟩
  . have:=k2'.moveq aw2 (H':=H3.set po (.cells ([Value.slice (some ⟨o,0,none⟩) out.length out.length].set 0 (.slice (some ⟨C.length+1,0,none⟩) (out.length+1) (out.length+1))) 36 false)) (fun j y hj hy=>by rw [List.getElem?_set_ne (fun e=>hj e.symm)];exact hy)
    simpa using this
  . rintro (e | ⟨i,hi,hn,e⟩)
    . omega
    . rcases aw2.2 i hi with q | q
      . exact hn q
      . exact q e.symm
  . rintro j (e | e | ⟨i,hi,hn,e⟩)
    . exact .inl (.inl e)
    . exact .inr (by omega)
    . rw [getD_snoc hul] at hn e
      rw [hal] at hi
      by_cases hi2:i<out.length
      . rw [if_pos hi2] at hn e
        exact .inl (.inr (.inr ⟨i,hi2,hn,e⟩))
      . rw [if_neg hi2,if_pos (by omega)] at hn e
        rcases hcO with q | q
        . exact absurd q hn
        . exact .inr (by omega)
  . intro j y hj hy
    rw [List.getElem?_set_ne (fun e=>hj (.inl e.symm))]
    exact k4 j y (fun e=>hj (.inr (.inl e))) (pre_at pC hy)
def cd86:Cd:=(.seq (.reg [⟨⟨some 6,.assign (.const (.slice none 0 0)),none⟩,[]⟩]) (.seq (.seq (.reg [⟨⟨some 8,.move (.tmp 1),none⟩,[]⟩,⟨⟨some 9,.call ⟨(.builtin .len),#[.tmp 8],#[27]⟩,none⟩,[]⟩,⟨⟨some 10,.move (.tmp 0),none⟩,[]⟩,⟨⟨some 11,.binOp .eql 3 (.tmp 9) (.tmp 10) 3,none⟩,[]⟩]) (.cond (.tmp 11) (.seq (.reg [⟨⟨some 12,.move (.tmp 2),none⟩,[]⟩,⟨⟨some 13,.move (.tmp 1),none⟩,[]⟩,⟨⟨some 14,.call ⟨(.value (.func 151)),#[.tmp 13],#[27]⟩,none⟩,[]⟩,⟨⟨some 15,.buildSlice 36 1 #[(0,.tmp 14)],none⟩,[]⟩,⟨⟨some 16,.call ⟨(.builtin .append),#[.tmp 12,.tmp 15],#[36,36]⟩,none⟩,[]⟩,⟨⟨some 6,.assign (.tmp 16),none⟩,[]⟩]) .ret) .skip)) (.seq (.seq (.reg [⟨⟨some 7,.assign (.const (.int .i64 0)),none⟩,[]⟩]) (.block 0 (.loop (.seq (.seq (.reg [⟨⟨some 17,.move (.tmp 7),none⟩,[]⟩,⟨⟨some 18,.move (.tmp 0),none⟩,[]⟩,⟨⟨some 19,.binOp .lss 3 (.tmp 17) (.tmp 18) 3,none⟩,[]⟩]) (.cond (.tmp 19) .skip (.exit 0))) (.seq (.block 1 (.seq (.reg [⟨⟨some 22,.move (.tmp 1),none⟩,[]⟩,⟨⟨some 23,.move (.tmp 7),none⟩,[]⟩,
 ⟨⟨some 24,.call ⟨(.value (.func 110)),#[.tmp 22,.tmp 23],#[27,3]⟩,none⟩,[]⟩,⟨⟨some 25,.unOp .not 4 (.tmp 24),none⟩,[]⟩]) (.cond (.tmp 25) (.reg [⟨⟨some 26,.move (.tmp 0),none⟩,[]⟩,⟨⟨some 27,.move (.tmp 1),none⟩,[]⟩,⟨⟨some 28,.call ⟨(.value (.func 151)),#[.tmp 27],#[27]⟩,none⟩,[]⟩,⟨⟨some 29,.move (.tmp 7),none⟩,[]⟩,⟨⟨some 30,.buildSlice 27 1 #[(0,.tmp 29)],none⟩,[]⟩,⟨⟨some 31,.call ⟨(.builtin .append),#[.tmp 28,.tmp 30],#[27,27]⟩,none⟩,[]⟩,⟨⟨some 32,.move (.tmp 2),none⟩,[]⟩,⟨⟨some 33,.call ⟨(.value (.func 86)),#[.tmp 26,.tmp 31,.tmp 32],#[3,27,36]⟩,none⟩,[]⟩,⟨⟨some 2,.assign (.tmp 33),none⟩,[]⟩]) .skip))) (.reg [⟨⟨some 20,.move (.tmp 7),none⟩,[]⟩,⟨⟨some 21,.binOp .add 3 (.tmp 20) (.const (.int .i64 1)) 3,none⟩,[]⟩,⟨⟨some 7,.assign (.tmp 21),none⟩,[]⟩])))))) (.seq (.reg [⟨⟨some 34,.move (.tmp 2),none⟩,[]⟩,
 ⟨⟨some 6,.assign (.tmp 34),none⟩,[]⟩]) .ret))))
theorem in86:InT Tryz.prog 86 3 [.tmp 6] cd86:=InT.mk (by kernel_rfl) [] Tryz.func86 rfl (by kernel_rfl) (by kernel_rfl) (of_decide_eq_true (by kernel_rfl)) (by kernel_rfl)
end Go.Proofs.YtjnefjchconebaaGreat.Ai
namespace Go.Proofs.YtjnefjchconebaaGreat.Ai
open Go Go.RowKit
theorem bsRow9 {H0:AH}{v:Value}{xs:List Int}(h:Row 3 H0 v xs)(K:AH):buildSliceA Tryz.prog 36 1 [(0,v)] K=some (.slice (some ⟨K.length,0,none⟩) 1 1,K ++ [.cells [v] 27 false]):=by
  obtain ⟨q,eq⟩:=h.shape
  rw [eq]
  exact bs1 Tryz.underlying36 cs27 ze27 ⟨by kernel_rfl,by kernel_rfl⟩ K rfl
theorem l9All_c (n:Nat)(hn:n<=8)(lo:Nat):∀ (f:Nat) (w:Value) (b:List Int) (o:Nat) (us:List Value) (ls:List (List Int)) (H:AH),b.length+f=n->Row 3 H w b ->
    Apart w (.slice (some ⟨o,0,none⟩) 0 0)->InU lo H.length 27 3 H o us ls->ls.length+n ^ f<=1000000000 ->
    ACalls Tryz.prog 86 [.int .i64 (n:Int),w,.slice (some ⟨o,0,none⟩) ls.length ls.length] H fun r H'=>∃ o' us',r=.slice (some ⟨o',0,none⟩) (ls ++ pmG n f b).length (ls ++ pmG n f b).length/\InU lo H'.length 27 3 H' o' us' (ls ++ pmG n f b) /\
      (∀ (j:Nat) (y:AObj),j ≠ o->H[j]?=some y->H'[j]?=some y)/\H.length<=H'.length/\(o'=o∨H.length<=o'):=by
  intro f
  induction f with
  | zero =>
    intro w b o us ls H hb hw haw hin hls
    rw [Nat.pow_zero] at hls
    refine in86 rfl ?_
    intro Q hQ
    simp (disch:=omega) only [cd86,hw.len Tryz.underlying27,SS,eq_self,reduceIte,reduceCtorEq,Nat.reduceEqDiff,Nat.reduceAdd]
    refine brD.intro (fun g=>?_) (fun g=>absurd (show (b.length:Int)=n by omega) g)
    simp (disch:=omega) only [g,SS,eq_self,reduceIte,reduceCtorEq,Nat.reduceEqDiff,Nat.reduceAdd]
    refine CallH.by (l1Own_c w b H hw (by omega)) ?_
    rintro c C ⟨hc,pC⟩
    have hinw:=InI.of hc.mine
    have hinC:=hin.pre pC
    have hlo:=hin.1
    have hlo2:=hin.2.1
    obtain ⟨H3,k1,k2,k3,k4⟩:=hinC.app1 (P:=Tryz.prog) (t2:=36) Tryz.underlying36 cs27 (by rw [by27];decide) zk27 hinw (by omega) pC.length_le (Nat.le_refl _) (by omega)
    simp (disch:=omega) only [bsRow9 hc.row C,k1,SS,eq_self,reduceIte,reduceCtorEq,Nat.reduceEqDiff,Nat.reduceAdd]
    refine hQ _ _ _ ?_
    simp (disch:=omega) only [SS,eq_self,reduceIte,reduceCtorEq,Nat.reduceEqDiff,Nat.reduceAdd]
    have e:pmG n 0 b=[b]:=rfl
    have hl2:=pC.length_le
    rw [e]
    refine ⟨C.length+1,us.take ls.length ++ [c],by simp,by rw [k3];exact k2,fun j y hj hy=>k4 j y hj (pre_at pC hy),by omega,by omega⟩
  | succ f ih =>
    intro w b o us ls H hb hw haw hin hls
    refine in86 rfl ?_
    intro Q hQ
    simp (disch:=omega) only [cd86,hw.len Tryz.underlying27,SS,eq_self,reduceIte,reduceCtorEq,Nat.reduceEqDiff,Nat.reduceAdd]
    refine brD.intro (fun g=>absurd g (by omega)) (fun g=>?_)
    simp (disch:=omega) only [g,SS,eq_self,reduceIte,reduceCtorEq,Nat.reduceEqDiff,Nat.reduceAdd]
    have eM:pmG n (f+1) b=pmT (pmG n f) b n 0:=rfl
    rw [eM] at hQ
    rw [Nat.pow_succ,Nat.mul_comm] at hls
    have hlo:=hin.1
    have hlo2:=hin.2.1
    refine LoopH.by (fun m s H'=>∃ (c o':Nat) (us':List Value) (ls':List (List Int)),m+c=n/\s 0=.int .i64 (n:Int)/\s 1=w/\s 2=.slice (some ⟨o',0,none⟩) ls'.length ls'.length/\s 7=.int .i64 ((c:Nat):Int) /\
      ls' ++ pmT (pmG n f) b m c=ls ++ pmT (pmG n f) b n 0/\ls'.length+m * n ^ f<=1000000000/\InU lo H'.length 27 3 H' o' us' ls'/\(o'=o∨H.length<=o')/\(∀ (j:Nat) (y:AObj),j ≠ o->H[j]?=some y->H'[j]?=some y)/\H.length<=H'.length) n ?_ ?_
    . exact ⟨0,o,us,ls,rfl,rfl,rfl,rfl,rfl,rfl,hls,hin,.inl rfl,fun j y _ hy=>hy,Nat.le_refl _⟩
    rintro m s H' ⟨c,o',us',ls',hm,h0,h1,h2,h7,hT,hl',hin',ho',hk,hAl⟩
    have hkA:Kept (.slice (some ⟨o,0,none⟩) 0 0) H H':=fun j y hj hy=>by
      rcases hj with hj | hj
      . cases hj
      . exact hk j y hj hy
    have hw':Row 3 H' w b:=hw.kept haw hkA
    simp (disch:=omega) only [h0,h1,h2,h7,SS,eq_self,reduceIte,reduceCtorEq,Nat.reduceEqDiff,Nat.reduceAdd]
    refine brD.intro (fun g1=>?_) (fun g1=>?_)
    rotate_left
    . simp (disch:=omega) only [g1,h2,SS,eq_self,reduceIte,reduceCtorEq,Nat.reduceEqDiff,Nat.reduceAdd]
      refine hQ _ _ _ ?_
      simp (disch:=omega) only [h2,SS,eq_self,reduceIte,reduceCtorEq,Nat.reduceEqDiff,Nat.reduceAdd]
      have hm0:m=0:=by omega
      subst hm0
      have e0:ls'=ls ++ pmT (pmG n f) b n 0:=by rw [<- hT];simp [pmT]
      rw [<- e0]
      exact ⟨o',us',rfl,hin',hk,hAl,ho'⟩
    obtain ⟨d,rfl⟩:∃ d,m=d+1:=⟨m - 1,by omega⟩
    have hstep:pmT (pmG n f) b (d+1) c=(if (c:Int) ∈ b then [] else pmG n f (b ++ [(c:Int)])) ++ pmT (pmG n f) b d (c+1):=rfl
    have hP:(d+1) * n ^ f=d * n ^ f+n ^ f:=Nat.succ_mul _ _
    simp (disch:=omega) only [g1,h0,h1,h2,h7,SS,eq_self,reduceIte,reduceCtorEq,Nat.reduceEqDiff,Nat.reduceAdd]
    refine CallH.by (l1Has_c w b (c:Int) H' hw' (by omega)) ?_
    rintro _ _ ⟨rfl,rfl⟩
    by_cases q:(c:Int) ∈ b
    . rw [if_pos q,List.nil_append] at hstep
      rw [hstep] at hT
      have f2:ls'.length+d * n ^ f<=1000000000:=by omega
      simp (disch:=omega) only [decide_eq_true q,h0,h1,h2,h7,wrap64,SS,eq_self,reduceIte,reduceCtorEq,Nat.reduceEqDiff,Nat.reduceAdd]
      refine ⟨d,by omega,c+1,o',us',ls',?_⟩
      (repeat' first | exact hT | exact f2 | exact hin' | exact ho' | exact hk | exact hAl | apply And.intro) <;> first | (simp only [Value.int.injEq,true_and];omega) | omega | rfl | assumption | (simp;done) | (simp;omega)
    . rw [if_neg q] at hstep
      rw [hstep] at hT
      simp (disch:=omega) only [decide_eq_false q,h0,h1,h2,h7,SS,eq_self,reduceIte,reduceCtorEq,Nat.reduceEqDiff,Nat.reduceAdd]
      refine CallH.by (l1Own_c w b H' hw' (by omega)) ?_
      rintro w1 C ⟨hc,pC⟩
      obtain ⟨v',H2,j1,j2,j3,j4,j5,j6⟩:=own1_27 hc pC (by omega) (c:Int)
      have lH2:=j3.length_le
      have hinH:=(hin'.pre j3).wide (Nat.le_refl _) lH2
      have ho1:=hin'.2.1
      have hap1:Apart v' (.slice (some ⟨o',0,none⟩) 0 0):=by
        rcases InI.of j2.mine with q1 | ⟨oo,zs,q1,q2,_⟩
        . exact .inr (.inl q1.1)
        . refine .inr (.inr ?_)
          rw [q1]
          show oo ≠ o'
          omega
      have hrec:=ih v' (b ++ [(c:Int)]) o' us' ls' H2 (by simp;omega) j2.row hap1 hinH (by omega)
      simp (disch:=omega) only [h0,h1,h2,h7,j1,SS,eq_self,reduceIte,reduceCtorEq,Nat.reduceEqDiff,Nat.reduceAdd]
      refine CallH.by hrec ?_
      rintro _ H3 ⟨o2,us2,rfl,i1,i2,i3,i4⟩
      have hml:=pmG_len n f (b ++ [(c:Int)])
      have f1:o2=o∨H.length<=o2:=by omega
      have f2:∀ (j:Nat) (y:AObj),j ≠ o->H[j]?=some y->H3[j]?=some y:=fun j y hj hy=>by
        refine i2 j y ?_ (pre_at j3 (hk j y hj hy))
        rcases ho' with q1 | q1
        . rw [q1];exact hj
        . have:=at_lt hy;omega
      have f3:(ls' ++ pmG n f (b ++ [(c:Int)])).length+d * n ^ f<=1000000000:=by rw [List.length_append];omega
      have f4:(ls' ++ pmG n f (b ++ [(c:Int)])) ++ pmT (pmG n f) b d (c+1)=ls ++ pmT (pmG n f) b n 0:=by rw [<- hT,List.append_assoc]
      have f5:H.length<=H3.length:=by omega
      simp (disch:=omega) only [h0,h1,h2,h7,wrap64,SS,eq_self,reduceIte,reduceCtorEq,Nat.reduceEqDiff,Nat.reduceAdd]
      refine ⟨d,by omega,c+1,o2,us2,ls' ++ pmG n f (b ++ [(c:Int)]),?_⟩
      (repeat' first | exact f4 | exact f3 | exact i1 | exact f1 | exact f2 | exact f5 | apply And.intro) <;> first | (simp only [Value.int.injEq,true_and];omega) | omega | rfl | assumption | (simp;done) | (simp;omega)
def cd167:Cd:=(.seq (.seq (.reg [⟨⟨some 5,.load 27 (.tmp 0),none⟩,[]⟩,⟨⟨some 6,.call ⟨(.builtin .len),#[.tmp 5],#[27]⟩,none⟩,[]⟩,⟨⟨some 7,.load 3 (.tmp 1),none⟩,[]⟩,⟨⟨some 8,.binOp .eql 3 (.tmp 6) (.tmp 7) 3,none⟩,[]⟩]) (.cond (.tmp 8) (.seq (.reg [⟨⟨some 9,.load 36 (.tmp 2),none⟩,[]⟩,⟨⟨some 10,.load 27 (.tmp 0),none⟩,[]⟩,⟨⟨some 11,.call ⟨(.value (.func 93)),#[.tmp 10],#[27]⟩,none⟩,[⟨some 9,.load 36 (.tmp 2),none⟩]⟩,⟨⟨some 12,.buildSlice 36 1 #[(0,.tmp 11)],none⟩,[]⟩,⟨⟨some 13,.call ⟨(.builtin .append),#[.tmp 9,.tmp 12],#[36,36]⟩,none⟩,[]⟩,⟨⟨none,.store 36 (.tmp 2) (.tmp 13),none⟩,[]⟩]) .ret) .skip)) (.seq (.reg [⟨⟨some 14,.load 3 (.tmp 1),none⟩,[]⟩,⟨⟨some 15,.move (.const (.int .i64 0)),none⟩,[]⟩]) (.block 0 (.loop (.seq (.reg [⟨⟨some 16,.binOp .lss 3 (.tmp 15) (.tmp 14) 3,none⟩,[]⟩]) (.seq (.cond (.tmp 16) .skip (.exit 0)) (.seq (.block 1 (.seq (.reg [⟨⟨some 17,.move (.tmp 15),none⟩,[]⟩,⟨⟨some 4,.assign (.tmp 17),none⟩,[]⟩]) (.seq (.reg [⟨⟨some 18,.load 27 (.tmp 0),none⟩,[]⟩,⟨⟨some 19,.move (.tmp 4),none⟩,[]⟩,
 ⟨⟨some 20,.call ⟨(.value (.func 168)),#[.tmp 18,.tmp 19],#[27,3]⟩,none⟩,[]⟩,⟨⟨some 21,.unOp .not 4 (.tmp 20),none⟩,[]⟩]) (.cond (.tmp 21) (.seq (.reg [⟨⟨some 22,.load 27 (.tmp 0),none⟩,[]⟩,⟨⟨some 23,.move (.tmp 4),none⟩,[]⟩,⟨⟨some 24,.buildSlice 27 1 #[(0,.tmp 23)],none⟩,[]⟩,⟨⟨some 25,.call ⟨(.builtin .append),#[.tmp 22,.tmp 24],#[27,27]⟩,none⟩,[]⟩,⟨⟨none,.store 27 (.tmp 0) (.tmp 25),none⟩,[]⟩]) (.seq (.reg [⟨⟨some 26,.load 1 (.tmp 3),none⟩,[]⟩,⟨⟨some 27,.call ⟨(.value (.tmp 26)),#[],#[]⟩,none⟩,[]⟩]) (.reg [⟨⟨some 28,.load 27 (.tmp 0),none⟩,[]⟩,⟨⟨some 29,.load 27 (.tmp 0),none⟩,[]⟩,⟨⟨some 30,.call ⟨(.builtin .len),#[.tmp 29],#[27]⟩,none⟩,[]⟩,⟨⟨some 31,.binOp .sub 3 (.tmp 30) (.const (.int .i64 1)) 3,none⟩,[]⟩,⟨⟨some 32,.slice 27 (.tmp 28) none (some (.tmp 31)) none,none⟩,[]⟩,⟨⟨none,.store 27 (.tmp 0) (.tmp 32),none⟩,[]⟩]))) .skip)))) (.reg [⟨⟨some 33,.binOp .add 3 (.tmp 15) (.const (.int .i64 1)) 3,none⟩,[]⟩,
 ⟨⟨some 15,.move (.tmp 33),none⟩,[]⟩]))))))))
theorem in167:InT Tryz.prog 167 4 [] cd167:=InT.mk (by kernel_rfl) [(1,[(0,false),(1,false),(2,true),(3,false),(4,true),(5,true)])] Tryz.func167 rfl (by kernel_rfl) (by kernel_rfl) (of_decide_eq_true (by kernel_rfl)) (by kernel_rfl)
def cd82:Cd:=(.seq (.reg [⟨⟨some 1,.box 3 (.tmp 0),none⟩,[]⟩,
  ⟨⟨some 2,.assign (.const (.slice none 0 0)),none⟩,[]⟩]) (.seq (.reg [⟨⟨some 6,.buildSlice 36 0 #[],none⟩,[]⟩,
  ⟨⟨some 7,.buildSlice 27 0 #[],none⟩,[]⟩,
  ⟨⟨some 3,.alloc 36,none⟩,[]⟩,
  ⟨⟨some 4,.alloc 27,none⟩,[]⟩,
  ⟨⟨none,.store 36 (.tmp 3) (.tmp 6),none⟩,[]⟩,
  ⟨⟨none,.store 27 (.tmp 4) (.tmp 7),none⟩,[]⟩]) (.seq (.reg [⟨⟨some 5,.alloc 1,none⟩,[]⟩]) (.seq (.reg [⟨⟨some 8,.makeFunc (Fn.func 167) #[] #[.tmp 4,.tmp 1,.tmp 3,.tmp 5],none⟩,[]⟩,
  ⟨⟨none,.store 1 (.tmp 5) (.tmp 8),none⟩,[]⟩]) (.seq (.reg [⟨⟨some 9,.load 1 (.tmp 5),none⟩,[]⟩,
  ⟨⟨some 10,.call ⟨(.value (.tmp 9)),#[],#[]⟩,none⟩,[]⟩]) (.seq (.reg [⟨⟨some 11,.load 36 (.tmp 3),none⟩,[]⟩,
  ⟨⟨some 2,.assign (.tmp 11),none⟩,[]⟩]) .ret))))))
theorem in82:InT Tryz.prog 82 1 [.tmp 2] cd82:=InT.mk (by kernel_rfl) [] Tryz.func82 rfl (by kernel_rfl) (by kernel_rfl) (of_decide_eq_true (by kernel_rfl)) (by kernel_rfl)
end Go.Proofs.YtjnefjchconebaaGreat.Ai
namespace Go.Proofs.YtjnefjchconebaaGreat.Ai
open Go Go.RowKit
theorem agP:isAggA Tryz.prog 1=some false:=by kernel_rfl
theorem csP:Tryz.prog.cellsOf 1=1:=by kernel_rfl
theorem alloc_slP (H:AH):allocA Tryz.prog 27 H=some (.pointer (some ⟨H.length,0,none⟩),H ++ [.cells [.slice none 0 0] 27 false]):=by kernel_rfl
theorem alloc_llP (H:AH):allocA Tryz.prog 36 H=some (.pointer (some ⟨H.length,0,none⟩),H ++ [.cells [.slice none 0 0] 36 false]):=by kernel_rfl
theorem alloc_fP (H:AH):allocA Tryz.prog 1 H=some (.pointer (some ⟨H.length,0,none⟩),H ++ [.cells [.nilFunc] 1 false]):=by kernel_rfl
theorem box_iP (H:AH)(k:Int):boxA Tryz.prog 3 (.int .i64 k) H=some (.pointer (some ⟨H.length,0,none⟩),H ++ [.cells [.int .i64 k] 3 false]):=by kernel_rfl
theorem mkf_4P (f:Fn)(p q r t:Option Addr):makeFuncA f [] [.pointer p,.pointer q,.pointer r,.pointer t]=some (.func f #[] (List.toArray [.pointer p,.pointer q,.pointer r,.pointer t])):=rfl
abbrev permFx (n:Nat)(pn pf pl po:Nat):List (Nat × AObj) :=
  [(pn,.cells [.int .i64 (n:Int)] 3 false),
   (pf,.cells [.func (.func 167) #[] (List.toArray [.pointer (some ⟨pl,0,none⟩),.pointer (some ⟨pn,0,none⟩),.pointer (some ⟨po,0,none⟩),.pointer (some ⟨pf,0,none⟩)])] 1 false)]
theorem perm_c {HB:AH}(n:Nat)(hn8:n<=8)(pn pf pl po:Nat) :
    ∀ (f:Nat) (ed:List Int) (out:List (List Int)) (F:Nat->Prop) (H:AH),ed.length+f=n->out.length+n ^ f<=1000000000->IOut HB po out F H->LSt HB (permFx n pn pf pl po) pl F H ed ->
      ACalls Tryz.prog 167 [.pointer (some ⟨pl,0,none⟩),.pointer (some ⟨pn,0,none⟩),.pointer (some ⟨po,0,none⟩),.pointer (some ⟨pf,0,none⟩)] H fun r H' =>
        ∃ F',IOut HB po (out ++ pmG n f ed) F' H'/\LSt HB (permFx n pn pf pl po) pl F' H' ed:=by
  intro f
  have fn:∀ {F H ed},LSt HB (permFx n pn pf pl po) pl F H ed->cellA H pn 0=some (.int .i64 (n:Int)):=fun h=>cell_of (h.fix (pn,_) (.head _)).1 0
  induction f with
  | zero =>
    intro ed out F H hb hout hO hL
    rw [Nat.pow_zero] at hout
    refine in167 rfl ?_
    intro Q hQ
    obtain ⟨w,hw1,hw2,hw3,hw4⟩:=hL.row
    simp (disch:=omega) only [cd167,hw1,hw2.len Tryz.underlying27,fn hL,SS,eq_self,reduceIte,reduceCtorEq,Nat.reduceEqDiff,Nat.reduceAdd]
    refine brD.intro (fun g=>?_) (fun g=>absurd (show (ed.length:Int)=n by omega) g)
    have hO1:=hO
    obtain ⟨o,us,hpo,_⟩:=hO1
    simp (disch:=omega) only [g,cell_of hpo,hw1,SS,eq_self,reduceIte,reduceCtorEq,Nat.reduceEqDiff,Nat.reduceAdd]
    refine CallH.by (Clone_c w ed H hw2 (by omega)) ?_
    rintro c C ⟨hc,pC⟩
    obtain ⟨w2,H3,H4,p0,p1,p2,p3,p4,F',hO4,hF4,hk4⟩:=hO.push hL.pre pC hc (by omega)
    have hww:=p0.symm.trans (cell_of hpo 0)
    simp only [List.getElem?_cons_zero,Option.some.injEq,Value.slice.injEq] at hww
    obtain ⟨hww,_,_⟩:=hww
    subst hww
    simp (disch:=omega) only [p1,p2,p3,p4,SS,eq_self,reduceIte,reduceCtorEq,Nat.reduceEqDiff,Nat.reduceAdd]
    refine hQ _ _ _ ?_
    simp (disch:=omega) only [SS,eq_self,reduceIte,reduceCtorEq,Nat.reduceEqDiff,Nat.reduceAdd]
    exact ⟨F',hO4,hL.cb (fun o ho=>(hO.live ho).2) hF4 hk4⟩
  | succ f ih =>
    intro ed out F H hb hout hO hL
    refine in167 rfl ?_
    intro Q hQ
    obtain ⟨w,hw1,hw2,hw3,hw4⟩:=hL.row
    simp (disch:=omega) only [cd167,hw1,hw2.len Tryz.underlying27,fn hL,SS,eq_self,reduceIte,reduceCtorEq,Nat.reduceEqDiff,Nat.reduceAdd]
    refine brD.intro (fun g=>absurd g (by omega)) (fun g=>?_)
    simp (disch:=omega) only [g,fn hL,SS,eq_self,reduceIte,reduceCtorEq,Nat.reduceEqDiff,Nat.reduceAdd]
    have eM:pmG n (f+1) ed=pmT (pmG n f) ed n 0:=rfl
    rw [eM] at hQ
    rw [Nat.pow_succ,Nat.mul_comm] at hout
    refine LoopH.by (fun m s H'=>∃ (c:Nat) (out':List (List Int)) (F':Nat->Prop),m+c=n/\s 0=.pointer (some ⟨pl,0,none⟩)/\s 1=.pointer (some ⟨pn,0,none⟩)/\s 2=.pointer (some ⟨po,0,none⟩)/\s 3=.pointer (some ⟨pf,0,none⟩)/\s 14=.int .i64 (n:Int)/\s 15=.int .i64 ((c:Nat):Int)/\out'.length+m * n ^ f<=1000000000/\out' ++ pmT (pmG n f) ed m c=out ++ pmT (pmG n f) ed n 0/\IOut HB po out' F' H'/\LSt HB (permFx n pn pf pl po) pl F' H' ed) n ?_ ?_
    . exact ⟨0,out,F,by simp,rfl,rfl,rfl,rfl,rfl,rfl,hout,rfl,hO,hL⟩
    rintro m s H' ⟨c,out',F',hm,h0,h1,h2,h3,h14,h15,hcnt,hout',hO',hL'⟩
    simp (disch:=omega) only [h0,h1,h2,h3,h14,h15,SS,eq_self,reduceIte,reduceCtorEq,Nat.reduceEqDiff,Nat.reduceAdd]
    refine brD.intro (fun g2=>?_) (fun g2=>?_)
    rotate_left
    . have hm0:m=0:=by omega
      subst hm0
      simp (disch:=omega) only [SS,eq_self,reduceIte,reduceCtorEq,Nat.reduceEqDiff,Nat.reduceAdd]
      refine hQ _ _ _ ?_
      simp (disch:=omega) only [SS,eq_self,reduceIte,reduceCtorEq,Nat.reduceEqDiff,Nat.reduceAdd]
      rw [<- hout']
      simp only [pmT,List.append_nil]
      exact ⟨F',hO',hL'⟩
    obtain ⟨i,rfl⟩:∃ i,m=i+1:=⟨m - 1,by omega⟩
    have hstep:pmT (pmG n f) ed (i+1) c=(if (c:Int) ∈ ed then [] else pmG n f (ed ++ [(c:Int)])) ++ pmT (pmG n f) ed i (c+1):=rfl
    have hP:(i+1) * n ^ f=i * n ^ f+n ^ f:=Nat.succ_mul _ _
    obtain ⟨w',hw1',hw2',hw3',hw4'⟩:=hL'.row
    simp (disch:=omega) only [g2,h0,h1,h2,h3,h14,h15,hw1',SS,eq_self,reduceIte,reduceCtorEq,Nat.reduceEqDiff,Nat.reduceAdd]
    refine CallH.by (Contains_c w' ed (c:Int) H' hw2' (by omega)) ?_
    rintro _ _ ⟨rfl,rfl⟩
    by_cases q:(c:Int) ∈ ed
    . rw [if_pos q,List.nil_append] at hstep
      rw [hstep] at hout'
      have f2:out'.length+i * n ^ f<=1000000000:=by omega
      simp (disch:=omega) only [decide_eq_true q,h0,h1,h2,h3,h14,h15,wrap64,SS,eq_self,reduceIte,reduceCtorEq,Nat.reduceEqDiff,Nat.reduceAdd]
      refine ⟨i,by omega,c+1,out',F',?_⟩
      (repeat' first | exact f2 | exact hout' | exact hO' | exact hL' | apply And.intro) <;> first | (simp only [Value.int.injEq,true_and];omega) | omega | rfl | assumption | (simp;done) | (simp;omega)
    . rw [if_neg q] at hstep
      obtain ⟨w3,H2,H3,p1,p2,p3,hL3,hk3,hl3,_⟩:=hL'.push (fun o ho=>(hO'.live ho).1) (by omega) (c:Int)
      have hO3:=hO'.keep hk3
      have hff:H3[pf]?=some (.cells [.func (.func 167) #[] (List.toArray [.pointer (some ⟨pl,0,none⟩),.pointer (some ⟨pn,0,none⟩),.pointer (some ⟨po,0,none⟩),.pointer (some ⟨pf,0,none⟩)])] 1 false):=(hL3.fix (pf,_) (.tail _ (.head _))).1
      simp (disch:=omega) only [decide_eq_false q,h0,h1,h2,h3,h14,h15,p1,p2,p3,ld_one agP,cell_of hff,SS,eq_self,reduceIte,reduceCtorEq,Nat.reduceEqDiff,Nat.reduceAdd]
      refine CallH.by (ih (ed ++ [(c:Int)]) out' F' H3 (by simp;omega) (by omega) hO3 hL3) ?_
      rintro _ H4 ⟨F4,hO4,hL4⟩
      obtain ⟨w4,c4,r1,r2,H5,r3,hL5,hk5,hl5⟩:=hL4.pop
      have hO5:=hO4.keep hk5
      have htl:=pmG_len n f (ed ++ [(c:Int)])
      have f2:(out' ++ pmG n f (ed ++ [(c:Int)])).length+i * n ^ f<=1000000000:=by rw [List.length_append];omega
      have f3:(out' ++ pmG n f (ed ++ [(c:Int)])) ++ pmT (pmG n f) ed i (c+1)=out ++ pmT (pmG n f) ed n 0:=by rw [<- hout',hstep,List.append_assoc]
      have hcl:((ed.length+1:Nat):Int) - 1=(ed.length:Int):=by omega
      simp (disch:=omega) only [h0,h1,h2,h3,h14,h15,r1,hcl,r2,r3,wrap64,SS,eq_self,reduceIte,reduceCtorEq,Nat.reduceEqDiff,Nat.reduceAdd]
      refine ⟨i,by omega,c+1,out' ++ pmG n f (ed ++ [(c:Int)]),F4,?_⟩
      (repeat' first | exact f2 | exact f3 | exact hO5 | exact hL5 | apply And.intro) <;> first | (simp only [Value.int.injEq,true_and];omega) | omega | rfl | assumption | (simp;done) | (simp;omega)
theorem permutations_c (n:Nat)(H:AH)(hn:n<=8) :
    ACalls Tryz.prog 82 [.int .i64 (n:Int)] H fun r H'=>InL H.length H'.length 27 3 H' r (pms n)/\H<+:H':=by
  refine in82 rfl ?_
  intro Q hQ
  simp (disch:=omega) only [cd82,box_iP,SS,eq_self,reduceIte,reduceCtorEq,Nat.reduceEqDiff,Nat.reduceAdd]
  generalize hA:H ++ [AObj.cells [.int .i64 (n:Int)] 3 false]=A
  have pA:H<+:A:=by rw [<- hA];exact List.prefix_append _ _
  have cA:A[H.length]?=some (.cells [.int .i64 (n:Int)] 3 false):=by rw [<- hA];exact at_new ..
  generalize hB:A ++ [AObj.cells [] 27 false]=B
  have pB:A<+:B:=by rw [<- hB];exact List.prefix_append _ _
  have cB:B[A.length]?=some (.cells [] 27 false):=by rw [<- hB];exact at_new ..
  generalize hD:B ++ [AObj.cells [] 3 false]=D
  have pD:B<+:D:=by rw [<- hD];exact List.prefix_append _ _
  have cD:D[B.length]?=some (.cells (ints []) 3 false):=by rw [<- hD];exact at_new ..
  simp (disch:=omega) only [alloc_llP,alloc_slP,SS,eq_self,reduceIte,reduceCtorEq,Nat.reduceEqDiff,Nat.reduceAdd]
  generalize hE1:D ++ [AObj.cells [.slice none 0 0] 36 false]=E1
  have pE1:D<+:E1:=by rw [<- hE1];exact List.prefix_append _ _
  have cE1:E1[D.length]?=some (.cells [.slice none 0 0] 36 false):=by rw [<- hE1];exact at_new ..
  generalize hE2:E1 ++ [AObj.cells [.slice none 0 0] 27 false]=E2
  have pE2:E1<+:E2:=by rw [<- hE2];exact List.prefix_append _ _
  have cE2:E2[E1.length]?=some (.cells [.slice none 0 0] 27 false):=by rw [<- hE2];exact at_new ..
  have lA:A.length=H.length+1:=by rw [<- hA];simp
  have lB:B.length=A.length+1:=by rw [<- hB];simp
  have lD:D.length=B.length+1:=by rw [<- hD];simp
  have lE1:E1.length=D.length+1:=by rw [<- hE1];simp
  have lE2:E2.length=E1.length+1:=by rw [<- hE2];simp
  have s1:=st_at (P:=Tryz.prog) (t:=36) (i:=0) (y:=.slice (some ⟨A.length,0,none⟩) 0 0) cs36 (pre_at pE2 cE1) (by show 0<1;decide) rfl rfl
  rw [List.set_cons_zero] at s1
  generalize hE4:E2.set D.length (.cells [.slice (some ⟨A.length,0,none⟩) 0 0] 36 false)=E4 at *
  have at4:∀ {o y},o ≠ D.length->E2[o]?=some y->E4[o]?=some y:=fun ho hy=>by rw [<- hE4,List.getElem?_set_ne (fun e=>ho e.symm)];exact hy
  have l4:E4.length=E2.length:=by rw [<- hE4];simp
  have c4:E4[D.length]?=some (.cells [.slice (some ⟨A.length,0,none⟩) 0 0] 36 false):=by rw [<- hE4,List.getElem?_set_self (by omega)]
  have s2:=st_at (P:=Tryz.prog) (t:=27) (i:=0) (y:=.slice (some ⟨B.length,0,none⟩) 0 0) cs27 (at4 (by omega) cE2) (by show 0<1;decide) rfl rfl
  rw [List.set_cons_zero] at s2
  generalize hE6:E4.set E1.length (.cells [.slice (some ⟨B.length,0,none⟩) 0 0] 27 false)=E6 at *
  have at6:∀ {o y},o ≠ E1.length->E4[o]?=some y->E6[o]?=some y:=fun ho hy=>by rw [<- hE6,List.getElem?_set_ne (fun e=>ho e.symm)];exact hy
  have l6:E6.length=E4.length:=by rw [<- hE6];simp
  have c6:E6[E1.length]?=some (.cells [.slice (some ⟨B.length,0,none⟩) 0 0] 27 false):=by rw [<- hE6,List.getElem?_set_self (by omega)]
  have old:∀ {o y},o<D.length->D[o]?=some y->E6[o]?=some y:=fun ho hy=>at6 (by omega) (at4 (by omega) (pre_at (pE1.trans pE2) hy))
  have st7:=st_at (P:=Tryz.prog) (t:=1) (i:=0) (y:=.func (.func 167) #[] (List.toArray [.pointer (some ⟨E1.length,0,none⟩),.pointer (some ⟨H.length,0,none⟩),.pointer (some ⟨D.length,0,none⟩),.pointer (some ⟨E6.length,0,none⟩)])) csP (at_new E6 (.cells [.nilFunc] 1 false)) (by show 0<1;decide) rfl rfl
  rw [set_new,List.set_cons_zero] at st7
  simp (disch:=omega) only [s1,s2,alloc_fP,mkf_4P,st7,ld_one agP,cell_new,SS,eq_self,reduceIte,reduceCtorEq,Nat.reduceEqDiff,Nat.reduceAdd]
  generalize hG:E6 ++ [AObj.cells [.func (.func 167) #[] (List.toArray [.pointer (some ⟨E1.length,0,none⟩),.pointer (some ⟨H.length,0,none⟩),.pointer (some ⟨D.length,0,none⟩),.pointer (some ⟨E6.length,0,none⟩)])] 1 false]=G
  have pG:E6<+:G:=by rw [<- hG];exact List.prefix_append _ _
  have cG:G[E6.length]?=some (.cells [.func (.func 167) #[] (List.toArray [.pointer (some ⟨E1.length,0,none⟩),.pointer (some ⟨H.length,0,none⟩),.pointer (some ⟨D.length,0,none⟩),.pointer (some ⟨E6.length,0,none⟩)])] 1 false):=by rw [<- hG];exact at_new ..
  have lG:G.length=E6.length+1:=by rw [<- hG];simp
  have oldG:∀ {o y},o<D.length->D[o]?=some y->G[o]?=some y:=fun ho hy=>pre_at pG (old ho hy)
  have pHD:=pA.trans (pB.trans pD)
  have pHG:H<+:G:=prefix_of fun o y hy=>oldG (by have:=at_lt hy;omega) (pre_at pHD hy)
  have gA:=oldG (by omega) (pre_at (pB.trans pD) cA)
  have gB:=oldG (by omega) (pre_at pD cB)
  have gD:=oldG (by omega) cD
  have g4:=pre_at pG (at6 (by omega) c4)
  have g6:=pre_at pG c6
  have nob:∀ j,j ≠ A.length->¬ Obs A.length [] [] j:=by
    rintro j hj (e | ⟨i,hi,_⟩)
    . exact hj e
    . simp at hi
  have hO:IOut H D.length [] (fun j=>j=D.length∨Obs A.length [] [] j) G :=
    ⟨A.length,[],g4,⟨by omega,by omega,gB,Nat.le_refl _,fun i hi=>absurd hi (by simp),fun i j _ hi _=>absurd hi (by simp)⟩,by omega,nob _ (by omega),rfl⟩
  have nF:∀ {j},j ≠ D.length->j ≠ A.length->¬ ((fun j=>j=D.length∨Obs A.length [] [] j) j):=fun h1 h2 h=>h.elim h1 (nob _ h2)
  have hL:LSt H (permFx n H.length E6.length E1.length D.length) E1.length (fun j=>j=D.length∨Obs A.length [] [] j) G []:=by
    refine ⟨?_,⟨B.length,[],g6,gD,rfl,nF (by omega) (by omega),by omega,?_,by omega⟩,nF (by omega) (by omega),by omega,pHG⟩
    . intro q hq
      simp only [List.mem_cons,List.not_mem_nil,or_false] at hq
      rcases hq with rfl | rfl
      . exact ⟨gA,nF (by show H.length ≠ _;omega) (by show H.length ≠ _;omega),by show H.length ≠ _;omega⟩
      . exact ⟨cG,nF (by show E6.length ≠ _;omega) (by show E6.length ≠ _;omega),by show E6.length ≠ _;omega⟩
    . intro q hq
      simp only [List.mem_cons,List.not_mem_nil,or_false] at hq
      rcases hq with rfl | rfl
      . show H.length ≠ _;omega
      . show E6.length ≠ _;omega
  have hpw:n ^ n<=8 ^ 8:=Nat.le_trans (Nat.pow_le_pow_left hn n) (Nat.pow_le_pow_right (by decide) hn)
  refine CallH.by (perm_c n hn H.length E6.length E1.length D.length n [] [] _ G (by simp) (by simp;omega) hO hL) ?_
  rintro _ H' ⟨F',hO',hL'⟩
  obtain ⟨o,us,h1,h2,_⟩:=hO'
  simp (disch:=omega) only [cell_of h1,SS,eq_self,reduceIte,reduceCtorEq,Nat.reduceEqDiff,Nat.reduceAdd]
  refine hQ _ _ _ ?_
  simp (disch:=omega) only [SS,eq_self,reduceIte,reduceCtorEq,Nat.reduceEqDiff,Nat.reduceAdd]
  exact ⟨h2.inl,hL'.pre⟩
def cd83:Cd:=(.seq (.reg [⟨⟨some 5,.assign (.const (.bool false)),none⟩,[]⟩]) (.seq (.reg [⟨⟨some 7,.move (.tmp 0),none⟩,[]⟩,⟨⟨some 8,.move (.tmp 1),none⟩,[]⟩,⟨⟨some 9,.call ⟨(.value (.func 84)),#[.tmp 7,.tmp 8],#[27,27]⟩,none⟩,[]⟩,⟨⟨some 6,.assign (.tmp 9),none⟩,[]⟩]) (.seq (.reg [⟨⟨some 10,.move (.tmp 6),none⟩,[]⟩,⟨⟨some 11,.call ⟨(.builtin .len),#[.tmp 10],#[27]⟩,none⟩,[]⟩,⟨⟨some 12,.binOp .eql 3 (.tmp 11) (.const (.int .i64 2)) 3,none⟩,[]⟩,⟨⟨some 13,.move (.tmp 12),none⟩,[]⟩,⟨⟨some 14,.load 26 (.tmp 2),some (13,true)⟩,[]⟩,⟨⟨some 15,.move (.tmp 6),some (13,true)⟩,[]⟩,⟨⟨some 16,.indexAddr 27 (.tmp 15) (.const (.int .i64 0)),some (13,true)⟩,[]⟩,⟨⟨some 17,.load 3 (.tmp 16),some (13,true)⟩,[]⟩,⟨⟨some 18,.move (.tmp 6),some (13,true)⟩,[]⟩,
 ⟨⟨some 19,.indexAddr 27 (.tmp 18) (.const (.int .i64 1)),some (13,true)⟩,[]⟩,
  ⟨⟨some 20,.load 3 (.tmp 19),some (13,true)⟩,[]⟩,
  ⟨⟨some 21,.call ⟨(.value (.func 85)),#[.tmp 14,.tmp 17,.tmp 20],#[26,3,3]⟩,some (13,true)⟩,[]⟩,
  ⟨⟨some 22,.pick (.tmp 13) (.tmp 21) (.const (.bool false)),none⟩,[]⟩,
  ⟨⟨some 5,.assign (.tmp 22),none⟩,[]⟩]) .ret)))
theorem in83:InT Tryz.prog 83 3 [.tmp 5] cd83:=InT.mk (by kernel_rfl) [(2,[(0,false),(1,false),(2,false),(3,false),(4,false),(5,false),(6,false),(7,false),(8,false),(9,false),(10,false),(11,true),(12,false),(13,false)])] Tryz.func83 rfl (by kernel_rfl) (by kernel_rfl) (of_decide_eq_true (by kernel_rfl)) (by kernel_rfl)
def cd16:Cd:=(.seq (.reg [⟨⟨some 1,.box 26 (.tmp 0),none⟩,[]⟩,⟨⟨some 2,.alloc 38,none⟩,[]⟩,⟨⟨some 3,.assign (.const (.bool false)),none⟩,[]⟩]) (.seq (.seq (.reg [⟨⟨some 4,.load 26 (.tmp 1),none⟩,[]⟩,⟨⟨some 5,.call ⟨(.value (.func 79)),#[.tmp 4],#[26]⟩,none⟩,[]⟩,⟨⟨some 6,.unOp .not 4 (.tmp 5),none⟩,[]⟩,⟨⟨some 7,.move (.tmp 6),none⟩,[]⟩,⟨⟨some 8,.fieldAddr 26 (.tmp 1) 0,some (7,false)⟩,[]⟩,⟨⟨some 9,.load 3 (.tmp 8),some (7,false)⟩,[]⟩,⟨⟨some 10,.binOp .gtr 3 (.tmp 9) (.const (.int .i64 5)) 3,some (7,false)⟩,[]⟩,⟨⟨some 11,.pick (.tmp 7) (.const (.bool true)) (.tmp 10),none⟩,[]⟩]) (.cond (.tmp 11) (.seq (.reg [⟨⟨some 12,.build 38 #[],none⟩,[]⟩,⟨⟨none,.store 38 (.tmp 2) (.tmp 12),none⟩,[]⟩,⟨⟨some 3,.assign (.const (.bool false)),none⟩,[]⟩]) .ret) .skip)) (.seq (.reg [⟨⟨some 13,.fieldAddr 26 (.tmp 1) 0,none⟩,[]⟩,
 ⟨⟨some 14,.load 3 (.tmp 13),none⟩,[]⟩,
  ⟨⟨some 15,.call ⟨(.value (.func 82)),#[.tmp 14],#[3]⟩,none⟩,[]⟩,
  ⟨⟨some 16,.makeFunc (Fn.func 83) #[] #[.tmp 1],none⟩,[]⟩,
  ⟨⟨some 17,.call ⟨(.value (.func 81)),#[.tmp 15,.tmp 16],#[36,53]⟩,none⟩,[]⟩,
  ⟨⟨some 18,.call ⟨(.value (.func 80)),#[.tmp 17],#[38]⟩,none⟩,[]⟩,
  ⟨⟨some 19,.extract (.tmp 18) 0,none⟩,[]⟩,
  ⟨⟨some 20,.extract (.tmp 18) 1,none⟩,[]⟩,
  ⟨⟨none,.store 38 (.tmp 2) (.tmp 19),none⟩,[]⟩,
  ⟨⟨some 3,.assign (.tmp 20),none⟩,[]⟩]) .ret)))
theorem in16:InT Tryz.prog 16 1 [.cell 2 38,.tmp 3] cd16:=InT.mk (by kernel_rfl) [] Tryz.func16 rfl (by kernel_rfl) (by kernel_rfl) (of_decide_eq_true (by kernel_rfl)) (by kernel_rfl)
def cd17:Cd:=(.seq (.reg [⟨⟨some 1,.box 26 (.tmp 0),none⟩,[]⟩,⟨⟨some 2,.alloc 38,none⟩,[]⟩,⟨⟨some 3,.assign (.const (.bool false)),none⟩,[]⟩]) (.seq (.seq (.reg [⟨⟨some 8,.load 26 (.tmp 1),none⟩,[]⟩,⟨⟨some 9,.call ⟨(.value (.func 75)),#[.tmp 8],#[26]⟩,none⟩,[]⟩,⟨⟨some 10,.unOp .not 4 (.tmp 9),none⟩,[]⟩,⟨⟨some 11,.move (.tmp 10),none⟩,[]⟩,⟨⟨some 12,.fieldAddr 26 (.tmp 1) 0,some (11,false)⟩,[]⟩,⟨⟨some 13,.load 3 (.tmp 12),some (11,false)⟩,[]⟩,⟨⟨some 14,.binOp .gtr 3 (.tmp 13) (.const (.int .i64 5)) 3,some (11,false)⟩,[]⟩,⟨⟨some 15,.pick (.tmp 11) (.const (.bool true)) (.tmp 14),none⟩,[]⟩]) (.cond (.tmp 15) (.seq (.reg [⟨⟨some 16,.build 38 #[],none⟩,[]⟩,⟨⟨none,.store 38 (.tmp 2) (.tmp 16),none⟩,[]⟩,⟨⟨some 3,.assign (.const (.bool false)),none⟩,[]⟩]) .ret) .skip)) (.seq (.reg [⟨⟨some 17,.fieldAddr 26 (.tmp 1) 0,none⟩,[]⟩,
 ⟨⟨some 18,.load 3 (.tmp 17),none⟩,[]⟩,⟨⟨some 19,.buildSlice 27 0 #[],none⟩,[]⟩,⟨⟨some 20,.buildSlice 36 0 #[],none⟩,[]⟩,⟨⟨some 21,.call ⟨(.value (.func 86)),#[.tmp 18,.tmp 19,.tmp 20],#[3,27,36]⟩,none⟩,[]⟩,⟨⟨some 22,.buildSlice 24 0 #[],none⟩,[]⟩,⟨⟨some 23,.build 38 #[(0,.tmp 21),(1,.tmp 22)],none⟩,[]⟩,⟨⟨some 4,.alloc 38,none⟩,[]⟩,⟨⟨none,.store 38 (.tmp 4) (.tmp 23),none⟩,[]⟩]) (.seq (.seq (.reg [⟨⟨some 5,.assign (.const (.int .i64 0)),none⟩,[]⟩]) (.block 0 (.loop (.seq (.seq (.reg [⟨⟨some 24,.move (.tmp 5),none⟩,[]⟩,⟨⟨some 25,.fieldAddr 38 (.tmp 4) 0,none⟩,[]⟩,⟨⟨some 26,.load 36 (.tmp 25),none⟩,[]⟩,⟨⟨some 27,.call ⟨(.builtin .len),#[.tmp 26],#[36]⟩,none⟩,[]⟩,⟨⟨some 28,.binOp .lss 3 (.tmp 24) (.tmp 27) 3,none⟩,[]⟩]) (.cond (.tmp 28) .skip (.exit 0))) (.seq (.block 1 (.seq (.reg [⟨⟨some 31,.move (.tmp 5),none⟩,[]⟩,
 ⟨⟨some 32,.binOp .add 3 (.tmp 31) (.const (.int .i64 1)) 3,none⟩,[]⟩,⟨⟨some 6,.assign (.tmp 32),none⟩,[]⟩]) (.block 2 (.loop (.seq (.seq (.reg [⟨⟨some 33,.move (.tmp 6),none⟩,[]⟩,⟨⟨some 34,.fieldAddr 38 (.tmp 4) 0,none⟩,[]⟩,⟨⟨some 35,.load 36 (.tmp 34),none⟩,[]⟩,⟨⟨some 36,.call ⟨(.builtin .len),#[.tmp 35],#[36]⟩,none⟩,[]⟩,⟨⟨some 37,.binOp .lss 3 (.tmp 33) (.tmp 36) 3,none⟩,[]⟩]) (.cond (.tmp 37) .skip (.exit 2))) (.seq (.block 3 (.seq (.reg [⟨⟨some 40,.fieldAddr 38 (.tmp 4) 0,none⟩,[]⟩,⟨⟨some 41,.load 36 (.tmp 40),none⟩,[]⟩,⟨⟨some 42,.move (.tmp 5),none⟩,[]⟩,⟨⟨some 43,.indexAddr 36 (.tmp 41) (.tmp 42),none⟩,[]⟩,⟨⟨some 44,.load 27 (.tmp 43),none⟩,[]⟩,⟨⟨some 45,.fieldAddr 38 (.tmp 4) 0,none⟩,[]⟩,⟨⟨some 46,.load 36 (.tmp 45),none⟩,[]⟩,
 ⟨⟨some 47,.move (.tmp 6),none⟩,[]⟩,⟨⟨some 48,.indexAddr 36 (.tmp 46) (.tmp 47),none⟩,[]⟩,⟨⟨some 49,.load 27 (.tmp 48),none⟩,[]⟩,⟨⟨some 50,.call ⟨(.value (.func 87)),#[.tmp 44,.tmp 49],#[27,27]⟩,none⟩,[]⟩,⟨⟨some 7,.assign (.tmp 50),none⟩,[]⟩]) (.seq (.reg [⟨⟨some 51,.move (.tmp 7),none⟩,[]⟩,⟨⟨some 52,.call ⟨(.builtin .len),#[.tmp 51],#[27]⟩,none⟩,[]⟩,⟨⟨some 53,.binOp .eql 3 (.tmp 52) (.const (.int .i64 2)) 3,none⟩,[]⟩,⟨⟨some 54,.move (.tmp 53),none⟩,[]⟩,⟨⟨some 55,.load 26 (.tmp 1),some (54,true)⟩,[]⟩,⟨⟨some 56,.move (.tmp 7),some (54,true)⟩,[]⟩,⟨⟨some 57,.indexAddr 27 (.tmp 56) (.const (.int .i64 0)),some (54,true)⟩,[]⟩,⟨⟨some 58,.load 3 (.tmp 57),some (54,true)⟩,[]⟩,
 ⟨⟨some 59,.move (.tmp 7),some (54,true)⟩,[]⟩,⟨⟨some 60,.indexAddr 27 (.tmp 59) (.const (.int .i64 1)),some (54,true)⟩,[]⟩,⟨⟨some 61,.load 3 (.tmp 60),some (54,true)⟩,[]⟩,⟨⟨some 62,.call ⟨(.value (.func 88)),#[.tmp 55,.tmp 58,.tmp 61],#[26,3,3]⟩,some (54,true)⟩,[]⟩,⟨⟨some 63,.pick (.tmp 54) (.tmp 62) (.const (.bool false)),none⟩,[]⟩]) (.cond (.tmp 63) (.reg [⟨⟨some 64,.fieldAddr 38 (.tmp 4) 1,none⟩,[]⟩,⟨⟨some 65,.load 24 (.tmp 64),none⟩,[]⟩,⟨⟨some 66,.move (.tmp 5),none⟩,[]⟩,⟨⟨some 67,.move (.tmp 6),none⟩,[]⟩,⟨⟨some 68,.build 47 #[(0,.tmp 66),(1,.tmp 67)],none⟩,[]⟩,⟨⟨some 69,.buildSlice 24 1 #[(0,.tmp 68)],none⟩,[]⟩,⟨⟨some 70,.call ⟨(.builtin .append),#[.tmp 65,.tmp 69],#[24,24]⟩,none⟩,[]⟩,⟨⟨some 71,.fieldAddr 38 (.tmp 4) 1,none⟩,[]⟩,
 ⟨⟨none,.store 24 (.tmp 71) (.tmp 70),none⟩,[]⟩]) .skip)))) (.reg [⟨⟨some 38,.move (.tmp 6),none⟩,[]⟩,
  ⟨⟨some 39,.binOp .add 3 (.tmp 38) (.const (.int .i64 1)) 3,none⟩,[]⟩,
  ⟨⟨some 6,.assign (.tmp 39),none⟩,[]⟩]))))))) (.reg [⟨⟨some 29,.move (.tmp 5),none⟩,[]⟩,
  ⟨⟨some 30,.binOp .add 3 (.tmp 29) (.const (.int .i64 1)) 3,none⟩,[]⟩,
  ⟨⟨some 5,.assign (.tmp 30),none⟩,[]⟩])))))) (.seq (.reg [⟨⟨some 72,.load 38 (.tmp 4),none⟩,[]⟩,
  ⟨⟨none,.store 38 (.tmp 2) (.tmp 72),none⟩,[]⟩,
  ⟨⟨some 3,.assign (.const (.bool true)),none⟩,[]⟩]) .ret)))))
theorem in17:InT Tryz.prog 17 1 [.cell 2 38,.tmp 3] cd17:=InT.mk (by kernel_rfl) [(10,[(0,false),(1,false),(2,false),(3,false),(4,false),(5,false),(6,false),(7,false),(8,false),(9,false),(10,true),(11,false)]),(11,[(0,false),(1,false),(2,false),(3,false),(4,false),(5,false),(6,false),(7,false),(8,false),(9,false),(10,false),(11,true),(12,false)])] Tryz.func17 rfl (by kernel_rfl) (by kernel_rfl) (of_decide_eq_true (by kernel_rfl)) (by kernel_rfl)
end Go.Proofs.YtjnefjchconebaaGreat.Ai
namespace Go.Proofs.YtjnefjchconebaaGreat.Ai
open Go Go.RowKit
theorem mkf_1S (f:Fn)(p:Option Addr):makeFuncA f [] [.pointer p]=some (.func f #[] (List.toArray [.pointer p])):=rfl
theorem ts_near {n:Int}{es:List (Int × Int)}(hg:Grd n es){xs ys:List Int}(h:(dfL xs ys).length=2) :
    decide ((minI ((dfL xs ys).getD 0 0) ((dfL xs ys).getD 1 0),maxI ((dfL xs ys).getD 0 0) ((dfL xs ys).getD 1 0)) ∈ es)=nearB es ((dfL xs ys).getD 0 0) ((dfL xs ys).getD 1 0):=by
  refine near_has hg _ _ ?_
  have:=dfF_nd xs ys xs.length
  rw [List.pairwise_iff_getElem] at this
  have:=this 0 1 (by show 0<(dfL xs ys).length;omega) (by show 1<(dfL xs ys).length;omega) (by decide)
  have e0:(dfL xs ys).getD 0 0=(dfF xs ys xs.length)[0]'(by show 0<(dfL xs ys).length;omega):=by
    rw [List.getD_eq_getElem?_getD,List.getElem?_eq_getElem (by omega)];rfl
  have e1:(dfL xs ys).getD 1 0=(dfF xs ys xs.length)[1]'(by show 1<(dfL xs ys).length;omega):=by
    rw [List.getD_eq_getElem?_getD,List.getElem?_eq_getElem (by omega)];rfl
  omega
theorem tsClos_c (n:Int)(v a b:Value)(es:List (Int × Int))(xs ys:List Int)(o:Nat)(H:AH)(hr:RowP 47 H v es)(hlen:es.length<=1099511627776)(ho:H[o]?=some (.cells [.int .i64 n,v] 26 false))(hg:Grd n es)
    (ha:Row 3 H a xs)(hb:Row 3 H b ys)(hl:ys.length=xs.length)(hx:xs.length<=1048576) :
    ACalls Tryz.prog 83 [a,b,.pointer (some ⟨o,0,none⟩)] H fun r H'=>r=.bool (tsP es xs ys)/\H<+:H':=by
  refine in83 rfl ?_
  intro Q hQ
  simp (disch:=omega) only [cd83,SS,eq_self,reduceIte,reduceCtorEq,Nat.reduceEqDiff,Nat.reduceAdd]
  refine CallH.by (places_c a b xs ys H ha hb hx hl) ?_
  rintro d B ⟨hd,pB⟩
  have hdr:=hd.row
  have cB:=pre_at pB ho
  by_cases e:(dfL xs ys).length=2
  . have e2:((dfL xs ys).length:Int)=2:=by omega
    have hc0:=hdr.cell (show 0<(dfL xs ys).length by omega)
    rw [Nat.add_zero] at hc0
    have hc1:=hdr.cell (show 1<(dfL xs ys).length by omega)
    simp (disch:=omega) only [hdr.len Tryz.underlying27,decide_eq_true e2,ld_agg ag26 cs26 cB,hdr.ix Tryz.underlying27 cs3,Int.toNat_zero,Int.toNat_one,hc0,hc1,SS,eq_self,reduceIte,reduceCtorEq,Nat.reduceEqDiff,Nat.reduceAdd]
    refine CallH.by (has_G n v es _ _ B (hr.pre pB) hlen) ?_
    rintro _ C ⟨rfl,pC⟩
    rw [ts_near hg e]
    have ht:tsP es xs ys=nearB es ((dfL xs ys).getD 0 0) ((dfL xs ys).getD 1 0):=by unfold tsP;rw [decide_eq_true e,Bool.true_and]
    simp (disch:=omega) only [decide_eq_true e2,SS,eq_self,reduceIte,reduceCtorEq,Nat.reduceEqDiff,Nat.reduceAdd]
    refine hQ _ _ _ ?_
    simp (disch:=omega) only [SS,eq_self,reduceIte,reduceCtorEq,Nat.reduceEqDiff,Nat.reduceAdd]
    rw [ht]
    exact ⟨rfl,pB.trans pC⟩
  . have e2:¬ ((dfL xs ys).length:Int)=2:=by omega
    have ht:tsP es xs ys=false:=by unfold tsP;rw [decide_eq_false e,Bool.false_and]
    simp (disch:=omega) only [hdr.len Tryz.underlying27,decide_eq_false e2,SS,eq_self,reduceIte,reduceCtorEq,Nat.reduceEqDiff,Nat.reduceAdd]
    refine hQ _ _ _ ?_
    simp (disch:=omega) only [SS,eq_self,reduceIte,reduceCtorEq,Nat.reduceEqDiff,Nat.reduceAdd]
    rw [ht]
    exact ⟨rfl,pB⟩
theorem TsI_c (n:Int)(v:Value)(es:List (Int × Int))(H:AH)(hr:RowP 47 H v es)(hlen:es.length<=1099511627776)(hes:∀ y ∈ es,I64 y.1/\I64 y.2)(hn:I64 n) :
    ACalls Tryz.prog 16 [.agg (List.toArray [.int .i64 n,v])] H fun r H'=>∃ a b,r=.tuple (List.toArray [.agg (List.toArray [a,b]),.bool (decide (TsOk n es))])/\SpIn H.length H'.length H' a b (tsL n es) (tsS n es)/\H<+:H':=by
  refine in16 rfl ?_
  intro Q hQ
  simp (disch:=omega) only [cd16,hr.boxG,SS,eq_self,reduceIte,reduceCtorEq,Nat.reduceEqDiff,Nat.reduceAdd]
  generalize hA0:H ++ [AObj.cells [.int .i64 n,v] 26 false]=A0
  have pA0:H<+:A0:=by rw [<- hA0];exact List.prefix_append _ _
  have cA0:A0[H.length]?=some (.cells [.int .i64 n,v] 26 false):=by rw [<- hA0];exact at_new ..
  have rA0:=hr.pre pA0
  simp (disch:=omega) only [alloc_sp,SS,eq_self,reduceIte,reduceCtorEq,Nat.reduceEqDiff,Nat.reduceAdd]
  generalize hA:A0 ++ [AObj.cells [.slice none 0 0,.slice none 0 0] 38 false]=A
  have pA1:A0<+:A:=by rw [<- hA];exact List.prefix_append _ _
  have lA0:A0.length=H.length+1:=by rw [<- hA0];simp
  have cS:A[A0.length]?=some (.cells [.slice none 0 0,.slice none 0 0] 38 false):=by rw [<- hA];exact at_new ..
  have lA:A.length=A0.length+1:=by rw [<- hA];simp
  have pA:=pA0.trans pA1
  have cA:=pre_at pA1 cA0
  have rA:=rA0.pre pA1
  simp (disch:=omega) only [ld_agg ag26 cs26 cA,SS,eq_self,reduceIte,reduceCtorEq,Nat.reduceEqDiff,Nat.reduceAdd]
  refine CallH.by (IsGraph_c n v es A rA (by omega)) ?_
  rintro _ B ⟨rfl,pB⟩
  have cB:=pre_at pB cA
  have cSB:=pre_at pB cS
  have pHB:=pA.trans pB
  have lB:=pB.length_le
  have no:¬ TsOk n es->∀ s:Sl,s 2=.pointer (some ⟨A0.length,0,none⟩)->s 3=.bool false->endA Tryz.prog [.cell 2 38,.tmp 3] (fun r H'=>∃ a b,r=.tuple (List.toArray [.agg (List.toArray [a,b]),.bool (decide (TsOk n es))])/\SpIn H.length H'.length H' a b (tsL n es) (tsS n es)/\H<+:H') .ret s (B.set A0.length (.cells [.slice none 0 0,.slice none 0 0] 38 false)):=by
    intro h s s2 s3
    have d4:=at_set (d:=.cells [.slice none 0 0,.slice none 0 0] 38 false) cSB
    refine end_cell2 _ _ _ _ _ _ _ (.agg (List.toArray [.slice none 0 0,.slice none 0 0])) (.bool false) ?_ rfl s3 rfl ⟨_,_,by rw [decide_eq_false h],⟨H.length,Nat.le_refl _,by simp;omega,?_,?_⟩,?_⟩
    . simp (disch:=omega) only [s2,ld_agg ag38 cs38 d4,SS,eq_self,reduceIte,reduceCtorEq,Nat.reduceEqDiff,Nat.reduceAdd]
    . have:tsL n es=[]:=by unfold tsL;rw [if_neg h]
      rw [this];exact .inl ⟨rfl,rfl⟩
    . have:tsS n es=[]:=by unfold tsS;rw [if_neg h]
      rw [this];exact .inl ⟨rfl,rfl⟩
    . exact pre_set pHB (by omega) _
  have hstore0:=st_ss cSB rfl none none 0 0 0 0
  by_cases e:Grd n es
  rotate_left
  . simp (disch:=omega) only [decide_eq_false e,bld_sp0,hstore0,SS,eq_self,reduceIte,reduceCtorEq,Nat.reduceEqDiff,Nat.reduceAdd]
    refine hQ _ _ _ (no (fun h=>e h.1) _ ?_ ?_) <;> simp (disch:=omega) only [SS,eq_self,reduceIte,reduceCtorEq,Nat.reduceEqDiff,Nat.reduceAdd]
  by_cases e5:n<=5
  rotate_left
  . have e6:5<n:=by omega
    simp (disch:=omega) only [decide_eq_true e,cell_of cB,decide_eq_true e6,bld_sp0,hstore0,SS,eq_self,reduceIte,reduceCtorEq,Nat.reduceEqDiff,Nat.reduceAdd]
    refine hQ _ _ _ (no (fun h=>e5 h.2) _ ?_ ?_) <;> simp (disch:=omega) only [SS,eq_self,reduceIte,reduceCtorEq,Nat.reduceEqDiff,Nat.reduceAdd]
  have e6:¬ 5<n:=by omega
  have hok:TsOk n es:=⟨e,e5⟩
  obtain ⟨k,hk⟩:∃ k:Nat,n=k:=⟨n.toNat,by have:=e.1;omega⟩
  subst hk
  have hk5:k<=5:=by omega
  simp (disch:=omega) only [decide_eq_true e,cell_of cB,decide_eq_false e6,SS,eq_self,reduceIte,reduceCtorEq,Nat.reduceEqDiff,Nat.reduceAdd]
  refine CallH.by (permutations_c k B (by omega)) ?_
  rintro a C ⟨hL,pC⟩
  obtain ⟨us,r1,r2,r3⟩:=hL.parts
  obtain ⟨z1,z2,z3,z4,z5⟩:=pms_ok hk5
  have hsts:Sts C a us (pms k):=⟨r1,r2,fun i hi=>(r3 i hi).row.1,fun i hi=>by
    have:(pms k).getD i [] ∈ pms k:=by simp [hi]
    have:=z3 _ this;omega,by omega,z1⟩
  have cC:=pre_at pC cB
  have cSC:=pre_at pC cSB
  have rC:=rA.pre (pB.trans pC)
  have hS:StepFn C 83 [.pointer (some ⟨H.length,0,none⟩)] (pms k) (tsP es):=fun va vb x y H2 hp2 hv hw hx hy=>tsClos_c (k:Int) v va vb es x y H.length H2 (rC.pre hp2) hlen (pre_at hp2 cC) e hv hw (by rw [z3 _ hx,z3 _ hy]) (by rw [z3 _ hx];omega)
  simp (disch:=omega) only [mkf_1S,SS,eq_self,reduceIte,reduceCtorEq,Nat.reduceEqDiff,Nat.reduceAdd]
  refine CallH.by (spaceOf_c hsts (by omega) 83 [.pointer (some ⟨H.length,0,none⟩)] (tsP es) hS (List.prefix_refl _)) ?_
  rintro _ D ⟨st,rfl,hst,pD⟩
  have hrowD:SpRow D a st (pms k) (steps (tsP es) (pms k)):=⟨⟨_,(hL.row).pre pD⟩,hst.row⟩
  simp (disch:=omega) only [SS,eq_self,reduceIte,reduceCtorEq,Nat.reduceEqDiff,Nat.reduceAdd]
  refine CallH.by (orNone_c a st _ _ D hrowD (by omega) (by have:=ts_steps es hk5;omega)) ?_
  rintro _ E ⟨rfl,pE⟩
  have hrowE:=hrowD.pre pE
  have cSE:=pre_at (pD.trans pE) cSC
  have hstore:=hrowE.store cSE rfl
  simp (disch:=omega) only [hstore,SS,eq_self,reduceIte,reduceCtorEq,Nat.reduceEqDiff,Nat.reduceAdd]
  have d4:=at_set (d:=.cells [a,st] 38 false) cSE
  have lC:=pC.length_le
  have lD:=pD.length_le
  have lE:=pE.length_le
  have hpL:tsL (k:Int) es=pms k:=by unfold tsL;rw [if_pos hok,Int.toNat_natCast]
  have hpP:tsS (k:Int) es=steps (tsP es) (pms k):=by unfold tsS;rw [if_pos hok,Int.toNat_natCast]
  refine hQ _ _ _ (end_cell2 _ _ _ _ _ _ _ (.agg (List.toArray [a,st])) (.bool true) ?_ rfl ?_ rfl ⟨a,st,by rw [decide_eq_true hok],⟨C.length,by omega,by simp;omega,?_,?_⟩,?_⟩)
  . simp (disch:=omega) only [ld_agg ag38 cs38 d4,SS,eq_self,reduceIte,reduceCtorEq,Nat.reduceEqDiff,Nat.reduceAdd]
  . simp (disch:=omega) only [SS,eq_self,reduceIte,reduceCtorEq,Nat.reduceEqDiff,Nat.reduceAdd]
  . rw [hpL]
    rcases hL.pre (pD.trans pE) with q | ⟨o,us',q1,q2⟩
    . exact .inl q
    . refine .inr ⟨o,us',q1,(q2.move fun j y hj1 hj2 hy=>?_).wide (by omega) (Nat.le_refl _)⟩
      rw [List.getElem?_set_ne (by omega)];exact hy
  . rw [hpP]
    have hI:=InP.of (hst.pre pE)
    rcases hI with q | ⟨o,zs,q1,q2,q3,q4,q5⟩
    . exact .inl q
    . exact .inr ⟨o,zs,q1,q2,by simpa using q3,by rw [List.getElem?_set_ne (by omega)];exact q4,q5⟩
  . exact pre_set (pHB.trans (pC.trans (pD.trans pE))) (by omega) _
theorem TsS_c (n:Int)(v:Value)(es:List (Int × Int))(H:AH)(hr:RowP 47 H v es)(hlen:es.length<=1099511627776)(hes:∀ y ∈ es,I64 y.1/\I64 y.2)(hn:I64 n) :
    ACalls Tryz.prog 17 [.agg (List.toArray [.int .i64 n,v])] H fun r H'=>∃ a b,r=.tuple (List.toArray [.agg (List.toArray [a,b]),.bool (decide (TsOk n es))])/\SpIn H.length H'.length H' a b (tsL n es) (tsS n es)/\H<+:H':=by
  refine in17 rfl ?_
  intro Q hQ
  simp (maxSteps:=1000000) (disch:=omega) only [cd17,hr.boxG,SS,eq_self,reduceIte,reduceCtorEq,Nat.reduceEqDiff,Nat.reduceAdd]
  generalize hA0:H ++ [AObj.cells [.int .i64 n,v] 26 false]=A0
  have pA0:H<+:A0:=by rw [<- hA0];exact List.prefix_append _ _
  have cA0:A0[H.length]?=some (.cells [.int .i64 n,v] 26 false):=by rw [<- hA0];exact at_new ..
  have rA0:=hr.pre pA0
  simp (maxSteps:=1000000) (disch:=omega) only [alloc_sp,SS,eq_self,reduceIte,reduceCtorEq,Nat.reduceEqDiff,Nat.reduceAdd]
  generalize hA:A0 ++ [AObj.cells [.slice none 0 0,.slice none 0 0] 38 false]=A
  have pA1:A0<+:A:=by rw [<- hA];exact List.prefix_append _ _
  have lA0:A0.length=H.length+1:=by rw [<- hA0];simp
  have cS:A[A0.length]?=some (.cells [.slice none 0 0,.slice none 0 0] 38 false):=by rw [<- hA];exact at_new ..
  have lA:A.length=A0.length+1:=by rw [<- hA];simp
  have pA:=pA0.trans pA1
  have cA:=pre_at pA1 cA0
  have rA:=rA0.pre pA1
  simp (maxSteps:=1000000) (disch:=omega) only [ld_agg ag26 cs26 cA,SS,eq_self,reduceIte,reduceCtorEq,Nat.reduceEqDiff,Nat.reduceAdd]
  refine CallH.by (l2Good_c n v es A rA (by omega)) ?_
  rintro _ B ⟨rfl,pB⟩
  have cB:=pre_at pB cA
  have cSB:=pre_at pB cS
  have pHB:=pA.trans pB
  have lB:=pB.length_le
  have no:¬ TsOk n es->∀ s:Sl,s 2=.pointer (some ⟨A0.length,0,none⟩)->s 3=.bool false->endA Tryz.prog [.cell 2 38,.tmp 3] (fun r H'=>∃ a b,r=.tuple (List.toArray [.agg (List.toArray [a,b]),.bool (decide (TsOk n es))])/\SpIn H.length H'.length H' a b (tsL n es) (tsS n es)/\H<+:H') .ret s (B.set A0.length (.cells [.slice none 0 0,.slice none 0 0] 38 false)):=by
    intro h s s2 s3
    have d4:=at_set (d:=.cells [.slice none 0 0,.slice none 0 0] 38 false) cSB
    refine end_cell2 _ _ _ _ _ _ _ (.agg (List.toArray [.slice none 0 0,.slice none 0 0])) (.bool false) ?_ rfl s3 rfl ⟨_,_,by rw [decide_eq_false h],⟨H.length,Nat.le_refl _,by simp;omega,?_,?_⟩,?_⟩
    . simp (maxSteps:=1000000) (disch:=omega) only [s2,ld_agg ag38 cs38 d4,SS,eq_self,reduceIte,reduceCtorEq,Nat.reduceEqDiff,Nat.reduceAdd]
    . have:tsL n es=[]:=by unfold tsL;rw [if_neg h]
      rw [this];exact .inl ⟨rfl,rfl⟩
    . have:tsS n es=[]:=by unfold tsS;rw [if_neg h]
      rw [this];exact .inl ⟨rfl,rfl⟩
    . exact pre_set pHB (by omega) _
  have hstore0:=st_ss cSB rfl none none 0 0 0 0
  by_cases e:Grd n es
  rotate_left
  . simp (maxSteps:=1000000) (disch:=omega) only [decide_eq_false e,bld_sp0,hstore0,SS,eq_self,reduceIte,reduceCtorEq,Nat.reduceEqDiff,Nat.reduceAdd]
    refine hQ _ _ _ (no (fun h=>e h.1) _ ?_ ?_) <;> simp (maxSteps:=1000000) (disch:=omega) only [SS,eq_self,reduceIte,reduceCtorEq,Nat.reduceEqDiff,Nat.reduceAdd]
  by_cases e5:n<=5
  rotate_left
  . have e6:5<n:=by omega
    simp (maxSteps:=1000000) (disch:=omega) only [decide_eq_true e,cell_of cB,decide_eq_true e6,bld_sp0,hstore0,SS,eq_self,reduceIte,reduceCtorEq,Nat.reduceEqDiff,Nat.reduceAdd]
    refine hQ _ _ _ (no (fun h=>e5 h.2) _ ?_ ?_) <;> simp (maxSteps:=1000000) (disch:=omega) only [SS,eq_self,reduceIte,reduceCtorEq,Nat.reduceEqDiff,Nat.reduceAdd]
  have e6:¬ 5<n:=by omega
  have hok:TsOk n es:=⟨e,e5⟩
  obtain ⟨k,hk⟩:∃ k:Nat,n=k:=⟨n.toNat,by have:=e.1;omega⟩
  subst hk
  have hk5:k<=5:=by omega
  obtain ⟨z1,z2,z3,z4,z5⟩:=pms_ok hk5
  have hpL:tsL (k:Int) es=pms k:=by unfold tsL;rw [if_pos hok,Int.toNat_natCast]
  have hpP:tsS (k:Int) es=steps (tsP es) (pms k):=by unfold tsS;rw [if_pos hok,Int.toNat_natCast]
  rw [hpL,hpP] at hQ
  clear no
  simp (maxSteps:=1000000) (disch:=omega) only [decide_eq_true e,cell_of cB,decide_eq_false e6,SS,eq_self,reduceIte,reduceCtorEq,Nat.reduceEqDiff,Nat.reduceAdd]
  generalize hC1:B ++ [AObj.cells [] 3 false]=C1
  have pC1:B<+:C1:=by rw [<- hC1];exact List.prefix_append _ _
  have cC1:C1[B.length]?=some (.cells (ints []) 3 false):=by rw [<- hC1];exact at_new ..
  have lC1:C1.length=B.length+1:=by rw [<- hC1];simp
  generalize hC2:C1 ++ [AObj.cells [] 27 false]=C2
  have pC2:C1<+:C2:=by rw [<- hC2];exact List.prefix_append _ _
  have cC2:C2[C1.length]?=some (.cells [] 27 false):=by rw [<- hC2];exact at_new ..
  have lC2:C2.length=C1.length+1:=by rw [<- hC2];simp
  have hw0:Row 3 C2 (.slice (some ⟨B.length,0,none⟩) 0 0) []:=.inr ⟨B.length,0,ints [],false,rfl,pre_at pC2 cC1,by simp,rfl⟩
  have hin0:InU B.length C2.length 27 3 C2 C1.length [] []:=⟨by omega,by omega,cC2,Nat.le_refl _,fun i hi=>absurd hi (by simp),fun i j _ hi _=>absurd hi (by simp)⟩
  have hpw:k ^ k<=5 ^ 5:=Nat.le_trans (Nat.pow_le_pow_left hk5 k) (Nat.pow_le_pow_right (by decide) hk5)
  refine CallH.by (l9All_c k (by omega) B.length k (.slice (some ⟨B.length,0,none⟩) 0 0) [] C1.length [] [] C2 (by simp) hw0 (.inr (.inr (by show B.length ≠ C1.length;omega))) hin0 (by simp;omega)) ?_
  rintro _ D ⟨oL,us0,rfl,hU,hkD,lCD,hoD⟩
  have eP:[] ++ pmG k k []=pms k:=rfl
  rw [eP] at hU ⊢
  have pD:B<+:D:=prefix_of fun j y hy=>hkD j y (by have:=at_lt hy;omega) (pre_at (pC1.trans pC2) hy)
  have hL:InL B.length D.length 27 3 D (.slice (some ⟨oL,0,none⟩) (pms k).length (pms k).length) (pms k):=hU.inl
  generalize ha:Value.slice (some ⟨oL,0,none⟩) (pms k).length (pms k).length=a at *
  obtain ⟨us,r1,r2,r3⟩:=hL.parts
  generalize hls:pms k=ls at *
  obtain ⟨pa,hpa⟩:=r1.shape
  have lD:=pD.length_le
  have hb2:=bld_sp2 pa (some ⟨D.length,0,none⟩) us.length us.length 0 0
  rw [<- hpa] at hb2
  simp (maxSteps:=1000000) (disch:=omega) only [hb2,alloc_sp,SS,eq_self,reduceIte,reduceCtorEq,Nat.reduceEqDiff,Nat.reduceAdd]
  generalize hE:D ++ [AObj.cells [] 47 false]=E
  have pE:D<+:E:=by rw [<- hE];exact List.prefix_append _ _
  have lE:E.length=D.length+1:=by rw [<- hE];simp
  have m0:MineP 47 D E (.slice (some ⟨D.length,0,none⟩) 0 0) []:=by rw [<- hE];exact MineP.nil0 (P:=Tryz.prog) D D (Nat.le_refl _)
  have st1:=st_ss (at_new E (.cells [.slice none 0 0,.slice none 0 0] 38 false)) rfl pa (some ⟨D.length,0,none⟩) us.length us.length 0 0
  rw [set_new,<- hpa] at st1
  simp (maxSteps:=1000000) (disch:=omega) only [st1,SS,eq_self,reduceIte,reduceCtorEq,Nat.reduceEqDiff,Nat.reduceAdd]
  generalize hG:E ++ [AObj.cells [a,.slice (some ⟨D.length,0,none⟩) 0 0] 38 false]=G
  have pG:E<+:G:=by rw [<- hG];exact List.prefix_append _ _
  have cG:G[E.length]?=some (.cells [a,.slice (some ⟨D.length,0,none⟩) 0 0] 38 false):=by rw [<- hG];exact at_new ..
  have lG:G.length=E.length+1:=by rw [<- hG];simp
  have pDG:=pE.trans pG
  have cSD:=pre_at pD cSB
  have cGD:=pre_at pD cB
  have rD:=rA.pre (pB.trans pD)
  have pHD:=pHB.trans pD
  have rowA:∀ {H'},D<+:H'->RowV 27 H' a us:=fun hp=>r1.pre hp
  have rowI:∀ {H'} (i:Nat),i<ls.length->D<+:H'->Row 3 H' (us.getD i undef) (ls.getD i []):=fun i hi hp=>(r3 i hi).row.1.pre hp
  have sm:∀ i,i<ls.length->(ls.getD i []).length=k:=fun i hi=>z3 _ (by simp [hi])
  refine LoopH.by (fun m s H'=>∃ i st,m+i=ls.length/\s 1=.pointer (some ⟨H.length,0,none⟩)/\s 2=.pointer (some ⟨A0.length,0,none⟩)/\s 4=.pointer (some ⟨E.length,0,none⟩)/\s 5=.int .i64 ((i:Nat):Int)/\H'[E.length]?=some (.cells [a,st] 38 false)/\(rowO st=D.length∨G.length<=rowO st)/\st ≠ .slice none 0 0/\MineP 47 D H' st (stpO (tsP es) ls i)/\D<+:H') ls.length ?_ ?_
  . exact ⟨0,.slice (some ⟨D.length,0,none⟩) 0 0,by simp,rfl,rfl,rfl,rfl,cG,.inl rfl,(by intro e;cases e),m0.pre pG,pDG⟩
  rintro m s H' ⟨i,st,hm,s1,s2,s4,s5,hc5,hst,hsn,hmn,hpp⟩
  simp (maxSteps:=1000000) (disch:=omega) only [s1,s2,s4,s5,cell_of hc5,(rowA hpp).len Tryz.underlying36,r2,SS,eq_self,reduceIte,reduceCtorEq,Nat.reduceEqDiff,Nat.reduceAdd]
  refine brD.intro (fun g=>?_) (fun g=>?_)
  rotate_left
  . have hi:i=ls.length:=by omega
    subst hi
    have hrow:SpRow H' a st ls (stpO (tsP es) ls ls.length):=⟨⟨_,hL.row.pre hpp⟩,hmn.row⟩
    have cAH:=pre_at hpp cSD
    have hstore:=hrow.store cAH rfl
    simp (maxSteps:=1000000) (disch:=omega) only [s1,s2,s4,ld_agg ag38 cs38 hc5,hstore,SS,eq_self,reduceIte,reduceCtorEq,Nat.reduceEqDiff,Nat.reduceAdd]
    have d4:=at_set (d:=.cells [a,st] 38 false) cAH
    have lH':=hpp.length_le
    refine hQ _ _ _ (end_cell2 _ _ _ _ _ _ _ (.agg (List.toArray [a,st])) (.bool true) ?_ rfl ?_ rfl ⟨a,st,by rw [decide_eq_true hok],⟨D.length,by omega,by simp;omega,?_,?_⟩,?_⟩)
    . simp (maxSteps:=1000000) (disch:=omega) only [s2,ld_agg ag38 cs38 d4,SS,eq_self,reduceIte,reduceCtorEq,Nat.reduceEqDiff,Nat.reduceAdd]
    . simp (maxSteps:=1000000) (disch:=omega) only [SS,eq_self,reduceIte,reduceCtorEq,Nat.reduceEqDiff,Nat.reduceAdd]
    . rcases hL.pre hpp with q | ⟨o,us',q1,q2⟩
      . exact .inl q
      . refine .inr ⟨o,us',q1,(q2.move fun j y hj1 hj2 hy=>?_).wide (by omega) (Nat.le_refl _)⟩
        rw [List.getElem?_set_ne (by omega)];exact hy
    . rcases InP.of hmn with q | ⟨o,zs,q1,q2,q3,q4,q5⟩
      . exact .inl q
      . exact .inr ⟨o,zs,q1,q2,by simpa using q3,by rw [List.getElem?_set_ne (by omega)];exact q4,q5⟩
    . exact pre_set (pHD.trans hpp) (by omega) _
  have hi:i<ls.length:=by omega
  simp (maxSteps:=1000000) (disch:=omega) only [s1,s2,s4,s5,wrap64,SS,eq_self,reduceIte,reduceCtorEq,Nat.reduceEqDiff,Nat.reduceAdd]
  refine LoopH.by (fun m' s' H''=>∃ j st',m'+j=ls.length - (i+1)/\s' 1=.pointer (some ⟨H.length,0,none⟩)/\s' 2=.pointer (some ⟨A0.length,0,none⟩)/\s' 4=.pointer (some ⟨E.length,0,none⟩)/\s' 5=.int .i64 ((i:Nat):Int)/\s' 6=.int .i64 ((i+1+j:Nat):Int)/\H''[E.length]?=some (.cells [a,st'] 38 false)/\(rowO st'=D.length∨G.length<=rowO st')/\st' ≠ .slice none 0 0/\MineP 47 D H'' st' (stpO (tsP es) ls i ++ stpI (tsP es) ls i j)/\D<+:H'') (ls.length - (i+1)) ?_ ?_
  . refine ⟨0,st,by simp,?_⟩
    simp only [SS,eq_self,reduceIte,reduceCtorEq,Nat.reduceEqDiff,Nat.reduceAdd,s1,s2,s4,s5]
    have f0:MineP 47 D H' st (stpO (tsP es) ls i ++ stpI (tsP es) ls i 0):=by rw [stpI,List.append_nil];exact hmn
    (repeat' first | exact hc5 | exact hst | exact hsn | exact f0 | exact hpp | apply And.intro) <;> first | (simp only [Value.int.injEq,true_and];omega) | omega | rfl | assumption | (simp;done) | (simp;omega)
  . rintro m' s' H'' ⟨j,st',hm',g1,g2,g4,g5,g6,hc5',hst',hsn',hmn',hpp'⟩
    simp (maxSteps:=1000000) (disch:=omega) only [g1,g2,g4,g5,g6,cell_of hc5',(rowA hpp').len Tryz.underlying36,r2,SS,eq_self,reduceIte,reduceCtorEq,Nat.reduceEqDiff,Nat.reduceAdd]
    refine brD.intro (fun q=>?_) (fun q=>?_)
    . have hj:i+1+j<ls.length:=by omega
      have hci:=(rowA hpp').cell (show i<us.length by omega)
      have hcj:=(rowA hpp').cell (show i+1+j<us.length by omega)
      simp (maxSteps:=1000000) (disch:=omega) only [g1,g2,g4,g5,g6,cell_of hc5',(rowA hpp').ix Tryz.underlying36 cs27,Int.toNat_natCast,hci,hcj,SS,eq_self,reduceIte,reduceCtorEq,Nat.reduceEqDiff,Nat.reduceAdd]
      refine CallH.by (l5Changed_c _ _ _ _ H'' (rowI i hi hpp') (rowI (i+1+j) hj hpp') (by rw [sm i hi];omega) (by rw [sm i hi,sm _ hj])) ?_
      rintro u K ⟨hu,pK⟩
      have hcK:=pre_at pK hc5'
      have hpK:=hpp'.trans pK
      have hmK:=hmn'.pre pK
      have hcg:=pre_at hpK cGD
      have hur:=hu.row
      have hsl1:=stpO_len (tsP es) ls i
      have hsl2:=stpI_len (tsP es) ls i j
      have hmul:i * ls.length<=132 * 132:=Nat.mul_le_mul (by omega) (by omega)
      have lK:=hpK.length_le
      have l5:=at_lt hc5'
      have hne:∀ o,o=E.length->o ≠ rowO st':=fun o ho=>by omega
      by_cases e:(dfL (ls.getD i []) (ls.getD (i+1+j) [])).length=2
      rotate_left
      . have e2:¬ ((dfL (ls.getD i []) (ls.getD (i+1+j) [])).length:Int)=2:=by omega
        have ht:tsP es (ls.getD i []) (ls.getD (i+1+j) [])=false:=by unfold tsP;rw [decide_eq_false e,Bool.false_and]
        have hstep:stpI (tsP es) ls i (j+1)=stpI (tsP es) ls i j:=by rw [stpI,if_neg (by rw [ht];decide),List.append_nil]
        rw [<- hstep] at hmK
        simp (maxSteps:=1000000) (disch:=omega) only [hur.len Tryz.underlying27,decide_eq_false e2,g1,g2,g4,g5,g6,wrap64,SS,eq_self,reduceIte,reduceCtorEq,Nat.reduceEqDiff,Nat.reduceAdd]
        refine ⟨m' - 1,by omega,j+1,st',?_⟩
        (repeat' first | exact hcK | exact hst' | exact hsn' | exact hmK | exact hpK | apply And.intro) <;> first | (simp only [Value.int.injEq,true_and];omega) | omega | rfl | assumption | (simp;done) | (simp;omega)
      have e2:((dfL (ls.getD i []) (ls.getD (i+1+j) [])).length:Int)=2:=by omega
      have hc0:=hur.cell (show 0<(dfL (ls.getD i []) (ls.getD (i+1+j) [])).length by omega)
      rw [Nat.add_zero] at hc0
      have hc1:=hur.cell (show 1<(dfL (ls.getD i []) (ls.getD (i+1+j) [])).length by omega)
      have htp:tsP es (ls.getD i []) (ls.getD (i+1+j) [])=nearB es ((dfL (ls.getD i []) (ls.getD (i+1+j) [])).getD 0 0) ((dfL (ls.getD i []) (ls.getD (i+1+j) [])).getD 1 0):=by unfold tsP;rw [decide_eq_true e,Bool.true_and]
      simp (maxSteps:=1000000) (disch:=omega) only [hur.len Tryz.underlying27,decide_eq_true e2,g1,g2,g4,g5,g6,ld_agg ag26 cs26 hcg,hur.ix Tryz.underlying27 cs3,Int.toNat_zero,Int.toNat_one,hc0,hc1,SS,eq_self,reduceIte,reduceCtorEq,Nat.reduceEqDiff,Nat.reduceAdd]
      refine CallH.by (l2Near_c (k:Int) v es _ _ K (rD.pre hpK) hlen) ?_
      rintro _ J ⟨rfl,pJ⟩
      rw [<- htp]
      have hcJ:=pre_at pJ hcK
      have hmJ:=hmK.pre pJ
      have hpJ:=hpK.trans pJ
      have lKJ:=pJ.length_le
      cases ht:tsP es (ls.getD i []) (ls.getD (i+1+j) []) with
      | false =>
        have hstep:stpI (tsP es) ls i (j+1)=stpI (tsP es) ls i j:=by rw [stpI,if_neg (by rw [ht];decide),List.append_nil]
        rw [<- hstep] at hmJ
        simp (maxSteps:=1000000) (disch:=omega) only [decide_eq_true e2,g1,g2,g4,g5,g6,wrap64,SS,eq_self,reduceIte,reduceCtorEq,Nat.reduceEqDiff,Nat.reduceAdd]
        refine ⟨m' - 1,by omega,j+1,st',?_⟩
        (repeat' first | exact hcJ | exact hst' | exact hsn' | exact hmJ | exact hpJ | apply And.intro) <;> first | (simp only [Value.int.injEq,true_and];omega) | omega | rfl | assumption | (simp;done) | (simp;omega)
      | true =>
        have hstep:stpI (tsP es) ls i (j+1)=stpI (tsP es) ls i j ++ [((i:Int),((i+1+j:Nat):Int))]:=by rw [stpI,if_pos ht]
        obtain ⟨st2,H3,k1,k2,k3,k4,k5,k6⟩:=own1_24 hmJ hpJ (by rw [List.length_append];omega) (i:Int) ((i+1+j:Nat):Int)
        have d5:H3[E.length]?=some (.cells [a,st'] 38 false):=k4 _ _ (.inr (hne _ rfl)) hcJ
        obtain ⟨q2,hq2⟩:=k2.row.shape
        have t2:st2.cells.toList=[st2]:=by rw [hq2];rfl
        have hst3:=st_at (P:=Tryz.prog) (t:=24) (i:=1) (y:=st2) cs24 d5 (by show 1<2;decide) k6 t2
        have lGJ:G.length<=J.length:=by have:=pK.length_le;omega
        simp (maxSteps:=1000000) (disch:=omega) only [decide_eq_true e2,g1,g2,g4,g5,g6,cell_of hcJ,build_a2,wrap64,k1,hst3,SS,eq_self,reduceIte,reduceCtorEq,Nat.reduceEqDiff,Nat.reduceAdd]
        have f5:(H3.set E.length (.cells ([a,st'].set 1 st2) 38 false))[E.length]?=some (.cells [a,st2] 38 false):=by
          rw [List.getElem?_set_self (at_lt d5)];rfl
        have fs1:rowO st2=D.length∨G.length<=rowO st2:=.inr (by omega)
        have fs2:st2 ≠ .slice none 0 0:=by
          intro hh
          rw [hh] at k5
          have:rowO (Value.slice none 0 0)=0:=rfl
          omega
        have fm:MineP 47 D (H3.set E.length (.cells ([a,st'].set 1 st2) 38 false)) st2 (stpO (tsP es) ls i ++ stpI (tsP es) ls i (j+1)):=by
          rw [hstep,<- List.append_assoc]
          exact k2.keepL fun hl y hy=>by rw [List.getElem?_set_ne (by omega)];exact hy
        have fp:D<+:H3.set E.length (.cells ([a,st'].set 1 st2) 38 false):=pre_set k3 (by omega) _
        refine ⟨m' - 1,by omega,j+1,st2,?_⟩
        (repeat' first | exact f5 | exact fs1 | exact fs2 | exact fm | exact fp | apply And.intro) <;> first | (simp only [Value.int.injEq,true_and];omega) | omega | rfl | assumption | (simp;done) | (simp;omega)
    . have hjj:j=ls.length - (i+1):=by omega
      subst hjj
      have hstO:stpO (tsP es) ls (i+1)=stpO (tsP es) ls i ++ stpI (tsP es) ls i (ls.length - (i+1)):=rfl
      rw [<- hstO] at hmn'
      simp (maxSteps:=1000000) (disch:=omega) only [g1,g2,g4,g5,g6,wrap64,SS,eq_self,reduceIte,reduceCtorEq,Nat.reduceEqDiff,Nat.reduceAdd]
      refine ⟨m - 1,by omega,i+1,st',?_⟩
      (repeat' first | exact hc5' | exact hst' | exact hsn' | exact hmn' | exact hpp' | apply And.intro) <;> first | (simp only [Value.int.injEq,true_and];omega) | omega | rfl | assumption | (simp;done) | (simp;omega)
theorem cmpI_swap (a b:Int):cmpI b a = - cmpI a b:=by unfold cmpI;split <;> split <;> (try split) <;> omega
theorem cmpL_swap:∀ a b:List Int,cmpL b a = - cmpL a b
  | [],[]=>rfl
  | [],_ :: _=>rfl
  | _ :: _,[]=>rfl
  | x :: a,y :: b=>by
    rw [cmpL,cmpL,cmpI_swap x y]
    by_cases h:cmpI x y=0
    . rw [if_neg (by omega),if_neg (by omega)];exact cmpL_swap a b
    . rw [if_pos (by omega),if_pos h]
section
variable {L:List (List Int)} (hL:LOk L.length L) (hs:Sym L) {j:Nat} (hj:j<L.length)
include hL hs hj
end
def cd209:Cd:=(.seq (.reg [⟨⟨some 2,.assign (.const (.bool false)),none⟩,[]⟩]) (.seq (.reg [⟨⟨some 3,.move (.tmp 0),none⟩,[]⟩,
  ⟨⟨some 4,.call ⟨(.value (.func 113)),#[.tmp 3,(.const (.int .i64 (-99))),(.const (.int .i64 99))],#[3,3,3]⟩,none⟩,[]⟩,
  ⟨⟨some 5,.unOp .not 4 (.tmp 4),none⟩,[]⟩,
  ⟨⟨some 2,.assign (.tmp 5),none⟩,[]⟩]) .ret))
theorem in209:InT Tryz.prog 209 1 [.tmp 2] cd209:=InT.mk (by kernel_rfl) [] Tryz.func209 rfl (by kernel_rfl) (by kernel_rfl) (of_decide_eq_true (by kernel_rfl)) (by kernel_rfl)
def cd170:Cd:=(.seq (.reg [⟨⟨some 2,.assign (.const (.bool false)),none⟩,[]⟩]) (.seq (.reg [⟨⟨some 3,.move (.tmp 0),none⟩,[]⟩,
  ⟨⟨some 4,.call ⟨(.builtin .len),#[.tmp 3],#[27]⟩,none⟩,[]⟩,
  ⟨⟨some 5,.binOp .leq 3 (.tmp 4) (.const (.int .i64 24)) 3,none⟩,[]⟩,
  ⟨⟨some 6,.move (.tmp 5),none⟩,[]⟩,
  ⟨⟨some 7,.move (.tmp 0),some (6,true)⟩,[]⟩,
  ⟨⟨some 8,.call ⟨(.value (.func 190)),#[.tmp 7,(.func 209)],#[27,98]⟩,some (6,true)⟩,[]⟩,
  ⟨⟨some 9,.unOp .not 4 (.tmp 8),some (6,true)⟩,[]⟩,
  ⟨⟨some 10,.pick (.tmp 6) (.tmp 9) (.const (.bool false)),none⟩,[]⟩,
  ⟨⟨some 2,.assign (.tmp 10),none⟩,[]⟩]) .ret))
theorem in170:InT Tryz.prog 170 1 [.tmp 2] cd170:=InT.mk (by kernel_rfl) [] Tryz.func170 rfl (by kernel_rfl) (by kernel_rfl) (of_decide_eq_true (by kernel_rfl)) (by kernel_rfl)
def cd89:Cd:=(.seq (.reg [⟨⟨some 1,.box 38 (.tmp 0),none⟩,[]⟩,⟨⟨some 2,.assign (.const (.bool false)),none⟩,[]⟩]) (.seq (.seq (.reg [⟨⟨some 5,.fieldAddr 38 (.tmp 1) 0,none⟩,[]⟩,⟨⟨some 6,.load 36 (.tmp 5),none⟩,[]⟩,⟨⟨some 7,.call ⟨(.builtin .len),#[.tmp 6],#[36]⟩,none⟩,[]⟩,⟨⟨some 8,.binOp .gtr 3 (.tmp 7) (.const (.int .i64 300)) 3,none⟩,[]⟩,⟨⟨some 9,.move (.tmp 8),none⟩,[]⟩,⟨⟨some 10,.fieldAddr 38 (.tmp 1) 1,some (9,false)⟩,[]⟩,⟨⟨some 11,.load 24 (.tmp 10),some (9,false)⟩,[]⟩,⟨⟨some 12,.call ⟨(.builtin .len),#[.tmp 11],#[24]⟩,some (9,false)⟩,[]⟩,⟨⟨some 13,.binOp .gtr 3 (.tmp 12) (.const (.int .i64 6000)) 3,some (9,false)⟩,[]⟩,⟨⟨some 14,.pick (.tmp 9) (.const (.bool true)) (.tmp 13),none⟩,[]⟩]) (.cond (.tmp 14) (.seq (.reg [⟨⟨some 2,.assign (.const (.bool false)),none⟩,[]⟩]) .ret) .skip)) (.seq (.seq (.reg [⟨⟨some 15,.fieldAddr 38 (.tmp 1) 0,none⟩,[]⟩,⟨⟨some 16,.load 36 (.tmp 15),none⟩,[]⟩,
 ⟨⟨some 17,.call ⟨(.builtin .len),#[.tmp 16],#[36]⟩,none⟩,[]⟩,⟨⟨some 18,.move (.const (.int .i64 0)),none⟩,[]⟩]) (.block 0 (.loop (.seq (.reg [⟨⟨some 19,.binOp .lss 3 (.tmp 18) (.tmp 17) 3,none⟩,[]⟩]) (.seq (.cond (.tmp 19) .skip (.exit 0)) (.seq (.block 1 (.seq (.reg [⟨⟨some 20,.move (.tmp 18),none⟩,[]⟩,⟨⟨some 21,.indexAddr 36 (.tmp 16) (.tmp 18),none⟩,[]⟩,⟨⟨some 22,.load 27 (.tmp 21),none⟩,[]⟩,⟨⟨some 3,.assign (.tmp 20),none⟩,[]⟩,⟨⟨some 4,.assign (.tmp 22),none⟩,[]⟩]) (.seq (.reg [⟨⟨some 23,.move (.tmp 4),none⟩,[]⟩,⟨⟨some 24,.call ⟨(.value (.func 170)),#[.tmp 23],#[27]⟩,none⟩,[]⟩,⟨⟨some 25,.unOp .not 4 (.tmp 24),none⟩,[]⟩,⟨⟨some 26,.move (.tmp 25),none⟩,[]⟩,⟨⟨some 27,.move (.tmp 3),some (26,false)⟩,[]⟩,⟨⟨some 28,.binOp .gtr 3 (.tmp 27) (.const (.int .i64 0)) 3,some (26,false)⟩,[]⟩,⟨⟨some 29,.move (.tmp 28),some (26,false)⟩,[]⟩,
 ⟨⟨some 30,.fieldAddr 38 (.tmp 1) 0,some (29,true)⟩,[]⟩,⟨⟨some 31,.load 36 (.tmp 30),some (29,true)⟩,[]⟩,⟨⟨some 32,.move (.tmp 3),some (29,true)⟩,[]⟩,⟨⟨some 33,.binOp .sub 3 (.tmp 32) (.const (.int .i64 1)) 3,some (29,true)⟩,[]⟩,⟨⟨some 34,.indexAddr 36 (.tmp 31) (.tmp 33),some (29,true)⟩,[]⟩,⟨⟨some 35,.load 27 (.tmp 34),some (29,true)⟩,[]⟩,⟨⟨some 36,.move (.tmp 4),some (29,true)⟩,[]⟩,⟨⟨some 37,.call ⟨(.value (.func 166)),#[.tmp 35,.tmp 36],#[27,27]⟩,some (29,true)⟩,[]⟩,⟨⟨some 38,.binOp .geq 3 (.tmp 37) (.const (.int .i64 0)) 3,some (29,true)⟩,[]⟩,⟨⟨some 39,.pick (.tmp 29) (.tmp 38) (.const (.bool false)),some (26,false)⟩,[]⟩,⟨⟨some 40,.pick (.tmp 26) (.const (.bool true)) (.tmp 39),none⟩,[]⟩]) (.cond (.tmp 40) (.seq (.reg [⟨⟨some 2,.assign (.const (.bool false)),none⟩,[]⟩]) .ret) .skip)))) (.reg [⟨⟨some 41,.binOp .add 3 (.tmp 18) (.const (.int .i64 1)) 3,none⟩,[]⟩,⟨⟨some 18,.move (.tmp 41),none⟩,[]⟩]))))))) (.seq (.reg [⟨⟨some 42,.fieldAddr 38 (.tmp 1) 1,none⟩,[]⟩,
 ⟨⟨some 43,.load 24 (.tmp 42),none⟩,[]⟩,
  ⟨⟨some 44,.fieldAddr 38 (.tmp 1) 0,none⟩,[]⟩,
  ⟨⟨some 45,.load 36 (.tmp 44),none⟩,[]⟩,
  ⟨⟨some 46,.call ⟨(.builtin .len),#[.tmp 45],#[36]⟩,none⟩,[]⟩,
  ⟨⟨some 47,.call ⟨(.value (.func 164)),#[.tmp 43,.tmp 46],#[24,3]⟩,none⟩,[]⟩,
  ⟨⟨some 2,.assign (.tmp 47),none⟩,[]⟩]) .ret))))
theorem in89:InT Tryz.prog 89 1 [.tmp 2] cd89:=InT.mk (by kernel_rfl) [] Tryz.func89 rfl (by kernel_rfl) (by kernel_rfl) (of_decide_eq_true (by kernel_rfl)) (by kernel_rfl)
def cd90:Cd:=(.seq (.reg [⟨⟨some 2,.box 38 (.tmp 0),none⟩,[]⟩,
  ⟨⟨some 4,.assign (.const (.bool false)),none⟩,[]⟩]) (.seq (.reg [⟨⟨some 5,.move (.tmp 1),none⟩,[]⟩,
  ⟨⟨some 6,.fieldAddr 38 (.tmp 2) 0,none⟩,[]⟩,
  ⟨⟨some 7,.load 36 (.tmp 6),none⟩,[]⟩,
  ⟨⟨some 8,.call ⟨(.builtin .len),#[.tmp 7],#[36]⟩,none⟩,[]⟩,
  ⟨⟨some 9,.binOp .sub 3 (.tmp 8) (.const (.int .i64 1)) 3,none⟩,[]⟩,
  ⟨⟨some 10,.call ⟨(.value (.func 113)),#[.tmp 5,(.const (.int .i64 0)),.tmp 9],#[3,3,3]⟩,none⟩,[]⟩,
  ⟨⟨some 4,.assign (.tmp 10),none⟩,[]⟩]) .ret))
theorem in90:InT Tryz.prog 90 2 [.tmp 4] cd90:=InT.mk (by kernel_rfl) [] Tryz.func90 rfl (by kernel_rfl) (by kernel_rfl) (of_decide_eq_true (by kernel_rfl)) (by kernel_rfl)
def cd20:Cd:=(.seq (.reg [⟨⟨some 2,.box 38 (.tmp 0),none⟩,[]⟩,⟨⟨some 4,.assign (.const (.slice none 0 0)),none⟩,[]⟩,⟨⟨some 5,.assign (.const (.bool false)),none⟩,[]⟩]) (.seq (.seq (.reg [⟨⟨some 6,.load 38 (.tmp 2),none⟩,[]⟩,⟨⟨some 7,.call ⟨(.value (.func 89)),#[.tmp 6],#[38]⟩,none⟩,[]⟩,⟨⟨some 8,.unOp .not 4 (.tmp 7),none⟩,[]⟩,⟨⟨some 9,.move (.tmp 8),none⟩,[]⟩,⟨⟨some 10,.load 38 (.tmp 2),some (9,false)⟩,[]⟩,⟨⟨some 11,.move (.tmp 1),some (9,false)⟩,[]⟩,⟨⟨some 12,.call ⟨(.value (.func 90)),#[.tmp 10,.tmp 11],#[38,3]⟩,some (9,false)⟩,[]⟩,⟨⟨some 13,.unOp .not 4 (.tmp 12),some (9,false)⟩,[]⟩,⟨⟨some 14,.pick (.tmp 9) (.const (.bool true)) (.tmp 13),none⟩,[]⟩]) (.cond (.tmp 14) (.seq (.reg [⟨⟨some 4,.assign (.const (.slice none 0 0)),none⟩,[]⟩,⟨⟨some 5,.assign (.const (.bool false)),none⟩,[]⟩]) .ret) .skip)) (.seq (.reg [⟨⟨some 15,.load 38 (.tmp 2),none⟩,[]⟩,
 ⟨⟨some 16,.call ⟨(.value (.func 91)),#[.tmp 15],#[38]⟩,none⟩,[]⟩,
  ⟨⟨some 17,.move (.tmp 1),none⟩,[]⟩,
  ⟨⟨some 18,.call ⟨(.value (.func 74)),#[.tmp 16,.tmp 17],#[36,3]⟩,none⟩,[]⟩,
  ⟨⟨some 4,.assign (.tmp 18),none⟩,[]⟩,
  ⟨⟨some 5,.assign (.const (.bool true)),none⟩,[]⟩]) .ret)))
theorem in20:InT Tryz.prog 20 2 [.tmp 4,.tmp 5] cd20:=InT.mk (by kernel_rfl) [] Tryz.func20 rfl (by kernel_rfl) (by kernel_rfl) (of_decide_eq_true (by kernel_rfl)) (by kernel_rfl)
end Go.Proofs.YtjnefjchconebaaGreat.Ai
namespace Go.Proofs.YtjnefjchconebaaGreat.Ai
open Go Go.RowKit
theorem isState1_c (y:Int)(H:AH):ACalls Tryz.prog 209 [.int .i64 y] H fun r H'=>r=.bool (!decide (-99<=y/\y<=99))/\H=H':=by
  refine in209 rfl ?_
  intro Q hQ
  simp (disch:=omega) only [cd209,SS,eq_self,reduceIte,reduceCtorEq,Nat.reduceEqDiff,Nat.reduceAdd]
  refine CallH.by (between_c y (-99) 99 H) ?_
  rintro _ _ ⟨rfl,rfl⟩
  simp (disch:=omega) only [SS,eq_self,reduceIte,reduceCtorEq,Nat.reduceEqDiff,Nat.reduceAdd]
  refine hQ _ _ _ ?_
  simp (disch:=omega) only [SS,eq_self,reduceIte,reduceCtorEq,Nat.reduceEqDiff,Nat.reduceAdd]
theorem isState_c (v:Value)(xs:List Int)(H:AH)(hr:Row 3 H v xs)(hl:xs.length<=24)(hx:∀ y ∈ xs,-99<=y/\y<=99) :
    ACalls Tryz.prog 170 [v] H fun r H'=>r=.bool true/\H=H':=by
  refine in170 rfl ?_
  intro Q hQ
  have e1:((xs.length:Nat):Int)<=24:=by omega
  simp (disch:=omega) only [cd170,hr.len Tryz.underlying27,decide_eq_true e1,SS,eq_self,reduceIte,reduceCtorEq,Nat.reduceEqDiff,Nat.reduceAdd]
  refine CallH.by (ContainsFunc_c v xs (fun y=>!decide (-99<=y/\y<=99)) 209 [] H hr (by omega) fun y _=>isState1_c y H) ?_
  rintro _ _ ⟨rfl,rfl⟩
  have:xs.any (fun y=>!decide (-99<=y/\y<=99))=false:=by
    rw [List.any_eq_false]
    intro y hy
    simp [hx y hy]
  rw [this]
  simp (disch:=omega) only [SS,eq_self,reduceIte,reduceCtorEq,Nat.reduceEqDiff,Nat.reduceAdd]
  refine hQ _ _ _ ?_
  simp (disch:=omega) only [SS,eq_self,reduceIte,reduceCtorEq,Nat.reduceEqDiff,Nat.reduceAdd]
theorem isSpaceT_c {a b:Value}{us:List Value}{ls:List (List Int)}{ps:List (Int × Int)}{H:AH}(hr:SpRow H a b ls ps)(h:Sts H a us ls)(hn:ls.length<=300)(hp:ps.length<=6000)(hst:∀ l ∈ ls,l.length<=24/\∀ y ∈ l,-99<=y/\y<=99)(hps:PrU ls.length ps ps.length) :
    ACalls Tryz.prog 89 [.agg (List.toArray [a,b])] H fun r H'=>r=.bool true/\H<+:H':=by
  refine in89 rfl ?_
  intro Q hQ
  simp (disch:=omega) only [cd89,hr.box,SS,eq_self,reduceIte,reduceCtorEq,Nat.reduceEqDiff,Nat.reduceAdd]
  generalize hA:H ++ [AObj.cells [a,b] 38 false]=A
  have pA:H<+:A:=by rw [<- hA];exact List.prefix_append _ _
  have cA:A[H.length]?=some (.cells [a,b] 38 false):=by rw [<- hA];exact at_new ..
  have hA2:=h.pre pA
  have rb:=hr.2.pre pA
  have hul:=h.len
  have e1:¬ (300:Int)<(ls.length:Int):=by omega
  have e2:¬ (6000:Int)<(ps.length:Int):=by omega
  simp (disch:=omega) only [cell_of cA,hA2.row.len Tryz.underlying36,hul,rb.len Tryz.underlying24,decide_eq_false e1,decide_eq_false e2,SS,eq_self,reduceIte,reduceCtorEq,Nat.reduceEqDiff,Nat.reduceAdd]
  refine LoopH.by (fun m s H'=>∃ i:Nat,m+i=ls.length/\s 1=.pointer (some ⟨H.length,0,none⟩)/\s 16=a/\s 17=.int .i64 (ls.length:Int)/\s 18=.int .i64 (i:Int)/\A=H') ls.length ?_ ?_
  . exact ⟨0,by simp,rfl,rfl,rfl,rfl,rfl⟩
  rintro m s _ ⟨i,hm,s1,s16,s17,s18,rfl⟩
  simp (disch:=omega) only [s1,s16,s17,s18,SS,eq_self,reduceIte,reduceCtorEq,Nat.reduceEqDiff,Nat.reduceAdd]
  refine brD.intro (fun g=>?_) (fun g=>?_)
  rotate_left
  . simp (disch:=omega) only [s1,s16,s17,s18,cell_of cA,hA2.row.len Tryz.underlying36,hul,SS,eq_self,reduceIte,reduceCtorEq,Nat.reduceEqDiff,Nat.reduceAdd]
    refine CallH.by (isPairsN_c b (ls.length:Int) ps A rb (by omega)) ?_
    rintro _ B ⟨rfl,pB⟩
    simp (disch:=omega) only [decide_eq_true hps,SS,eq_self,reduceIte,reduceCtorEq,Nat.reduceEqDiff,Nat.reduceAdd]
    refine hQ _ _ _ ?_
    simp (disch:=omega) only [decide_eq_true hps,SS,eq_self,reduceIte,reduceCtorEq,Nat.reduceEqDiff,Nat.reduceAdd]
    exact pA.trans pB
  have hi:i<ls.length:=by omega
  have hmem:ls.getD i [] ∈ ls:=by simp [hi]
  have hci:=hA2.row.cell (show i<us.length by omega)
  simp (disch:=omega) only [s1,s16,s17,s18,hA2.row.ix Tryz.underlying36 cs27,hul,Int.toNat_natCast,hci,SS,eq_self,reduceIte,reduceCtorEq,Nat.reduceEqDiff,Nat.reduceAdd]
  have hti:=(hA2.each i hi).tup
  refine CallH.by (isState_c _ _ A (hA2.each i hi) (hst _ hmem).1 (hst _ hmem).2) ?_
  rintro _ _ ⟨rfl,rfl⟩
  simp (disch:=omega) only [s1,s16,s17,s18,SS,eq_self,reduceIte,reduceCtorEq,Nat.reduceEqDiff,Nat.reduceAdd]
  by_cases h0:(0:Int)<(i:Int)
  rotate_left
  . simp (disch:=omega) only [s1,s16,s17,s18,decide_eq_false h0,wrap64,SS,eq_self,reduceIte,reduceCtorEq,Nat.reduceEqDiff,Nat.reduceAdd]
    refine ⟨m - 1,by omega,i+1,?_⟩
    (repeat' first | exact s1 | apply And.intro) <;> first | (simp only [Value.int.injEq,true_and];omega) | omega | rfl | assumption | (simp;done) | (simp;omega)
  have hcj:=hA2.row.cell (show i - 1<us.length by omega)
  have hw:IntKind.i64.wrap ((i:Int) - 1)=((i - 1:Nat):Int):=by rw [wrap64 (by omega) (by omega)];omega
  simp (disch:=omega) only [s1,s16,s17,s18,decide_eq_true h0,cell_of cA,hw,hA2.row.ix Tryz.underlying36 cs27,hul,Int.toNat_natCast,hcj,SS,eq_self,reduceIte,reduceCtorEq,Nat.reduceEqDiff,Nat.reduceAdd]
  refine CallH.by (CmpL_c _ _ _ _ A (hA2.each (i - 1) (by omega)) (hA2.each i hi) (h.small (i - 1) (by omega)) (h.small i hi)) ?_
  rintro _ _ ⟨rfl,rfl⟩
  have hc:¬ (0:Int)<=cmpL (ls.getD (i - 1) []) (ls.getD i []):=by
    have:=h.srt (i - 1) i (by omega) hi
    rw [cmpL_swap] at this
    omega
  simp (disch:=omega) only [s1,s16,s17,s18,decide_eq_false hc,wrap64,SS,eq_self,reduceIte,reduceCtorEq,Nat.reduceEqDiff,Nat.reduceAdd]
  refine ⟨m - 1,by omega,i+1,?_⟩
  (repeat' first | exact s1 | apply And.intro) <;> first | (simp only [Value.int.injEq,true_and];omega) | omega | rfl | assumption | (simp;done) | (simp;omega)
theorem isPlace_c {a b:Value}{us:List Value}{ls:List (List Int)}{ps:List (Int × Int)}{H:AH}(hr:SpRow H a b ls ps)(h:Sts H a us ls)(i:Int) :
    ACalls Tryz.prog 90 [.agg (List.toArray [a,b]),.int .i64 i] H fun r H'=>r=.bool (decide (0<=i/\i<=(ls.length:Int) - 1))/\H<+:H':=by
  refine in90 rfl ?_
  intro Q hQ
  have hb:=h.bnd
  simp (disch:=omega) only [cd90,hr.box,SS,eq_self,reduceIte,reduceCtorEq,Nat.reduceEqDiff,Nat.reduceAdd]
  generalize hA:H ++ [AObj.cells [a,b] 38 false]=A
  have pA:H<+:A:=by rw [<- hA];exact List.prefix_append _ _
  have cA:A[H.length]?=some (.cells [a,b] 38 false):=by rw [<- hA];exact at_new ..
  have hul:=h.len
  simp (disch:=omega) only [cell_of cA,(h.pre pA).row.len Tryz.underlying36,hul,wrap64,SS,eq_self,reduceIte,reduceCtorEq,Nat.reduceEqDiff,Nat.reduceAdd]
  refine CallH.by (between_c i 0 ((ls.length:Int) - 1) A) ?_
  rintro _ _ ⟨rfl,rfl⟩
  simp (disch:=omega) only [SS,eq_self,reduceIte,reduceCtorEq,Nat.reduceEqDiff,Nat.reduceAdd]
  refine hQ _ _ _ ?_
  simp (disch:=omega) only [SS,eq_self,reduceIte,reduceCtorEq,Nat.reduceEqDiff,Nat.reduceAdd]
  exact pA
theorem DistI_c {a b:Value}{us:List Value}{ls:List (List Int)}{ps:List (Int × Int)}{H:AH}(hr:SpRow H a b ls ps)(h:Sts H a us ls)(hn:ls.length<=300)(hp:ps.length<=6000)(hst:∀ l ∈ ls,l.length<=24/\∀ y ∈ l,-99<=y/\y<=99)(hpu:PrU ls.length ps ps.length)(hps:StpOk ls.length ps)(hdeg:∀ x,(nbS ps x).length<=12){i:Nat}(hi:i<ls.length) :
    ACalls Tryz.prog 20 [.agg (List.toArray [a,b]),.int .i64 (i:Int)] H fun r H'=>∃ g,r=.tuple (List.toArray [g,.bool true])/\Own 3 H H' g (bfs (rdS ls.length ps) i)/\H<+:H':=by
  refine in20 rfl ?_
  intro Q hQ
  simp (disch:=omega) only [cd20,hr.box,SS,eq_self,reduceIte,reduceCtorEq,Nat.reduceEqDiff,Nat.reduceAdd]
  generalize hA:H ++ [AObj.cells [a,b] 38 false]=A
  have pA:H<+:A:=by rw [<- hA];exact List.prefix_append _ _
  have cA:A[H.length]?=some (.cells [a,b] 38 false):=by rw [<- hA];exact at_new ..
  simp (disch:=omega) only [ld_agg ag38 cs38 cA,SS,eq_self,reduceIte,reduceCtorEq,Nat.reduceEqDiff,Nat.reduceAdd]
  refine CallH.by (isSpaceT_c (hr.pre pA) (h.pre pA) hn hp hst hpu) ?_
  rintro _ B ⟨rfl,pB⟩
  have cB:=pre_at pB cA
  simp (disch:=omega) only [ld_agg ag38 cs38 cB,SS,eq_self,reduceIte,reduceCtorEq,Nat.reduceEqDiff,Nat.reduceAdd]
  refine CallH.by (isPlace_c ((hr.pre pA).pre pB) ((h.pre pA).pre pB) (i:Int)) ?_
  rintro _ C ⟨rfl,pC⟩
  have cC:=pre_at pC cB
  simp (disch:=omega) only [decide_eq_true (show (0:Int)<=i/\(i:Int)<=(ls.length:Int) - 1 by omega),ld_agg ag38 cs38 cC,SS,eq_self,reduceIte,reduceCtorEq,Nat.reduceEqDiff,Nat.reduceAdd]
  refine CallH.by (spRoads_c a b ls ps C (((hr.pre pA).pre pB).pre pC) (by omega) (by omega) hps hdeg) ?_
  rintro rv D ⟨⟨bd,hD⟩,pD⟩
  try simp (disch:=omega) only [SS,eq_self,reduceIte,reduceCtorEq,Nat.reduceEqDiff,Nat.reduceAdd]
  refine CallH.by (spread_c rv (rdS ls.length ps) i D hD (rdS_ok hps) (by rw [rdS_len];omega) (by rw [rdS_len];exact hi) (fun x=>?_)) ?_
  . by_cases hx:x<ls.length
    . have e:(rdS ls.length ps).getD x []=nbS ps (x:Int):=by unfold rdS;simp [hx]
      rw [e]
      have:=hdeg (x:Int)
      omega
    . have e:(rdS ls.length ps).getD x []=[]:=by unfold rdS;simp [hx]
      rw [e]
      simp
  rintro g E ⟨hg,pE⟩
  have hgt:=hg.row.tup
  try simp (disch:=omega) only [hgt,SS,eq_self,reduceIte,reduceCtorEq,Nat.reduceEqDiff,Nat.reduceAdd]
  refine hQ _ _ _ ?_
  try simp (disch:=omega) only [hgt,SS,eq_self,reduceIte,reduceCtorEq,Nat.reduceEqDiff,Nat.reduceAdd]
  have pp:=pA.trans (pB.trans (pC.trans pD))
  exact ⟨g,rfl,own_base hg pp.length_le,pp.trans pE⟩
def cd21:Cd:=(.seq (.reg [⟨⟨some 4,.assign (.const (.slice none 0 0)),none⟩,[]⟩,⟨⟨some 5,.assign (.const (.bool false)),none⟩,[]⟩]) (.seq (.seq (.reg [⟨⟨some 9,.move (.tmp 0),none⟩,[]⟩,⟨⟨some 10,.call ⟨(.value (.func 92)),#[.tmp 9],#[27]⟩,none⟩,[]⟩,⟨⟨some 11,.unOp .not 4 (.tmp 10),none⟩,[]⟩]) (.cond (.tmp 11) (.seq (.reg [⟨⟨some 4,.assign (.const (.slice none 0 0)),none⟩,[]⟩,⟨⟨some 5,.assign (.const (.bool false)),none⟩,[]⟩]) .ret) .skip)) (.seq (.reg [⟨⟨some 12,.move (.tmp 0),none⟩,[]⟩,⟨⟨some 13,.call ⟨(.value (.func 93)),#[.tmp 12],#[27]⟩,none⟩,[]⟩,⟨⟨some 6,.assign (.tmp 13),none⟩,[]⟩]) (.seq (.seq (.reg [⟨⟨some 14,.move (.tmp 1),none⟩,[]⟩,⟨⟨some 15,.call ⟨(.builtin .len),#[.tmp 14],#[24]⟩,none⟩,[]⟩,⟨⟨some 16,.move (.const (.int .i64 0)),none⟩,[]⟩]) (.block 0 (.loop (.seq (.reg [⟨⟨some 17,.binOp .lss 3 (.tmp 16) (.tmp 15) 3,none⟩,[]⟩]) (.seq (.cond (.tmp 17) .skip (.exit 0)) (.seq (.block 1 (.seq (.reg [⟨⟨some 18,.indexAddr 24 (.tmp 14) (.tmp 16),none⟩,[]⟩,⟨⟨some 19,.load 47 (.tmp 18),none⟩,[]⟩,⟨⟨some 8,.alloc 47,none⟩,[]⟩,⟨⟨none,.store 47 (.tmp 8) (.tmp 19),none⟩,[]⟩]) (.seq (.seq (.reg [⟨⟨some 20,.indexAddr 47 (.tmp 8) (.const (.int .i64 0)),none⟩,[]⟩,
 ⟨⟨some 21,.load 3 (.tmp 20),none⟩,[]⟩,⟨⟨some 22,.binOp .lss 3 (.tmp 21) (.const (.int .i64 0)) 3,none⟩,[]⟩,⟨⟨some 23,.move (.tmp 22),none⟩,[]⟩,⟨⟨some 24,.indexAddr 47 (.tmp 8) (.const (.int .i64 1)),some (23,false)⟩,[]⟩,⟨⟨some 25,.load 3 (.tmp 24),some (23,false)⟩,[]⟩,⟨⟨some 26,.indexAddr 47 (.tmp 8) (.const (.int .i64 0)),some (23,false)⟩,[]⟩,⟨⟨some 27,.load 3 (.tmp 26),some (23,false)⟩,[]⟩,⟨⟨some 28,.binOp .leq 3 (.tmp 25) (.tmp 27) 3,some (23,false)⟩,[]⟩,⟨⟨some 29,.pick (.tmp 23) (.const (.bool true)) (.tmp 28),none⟩,[]⟩,⟨⟨some 30,.move (.tmp 29),none⟩,[]⟩,⟨⟨some 31,.indexAddr 47 (.tmp 8) (.const (.int .i64 1)),some (30,false)⟩,[]⟩,⟨⟨some 32,.load 3 (.tmp 31),some (30,false)⟩,[]⟩,
 ⟨⟨some 33,.move (.tmp 0),some (30,false)⟩,[]⟩,
  ⟨⟨some 34,.call ⟨(.builtin .len),#[.tmp 33],#[27]⟩,some (30,false)⟩,[]⟩,
  ⟨⟨some 35,.binOp .geq 3 (.tmp 32) (.tmp 34) 3,some (30,false)⟩,[]⟩,
  ⟨⟨some 36,.pick (.tmp 30) (.const (.bool true)) (.tmp 35),none⟩,[]⟩]) (.cond (.tmp 36) (.seq (.reg [⟨⟨some 4,.assign (.const (.slice none 0 0)),none⟩,[]⟩,
  ⟨⟨some 5,.assign (.const (.bool false)),none⟩,[]⟩]) .ret) .skip)) (.reg [⟨⟨some 37,.move (.tmp 6),none⟩,[]⟩,
  ⟨⟨some 38,.load 47 (.tmp 8),none⟩,[]⟩,
  ⟨⟨some 39,.call ⟨(.value (.func 94)),#[.tmp 37,.tmp 38],#[27,47]⟩,none⟩,[]⟩,
  ⟨⟨some 6,.assign (.tmp 39),none⟩,[]⟩])))) (.reg [⟨⟨some 40,.binOp .add 3 (.tmp 16) (.const (.int .i64 1)) 3,none⟩,[]⟩,
  ⟨⟨some 16,.move (.tmp 40),none⟩,[]⟩]))))))) (.seq (.reg [⟨⟨some 41,.move (.tmp 6),none⟩,[]⟩,
  ⟨⟨some 4,.assign (.tmp 41),none⟩,[]⟩,
  ⟨⟨some 5,.assign (.const (.bool true)),none⟩,[]⟩]) .ret)))))
theorem in21:InT Tryz.prog 21 2 [.tmp 4,.tmp 5] cd21:=InT.mk (by kernel_rfl) [] Tryz.func21 rfl (by kernel_rfl) (by kernel_rfl) (of_decide_eq_true (by kernel_rfl)) (by kernel_rfl)
end Go.Proofs.YtjnefjchconebaaGreat.Ai
namespace Go.Proofs.YtjnefjchconebaaGreat.Ai
open Go Go.RowKit
theorem plc_bad {p:List Int}{ss:List (Int × Int)}{i:Nat}(hi:i<ss.length)(h:¬ swOk p.length (ss.getD i (0,0))):¬ plcOk p ss:=by
  intro hh
  refine h (hh.2 _ ?_)
  simp [hi]
theorem plc_all {p:List Int}{ss:List (Int × Int)}(hp:Prm p)(h:∀ j,j<ss.length->swOk p.length (ss.getD j (0,0))):plcOk p ss:=by
  refine ⟨hp,fun s hs=>?_⟩
  obtain ⟨i,hi,e⟩:=List.getElem_of_mem hs
  have:=h i hi
  rw [show ss.getD i (0,0)=s from by simp [hi,e]] at this
  exact this
theorem PlaceI_c (v w:Value)(p:List Int)(ss:List (Int × Int))(H:AH)(hr:Row 3 H v p)(hlen:p.length<=1099511627776)(hxs:∀ y ∈ p,I64 y)(hr2:RowP 47 H w ss)(hlen2:ss.length<=1099511627776)(hss:∀ s ∈ ss,I64 s.1/\I64 s.2) :
    ACalls Tryz.prog 21 [v,w] H fun r H'=>∃ g,r=.tuple (List.toArray [g,.bool (decide (plcOk p ss))])/\Mine 3 H H' g (placeR p ss)/\H<+:H':=by
  refine in21 rfl ?_
  intro Q hQ
  simp (disch:=omega) only [cd21,SS,eq_self,reduceIte,reduceCtorEq,Nat.reduceEqDiff,Nat.reduceAdd]
  refine CallH.by (PermI_c v p H hr hlen hxs) ?_
  rintro _ H0 ⟨rfl,hq0⟩
  have hr0:=hr.pre hq0
  simp (disch:=omega) only [SS,eq_self,reduceIte,reduceCtorEq,Nat.reduceEqDiff,Nat.reduceAdd]
  refine brD.intro (fun hp=>?_) (fun hp=>?_) <;> simp (disch:=omega) only [hp,SS,eq_self,reduceIte,reduceCtorEq,Nat.reduceEqDiff,Nat.reduceAdd]
  . have h8:=hp.1
    refine CallH.by (Clone_c v p H0 hr0 hlen) ?_
    rintro u0 H1 ⟨ho0',hp1⟩
    have ho0:=ho0'.base hq0
    have hp0:=hq0.trans hp1
    simp (disch:=omega) only [(hr2.pre hp0).len Tryz.underlying24,SS,eq_self,reduceIte,reduceCtorEq,Nat.reduceEqDiff,Nat.reduceAdd]
    refine LoopH.by (fun m s H'=>∃ i,m+i=ss.length/\s 0=v/\s 14=w/\s 15=.int .i64 (ss.length:Int)/\s 16=.int .i64 ((i:Nat):Int)/\Own 3 H H' (s 6) (plcSt p (ss.take i))/\H<+:H'/\∀ j,j<i->swOk p.length (ss.getD j (0,0))) ss.length ?_ ?_
    . refine ⟨0,by simp,rfl,rfl,rfl,rfl,?_,hp0,by omega⟩
      simp (disch:=omega) only [SS,eq_self,reduceIte,reduceCtorEq,Nat.reduceEqDiff,Nat.reduceAdd];exact ho0
    . rintro m s H' ⟨i,hm,h0,h14,h15,h16,ho,hpp,hall⟩
      have hr':=hr.pre hpp
      have hr2':=hr2.pre hpp
      have hl:=plcSt_len (ss.take i) p
      generalize hw:s 6=u at *
      simp (disch:=omega) only [h0,h14,h15,h16,hw,SS,eq_self,reduceIte,reduceCtorEq,Nat.reduceEqDiff,Nat.reduceAdd]
      refine brD.intro (fun g=>?_) (fun g=>?_)
      . have hi:i<ss.length:=by omega
        have hst:=plcSt_step p ss i hi
        have hbad:=fun h=>plc_bad (p:=p) hi h
        have hstep:swOk p.length (ss.getD i (0,0))->∀ j,j<i+1->swOk p.length (ss.getD j (0,0)):=by
          intro h j hj
          by_cases e:j=i
          . subst e;exact h
          . exact hall j (by omega)
        have ldi:=hr2'.ld ag47 cs47 hi
        generalize hsi:ss.getD i (0,0)=sw at *
        obtain ⟨a,b⟩:=sw
        have st:=store_a2 H' [.int .i64 0,.int .i64 0] rfl (.int .i64 a) (.int .i64 b)
        have pA:=List.prefix_append H' [AObj.cells [.int .i64 a,.int .i64 b] 47 false]
        have aA:=at_new H' (AObj.cells [.int .i64 a,.int .i64 b] 47 false)
        simp (disch:=omega) only [h0,h14,h15,h16,hw,hr2'.ix Tryz.underlying24 cs47,Int.toNat_natCast,ldi,alloc_a2,st,SS,eq_self,reduceIte,reduceCtorEq,Nat.reduceEqDiff,Nat.reduceAdd]
        generalize H' ++ [AObj.cells [.int .i64 a,.int .i64 b] 47 false]=A at *
        have hppA:=hpp.trans pA
        have hrA:=hr'.pre pA
        have c0:cellA A H'.length 0=some (.int .i64 a):=by rw [cell_of aA];rfl
        have c1:cellA A H'.length 1=some (.int .i64 b):=by rw [cell_of aA];rfl
        have ld:=ld_a2 aA
        have fail:¬ swOk p.length (a,b)->placeR p ss=[]/\decide (plcOk p ss)=false:=fun h=>⟨if_neg (hbad h),decide_eq_false (hbad h)⟩
        simp (disch:=omega) only [h0,h14,h15,h16,hw,c0,c1,ld,hrA.len Tryz.underlying27,SS,eq_self,reduceIte,reduceCtorEq,Nat.reduceEqDiff,Nat.reduceAdd]
        refine brD.intro (fun e1=>?_) (fun e1=>?_) <;> simp (disch:=omega) only [e1,h0,h14,h15,h16,hw,c0,c1,ld,hrA.len Tryz.underlying27,SS,eq_self,reduceIte,reduceCtorEq,Nat.reduceEqDiff,Nat.reduceAdd]
        . refine hQ _ _ _ ?_
          simp (disch:=omega) only [SS,eq_self,reduceIte,reduceCtorEq,Nat.reduceEqDiff,Nat.reduceAdd]
          obtain ⟨f1,f2⟩:=fail (fun h=>by have:=h.1;simp at this;omega)
          rw [f1,f2]
          exact ⟨.slice none 0 0,rfl,.inl ⟨rfl,rfl⟩,hppA⟩
        . refine brD.intro (fun e2=>?_) (fun e2=>?_) <;> simp (disch:=omega) only [e1,e2,h0,h14,h15,h16,hw,c0,c1,ld,hrA.len Tryz.underlying27,SS,eq_self,reduceIte,reduceCtorEq,Nat.reduceEqDiff,Nat.reduceAdd]
          . refine hQ _ _ _ ?_
            simp (disch:=omega) only [SS,eq_self,reduceIte,reduceCtorEq,Nat.reduceEqDiff,Nat.reduceAdd]
            obtain ⟨f1,f2⟩:=fail (fun h=>by have:=h.2.1;simp at this;omega)
            rw [f1,f2]
            exact ⟨.slice none 0 0,rfl,.inl ⟨rfl,rfl⟩,hppA⟩
          . refine brD.intro (fun e3=>?_) (fun e3=>?_) <;> simp (disch:=omega) only [e1,e2,e3,h0,h14,h15,h16,hw,c0,c1,ld,hrA.len Tryz.underlying27,SS,eq_self,reduceIte,reduceCtorEq,Nat.reduceEqDiff,Nat.reduceAdd]
            . refine hQ _ _ _ ?_
              simp (disch:=omega) only [SS,eq_self,reduceIte,reduceCtorEq,Nat.reduceEqDiff,Nat.reduceAdd]
              obtain ⟨f1,f2⟩:=fail (fun h=>by have:=h.2.2;simp at this;omega)
              rw [f1,f2]
              exact ⟨.slice none 0 0,rfl,.inl ⟨rfl,rfl⟩,hppA⟩
            . obtain ⟨an,rfl⟩:=Int.eq_ofNat_of_zero_le (show 0<=a by omega)
              obtain ⟨bn,rfl⟩:=Int.eq_ofNat_of_zero_le (show 0<=b by omega)
              have kok:=hstep ⟨by simp,by simp;omega,by simp;omega⟩
              refine CallH.by (swapped_c u _ an bn A (ho.row.pre pA) (by omega) (by omega) (by omega)) ?_
              rintro r H3 ⟨ho3,hp3⟩
              have ko:=ho3.base hppA
              have kpp:=hppA.trans hp3
              simp only [Int.toNat_natCast] at hst
              simp (disch:=omega) only [h0,h14,h15,h16,hw,wrap64,SS,eq_self,reduceIte,reduceCtorEq,Nat.reduceEqDiff,Nat.reduceAdd]
              refine ⟨m - 1,by omega,i+1,?_⟩
              rw [hst]
              (repeat' first | exact ko | exact kpp | exact kok | apply And.intro) <;> first | (simp only [Value.int.injEq,true_and];omega) | omega | rfl | assumption | (simp;done) | (simp;omega)
      . simp (disch:=omega) only [hw,SS,eq_self,reduceIte,reduceCtorEq,Nat.reduceEqDiff,Nat.reduceAdd]
        refine hQ _ _ _ ?_
        simp (disch:=omega) only [hw,ho.row.tup,SS,eq_self,reduceIte,reduceCtorEq,Nat.reduceEqDiff,Nat.reduceAdd]
        have hx:i=ss.length:=by omega
        subst hx
        rw [List.take_length] at ho
        have hok:=plc_all hp hall
        exact ⟨u,by simp [hok],by simpa [placeR,hok] using ho.mine,hpp⟩
  . refine hQ _ _ _ ?_
    simp (disch:=omega) only [SS,eq_self,reduceIte,reduceCtorEq,Nat.reduceEqDiff,Nat.reduceAdd]
    have hok:¬ plcOk p ss:=fun h=>hp h.1
    exact ⟨.slice none 0 0,by simp [hok],by rw [placeR,if_neg hok];exact .inl ⟨rfl,rfl⟩,hq0⟩
def cd3:Cd:=(.seq (.reg [⟨⟨some 2,.assign (.const (.bool false)),none⟩,[]⟩]) (.seq (.seq (.reg [⟨⟨some 38,.move (.tmp 0),none⟩,[]⟩,⟨⟨some 39,.call ⟨(.value (.func 6)),#[.tmp 38],#[22]⟩,none⟩,[]⟩]) (.cond (.tmp 39) (.seq (.reg [⟨⟨some 2,.assign (.const (.bool true)),none⟩,[]⟩]) .ret) .skip)) (.seq (.reg [⟨⟨some 41,.move (.tmp 0),none⟩,[]⟩,⟨⟨some 42,.call ⟨(.value (.func 7)),#[.tmp 41],#[22]⟩,none⟩,[]⟩,⟨⟨some 40,.move (.tmp 42),none⟩,[]⟩,⟨⟨some 43,.extract (.tmp 40) 0,none⟩,[]⟩,⟨⟨some 44,.extract (.tmp 40) 1,none⟩,[]⟩,⟨⟨some 3,.alloc 26,none⟩,[]⟩,⟨⟨none,.store 26 (.tmp 3) (.tmp 43),none⟩,[]⟩,⟨⟨some 4,.assign (.tmp 44),none⟩,[]⟩]) (.seq (.reg [⟨⟨some 46,.load 26 (.tmp 3),none⟩,[]⟩,⟨⟨some 47,.move (.tmp 4),none⟩,[]⟩,⟨⟨some 48,.call ⟨(.value (.func 8)),#[.tmp 46,.tmp 47],#[26,27]⟩,none⟩,[]⟩,⟨⟨some 45,.move (.tmp 48),none⟩,[]⟩,
 ⟨⟨some 49,.extract (.tmp 45) 0,none⟩,[]⟩,⟨⟨some 50,.extract (.tmp 45) 1,none⟩,[]⟩,⟨⟨some 5,.assign (.tmp 49),none⟩,[]⟩,⟨⟨some 6,.assign (.tmp 50),none⟩,[]⟩]) (.seq (.reg [⟨⟨some 52,.load 26 (.tmp 3),none⟩,[]⟩,⟨⟨some 53,.move (.tmp 4),none⟩,[]⟩,⟨⟨some 54,.call ⟨(.value (.func 9)),#[.tmp 52,.tmp 53],#[26,27]⟩,none⟩,[]⟩,⟨⟨some 51,.move (.tmp 54),none⟩,[]⟩,⟨⟨some 55,.extract (.tmp 51) 0,none⟩,[]⟩,⟨⟨some 56,.extract (.tmp 51) 1,none⟩,[]⟩,⟨⟨some 7,.assign (.tmp 55),none⟩,[]⟩,⟨⟨some 8,.assign (.tmp 56),none⟩,[]⟩]) (.seq (.reg [⟨⟨some 58,.load 26 (.tmp 3),none⟩,[]⟩,⟨⟨some 59,.move (.tmp 4),none⟩,[]⟩,
 ⟨⟨some 60,.call ⟨(.value (.func 10)),#[.tmp 58,.tmp 59],#[26,27]⟩,none⟩,[]⟩,⟨⟨some 57,.move (.tmp 60),none⟩,[]⟩,⟨⟨some 61,.extract (.tmp 57) 0,none⟩,[]⟩,⟨⟨some 62,.extract (.tmp 57) 1,none⟩,[]⟩,⟨⟨some 9,.assign (.tmp 61),none⟩,[]⟩,⟨⟨some 10,.assign (.tmp 62),none⟩,[]⟩]) (.seq (.reg [⟨⟨some 64,.load 26 (.tmp 3),none⟩,[]⟩,⟨⟨some 65,.move (.tmp 4),none⟩,[]⟩,⟨⟨some 66,.call ⟨(.value (.func 11)),#[.tmp 64,.tmp 65],#[26,27]⟩,none⟩,[]⟩,⟨⟨some 63,.move (.tmp 66),none⟩,[]⟩,⟨⟨some 67,.extract (.tmp 63) 0,none⟩,[]⟩,⟨⟨some 68,.extract (.tmp 63) 1,none⟩,[]⟩,⟨⟨some 11,.assign (.tmp 67),none⟩,[]⟩,
 ⟨⟨some 12,.assign (.tmp 68),none⟩,[]⟩]) (.seq (.reg [⟨⟨some 70,.load 26 (.tmp 3),none⟩,[]⟩,⟨⟨some 71,.move (.tmp 4),none⟩,[]⟩,⟨⟨some 72,.call ⟨(.value (.func 12)),#[.tmp 70,.tmp 71],#[26,27]⟩,none⟩,[]⟩,⟨⟨some 69,.move (.tmp 72),none⟩,[]⟩,⟨⟨some 73,.extract (.tmp 69) 0,none⟩,[]⟩,⟨⟨some 74,.extract (.tmp 69) 1,none⟩,[]⟩,⟨⟨some 13,.assign (.tmp 73),none⟩,[]⟩,⟨⟨some 14,.assign (.tmp 74),none⟩,[]⟩]) (.seq (.reg [⟨⟨some 76,.load 26 (.tmp 3),none⟩,[]⟩,⟨⟨some 77,.move (.tmp 4),none⟩,[]⟩,⟨⟨some 78,.call ⟨(.value (.func 13)),#[.tmp 76,.tmp 77],#[26,27]⟩,none⟩,[]⟩,⟨⟨some 75,.move (.tmp 78),none⟩,[]⟩,⟨⟨some 79,.extract (.tmp 75) 0,none⟩,[]⟩,
 ⟨⟨some 80,.extract (.tmp 75) 1,none⟩,[]⟩,⟨⟨some 15,.assign (.tmp 79),none⟩,[]⟩,⟨⟨some 16,.assign (.tmp 80),none⟩,[]⟩]) (.seq (.reg [⟨⟨some 81,.move (.tmp 0),none⟩,[]⟩,⟨⟨some 82,.call ⟨(.value (.func 15)),#[.tmp 81,(.const (.int .i64 1))],#[22,3]⟩,none⟩,[]⟩,⟨⟨some 83,.call ⟨(.value (.func 14)),#[.tmp 82],#[22]⟩,none⟩,[]⟩,⟨⟨some 17,.alloc 26,none⟩,[]⟩,⟨⟨none,.store 26 (.tmp 17) (.tmp 83),none⟩,[]⟩]) (.seq (.reg [⟨⟨some 85,.load 26 (.tmp 17),none⟩,[]⟩,⟨⟨some 86,.call ⟨(.value (.func 16)),#[.tmp 85],#[26]⟩,none⟩,[]⟩,⟨⟨some 84,.move (.tmp 86),none⟩,[]⟩,⟨⟨some 87,.extract (.tmp 84) 0,none⟩,[]⟩,⟨⟨some 88,.extract (.tmp 84) 1,none⟩,[]⟩,⟨⟨some 18,.alloc 38,none⟩,[]⟩,
 ⟨⟨none,.store 38 (.tmp 18) (.tmp 87),none⟩,[]⟩,⟨⟨some 19,.assign (.tmp 88),none⟩,[]⟩]) (.seq (.reg [⟨⟨some 90,.load 26 (.tmp 17),none⟩,[]⟩,⟨⟨some 91,.call ⟨(.value (.func 17)),#[.tmp 90],#[26]⟩,none⟩,[]⟩,⟨⟨some 89,.move (.tmp 91),none⟩,[]⟩,⟨⟨some 92,.extract (.tmp 89) 0,none⟩,[]⟩,⟨⟨some 93,.extract (.tmp 89) 1,none⟩,[]⟩,⟨⟨some 20,.alloc 38,none⟩,[]⟩,⟨⟨none,.store 38 (.tmp 20) (.tmp 92),none⟩,[]⟩,⟨⟨some 21,.assign (.tmp 93),none⟩,[]⟩]) (.seq (.seq (.reg [⟨⟨some 94,.move (.tmp 6),none⟩,[]⟩,⟨⟨some 95,.move (.tmp 8),none⟩,[]⟩,⟨⟨some 96,.binOp .neq 4 (.tmp 94) (.tmp 95) 4,none⟩,[]⟩,⟨⟨some 97,.move (.tmp 96),none⟩,[]⟩,
 ⟨⟨some 98,.move (.tmp 5),some (97,false)⟩,[]⟩,⟨⟨some 99,.move (.tmp 7),some (97,false)⟩,[]⟩,⟨⟨some 100,.call ⟨(.value (.func 18)),#[.tmp 98,.tmp 99],#[24,24]⟩,some (97,false)⟩,[]⟩,⟨⟨some 101,.unOp .not 4 (.tmp 100),some (97,false)⟩,[]⟩,⟨⟨some 102,.pick (.tmp 97) (.const (.bool true)) (.tmp 101),none⟩,[]⟩,⟨⟨some 103,.move (.tmp 102),none⟩,[]⟩,⟨⟨some 104,.move (.tmp 9),some (103,false)⟩,[]⟩,⟨⟨some 105,.move (.tmp 11),some (103,false)⟩,[]⟩,⟨⟨some 106,.binOp .neq 3 (.tmp 104) (.tmp 105) 3,some (103,false)⟩,[]⟩,⟨⟨some 107,.pick (.tmp 103) (.const (.bool true)) (.tmp 106),none⟩,[]⟩,⟨⟨some 108,.move (.tmp 107),none⟩,[]⟩,⟨⟨some 109,.move (.tmp 10),some (108,false)⟩,[]⟩,
 ⟨⟨some 110,.move (.tmp 12),some (108,false)⟩,[]⟩,⟨⟨some 111,.binOp .neq 4 (.tmp 109) (.tmp 110) 4,some (108,false)⟩,[]⟩,⟨⟨some 112,.pick (.tmp 108) (.const (.bool true)) (.tmp 111),none⟩,[]⟩,⟨⟨some 113,.move (.tmp 112),none⟩,[]⟩,⟨⟨some 114,.move (.tmp 13),some (113,false)⟩,[]⟩,⟨⟨some 115,.move (.tmp 15),some (113,false)⟩,[]⟩,⟨⟨some 116,.binOp .neq 3 (.tmp 114) (.tmp 115) 3,some (113,false)⟩,[]⟩,⟨⟨some 117,.pick (.tmp 113) (.const (.bool true)) (.tmp 116),none⟩,[]⟩,⟨⟨some 118,.move (.tmp 117),none⟩,[]⟩,⟨⟨some 119,.move (.tmp 14),some (118,false)⟩,[]⟩,⟨⟨some 120,.move (.tmp 16),some (118,false)⟩,[]⟩,⟨⟨some 121,.binOp .neq 4 (.tmp 119) (.tmp 120) 4,some (118,false)⟩,[]⟩,
 ⟨⟨some 122,.pick (.tmp 118) (.const (.bool true)) (.tmp 121),none⟩,[]⟩,⟨⟨some 123,.move (.tmp 122),none⟩,[]⟩,⟨⟨some 124,.move (.tmp 19),some (123,false)⟩,[]⟩,⟨⟨some 125,.move (.tmp 21),some (123,false)⟩,[]⟩,⟨⟨some 126,.binOp .neq 4 (.tmp 124) (.tmp 125) 4,some (123,false)⟩,[]⟩,⟨⟨some 127,.pick (.tmp 123) (.const (.bool true)) (.tmp 126),none⟩,[]⟩,⟨⟨some 128,.move (.tmp 127),none⟩,[]⟩,⟨⟨some 129,.load 38 (.tmp 18),some (128,false)⟩,[]⟩,⟨⟨some 130,.load 38 (.tmp 20),some (128,false)⟩,[]⟩,⟨⟨some 131,.call ⟨(.value (.func 19)),#[.tmp 129,.tmp 130],#[38,38]⟩,some (128,false)⟩,[]⟩,⟨⟨some 132,.unOp .not 4 (.tmp 131),some (128,false)⟩,[]⟩,⟨⟨some 133,.pick (.tmp 128) (.const (.bool true)) (.tmp 132),none⟩,[]⟩,
 ⟨⟨some 134,.move (.tmp 133),none⟩,[]⟩,⟨⟨some 135,.move (.tmp 6),some (134,false)⟩,[]⟩,⟨⟨some 136,.move (.tmp 10),some (134,false)⟩,[]⟩,⟨⟨some 137,.binOp .neq 4 (.tmp 135) (.tmp 136) 4,some (134,false)⟩,[]⟩,⟨⟨some 138,.pick (.tmp 134) (.const (.bool true)) (.tmp 137),none⟩,[]⟩]) (.cond (.tmp 138) (.seq (.reg [⟨⟨some 2,.assign (.const (.bool false)),none⟩,[]⟩]) .ret) .skip)) (.seq (.seq (.reg [⟨⟨some 139,.move (.tmp 19),none⟩,[]⟩,⟨⟨some 140,.move (.tmp 139),none⟩,[]⟩,⟨⟨some 141,.fieldAddr 38 (.tmp 18) 0,some (140,true)⟩,[]⟩,⟨⟨some 142,.load 36 (.tmp 141),some (140,true)⟩,[]⟩,⟨⟨some 143,.call ⟨(.builtin .len),#[.tmp 142],#[36]⟩,some (140,true)⟩,[]⟩,⟨⟨some 144,.binOp .gtr 3 (.tmp 143) (.const (.int .i64 0)) 3,some (140,true)⟩,[]⟩,⟨⟨some 145,.pick (.tmp 140) (.tmp 144) (.const (.bool false)),none⟩,[]⟩]) (.cond (.tmp 145) (.seq (.reg [⟨⟨some 147,.load 38 (.tmp 18),none⟩,[]⟩,⟨⟨some 148,.call ⟨(.value (.func 20)),#[.tmp 147,(.const (.int .i64 0))],#[38,3]⟩,none⟩,[]⟩,
 ⟨⟨some 146,.move (.tmp 148),none⟩,[]⟩,⟨⟨some 149,.extract (.tmp 146) 0,none⟩,[]⟩,⟨⟨some 150,.extract (.tmp 146) 1,none⟩,[]⟩,⟨⟨some 22,.assign (.tmp 149),none⟩,[]⟩,⟨⟨some 23,.assign (.tmp 150),none⟩,[]⟩]) (.seq (.seq (.reg [⟨⟨some 24,.assign (.const (.int .i64 0)),none⟩,[]⟩]) (.block 0 (.loop (.seq (.seq (.reg [⟨⟨some 151,.move (.tmp 23),none⟩,[]⟩,⟨⟨some 152,.move (.tmp 151),none⟩,[]⟩,⟨⟨some 153,.move (.tmp 24),some (152,true)⟩,[]⟩,⟨⟨some 154,.move (.tmp 22),some (152,true)⟩,[]⟩,⟨⟨some 155,.call ⟨(.builtin .len),#[.tmp 154],#[27]⟩,some (152,true)⟩,[]⟩,⟨⟨some 156,.binOp .lss 3 (.tmp 153) (.tmp 155) 3,some (152,true)⟩,[]⟩,⟨⟨some 157,.pick (.tmp 152) (.tmp 156) (.const (.bool false)),none⟩,[]⟩]) (.cond (.tmp 157) .skip (.exit 0))) (.seq (.block 1 (.seq (.reg [⟨⟨some 161,.load 26 (.tmp 17),none⟩,[]⟩,⟨⟨some 162,.fieldAddr 38 (.tmp 18) 0,none⟩,[]⟩,
 ⟨⟨some 163,.load 36 (.tmp 162),none⟩,[]⟩,⟨⟨some 164,.move (.tmp 24),none⟩,[]⟩,⟨⟨some 165,.indexAddr 36 (.tmp 163) (.tmp 164),none⟩,[]⟩,⟨⟨some 166,.load 27 (.tmp 165),none⟩,[]⟩,⟨⟨some 167,.call ⟨(.value (.func 10)),#[.tmp 161,.tmp 166],#[26,27]⟩,none⟩,[]⟩,⟨⟨some 160,.move (.tmp 167),none⟩,[]⟩,⟨⟨some 168,.extract (.tmp 160) 0,none⟩,[]⟩,⟨⟨some 169,.extract (.tmp 160) 1,none⟩,[]⟩,⟨⟨some 25,.assign (.tmp 168),none⟩,[]⟩,⟨⟨some 26,.assign (.tmp 169),none⟩,[]⟩]) (.seq (.reg [⟨⟨some 170,.move (.tmp 26),none⟩,[]⟩,⟨⟨some 171,.move (.tmp 22),none⟩,[]⟩,⟨⟨some 172,.move (.tmp 24),none⟩,[]⟩,
 ⟨⟨some 173,.indexAddr 27 (.tmp 171) (.tmp 172),none⟩,[]⟩,⟨⟨some 174,.load 3 (.tmp 173),none⟩,[]⟩,⟨⟨some 175,.binOp .geq 3 (.tmp 174) (.const (.int .i64 0)) 3,none⟩,[]⟩,⟨⟨some 176,.binOp .neq 4 (.tmp 170) (.tmp 175) 4,none⟩,[]⟩,⟨⟨some 177,.move (.tmp 176),none⟩,[]⟩,⟨⟨some 178,.move (.tmp 26),some (177,false)⟩,[]⟩,⟨⟨some 179,.move (.tmp 178),some (177,false)⟩,[]⟩,⟨⟨some 180,.move (.tmp 25),some (179,true)⟩,[]⟩,⟨⟨some 181,.move (.tmp 22),some (179,true)⟩,[]⟩,⟨⟨some 182,.move (.tmp 24),some (179,true)⟩,[]⟩,⟨⟨some 183,.indexAddr 27 (.tmp 181) (.tmp 182),some (179,true)⟩,[]⟩,⟨⟨some 184,.load 3 (.tmp 183),some (179,true)⟩,[]⟩,
 ⟨⟨some 185,.binOp .neq 3 (.tmp 180) (.tmp 184) 3,some (179,true)⟩,[]⟩,⟨⟨some 186,.pick (.tmp 179) (.tmp 185) (.const (.bool false)),some (177,false)⟩,[]⟩,⟨⟨some 187,.pick (.tmp 177) (.const (.bool true)) (.tmp 186),none⟩,[]⟩]) (.cond (.tmp 187) (.seq (.reg [⟨⟨some 2,.assign (.const (.bool false)),none⟩,[]⟩]) .ret) .skip)))) (.reg [⟨⟨some 158,.move (.tmp 24),none⟩,[]⟩,⟨⟨some 159,.binOp .add 3 (.tmp 158) (.const (.int .i64 1)) 3,none⟩,[]⟩,⟨⟨some 24,.assign (.tmp 159),none⟩,[]⟩])))))) (.seq (.reg [⟨⟨some 188,.move (.tmp 23),none⟩,[]⟩,⟨⟨some 189,.unOp .not 4 (.tmp 188),none⟩,[]⟩]) (.cond (.tmp 189) (.seq (.reg [⟨⟨some 2,.assign (.const (.bool false)),none⟩,[]⟩]) .ret) .skip)))) .skip)) (.seq (.seq (.reg [⟨⟨some 190,.move (.tmp 6),none⟩,[]⟩,⟨⟨some 191,.unOp .not 4 (.tmp 190),none⟩,[]⟩]) (.cond (.tmp 191) (.seq (.reg [⟨⟨some 2,.assign (.const (.bool true)),none⟩,[]⟩]) .ret) .skip)) (.seq (.reg [⟨⟨some 193,.move (.tmp 4),none⟩,[]⟩,⟨⟨some 194,.move (.tmp 5),none⟩,[]⟩,⟨⟨some 195,.call ⟨(.value (.func 21)),#[.tmp 193,.tmp 194],#[27,24]⟩,none⟩,[]⟩,⟨⟨some 192,.move (.tmp 195),none⟩,[]⟩,⟨⟨some 196,.extract (.tmp 192) 0,none⟩,[]⟩,⟨⟨some 197,.extract (.tmp 192) 1,none⟩,[]⟩,
 ⟨⟨some 27,.assign (.tmp 196),none⟩,[]⟩,⟨⟨some 28,.assign (.tmp 197),none⟩,[]⟩]) (.seq (.seq (.reg [⟨⟨some 29,.assign (.const (.int .i64 0)),none⟩,[]⟩]) (.block 2 (.loop (.seq (.seq (.reg [⟨⟨some 198,.move (.tmp 29),none⟩,[]⟩,⟨⟨some 199,.move (.tmp 27),none⟩,[]⟩,⟨⟨some 200,.call ⟨(.builtin .len),#[.tmp 199],#[27]⟩,none⟩,[]⟩,⟨⟨some 201,.binOp .lss 3 (.tmp 198) (.tmp 200) 3,none⟩,[]⟩]) (.cond (.tmp 201) .skip (.exit 2))) (.seq (.block 3 (.seq (.reg [⟨⟨some 204,.move (.tmp 27),none⟩,[]⟩,⟨⟨some 205,.move (.tmp 29),none⟩,[]⟩,⟨⟨some 206,.indexAddr 27 (.tmp 204) (.tmp 205),none⟩,[]⟩,⟨⟨some 207,.load 3 (.tmp 206),none⟩,[]⟩,⟨⟨some 208,.move (.tmp 29),none⟩,[]⟩,⟨⟨some 209,.binOp .neq 3 (.tmp 207) (.tmp 208) 3,none⟩,[]⟩]) (.cond (.tmp 209) (.seq (.reg [⟨⟨some 2,.assign (.const (.bool false)),none⟩,[]⟩]) .ret) .skip))) (.reg [⟨⟨some 202,.move (.tmp 29),none⟩,[]⟩,⟨⟨some 203,.binOp .add 3 (.tmp 202) (.const (.int .i64 1)) 3,none⟩,[]⟩,⟨⟨some 29,.assign (.tmp 203),none⟩,[]⟩])))))) (.seq (.seq (.reg [⟨⟨some 30,.assign (.const (.int .i64 0)),none⟩,[]⟩]) (.block 4 (.loop (.seq (.seq (.reg [⟨⟨some 210,.move (.tmp 30),none⟩,[]⟩,
 ⟨⟨some 211,.move (.tmp 5),none⟩,[]⟩,⟨⟨some 212,.call ⟨(.builtin .len),#[.tmp 211],#[24]⟩,none⟩,[]⟩,⟨⟨some 213,.binOp .lss 3 (.tmp 210) (.tmp 212) 3,none⟩,[]⟩]) (.cond (.tmp 213) .skip (.exit 4))) (.seq (.block 5 (.seq (.reg [⟨⟨some 216,.load 26 (.tmp 3),none⟩,[]⟩,⟨⟨some 217,.move (.tmp 5),none⟩,[]⟩,⟨⟨some 218,.move (.tmp 30),none⟩,[]⟩,⟨⟨some 219,.indexAddr 24 (.tmp 217) (.tmp 218),none⟩,[]⟩,⟨⟨some 220,.indexAddr 47 (.tmp 219) (.const (.int .i64 0)),none⟩,[]⟩,⟨⟨some 221,.load 3 (.tmp 220),none⟩,[]⟩,⟨⟨some 222,.move (.tmp 5),none⟩,[]⟩,⟨⟨some 223,.move (.tmp 30),none⟩,[]⟩,⟨⟨some 224,.indexAddr 24 (.tmp 222) (.tmp 223),none⟩,[]⟩,⟨⟨some 225,.indexAddr 47 (.tmp 224) (.const (.int .i64 1)),none⟩,[]⟩,
 ⟨⟨some 226,.load 3 (.tmp 225),none⟩,[]⟩,⟨⟨some 227,.call ⟨(.value (.func 22)),#[.tmp 216,.tmp 221,.tmp 226],#[26,3,3]⟩,none⟩,[]⟩,⟨⟨some 228,.unOp .not 4 (.tmp 227),none⟩,[]⟩]) (.cond (.tmp 228) (.seq (.reg [⟨⟨some 2,.assign (.const (.bool false)),none⟩,[]⟩]) .ret) .skip))) (.reg [⟨⟨some 214,.move (.tmp 30),none⟩,[]⟩,⟨⟨some 215,.binOp .add 3 (.tmp 214) (.const (.int .i64 1)) 3,none⟩,[]⟩,⟨⟨some 30,.assign (.tmp 215),none⟩,[]⟩])))))) (.seq (.reg [⟨⟨some 230,.move (.tmp 4),none⟩,[]⟩,⟨⟨some 231,.call ⟨(.value (.func 23)),#[.tmp 230],#[27]⟩,none⟩,[]⟩,⟨⟨some 229,.move (.tmp 231),none⟩,[]⟩,⟨⟨some 232,.extract (.tmp 229) 0,none⟩,[]⟩,⟨⟨some 233,.extract (.tmp 229) 1,none⟩,[]⟩,⟨⟨some 31,.assign (.tmp 232),none⟩,[]⟩,⟨⟨some 32,.assign (.tmp 233),none⟩,[]⟩]) (.seq (.reg [⟨⟨some 235,.move (.tmp 4),none⟩,[]⟩,⟨⟨some 236,.call ⟨(.value (.func 24)),#[.tmp 235],#[27]⟩,none⟩,[]⟩,
 ⟨⟨some 234,.move (.tmp 236),none⟩,[]⟩,⟨⟨some 237,.extract (.tmp 234) 0,none⟩,[]⟩,⟨⟨some 238,.extract (.tmp 234) 1,none⟩,[]⟩,⟨⟨some 33,.assign (.tmp 237),none⟩,[]⟩,⟨⟨some 34,.assign (.tmp 238),none⟩,[]⟩]) (.seq (.reg [⟨⟨some 239,.fieldAddr 26 (.tmp 3) 1,none⟩,[]⟩,⟨⟨some 240,.load 24 (.tmp 239),none⟩,[]⟩,⟨⟨some 241,.call ⟨(.builtin .len),#[.tmp 240],#[24]⟩,none⟩,[]⟩,⟨⟨some 242,.fieldAddr 26 (.tmp 3) 0,none⟩,[]⟩,⟨⟨some 243,.load 3 (.tmp 242),none⟩,[]⟩,⟨⟨some 244,.binOp .sub 3 (.tmp 243) (.const (.int .i64 1)) 3,none⟩,[]⟩,⟨⟨some 245,.binOp .eql 3 (.tmp 241) (.tmp 244) 3,none⟩,[]⟩,⟨⟨some 35,.assign (.tmp 245),none⟩,[]⟩]) (.seq (.seq (.reg [⟨⟨some 36,.assign (.const (.int .i64 0)),none⟩,[]⟩]) (.block 6 (.loop (.seq (.seq (.reg [⟨⟨some 246,.move (.tmp 36),none⟩,[]⟩,
 ⟨⟨some 247,.fieldAddr 26 (.tmp 3) 1,none⟩,[]⟩,⟨⟨some 248,.load 24 (.tmp 247),none⟩,[]⟩,⟨⟨some 249,.call ⟨(.builtin .len),#[.tmp 248],#[24]⟩,none⟩,[]⟩,⟨⟨some 250,.binOp .lss 3 (.tmp 246) (.tmp 249) 3,none⟩,[]⟩]) (.cond (.tmp 250) .skip (.exit 6))) (.seq (.block 7 (.reg [⟨⟨some 253,.move (.tmp 35),none⟩,[]⟩,⟨⟨some 254,.move (.tmp 253),none⟩,[]⟩,⟨⟨some 255,.fieldAddr 26 (.tmp 3) 1,some (254,true)⟩,[]⟩,⟨⟨some 256,.load 24 (.tmp 255),some (254,true)⟩,[]⟩,⟨⟨some 257,.move (.tmp 36),some (254,true)⟩,[]⟩,⟨⟨some 258,.indexAddr 24 (.tmp 256) (.tmp 257),some (254,true)⟩,[]⟩,⟨⟨some 259,.indexAddr 47 (.tmp 258) (.const (.int .i64 1)),some (254,true)⟩,[]⟩,⟨⟨some 260,.load 3 (.tmp 259),some (254,true)⟩,[]⟩,⟨⟨some 261,.fieldAddr 26 (.tmp 3) 1,some (254,true)⟩,[]⟩,
 ⟨⟨some 262,.load 24 (.tmp 261),some (254,true)⟩,[]⟩,⟨⟨some 263,.move (.tmp 36),some (254,true)⟩,[]⟩,⟨⟨some 264,.indexAddr 24 (.tmp 262) (.tmp 263),some (254,true)⟩,[]⟩,⟨⟨some 265,.indexAddr 47 (.tmp 264) (.const (.int .i64 0)),some (254,true)⟩,[]⟩,⟨⟨some 266,.load 3 (.tmp 265),some (254,true)⟩,[]⟩,⟨⟨some 267,.binOp .add 3 (.tmp 266) (.const (.int .i64 1)) 3,some (254,true)⟩,[]⟩,⟨⟨some 268,.binOp .eql 3 (.tmp 260) (.tmp 267) 3,some (254,true)⟩,[]⟩,⟨⟨some 269,.pick (.tmp 254) (.tmp 268) (.const (.bool false)),none⟩,[]⟩,⟨⟨some 35,.assign (.tmp 269),none⟩,[]⟩])) (.reg [⟨⟨some 251,.move (.tmp 36),none⟩,[]⟩,⟨⟨some 252,.binOp .add 3 (.tmp 251) (.const (.int .i64 1)) 3,none⟩,[]⟩,⟨⟨some 36,.assign (.tmp 252),none⟩,[]⟩])))))) (.seq (.reg [⟨⟨some 270,.fieldAddr 26 (.tmp 3) 1,none⟩,[]⟩,⟨⟨some 271,.load 24 (.tmp 270),none⟩,[]⟩,
 ⟨⟨some 272,.call ⟨(.builtin .len),#[.tmp 271],#[24]⟩,none⟩,[]⟩,⟨⟨some 273,.fieldAddr 26 (.tmp 3) 0,none⟩,[]⟩,⟨⟨some 274,.load 3 (.tmp 273),none⟩,[]⟩,⟨⟨some 275,.fieldAddr 26 (.tmp 3) 0,none⟩,[]⟩,⟨⟨some 276,.load 3 (.tmp 275),none⟩,[]⟩,⟨⟨some 277,.binOp .sub 3 (.tmp 276) (.const (.int .i64 1)) 3,none⟩,[]⟩,⟨⟨some 278,.binOp .mul 3 (.tmp 274) (.tmp 277) 3,none⟩,[]⟩,⟨⟨some 279,.binOp .quo 3 (.tmp 278) (.const (.int .i64 2)) 3,none⟩,[]⟩,⟨⟨some 280,.binOp .eql 3 (.tmp 272) (.tmp 279) 3,none⟩,[]⟩,⟨⟨some 37,.assign (.tmp 280),none⟩,[]⟩]) (.seq (.reg [⟨⟨some 281,.move (.tmp 28),none⟩,[]⟩,⟨⟨some 282,.move (.tmp 281),none⟩,[]⟩,⟨⟨some 283,.move (.tmp 14),some (282,true)⟩,[]⟩,
 ⟨⟨some 284,.pick (.tmp 282) (.tmp 283) (.const (.bool false)),none⟩,[]⟩,⟨⟨some 285,.move (.tmp 284),none⟩,[]⟩,⟨⟨some 286,.move (.tmp 5),some (285,true)⟩,[]⟩,⟨⟨some 287,.call ⟨(.builtin .len),#[.tmp 286],#[24]⟩,some (285,true)⟩,[]⟩,⟨⟨some 288,.move (.tmp 9),some (285,true)⟩,[]⟩,⟨⟨some 289,.binOp .eql 3 (.tmp 287) (.tmp 288) 3,some (285,true)⟩,[]⟩,⟨⟨some 290,.pick (.tmp 285) (.tmp 289) (.const (.bool false)),none⟩,[]⟩,⟨⟨some 291,.move (.tmp 290),none⟩,[]⟩,⟨⟨some 292,.move (.tmp 9),some (291,true)⟩,[]⟩,⟨⟨some 293,.move (.tmp 31),some (291,true)⟩,[]⟩,⟨⟨some 294,.binOp .geq 3 (.tmp 292) (.tmp 293) 3,some (291,true)⟩,[]⟩,⟨⟨some 295,.pick (.tmp 291) (.tmp 294) (.const (.bool false)),none⟩,[]⟩,
 ⟨⟨some 296,.move (.tmp 295),none⟩,[]⟩,⟨⟨some 297,.move (.tmp 9),some (296,true)⟩,[]⟩,⟨⟨some 298,.move (.tmp 13),some (296,true)⟩,[]⟩,⟨⟨some 299,.binOp .geq 3 (.tmp 297) (.tmp 298) 3,some (296,true)⟩,[]⟩,⟨⟨some 300,.pick (.tmp 296) (.tmp 299) (.const (.bool false)),none⟩,[]⟩,⟨⟨some 301,.move (.tmp 300),none⟩,[]⟩,⟨⟨some 302,.move (.tmp 35),some (301,true)⟩,[]⟩,⟨⟨some 303,.unOp .not 4 (.tmp 302),some (301,true)⟩,[]⟩,⟨⟨some 304,.move (.tmp 303),some (301,true)⟩,[]⟩,⟨⟨some 305,.move (.tmp 9),some (304,false)⟩,[]⟩,⟨⟨some 306,.move (.tmp 33),some (304,false)⟩,[]⟩,⟨⟨some 307,.binOp .eql 3 (.tmp 305) (.tmp 306) 3,some (304,false)⟩,[]⟩,
 ⟨⟨some 308,.pick (.tmp 304) (.const (.bool true)) (.tmp 307),some (301,true)⟩,[]⟩,
  ⟨⟨some 309,.pick (.tmp 301) (.tmp 308) (.const (.bool false)),none⟩,[]⟩,
  ⟨⟨some 310,.move (.tmp 309),none⟩,[]⟩,
  ⟨⟨some 311,.move (.tmp 37),some (310,true)⟩,[]⟩,
  ⟨⟨some 312,.unOp .not 4 (.tmp 311),some (310,true)⟩,[]⟩,
  ⟨⟨some 313,.move (.tmp 312),some (310,true)⟩,[]⟩,
  ⟨⟨some 314,.move (.tmp 9),some (313,false)⟩,[]⟩,
  ⟨⟨some 315,.move (.tmp 31),some (313,false)⟩,[]⟩,
  ⟨⟨some 316,.binOp .eql 3 (.tmp 314) (.tmp 315) 3,some (313,false)⟩,[]⟩,
  ⟨⟨some 317,.pick (.tmp 313) (.const (.bool true)) (.tmp 316),some (310,true)⟩,[]⟩,
  ⟨⟨some 318,.pick (.tmp 310) (.tmp 317) (.const (.bool false)),none⟩,[]⟩,
  ⟨⟨some 2,.assign (.tmp 318),none⟩,[]⟩]) .ret))))))))))))))))))))))))
theorem in3:InT Tryz.prog 3 1 [.tmp 2] cd3:=InT.mk (by kernel_rfl) [(20,[(0,false),(1,false),(2,false),(3,false),(4,false),(5,false),(6,true),(7,false),(8,false),(9,false),(10,false),(11,false)]),(36,[(0,false),(1,false),(2,false),(3,false),(4,false),(5,false),(6,false),(7,false),(8,false),(9,false),(10,false),(11,true),(12,false)]),(44,[(0,false),(1,false),(2,false),(3,false),(4,false),(5,false),(6,false),(7,false),(8,false),(9,false),(10,false),(11,false),(12,false),(13,false),(14,false),(15,false),(16,false),(17,true)])] Tryz.func3 rfl (by kernel_rfl) (by kernel_rfl) (of_decide_eq_true (by kernel_rfl)) (by kernel_rfl)
end Go.Proofs.YtjnefjchconebaaGreat.Ai
namespace Go.Proofs.YtjnefjchconebaaGreat.Ai
open Go Go.RowKit
theorem tkL_i64 {n:Int}{es:List (Int × Int)}{p:List Int}(hs:∀ y ∈ es,I64 y.1/\I64 y.2):∀ y ∈ tkL n es p,I64 y.1/\I64 y.2:=by
  intro y hy
  cases h:tkD n es p with
  | none=>unfold tkL at hy;rw [h] at hy;simp at hy
  | some d=>exact hs y ((tk_law h).1 y hy)
theorem tkL_le (n:Int)(es:List (Int × Int))(p:List Int):(tkL n es p).length<=1000:=by
  rw [tkL_len]
  cases h:tkD n es p with
  | none=>simp
  | some d=>have:=tkD_rng h;simp only;omega
theorem sml_i64T {es:List (Int × Int)}(h:Sml es):∀ y ∈ es,I64 y.1/\I64 y.2:=fun y hy=>by
  have:=h y hy
  unfold I64
  omega
theorem tsL_srt (n:Int)(es:List (Int × Int)):SrtL (tsL n es):=by
  unfold tsL
  split
  . rename_i h
    exact (pms_ok (by have:=h.2;omega)).1
  . intro i j hi hj
    simp at hj
theorem tsL_len (n:Int)(es:List (Int × Int)):(tsL n es).length<=120:=by
  unfold tsL
  split
  . rename_i h
    exact (pms_ok (by have:=h.2;omega)).2.1.2
  . simp
theorem tsS_len (n:Int)(es:List (Int × Int)):(tsS n es).length<=600:=by
  unfold tsS
  split
  . rename_i h
    exact ts_steps es (by have:=h.2;omega)
  . simp
theorem tsL_sm (n:Int)(es:List (Int × Int)):∀ l ∈ tsL n es,l.length<=24/\∀ y ∈ l,-99<=y/\y<=99:=by
  intro l hl
  unfold tsL at hl
  split at hl
  . rename_i h
    have h5:n.toNat<=5:=by have:=h.2;omega
    have h1:=(pms_ok h5).2.2.1 l hl
    have h2:=(pms_ok h5).2.2.2.2 l hl
    exact ⟨by omega,fun y hy=>by have:=h2 y hy;omega⟩
  . simp at hl
theorem spin_sts {lo hi:Nat}{G:AH}{a b:Value}{ls:List (List Int)}{ps:List (Int × Int)}(h:SpIn lo hi G a b ls ps)(hs:SrtL ls)(hb:ls.length<=60000)(hm:∀ l ∈ ls,l.length<=1099511627776):∃ us,Sts G a us ls:=by
  obtain ⟨mid,_,_,hL,_⟩:=h
  obtain ⟨us,r1,r2,r3⟩:=hL.parts
  exact ⟨us,r1,r2,fun i hi=>(r3 i hi).row.1,fun i hi=>hm _ (by simp [hi]),hb,hs⟩
theorem stp_pru {n:Nat}{ps:List (Int × Int)}(h:StpOk n ps):PrU (n:Int) ps ps.length:=by
  intro i hi
  have hm:ps.getD i (0,0) ∈ ps:=by simp [hi]
  obtain ⟨h1,h2,h3⟩:=h.rng _ hm
  refine ⟨h1,h2,h3,fun h0=>?_⟩
  have:=List.pairwise_iff_getElem.1 h.srt (i - 1) i (by omega) hi (by omega)
  have e1:ps.getD (i - 1) (0,0)=ps[i - 1]'(by omega):=by simp [show i - 1<ps.length by omega]
  have e2:ps.getD i (0,0)=ps[i]:=by simp [hi]
  rw [e1,e2];exact this
theorem pms_hom:∀ n:Fin 6,(pms n.1).getD 0 []=hom n.1:=by decide +kernel
theorem tk_far {N:Nat}{es:List (Int × Int)}(hT:TsOk (N:Int) es){j:Nat}(hj:j<(pms N).length):(bfs (rdS (pms N).length (steps (tsP es) (pms N))) 0).getD j 0=(tkD (N:Int) es ((pms N).getD j [])).getD (-1):=by
  have h5:N<=5:=by have:=hT.2;omega
  have hb:=(tk_ok h5 (a:=(pms N).getD j []) (by simp [hj])).1
  rw [tk_bfs h5 hT.1 (i:=0) (by omega) hj]
  have h0:=pms_hom ⟨N,by omega⟩
  simp only at h0
  rw [h0]
  have hF:Fld (N:Int) es ((pms N).getD j []):=⟨⟨⟨hT.1,hb.1⟩,by rw [hb.2]⟩,by omega⟩
  unfold tkD tkS
  rw [if_pos hF,Int.toNat_natCast]
structure LwT (gp:Nat) (n:Int) (w a:Value) (es:List (Int × Int)) (p:List Int) (K:AH):Prop where
  cg:K[gp]?=some (.cells [.int .i64 n,w] 26 false)
  hw:RowP 47 K w es
  ha:Row 3 K a p
theorem LwT.pre {gp:Nat}{n:Int}{w a:Value}{es:List (Int × Int)}{p:List Int}{K L:AH}(h:LwT gp n w a es p K)(hp:K<+:L):LwT gp n w a es p L :=
  ⟨pre_at hp h.cg,h.hw.pre hp,h.ha.pre hp⟩
theorem tklLaw_c (va:Value)(us:List Value)(H:AH)(hr:RowV 5 H va us)(hb:∀ i,i<us.length->∃ b:Nat,us.getD i undef=.int .u8 (b:Int)/\b<256)(hl:(us.length:Int)<=9223372036854775807) :
    ACalls Tryz.prog 3 [va] H fun r H'=>r=.bool true:=by
  refine in3 rfl ?_
  intro Q hQ
  rw [cd3]
  refine cutC (fun s H'=>s 0=va/\H=H') (fun c hc=>?_) ?_
  . simp (maxSteps:=1000000) (disch:=omega) only [SS,eq_self,reduceIte,reduceCtorEq,Nat.reduceEqDiff,Nat.reduceAdd]
    exact hc _ _ ⟨rfl,rfl⟩
  rintro s _ ⟨h0,rfl⟩
  refine cutC (fun s H'=>s 0=va/\Byt H' va us/\us.length<=1000000) (fun c hc=>?_) ?_
  . simp (maxSteps:=1000000) (disch:=omega) only [h0,SS,eq_self,reduceIte,reduceCtorEq,Nat.reduceEqDiff,Nat.reduceAdd]
    refine CallH.by (vBig_c hr hl) ?_
    rintro _ _ ⟨rfl,rfl⟩
    simp (maxSteps:=1000000) (disch:=omega) only [SS,eq_self,reduceIte,reduceCtorEq,Nat.reduceEqDiff,Nat.reduceAdd]
    refine brD.intro (fun g=>?_) (fun g=>?_)
    . simp (maxSteps:=1000000) (disch:=omega) only [SS,eq_self,reduceIte,reduceCtorEq,Nat.reduceEqDiff,Nat.reduceAdd]
      refine hQ _ _ _ ?_
      simp (maxSteps:=1000000) (disch:=omega) only [SS,eq_self,reduceIte,reduceCtorEq,Nat.reduceEqDiff,Nat.reduceAdd]
    . simp (maxSteps:=1000000) (disch:=omega) only [SS,eq_self,reduceIte,reduceCtorEq,Nat.reduceEqDiff,Nat.reduceAdd]
      exact hc _ _ ⟨h0,⟨hr,hb,by omega⟩,by omega⟩
  clear h0 hr hb hl s H
  rintro s H ⟨s0,hby,hus⟩
  refine cutC (fun s K=>∃ (gp:Nat) (n:Int) (w a:Value) (es:List (Int × Int)) (p:List Int),s 0=va/\s 3=.pointer (some ⟨gp,0,none⟩)/\s 4=a/\es.length<=200/\I64 n/\Sml es/\LsOk p/\LwT gp n w a es p K/\Byt K va us) (fun c hc=>?_) ?_
  . simp (maxSteps:=1000000) (disch:=omega) only [s0,SS,eq_self,reduceIte,reduceCtorEq,Nat.reduceEqDiff,Nat.reduceAdd]
    refine CallH.by (DrawTkS_c hby) ?_
    rintro _ K ⟨n,w,a,es,p,rfl,x1,x2,x3,x4,x5,x6,x9⟩
    have st:=st_G x1 (at_new K (.cells [.int .i64 0,.slice none 0 0] 26 false)) rfl n
    rw [set_new] at st
    have p2:K<+:K ++ [AObj.cells [.int .i64 n,w] 26 false]:=List.prefix_append _ _
    have ta:=x5.tup
    simp (maxSteps:=1000000) (disch:=omega) only [alloc_G,st,ta,SS,eq_self,reduceIte,reduceCtorEq,Nat.reduceEqDiff,Nat.reduceAdd]
    exact hc _ _ ⟨K.length,n,w,a,es,p,s0,rfl,rfl,x2,x3,x4,x6,⟨at_new ..,x1.pre p2,x5.pre p2⟩,(hby.pre x9).pre p2⟩
  clear s0 hby s H
  rintro s H ⟨gp,n,w,a,es,p,s0,s3,s4,hel,hn,hs,⟨lp,kp⟩,hS,hby⟩
  have hi:=sml_i64T hs
  have lP:=tkL_le n es p
  refine cutC (fun s K=>s 0=va/\s 3=.pointer (some ⟨gp,0,none⟩)/\s 4=a/\s 6=.bool (tkD n es p).isSome/\(∃ c1,s 5=c1/\RowP 47 K c1 (tkL n es p))/\H<+:K) (fun c hc=>?_) ?_
  . simp (maxSteps:=1000000) (disch:=omega) only [s0,s3,s4,ld_agg ag26 cs26 hS.cg,SS,eq_self,reduceIte,reduceCtorEq,Nat.reduceEqDiff,Nat.reduceAdd]
    refine CallH.by (TkI_c n w a es p H hS.hw (by omega) hi hS.ha (by omega) kp hn) ?_
    rintro _ K ⟨g,rfl,hg,pK⟩
    have tg:=hg.row.tup
    simp (maxSteps:=1000000) (disch:=omega) only [s0,s3,s4,tg,SS,eq_self,reduceIte,reduceCtorEq,Nat.reduceEqDiff,Nat.reduceAdd]
    exact hc _ _ ⟨s0,s3,s4,rfl,⟨g,rfl,hg.row⟩,pK⟩
  clear s0 s3 s4 s
  rintro s K1 ⟨s0,s3,s4,s6,⟨c1,s5,r5⟩,pK⟩
  replace hS:=hS.pre pK
  replace hby:=hby.pre pK
  clear pK H
  refine cutC (fun s K=>s 0=va/\s 3=.pointer (some ⟨gp,0,none⟩)/\s 4=a/\s 6=.bool (tkD n es p).isSome/\s 5=c1/\s 8=.bool (tkD n es p).isSome/\(∃ c2,s 7=c2/\RowP 47 K c2 (tkL n es p))/\K1<+:K) (fun c hc=>?_) ?_
  . simp (maxSteps:=1000000) (disch:=omega) only [s0,s3,s4,s6,s5,ld_agg ag26 cs26 hS.cg,SS,eq_self,reduceIte,reduceCtorEq,Nat.reduceEqDiff,Nat.reduceAdd]
    refine CallH.by (TkS_c n w a es p K1 hS.hw (by omega) hi hS.ha (by omega) kp hn) ?_
    rintro _ K ⟨g,rfl,hg,pK⟩
    have tg:=hg.row.tup
    simp (maxSteps:=1000000) (disch:=omega) only [s0,s3,s4,s6,s5,tg,SS,eq_self,reduceIte,reduceCtorEq,Nat.reduceEqDiff,Nat.reduceAdd]
    exact hc _ _ ⟨s0,s3,s4,s6,s5,rfl,⟨g,rfl,hg.row⟩,pK⟩
  clear s0 s3 s4 s6 s5 s
  rintro s K2 ⟨s0,s3,s4,s6,s5,s8,⟨c2,s7,r7⟩,pK⟩
  replace hS:=hS.pre pK
  replace hby:=hby.pre pK
  replace r5:=r5.pre pK
  clear pK K1
  refine cutC (fun s K=>s 0=va/\s 3=.pointer (some ⟨gp,0,none⟩)/\s 4=a/\s 6=.bool (tkD n es p).isSome/\s 5=c1/\s 8=.bool (tkD n es p).isSome/\s 7=c2/\s 9=.int .i64 ((tkD n es p).getD 0)/\s 10=.bool (tkD n es p).isSome/\K2<+:K) (fun c hc=>?_) ?_
  . simp (maxSteps:=1000000) (disch:=omega) only [s0,s3,s4,s6,s5,s8,s7,ld_agg ag26 cs26 hS.cg,SS,eq_self,reduceIte,reduceCtorEq,Nat.reduceEqDiff,Nat.reduceAdd]
    refine CallH.by (TkDI_c n w a es p K2 hS.hw (by omega) hi hS.ha (by omega) kp hn) ?_
    rintro _ K ⟨rfl,pK⟩
    simp (maxSteps:=1000000) (disch:=omega) only [s0,s3,s4,s6,s5,s8,s7,SS,eq_self,reduceIte,reduceCtorEq,Nat.reduceEqDiff,Nat.reduceAdd]
    exact hc _ _ ⟨s0,s3,s4,s6,s5,s8,s7,rfl,rfl,pK⟩
  clear s0 s3 s4 s6 s5 s8 s7 s
  rintro s K3 ⟨s0,s3,s4,s6,s5,s8,s7,s9,s10,pK⟩
  replace hS:=hS.pre pK
  replace hby:=hby.pre pK
  replace r5:=r5.pre pK
  replace r7:=r7.pre pK
  clear pK K2
  refine cutC (fun s K=>s 0=va/\s 3=.pointer (some ⟨gp,0,none⟩)/\s 4=a/\s 6=.bool (tkD n es p).isSome/\s 5=c1/\s 8=.bool (tkD n es p).isSome/\s 7=c2/\s 9=.int .i64 ((tkD n es p).getD 0)/\s 10=.bool (tkD n es p).isSome/\s 11=.int .i64 ((tkD n es p).getD 0)/\s 12=.bool (tkD n es p).isSome/\K3<+:K) (fun c hc=>?_) ?_
  . simp (maxSteps:=1000000) (disch:=omega) only [s0,s3,s4,s6,s5,s8,s7,s9,s10,ld_agg ag26 cs26 hS.cg,SS,eq_self,reduceIte,reduceCtorEq,Nat.reduceEqDiff,Nat.reduceAdd]
    refine CallH.by (TkDS_c n w a es p K3 hS.hw (by omega) hi hS.ha (by omega) kp hn) ?_
    rintro _ K ⟨rfl,pK⟩
    simp (maxSteps:=1000000) (disch:=omega) only [s0,s3,s4,s6,s5,s8,s7,s9,s10,SS,eq_self,reduceIte,reduceCtorEq,Nat.reduceEqDiff,Nat.reduceAdd]
    exact hc _ _ ⟨s0,s3,s4,s6,s5,s8,s7,s9,s10,rfl,rfl,pK⟩
  clear s0 s3 s4 s6 s5 s8 s7 s9 s10 s
  rintro s K4 ⟨s0,s3,s4,s6,s5,s8,s7,s9,s10,s11,s12,pK⟩
  replace hS:=hS.pre pK
  replace hby:=hby.pre pK
  replace r5:=r5.pre pK
  replace r7:=r7.pre pK
  clear pK K3
  refine cutC (fun s K=>s 0=va/\s 3=.pointer (some ⟨gp,0,none⟩)/\s 4=a/\s 6=.bool (tkD n es p).isSome/\s 5=c1/\s 8=.bool (tkD n es p).isSome/\s 7=c2/\s 9=.int .i64 ((tkD n es p).getD 0)/\s 10=.bool (tkD n es p).isSome/\s 11=.int .i64 ((tkD n es p).getD 0)/\s 12=.bool (tkD n es p).isSome/\s 13=.int .i64 (halfV (halfR n es p))/\s 14=.bool (halfR n es p).isSome/\K4<+:K) (fun c hc=>?_) ?_
  . simp (maxSteps:=1000000) (disch:=omega) only [s0,s3,s4,s6,s5,s8,s7,s9,s10,s11,s12,ld_agg ag26 cs26 hS.cg,SS,eq_self,reduceIte,reduceCtorEq,Nat.reduceEqDiff,Nat.reduceAdd]
    refine CallH.by (HalfI_c n w a es p K4 hS.hw (by omega) hi hS.ha (by omega) kp hn) ?_
    rintro _ K ⟨rfl,pK⟩
    simp (maxSteps:=1000000) (disch:=omega) only [s0,s3,s4,s6,s5,s8,s7,s9,s10,s11,s12,SS,eq_self,reduceIte,reduceCtorEq,Nat.reduceEqDiff,Nat.reduceAdd]
    exact hc _ _ ⟨s0,s3,s4,s6,s5,s8,s7,s9,s10,s11,s12,rfl,rfl,pK⟩
  clear s0 s3 s4 s6 s5 s8 s7 s9 s10 s11 s12 s
  rintro s K5 ⟨s0,s3,s4,s6,s5,s8,s7,s9,s10,s11,s12,s13,s14,pK⟩
  replace hS:=hS.pre pK
  replace hby:=hby.pre pK
  replace r5:=r5.pre pK
  replace r7:=r7.pre pK
  clear pK K4
  refine cutC (fun s K=>s 0=va/\s 3=.pointer (some ⟨gp,0,none⟩)/\s 4=a/\s 6=.bool (tkD n es p).isSome/\s 5=c1/\s 8=.bool (tkD n es p).isSome/\s 7=c2/\s 9=.int .i64 ((tkD n es p).getD 0)/\s 10=.bool (tkD n es p).isSome/\s 11=.int .i64 ((tkD n es p).getD 0)/\s 12=.bool (tkD n es p).isSome/\s 13=.int .i64 (halfV (halfR n es p))/\s 14=.bool (halfR n es p).isSome/\s 15=.int .i64 (halfV (halfR n es p))/\s 16=.bool (halfR n es p).isSome/\K5<+:K) (fun c hc=>?_) ?_
  . simp (maxSteps:=1000000) (disch:=omega) only [s0,s3,s4,s6,s5,s8,s7,s9,s10,s11,s12,s13,s14,ld_agg ag26 cs26 hS.cg,SS,eq_self,reduceIte,reduceCtorEq,Nat.reduceEqDiff,Nat.reduceAdd]
    refine CallH.by (HalfS_c n w a es p K5 hS.hw (by omega) hi hS.ha (by omega) kp hn) ?_
    rintro _ K ⟨rfl,pK⟩
    simp (maxSteps:=1000000) (disch:=omega) only [s0,s3,s4,s6,s5,s8,s7,s9,s10,s11,s12,s13,s14,SS,eq_self,reduceIte,reduceCtorEq,Nat.reduceEqDiff,Nat.reduceAdd]
    exact hc _ _ ⟨s0,s3,s4,s6,s5,s8,s7,s9,s10,s11,s12,s13,s14,rfl,rfl,pK⟩
  clear s0 s3 s4 s6 s5 s8 s7 s9 s10 s11 s12 s13 s14 s
  rintro s K6 ⟨s0,s3,s4,s6,s5,s8,s7,s9,s10,s11,s12,s13,s14,s15,s16,pK⟩
  replace hS:=hS.pre pK
  replace hby:=hby.pre pK
  replace r5:=r5.pre pK
  replace r7:=r7.pre pK
  clear pK K5
  refine cutC (fun s L=>∃ (gp':Nat) (n':Int) (w':Value) (es':List (Int × Int)),s 17=.pointer (some ⟨gp',0,none⟩)/\es'.length<=200/\I64 n'/\Sml es'/\L[gp']?=some (.cells [.int .i64 n',w'] 26 false)/\RowP 47 L w' es'/\s 3=.pointer (some ⟨gp,0,none⟩)/\s 4=a/\s 6=.bool (tkD n es p).isSome/\s 5=c1/\s 8=.bool (tkD n es p).isSome/\s 7=c2/\s 9=.int .i64 ((tkD n es p).getD 0)/\s 10=.bool (tkD n es p).isSome/\s 11=.int .i64 ((tkD n es p).getD 0)/\s 12=.bool (tkD n es p).isSome/\s 13=.int .i64 (halfV (halfR n es p))/\s 14=.bool (halfR n es p).isSome/\s 15=.int .i64 (halfV (halfR n es p))/\s 16=.bool (halfR n es p).isSome/\K6<+:L) (fun c hc=>?_) ?_
  . simp (maxSteps:=1000000) (disch:=omega) only [s0,s3,s4,s6,s5,s8,s7,s9,s10,s11,s12,s13,s14,s15,s16,SS,eq_self,reduceIte,reduceCtorEq,Nat.reduceEqDiff,Nat.reduceAdd]
    refine CallH.by (vCut_c hby hus) ?_
    rintro cv K ⟨ws,hbw,pK⟩
    simp (maxSteps:=1000000) (disch:=omega) only [s0,s3,s4,s6,s5,s8,s7,s9,s10,s11,s12,s13,s14,s15,s16,SS,eq_self,reduceIte,reduceCtorEq,Nat.reduceEqDiff,Nat.reduceAdd]
    refine CallH.by (DrawTkG_c hbw) ?_
    rintro _ L ⟨n',w',es',rfl,x1,x2,x3,x4,x9⟩
    have st:=st_G x1 (at_new L (.cells [.int .i64 0,.slice none 0 0] 26 false)) rfl n'
    rw [set_new] at st
    have p2:L<+:L ++ [AObj.cells [.int .i64 n',w'] 26 false]:=List.prefix_append _ _
    simp (maxSteps:=1000000) (disch:=omega) only [alloc_G,st,s3,s4,s6,s5,s8,s7,s9,s10,s11,s12,s13,s14,s15,s16,SS,eq_self,reduceIte,reduceCtorEq,Nat.reduceEqDiff,Nat.reduceAdd]
    exact hc _ _ ⟨L.length,n',w',es',rfl,x2,x3,x4,at_new ..,x1.pre p2,s3,s4,s6,s5,s8,s7,s9,s10,s11,s12,s13,s14,s15,s16,pK.trans (x9.trans p2)⟩
  clear s0 s3 s4 s6 s5 s8 s7 s9 s10 s11 s12 s13 s14 s15 s16 s
  rintro s K7 ⟨gp',n',w',es',s17,hel',hn',hs',cg',hw',s3,s4,s6,s5,s8,s7,s9,s10,s11,s12,s13,s14,s15,s16,pK⟩
  have hi':=sml_i64T hs'
  replace hS:=hS.pre pK
  replace r5:=r5.pre pK
  replace r7:=r7.pre pK
  clear pK hby K6
  have hsm:∀ l ∈ tsL n' es',l.length<=24/\∀ y ∈ l,-99<=y/\y<=99:=tsL_sm n' es'
  have hsz:=tsL_len n' es'
  refine cutC (fun s L=>∃ (sp:Nat) (x1 y1:Value),s 18=.pointer (some ⟨sp,0,none⟩)/\L[sp]?=some (.cells [x1,y1] 38 false)/\s 19=.bool (decide (TsOk n' es'))/\SpRow L x1 y1 (tsL n' es') (tsS n' es')/\(∃ us',Sts L x1 us' (tsL n' es'))/\s 17=.pointer (some ⟨gp',0,none⟩)/\s 3=.pointer (some ⟨gp,0,none⟩)/\s 4=a/\s 6=.bool (tkD n es p).isSome/\s 5=c1/\s 8=.bool (tkD n es p).isSome/\s 7=c2/\s 9=.int .i64 ((tkD n es p).getD 0)/\s 10=.bool (tkD n es p).isSome/\s 11=.int .i64 ((tkD n es p).getD 0)/\s 12=.bool (tkD n es p).isSome/\s 13=.int .i64 (halfV (halfR n es p))/\s 14=.bool (halfR n es p).isSome/\s 15=.int .i64 (halfV (halfR n es p))/\s 16=.bool (halfR n es p).isSome/\K7<+:L) (fun c hc=>?_) ?_
  . simp (maxSteps:=1000000) (disch:=omega) only [s17,s3,s4,s6,s5,s8,s7,s9,s10,s11,s12,s13,s14,s15,s16,ld_agg ag26 cs26 cg',SS,eq_self,reduceIte,reduceCtorEq,Nat.reduceEqDiff,Nat.reduceAdd]
    refine CallH.by (TsI_c n' w' es' K7 hw' (by omega) hi' hn') ?_
    rintro _ L ⟨x1,y1,rfl,hs1,pL⟩
    have hstore:=hs1.row.store (at_new L (.cells [.slice none 0 0,.slice none 0 0] 38 false)) rfl
    rw [set_new] at hstore
    simp (maxSteps:=1000000) (disch:=omega) only [s17,s3,s4,s6,s5,s8,s7,s9,s10,s11,s12,s13,s14,s15,s16,alloc_sp,hstore,SS,eq_self,reduceIte,reduceCtorEq,Nat.reduceEqDiff,Nat.reduceAdd]
    have p2:L<+:L ++ [AObj.cells [x1,y1] 38 false]:=List.prefix_append _ _
    exact hc _ _ ⟨L.length,x1,y1,rfl,at_new ..,rfl,hs1.row.pre p2,(spin_sts hs1 (tsL_srt n' es') (by omega) (fun l hl=>by have:=(hsm l hl).1;omega)).imp fun _ h=>h.pre p2,s17,s3,s4,s6,s5,s8,s7,s9,s10,s11,s12,s13,s14,s15,s16,pL.trans p2⟩
  clear s17 s3 s4 s6 s5 s8 s7 s9 s10 s11 s12 s13 s14 s15 s16 s
  rintro s K8 ⟨sp,x1,y1,s18,cs1,s19,hR1,⟨us',hT1⟩,s17,s3,s4,s6,s5,s8,s7,s9,s10,s11,s12,s13,s14,s15,s16,pK⟩
  replace hS:=hS.pre pK
  replace r5:=r5.pre pK
  replace r7:=r7.pre pK
  replace cg':=pre_at pK cg'
  replace hw':=hw'.pre pK
  clear pK K7
  refine cutC (fun s L=>∃ (sq:Nat) (x2 y2:Value),s 20=.pointer (some ⟨sq,0,none⟩)/\L[sq]?=some (.cells [x2,y2] 38 false)/\s 21=.bool (decide (TsOk n' es'))/\SpRow L x2 y2 (tsL n' es') (tsS n' es')/\s 18=.pointer (some ⟨sp,0,none⟩)/\s 19=.bool (decide (TsOk n' es'))/\s 17=.pointer (some ⟨gp',0,none⟩)/\s 3=.pointer (some ⟨gp,0,none⟩)/\s 4=a/\s 6=.bool (tkD n es p).isSome/\s 5=c1/\s 8=.bool (tkD n es p).isSome/\s 7=c2/\s 9=.int .i64 ((tkD n es p).getD 0)/\s 10=.bool (tkD n es p).isSome/\s 11=.int .i64 ((tkD n es p).getD 0)/\s 12=.bool (tkD n es p).isSome/\s 13=.int .i64 (halfV (halfR n es p))/\s 14=.bool (halfR n es p).isSome/\s 15=.int .i64 (halfV (halfR n es p))/\s 16=.bool (halfR n es p).isSome/\K8<+:L) (fun c hc=>?_) ?_
  . simp (maxSteps:=1000000) (disch:=omega) only [s17,s18,s19,s3,s4,s6,s5,s8,s7,s9,s10,s11,s12,s13,s14,s15,s16,ld_agg ag26 cs26 cg',SS,eq_self,reduceIte,reduceCtorEq,Nat.reduceEqDiff,Nat.reduceAdd]
    refine CallH.by (TsS_c n' w' es' K8 hw' (by omega) hi' hn') ?_
    rintro _ L ⟨x2,y2,rfl,hs1,pL⟩
    have hstore:=hs1.row.store (at_new L (.cells [.slice none 0 0,.slice none 0 0] 38 false)) rfl
    rw [set_new] at hstore
    simp (maxSteps:=1000000) (disch:=omega) only [s17,s18,s19,s3,s4,s6,s5,s8,s7,s9,s10,s11,s12,s13,s14,s15,s16,alloc_sp,hstore,SS,eq_self,reduceIte,reduceCtorEq,Nat.reduceEqDiff,Nat.reduceAdd]
    have p2:L<+:L ++ [AObj.cells [x2,y2] 38 false]:=List.prefix_append _ _
    exact hc _ _ ⟨L.length,x2,y2,rfl,at_new ..,rfl,hs1.row.pre p2,s18,s19,s17,s3,s4,s6,s5,s8,s7,s9,s10,s11,s12,s13,s14,s15,s16,pL.trans p2⟩
  clear s17 s18 s19 s3 s4 s6 s5 s8 s7 s9 s10 s11 s12 s13 s14 s15 s16 s
  rintro s K9 ⟨sq,x2,y2,s20,cs2,s21,hR2,s18,s19,s17,s3,s4,s6,s5,s8,s7,s9,s10,s11,s12,s13,s14,s15,s16,pK⟩
  replace hS:=hS.pre pK
  replace r5:=r5.pre pK
  replace r7:=r7.pre pK
  replace cg':=pre_at pK cg'
  replace hw':=hw'.pre pK
  replace cs1:=pre_at pK cs1
  replace hR1:=hR1.pre pK
  replace hT1:=hT1.pre pK
  clear pK K8
  refine cutC (fun s L=>s 3=.pointer (some ⟨gp,0,none⟩)/\s 4=a/\s 5=c1/\s 6=.bool (tkD n es p).isSome/\s 9=.int .i64 ((tkD n es p).getD 0)/\s 13=.int .i64 (halfV (halfR n es p))/\s 14=.bool (halfR n es p).isSome/\s 17=.pointer (some ⟨gp',0,none⟩)/\s 18=.pointer (some ⟨sp,0,none⟩)/\s 19=.bool (decide (TsOk n' es'))/\K9<+:L) (fun c hc=>?_) ?_
  . have e0:¬ ¬ ((tkD n es p).getD 0=(tkD n es p).getD 0):=fun h=>h rfl
    have e1:¬ ¬ (halfV (halfR n es p)=halfV (halfR n es p)):=fun h=>h rfl
    have hszS:=tsS_len n' es'
    generalize (tkD n es p).isSome=ok at *
    generalize (tkD n es p).getD 0=far at *
    generalize halfV (halfR n es p)=hv at *
    generalize (halfR n es p).isSome=hk at *
    generalize decide (TsOk n' es')=one at *
    simp (maxSteps:=1000000) (disch:=omega) only [s17,s18,s19,s20,s21,s3,s4,s6,s5,s8,s7,s9,s10,s11,s12,s13,s14,s15,s16,SS,eq_self,reduceIte,reduceCtorEq,Nat.reduceEqDiff,Nat.reduceAdd]
    refine CallH.by (vPairs_c c1 c2 _ K9 r5 r7 (by omega)) ?_
    rintro _ _ ⟨rfl,rfl⟩
    simp (maxSteps:=1000000) (disch:=omega) only [s17,s18,s19,s20,s21,s3,s4,s6,s5,s8,s7,s9,s10,s11,s12,s13,s14,s15,s16,decide_eq_false e0,decide_eq_false e1,ld_agg ag38 cs38 cs1,ld_agg ag38 cs38 cs2,SS,eq_self,reduceIte,reduceCtorEq,Nat.reduceEqDiff,Nat.reduceAdd]
    refine CallH.by (vSpace_c hR1 hR2 (by omega) (fun l hl=>by have:=(hsm l hl).1;omega) (by omega)) ?_
    rintro _ L ⟨rfl,pL⟩
    simp (maxSteps:=1000000) (disch:=omega) only [s17,s18,s19,s20,s21,s3,s4,s6,s5,s8,s7,s9,s10,s11,s12,s13,s14,s15,s16,SS,eq_self,reduceIte,reduceCtorEq,Nat.reduceEqDiff,Nat.reduceAdd]
    exact hc _ _ ⟨s3,s4,s5,s6,s9,s13,s14,s17,s18,s19,pL⟩
  clear s17 s18 s19 s20 s21 s3 s4 s6 s5 s8 s7 s9 s10 s11 s12 s13 s14 s15 s16 s
  rintro s L ⟨s3,s4,s5,s6,s9,s13,s14,s17,s18,s19,pK⟩
  replace hS:=hS.pre pK
  replace r5:=r5.pre pK
  replace cg':=pre_at pK cg'
  replace hw':=hw'.pre pK
  replace cs1:=pre_at pK cs1
  replace hR1:=hR1.pre pK
  replace hT1:=hT1.pre pK
  clear pK hR2 cs2 r7 K9
  refine cutC (fun s K=>s 3=.pointer (some ⟨gp,0,none⟩)/\s 4=a/\s 5=c1/\s 6=.bool (tkD n es p).isSome/\s 9=.int .i64 ((tkD n es p).getD 0)/\s 13=.int .i64 (halfV (halfR n es p))/\s 14=.bool (halfR n es p).isSome/\L<+:K) (fun c hc=>?_) ?_
  . by_cases hT:TsOk n' es'
    rotate_left
    . simp (maxSteps:=1000000) (disch:=omega) only [s3,s4,s5,s6,s9,s13,s14,s17,s18,s19,decide_eq_false hT,SS,eq_self,reduceIte,reduceCtorEq,Nat.reduceEqDiff,Nat.reduceAdd]
      exact hc _ _ ⟨s3,s4,s5,s6,s9,s13,s14,List.prefix_refl _⟩
    obtain ⟨N,rfl⟩:∃ N:Nat,n'=N:=⟨n'.toNat,by have:=hT.1.1;omega⟩
    have h5:N<=5:=by have:=hT.2;omega
    have hL:tsL (N:Int) es'=pms N:=by unfold tsL;rw [if_pos hT,Int.toNat_natCast]
    have hP:tsS (N:Int) es'=steps (tsP es') (pms N):=by unfold tsS;rw [if_pos hT,Int.toNat_natCast]
    have hlen1:=(pms_ok h5).2.1
    have hsS:=tsS_len (N:Int) es'
    rw [hL] at hT1 hR1 hsm
    rw [hP] at hR1 hsS
    have hul:=hT1.len
    have hstp:=steps_ok (tsP es') (pms N)
    have hcall:=DistI_c hR1 hT1 (by omega) (by omega) hsm (stp_pru hstp) hstp (tk_deg h5 es') (i:=0) (by omega)
    rw [show ((0:Nat):Int)=0 from rfl] at hcall
    simp (maxSteps:=1000000) (disch:=omega) only [s3,s4,s5,s6,s9,s13,s14,s17,s18,s19,decide_eq_true hT,cell_of cs1,hT1.row.len Tryz.underlying36,hul,decide_eq_true (show (0:Int)<((pms N).length:Int) by omega),ld_agg ag38 cs38 cs1,SS,eq_self,reduceIte,reduceCtorEq,Nat.reduceEqDiff,Nat.reduceAdd]
    refine CallH.by hcall ?_
    rintro _ M ⟨g,rfl,hg,pM⟩
    have tg:=hg.row.tup
    have hdl:(bfs (rdS (pms N).length (steps (tsP es') (pms N))) 0).length=(pms N).length:=by
      have:=(bfs_rng _ (rdS_ok hstp) 0 (by rw [rdS_len];omega)).1
      rw [this,rdS_len]
    simp (maxSteps:=1000000) (disch:=omega) only [tg,s3,s4,s5,s6,s9,s13,s14,s17,s18,s19,SS,eq_self,reduceIte,reduceCtorEq,Nat.reduceEqDiff,Nat.reduceAdd]
    refine LoopH.by (fun m s H'=>∃ i:Nat,m+i=(pms N).length/\s 3=.pointer (some ⟨gp,0,none⟩)/\s 4=a/\s 5=c1/\s 6=.bool (tkD n es p).isSome/\s 9=.int .i64 ((tkD n es p).getD 0)/\s 13=.int .i64 (halfV (halfR n es p))/\s 14=.bool (halfR n es p).isSome/\s 17=.pointer (some ⟨gp',0,none⟩)/\s 18=.pointer (some ⟨sp,0,none⟩)/\s 22=g/\s 23=.bool true/\s 24=.int .i64 (i:Int)/\M<+:H') (pms N).length ?_ ?_
    . have f1:=List.prefix_refl M
      refine ⟨0,by simp,?_⟩
      simp (maxSteps:=1000000) (disch:=omega) only [s3,s4,s5,s6,s9,s13,s14,s17,s18,s19,SS,eq_self,reduceIte,reduceCtorEq,Nat.reduceEqDiff,Nat.reduceAdd]
      (repeat' first | exact f1 | apply And.intro) <;> first | (simp only [Value.int.injEq,true_and];omega) | omega | rfl | assumption | (simp;done) | (simp;omega)
    clear s3 s4 s5 s6 s9 s13 s14 s17 s18 s19 s
    rintro m s H' ⟨i,hm,s3,s4,s5,s6,s9,s13,s14,s17,s18,s22,s23,s24,pH⟩
    have pLH:=pM.trans pH
    have hgH:=hg.row.pre pH
    simp (maxSteps:=1000000) (disch:=omega) only [s3,s4,s5,s6,s9,s13,s14,s17,s18,s22,s23,s24,hgH.len Tryz.underlying27,hdl,SS,eq_self,reduceIte,reduceCtorEq,Nat.reduceEqDiff,Nat.reduceAdd]
    refine brD.intro (fun z=>?_) (fun z=>?_)
    rotate_left
    . simp (maxSteps:=1000000) (disch:=omega) only [s3,s4,s5,s6,s9,s13,s14,s17,s18,s22,s23,s24,SS,eq_self,reduceIte,reduceCtorEq,Nat.reduceEqDiff,Nat.reduceAdd]
      exact hc _ _ ⟨s3,s4,s5,s6,s9,s13,s14,pLH⟩
    have hi2:i<(pms N).length:=by omega
    have hTH:=hT1.pre pLH
    have hci:=hTH.row.cell (show i<us'.length by omega)
    have hbd:=(tk_ok h5 (a:=(pms N).getD i []) (by simp [hi2])).1
    have hlk:=bd_lok (by omega) hbd
    have hll:=hlk.1
    simp (maxSteps:=1000000) (disch:=omega) only [s3,s4,s5,s6,s9,s13,s14,s17,s18,s22,s23,s24,ld_agg ag26 cs26 (pre_at pLH cg'),cell_of (pre_at pLH cs1),hTH.row.ix Tryz.underlying36 cs27,hul,Int.toNat_natCast,hci,SS,eq_self,reduceIte,reduceCtorEq,Nat.reduceEqDiff,Nat.reduceAdd]
    refine CallH.by (TkDI_c (N:Int) w' _ es' _ H' (hw'.pre pLH) (by omega) hi' (hTH.each i hi2) (by omega) hlk.2 hn') ?_
    rintro _ P ⟨rfl,pP⟩
    have hfar:=tk_far hT hi2
    have hgP:=hgH.pre pP
    have hcg:=hgP.cell (show i<(bfs (rdS (pms N).length (steps (tsP es') (pms N))) 0).length by omega)
    rw [hfar] at hcg
    have f1:=pH.trans pP
    cases hd:tkD (N:Int) es' ((pms N).getD i []) with
    | none =>
      rw [hd] at hcg
      simp only [Option.getD_none] at hcg
      simp only [Option.getD_none,Option.isSome_none]
      simp (maxSteps:=1000000) (disch:=omega) only [s3,s4,s5,s6,s9,s13,s14,s17,s18,s22,s23,s24,hgP.ix Tryz.underlying27 cs3,hdl,Int.toNat_natCast,hcg,decide_eq_false (show ¬ (0:Int) <= -1 by omega),wrap64,SS,eq_self,reduceIte,reduceCtorEq,Nat.reduceEqDiff,Nat.reduceAdd]
      refine ⟨m - 1,by omega,i+1,?_⟩
      (repeat' first | exact f1 | apply And.intro) <;> first | (simp only [Value.int.injEq,true_and];omega) | omega | rfl | assumption | (simp;done) | (simp;omega)
    | some d =>
      have hd0:=tkD_rng hd
      have e0:¬ ¬ (d=d):=fun h=>h rfl
      rw [hd] at hcg
      simp only [Option.getD_some] at hcg
      simp only [Option.getD_some,Option.isSome_some]
      simp (maxSteps:=1000000) (disch:=omega) only [s3,s4,s5,s6,s9,s13,s14,s17,s18,s22,s23,s24,hgP.ix Tryz.underlying27 cs3,hdl,Int.toNat_natCast,hcg,decide_eq_true (show (0:Int)<=d by omega),decide_eq_false e0,wrap64,SS,eq_self,reduceIte,reduceCtorEq,Nat.reduceEqDiff,Nat.reduceAdd]
      refine ⟨m - 1,by omega,i+1,?_⟩
      (repeat' first | exact f1 | apply And.intro) <;> first | (simp only [Value.int.injEq,true_and];omega) | omega | rfl | assumption | (simp;done) | (simp;omega)
  clear s3 s4 s5 s6 s9 s13 s14 s17 s18 s19 s hT1 hR1 cs1 cg' hw'
  rintro s K ⟨s3,s4,s5,s6,s9,s13,s14,pK⟩
  replace hS:=hS.pre pK
  replace r5:=r5.pre pK
  clear pK L
  cases hD:tkD n es p with
  | none =>
    rw [hD] at s6
    simp only [Option.isSome_none] at s6
    refine cutC (fun _ _=>False) (fun c hc=>?_) (fun _ _ h=>h.elim)
    simp (maxSteps:=1000000) (disch:=omega) only [s6,SS,eq_self,reduceIte,reduceCtorEq,Nat.reduceEqDiff,Nat.reduceAdd]
    refine hQ _ _ _ ?_
    simp (maxSteps:=1000000) (disch:=omega) only [SS,eq_self,reduceIte,reduceCtorEq,Nat.reduceEqDiff,Nat.reduceAdd]
  | some d =>
  obtain ⟨t1,t2,t3,t4,t5⟩:=tk_law hD
  obtain ⟨h1,h2⟩:=half_law hD
  have hdr:=tkD_rng hD
  rw [hD] at s6 s9
  rw [h1] at s14
  simp only [Option.isSome_some,Option.getD_some] at s6 s9
  have hF:Fld n es p:=by
    have h':=hD
    unfold tkD at h'
    split at h'
    . assumption
    . cases h'
  refine cutC (fun s L=>s 3=.pointer (some ⟨gp,0,none⟩)/\s 4=a/\s 5=c1/\s 9=.int .i64 d/\s 13=.int .i64 (halfV (halfR n es p))/\s 14=.bool true/\K=L) (fun c hc=>?_) ?_
  . simp (maxSteps:=1000000) (disch:=omega) only [s3,s4,s5,s6,s9,s13,s14,SS,eq_self,reduceIte,reduceCtorEq,Nat.reduceEqDiff,Nat.reduceAdd]
    exact hc _ _ ⟨s3,s4,s5,s9,s13,s14,rfl⟩
  clear s3 s4 s5 s6 s9 s13 s14 s
  rintro s _ ⟨s3,s4,s5,s9,s13,s14,rfl⟩
  refine cutC (fun s L=>s 3=.pointer (some ⟨gp,0,none⟩)/\s 4=a/\s 5=c1/\s 9=.int .i64 d/\s 13=.int .i64 (halfV (halfR n es p))/\s 14=.bool true/\s 28=.bool true/\(∃ c5,s 27=c5/\Row 3 L c5 (hom p.length))/\K<+:L) (fun c hc=>?_) ?_
  . simp (maxSteps:=1000000) (disch:=omega) only [s3,s4,s5,s9,s13,s14,SS,eq_self,reduceIte,reduceCtorEq,Nat.reduceEqDiff,Nat.reduceAdd]
    refine CallH.by (PlaceI_c a c1 p (tkL n es p) K hS.ha (by omega) kp r5 (by omega) (tkL_i64 hi)) ?_
    rintro _ L ⟨g,rfl,hg,pL⟩
    rw [decide_eq_true t2]
    rw [t3] at hg
    have tg:=hg.row.tup
    simp (maxSteps:=1000000) (disch:=omega) only [tg,s3,s4,s5,s9,s13,s14,SS,eq_self,reduceIte,reduceCtorEq,Nat.reduceEqDiff,Nat.reduceAdd]
    exact hc _ _ ⟨s3,s4,s5,s9,s13,s14,rfl,⟨g,rfl,hg.row⟩,pL⟩
  clear s3 s4 s5 s9 s13 s14 s
  rintro s L ⟨s3,s4,s5,s9,s13,s14,s28,⟨c5,s27,r27⟩,pL⟩
  replace hS:=hS.pre pL
  replace r5:=r5.pre pL
  clear pL K
  refine cutC (fun s K=>s 3=.pointer (some ⟨gp,0,none⟩)/\s 4=a/\s 5=c1/\s 9=.int .i64 d/\s 13=.int .i64 (halfV (halfR n es p))/\s 14=.bool true/\s 28=.bool true/\L=K) (fun c hc=>?_) ?_
  . simp (maxSteps:=1000000) (disch:=omega) only [s3,s4,s5,s9,s13,s14,s27,s28,SS,eq_self,reduceIte,reduceCtorEq,Nat.reduceEqDiff,Nat.reduceAdd]
    refine LoopH.by (fun m s H'=>∃ i:Nat,m+i=p.length/\s 3=.pointer (some ⟨gp,0,none⟩)/\s 4=a/\s 5=c1/\s 9=.int .i64 d/\s 13=.int .i64 (halfV (halfR n es p))/\s 14=.bool true/\s 27=c5/\s 28=.bool true/\s 29=.int .i64 (i:Int)/\L=H') p.length ?_ ?_
    . refine ⟨0,by simp,?_⟩
      simp (maxSteps:=1000000) (disch:=omega) only [s3,s4,s5,s9,s13,s14,s27,s28,SS,eq_self,reduceIte,reduceCtorEq,Nat.reduceEqDiff,Nat.reduceAdd]
      (repeat' first | exact s3 | apply And.intro) <;> first | (simp only [Value.int.injEq,true_and];omega) | omega | rfl | assumption | (simp;done) | (simp;omega)
    clear s3 s4 s5 s9 s13 s14 s27 s28 s
    rintro m s _ ⟨i,hm,s3,s4,s5,s9,s13,s14,s27,s28,s29,rfl⟩
    have hhl:=hom_len p.length
    simp (maxSteps:=1000000) (disch:=omega) only [s3,s4,s5,s9,s13,s14,s27,s28,s29,r27.len Tryz.underlying27,hhl,SS,eq_self,reduceIte,reduceCtorEq,Nat.reduceEqDiff,Nat.reduceAdd]
    refine brD.intro (fun z=>?_) (fun z=>?_)
    rotate_left
    . simp (maxSteps:=1000000) (disch:=omega) only [s3,s4,s5,s9,s13,s14,s27,s28,s29,SS,eq_self,reduceIte,reduceCtorEq,Nat.reduceEqDiff,Nat.reduceAdd]
      exact hc _ _ ⟨s3,s4,s5,s9,s13,s14,s28,rfl⟩
    have hi2:i<p.length:=by omega
    have hce:=r27.cell (show i<(hom p.length).length by omega)
    have e1:(hom p.length).getD i 0=(i:Int):=by simp [hom,hi2]
    rw [e1] at hce
    have e0:¬ ¬ ((i:Int)=i):=fun h=>h rfl
    simp (maxSteps:=1000000) (disch:=omega) only [s3,s4,s5,s9,s13,s14,s27,s28,s29,r27.ix Tryz.underlying27 cs3,hhl,Int.toNat_natCast,hce,decide_eq_false e0,wrap64,SS,eq_self,reduceIte,reduceCtorEq,Nat.reduceEqDiff,Nat.reduceAdd]
    refine ⟨m - 1,by omega,i+1,?_⟩
    (repeat' first | exact s3 | apply And.intro) <;> first | (simp only [Value.int.injEq,true_and];omega) | omega | rfl | assumption | (simp;done) | (simp;omega)
  clear s3 s4 s5 s9 s13 s14 s27 s28 s
  rintro s _ ⟨s3,s4,s5,s9,s13,s14,s28,rfl⟩
  refine cutC (fun s K=>s 3=.pointer (some ⟨gp,0,none⟩)/\s 4=a/\s 5=c1/\s 9=.int .i64 d/\s 13=.int .i64 (halfV (halfR n es p))/\s 14=.bool true/\s 28=.bool true/\L<+:K) (fun c hc=>?_) ?_
  . simp (maxSteps:=1000000) (disch:=omega) only [s3,s4,s5,s9,s13,s14,s28,SS,eq_self,reduceIte,reduceCtorEq,Nat.reduceEqDiff,Nat.reduceAdd]
    refine LoopH.by (fun m s H'=>∃ i:Nat,m+i=(tkL n es p).length/\s 3=.pointer (some ⟨gp,0,none⟩)/\s 4=a/\s 5=c1/\s 9=.int .i64 d/\s 13=.int .i64 (halfV (halfR n es p))/\s 14=.bool true/\s 28=.bool true/\s 30=.int .i64 (i:Int)/\L<+:H') (tkL n es p).length ?_ ?_
    . have f1:=List.prefix_refl L
      refine ⟨0,by simp,?_⟩
      simp (maxSteps:=1000000) (disch:=omega) only [s3,s4,s5,s9,s13,s14,s28,SS,eq_self,reduceIte,reduceCtorEq,Nat.reduceEqDiff,Nat.reduceAdd]
      (repeat' first | exact f1 | apply And.intro) <;> first | (simp only [Value.int.injEq,true_and];omega) | omega | rfl | assumption | (simp;done) | (simp;omega)
    clear s3 s4 s5 s9 s13 s14 s28 s
    rintro m s H' ⟨i,hm,s3,s4,s5,s9,s13,s14,s28,s30,pH⟩
    have r5H:=r5.pre pH
    simp (maxSteps:=1000000) (disch:=omega) only [s3,s4,s5,s9,s13,s14,s28,s30,r5H.len Tryz.underlying24,SS,eq_self,reduceIte,reduceCtorEq,Nat.reduceEqDiff,Nat.reduceAdd]
    refine brD.intro (fun z=>?_) (fun z=>?_)
    rotate_left
    . simp (maxSteps:=1000000) (disch:=omega) only [s3,s4,s5,s9,s13,s14,s28,s30,SS,eq_self,reduceIte,reduceCtorEq,Nat.reduceEqDiff,Nat.reduceAdd]
      exact hc _ _ ⟨s3,s4,s5,s9,s13,s14,s28,pH⟩
    have hi2:i<(tkL n es p).length:=by omega
    have hc0:=r5H.cell0 hi2
    have hc1:=r5H.cell1 hi2
    have hme:(tkL n es p).getD i (0,0) ∈ es:=t1 _ (by simp [hi2])
    have hnr:nearB es ((tkL n es p).getD i (0,0)).1 ((tkL n es p).getD i (0,0)).2=true:=(nearB_iff es _ _).2 (.inl hme)
    simp (maxSteps:=1000000) (disch:=omega) only [s3,s4,s5,s9,s13,s14,s28,s30,ld_agg ag26 cs26 (pre_at pH hS.cg),r5H.ix Tryz.underlying24 cs47,Int.toNat_natCast,hc0,hc1,SS,eq_self,reduceIte,reduceCtorEq,Nat.reduceEqDiff,Nat.reduceAdd]
    refine CallH.by (vNear_c n w es _ _ H' (hS.hw.pre pH) (by omega)) ?_
    rintro _ P ⟨rfl,pP⟩
    rw [hnr]
    have f1:=pH.trans pP
    simp (maxSteps:=1000000) (disch:=omega) only [s3,s4,s5,s9,s13,s14,s28,s30,wrap64,SS,eq_self,reduceIte,reduceCtorEq,Nat.reduceEqDiff,Nat.reduceAdd]
    refine ⟨m - 1,by omega,i+1,?_⟩
    (repeat' first | exact f1 | apply And.intro) <;> first | (simp only [Value.int.injEq,true_and];omega) | omega | rfl | assumption | (simp;done) | (simp;omega)
  clear s3 s4 s5 s9 s13 s14 s28 s
  rintro s K ⟨s3,s4,s5,s9,s13,s14,s28,pK⟩
  replace hS:=hS.pre pK
  replace r5:=r5.pre pK
  clear pK r27 L
  refine cutC (fun s L=>s 3=.pointer (some ⟨gp,0,none⟩)/\s 4=a/\s 5=c1/\s 9=.int .i64 d/\s 13=.int .i64 (halfV (halfR n es p))/\s 14=.bool true/\s 28=.bool true/\s 31=.int .i64 (swapR p)/\K<+:L) (fun c hc=>?_) ?_
  . simp (maxSteps:=1000000) (disch:=omega) only [s3,s4,s5,s9,s13,s14,s28,SS,eq_self,reduceIte,reduceCtorEq,Nat.reduceEqDiff,Nat.reduceAdd]
    refine CallH.by (SwapCI_c a p K hS.ha (by omega) kp) ?_
    rintro _ L ⟨rfl,pL⟩
    simp (maxSteps:=1000000) (disch:=omega) only [s3,s4,s5,s9,s13,s14,s28,SS,eq_self,reduceIte,reduceCtorEq,Nat.reduceEqDiff,Nat.reduceAdd]
    exact hc _ _ ⟨s3,s4,s5,s9,s13,s14,s28,rfl,pL⟩
  clear s3 s4 s5 s9 s13 s14 s28 s
  rintro s L ⟨s3,s4,s5,s9,s13,s14,s28,s31,pL⟩
  replace hS:=hS.pre pL
  replace r5:=r5.pre pL
  clear pL K
  refine cutC (fun s K=>s 3=.pointer (some ⟨gp,0,none⟩)/\s 4=a/\s 5=c1/\s 9=.int .i64 d/\s 13=.int .i64 (halfV (halfR n es p))/\s 14=.bool true/\s 28=.bool true/\s 31=.int .i64 (swapR p)/\s 33=.int .i64 (invR p)/\L<+:K) (fun c hc=>?_) ?_
  . simp (maxSteps:=1000000) (disch:=omega) only [s3,s4,s5,s9,s13,s14,s28,s31,SS,eq_self,reduceIte,reduceCtorEq,Nat.reduceEqDiff,Nat.reduceAdd]
    refine CallH.by (InvI_c a p L hS.ha (by omega) kp) ?_
    rintro _ K ⟨rfl,pK⟩
    simp (maxSteps:=1000000) (disch:=omega) only [s3,s4,s5,s9,s13,s14,s28,s31,SS,eq_self,reduceIte,reduceCtorEq,Nat.reduceEqDiff,Nat.reduceAdd]
    exact hc _ _ ⟨s3,s4,s5,s9,s13,s14,s28,s31,rfl,pK⟩
  clear s3 s4 s5 s9 s13 s14 s28 s31 s
  rintro s K ⟨s3,s4,s5,s9,s13,s14,s28,s31,s33,pK⟩
  replace hS:=hS.pre pK
  replace r5:=r5.pre pK
  clear pK L
  have hn6:0<=n/\n<=6:=⟨hF.1.1.1.1.1,hF.2⟩
  refine cutC (fun s L=>s 3=.pointer (some ⟨gp,0,none⟩)/\s 4=a/\s 5=c1/\s 9=.int .i64 d/\s 13=.int .i64 (halfV (halfR n es p))/\s 14=.bool true/\s 28=.bool true/\s 31=.int .i64 (swapR p)/\s 33=.int .i64 (invR p)/\s 35=.bool (decide ((es.length:Int)=n - 1))/\K=L) (fun c hc=>?_) ?_
  . simp (maxSteps:=1000000) (disch:=omega) only [s3,s4,s5,s9,s13,s14,s28,s31,s33,cell_of hS.cg,hS.hw.len Tryz.underlying24,wrap64,SS,eq_self,reduceIte,reduceCtorEq,Nat.reduceEqDiff,Nat.reduceAdd]
    exact hc _ _ ⟨s3,s4,s5,s9,s13,s14,s28,s31,s33,rfl,rfl⟩
  clear s3 s4 s5 s9 s13 s14 s28 s31 s33 s
  rintro s _ ⟨s3,s4,s5,s9,s13,s14,s28,s31,s33,s35,rfl⟩
  refine cutC (fun s L=>s 3=.pointer (some ⟨gp,0,none⟩)/\s 4=a/\s 5=c1/\s 9=.int .i64 d/\s 13=.int .i64 (halfV (halfR n es p))/\s 14=.bool true/\s 28=.bool true/\s 31=.int .i64 (swapR p)/\s 33=.int .i64 (invR p)/\s 35=.bool (decide ((es.length:Int)=n - 1) && es.all fun e=>decide (e.2=e.1+1))/\K=L) (fun c hc=>?_) ?_
  . simp (maxSteps:=1000000) (disch:=omega) only [s3,s4,s5,s9,s13,s14,s28,s31,s33,s35,SS,eq_self,reduceIte,reduceCtorEq,Nat.reduceEqDiff,Nat.reduceAdd]
    refine LoopH.by (fun m s H'=>∃ i:Nat,m+i=es.length/\s 3=.pointer (some ⟨gp,0,none⟩)/\s 4=a/\s 5=c1/\s 9=.int .i64 d/\s 13=.int .i64 (halfV (halfR n es p))/\s 14=.bool true/\s 28=.bool true/\s 31=.int .i64 (swapR p)/\s 33=.int .i64 (invR p)/\s 35=.bool (decide ((es.length:Int)=n - 1) && (es.take i).all fun e=>decide (e.2=e.1+1))/\s 36=.int .i64 (i:Int)/\K=H') es.length ?_ ?_
    . have f1:Value.bool (decide ((es.length:Int)=n - 1))=Value.bool (decide ((es.length:Int)=n - 1) && (es.take 0).all fun e=>decide (e.2=e.1+1)):=by simp
      refine ⟨0,by simp,?_⟩
      simp (maxSteps:=1000000) (disch:=omega) only [s3,s4,s5,s9,s13,s14,s28,s31,s33,s35,SS,eq_self,reduceIte,reduceCtorEq,Nat.reduceEqDiff,Nat.reduceAdd]
      (repeat' first | exact f1 | apply And.intro) <;> first | (simp only [Value.int.injEq,true_and];omega) | omega | rfl | assumption | (simp;done) | (simp;omega)
    clear s3 s4 s5 s9 s13 s14 s28 s31 s33 s35 s
    rintro m s _ ⟨i,hm,s3,s4,s5,s9,s13,s14,s28,s31,s33,s35,s36,rfl⟩
    simp (maxSteps:=1000000) (disch:=omega) only [s3,s4,s5,s9,s13,s14,s28,s31,s33,s36,cell_of hS.cg,hS.hw.len Tryz.underlying24,SS,eq_self,reduceIte,reduceCtorEq,Nat.reduceEqDiff,Nat.reduceAdd]
    refine brD.intro (fun z=>?_) (fun z=>?_)
    rotate_left
    . have ei:es.take i=es:=List.take_of_length_le (by omega)
      rw [ei] at s35
      simp (maxSteps:=1000000) (disch:=omega) only [s3,s4,s5,s9,s13,s14,s28,s31,s33,s35,s36,SS,eq_self,reduceIte,reduceCtorEq,Nat.reduceEqDiff,Nat.reduceAdd]
      exact hc _ _ ⟨s3,s4,s5,s9,s13,s14,s28,s31,s33,s35,rfl⟩
    have hi2:i<es.length:=by omega
    have hc0:=hS.hw.cell0 hi2
    have hc1:=hS.hw.cell1 hi2
    have hem:=hi (es.getD i (0,0)) (by simp [hi2])
    have hsm2:=hs (es.getD i (0,0)) (by simp [hi2])
    have hta:((es.take (i+1)).all fun e=>decide (e.2=e.1+1))=(((es.take i).all fun e=>decide (e.2=e.1+1)) && decide ((es.getD i (0,0)).2=(es.getD i (0,0)).1+1)):=by
      have eg:es.getD i (0,0)=es[i]:=by simp [hi2]
      rw [List.take_add_one,List.getElem?_eq_getElem hi2,List.all_append,eg]
      simp
    cases hq:(decide ((es.length:Int)=n - 1) && (es.take i).all fun e=>decide (e.2=e.1+1)) with
    | false =>
      rw [hq] at s35
      have f1:Value.bool false=Value.bool (decide ((es.length:Int)=n - 1) && (es.take (i+1)).all fun e=>decide (e.2=e.1+1)):=by rw [hta,<- Bool.and_assoc,hq,Bool.false_and]
      simp (maxSteps:=1000000) (disch:=omega) only [s3,s4,s5,s9,s13,s14,s28,s31,s33,s35,s36,wrap64,SS,eq_self,reduceIte,reduceCtorEq,Nat.reduceEqDiff,Nat.reduceAdd]
      refine ⟨m - 1,by omega,i+1,?_⟩
      (repeat' first | exact f1 | apply And.intro) <;> first | (simp only [Value.int.injEq,true_and];omega) | omega | rfl | assumption | (simp;done) | (simp;omega)
    | true =>
      rw [hq] at s35
      have f1:Value.bool (decide ((es.getD i (0,0)).2=(es.getD i (0,0)).1+1))=Value.bool (decide ((es.length:Int)=n - 1) && (es.take (i+1)).all fun e=>decide (e.2=e.1+1)):=by rw [hta,<- Bool.and_assoc,hq,Bool.true_and]
      simp (maxSteps:=1000000) (disch:=omega) only [s3,s4,s5,s9,s13,s14,s28,s31,s33,s35,s36,cell_of hS.cg,hS.hw.ix Tryz.underlying24 cs47,Int.toNat_natCast,hc0,hc1,wrap64,SS,eq_self,reduceIte,reduceCtorEq,Nat.reduceEqDiff,Nat.reduceAdd]
      refine ⟨m - 1,by omega,i+1,?_⟩
      (repeat' first | exact f1 | apply And.intro) <;> first | (simp only [Value.int.injEq,true_and];omega) | omega | rfl | assumption | (simp;done) | (simp;omega)
  clear s3 s4 s5 s9 s13 s14 s28 s31 s33 s35 s
  rintro s _ ⟨s3,s4,s5,s9,s13,s14,s28,s31,s33,s35,rfl⟩
  have hnn:0<=n * (n - 1)/\n * (n - 1)<=30:=by
    have:n=0∨n=1∨n=2∨n=3∨n=4∨n=5∨n=6:=by omega
    rcases this with rfl | rfl | rfl | rfl | rfl | rfl | rfl <;> decide
  have hw1:IntKind.i64.wrap (n - 1)=n - 1:=by rw [wrap64 (by omega) (by omega)]
  have hw2:IntKind.i64.wrap (n * (n - 1))=n * (n - 1):=by rw [wrap64 (by omega) (by omega)]
  have hq0:0<=(n * (n - 1)).tdiv 2/\(n * (n - 1)).tdiv 2<=30:=by
    rw [Int.tdiv_eq_ediv_of_nonneg hnn.1];omega
  have hw3:IntKind.i64.wrap ((n * (n - 1)).tdiv 2)=(n * (n - 1)).tdiv 2:=by rw [wrap64 (by omega) (by omega)]
  refine cutC (fun s L=>s 3=.pointer (some ⟨gp,0,none⟩)/\s 4=a/\s 5=c1/\s 9=.int .i64 d/\s 13=.int .i64 (halfV (halfR n es p))/\s 14=.bool true/\s 28=.bool true/\s 31=.int .i64 (swapR p)/\s 33=.int .i64 (invR p)/\s 35=.bool (decide ((es.length:Int)=n - 1) && es.all fun e=>decide (e.2=e.1+1))/\s 37=.bool (decide ((es.length:Int)=(n * (n - 1)).tdiv 2))/\K=L) (fun c hc=>?_) ?_
  . simp (maxSteps:=1000000) (disch:=omega) only [s3,s4,s5,s9,s13,s14,s28,s31,s33,s35,cell_of hS.cg,hS.hw.len Tryz.underlying24,hw1,hw2,hw3,SS,eq_self,reduceIte,reduceCtorEq,Nat.reduceEqDiff,Nat.reduceAdd]
    exact hc _ _ ⟨s3,s4,s5,s9,s13,s14,s28,s31,s33,s35,rfl,rfl⟩
  clear s3 s4 s5 s9 s13 s14 s28 s31 s33 s35 s
  rintro s _ ⟨s3,s4,s5,s9,s13,s14,s28,s31,s33,s35,s37,rfl⟩
  have g1:swapR p<=d:=t5
  have g2:halfV (halfR n es p)<=d:=h2
  generalize hrow:(decide ((es.length:Int)=n - 1) && es.all fun e=>decide (e.2=e.1+1))=row at *
  have g3:row=true->d=invR p:=fun e=>by
    rw [e,Bool.and_eq_true,decide_eq_true_eq,List.all_eq_true] at hrow
    exact row_law hD hrow.1 fun e he=>of_decide_eq_true (hrow.2 e he)
  have g4:(es.length:Int)=(n * (n - 1)).tdiv 2->d=swapR p:=fun e=>ful_law hD e
  generalize halfV (halfR n es p)=hv at *
  by_cases hfu:(es.length:Int)=(n * (n - 1)).tdiv 2 <;> cases row
  . simp (maxSteps:=1000000) (disch:=omega) only [s3,s4,s5,s9,s13,s14,s28,s31,s33,s35,s37,r5.len Tryz.underlying24,t4,decide_eq_true (rfl:d=d),decide_eq_true g1,decide_eq_true g2,decide_eq_true hfu,decide_eq_true (g4 hfu),SS,eq_self,reduceIte,reduceCtorEq,Nat.reduceEqDiff,Nat.reduceAdd]
    refine hQ _ _ _ ?_
    simp (maxSteps:=1000000) (disch:=omega) only [SS,eq_self,reduceIte,reduceCtorEq,Nat.reduceEqDiff,Nat.reduceAdd]
  . simp (maxSteps:=1000000) (disch:=omega) only [s3,s4,s5,s9,s13,s14,s28,s31,s33,s35,s37,r5.len Tryz.underlying24,t4,decide_eq_true (rfl:d=d),decide_eq_true g1,decide_eq_true g2,decide_eq_true hfu,decide_eq_true (g4 hfu),decide_eq_true (g3 rfl),SS,eq_self,reduceIte,reduceCtorEq,Nat.reduceEqDiff,Nat.reduceAdd]
    refine hQ _ _ _ ?_
    simp (maxSteps:=1000000) (disch:=omega) only [SS,eq_self,reduceIte,reduceCtorEq,Nat.reduceEqDiff,Nat.reduceAdd]
  . simp (maxSteps:=1000000) (disch:=omega) only [s3,s4,s5,s9,s13,s14,s28,s31,s33,s35,s37,r5.len Tryz.underlying24,t4,decide_eq_true (rfl:d=d),decide_eq_true g1,decide_eq_true g2,decide_eq_false hfu,SS,eq_self,reduceIte,reduceCtorEq,Nat.reduceEqDiff,Nat.reduceAdd]
    refine hQ _ _ _ ?_
    simp (maxSteps:=1000000) (disch:=omega) only [SS,eq_self,reduceIte,reduceCtorEq,Nat.reduceEqDiff,Nat.reduceAdd]
  . simp (maxSteps:=1000000) (disch:=omega) only [s3,s4,s5,s9,s13,s14,s28,s31,s33,s35,s37,r5.len Tryz.underlying24,t4,decide_eq_true (rfl:d=d),decide_eq_true g1,decide_eq_true g2,decide_eq_false hfu,decide_eq_true (g3 rfl),SS,eq_self,reduceIte,reduceCtorEq,Nat.reduceEqDiff,Nat.reduceAdd]
    refine hQ _ _ _ ?_
    simp (maxSteps:=1000000) (disch:=omega) only [SS,eq_self,reduceIte,reduceCtorEq,Nat.reduceEqDiff,Nat.reduceAdd]
def byts (zs:List Int):List Value:=zs.map fun z=>.int .u8 z
theorem byts_len (xs:List Int):(byts xs).length=xs.length:=by simp [byts]
theorem byts_at (xs:List Int){i:Nat}(h:i<xs.length):(byts xs)[i]?=some (.int .u8 (xs.getD i 0)):=by
  simp [byts,h,List.getElem?_eq_getElem]
theorem Args.addBytes {P:Program}{t e:TypeId}{W:World}{base:Nat}{a:Option Addr}{len cap:Nat}{zs:List Int}{μ:Mu}{H:AH}(h:Args P μ H W)(hc:P.cellsOf e=1)(hu:P.underlying t=some (.slice e))
    (hok:Value.okWide P W .any base t (.slice a len cap))(hrow:IsRow .u8 W a len cap zs) :
    ∃ (μ':Mu) (obj:AObj) (va:Value) (us:List Value),Args P μ' (H ++ [obj]) W/\μ.Le μ'/\TRel μ' va (.slice a len cap)/\RowV e (H ++ [obj]) va us/\(∀ i,i<us.length->∃ b:Nat,us.getD i undef=.int .u8 (b:Int)/\b<256)/\(us.length:Int)<=9223372036854775807:=by
  rcases hrow with ⟨rfl,rfl,rfl,rfl⟩ | ⟨x,rfl,hl,hm,hz,hcell,hwf⟩
  . refine ⟨μ,.dead,.slice none 0 0,[],⟨h.rel.phantom .dead,?_⟩,Mu.Le.refl _,⟨rfl,rfl,rfl⟩,.inl ⟨rfl,rfl⟩,fun i hi=>absurd hi (by simp),by simp⟩
    intro o y hy
    rw [getElem?_snoc] at hy
    split at hy
    . cases hy;rfl
    . exact h.ro o y hy
  . simp only [Value.okWide,hu,Cell.okWide,Cell.ok] at hok
    obtain ⟨_,_,_,hspot,row,cells,hsh,_⟩:=hok
    have hblk:x.block<W.heap.size:=by
      unfold World.shape? at hsh
      cases hb:W.heap[x.block]? with
      | none=>rw [hb] at hsh;cases hsh
      | some o=>exact (Array.getElem?_eq_some_iff.1 hb).1
    have hx:∀ i,x.add i=⟨x.block,x.off+i,none⟩:=by intro i;cases x;simp_all [Addr.add]
    have hfree:μ H.length=none:=h.rel.dom _ (Nat.le_refl _)
    have hle:=Mu.le_put (L:=⟨x.block,x.off,cap,1⟩) hfree
    have hro:∀ (o:Nat) (y:AObj),(H ++ [AObj.cells (byts zs) e true])[o]?=some y->y.wr=false:=by
      intro o y hy
      rw [getElem?_snoc] at hy
      split at hy
      . cases hy;rfl
      . exact h.ro o y hy
    refine ⟨μ.put H.length ⟨x.block,x.off,cap,1⟩,.cells (byts zs) e true,.slice (some ⟨H.length,0,none⟩) len len,byts (zs.take len),⟨?_,hro⟩,hle,?_,?_,?_,?_⟩
    . refine ⟨?_,?_,?_,?_⟩
      . intro o ho
        simp only [List.length_append,List.length_cons,List.length_nil] at ho
        rw [Mu.put_other _ _ _ (by omega)];exact h.rel.dom o (by omega)
      . intro o vs t' ro L ho hL
        rw [getElem?_snoc] at ho
        split at ho
        . rename_i eo
          subst eo
          simp only [Option.some.injEq,AObj.cells.injEq] at ho
          obtain ⟨rfl,rfl,rfl⟩:=ho
          rw [Mu.put_same] at hL
          cases hL
          refine ⟨hblk,by simp,hc.symm,by rw [byts_len];show zs.length<=cap;omega,?_,fun h=>by cases h⟩
          intro i v hv
          have hi:i<zs.length:=by have:=(List.getElem?_eq_some_iff.1 hv).1;rwa [byts_len] at this
          rw [byts_at zs hi] at hv
          cases hv
          refine ⟨_,?_,rfl⟩
          rw [<- hx];exact hcell i hi
        . rename_i eo
          rw [Mu.put_other _ _ _ eo] at hL
          obtain ⟨h2,h3,h4,h5,h6,h7⟩:=h.rel.cells_ o vs t' ro L ho hL
          refine ⟨h2,h3,h4,h5,?_,h7⟩
          intro i v hv
          obtain ⟨cv,g1,g2⟩:=h6 i v hv
          exact ⟨cv,g1,g2.mono hle⟩
      . intro o es L ho hL
        rw [getElem?_snoc] at ho
        split at ho
        . cases ho
        . have:=h.ro o _ ho
          cases this
      . intro o o' y y' L L' hne ho ho' hw
        have:=hro o y ho
        rw [this] at hw;cases hw
    . refine ⟨rfl,rfl,x,cap,rfl,hl,.inr ⟨⟨x.block,x.off,cap,1⟩,Mu.put_same _ _ _,?_,by simp⟩⟩
      have:=hx 0
      cases x
      simp_all
    . refine .inr ⟨H.length,0,byts zs,true,?_,at_new ..,?_,?_⟩
      . have:(byts (zs.take len)).length=len:=by rw [byts_len];simp;omega
        rw [this]
      . rw [byts_len,byts_len];simp;omega
      . have:(byts (zs.take len)).length=len:=by rw [byts_len];simp;omega
        rw [this,List.drop_zero]
        simp [byts,List.map_take]
    . intro i hi
      rw [byts_len] at hi
      have h1:=byts_at (zs.take len) hi
      have hm2:(zs.take len).getD i 0 ∈ zs.take len:=by
        rw [List.getD_eq_getElem?_getD,List.getElem?_eq_getElem hi]
        exact List.getElem_mem hi
      have:=hwf _ (List.mem_of_mem_take hm2)
      simp [Lit.wf,IntKind.min,IntKind.max,IntKind.signed,IntKind.bits] at this
      rw [List.getD_eq_getElem?_getD,h1]
      have h0:0<=(zs.take len).getD i 0/\(zs.take len).getD i 0<256:=by
        simp only [List.getD_eq_getElem?_getD,List.getElem?_take] at this ⊢
        omega
      exact ⟨((zs.take len).getD i 0).toNat,by rw [Int.toNat_of_nonneg h0.1];rfl,by omega⟩
    . rw [byts_len,List.length_take]
      unfold maxLen at hm
      omega
end Go.Proofs.YtjnefjchconebaaGreat.Ai
