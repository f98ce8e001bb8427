/- Texts of this claim, joined: SpR, EqI, SpW, StpP, SpK, Dix, Cws, Drv, Lay, Ww, WyL, Vee, Tkd. -/
import Derived.Test.YtlcipphiflcaiaaGreatProg
import Derived.KernelRfl
import Derived.Test.YtlcipphiflcaiaaGreatMgLawWyw5
set_option linter.unusedVariables false
set_option linter.unusedSimpArgs false
set_option maxHeartbeats 8000000
set_option maxRecDepth 20000
namespace Go.Proofs.YtlcipphiflcaiaaGreat.Ai
open Go Go.RowKit
def cd68:Cd:=(.seq (.reg [⟨⟨some 1,.box 34 (.tmp 0),none⟩,[]⟩,⟨⟨some 2,.assign (.const (.slice none 0 0)),none⟩,[]⟩]) (.seq (.reg [⟨⟨some 8,.fieldAddr 34 (.tmp 1) 0,none⟩,[]⟩,⟨⟨some 9,.load 32 (.tmp 8),none⟩,[]⟩,⟨⟨some 10,.call ⟨(.builtin .len),#[.tmp 9],#[32]⟩,none⟩,[]⟩,⟨⟨some 11,.makeSlice 32 (.tmp 10) (.tmp 10),none⟩,[]⟩,⟨⟨some 3,.assign (.tmp 11),none⟩,[]⟩]) (.seq (.seq (.reg [⟨⟨some 12,.fieldAddr 34 (.tmp 1) 1,none⟩,[]⟩,⟨⟨some 13,.load 24 (.tmp 12),none⟩,[]⟩,⟨⟨some 14,.call ⟨(.builtin .len),#[.tmp 13],#[24]⟩,none⟩,[]⟩,⟨⟨some 15,.move (.const (.int .i64 0)),none⟩,[]⟩]) (.block 0 (.loop (.seq (.reg [⟨⟨some 16,.binOp .lss 3 (.tmp 15) (.tmp 14) 3,none⟩,[]⟩]) (.seq (.cond (.tmp 16) .skip (.exit 0)) (.seq (.block 1 (.seq (.reg [⟨⟨some 17,.indexAddr 24 (.tmp 13) (.tmp 15),none⟩,[]⟩,⟨⟨some 18,.load 115 (.tmp 17),none⟩,[]⟩,⟨⟨some 5,.alloc 115,none⟩,[]⟩,⟨⟨none,.store 115 (.tmp 5) (.tmp 18),none⟩,[]⟩]) (.seq (.reg [⟨⟨some 19,.move (.tmp 3),none⟩,[]⟩,
 ⟨⟨some 20,.indexAddr 115 (.tmp 5) (.const (.int .i64 0)),none⟩,[]⟩,⟨⟨some 21,.load 3 (.tmp 20),none⟩,[]⟩,⟨⟨some 22,.move (.tmp 3),none⟩,[]⟩,⟨⟨some 23,.indexAddr 115 (.tmp 5) (.const (.int .i64 0)),none⟩,[]⟩,⟨⟨some 24,.load 3 (.tmp 23),none⟩,[]⟩,⟨⟨some 25,.indexAddr 32 (.tmp 22) (.tmp 24),none⟩,[]⟩,⟨⟨some 26,.load 27 (.tmp 25),none⟩,[]⟩,⟨⟨some 27,.indexAddr 115 (.tmp 5) (.const (.int .i64 1)),none⟩,[]⟩,⟨⟨some 28,.load 3 (.tmp 27),none⟩,[]⟩,⟨⟨some 29,.buildSlice 27 1 #[(0,.tmp 28)],none⟩,[]⟩,⟨⟨some 30,.call ⟨(.builtin .append),#[.tmp 26,.tmp 29],#[27,27]⟩,none⟩,[⟨some 21,.load 3 (.tmp 20),none⟩]⟩,⟨⟨some 31,.indexAddr 32 (.tmp 19) (.tmp 21),none⟩,[]⟩,
 ⟨⟨none,.store 27 (.tmp 31) (.tmp 30),none⟩,[]⟩]) (.reg [⟨⟨some 32,.move (.tmp 3),none⟩,[]⟩,⟨⟨some 33,.indexAddr 115 (.tmp 5) (.const (.int .i64 1)),none⟩,[]⟩,⟨⟨some 34,.load 3 (.tmp 33),none⟩,[]⟩,⟨⟨some 35,.move (.tmp 3),none⟩,[]⟩,⟨⟨some 36,.indexAddr 115 (.tmp 5) (.const (.int .i64 1)),none⟩,[]⟩,⟨⟨some 37,.load 3 (.tmp 36),none⟩,[]⟩,⟨⟨some 38,.indexAddr 32 (.tmp 35) (.tmp 37),none⟩,[]⟩,⟨⟨some 39,.load 27 (.tmp 38),none⟩,[]⟩,⟨⟨some 40,.indexAddr 115 (.tmp 5) (.const (.int .i64 0)),none⟩,[]⟩,⟨⟨some 41,.load 3 (.tmp 40),none⟩,[]⟩,⟨⟨some 42,.buildSlice 27 1 #[(0,.tmp 41)],none⟩,[]⟩,⟨⟨some 43,.call ⟨(.builtin .append),#[.tmp 39,.tmp 42],#[27,27]⟩,none⟩,[⟨some 34,.load 3 (.tmp 33),none⟩]⟩,
 ⟨⟨some 44,.indexAddr 32 (.tmp 32) (.tmp 34),none⟩,[]⟩,
  ⟨⟨none,.store 27 (.tmp 44) (.tmp 43),none⟩,[]⟩])))) (.reg [⟨⟨some 45,.binOp .add 3 (.tmp 15) (.const (.int .i64 1)) 3,none⟩,[]⟩,
  ⟨⟨some 15,.move (.tmp 45),none⟩,[]⟩]))))))) (.seq (.seq (.reg [⟨⟨some 46,.move (.tmp 3),none⟩,[]⟩,
  ⟨⟨some 47,.call ⟨(.builtin .len),#[.tmp 46],#[32]⟩,none⟩,[]⟩,
  ⟨⟨some 48,.move (.const (.int .i64 0)),none⟩,[]⟩]) (.block 2 (.loop (.seq (.reg [⟨⟨some 49,.binOp .lss 3 (.tmp 48) (.tmp 47) 3,none⟩,[]⟩]) (.seq (.cond (.tmp 49) .skip (.exit 2)) (.seq (.block 3 (.seq (.reg [⟨⟨some 50,.indexAddr 32 (.tmp 46) (.tmp 48),none⟩,[]⟩,
  ⟨⟨some 51,.load 27 (.tmp 50),none⟩,[]⟩,
  ⟨⟨some 7,.assign (.tmp 51),none⟩,[]⟩]) (.reg [⟨⟨some 52,.move (.tmp 7),none⟩,[]⟩,
  ⟨⟨some 53,.call ⟨(.value (.func 134)),#[.tmp 52],#[27]⟩,none⟩,[]⟩]))) (.reg [⟨⟨some 54,.binOp .add 3 (.tmp 48) (.const (.int .i64 1)) 3,none⟩,[]⟩,
  ⟨⟨some 48,.move (.tmp 54),none⟩,[]⟩]))))))) (.seq (.reg [⟨⟨some 55,.move (.tmp 3),none⟩,[]⟩,
  ⟨⟨some 2,.assign (.tmp 55),none⟩,[]⟩]) .ret)))))
theorem in68:InT Tryz.prog 68 1 [.tmp 2] cd68:=InT.mk (by kernel_rfl) [(5,[(0,false),(1,false),(2,false),(3,false),(4,false),(5,false),(6,false),(7,false),(8,false),(9,false),(10,false),(11,true),(12,false),(13,true)]),(6,[(0,false),(1,false),(2,false),(3,false),(4,false),(5,false),(6,false),(7,false),(8,false),(9,false),(10,false),(11,true),(12,false),(13,true)])] Tryz.func68 rfl (by kernel_rfl) (by kernel_rfl) (of_decide_eq_true (by kernel_rfl)) (by kernel_rfl)
def cd177:Cd:=(.seq (.reg [⟨⟨some 1,.box 34 (.tmp 0),none⟩,[]⟩,⟨⟨some 2,.assign (.const (.slice none 0 0)),none⟩,[]⟩]) (.seq (.reg [⟨⟨some 10,.fieldAddr 34 (.tmp 1) 0,none⟩,[]⟩,⟨⟨some 11,.load 32 (.tmp 10),none⟩,[]⟩,⟨⟨some 12,.call ⟨(.builtin .len),#[.tmp 11],#[32]⟩,none⟩,[]⟩,⟨⟨some 13,.makeSlice 32 (.tmp 12) (.tmp 12),none⟩,[]⟩,⟨⟨some 3,.assign (.tmp 13),none⟩,[]⟩]) (.seq (.seq (.reg [⟨⟨some 4,.assign (.const (.int .i64 0)),none⟩,[]⟩]) (.block 0 (.loop (.seq (.seq (.reg [⟨⟨some 14,.move (.tmp 4),none⟩,[]⟩,⟨⟨some 15,.fieldAddr 34 (.tmp 1) 1,none⟩,[]⟩,⟨⟨some 16,.load 24 (.tmp 15),none⟩,[]⟩,⟨⟨some 17,.call ⟨(.builtin .len),#[.tmp 16],#[24]⟩,none⟩,[]⟩,⟨⟨some 18,.binOp .lss 3 (.tmp 14) (.tmp 17) 3,none⟩,[]⟩]) (.cond (.tmp 18) .skip (.exit 0))) (.seq (.block 1 (.seq (.reg [⟨⟨some 21,.fieldAddr 34 (.tmp 1) 1,none⟩,[]⟩,⟨⟨some 22,.load 24 (.tmp 21),none⟩,[]⟩,⟨⟨some 23,.move (.tmp 4),none⟩,[]⟩,
 ⟨⟨some 24,.indexAddr 24 (.tmp 22) (.tmp 23),none⟩,[]⟩,⟨⟨some 25,.indexAddr 115 (.tmp 24) (.const (.int .i64 0)),none⟩,[]⟩,⟨⟨some 26,.load 3 (.tmp 25),none⟩,[]⟩,⟨⟨some 27,.fieldAddr 34 (.tmp 1) 1,none⟩,[]⟩,⟨⟨some 28,.load 24 (.tmp 27),none⟩,[]⟩,⟨⟨some 29,.move (.tmp 4),none⟩,[]⟩,⟨⟨some 30,.indexAddr 24 (.tmp 28) (.tmp 29),none⟩,[]⟩,⟨⟨some 31,.indexAddr 115 (.tmp 30) (.const (.int .i64 1)),none⟩,[]⟩,⟨⟨some 32,.load 3 (.tmp 31),none⟩,[]⟩,⟨⟨some 5,.assign (.tmp 26),none⟩,[]⟩,⟨⟨some 6,.assign (.tmp 32),none⟩,[]⟩]) (.reg [⟨⟨some 33,.move (.tmp 3),none⟩,[]⟩,⟨⟨some 34,.move (.tmp 6),none⟩,[]⟩,
 ⟨⟨some 35,.move (.tmp 3),none⟩,[]⟩,⟨⟨some 36,.move (.tmp 6),none⟩,[]⟩,⟨⟨some 37,.indexAddr 32 (.tmp 35) (.tmp 36),none⟩,[]⟩,⟨⟨some 38,.load 27 (.tmp 37),none⟩,[]⟩,⟨⟨some 39,.move (.tmp 5),none⟩,[]⟩,⟨⟨some 40,.buildSlice 27 1 #[(0,.tmp 39)],none⟩,[]⟩,⟨⟨some 41,.call ⟨(.builtin .append),#[.tmp 38,.tmp 40],#[27,27]⟩,none⟩,[]⟩,⟨⟨some 42,.indexAddr 32 (.tmp 33) (.tmp 34),none⟩,[]⟩,⟨⟨none,.store 27 (.tmp 42) (.tmp 41),none⟩,[]⟩]))) (.reg [⟨⟨some 19,.move (.tmp 4),none⟩,[]⟩,⟨⟨some 20,.binOp .add 3 (.tmp 19) (.const (.int .i64 1)) 3,none⟩,[]⟩,⟨⟨some 4,.assign (.tmp 20),none⟩,[]⟩])))))) (.seq (.seq (.reg [⟨⟨some 7,.assign (.const (.int .i64 0)),none⟩,[]⟩]) (.block 2 (.loop (.seq (.seq (.reg [⟨⟨some 43,.move (.tmp 7),none⟩,[]⟩,⟨⟨some 44,.fieldAddr 34 (.tmp 1) 1,none⟩,[]⟩,
 ⟨⟨some 45,.load 24 (.tmp 44),none⟩,[]⟩,⟨⟨some 46,.call ⟨(.builtin .len),#[.tmp 45],#[24]⟩,none⟩,[]⟩,⟨⟨some 47,.binOp .lss 3 (.tmp 43) (.tmp 46) 3,none⟩,[]⟩]) (.cond (.tmp 47) .skip (.exit 2))) (.seq (.block 3 (.seq (.reg [⟨⟨some 50,.fieldAddr 34 (.tmp 1) 1,none⟩,[]⟩,⟨⟨some 51,.load 24 (.tmp 50),none⟩,[]⟩,⟨⟨some 52,.move (.tmp 7),none⟩,[]⟩,⟨⟨some 53,.indexAddr 24 (.tmp 51) (.tmp 52),none⟩,[]⟩,⟨⟨some 54,.indexAddr 115 (.tmp 53) (.const (.int .i64 0)),none⟩,[]⟩,⟨⟨some 55,.load 3 (.tmp 54),none⟩,[]⟩,⟨⟨some 56,.fieldAddr 34 (.tmp 1) 1,none⟩,[]⟩,⟨⟨some 57,.load 24 (.tmp 56),none⟩,[]⟩,⟨⟨some 58,.move (.tmp 7),none⟩,[]⟩,⟨⟨some 59,.indexAddr 24 (.tmp 57) (.tmp 58),none⟩,[]⟩,
 ⟨⟨some 60,.indexAddr 115 (.tmp 59) (.const (.int .i64 1)),none⟩,[]⟩,⟨⟨some 61,.load 3 (.tmp 60),none⟩,[]⟩,⟨⟨some 8,.assign (.tmp 55),none⟩,[]⟩,⟨⟨some 9,.assign (.tmp 61),none⟩,[]⟩]) (.reg [⟨⟨some 62,.move (.tmp 3),none⟩,[]⟩,⟨⟨some 63,.move (.tmp 8),none⟩,[]⟩,⟨⟨some 64,.move (.tmp 3),none⟩,[]⟩,⟨⟨some 65,.move (.tmp 8),none⟩,[]⟩,⟨⟨some 66,.indexAddr 32 (.tmp 64) (.tmp 65),none⟩,[]⟩,⟨⟨some 67,.load 27 (.tmp 66),none⟩,[]⟩,⟨⟨some 68,.move (.tmp 9),none⟩,[]⟩,⟨⟨some 69,.buildSlice 27 1 #[(0,.tmp 68)],none⟩,[]⟩,⟨⟨some 70,.call ⟨(.builtin .append),#[.tmp 67,.tmp 69],#[27,27]⟩,none⟩,[]⟩,
 ⟨⟨some 71,.indexAddr 32 (.tmp 62) (.tmp 63),none⟩,[]⟩,
  ⟨⟨none,.store 27 (.tmp 71) (.tmp 70),none⟩,[]⟩]))) (.reg [⟨⟨some 48,.move (.tmp 7),none⟩,[]⟩,
  ⟨⟨some 49,.binOp .add 3 (.tmp 48) (.const (.int .i64 1)) 3,none⟩,[]⟩,
  ⟨⟨some 7,.assign (.tmp 49),none⟩,[]⟩])))))) (.seq (.reg [⟨⟨some 72,.move (.tmp 3),none⟩,[]⟩,
  ⟨⟨some 2,.assign (.tmp 72),none⟩,[]⟩]) .ret)))))
theorem in177:InT Tryz.prog 177 1 [.tmp 2] cd177:=InT.mk (by kernel_rfl) [(5,[(0,false),(1,false),(2,false),(3,false),(4,false),(5,false),(6,false),(7,false),(8,false),(9,false),(10,false),(11,false),(12,false),(13,false)]),(10,[(0,false),(1,false),(2,false),(3,false),(4,false),(5,false),(6,false),(7,false),(8,false),(9,false),(10,false),(11,false),(12,false),(13,false)])] Tryz.func177 rfl (by kernel_rfl) (by kernel_rfl) (of_decide_eq_true (by kernel_rfl)) (by kernel_rfl)
end Go.Proofs.YtlcipphiflcaiaaGreat.Ai
namespace Go.Proofs.YtlcipphiflcaiaaGreat.Ai
open Go Go.RowKit
def nbS (ps:List (Int × Int))(x:Int):List Int:=(ps.filter fun e=>decide (e.2=x)).map (·.1) ++ (ps.filter fun e=>decide (e.1=x)).map (·.2)
def rdS (n:Nat)(ps:List (Int × Int)):List (List Int):=(List.range n).map fun x:Nat=>nbS ps x
theorem rdS_len (n:Nat)(ps:List (Int × Int)):(rdS n ps).length=n:=by simp [rdS]
theorem rdS_at (n:Nat)(ps:List (Int × Int)){x:Nat}(hx:x<n):(rdS n ps).getD x []=nbS ps x:=by simp [rdS,hx]
theorem nbS_mem (ps:List (Int × Int))(x y:Int):y ∈ nbS ps x↔(y,x) ∈ ps∨(x,y) ∈ ps:=by
 unfold nbS
 simp only [List.mem_append,List.mem_map,List.mem_filter,decide_eq_true_eq]
 constructor
 ·rintro (⟨e,⟨h1,h2⟩,rfl⟩ | ⟨e,⟨h1,h2⟩,rfl⟩)
  ·left;rw [<- h2];exact h1
  ·right;rw [<- h2];exact h1
 ·rintro (h | h)
  ·exact .inl ⟨_,⟨h,rfl⟩,rfl⟩
  ·exact .inr ⟨_,⟨h,rfl⟩,rfl⟩
structure StpOk (n:Nat) (ps:List (Int × Int)):Prop where
 rng:∀ e ∈ ps,0<=e.1/\e.1<e.2/\e.2<n
 srt:ps.Pairwise pairLt
theorem nbS_asc {n:Nat}{ps:List (Int × Int)}(h:StpOk n ps)(x:Int):(nbS ps x).Pairwise (· < ·):=by
 unfold nbS
 rw [List.pairwise_append]
 refine ⟨?_,?_,?_⟩
 ·rw [List.pairwise_map]
  refine List.Pairwise.imp_of_mem ?_ (h.srt.filter _)
  intro a b ha hb hab
  have h1:=(List.mem_filter.1 ha).2
  have h2:=(List.mem_filter.1 hb).2
  simp only [decide_eq_true_eq] at h1 h2
  unfold pairLt at hab;omega
 ·rw [List.pairwise_map]
  refine List.Pairwise.imp_of_mem ?_ (h.srt.filter _)
  intro a b ha hb hab
  have h1:=(List.mem_filter.1 ha).2
  have h2:=(List.mem_filter.1 hb).2
  simp only [decide_eq_true_eq] at h1 h2
  unfold pairLt at hab;omega
 ·intro y hy z hz
  obtain ⟨a,ha,rfl⟩:=List.mem_map.1 hy
  obtain ⟨b,hb,rfl⟩:=List.mem_map.1 hz
  have h1:=List.mem_filter.1 ha
  have h2:=List.mem_filter.1 hb
  have h3:=h1.2
  have h4:=h2.2
  simp only [decide_eq_true_eq] at h3 h4
  have:=h.rng a h1.1
  have:=h.rng b h2.1
  omega
theorem nbS_rng {n:Nat}{ps:List (Int × Int)}(h:StpOk n ps){x y:Int}(hy:y ∈ nbS ps x):0<=y/\y<n:=by
 rcases (nbS_mem ps x y).1 hy with q | q
 ·have:=h.rng _ q;simp only at this;omega
 ·have:=h.rng _ q;simp only at this;omega
theorem nb_le {n:Nat}{ps:List (Int × Int)}(h:StpOk n ps)(x:Int):(nbS ps x).length<=n:=by
 have key:∀ (k:Nat) (l:List Int),l.length=k->l.Pairwise (· < ·)->(∀ y ∈ l,0<=y/\y<n)->(k:Int)<=(l.getLast?.getD (-1))+1:=by
  intro k
  induction k with
  | zero=>intro l hl _ _;rw [List.length_eq_zero_iff.1 hl];decide
  | succ k ih =>
   intro l hl hp hr
   rcases List.eq_nil_or_concat l with e | ⟨m,z,e⟩
   ·subst e;simp at hl
   ·rw [List.concat_eq_append] at e
    subst e
    have h1:=List.pairwise_append.1 hp
    have h2:=ih m (by simpa using hl) h1.1 fun y hy=>hr y (by simp [hy])
    rw [List.getLast?_concat,Option.getD_some]
    have hz:=hr z (by simp)
    cases hm:m.getLast? with
    | none=>rw [hm,Option.getD_none] at h2;omega
    | some y =>
     rw [hm,Option.getD_some] at h2
     have:=h1.2.2 y (List.mem_of_getLast? hm) z (by simp)
     omega
 have h1:=key _ _ rfl (nbS_asc h x) fun y hy=>nbS_rng h hy
 cases hm:(nbS ps x).getLast? with
 | none=>rw [hm,Option.getD_none] at h1;omega
 | some y =>
  rw [hm,Option.getD_some] at h1
  have:=nbS_rng h (List.mem_of_getLast? hm)
  omega
theorem rdS_ok {n:Nat}{ps:List (Int × Int)}(h:StpOk n ps):LOk (rdS n ps).length (rdS n ps):=by
 intro i y hy
 rw [rdS_len]
 by_cases hi:i<n
 ·rw [rdS_at n ps hi] at hy;exact nbS_rng h hy
 ·rw [List.getD_eq_getElem?_getD,List.getElem?_eq_none (by rw [rdS_len];omega)] at hy
  simp at hy
theorem StpOk.take {n:Nat}{ps:List (Int × Int)}(h:StpOk n ps)(i:Nat):StpOk n (ps.take i):=⟨fun e he=>h.rng e (List.mem_of_mem_take he),h.srt.sublist (List.take_sublist _ _)⟩
theorem nbS_snoc {n:Nat}{ps:List (Int × Int)}{e:Int × Int}(h:StpOk n (ps ++ [e]))(x:Int):nbS (ps ++ [e]) x=nbS ps x ++ (if x=e.2 then [e.1] else if x=e.1 then [e.2] else []):=by
 have he:=h.rng e (by simp)
 unfold nbS
 rw [List.filter_append,List.filter_append,List.map_append,List.map_append]
 by_cases h2:x=e.2
 ·subst h2
  have h0:ps.filter (fun q=>decide (q.1=e.2))=[]:=by
   rw [List.filter_eq_nil_iff]
   intro q hq
   have:=(List.pairwise_append.1 h.srt).2.2 q hq e (by simp)
   unfold pairLt at this
   simp only [decide_eq_true_eq];omega
  rw [h0,if_pos rfl]
  have:¬ e.1=e.2:=by omega
  simp [this]
 ·rw [if_neg h2]
  have h2':¬ e.2=x:=fun q=>h2 q.symm
  by_cases h1:x=e.1
  ·subst h1;simp [h2']
  ·have h1':¬ e.1=x:=fun q=>h1 q.symm
   simp [h1,h2',h1']
theorem nbS_adj {n:Nat}:∀ (k:Nat) (ps:List (Int × Int)),ps.length=k->StpOk n ps->∀ x,x<n->(adjL n ps).getD x []=nbS ps (x:Int):=by
 intro k
 induction k with
 | zero =>
  intro ps hk h x hx
  have:ps=[]:=List.length_eq_zero_iff.1 hk
  subst this
  simp [adjL,nbS,hx]
 | succ k ih =>
  intro ps hk h x hx
  have hne:ps ≠ []:=by intro e;rw [e] at hk;simp at hk
  obtain ⟨qs,e,rfl⟩:∃ qs e,ps=qs ++ [e]:=⟨_,_,(List.dropLast_concat_getLast hne).symm⟩
  have hq:StpOk n qs:=⟨fun z hz=>h.rng z (by simp [hz]),(List.pairwise_append.1 h.srt).1⟩
  have hi:=ih qs (by simpa using hk) hq
  have he:=h.rng e (by simp)
  rw [nbS_snoc h]
  have:adjL n (qs ++ [e])=adj1 (adjL n qs) e:=by unfold adjL;rw [List.foldl_append];rfl
  rw [this]
  unfold adj1
  have hl:=adjL_len n qs
  rw [List.getD_eq_getElem?_getD,List.getElem?_set,List.length_set]
  by_cases h2:e.2.toNat=x
  ·rw [if_pos h2,if_pos (by omega),if_pos (by omega)]
   show (adjL n qs).getD e.2.toNat [] ++ [e.1]=_
   rw [h2,hi x hx]
  ·rw [if_neg h2,if_neg (by omega),List.getElem?_set]
   by_cases h1:e.1.toNat=x
   ·rw [if_pos h1,if_pos (by omega),if_pos (by omega)]
    show (adjL n qs).getD e.1.toNat [] ++ [e.2]=_
    rw [h1,hi x hx]
   ·rw [if_neg h1,if_neg (by omega),<- List.getD_eq_getElem?_getD,hi x hx,List.append_nil]
theorem rdS_adj {n:Nat}{ps:List (Int × Int)}(h:StpOk n ps):adjL n ps=rdS n ps:=by
 refine List.ext_getElem (by rw [adjL_len,rdS_len]) fun i h1 h2=>?_
 have hi:i<n:=by rw [adjL_len] at h1;exact h1
 have:=nbS_adj ps.length ps rfl h i hi
 have e2:=rdS_at n ps hi
 simp only [List.getD_eq_getElem?_getD,List.getElem?_eq_getElem h1,List.getElem?_eq_getElem h2,Option.getD_some] at this e2
 rw [this,e2]
theorem spRoads_c (a b:Value)(ls:List (List Int))(ps:List (Int × Int))(H:AH)(hr:SpRow H a b ls ps)(hn:ls.length<=1000)(hp:ps.length<=1000000)(hps:StpOk ls.length ps){dg:Nat}(hdeg:∀ x,(nbS ps x).length<=dg) :
  ACalls Tryz.prog 68 [.agg (List.toArray [a,b])] H fun r H'=>(∃ bd,RowLB bd 27 3 H' r (rdS ls.length ps))/\H<+:H':=by
 obtain ⟨⟨bd,us0,ra0,_,lu0,_⟩,rb0⟩:=id hr
 refine in68 rfl ?_
 intro Q hQ
 have mk:=mk_lists (n:=(ls.length:Int)) (by omega) (by omega)
 simp only [Int.toNat_natCast] at mk
 simp (disch:=omega) only [cd68,hr.box,SS,eq_self,reduceIte,reduceCtorEq,Nat.reduceEqDiff,Nat.reduceAdd]
 generalize hA:H ++ [AObj.cells [a,b] 34 false]=A
 have pA:H<+:A:=by rw [<- hA];exact List.prefix_append _ _
 have cA:A[H.length]?=some (.cells [a,b] 34 false):=by rw [<- hA];exact at_new ..
 have lA:A.length=H.length+1:=by rw [<- hA];simp
 simp (disch:=omega) only [cell_of cA,(ra0.pre pA).len Tryz.underlying32,lu0,mk,SS,eq_self,reduceIte,reduceCtorEq,Nat.reduceEqDiff,Nat.reduceAdd]
 generalize hB:A ++ [AObj.cells (List.replicate ls.length (.slice none 0 0)) 27 false]=B
 have pB:A<+:B:=by rw [<- hB];exact List.prefix_append _ _
 have cB:B[A.length]?=some (.cells (List.replicate ls.length (.slice none 0 0)) 27 false):=by rw [<- hB];exact at_new ..
 have lB:B.length=A.length+1:=by rw [<- hB];simp
 have rb:=rb0.pre (pA.trans pB)
 have adj0:Adj B B A.length (List.replicate ls.length (.slice none 0 0)) (adjL ls.length (ps.take 0)):=by
  refine ⟨cB,by omega,by simp [adjL_len],fun i hi=>?_,fun i j _ hi _=>?_,fun j y _ hy=>hy,Nat.le_refl _⟩
  ·rw [adjL_len] at hi
   exact .inl ⟨by simp [hi],by simp [adjL,hi]⟩
  ·rw [adjL_len] at hi
   exact .inr (.inl (by simp [hi]))
 generalize hNN:ls.length=N at *
 simp (disch:=omega) only [cell_of (pre_at pB cA),rb.len Tryz.underlying24,SS,eq_self,reduceIte,reduceCtorEq,Nat.reduceEqDiff,Nat.reduceAdd]
 refine LoopH.by (fun m s H'=>∃ (i:Nat) (us:List Value),m+i=ps.length/\s 3=.slice (some ⟨A.length,0,none⟩) N N/\s 13=b/\s 14=.int .i64 (ps.length:Int)/\s 15=.int .i64 ((i:Nat):Int)/\Adj B H' A.length us (adjL N (ps.take i))) ps.length ?_ ?_
 ·exact ⟨0,_,by simp,rfl,rfl,rfl,rfl,adj0⟩
 rintro m s H' ⟨i,us,hm,h3,h13,h14,h15,hJ⟩
 have keepB:∀ {K:AH} {vs:List Value} {M:List (List Int)},Adj B K A.length vs M->H<+:K:=fun hK=>prefix_of fun j y hy=>hK.keep j y (by have:=at_lt hy;omega) (pre_at (pA.trans pB) hy)
 have rH:=rb0.pre (keepB hJ)
 have hLl:=adjL_len N (ps.take i)
 simp (disch:=omega) only [h3,h13,h14,h15,SS,eq_self,reduceIte,reduceCtorEq,Nat.reduceEqDiff,Nat.reduceAdd]
 refine brD.intro (fun g=>?_) (fun g=>?_)
 ·have hi:i<ps.length:=by omega
  have he:ps.getD i (0,0) ∈ ps:=by simp [hi]
  have hrng:=hps.rng _ he
  have htk:ps.take (i+1)=ps.take i ++ [ps.getD i (0,0)]:=by
   rw [List.take_add_one,List.getElem?_eq_getElem hi]
   simp [hi]
  have hstep:adjL N (ps.take (i+1))=adj1 (adjL N (ps.take i)) (ps.getD i (0,0)):=by
   rw [htk];unfold adjL;rw [List.foldl_append];rfl
  have hdg:∀ x,x<N->((adjL N (ps.take i)).getD x []).length<=N:=by
   intro x hx
   rw [nbS_adj _ _ rfl (hps.take i) x hx]
   refine Nat.le_trans ?_ (nb_le hps (x:Int))
   unfold nbS
   simp only [List.length_append,List.length_map]
   have s1:=((List.take_sublist i ps).filter fun e=>decide (e.2=(x:Int))).length_le
   have s2:=((List.take_sublist i ps).filter fun e=>decide (e.1=(x:Int))).length_le
   omega
  have hld:=rH.ld ag115 cs115 hi
  obtain ⟨x,hx⟩:∃ x:Nat,(ps.getD i (0,0)).1=x:=⟨(ps.getD i (0,0)).1.toNat,by omega⟩
  obtain ⟨y,hy⟩:∃ y:Nat,(ps.getD i (0,0)).2=y:=⟨(ps.getD i (0,0)).2.toNat,by omega⟩
  have est:adj1 (adjL N (ps.take i)) (ps.getD i (0,0))=((adjL N (ps.take i)).set x ((adjL N (ps.take i)).getD x [] ++ [(y:Int)])).set y ((adjL N (ps.take i)).getD y [] ++ [(x:Int)]):=by
   unfold adj1;rw [hx,hy,Int.toNat_natCast,Int.toNat_natCast]
  rw [est] at hstep
  rw [hx,hy] at hrng hld
  generalize adjL N (ps.take i)=L at *
  have st0:=st_a2 (at_new H' (.cells [.int .i64 0,.int .i64 0] 115 false)) rfl (.int .i64 (x:Int)) (.int .i64 (y:Int))
  rw [set_new] at st0
  simp (disch:=omega) only [h3,h13,h14,h15,rH.ix Tryz.underlying24 cs115,Int.toNat_natCast,hld,alloc_a2,st0,SS,eq_self,reduceIte,reduceCtorEq,Nat.reduceEqDiff,Nat.reduceAdd]
  generalize hG:H' ++ [AObj.cells [.int .i64 (x:Int),.int .i64 (y:Int)] 115 false]=G
  have pG:H'<+:G:=by rw [<- hG];exact List.prefix_append _ _
  have cG:G[H'.length]?=some (.cells [.int .i64 (x:Int),.int .i64 (y:Int)] 115 false):=by rw [<- hG];exact at_new ..
  have hJ1:=hJ.pre pG
  have hul:=hJ1.len
  have fr:∀ {z:Nat} ,z<L.length->us.getD z undef=.slice none 0 0∨H'.length ≠ rowO (us.getD z undef):=fun {z} hz=>by
   rcases own_nil (hJ.el z hz) with q | q
   ·exact .inl q
   ·right;omega
  obtain ⟨v1,K1,a1,a2,a3,a4,a5,a6⟩:=hJ1.app1 (x:=x) (by omega) (by have:=hdg x (by omega);omega) (y:Int)
  have cux:us[x]?=some (us.getD x undef):=by simp [show x<us.length by omega]
  have cK1:=a2 _ _ (fr (show x<L.length by omega)) cG
  have st1:=st_at (P:=Tryz.prog) (t:=27) (i:=x) (y:=v1) cs27 a3 (by omega) (by
   rcases a6.el x (by rw [List.length_set];omega) with ⟨q,_⟩ | ⟨o',q,_⟩ <;> rw [List.getD_eq_getElem?_getD,List.getElem?_set_self (by omega)] at q <;> simp only [Option.getD_some] at q <;> rw [q] <;> rfl) a5
  have cZ1:(K1.set A.length (.cells (us.set x v1) 27 false))[H'.length]?=some (.cells [.int .i64 (x:Int),.int .i64 (y:Int)] 115 false):=by
   rw [List.getElem?_set_ne (by have:=hJ.olt;have:=hJ.le;omega)];exact cK1
  have hat0:=hJ1.at_
  simp (disch:=omega) only [h3,cell_of cG,Int.toNat_natCast,Nat.zero_add,cell_of hat0,cux,a1,cell_of cK1,st1,SS,eq_self,reduceIte,reduceCtorEq,Nat.reduceEqDiff,Nat.reduceAdd]
  generalize hZ:K1.set A.length (.cells (us.set x v1) 27 false)=Z at *
  obtain ⟨v2,K2,b1,b2,b3,b4,b5,b6⟩:=a6.app1 (x:=y) (by rw [List.length_set];omega) (by
   rw [List.getD_eq_getElem?_getD,List.getElem?_set_ne (by omega),<- List.getD_eq_getElem?_getD]
   have:=hdg y (by omega);omega) (x:Int)
  have hatZ:=a6.at_
  have hLy:(L.set x (L.getD x [] ++ [(y:Int)])).getD y []=L.getD y []:=by
   rw [List.getD_eq_getElem?_getD,List.getElem?_set_ne (by omega),<- List.getD_eq_getElem?_getD]
  rw [hLy,<- hstep] at b6
  have cuy:(us.set x v1)[y]?=some ((us.set x v1).getD y undef):=by simp [show y<us.length by omega]
  have frZ:(us.set x v1).getD y undef=.slice none 0 0∨H'.length ≠ rowO ((us.set x v1).getD y undef):=by
   have:(us.set x v1).getD y undef=us.getD y undef:=by
    rw [List.getD_eq_getElem?_getD,List.getElem?_set_ne (by omega),<- List.getD_eq_getElem?_getD]
   rw [this];exact fr (by omega)
  have cK2:=b2 _ _ frZ cZ1
  have st2:=st_at (P:=Tryz.prog) (t:=27) (i:=y) (y:=v2) cs27 b3 (by rw [List.length_set];omega) (by
   rcases b6.el y (by rw [adjL_len];omega) with ⟨q,_⟩ | ⟨o',q,_⟩ <;> rw [List.getD_eq_getElem?_getD,List.getElem?_set_self (by rw [List.length_set];omega)] at q <;> simp only [Option.getD_some] at q <;> rw [q] <;> rfl) b5
  simp (disch:=omega) only [h3,h13,h14,h15,cell_of cZ1,Int.toNat_natCast,Nat.zero_add,cell_of hatZ,cuy,b1,cell_of cK2,st2,wrap64,SS,eq_self,reduceIte,reduceCtorEq,Nat.reduceEqDiff,Nat.reduceAdd]
  refine ⟨m - 1,by omega,i+1,(us.set x v1).set y v2,?_⟩
  (repeat' first | exact b6 | apply And.intro) <;> first | (simp only [Value.int.injEq,true_and];omega) | omega | rfl | assumption | (simp;done) | (simp;omega)
 ·have hi:i=ps.length:=by omega
  subst hi
  rw [List.take_length,rdS_adj hps] at hJ
  clear hLl
  simp (disch:=omega) only [h3,SS,eq_self,reduceIte,reduceCtorEq,Nat.reduceEqDiff,Nat.reduceAdd]
  refine LoopH.by (fun m s H'=>∃ (i:Nat),m+i=N/\s 3=.slice (some ⟨A.length,0,none⟩) N N/\s 46=.slice (some ⟨A.length,0,none⟩) N N/\s 47=.int .i64 (N:Int)/\s 48=.int .i64 ((i:Nat):Int)/\Adj B H' A.length us (rdS N ps)) N ?_ ?_
  ·refine ⟨0,?_⟩
   simp (disch:=omega) only [h3,SS,eq_self,reduceIte,reduceCtorEq,Nat.reduceEqDiff,Nat.reduceAdd]
   (repeat' first | exact hJ | apply And.intro) <;> first | (simp only [Value.int.injEq,true_and];omega) | omega | rfl | assumption | (simp;done) | (simp;omega)
  rintro m' s' K ⟨i,hm',k3,k46,k47,k48,hJ'⟩
  have hrl:=rdS_len N ps
  simp (disch:=omega) only [k3,k46,k47,k48,SS,eq_self,reduceIte,reduceCtorEq,Nat.reduceEqDiff,Nat.reduceAdd]
  refine brD.intro (fun g=>?_) (fun g=>?_)
  ·have hi:i<N:=by omega
   have hul:=hJ'.len
   have hat:=hJ'.at_
   have cui:us[i]?=some (us.getD i undef):=by simp [show i<us.length by omega]
   have hel:=hJ'.el i (by omega)
   rw [rdS_at N ps hi] at hel
   simp (disch:=omega) only [k3,k46,k47,k48,cell_of hat,Int.toNat_natCast,Nat.zero_add,cui,SS,eq_self,reduceIte,reduceCtorEq,Nat.reduceEqDiff,Nat.reduceAdd]
   have hla:=nb_le hps (i:Int)
   refine CallH.by (SortO_c hel.row (nbS_asc hps _) (by omega)) ?_
   rintro _ K2 pK2
   have hJ2:=hJ'.pre pK2
   simp (disch:=omega) only [k3,k46,k47,k48,wrap64,SS,eq_self,reduceIte,reduceCtorEq,Nat.reduceEqDiff,Nat.reduceAdd]
   refine ⟨m' - 1,by omega,i+1,?_⟩
   (repeat' first | exact hJ2 | apply And.intro) <;> first | (simp only [Value.int.injEq,true_and];omega) | omega | rfl | assumption | (simp;done) | (simp;omega)
  ·simp (disch:=omega) only [k3,SS,eq_self,reduceIte,reduceCtorEq,Nat.reduceEqDiff,Nat.reduceAdd]
   refine hQ _ _ _ ?_
   simp (disch:=omega) only [SS,eq_self,reduceIte,reduceCtorEq,Nat.reduceEqDiff,Nat.reduceAdd]
   have hp2:=keepB hJ'
   have hu:=(hJ'.inU (lo:=H.length) (by omega)).row
   rw [hrl] at hu
   exact ⟨⟨_,hu⟩,hp2⟩
def twL (n:Nat)(ps qs:List (Int × Int)):List (List Int):=(List.range n).map fun x:Nat=>(ps.filter fun e=>decide (e.2=(x:Int))).map (·.1) ++ (qs.filter fun e=>decide (e.1=(x:Int))).map (·.2)
theorem twL_len (n:Nat)(ps qs:List (Int × Int)):(twL n ps qs).length=n:=by simp [twL]
theorem map_set (n k:Nat)(f g:Nat->List Int)(v:Int)(hk:k<n)(h1:∀ x,x ≠ k->g x=f x)(h2:g k=f k ++ [v]):(List.range n).map g=((List.range n).map f).set k (((List.range n).map f).getD k [] ++ [v]):=by
 refine List.ext_getElem (by simp) fun i a1 a2=>?_
 rw [List.getElem_set]
 simp only [List.getElem_map,List.getElem_range]
 by_cases e:k=i
 ·subst e;rw [if_pos rfl,h2];simp [hk]
 ·rw [if_neg e,h1 i (fun q=>e q.symm)]
theorem twL_one {n:Nat}{ps:List (Int × Int)}{e:Int × Int}{k:Nat}(hk:k<n)(he:e.2=k):twL n (ps ++ [e]) []=(twL n ps []).set k ((twL n ps []).getD k [] ++ [e.1]):=by
 unfold twL
 refine map_set n k _ _ e.1 hk (fun x hx=>?_) ?_
 ·have:¬ e.2=(x:Int):=by omega
  simp [this]
 ·simp [he]
theorem twL_two {n:Nat}{ps qs:List (Int × Int)}{e:Int × Int}{k:Nat}(hk:k<n)(he:e.1=k):twL n ps (qs ++ [e])=(twL n ps qs).set k ((twL n ps qs).getD k [] ++ [e.2]):=by
 unfold twL
 refine map_set n k _ _ e.2 hk (fun x hx=>?_) ?_
 ·have:¬ e.1=(x:Int):=by omega
  simp [this]
 ·simp [he]
theorem twL_deg {n:Nat}{ps qs:List (Int × Int)}(hq:qs.Sublist ps)(x:Nat):((twL n ps qs).getD x []).length<=(nbS ps x).length:=by
 by_cases hx:x<n
 ·unfold twL nbS
  simp only [List.getD_eq_getElem?_getD,List.getElem?_map,List.getElem?_range hx,Option.map_some,Option.getD_some,List.length_append,List.length_map]
  have:=(hq.filter fun e=>decide (e.1=(x:Int))).length_le
  omega
 ·rw [List.getD_eq_getElem?_getD,List.getElem?_eq_none (by rw [twL_len];omega)];simp
theorem twL_deg1 {n:Nat}{ps qs:List (Int × Int)}(hq:qs.Sublist ps)(x:Nat):((twL n qs []).getD x []).length<=(nbS ps x).length:=by
 by_cases hx:x<n
 ·unfold twL nbS
  simp only [List.getD_eq_getElem?_getD,List.getElem?_map,List.getElem?_range hx,Option.map_some,Option.getD_some,List.length_append,List.length_map]
  have:=(hq.filter fun e=>decide (e.2=(x:Int))).length_le
  simp;omega
 ·rw [List.getD_eq_getElem?_getD,List.getElem?_eq_none (by rw [twL_len];omega)];simp
theorem l2Lists_c (a b:Value)(ls:List (List Int))(ps:List (Int × Int))(H:AH)(hr:SpRow H a b ls ps)(hn:ls.length<=1000)(hp:ps.length<=1000000)(hps:StpOk ls.length ps){dg:Nat}(hdeg:∀ x,(nbS ps x).length<=dg) :
  ACalls Tryz.prog 177 [.agg (List.toArray [a,b])] H fun r H'=>(∃ bd,RowLB bd 27 3 H' r (rdS ls.length ps))/\H<+:H':=by
 obtain ⟨⟨bd,us0,ra0,_,lu0,_⟩,rb0⟩:=id hr
 refine in177 rfl ?_
 intro Q hQ
 have mk:=mk_lists (n:=(ls.length:Int)) (by omega) (by omega)
 simp only [Int.toNat_natCast] at mk
 simp (disch:=omega) only [cd177,hr.box,SS,eq_self,reduceIte,reduceCtorEq,Nat.reduceEqDiff,Nat.reduceAdd]
 generalize hA:H ++ [AObj.cells [a,b] 34 false]=A
 have pA:H<+:A:=by rw [<- hA];exact List.prefix_append _ _
 have cA:A[H.length]?=some (.cells [a,b] 34 false):=by rw [<- hA];exact at_new ..
 have lA:A.length=H.length+1:=by rw [<- hA];simp
 simp (disch:=omega) only [cell_of cA,(ra0.pre pA).len Tryz.underlying32,lu0,mk,SS,eq_self,reduceIte,reduceCtorEq,Nat.reduceEqDiff,Nat.reduceAdd]
 generalize hB:A ++ [AObj.cells (List.replicate ls.length (.slice none 0 0)) 27 false]=B
 have pB:A<+:B:=by rw [<- hB];exact List.prefix_append _ _
 have cB:B[A.length]?=some (.cells (List.replicate ls.length (.slice none 0 0)) 27 false):=by rw [<- hB];exact at_new ..
 have lB:B.length=A.length+1:=by rw [<- hB];simp
 have adj0:Adj B B A.length (List.replicate ls.length (.slice none 0 0)) (twL ls.length (ps.take 0) []):=by
  refine ⟨cB,by omega,by simp [twL_len],fun i hi=>?_,fun i j _ hi _=>?_,fun j y _ hy=>hy,Nat.le_refl _⟩
  ·rw [twL_len] at hi
   exact .inl ⟨by simp [hi],by simp [twL,hi]⟩
  ·rw [twL_len] at hi
   exact .inr (.inl (by simp [hi]))
 generalize hNN:ls.length=N at *
 have keepB:∀ {K:AH} {vs:List Value} {M:List (List Int)},Adj B K A.length vs M->A<+:K:=fun hK=>prefix_of fun j y hy=>hK.keep j y (by have:=at_lt hy;omega) (pre_at pB hy)
 refine LoopH.by (fun m s H'=>∃ (i:Nat) (us:List Value),m+i=ps.length/\s 1=.pointer (some ⟨H.length,0,none⟩)/\s 3=.slice (some ⟨A.length,0,none⟩) N N/\s 4=.int .i64 ((i:Nat):Int)/\Adj B H' A.length us (twL N (ps.take i) [])) ps.length ?_ ?_
 ·exact ⟨0,_,by simp,rfl,rfl,rfl,adj0⟩
 rintro m s H' ⟨i,us,hm,h1,h3,h4,hJ⟩
 have rH:=rb0.pre (pA.trans (keepB hJ))
 have cH:=pre_at (keepB hJ) cA
 simp (disch:=omega) only [h1,h3,h4,cell_of cH,rH.len Tryz.underlying24,SS,eq_self,reduceIte,reduceCtorEq,Nat.reduceEqDiff,Nat.reduceAdd]
 refine brD.intro (fun g=>?_) (fun g=>?_)
 ·have hi:i<ps.length:=by omega
  have he:ps.getD i (0,0) ∈ ps:=by simp [hi]
  have hrng:=hps.rng _ he
  have htk:ps.take (i+1)=ps.take i ++ [ps.getD i (0,0)]:=by
   rw [List.take_add_one,List.getElem?_eq_getElem hi]
   simp [hi]
  have l0:=rH.cell0 hi
  have l1:=rH.cell1 hi
  obtain ⟨x,hx⟩:∃ x:Nat,(ps.getD i (0,0)).1=x:=⟨(ps.getD i (0,0)).1.toNat,by omega⟩
  obtain ⟨y,hy⟩:∃ y:Nat,(ps.getD i (0,0)).2=y:=⟨(ps.getD i (0,0)).2.toNat,by omega⟩
  have hstep:=twL_one (ps:=ps.take i) (show y<N by omega) hy
  have hdg:=twL_deg1 (n:=N) (List.take_sublist i ps) y
  have hd2:=nb_le hps (y:Int)
  have hLl:=twL_len N (ps.take i) []
  rw [<- htk] at hstep
  rw [hx] at l0 hstep
  rw [hy] at l1
  generalize twL N (ps.take i) []=L at *
  have hul:=hJ.len
  have hat:=hJ.at_
  have cuy:us[y]?=some (us.getD y undef):=by simp [show y<us.length by omega]
  obtain ⟨v1,K1,a1,a2,a3,a4,a5,a6⟩:=hJ.app1 (x:=y) (by omega) (by omega) (x:Int)
  have st1:=st_at (P:=Tryz.prog) (t:=27) (i:=y) (y:=v1) cs27 a3 (by omega) (by
   rcases a6.el y (by rw [List.length_set];omega) with ⟨q,_⟩ | ⟨o',q,_⟩ <;> rw [List.getD_eq_getElem?_getD,List.getElem?_set_self (by omega)] at q <;> simp only [Option.getD_some] at q <;> rw [q] <;> rfl) a5
  rw [<- hstep] at a6
  simp (disch:=omega) only [h1,h3,h4,cell_of cH,rH.ix Tryz.underlying24 cs115,Int.toNat_natCast,Nat.zero_add,l0,l1,cell_of hat,cuy,a1,st1,wrap64,SS,eq_self,reduceIte,reduceCtorEq,Nat.reduceEqDiff,Nat.reduceAdd]
  refine ⟨m - 1,by omega,i+1,us.set y v1,?_⟩
  (repeat' first | exact a6 | apply And.intro) <;> first | (simp only [Value.int.injEq,true_and];omega) | omega | rfl | assumption | (simp;done) | (simp;omega)
 ·have hi:i=ps.length:=by omega
  subst hi
  rw [List.take_length] at hJ
  have hJ0:Adj B H' A.length us (twL N ps (ps.take 0)):=hJ
  simp (disch:=omega) only [h1,h3,SS,eq_self,reduceIte,reduceCtorEq,Nat.reduceEqDiff,Nat.reduceAdd]
  refine LoopH.by (fun m s H'=>∃ (i:Nat) (us:List Value),m+i=ps.length/\s 1=.pointer (some ⟨H.length,0,none⟩)/\s 3=.slice (some ⟨A.length,0,none⟩) N N/\s 7=.int .i64 ((i:Nat):Int)/\Adj B H' A.length us (twL N ps (ps.take i))) ps.length ?_ ?_
  ·refine ⟨0,us,?_⟩
   simp (disch:=omega) only [h1,h3,SS,eq_self,reduceIte,reduceCtorEq,Nat.reduceEqDiff,Nat.reduceAdd]
   (repeat' first | exact hJ0 | apply And.intro) <;> first | (simp only [Value.int.injEq,true_and];omega) | omega | rfl | assumption | (simp;done) | (simp;omega)
  rintro m' s' K ⟨i,us,hm',k1,k3,k7,hJ⟩
  have rH:=rb0.pre (pA.trans (keepB hJ))
  have cH:=pre_at (keepB hJ) cA
  simp (disch:=omega) only [k1,k3,k7,cell_of cH,rH.len Tryz.underlying24,SS,eq_self,reduceIte,reduceCtorEq,Nat.reduceEqDiff,Nat.reduceAdd]
  refine brD.intro (fun g=>?_) (fun g=>?_)
  ·have hi:i<ps.length:=by omega
   have he:ps.getD i (0,0) ∈ ps:=by simp [hi]
   have hrng:=hps.rng _ he
   have htk:ps.take (i+1)=ps.take i ++ [ps.getD i (0,0)]:=by
    rw [List.take_add_one,List.getElem?_eq_getElem hi]
    simp [hi]
   have l0:=rH.cell0 hi
   have l1:=rH.cell1 hi
   obtain ⟨x,hx⟩:∃ x:Nat,(ps.getD i (0,0)).1=x:=⟨(ps.getD i (0,0)).1.toNat,by omega⟩
   obtain ⟨y,hy⟩:∃ y:Nat,(ps.getD i (0,0)).2=y:=⟨(ps.getD i (0,0)).2.toNat,by omega⟩
   have hstep:=twL_two (ps:=ps) (qs:=ps.take i) (show x<N by omega) hx
   have hdg:=twL_deg (n:=N) (List.take_sublist i ps) x
   have hd2:=nb_le hps (x:Int)
   have hLl:=twL_len N ps (ps.take i)
   rw [<- htk] at hstep
   rw [hx] at l0
   rw [hy] at l1 hstep
   generalize twL N ps (ps.take i)=L at *
   have hul:=hJ.len
   have hat:=hJ.at_
   have cux:us[x]?=some (us.getD x undef):=by simp [show x<us.length by omega]
   obtain ⟨v1,K1,a1,a2,a3,a4,a5,a6⟩:=hJ.app1 (x:=x) (by omega) (by omega) (y:Int)
   have st1:=st_at (P:=Tryz.prog) (t:=27) (i:=x) (y:=v1) cs27 a3 (by omega) (by
    rcases a6.el x (by rw [List.length_set];omega) with ⟨q,_⟩ | ⟨o',q,_⟩ <;> rw [List.getD_eq_getElem?_getD,List.getElem?_set_self (by omega)] at q <;> simp only [Option.getD_some] at q <;> rw [q] <;> rfl) a5
   rw [<- hstep] at a6
   simp (disch:=omega) only [k1,k3,k7,cell_of cH,rH.ix Tryz.underlying24 cs115,Int.toNat_natCast,Nat.zero_add,l0,l1,cell_of hat,cux,a1,st1,wrap64,SS,eq_self,reduceIte,reduceCtorEq,Nat.reduceEqDiff,Nat.reduceAdd]
   refine ⟨m' - 1,by omega,i+1,us.set x v1,?_⟩
   (repeat' first | exact a6 | apply And.intro) <;> first | (simp only [Value.int.injEq,true_and];omega) | omega | rfl | assumption | (simp;done) | (simp;omega)
  ·have hi:i=ps.length:=by omega
   subst hi
   rw [List.take_length] at hJ
   simp (disch:=omega) only [k3,SS,eq_self,reduceIte,reduceCtorEq,Nat.reduceEqDiff,Nat.reduceAdd]
   refine hQ _ _ _ ?_
   simp (disch:=omega) only [SS,eq_self,reduceIte,reduceCtorEq,Nat.reduceEqDiff,Nat.reduceAdd]
   have hu:=(hJ.inU (lo:=H.length) (by omega)).row
   rw [twL_len] at hu
   exact ⟨⟨_,hu⟩,pA.trans (keepB hJ)⟩
def cd176:Cd:=(.seq (.reg [⟨⟨some 4,.assign (.const (.bool false)),none⟩,[]⟩]) (.seq (.seq (.reg [⟨⟨some 6,.move (.tmp 0),none⟩,[]⟩,⟨⟨some 7,.call ⟨(.builtin .len),#[.tmp 6],#[27]⟩,none⟩,[]⟩,⟨⟨some 8,.move (.tmp 1),none⟩,[]⟩,⟨⟨some 9,.call ⟨(.builtin .len),#[.tmp 8],#[27]⟩,none⟩,[]⟩,⟨⟨some 10,.binOp .neq 3 (.tmp 7) (.tmp 9) 3,none⟩,[]⟩]) (.cond (.tmp 10) (.seq (.reg [⟨⟨some 4,.assign (.const (.bool false)),none⟩,[]⟩]) .ret) .skip)) (.seq (.seq (.reg [⟨⟨some 5,.assign (.const (.int .i64 0)),none⟩,[]⟩]) (.block 0 (.loop (.seq (.seq (.reg [⟨⟨some 11,.move (.tmp 5),none⟩,[]⟩,⟨⟨some 12,.move (.tmp 0),none⟩,[]⟩,⟨⟨some 13,.call ⟨(.builtin .len),#[.tmp 12],#[27]⟩,none⟩,[]⟩,⟨⟨some 14,.binOp .lss 3 (.tmp 11) (.tmp 13) 3,none⟩,[]⟩]) (.cond (.tmp 14) .skip (.exit 0))) (.seq (.block 1 (.seq (.reg [⟨⟨some 17,.move (.tmp 0),none⟩,[]⟩,⟨⟨some 18,.move (.tmp 5),none⟩,[]⟩,⟨⟨some 19,.indexAddr 27 (.tmp 17) (.tmp 18),none⟩,[]⟩,⟨⟨some 20,.load 3 (.tmp 19),none⟩,[]⟩,⟨⟨some 21,.move (.tmp 1),none⟩,[]⟩,
 ⟨⟨some 22,.move (.tmp 5),none⟩,[]⟩,
  ⟨⟨some 23,.indexAddr 27 (.tmp 21) (.tmp 22),none⟩,[]⟩,
  ⟨⟨some 24,.load 3 (.tmp 23),none⟩,[]⟩,
  ⟨⟨some 25,.binOp .neq 3 (.tmp 20) (.tmp 24) 3,none⟩,[]⟩]) (.cond (.tmp 25) (.seq (.reg [⟨⟨some 4,.assign (.const (.bool false)),none⟩,[]⟩]) .ret) .skip))) (.reg [⟨⟨some 15,.move (.tmp 5),none⟩,[]⟩,
  ⟨⟨some 16,.binOp .add 3 (.tmp 15) (.const (.int .i64 1)) 3,none⟩,[]⟩,
  ⟨⟨some 5,.assign (.tmp 16),none⟩,[]⟩])))))) (.seq (.reg [⟨⟨some 4,.assign (.const (.bool true)),none⟩,[]⟩]) .ret))))
theorem in176:InT Tryz.prog 176 2 [.tmp 4] cd176:=InT.mk (by kernel_rfl) [(6,[(0,false),(1,false),(2,false),(3,false),(4,false),(5,false),(6,false),(7,false),(8,false)])] Tryz.func176 rfl (by kernel_rfl) (by kernel_rfl) (of_decide_eq_true (by kernel_rfl)) (by kernel_rfl)
end Go.Proofs.YtlcipphiflcaiaaGreat.Ai
namespace Go.Proofs.YtlcipphiflcaiaaGreat.Ai
open Go Go.RowKit
theorem l1Same_c (v w:Value)(xs ys:List Int)(H:AH)(hr:Row 3 H v xs)(hr2:Row 3 H w ys)(hlen:xs.length<=1099511627776):ACalls Tryz.prog 176 [v,w] H fun r H'=>r=.bool (decide (xs=ys))/\H=H':=by
 refine in176 rfl ?_
 intro Q hQ
 simp (disch:=omega) only [cd176,hr.len Tryz.underlying27,hr2.len Tryz.underlying27,SS,eq_self,reduceIte,reduceCtorEq,Nat.reduceEqDiff,Nat.reduceAdd]
 refine brD.intro (fun g=>?_) (fun g=>?_) <;> simp (disch:=omega) only [hr.len Tryz.underlying27,SS,eq_self,reduceIte,reduceCtorEq,Nat.reduceEqDiff,Nat.reduceAdd]
 ·refine hQ _ _ _ ?_
  simp (disch:=omega) only [SS,eq_self,reduceIte,reduceCtorEq,Nat.reduceEqDiff,Nat.reduceAdd]
  have:xs ≠ ys:=fun e=>g (by rw [e])
  simp [this]
 ·have hl:xs.length=ys.length:=by omega
  refine LoopH.by (fun m s H'=>∃ i,m+i=xs.length/\s 0=v/\s 1=w/\s 5=.int .i64 ((i:Nat):Int)/\H=H'/\xs.take i=ys.take i) xs.length ?_ ?_
  ·exact ⟨0,by simp,rfl,rfl,rfl,rfl,by simp⟩
  ·rintro m s H' ⟨i,hm,h0,h1,h5,rfl,hn⟩
   simp (disch:=omega) only [h0,h1,h5,hr.len Tryz.underlying27,SS,eq_self,reduceIte,reduceCtorEq,Nat.reduceEqDiff,Nat.reduceAdd]
   refine brD.intro (fun g=>?_) (fun g=>?_) <;> simp (disch:=omega) only [h0,h1,h5,hr.ix Tryz.underlying27 cs3,hr.cell,hr2.ix Tryz.underlying27 cs3,hr2.cell,Int.toNat_natCast,SS,eq_self,reduceIte,reduceCtorEq,Nat.reduceEqDiff,Nat.reduceAdd]
   ·have hi:i<xs.length:=by omega
    have hg:xs.getD i 0=xs[i]:=by simp [hi]
    have hg2:ys.getD i 0=ys[i]:=by simp [hl ▸ hi]
    refine brD.intro (fun e=>?_) (fun e=>?_) <;> simp (disch:=omega) only [h0,h1,h5,wrap64,SS,eq_self,reduceIte,reduceCtorEq,Nat.reduceEqDiff,Nat.reduceAdd]
    ·refine hQ _ _ _ ?_
     simp (disch:=omega) only [SS,eq_self,reduceIte,reduceCtorEq,Nat.reduceEqDiff,Nat.reduceAdd]
     have:xs ≠ ys:=by
      intro e'
      subst e'
      exact e rfl
     simp [this]
    ·refine ⟨m - 1,by omega,i+1,by omega,by simp,?_⟩
     rw [List.take_add_one,List.take_add_one,hn,List.getElem?_eq_getElem hi,List.getElem?_eq_getElem (hl ▸ hi)]
     rw [hg,hg2] at e
     rw [Decidable.not_not.1 e]
   ·refine hQ _ _ _ ?_
    simp (disch:=omega) only [SS,eq_self,reduceIte,reduceCtorEq,Nat.reduceEqDiff,Nat.reduceAdd]
    rw [List.take_of_length_le (by omega),List.take_of_length_le (by omega)] at hn
    simp [hn]
def cd174:Cd:=(.seq (.reg [⟨⟨some 6,.assign (.const (.int .i64 0)),none⟩,[]⟩,⟨⟨some 7,.assign (.const (.bool false)),none⟩,[]⟩]) (.seq (.reg [⟨⟨some 12,.move (.tmp 0),none⟩,[]⟩,⟨⟨some 13,.call ⟨(.builtin .len),#[.tmp 12],#[32]⟩,none⟩,[]⟩,⟨⟨some 8,.assign (.tmp 13),none⟩,[]⟩]) (.seq (.reg [⟨⟨some 14,.move (.tmp 8),none⟩,[]⟩,⟨⟨some 9,.assign (.const (.int .i64 0)),none⟩,[]⟩,⟨⟨some 10,.assign (.tmp 14),none⟩,[]⟩]) (.seq (.block 0 (.loop (.seq (.seq (.reg [⟨⟨some 15,.move (.tmp 9),none⟩,[]⟩,⟨⟨some 16,.move (.tmp 10),none⟩,[]⟩,⟨⟨some 17,.binOp .lss 3 (.tmp 15) (.tmp 16) 3,none⟩,[]⟩]) (.cond (.tmp 17) .skip (.exit 0))) (.block 1 (.seq (.reg [⟨⟨some 18,.move (.tmp 9),none⟩,[]⟩,⟨⟨some 19,.move (.tmp 10),none⟩,[]⟩,⟨⟨some 20,.binOp .add 3 (.tmp 18) (.tmp 19) 3,none⟩,[]⟩,⟨⟨some 21,.convert 3 94 (.tmp 20),none⟩,[]⟩,⟨⟨some 22,.binOp .shr 94 (.tmp 21) (.const (.int .u64 1)) 94,none⟩,[]⟩,
 ⟨⟨some 23,.convert 94 3 (.tmp 22),none⟩,[]⟩,⟨⟨some 11,.assign (.tmp 23),none⟩,[]⟩]) (.seq (.reg [⟨⟨some 24,.move (.tmp 2),none⟩,[]⟩,⟨⟨some 25,.move (.tmp 0),none⟩,[]⟩,⟨⟨some 26,.move (.tmp 11),none⟩,[]⟩,⟨⟨some 27,.indexAddr 32 (.tmp 25) (.tmp 26),none⟩,[]⟩,⟨⟨some 28,.load 27 (.tmp 27),none⟩,[]⟩,⟨⟨some 29,.move (.tmp 1),none⟩,[]⟩,⟨⟨some 30,.call ⟨(.value (.tmp 24)),#[.tmp 28,.tmp 29],#[27,27]⟩,none⟩,[]⟩,⟨⟨some 31,.binOp .lss 3 (.tmp 30) (.const (.int .i64 0)) 3,none⟩,[]⟩]) (.cond (.tmp 31) (.reg [⟨⟨some 32,.move (.tmp 11),none⟩,[]⟩,⟨⟨some 33,.binOp .add 3 (.tmp 32) (.const (.int .i64 1)) 3,none⟩,[]⟩,⟨⟨some 9,.assign (.tmp 33),none⟩,[]⟩]) (.reg [⟨⟨some 34,.move (.tmp 11),none⟩,[]⟩,⟨⟨some 10,.assign (.tmp 34),none⟩,[]⟩])))))))) (.seq (.reg [⟨⟨some 35,.move (.tmp 9),none⟩,[]⟩,
 ⟨⟨some 36,.move (.tmp 9),none⟩,[]⟩,⟨⟨some 37,.move (.tmp 8),none⟩,[]⟩,⟨⟨some 38,.binOp .lss 3 (.tmp 36) (.tmp 37) 3,none⟩,[]⟩,⟨⟨some 39,.move (.tmp 38),none⟩,[]⟩,⟨⟨some 40,.move (.tmp 2),some (39,true)⟩,[]⟩,⟨⟨some 41,.move (.tmp 0),some (39,true)⟩,[]⟩,⟨⟨some 42,.move (.tmp 9),some (39,true)⟩,[]⟩,⟨⟨some 43,.indexAddr 32 (.tmp 41) (.tmp 42),some (39,true)⟩,[]⟩,⟨⟨some 44,.load 27 (.tmp 43),some (39,true)⟩,[]⟩,⟨⟨some 45,.move (.tmp 1),some (39,true)⟩,[]⟩,⟨⟨some 46,.call ⟨(.value (.tmp 40)),#[.tmp 44,.tmp 45],#[27,27]⟩,some (39,true)⟩,[]⟩,⟨⟨some 47,.binOp .eql 3 (.tmp 46) (.const (.int .i64 0)) 3,some (39,true)⟩,[]⟩,
 ⟨⟨some 48,.pick (.tmp 39) (.tmp 47) (.const (.bool false)),none⟩,[]⟩,
  ⟨⟨some 6,.assign (.tmp 35),none⟩,[]⟩,
  ⟨⟨some 7,.assign (.tmp 48),none⟩,[]⟩]) .ret)))))
theorem in174:InT Tryz.prog 174 3 [.tmp 6,.tmp 7] cd174:=InT.mk (by kernel_rfl) [] Tryz.func174 rfl (by kernel_rfl) (by kernel_rfl) (of_decide_eq_true (by kernel_rfl)) (by kernel_rfl)
def cd138:Cd:=(.seq (.reg [⟨⟨some 2,.box 34 (.tmp 0),none⟩,[]⟩,
 ⟨⟨some 4,.assign (.const (.int .i64 0)),none⟩,[]⟩,
 ⟨⟨some 5,.assign (.const (.bool false)),none⟩,[]⟩]) (.seq (.reg [⟨⟨some 6,.fieldAddr 34 (.tmp 2) 0,none⟩,[]⟩,
 ⟨⟨some 7,.load 32 (.tmp 6),none⟩,[]⟩,
 ⟨⟨some 8,.move (.tmp 1),none⟩,[]⟩,
 ⟨⟨some 9,.call ⟨(.value (.func 174)),#[.tmp 7,.tmp 8,(.func 126)],#[32,27,41]⟩,none⟩,[]⟩,
 ⟨⟨some 10,.extract (.tmp 9) 0,none⟩,[]⟩,
 ⟨⟨some 11,.extract (.tmp 9) 1,none⟩,[]⟩,
 ⟨⟨some 4,.assign (.tmp 10),none⟩,[]⟩,
 ⟨⟨some 5,.assign (.tmp 11),none⟩,[]⟩]) .ret))
theorem in138:InT Tryz.prog 138 2 [.tmp 4,.tmp 5] cd138:=InT.mk (by kernel_rfl) [] Tryz.func138 rfl (by kernel_rfl) (by kernel_rfl) (of_decide_eq_true (by kernel_rfl)) (by kernel_rfl)
def cd142:Cd:=(.seq (.reg [⟨⟨some 2,.box 34 (.tmp 0),none⟩,[]⟩,⟨⟨some 4,.assign (.const (.int .i64 0)),none⟩,[]⟩]) (.seq (.seq (.reg [⟨⟨some 5,.assign (.const (.int .i64 0)),none⟩,[]⟩]) (.block 0 (.loop (.seq (.seq (.reg [⟨⟨some 6,.move (.tmp 5),none⟩,[]⟩,⟨⟨some 7,.fieldAddr 34 (.tmp 2) 0,none⟩,[]⟩,⟨⟨some 8,.load 32 (.tmp 7),none⟩,[]⟩,⟨⟨some 9,.call ⟨(.builtin .len),#[.tmp 8],#[32]⟩,none⟩,[]⟩,⟨⟨some 10,.binOp .lss 3 (.tmp 6) (.tmp 9) 3,none⟩,[]⟩]) (.cond (.tmp 10) .skip (.exit 0))) (.seq (.block 1 (.seq (.reg [⟨⟨some 13,.fieldAddr 34 (.tmp 2) 0,none⟩,[]⟩,⟨⟨some 14,.load 32 (.tmp 13),none⟩,[]⟩,⟨⟨some 15,.move (.tmp 5),none⟩,[]⟩,⟨⟨some 16,.indexAddr 32 (.tmp 14) (.tmp 15),none⟩,[]⟩,⟨⟨some 17,.load 27 (.tmp 16),none⟩,[]⟩,⟨⟨some 18,.move (.tmp 1),none⟩,[]⟩,⟨⟨some 19,.call ⟨(.value (.func 176)),#[.tmp 17,.tmp 18],#[27,27]⟩,none⟩,[]⟩]) (.cond (.tmp 19) (.seq (.reg [⟨⟨some 20,.move (.tmp 5),none⟩,[]⟩,
 ⟨⟨some 4,.assign (.tmp 20),none⟩,[]⟩]) .ret) .skip))) (.reg [⟨⟨some 11,.move (.tmp 5),none⟩,[]⟩,
  ⟨⟨some 12,.binOp .add 3 (.tmp 11) (.const (.int .i64 1)) 3,none⟩,[]⟩,
  ⟨⟨some 5,.assign (.tmp 12),none⟩,[]⟩])))))) (.seq (.reg [⟨⟨some 4,.assign (.const (.int .i64 (-1))),none⟩,[]⟩]) .ret)))
theorem in142:InT Tryz.prog 142 2 [.tmp 4] cd142:=InT.mk (by kernel_rfl) [] Tryz.func142 rfl (by kernel_rfl) (by kernel_rfl) (of_decide_eq_true (by kernel_rfl)) (by kernel_rfl)
def cd139:Cd:=(.seq (.reg [⟨⟨some 3,.box 34 (.tmp 0),none⟩,[]⟩,⟨⟨some 6,.assign (.const (.slice none 0 0)),none⟩,[]⟩,⟨⟨some 7,.assign (.const (.bool false)),none⟩,[]⟩]) (.seq (.reg [⟨⟨some 13,.load 34 (.tmp 3),none⟩,[]⟩,⟨⟨some 14,.call ⟨(.value (.func 68)),#[.tmp 13],#[34]⟩,none⟩,[]⟩,⟨⟨some 8,.assign (.tmp 14),none⟩,[]⟩]) (.seq (.reg [⟨⟨some 15,.move (.tmp 8),none⟩,[]⟩,⟨⟨some 16,.move (.tmp 2),none⟩,[]⟩,⟨⟨some 17,.call ⟨(.value (.func 67)),#[.tmp 15,.tmp 16],#[32,3]⟩,none⟩,[]⟩,⟨⟨some 9,.assign (.tmp 17),none⟩,[]⟩]) (.seq (.seq (.reg [⟨⟨some 18,.move (.tmp 9),none⟩,[]⟩,⟨⟨some 19,.move (.tmp 1),none⟩,[]⟩,⟨⟨some 20,.indexAddr 27 (.tmp 18) (.tmp 19),none⟩,[]⟩,⟨⟨some 21,.load 3 (.tmp 20),none⟩,[]⟩,⟨⟨some 22,.binOp .lss 3 (.tmp 21) (.const (.int .i64 0)) 3,none⟩,[]⟩]) (.cond (.tmp 22) (.seq (.reg [⟨⟨some 6,.assign (.const (.slice none 0 0)),none⟩,[]⟩,
 ⟨⟨some 7,.assign (.const (.bool false)),none⟩,[]⟩]) .ret) .skip)) (.seq (.reg [⟨⟨some 23,.move (.tmp 1),none⟩,[]⟩,⟨⟨some 24,.buildSlice 27 1 #[(0,.tmp 23)],none⟩,[]⟩,⟨⟨some 10,.assign (.tmp 24),none⟩,[]⟩]) (.seq (.block 0 (.loop (.seq (.seq (.reg [⟨⟨some 25,.move (.tmp 1),none⟩,[]⟩,⟨⟨some 26,.move (.tmp 2),none⟩,[]⟩,⟨⟨some 27,.binOp .neq 3 (.tmp 25) (.tmp 26) 3,none⟩,[]⟩]) (.cond (.tmp 27) .skip (.exit 0))) (.block 1 (.seq (.seq (.reg [⟨⟨some 28,.move (.tmp 8),none⟩,[]⟩,⟨⟨some 29,.move (.tmp 1),none⟩,[]⟩,⟨⟨some 30,.indexAddr 32 (.tmp 28) (.tmp 29),none⟩,[]⟩,⟨⟨some 31,.load 27 (.tmp 30),none⟩,[]⟩,⟨⟨some 32,.call ⟨(.builtin .len),#[.tmp 31],#[27]⟩,none⟩,[]⟩,⟨⟨some 33,.move (.const (.int .i64 0)),none⟩,[]⟩]) (.block 2 (.loop (.seq (.reg [⟨⟨some 34,.binOp .lss 3 (.tmp 33) (.tmp 32) 3,none⟩,[]⟩]) (.seq (.cond (.tmp 34) .skip (.exit 2)) (.seq (.block 3 (.seq (.reg [⟨⟨some 35,.indexAddr 27 (.tmp 31) (.tmp 33),none⟩,[]⟩,⟨⟨some 36,.load 3 (.tmp 35),none⟩,[]⟩,⟨⟨some 12,.assign (.tmp 36),none⟩,[]⟩]) (.seq (.reg [⟨⟨some 37,.move (.tmp 9),none⟩,[]⟩,
 ⟨⟨some 38,.move (.tmp 12),none⟩,[]⟩,⟨⟨some 39,.indexAddr 27 (.tmp 37) (.tmp 38),none⟩,[]⟩,⟨⟨some 40,.load 3 (.tmp 39),none⟩,[]⟩,⟨⟨some 41,.move (.tmp 9),none⟩,[]⟩,⟨⟨some 42,.move (.tmp 1),none⟩,[]⟩,⟨⟨some 43,.indexAddr 27 (.tmp 41) (.tmp 42),none⟩,[]⟩,⟨⟨some 44,.load 3 (.tmp 43),none⟩,[]⟩,⟨⟨some 45,.binOp .sub 3 (.tmp 44) (.const (.int .i64 1)) 3,none⟩,[]⟩,⟨⟨some 46,.binOp .eql 3 (.tmp 40) (.tmp 45) 3,none⟩,[]⟩]) (.cond (.tmp 46) (.seq (.reg [⟨⟨some 47,.move (.tmp 12),none⟩,[]⟩,⟨⟨some 1,.assign (.tmp 47),none⟩,[]⟩]) (.exit 2)) .skip)))) (.reg [⟨⟨some 48,.binOp .add 3 (.tmp 33) (.const (.int .i64 1)) 3,none⟩,[]⟩,⟨⟨some 33,.move (.tmp 48),none⟩,[]⟩]))))))) (.reg [⟨⟨some 49,.move (.tmp 10),none⟩,[]⟩,⟨⟨some 50,.move (.tmp 1),none⟩,[]⟩,
 ⟨⟨some 51,.buildSlice 27 1 #[(0,.tmp 50)],none⟩,[]⟩,
  ⟨⟨some 52,.call ⟨(.builtin .append),#[.tmp 49,.tmp 51],#[27,27]⟩,none⟩,[]⟩,
  ⟨⟨some 10,.assign (.tmp 52),none⟩,[]⟩])))))) (.seq (.reg [⟨⟨some 53,.move (.tmp 10),none⟩,[]⟩,
  ⟨⟨some 6,.assign (.tmp 53),none⟩,[]⟩,
  ⟨⟨some 7,.assign (.const (.bool true)),none⟩,[]⟩]) .ret)))))))
theorem in139:InT Tryz.prog 139 3 [.tmp 6,.tmp 7] cd139:=InT.mk (by kernel_rfl) [(10,[(0,false),(1,false),(2,false),(3,false),(4,false),(5,false),(6,false),(7,false),(8,false),(9,false)])] Tryz.func139 rfl (by kernel_rfl) (by kernel_rfl) (of_decide_eq_true (by kernel_rfl)) (by kernel_rfl)
def cd73:Cd:=(.seq (.reg [⟨⟨some 3,.box 34 (.tmp 0),none⟩,[]⟩,⟨⟨some 6,.assign (.const (.slice none 0 0)),none⟩,[]⟩,⟨⟨some 7,.assign (.const (.bool false)),none⟩,[]⟩]) (.seq (.reg [⟨⟨some 18,.load 34 (.tmp 3),none⟩,[]⟩,⟨⟨some 19,.move (.tmp 1),none⟩,[]⟩,⟨⟨some 20,.call ⟨(.value (.func 138)),#[.tmp 18,.tmp 19],#[34,27]⟩,none⟩,[]⟩,⟨⟨some 17,.move (.tmp 20),none⟩,[]⟩,⟨⟨some 21,.extract (.tmp 17) 0,none⟩,[]⟩,⟨⟨some 22,.extract (.tmp 17) 1,none⟩,[]⟩,⟨⟨some 8,.assign (.tmp 21),none⟩,[]⟩,⟨⟨some 9,.assign (.tmp 22),none⟩,[]⟩]) (.seq (.reg [⟨⟨some 24,.load 34 (.tmp 3),none⟩,[]⟩,⟨⟨some 25,.move (.tmp 2),none⟩,[]⟩,⟨⟨some 26,.call ⟨(.value (.func 138)),#[.tmp 24,.tmp 25],#[34,27]⟩,none⟩,[]⟩,
 ⟨⟨some 23,.move (.tmp 26),none⟩,[]⟩,⟨⟨some 27,.extract (.tmp 23) 0,none⟩,[]⟩,⟨⟨some 28,.extract (.tmp 23) 1,none⟩,[]⟩,⟨⟨some 10,.assign (.tmp 27),none⟩,[]⟩,⟨⟨some 11,.assign (.tmp 28),none⟩,[]⟩]) (.seq (.seq (.reg [⟨⟨some 29,.move (.tmp 9),none⟩,[]⟩,⟨⟨some 30,.unOp .not 4 (.tmp 29),none⟩,[]⟩,⟨⟨some 31,.move (.tmp 30),none⟩,[]⟩,⟨⟨some 32,.move (.tmp 11),some (31,false)⟩,[]⟩,⟨⟨some 33,.unOp .not 4 (.tmp 32),some (31,false)⟩,[]⟩,⟨⟨some 34,.pick (.tmp 31) (.const (.bool true)) (.tmp 33),none⟩,[]⟩]) (.cond (.tmp 34) (.seq (.reg [⟨⟨some 6,.assign (.const (.slice none 0 0)),none⟩,[]⟩,⟨⟨some 7,.assign (.const (.bool false)),none⟩,[]⟩]) .ret) .skip)) (.seq (.reg [⟨⟨some 36,.load 34 (.tmp 3),none⟩,[]⟩,⟨⟨some 37,.move (.tmp 8),none⟩,[]⟩,
 ⟨⟨some 38,.move (.tmp 10),none⟩,[]⟩,⟨⟨some 39,.call ⟨(.value (.func 139)),#[.tmp 36,.tmp 37,.tmp 38],#[34,3,3]⟩,none⟩,[]⟩,⟨⟨some 35,.move (.tmp 39),none⟩,[]⟩,⟨⟨some 40,.extract (.tmp 35) 0,none⟩,[]⟩,⟨⟨some 41,.extract (.tmp 35) 1,none⟩,[]⟩,⟨⟨some 12,.assign (.tmp 40),none⟩,[]⟩,⟨⟨some 13,.assign (.tmp 41),none⟩,[]⟩]) (.seq (.reg [⟨⟨some 42,.buildSlice 32 0 #[],none⟩,[]⟩,⟨⟨some 14,.assign (.tmp 42),none⟩,[]⟩]) (.seq (.seq (.reg [⟨⟨some 43,.move (.tmp 12),none⟩,[]⟩,⟨⟨some 44,.call ⟨(.builtin .len),#[.tmp 43],#[27]⟩,none⟩,[]⟩,⟨⟨some 45,.move (.const (.int .i64 0)),none⟩,[]⟩]) (.block 0 (.loop (.seq (.reg [⟨⟨some 46,.binOp .lss 3 (.tmp 45) (.tmp 44) 3,none⟩,[]⟩]) (.seq (.cond (.tmp 46) .skip (.exit 0)) (.seq (.block 1 (.seq (.reg [⟨⟨some 47,.indexAddr 27 (.tmp 43) (.tmp 45),none⟩,[]⟩,⟨⟨some 48,.load 3 (.tmp 47),none⟩,[]⟩,⟨⟨some 16,.assign (.tmp 48),none⟩,[]⟩]) (.reg [⟨⟨some 49,.move (.tmp 14),none⟩,[]⟩,
 ⟨⟨some 50,.fieldAddr 34 (.tmp 3) 0,none⟩,[]⟩,⟨⟨some 51,.load 32 (.tmp 50),none⟩,[]⟩,⟨⟨some 52,.move (.tmp 16),none⟩,[]⟩,⟨⟨some 53,.indexAddr 32 (.tmp 51) (.tmp 52),none⟩,[]⟩,⟨⟨some 54,.load 27 (.tmp 53),none⟩,[]⟩,⟨⟨some 55,.call ⟨(.value (.func 50)),#[.tmp 54],#[27]⟩,none⟩,[]⟩,⟨⟨some 56,.buildSlice 32 1 #[(0,.tmp 55)],none⟩,[]⟩,⟨⟨some 57,.call ⟨(.builtin .append),#[.tmp 49,.tmp 56],#[32,32]⟩,none⟩,[]⟩,⟨⟨some 14,.assign (.tmp 57),none⟩,[]⟩]))) (.reg [⟨⟨some 58,.binOp .add 3 (.tmp 45) (.const (.int .i64 1)) 3,none⟩,[]⟩,⟨⟨some 45,.move (.tmp 58),none⟩,[]⟩]))))))) (.seq (.reg [⟨⟨some 59,.move (.tmp 14),none⟩,[]⟩,⟨⟨some 60,.move (.tmp 13),none⟩,[]⟩,⟨⟨some 6,.assign (.tmp 59),none⟩,[]⟩,
 ⟨⟨some 7,.assign (.tmp 60),none⟩,[]⟩]) .ret))))))))
theorem in73:InT Tryz.prog 73 3 [.tmp 6,.tmp 7] cd73:=InT.mk (by kernel_rfl) [] Tryz.func73 rfl (by kernel_rfl) (by kernel_rfl) (of_decide_eq_true (by kernel_rfl)) (by kernel_rfl)
end Go.Proofs.YtlcipphiflcaiaaGreat.Ai
namespace Go.Proofs.YtlcipphiflcaiaaGreat.Ai
open Go Go.RowKit
theorem shr_one (P:Program)(t:TypeId)(b:Nat):binA P .shr t (.int .u64 (b:Int)) (.int .u64 1)=some (.int .u64 ((b / 2:Nat):Int)):=by
 simp only [binA,shiftA]
 rw [if_pos (.inr trivial),if_neg (by decide)]
 congr 2
 have:(2 ^ min (1:Int).toNat IntKind.u64.bits:Int)=2:=by decide
 rw [this,Int.fdiv_eq_ediv_of_nonneg _ (by decide)]
 omega
theorem conv_iu {n:Nat}(h:n<2 ^ 62):convA Tryz.prog 3 94 (.int .i64 (n:Int))=some (.int .u64 (n:Int)):=by
 simp only [convA,Tryz.underlying94,Tryz.underlying3]
 rw [IntKind.wrap_u64]
 congr 2;omega
theorem conv_ui {n:Nat}(h:n<2 ^ 62):convA Tryz.prog 94 3 (.int .u64 (n:Int))=some (.int .i64 (n:Int)):=by
 simp only [convA,Tryz.underlying94,Tryz.underlying3]
 rw [wrap64 (by omega) (by omega)]
theorem BSearch_c {v w:Value}{us:List Value}{ls:List (List Int)}{t:List Int}{H:AH}(h:Sts H v us ls)(hw:Row 3 H w t)(hl:t.length<=1099511627776) :
  ACalls Tryz.prog 174 [v,w,fnCmp] H fun r H'=>(∃ i:Nat,r=.tuple (List.toArray [.int .i64 (i:Int),.bool (decide (t ∈ ls))])/\(t ∈ ls->i<ls.length/\ls.getD i []=t))/\H=H':=by
 refine in174 rfl ?_
 intro Q hQ
 have hul:=h.len
 have hb:=h.bnd
 have cmp:∀ i,i<ls.length->ACalls Tryz.prog 126 [us.getD i undef,w] H fun r H'=>r=.int .i64 (cmpL (ls.getD i []) t)/\H=H':=fun i hi=>CmpL_c _ _ _ _ H (h.each i hi) hw (h.small i hi) hl
 simp (disch:=omega) only [cd174,h.row.len Tryz.underlying32,hul,SS,eq_self,reduceIte,reduceCtorEq,Nat.reduceEqDiff,Nat.reduceAdd]
 refine LoopH.by (fun m s H'=>∃ (i j:Nat),m+i=j/\j<=ls.length/\s 0=v/\s 1=w/\s 2=fnCmp/\s 8=.int .i64 (ls.length:Int)/\s 9=.int .i64 ((i:Nat):Int)/\s 10=.int .i64 ((j:Nat):Int)/\H=H'/\(∀ k,k<i->cmpL (ls.getD k []) t<0)/\∀ k,j<=k->k<ls.length->¬ cmpL (ls.getD k []) t<0) ls.length ?_ ?_
 ·refine ⟨0,ls.length,by simp,Nat.le_refl _,rfl,rfl,rfl,rfl,rfl,rfl,rfl,fun k hk=>absurd hk (Nat.not_lt_zero k),fun k h1 h2=>by omega⟩
 rintro m s H' ⟨i,j,hm,hj,h0,h1,h2,h8,h9,h10,rfl,lo,hi⟩
 simp (disch:=omega) only [h0,h1,h2,h8,h9,h10,SS,eq_self,reduceIte,reduceCtorEq,Nat.reduceEqDiff,Nat.reduceAdd]
 refine brD.intro (fun g=>?_) (fun g=>?_)
 ·have hij:i<j:=by omega
  have hmid:(i+j) / 2<ls.length:=by omega
  have c1:=conv_iu (n:=i+j) (by omega)
  have c2:=shr_one Tryz.prog 94 (i+j)
  have c3:=conv_ui (n:=(i+j) / 2) (by omega)
  have hw1:IntKind.i64.wrap ((i:Int)+(j:Int))=((i+j:Nat):Int):=by rw [wrap64 (by omega) (by omega)];omega
  have hci:=h.cell hmid
  simp (disch:=omega) only [h0,h1,h2,h8,h9,h10,hw1,c1,c2,c3,h.row.ix Tryz.underlying32 cs27,Int.toNat_natCast,hci,SS,eq_self,reduceIte,reduceCtorEq,Nat.reduceEqDiff,Nat.reduceAdd]
  refine CallH.by (cmp _ hmid) ?_
  rintro _ _ ⟨rfl,rfl⟩
  simp (disch:=omega) only [SS,eq_self,reduceIte,reduceCtorEq,Nat.reduceEqDiff,Nat.reduceAdd]
  refine brD.intro (fun e=>?_) (fun e=>?_)
  ·have f1:∀ k,k<(i+j) / 2+1->cmpL (ls.getD k []) t<0:=fun k hk=>srt_dn h.srt (j:=(i+j) / 2) (by omega) hmid e
   simp (disch:=omega) only [h0,h1,h2,h8,h9,h10,wrap64,SS,eq_self,reduceIte,reduceCtorEq,Nat.reduceEqDiff,Nat.reduceAdd]
   refine ⟨j - ((i+j) / 2+1),by omega,(i+j) / 2+1,j,?_⟩
   (repeat' first | exact f1 | exact hi | apply And.intro) <;> first | (simp only [Value.int.injEq,true_and];omega) | omega | rfl | assumption | (simp;done) | (simp;omega)
  ·have f1:∀ k,(i+j) / 2<=k->k<ls.length->¬ cmpL (ls.getD k []) t<0:=fun k h1 h2 q=>e (srt_dn h.srt h1 h2 q)
   simp (disch:=omega) only [h0,h1,h2,h8,h9,h10,SS,eq_self,reduceIte,reduceCtorEq,Nat.reduceEqDiff,Nat.reduceAdd]
   refine ⟨(i+j) / 2 - i,by omega,i,(i+j) / 2,?_⟩
   (repeat' first | exact lo | exact f1 | apply And.intro) <;> first | (simp only [Value.int.injEq,true_and];omega) | omega | rfl | assumption | (simp;done) | (simp;omega)
 ·have hij:i=j:=by omega
  subst hij
  by_cases e:i<ls.length
  ·have e':(i:Int)<(ls.length:Int):=by omega
   have hci:=h.cell e
   simp (disch:=omega) only [h0,h1,h2,h8,h9,h10,decide_eq_true e',h.row.ix Tryz.underlying32 cs27,Int.toNat_natCast,hci,SS,eq_self,reduceIte,reduceCtorEq,Nat.reduceEqDiff,Nat.reduceAdd]
   refine CallH.by (cmp _ e) ?_
   rintro _ _ ⟨rfl,rfl⟩
   simp (disch:=omega) only [SS,eq_self,reduceIte,reduceCtorEq,Nat.reduceEqDiff,Nat.reduceAdd]
   refine hQ _ _ _ ?_
   simp (disch:=omega) only [SS,eq_self,reduceIte,reduceCtorEq,Nat.reduceEqDiff,Nat.reduceAdd]
   have hmem:t ∈ ls↔cmpL (ls.getD i []) t=0:=by
    constructor
    ·intro ht
     obtain ⟨k,k1,k2⟩:=mem_at ht
     have hk0:i<=k:=Nat.le_of_not_lt fun q=>by have:=lo k q;rw [k2,cmpL_self] at this;omega
     by_cases q:k=i
     ·subst q;rw [k2,cmpL_self]
     ·have:=srt_lt h.srt (show i<k by omega) k1
      rw [k2] at this
      exact absurd this (hi i (Nat.le_refl _) e)
    ·intro q
     have:=cmpL_zero q
     rw [<- this];simp [e]
   refine ⟨i,?_,fun ht=>⟨e,cmpL_zero (hmem.1 ht)⟩⟩
   rw [decide_eq_decide.2 hmem]
  ·have e':¬ (i:Int)<(ls.length:Int):=by omega
   simp (disch:=omega) only [h0,h1,h2,h8,h9,h10,decide_eq_false e',SS,eq_self,reduceIte,reduceCtorEq,Nat.reduceEqDiff,Nat.reduceAdd]
   refine hQ _ _ _ ?_
   simp (disch:=omega) only [SS,eq_self,reduceIte,reduceCtorEq,Nat.reduceEqDiff,Nat.reduceAdd]
   have hno:t ∉ ls:=fun ht=>by
    obtain ⟨k,k1,k2⟩:=mem_at ht
    have:=lo k (by omega)
    rw [k2,cmpL_self] at this;omega
   exact ⟨i,by rw [decide_eq_false hno],fun ht=>absurd ht hno⟩
theorem place_c {a b w:Value}{us:List Value}{ls:List (List Int)}{ps:List (Int × Int)}{t:List Int}{H:AH}(hr:SpRow H a b ls ps)(h:Sts H a us ls)(hw:Row 3 H w t)(hl:t.length<=1099511627776) :
  ACalls Tryz.prog 138 [.agg (List.toArray [a,b]),w] H fun r H'=>(∃ i:Nat,r=.tuple (List.toArray [.int .i64 (i:Int),.bool (decide (t ∈ ls))])/\(t ∈ ls->i<ls.length/\ls.getD i []=t))/\H<+:H':=by
 refine in138 rfl ?_
 intro Q hQ
 simp (disch:=omega) only [cd138,hr.box,SS,eq_self,reduceIte,reduceCtorEq,Nat.reduceEqDiff,Nat.reduceAdd]
 generalize hA:H ++ [AObj.cells [a,b] 34 false]=A
 have pA:H<+:A:=by rw [<- hA];exact List.prefix_append _ _
 have cA:A[H.length]?=some (.cells [a,b] 34 false):=by rw [<- hA];exact at_new ..
 simp (disch:=omega) only [cell_of cA,SS,eq_self,reduceIte,reduceCtorEq,Nat.reduceEqDiff,Nat.reduceAdd]
 refine CallH.by (BSearch_c (h.pre pA) (hw.pre pA) hl) ?_
 rintro _ _ ⟨⟨i,rfl,hi⟩,rfl⟩
 simp (disch:=omega) only [SS,eq_self,reduceIte,reduceCtorEq,Nat.reduceEqDiff,Nat.reduceAdd]
 refine hQ _ _ _ ?_
 simp (disch:=omega) only [SS,eq_self,reduceIte,reduceCtorEq,Nat.reduceEqDiff,Nat.reduceAdd]
 exact ⟨⟨i,rfl,hi⟩,pA⟩
theorem l2Index_c {a b w:Value}{us:List Value}{ls:List (List Int)}{ps:List (Int × Int)}{t:List Int}{H:AH}(hr:SpRow H a b ls ps)(h:Sts H a us ls)(hw:Row 3 H w t)(hl:t.length<=1099511627776) :
  ACalls Tryz.prog 142 [.agg (List.toArray [a,b]),w] H fun r H'=>(∃ i:Int,r=.int .i64 i/\(t ∉ ls->i = -1)/\(t ∈ ls->(0<=i/\i<ls.length)/\ls.getD i.toNat []=t))/\H<+:H':=by
 refine in142 rfl ?_
 intro Q hQ
 have hul:=h.len
 have hb:=h.bnd
 simp (disch:=omega) only [cd142,hr.box,SS,eq_self,reduceIte,reduceCtorEq,Nat.reduceEqDiff,Nat.reduceAdd]
 generalize hA:H ++ [AObj.cells [a,b] 34 false]=A
 have pA:H<+:A:=by rw [<- hA];exact List.prefix_append _ _
 have cA:A[H.length]?=some (.cells [a,b] 34 false):=by rw [<- hA];exact at_new ..
 have hA2:=h.pre pA
 refine LoopH.by (fun m s H'=>∃ (i:Nat),m+i=ls.length/\s 1=w/\s 2=.pointer (some ⟨H.length,0,none⟩)/\s 5=.int .i64 ((i:Nat):Int)/\A=H'/\∀ k,k<i->ls.getD k [] ≠ t) ls.length ?_ ?_
 ·exact ⟨0,by simp,rfl,rfl,rfl,rfl,fun k hk=>absurd hk (Nat.not_lt_zero k)⟩
 rintro m s H' ⟨i,hm,h1,h2,h5,rfl,hno⟩
 simp (disch:=omega) only [h1,h2,h5,cell_of cA,hA2.row.len Tryz.underlying32,hul,SS,eq_self,reduceIte,reduceCtorEq,Nat.reduceEqDiff,Nat.reduceAdd]
 refine brD.intro (fun g=>?_) (fun g=>?_)
 ·have hi:i<ls.length:=by omega
  have hci:=hA2.cell hi
  simp (disch:=omega) only [h1,h2,h5,cell_of cA,hA2.row.ix Tryz.underlying32 cs27,Int.toNat_natCast,hci,SS,eq_self,reduceIte,reduceCtorEq,Nat.reduceEqDiff,Nat.reduceAdd]
  refine CallH.by (l1Same_c _ _ _ _ A (hA2.each i hi) (hw.pre pA) (h.small i hi)) ?_
  rintro _ _ ⟨rfl,rfl⟩
  by_cases e:ls.getD i []=t
  ·simp (disch:=omega) only [decide_eq_true e,h5,SS,eq_self,reduceIte,reduceCtorEq,Nat.reduceEqDiff,Nat.reduceAdd]
   refine hQ _ _ _ ?_
   simp (disch:=omega) only [SS,eq_self,reduceIte,reduceCtorEq,Nat.reduceEqDiff,Nat.reduceAdd]
   have hm:t ∈ ls:=by rw [<- e];simp [hi]
   exact ⟨⟨(i:Int),rfl,fun q=>absurd hm q,fun _=>⟨by omega,by rw [Int.toNat_natCast];exact e⟩⟩,pA⟩
  ·simp (disch:=omega) only [decide_eq_false e,h1,h2,h5,wrap64,SS,eq_self,reduceIte,reduceCtorEq,Nat.reduceEqDiff,Nat.reduceAdd]
   have f1:∀ k,k<i+1->ls.getD k [] ≠ t:=fun k hk=>by
    by_cases q:k=i
    ·subst q;exact e
    ·exact hno k (by omega)
   refine ⟨m - 1,by omega,i+1,?_⟩
   (repeat' first | exact f1 | apply And.intro) <;> first | (simp only [Value.int.injEq,true_and];omega) | omega | rfl | assumption | (simp;done) | (simp;omega)
 ·simp (disch:=omega) only [SS,eq_self,reduceIte,reduceCtorEq,Nat.reduceEqDiff,Nat.reduceAdd]
  refine hQ _ _ _ ?_
  simp (disch:=omega) only [SS,eq_self,reduceIte,reduceCtorEq,Nat.reduceEqDiff,Nat.reduceAdd]
  have hm:t ∉ ls:=fun q=>by
   obtain ⟨k,k1,k2⟩:=mem_at q
   exact hno k (by omega) k2
  exact ⟨⟨-1,rfl,fun _=>rfl,fun q=>absurd q hm⟩,pA⟩
theorem rdS_sym {n:Nat}(ps:List (Int × Int)):Sym (rdS n ps):=by
 intro u v hu hv h
 rw [rdS_len] at hu hv
 rw [rdS_at _ _ hu,nbS_mem] at h
 rw [rdS_at _ _ hv,nbS_mem]
 exact h.symm
theorem firstWay_c {a b:Value}{ls:List (List Int)}{ps:List (Int × Int)}{H:AH}(hr:SpRow H a b ls ps)(hn:ls.length<=1000)(hp:ps.length<=1000000)(hps:StpOk ls.length ps){dg:Nat}(hdeg:∀ x,(nbS ps x).length<=dg){i j:Nat}(hi:i<ls.length)(hj:j<ls.length) :
  ACalls Tryz.prog 139 [.agg (List.toArray [a,b]),.int .i64 (i:Int),.int .i64 (j:Int)] H fun r H'=>(∃ g,r=.tuple (List.toArray [g,.bool (decide (0<=(bfs (rdS ls.length ps) j).getD i 0))]) /\
   Row 3 H' g (if 0<=(bfs (rdS ls.length ps) j).getD i 0 then wyS (rdS ls.length ps) (bfs (rdS ls.length ps) j) (j:Int) ((bfs (rdS ls.length ps) j).getD i 0).toNat (i:Int) else []))/\H<+:H':=by
 refine in139 rfl ?_
 intro Q hQ
 simp (disch:=omega) only [cd139,hr.box,SS,eq_self,reduceIte,reduceCtorEq,Nat.reduceEqDiff,Nat.reduceAdd]
 generalize hA:H ++ [AObj.cells [a,b] 34 false]=A
 have pA:H<+:A:=by rw [<- hA];exact List.prefix_append _ _
 have cA:A[H.length]?=some (.cells [a,b] 34 false):=by rw [<- hA];exact at_new ..
 simp (disch:=omega) only [ld_agg ag34 cs34 cA,SS,eq_self,reduceIte,reduceCtorEq,Nat.reduceEqDiff,Nat.reduceAdd]
 refine CallH.by (spRoads_c a b ls ps A (hr.pre pA) hn hp hps hdeg) ?_
 rintro v B ⟨⟨bd,hv⟩,pB⟩
 have hrl:=rdS_len ls.length ps
 have hLk:=rdS_ok hps
 have hsy:=rdS_sym (n:=ls.length) ps
 have hsm:∀ x,((rdS ls.length ps).getD x []).length<=1000:=fun x=>by
  by_cases hx:x<ls.length
  ·rw [rdS_at _ _ hx];exact Nat.le_trans (nb_le hps (x:Int)) hn
  ·rw [List.getD_eq_getElem?_getD,List.getElem?_eq_none (by omega)];simp
 generalize rdS ls.length ps=L at *
 generalize ls.length=N at *
 simp (disch:=omega) only [SS,eq_self,reduceIte,reduceCtorEq,Nat.reduceEqDiff,Nat.reduceAdd]
 refine CallH.by (spread_c v L j B hv hLk (by omega) (by omega) (fun x=>by have:=hsm x;omega)) ?_
 rintro fv C ⟨hf,pC⟩
 have hfl:(bfs L j).length=N:=by
  obtain ⟨q,h⟩:=bfs_DI hLk (show j<L.length by omega)
  have:=h.bi.len
  rw [hrl] at this;exact this
 have hf0:=hf.row
 have hci:=hf0.cell (show i<(bfs L j).length by omega)
 have hzero:=bfs_zero hLk (show j<L.length by omega)
 simp (disch:=omega) only [hf0.ix Tryz.underlying27 cs3,Int.toNat_natCast,hci,SS,eq_self,reduceIte,reduceCtorEq,Nat.reduceEqDiff,Nat.reduceAdd]
 refine brD.intro (fun e=>?_) (fun e=>?_)
 ·simp (disch:=omega) only [SS,eq_self,reduceIte,reduceCtorEq,Nat.reduceEqDiff,Nat.reduceAdd]
  refine hQ _ _ _ ?_
  simp (disch:=omega) only [SS,eq_self,reduceIte,reduceCtorEq,Nat.reduceEqDiff,Nat.reduceAdd]
  rw [decide_eq_false (show ¬ 0<=(bfs L j).getD i 0 by omega),if_neg (by omega)]
  exact ⟨⟨_,rfl,.inl ⟨rfl,rfl⟩⟩,pA.trans (pB.trans pC)⟩
 have e0:0<=(bfs L j).getD i 0:=by omega
 rw [decide_eq_true e0,if_pos e0] at hQ
 obtain ⟨d,hd⟩:∃ d:Nat,(bfs L j).getD i 0=d:=⟨((bfs L j).getD i 0).toNat,by omega⟩
 rw [hd,Int.toNat_natCast] at hQ
 simp (disch:=omega) only [SS,eq_self,reduceIte,reduceCtorEq,Nat.reduceEqDiff,Nat.reduceAdd]
 generalize hD:C ++ [AObj.cells [.int .i64 (i:Int)] 3 false]=D
 have pD:C<+:D:=by rw [<- hD];exact List.prefix_append _ _
 have cD:D[C.length]?=some (.cells (ints [(i:Int)]) 3 false):=by rw [<- hD];exact at_new ..
 have lD:D.length=C.length+1:=by rw [<- hD];simp
 have own0:Own 3 C D (.slice (some ⟨C.length,0,none⟩) 1 1) [(i:Int)]:=.inr ⟨C.length,rfl,Nat.le_refl _,cD⟩
 have hW:[(i:Int)] ++ (wyS L (bfs L j) (j:Int) d (i:Int)).tail=wyS L (bfs L j) (j:Int) d (i:Int):=(wyS_head _ _ _ _ _).symm
 generalize hWW:wyS L (bfs L j) (j:Int) d (i:Int)=W at hW hQ
 have hWl:W.length=d+1:=by rw [<- hWW];exact (wy_len hLk hsy (by omega) d i (by omega) hd).1
 have hbN:∀ x,x<N->(bfs L j).getD x 0<N:=by
  intro x hx
  obtain ⟨q,h⟩:=bfs_DI hLk (show j<L.length by omega)
  have h1:=h.bi.lo x (by omega)
  have h2:=h.bi.len_le
  have h1':(bfs L j).getD x 0<(q.length:Nat):=h1.2
  have h2':q.length<=L.length:=h2
  omega
 have hdN:d<N:=by have:=hbN i (by omega);omega
 refine LoopH.by (fun m s H'=>∃ (c:Nat) (O:List Int),c<N/\(bfs L j).getD c 0=(m:Int)/\s 1=.int .i64 (c:Int)/\s 2=.int .i64 (j:Int)/\s 8=v/\s 9=fv/\Own 3 C H' (s 10) O/\O ++ (wyS L (bfs L j) (j:Int) m (c:Int)).tail=W/\C<+:H') d ?_ ?_
 ·refine ⟨i,[(i:Int)],?_⟩
  have hW2:(i:Int) :: (wyS L (bfs L j) (j:Int) d (i:Int)).tail=W:=by rw [hWW];exact hW
  simp (disch:=omega) only [SS,eq_self,reduceIte,reduceCtorEq,Nat.reduceEqDiff,Nat.reduceAdd]
  (repeat' first | exact hd | exact own0 | exact hW2 | exact pD | apply And.intro) <;> first | (simp only [Value.int.injEq,true_and];omega) | omega | rfl | assumption | (simp;done) | (simp;omega)
 rintro m s H' ⟨c,O,hc,hm,h1,h2,h8,h9,hO,hT,pH⟩
 generalize hU:s 10=U at *
 simp (disch:=omega) only [h1,h2,h8,h9,hU,SS,eq_self,reduceIte,reduceCtorEq,Nat.reduceEqDiff,Nat.reduceAdd]
 by_cases ec:c=j
 ·have ec':¬ ¬ (c:Int)=(j:Int):=by omega
  subst ec
  simp (disch:=omega) only [decide_eq_false ec',h1,h2,h8,h9,hU,SS,eq_self,reduceIte,reduceCtorEq,Nat.reduceEqDiff,Nat.reduceAdd]
  refine hQ _ _ _ ?_
  simp (disch:=omega) only [hO.row.tup,SS,eq_self,reduceIte,reduceCtorEq,Nat.reduceEqDiff,Nat.reduceAdd]
  rw [wyS_end] at hT
  have hOW:O=W:=by simpa using hT
  rw [<- hOW]
  exact ⟨⟨U,rfl,hO.row⟩,pA.trans (pB.trans (pC.trans pH))⟩
 ·have ec':¬ (c:Int)=(j:Int):=by omega
  have hcN:=hbN c hc
  have hpos:=far_pos hLk hsy (show j<L.length by omega) (show c<L.length by omega) (by omega) ec
  obtain ⟨k,rfl⟩:∃ k,m=k+1:=⟨m - 1,by omega⟩
  obtain ⟨n1,n2,n3⟩:=nx_ok hLk hsy (show j<L.length by omega) (show c<L.length by omega) hm
  obtain ⟨nx,hnx⟩:∃ nx:Nat,nxS L (bfs L j) (c:Int)=nx:=⟨(nxS L (bfs L j) (c:Int)).toNat,by have:=hLk c _ n1;omega⟩
  have hnr:=hLk c _ n1
  rw [hnx] at n1 n2 n3 hnr
  rw [Int.toNat_natCast] at n2
  have hT2:(O ++ [(nx:Int)]) ++ (wyS L (bfs L j) (j:Int) k (nx:Int)).tail=W:=by
   rw [<- hT]
   have:(wyS L (bfs L j) (j:Int) (k+1) (c:Int)).tail=wyS L (bfs L j) (j:Int) k (nx:Int):=by
    simp only [wyS];rw [if_neg ec',hnx];rfl
   rw [this,List.append_assoc]
   congr 1
   exact (wyS_head _ _ _ _ _).symm
  obtain ⟨us,hus,hvb,hul,hin⟩:=hv.pre (pC.trans pH)
  have hcc:=hus.cell (show c<us.length by omega)
  have hrow:=(hin c (by omega)).1
  have hfH:=hf0.pre pH
  simp (disch:=omega) only [decide_eq_true ec',h1,h2,h8,h9,hU,hus.ix Tryz.underlying32 cs27,Int.toNat_natCast,hcc,hrow.len Tryz.underlying27,SS,eq_self,reduceIte,reduceCtorEq,Nat.reduceEqDiff,Nat.reduceAdd]
  generalize hxs:L.getD c []=xs at *
  have hxl:=hsm c
  rw [hxs] at hxl
  have hxr:∀ z ∈ xs,0<=z/\z<N:=fun z hz=>by have:=hLk c z (by rw [hxs];exact hz);omega
  refine LoopH.by (fun m' s' H''=>∃ (q:Nat),m'+q=xs.length/\s' 1=.int .i64 (c:Int)/\s' 2=.int .i64 (j:Int)/\s' 8=v/\s' 9=fv/\s' 10=U/\s' 31=us.getD c undef/\s' 32=.int .i64 (xs.length:Int)/\s' 33=.int .i64 ((q:Nat):Int)/\H'=H''/\(xs.drop q).find? (fun k=>decide ((bfs L j).getD k.toNat 0=(bfs L j).getD c 0 - 1))=some (nx:Int)) xs.length ?_ ?_
  ·refine ⟨0,?_⟩
   simp (disch:=omega) only [h1,h2,h8,h9,hU,SS,eq_self,reduceIte,reduceCtorEq,Nat.reduceEqDiff,Nat.reduceAdd]
   (repeat' first | exact n3 | apply And.intro) <;> first | (simp only [Value.int.injEq,true_and];omega) | omega | rfl | assumption | (simp;done) | (simp;omega)
  rintro m' s' H'' ⟨q,hm',g1,g2,g8,g9,g10,g31,g32,g33,rfl,hfd⟩
  simp (disch:=omega) only [g1,g2,g8,g9,g10,g31,g32,g33,SS,eq_self,reduceIte,reduceCtorEq,Nat.reduceEqDiff,Nat.reduceAdd]
  refine brD.intro (fun g=>?_) (fun g=>?_)
  ·have hq:q<xs.length:=by omega
   have hzm:xs.getD q 0 ∈ xs:=by simp [hq]
   have hzr:=hxr _ hzm
   have hcq:=hrow.cell hq
   obtain ⟨z,hz⟩:∃ z:Nat,xs.getD q 0=z:=⟨(xs.getD q 0).toNat,by omega⟩
   rw [hz] at hcq hzr
   have hfz:=hfH.cell (show z<(bfs L j).length by omega)
   have hfc:=hfH.cell (show c<(bfs L j).length by omega)
   have hdrop:xs.drop q=(z:Int) :: xs.drop (q+1):=by
    rw [List.drop_eq_getElem_cons hq]
    congr 1
    rw [<- hz];simp [hq]
   rw [hdrop,List.find?_cons,Int.toNat_natCast] at hfd
   have hwr:IntKind.i64.wrap ((bfs L j).getD c 0 - 1)=(bfs L j).getD c 0 - 1:=wrap64 (by omega) (by omega)
   simp (disch:=omega) only [g1,g2,g8,g9,g10,g31,g32,g33,hrow.ix Tryz.underlying27 cs3,hfH.ix Tryz.underlying27 cs3,Int.toNat_natCast,hcq,hfz,hfc,hwr,SS,eq_self,reduceIte,reduceCtorEq,Nat.reduceEqDiff,Nat.reduceAdd]
   by_cases e5:(bfs L j).getD z 0=(bfs L j).getD c 0 - 1
   ·rw [decide_eq_true e5] at hfd
    have hzn:z=nx:=by
     have:=Option.some.inj hfd
     omega
    subst hzn
    obtain ⟨U',H2,j1,j2,j3,j4,j5,j6⟩:=own1_27 hO pH (by
     have:O.length<=W.length:=by rw [<- hT];simp
     omega) (z:Int)
    simp (disch:=omega) only [decide_eq_true e5,g1,g2,g8,g9,g10,g31,g32,g33,j1,SS,eq_self,reduceIte,reduceCtorEq,Nat.reduceEqDiff,Nat.reduceAdd]
    refine ⟨k,by omega,z,O ++ [(z:Int)],?_⟩
    (repeat' first | exact n2 | exact j2 | exact hT2 | exact j3 | apply And.intro) <;> first | (simp only [Value.int.injEq,true_and];omega) | omega | rfl | assumption | (simp;done) | (simp;omega)
   ·rw [decide_eq_false e5] at hfd
    simp (disch:=omega) only [decide_eq_false e5,g1,g2,g8,g9,g10,g31,g32,g33,wrap64,SS,eq_self,reduceIte,reduceCtorEq,Nat.reduceEqDiff,Nat.reduceAdd]
    refine ⟨m' - 1,by omega,q+1,?_⟩
    (repeat' first | exact hfd | apply And.intro) <;> first | (simp only [Value.int.injEq,true_and];omega) | omega | rfl | assumption | (simp;done) | (simp;omega)
  ·rw [List.drop_of_length_le (by omega)] at hfd
   simp at hfd
theorem bsRowW {H0:AH}{v:Value}{xs:List Int}(h:Row 3 H0 v xs)(K:AH):buildSliceA Tryz.prog 32 1 [(0,v)] K=some (.slice (some ⟨K.length,0,none⟩) 1 1,K ++ [.cells [v] 27 false]):=by
 obtain ⟨q,eq⟩:=h.shape
 rw [eq]
 exact bs1 Tryz.underlying32 cs27 ze27 ⟨by kernel_rfl,by kernel_rfl⟩ K rfl
def wkB (ls:List (List Int))(ps:List (Int × Int))(x y:List Int):Bool:=decide (x ∈ ls/\y ∈ ls/\0<=(bfs (rdS ls.length ps) (ls.idxOf y)).getD (ls.idxOf x) 0)
def wkL (ls:List (List Int))(ps:List (Int × Int))(x y:List Int):List (List Int) :=
 if wkB ls ps x y=true then (wyS (rdS ls.length ps) (bfs (rdS ls.length ps) (ls.idxOf y)) ((ls.idxOf y:Nat):Int) ((bfs (rdS ls.length ps) (ls.idxOf y)).getD (ls.idxOf x) 0).toNat ((ls.idxOf x:Nat):Int)).map fun k=>ls.getD k.toNat [] else []
theorem idx_of {ls:List (List Int)}(h:SrtL ls){t:List Int}{i:Nat}(hi:i<ls.length)(e:ls.getD i []=t):i=ls.idxOf t:=by
 have hm:t ∈ ls:=by rw [<- e];simp [hi]
 have h1:=List.idxOf_lt_length_iff.2 hm
 refine srt_uniq h hi h1 ?_
 rw [e]
 simp [h1]
theorem walk_c {a b va vb:Value}{us:List Value}{ls:List (List Int)}{ps:List (Int × Int)}{x y:List Int}{H:AH}(hr:SpRow H a b ls ps)(h:Sts H a us ls)(hn:ls.length<=1000)(hp:ps.length<=1000000)(hps:StpOk ls.length ps){dg:Nat}(hdeg:∀ x,(nbS ps x).length<=dg)
  (hx:Row 3 H va x)(hy:Row 3 H vb y)(hlx:x.length<=1099511627776)(hly:y.length<=1099511627776) :
  ACalls Tryz.prog 73 [.agg (List.toArray [a,b]),va,vb] H fun r H'=>(∃ g,r=.tuple (List.toArray [g,.bool (wkB ls ps x y)])/\InL H.length H'.length 27 3 H' g (wkL ls ps x y))/\H<+:H':=by
 refine in73 rfl ?_
 intro Q hQ
 have hul:=h.len
 simp (disch:=omega) only [cd73,hr.box,SS,eq_self,reduceIte,reduceCtorEq,Nat.reduceEqDiff,Nat.reduceAdd]
 generalize hA:H ++ [AObj.cells [a,b] 34 false]=A
 have pA:H<+:A:=by rw [<- hA];exact List.prefix_append _ _
 have cA:A[H.length]?=some (.cells [a,b] 34 false):=by rw [<- hA];exact at_new ..
 simp (disch:=omega) only [ld_agg ag34 cs34 cA,SS,eq_self,reduceIte,reduceCtorEq,Nat.reduceEqDiff,Nat.reduceAdd]
 refine CallH.by (place_c (hr.pre pA) (h.pre pA) (hx.pre pA) hlx) ?_
 rintro _ B ⟨⟨i,rfl,hi⟩,pB⟩
 have cB:=pre_at pB cA
 have pHB:=pA.trans pB
 simp (disch:=omega) only [ld_agg ag34 cs34 cB,SS,eq_self,reduceIte,reduceCtorEq,Nat.reduceEqDiff,Nat.reduceAdd]
 refine CallH.by (place_c (hr.pre pHB) (h.pre pHB) (hy.pre pHB) hly) ?_
 rintro _ C ⟨⟨j,rfl,hj⟩,pC⟩
 have cC:=pre_at pC cB
 have pHC:=pHB.trans pC
 simp (disch:=omega) only [SS,eq_self,reduceIte,reduceCtorEq,Nat.reduceEqDiff,Nat.reduceAdd]
 by_cases ex:x ∈ ls
 rotate_left
 ·have hb:wkB ls ps x y=false:=by unfold wkB;rw [decide_eq_false (fun q=>ex q.1)]
  simp (disch:=omega) only [decide_eq_false ex,SS,eq_self,reduceIte,reduceCtorEq,Nat.reduceEqDiff,Nat.reduceAdd]
  refine hQ _ _ _ ?_
  simp (disch:=omega) only [SS,eq_self,reduceIte,reduceCtorEq,Nat.reduceEqDiff,Nat.reduceAdd]
  rw [hb,show wkL ls ps x y=[] by unfold wkL;rw [hb];rfl]
  exact ⟨⟨_,rfl,.inl ⟨rfl,rfl⟩⟩,pHC⟩
 by_cases ey:y ∈ ls
 rotate_left
 ·have hb:wkB ls ps x y=false:=by unfold wkB;rw [decide_eq_false (fun q=>ey q.2.1)]
  simp (disch:=omega) only [decide_eq_true ex,decide_eq_false ey,SS,eq_self,reduceIte,reduceCtorEq,Nat.reduceEqDiff,Nat.reduceAdd]
  refine hQ _ _ _ ?_
  simp (disch:=omega) only [SS,eq_self,reduceIte,reduceCtorEq,Nat.reduceEqDiff,Nat.reduceAdd]
  rw [hb,show wkL ls ps x y=[] by unfold wkL;rw [hb];rfl]
  exact ⟨⟨_,rfl,.inl ⟨rfl,rfl⟩⟩,pHC⟩
 obtain ⟨i1,i2⟩:=hi ex
 obtain ⟨j1,j2⟩:=hj ey
 have hie:=idx_of h.srt i1 i2
 have hje:=idx_of h.srt j1 j2
 simp (disch:=omega) only [decide_eq_true ex,decide_eq_true ey,ld_agg ag34 cs34 cC,SS,eq_self,reduceIte,reduceCtorEq,Nat.reduceEqDiff,Nat.reduceAdd]
 refine CallH.by (firstWay_c (hr.pre pHC) hn hp hps hdeg i1 j1) ?_
 rintro _ D ⟨⟨g,rfl,hg⟩,pD⟩
 have hb:wkB ls ps x y=decide (0<=(bfs (rdS ls.length ps) j).getD i 0):=by
  unfold wkB
  rw [<- hie,<- hje]
  exact decide_eq_decide.2 ⟨fun q=>q.2.2,fun q=>⟨ex,ey,q⟩⟩
 have hwl:wkL ls ps x y=(if 0<=(bfs (rdS ls.length ps) j).getD i 0 then wyS (rdS ls.length ps) (bfs (rdS ls.length ps) j) (j:Int) ((bfs (rdS ls.length ps) j).getD i 0).toNat (i:Int) else []).map fun k=>ls.getD k.toNat []:=by
  unfold wkL
  rw [hb,<- hie,<- hje]
  by_cases q:0<=(bfs (rdS ls.length ps) j).getD i 0
  ·rw [if_pos (decide_eq_true q),if_pos q]
  ·rw [if_neg (by simpa using q),if_neg q];rfl
 have hrng:∀ z ∈ (if 0<=(bfs (rdS ls.length ps) j).getD i 0 then wyS (rdS ls.length ps) (bfs (rdS ls.length ps) j) (j:Int) ((bfs (rdS ls.length ps) j).getD i 0).toNat (i:Int) else []),0<=z/\z<ls.length:=by
  intro z hz
  split at hz
  ·rename_i q
   have:=(wy_len (rdS_ok hps) (rdS_sym ps) (by rw [rdS_len];exact j1) ((bfs (rdS ls.length ps) j).getD i 0).toNat i (by rw [rdS_len];exact i1) (by omega)).2 z hz
   rwa [rdS_len] at this
  ·simp at hz
 have hwy:(if 0<=(bfs (rdS ls.length ps) j).getD i 0 then wyS (rdS ls.length ps) (bfs (rdS ls.length ps) j) (j:Int) ((bfs (rdS ls.length ps) j).getD i 0).toNat (i:Int) else []).length<=1000000:=by
  split
  ·rename_i q
   have hL:=rdS_ok hps
   have hlt:j<(rdS ls.length ps).length:=by rw [rdS_len];exact j1
   have:=(wy_len hL (rdS_sym ps) hlt ((bfs (rdS ls.length ps) j).getD i 0).toNat i (by rw [rdS_len];exact i1) (by omega)).1
   obtain ⟨q',h'⟩:=bfs_DI hL hlt
   have h1:=h'.bi.lo i (by rw [rdS_len];exact i1)
   have h2:=h'.bi.len_le
   have h1':(bfs (rdS ls.length ps) j).getD i 0<(q'.length:Nat):=h1.2
   have h2':q'.length<=(rdS ls.length ps).length:=h2
   rw [rdS_len] at h2'
   omega
  ·simp
 rw [hwl,hb] at hQ
 generalize (if 0<=(bfs (rdS ls.length ps) j).getD i 0 then wyS (rdS ls.length ps) (bfs (rdS ls.length ps) j) (j:Int) ((bfs (rdS ls.length ps) j).getD i 0).toNat (i:Int) else [])=W at *
 generalize decide (0<=(bfs (rdS ls.length ps) j).getD i 0)=ok at *
 have u0:=InU.new H.length 27 3 D (pHC.trans pD).length_le
 simp (disch:=omega) only [SS,eq_self,reduceIte,reduceCtorEq,Nat.reduceEqDiff,Nat.reduceAdd]
 generalize hE:D ++ [AObj.cells [] 27 false]=E at *
 have pE:D<+:E:=by rw [<- hE];exact List.prefix_append _ _
 have lE:E.length=D.length+1:=by rw [<- hE];simp
 have cE:=pre_at (pD.trans pE) cC
 have hgE:=hg.pre pE
 have hlD:=(pHC.trans pD).length_le
 have hHC:A.length<=D.length:=(pB.trans (pC.trans pD)).length_le
 have lA:A.length=H.length+1:=by rw [<- hA];simp
 have u0':InU A.length E.length 27 3 E D.length [] ((W.take 0).map fun k=>ls.getD k.toNat []):=by
  rw [lE]
  have:=InU.new A.length 27 3 D hHC
  rw [hE] at this
  exact this
 simp (disch:=omega) only [hgE.len Tryz.underlying27,SS,eq_self,reduceIte,reduceCtorEq,Nat.reduceEqDiff,Nat.reduceAdd]
 have pDE:=pE
 refine LoopH.by (fun m s H'=>∃ (i o:Nat) (vs:List Value),m+i=W.length/\s 3=.pointer (some ⟨H.length,0,none⟩)/\s 13=.bool ok/\s 14=.slice (some ⟨o,0,none⟩) ((W.take i).map fun k=>ls.getD k.toNat []).length ((W.take i).map fun k=>ls.getD k.toNat []).length/\s 43=g/\s 44=.int .i64 (W.length:Int)/\s 45=.int .i64 ((i:Nat):Int)/\D.length<=o/\InU A.length H'.length 27 3 H' o vs ((W.take i).map fun k=>ls.getD k.toNat [])/\D<+:H') W.length ?_ ?_
 ·exact ⟨0,D.length,[],by simp,rfl,rfl,rfl,rfl,rfl,rfl,Nat.le_refl _,u0',pDE⟩
 rintro m s H' ⟨i,o,vs,hm,h3,h13,h14,h43,h44,h45,hoD,hin,hpp⟩
 have hgH:=hg.pre hpp
 have cH:=pre_at (pD.trans hpp) cC
 have hH:=h.pre (pHC.trans (pD.trans hpp))
 have hml:((W.take i).map fun k=>ls.getD k.toNat []).length=i:=by rw [List.length_map,List.length_take];omega
 simp (disch:=omega) only [h3,h13,h14,h43,h44,h45,SS,eq_self,reduceIte,reduceCtorEq,Nat.reduceEqDiff,Nat.reduceAdd]
 refine brD.intro (fun q=>?_) (fun q=>?_)
 ·have hi:i<W.length:=by omega
  have hzm:W.getD i 0 ∈ W:=by simp [hi]
  have hzr:=hrng _ hzm
  have hst:(W.take (i+1)).map (fun k=>ls.getD k.toNat [])=(W.take i).map (fun k=>ls.getD k.toNat []) ++ [ls.getD (W.getD i 0).toNat []]:=by
   rw [List.take_add_one,List.getElem?_eq_getElem hi,List.map_append]
   have:W.getD i 0=W[i]:=by simp [hi]
   rw [this];rfl
  have hci:=hgH.cell hi
  obtain ⟨z,hz⟩:∃ z:Nat,W.getD i 0=z:=⟨(W.getD i 0).toNat,by omega⟩
  rw [hz,Int.toNat_natCast] at hst
  rw [hz] at hci hzr
  have hcz:=hH.cell (show z<ls.length by omega)
  simp (disch:=omega) only [h3,h13,h14,h43,h44,h45,hgH.ix Tryz.underlying27 cs3,Int.toNat_natCast,hci,cell_of cH,hH.row.ix Tryz.underlying32 cs27,hcz,SS,eq_self,reduceIte,reduceCtorEq,Nat.reduceEqDiff,Nat.reduceAdd]
  refine CallH.by (Clone_c _ _ H' (hH.each z (by omega)) (hH.small z (by omega))) ?_
  rintro c F ⟨hc,pF⟩
  have hinw:=InI.of hc.mine
  obtain ⟨H3,k1,k2,k3,k4⟩:=(hin.pre pF).app1 (P:=Tryz.prog) (t2:=32) Tryz.underlying32 cs27 (by rw [by27];decide) zk27 hinw (by have:=hpp.length_le;omega) pF.length_le (Nat.le_refl _) (by omega)
  rw [hml] at k1 k2
  rw [<- hst] at k2
  have hml2:((W.take (i+1)).map fun k=>ls.getD k.toNat []).length=i+1:=by rw [List.length_map,List.length_take];omega
  have f1:D<+:H3:=prefix_of fun j x hx'=>k4 j x (by have:=at_lt hx';omega) (pre_at (hpp.trans pF) hx')
  have f2:InU A.length H3.length 27 3 H3 (F.length+1) (vs.take i ++ [c]) ((W.take (i+1)).map fun k=>ls.getD k.toNat []):=by rw [k3];exact k2
  have hlF:=(hpp.trans pF).length_le
  simp (disch:=omega) only [h3,h13,h14,h43,h44,h45,hml,bsRowW hc.row,k1,wrap64,SS,eq_self,reduceIte,reduceCtorEq,Nat.reduceEqDiff,Nat.reduceAdd]
  refine ⟨m - 1,by omega,i+1,F.length+1,vs.take i ++ [c],?_⟩
  rw [hml2]
  (repeat' first | exact f1 | exact f2 | apply And.intro) <;> first | (simp only [Value.int.injEq,true_and];omega) | omega | rfl | assumption | (simp;done) | (simp;omega)
 ·have hi:i=W.length:=by omega
  subst hi
  simp (disch:=omega) only [h13,h14,SS,eq_self,reduceIte,reduceCtorEq,Nat.reduceEqDiff,Nat.reduceAdd]
  refine hQ _ _ _ ?_
  simp (disch:=omega) only [SS,eq_self,reduceIte,reduceCtorEq,Nat.reduceEqDiff,Nat.reduceAdd]
  have e1:W.take W.length=W:=List.take_length
  rw [e1] at hin ⊢
  exact ⟨⟨_,rfl,hin.inl.wide (by omega) (Nat.le_refl _)⟩,pHC.trans (pD.trans hpp)⟩
theorem stpI_mem {p:List Int->List Int->Bool}{ls:List (List Int)}{i:Nat}{e:Int × Int}:∀ k,e ∈ stpI p ls i k↔e.1=i/\((i:Int)<e.2/\e.2<i+1+k)/\p (ls.getD i []) (ls.getD e.2.toNat [])=true
 | 0=>by simp [stpI];omega
 | k+1=>by
  rw [stpI,List.mem_append,stpI_mem k]
  constructor
  ·rintro (⟨h1,h2,h3⟩ | h)
   ·exact ⟨h1,by omega,h3⟩
   ·split at h
    ·rename_i hp
     rw [List.mem_singleton] at h
     subst h
     exact ⟨rfl,by simp only;omega,by rw [Int.toNat_natCast];exact hp⟩
    ·simp at h
  ·rintro ⟨h1,h2,h3⟩
   by_cases q:e.2=((i+1+k:Nat):Int)
   ·right
    rw [q,Int.toNat_natCast] at h3
    rw [if_pos h3,List.mem_singleton]
    exact Prod.ext h1 q
   ·exact .inl ⟨h1,by omega,h3⟩
theorem stpI_srt (p:List Int->List Int->Bool)(ls:List (List Int))(i:Nat):∀ k,(stpI p ls i k).Pairwise pairLt
 | 0=>.nil
 | k+1=>by
  rw [stpI,List.pairwise_append]
  refine ⟨stpI_srt p ls i k,by split <;> simp,fun a ha b hb=>?_⟩
  have h1:=(stpI_mem k).1 ha
  split at hb
  ·rw [List.mem_singleton] at hb
   subst hb
   unfold pairLt;simp only;omega
  ·simp at hb
theorem stpO_mem {p:List Int->List Int->Bool}{ls:List (List Int)}{e:Int × Int}:∀ i,i<=ls.length->(e ∈ stpO p ls i↔(0<=e.1/\e.1<i)/\(e.1<e.2/\e.2<ls.length)/\p (ls.getD e.1.toNat []) (ls.getD e.2.toNat [])=true)
 | 0,_=>by simp [stpO];omega
 | i+1,hi=>by
  rw [stpO,List.mem_append,stpO_mem i (by omega),stpI_mem]
  constructor
  ·rintro (⟨h1,h2,h3⟩ | ⟨h1,h2,h3⟩)
   ·exact ⟨by omega,h2,h3⟩
   ·refine ⟨by omega,by omega,?_⟩
    rw [h1,Int.toNat_natCast];exact h3
  ·rintro ⟨h1,h2,h3⟩
   by_cases q:e.1=i
   ·right
    rw [q,Int.toNat_natCast] at h3
    exact ⟨q,by omega,h3⟩
   ·exact .inl ⟨by omega,h2,h3⟩
theorem stpO_srt (p:List Int->List Int->Bool)(ls:List (List Int)):∀ i,i<=ls.length->(stpO p ls i).Pairwise pairLt
 | 0,_=>.nil
 | i+1,hi=>by
  rw [stpO,List.pairwise_append]
  refine ⟨stpO_srt p ls i (by omega),stpI_srt p ls i _,fun a ha b hb=>?_⟩
  have h1:=(stpO_mem i (by omega)).1 ha
  have h2:=(stpI_mem _).1 hb
  unfold pairLt;omega
theorem steps_ok (p:List Int->List Int->Bool)(ls:List (List Int)):StpOk ls.length (steps p ls) :=
 ⟨fun e he=>by have:=(stpO_mem _ (Nat.le_refl _)).1 he;omega,stpO_srt p ls _ (Nat.le_refl _)⟩
theorem steps_nb (p:List Int->List Int->Bool)(ls:List (List Int)){x y:Nat}(hx:x<ls.length)(hy:y<ls.length):(y:Int) ∈ nbS (steps p ls) x↔(y<x/\p (ls.getD y []) (ls.getD x [])=true)∨(x<y/\p (ls.getD x []) (ls.getD y [])=true):=by
 rw [nbS_mem,stpO_mem _ (Nat.le_refl _),stpO_mem _ (Nat.le_refl _)]
 simp only [Int.toNat_natCast]
 constructor
 ·rintro (⟨h1,h2,h3⟩ | ⟨h1,h2,h3⟩)
  ·exact .inl ⟨by omega,h3⟩
  ·exact .inr ⟨by omega,h3⟩
 ·rintro (⟨h1,h2⟩ | ⟨h1,h2⟩)
  ·exact .inl ⟨by omega,by omega,h2⟩
  ·exact .inr ⟨by omega,by omega,h2⟩
theorem nbS_cnt (p:List Int->List Int->Bool)(ls:List (List Int))(x:Nat):(nbS (steps p ls) x).length<=ls.countP fun m=>p m (ls.getD x []) || p (ls.getD x []) m:=by
 have hok:=steps_ok p ls
 have hasc:=nbS_asc hok (x:Int)
 have hm:(nbS (steps p ls) x).map (fun z=>z.toNat)=((List.range ls.length).filter fun y:Nat=>decide ((y:Int) ∈ nbS (steps p ls) x)):=by
  have hs:((nbS (steps p ls) x).map (fun z=>z.toNat)).Pairwise (· < ·):=by
   rw [List.pairwise_map]
   refine List.Pairwise.imp_of_mem ?_ hasc
   intro a b ha hb hab
   have:=nbS_rng hok ha;omega
  have hs2:=(List.pairwise_lt_range (n:=ls.length)).filter (fun y:Nat=>decide ((y:Int) ∈ nbS (steps p ls) x))
  refine List.Perm.eq_of_pairwise (le:=(· < ·)) (fun a b _ _ h3 h4=>by omega) hs hs2 ?_
  rw [List.perm_ext_iff_of_nodup (hs.imp fun h=>by omega) (hs2.imp fun h=>by omega)]
  intro y
  simp only [List.mem_map,List.mem_filter,List.mem_range,decide_eq_true_eq]
  constructor
  ·rintro ⟨z,hz,rfl⟩
   have:=nbS_rng hok hz
   refine ⟨by omega,?_⟩
   rw [Int.toNat_of_nonneg this.1];exact hz
  ·rintro ⟨_,h⟩
   exact ⟨_,h,by simp⟩
 have hl:=congrArg List.length hm
 rw [List.length_map] at hl
 rw [hl]
 by_cases hx:x<ls.length
 ·have e1:ls=(List.range ls.length).map fun i=>ls.getD i []:=by
   refine List.ext_getElem (by simp) fun i h1 h2=>?_
   simp [h1]
  conv=>rhs;rw [e1]
  rw [List.countP_map,<- List.countP_eq_length_filter]
  refine List.countP_mono_left fun y hy hd=>?_
  have hyl:=List.mem_range.1 hy
  have:=(steps_nb p ls hx hyl).1 (of_decide_eq_true hd)
  have e2:((List.range ls.length).map fun i=>ls.getD i []).getD x []=ls.getD x []:=by rw [<- e1]
  simp only [Function.comp_apply,e2,Bool.or_eq_true]
  rcases this with h | h
  ·exact .inl h.2
  ·exact .inr h.2
 ·have:((List.range ls.length).filter fun y:Nat=>decide ((y:Int) ∈ nbS (steps p ls) x))=[]:=by
   rw [List.filter_eq_nil_iff]
   intro y hy
   rw [decide_eq_true_eq,nbS_mem]
   rintro (h | h)
   ·have:=hok.rng _ h;simp only at this;omega
   ·have:=hok.rng _ h;simp only at this;omega
  rw [this];simp
def cd143:Cd:=(.seq (.reg [⟨⟨some 3,.box 34 (.tmp 0),none⟩,[]⟩,⟨⟨some 6,.assign (.const (.slice none 0 0)),none⟩,[]⟩]) (.seq (.reg [⟨⟨some 11,.load 34 (.tmp 3),none⟩,[]⟩,⟨⟨some 12,.call ⟨(.value (.func 177)),#[.tmp 11],#[34]⟩,none⟩,[]⟩,⟨⟨some 7,.assign (.tmp 12),none⟩,[]⟩]) (.seq (.reg [⟨⟨some 13,.move (.tmp 7),none⟩,[]⟩,⟨⟨some 14,.move (.tmp 2),none⟩,[]⟩,⟨⟨some 15,.call ⟨(.value (.func 148)),#[.tmp 13,.tmp 14],#[32,3]⟩,none⟩,[]⟩,⟨⟨some 8,.assign (.tmp 15),none⟩,[]⟩]) (.seq (.seq (.reg [⟨⟨some 16,.move (.tmp 8),none⟩,[]⟩,⟨⟨some 17,.move (.tmp 1),none⟩,[]⟩,⟨⟨some 18,.indexAddr 27 (.tmp 16) (.tmp 17),none⟩,[]⟩,⟨⟨some 19,.load 3 (.tmp 18),none⟩,[]⟩,⟨⟨some 20,.binOp .lss 3 (.tmp 19) (.const (.int .i64 0)) 3,none⟩,[]⟩]) (.cond (.tmp 20) (.seq (.reg [⟨⟨some 21,.buildSlice 27 0 #[],none⟩,[]⟩,⟨⟨some 6,.assign (.tmp 21),none⟩,[]⟩]) .ret) .skip)) (.seq (.reg [⟨⟨some 22,.move (.tmp 1),none⟩,[]⟩,
 ⟨⟨some 23,.buildSlice 27 1 #[(0,.tmp 22)],none⟩,[]⟩,⟨⟨some 9,.assign (.tmp 23),none⟩,[]⟩]) (.seq (.block 0 (.loop (.seq (.seq (.reg [⟨⟨some 24,.move (.tmp 1),none⟩,[]⟩,⟨⟨some 25,.move (.tmp 2),none⟩,[]⟩,⟨⟨some 26,.binOp .neq 3 (.tmp 24) (.tmp 25) 3,none⟩,[]⟩]) (.cond (.tmp 26) .skip (.exit 0))) (.block 1 (.seq (.reg [⟨⟨some 10,.assign (.const (.int .i64 0)),none⟩,[]⟩]) (.seq (.block 2 (.loop (.seq (.seq (.reg [⟨⟨some 27,.move (.tmp 8),none⟩,[]⟩,⟨⟨some 28,.move (.tmp 7),none⟩,[]⟩,⟨⟨some 29,.move (.tmp 1),none⟩,[]⟩,⟨⟨some 30,.indexAddr 32 (.tmp 28) (.tmp 29),none⟩,[]⟩,⟨⟨some 31,.load 27 (.tmp 30),none⟩,[]⟩,⟨⟨some 32,.move (.tmp 10),none⟩,[]⟩,⟨⟨some 33,.indexAddr 27 (.tmp 31) (.tmp 32),none⟩,[]⟩,⟨⟨some 34,.load 3 (.tmp 33),none⟩,[]⟩,⟨⟨some 35,.indexAddr 27 (.tmp 27) (.tmp 34),none⟩,[]⟩,
 ⟨⟨some 36,.load 3 (.tmp 35),none⟩,[]⟩,⟨⟨some 37,.move (.tmp 8),none⟩,[]⟩,⟨⟨some 38,.move (.tmp 1),none⟩,[]⟩,⟨⟨some 39,.indexAddr 27 (.tmp 37) (.tmp 38),none⟩,[]⟩,⟨⟨some 40,.load 3 (.tmp 39),none⟩,[]⟩,⟨⟨some 41,.binOp .sub 3 (.tmp 40) (.const (.int .i64 1)) 3,none⟩,[]⟩,⟨⟨some 42,.binOp .neq 3 (.tmp 36) (.tmp 41) 3,none⟩,[]⟩]) (.cond (.tmp 42) .skip (.exit 2))) (.block 3 (.reg [⟨⟨some 43,.move (.tmp 10),none⟩,[]⟩,⟨⟨some 44,.binOp .add 3 (.tmp 43) (.const (.int .i64 1)) 3,none⟩,[]⟩,⟨⟨some 10,.assign (.tmp 44),none⟩,[]⟩]))))) (.seq (.reg [⟨⟨some 45,.move (.tmp 7),none⟩,[]⟩,⟨⟨some 46,.move (.tmp 1),none⟩,[]⟩,⟨⟨some 47,.indexAddr 32 (.tmp 45) (.tmp 46),none⟩,[]⟩,⟨⟨some 48,.load 27 (.tmp 47),none⟩,[]⟩,
 ⟨⟨some 49,.move (.tmp 10),none⟩,[]⟩,
  ⟨⟨some 50,.indexAddr 27 (.tmp 48) (.tmp 49),none⟩,[]⟩,
  ⟨⟨some 51,.load 3 (.tmp 50),none⟩,[]⟩,
  ⟨⟨some 1,.assign (.tmp 51),none⟩,[]⟩]) (.reg [⟨⟨some 52,.move (.tmp 9),none⟩,[]⟩,
  ⟨⟨some 53,.move (.tmp 1),none⟩,[]⟩,
  ⟨⟨some 54,.buildSlice 27 1 #[(0,.tmp 53)],none⟩,[]⟩,
  ⟨⟨some 55,.call ⟨(.builtin .append),#[.tmp 52,.tmp 54],#[27,27]⟩,none⟩,[]⟩,
  ⟨⟨some 9,.assign (.tmp 55),none⟩,[]⟩])))))))) (.seq (.reg [⟨⟨some 56,.move (.tmp 9),none⟩,[]⟩,
  ⟨⟨some 6,.assign (.tmp 56),none⟩,[]⟩]) .ret)))))))
theorem in143:InT Tryz.prog 143 3 [.tmp 6] cd143:=InT.mk (by kernel_rfl) [(8,[(0,false),(1,false),(2,false),(3,false),(4,false),(5,false),(6,false),(7,false),(8,false),(9,false),(10,false),(11,false),(12,false),(13,false),(14,false),(15,false)])] Tryz.func143 rfl (by kernel_rfl) (by kernel_rfl) (of_decide_eq_true (by kernel_rfl)) (by kernel_rfl)
def cd76:Cd:=(.seq (.reg [⟨⟨some 3,.box 34 (.tmp 0),none⟩,[]⟩,⟨⟨some 6,.assign (.const (.slice none 0 0)),none⟩,[]⟩]) (.seq (.reg [⟨⟨some 12,.load 34 (.tmp 3),none⟩,[]⟩,⟨⟨some 13,.move (.tmp 1),none⟩,[]⟩,⟨⟨some 15,.load 34 (.tmp 3),none⟩,[]⟩,⟨⟨some 16,.move (.tmp 2),none⟩,[]⟩,⟨⟨some 14,.call ⟨(.value (.func 142)),#[.tmp 12,.tmp 13],#[34,27]⟩,none⟩,[⟨some 15,.load 34 (.tmp 3),none⟩]⟩,⟨⟨some 17,.call ⟨(.value (.func 142)),#[.tmp 15,.tmp 16],#[34,27]⟩,none⟩,[]⟩,⟨⟨some 7,.assign (.tmp 14),none⟩,[]⟩,⟨⟨some 8,.assign (.tmp 17),none⟩,[]⟩]) (.seq (.reg [⟨⟨some 18,.buildSlice 32 0 #[],none⟩,[]⟩,⟨⟨some 9,.assign (.tmp 18),none⟩,[]⟩]) (.seq (.seq (.reg [⟨⟨some 19,.move (.tmp 7),none⟩,[]⟩,⟨⟨some 20,.binOp .lss 3 (.tmp 19) (.const (.int .i64 0)) 3,none⟩,[]⟩,⟨⟨some 21,.move (.tmp 20),none⟩,[]⟩,
 ⟨⟨some 22,.move (.tmp 8),some (21,false)⟩,[]⟩,⟨⟨some 23,.binOp .lss 3 (.tmp 22) (.const (.int .i64 0)) 3,some (21,false)⟩,[]⟩,⟨⟨some 24,.pick (.tmp 21) (.const (.bool true)) (.tmp 23),none⟩,[]⟩]) (.cond (.tmp 24) (.seq (.reg [⟨⟨some 25,.move (.tmp 9),none⟩,[]⟩,⟨⟨some 6,.assign (.tmp 25),none⟩,[]⟩]) .ret) .skip)) (.seq (.reg [⟨⟨some 26,.load 34 (.tmp 3),none⟩,[]⟩,⟨⟨some 27,.move (.tmp 7),none⟩,[]⟩,⟨⟨some 28,.move (.tmp 8),none⟩,[]⟩,⟨⟨some 29,.call ⟨(.value (.func 143)),#[.tmp 26,.tmp 27,.tmp 28],#[34,3,3]⟩,none⟩,[]⟩,⟨⟨some 10,.assign (.tmp 29),none⟩,[]⟩]) (.seq (.seq (.reg [⟨⟨some 11,.assign (.const (.int .i64 0)),none⟩,[]⟩]) (.block 0 (.loop (.seq (.seq (.reg [⟨⟨some 30,.move (.tmp 11),none⟩,[]⟩,⟨⟨some 31,.move (.tmp 10),none⟩,[]⟩,⟨⟨some 32,.call ⟨(.builtin .len),#[.tmp 31],#[27]⟩,none⟩,[]⟩,⟨⟨some 33,.binOp .lss 3 (.tmp 30) (.tmp 32) 3,none⟩,[]⟩]) (.cond (.tmp 33) .skip (.exit 0))) (.seq (.block 1 (.reg [⟨⟨some 36,.move (.tmp 9),none⟩,[]⟩,⟨⟨some 37,.fieldAddr 34 (.tmp 3) 0,none⟩,[]⟩,
 ⟨⟨some 38,.load 32 (.tmp 37),none⟩,[]⟩,⟨⟨some 39,.move (.tmp 10),none⟩,[]⟩,⟨⟨some 40,.move (.tmp 11),none⟩,[]⟩,⟨⟨some 41,.indexAddr 27 (.tmp 39) (.tmp 40),none⟩,[]⟩,⟨⟨some 42,.load 3 (.tmp 41),none⟩,[]⟩,⟨⟨some 43,.indexAddr 32 (.tmp 38) (.tmp 42),none⟩,[]⟩,⟨⟨some 44,.load 27 (.tmp 43),none⟩,[]⟩,⟨⟨some 45,.call ⟨(.value (.func 117)),#[.tmp 44],#[27]⟩,none⟩,[]⟩,⟨⟨some 46,.buildSlice 32 1 #[(0,.tmp 45)],none⟩,[]⟩,⟨⟨some 47,.call ⟨(.builtin .append),#[.tmp 36,.tmp 46],#[32,32]⟩,none⟩,[]⟩,⟨⟨some 9,.assign (.tmp 47),none⟩,[]⟩])) (.reg [⟨⟨some 34,.move (.tmp 11),none⟩,[]⟩,⟨⟨some 35,.binOp .add 3 (.tmp 34) (.const (.int .i64 1)) 3,none⟩,[]⟩,
 ⟨⟨some 11,.assign (.tmp 35),none⟩,[]⟩])))))) (.seq (.reg [⟨⟨some 48,.move (.tmp 9),none⟩,[]⟩,
  ⟨⟨some 6,.assign (.tmp 48),none⟩,[]⟩]) .ret)))))))
theorem in76:InT Tryz.prog 76 3 [.tmp 6] cd76:=InT.mk (by kernel_rfl) [(1,[(0,false),(1,false),(3,false),(4,false),(2,true),(5,true),(6,false),(7,false)]),(9,[(0,false),(1,false),(2,false),(3,false),(4,false),(5,false),(6,false),(7,false),(8,false),(9,true),(10,false),(11,true),(12,true)])] Tryz.func76 rfl (by kernel_rfl) (by kernel_rfl) (of_decide_eq_true (by kernel_rfl)) (by kernel_rfl)
def cd75:Cd:=(.seq (.reg [⟨⟨some 2,.assign (.const (.slice none 0 0)),none⟩,[]⟩,
 ⟨⟨some 3,.assign (.const (.bool false)),none⟩,[]⟩]) (.seq (.reg [⟨⟨some 4,.move (.tmp 0),none⟩,[]⟩,
 ⟨⟨some 5,.move (.tmp 0),none⟩,[]⟩,
 ⟨⟨some 6,.call ⟨(.builtin .len),#[.tmp 5],#[32]⟩,none⟩,[]⟩,
 ⟨⟨some 7,.binOp .gtr 3 (.tmp 6) (.const (.int .i64 0)) 3,none⟩,[]⟩,
 ⟨⟨some 2,.assign (.tmp 4),none⟩,[]⟩,
 ⟨⟨some 3,.assign (.tmp 7),none⟩,[]⟩]) .ret))
theorem in75:InT Tryz.prog 75 1 [.tmp 2,.tmp 3] cd75:=InT.mk (by kernel_rfl) [] Tryz.func75 rfl (by kernel_rfl) (by kernel_rfl) (of_decide_eq_true (by kernel_rfl)) (by kernel_rfl)
end Go.Proofs.YtlcipphiflcaiaaGreat.Ai
namespace Go.Proofs.YtlcipphiflcaiaaGreat.Ai
open Go Go.RowKit
theorem deg_le (p:List Int->List Int->Bool)(ls:List (List Int))(x:Int):(nbS (steps p ls) x).length<=ls.length:=by
 by_cases hx:0<=x/\x<ls.length
 ·obtain ⟨y,rfl⟩:∃ y:Nat,x=y:=⟨x.toNat,by omega⟩
  exact Nat.le_trans (nbS_cnt p ls y) List.countP_le_length
 ·have:nbS (steps p ls) x=[]:=by
   refine List.eq_nil_iff_forall_not_mem.2 fun z hz=>?_
   have hok:=steps_ok p ls
   rcases (nbS_mem _ _ _).1 hz with q | q
   ·have:=hok.rng _ q;simp only at this;omega
   ·have:=hok.rng _ q;simp only at this;omega
  rw [this];simp
theorem wyS_pos (L:List (List Int))(far:List Int)(j:Int)(f:Nat)(i:Int):0<(wyS L far j f i).length:=by
 rw [wyS_head];simp
theorem l2Walk_c {a b:Value}{ls:List (List Int)}{ps:List (Int × Int)}{H:AH}(hr:SpRow H a b ls ps)(hn:ls.length<=1000)(hp:ps.length<=1000000)(hps:StpOk ls.length ps){dg:Nat}(hdeg:∀ x,(nbS ps x).length<=dg){i j:Nat}(hi:i<ls.length)(hj:j<ls.length) :
  ACalls Tryz.prog 143 [.agg (List.toArray [a,b]),.int .i64 (i:Int),.int .i64 (j:Int)] H fun r H' =>
   Own 3 H H' r (if 0<=(bfs (rdS ls.length ps) j).getD i 0 then wyS (rdS ls.length ps) (bfs (rdS ls.length ps) j) (j:Int) ((bfs (rdS ls.length ps) j).getD i 0).toNat (i:Int) else [])/\H<+:H':=by
 refine in143 rfl ?_
 intro Q hQ
 simp (disch:=omega) only [cd143,hr.box,SS,eq_self,reduceIte,reduceCtorEq,Nat.reduceEqDiff,Nat.reduceAdd]
 generalize hA:H ++ [AObj.cells [a,b] 34 false]=A
 have pA:H<+:A:=by rw [<- hA];exact List.prefix_append _ _
 have cA:A[H.length]?=some (.cells [a,b] 34 false):=by rw [<- hA];exact at_new ..
 simp (disch:=omega) only [ld_agg ag34 cs34 cA,SS,eq_self,reduceIte,reduceCtorEq,Nat.reduceEqDiff,Nat.reduceAdd]
 refine CallH.by (l2Lists_c a b ls ps A (hr.pre pA) hn hp hps hdeg) ?_
 rintro v B ⟨⟨bd,hv⟩,pB⟩
 have hrl:=rdS_len ls.length ps
 have hLk:=rdS_ok hps
 have hsy:=rdS_sym (n:=ls.length) ps
 have hsm:∀ x,((rdS ls.length ps).getD x []).length<=1000:=fun x=>by
  by_cases hx:x<ls.length
  ·rw [rdS_at _ _ hx];exact Nat.le_trans (nb_le hps (x:Int)) hn
  ·rw [List.getD_eq_getElem?_getD,List.getElem?_eq_none (by omega)];simp
 generalize rdS ls.length ps=L at *
 generalize ls.length=N at *
 simp (disch:=omega) only [SS,eq_self,reduceIte,reduceCtorEq,Nat.reduceEqDiff,Nat.reduceAdd]
 refine CallH.by (l2Spread_c v L j B hv hLk (by omega) (by omega) (fun x=>by have:=hsm x;omega)) ?_
 rintro fv C ⟨hf,pC⟩
 have hfl:(bfs L j).length=N:=by
  obtain ⟨q,h⟩:=bfs_DI hLk (show j<L.length by omega)
  have:=h.bi.len
  rw [hrl] at this;exact this
 have hf0:=hf.row
 have hci:=hf0.cell (show i<(bfs L j).length by omega)
 simp (disch:=omega) only [hf0.ix Tryz.underlying27 cs3,Int.toNat_natCast,hci,SS,eq_self,reduceIte,reduceCtorEq,Nat.reduceEqDiff,Nat.reduceAdd]
 refine brD.intro (fun e=>?_) (fun e=>?_)
 ·simp (disch:=omega) only [SS,eq_self,reduceIte,reduceCtorEq,Nat.reduceEqDiff,Nat.reduceAdd]
  refine hQ _ _ _ ?_
  simp (disch:=omega) only [SS,eq_self,reduceIte,reduceCtorEq,Nat.reduceEqDiff,Nat.reduceAdd]
  rw [if_neg (by omega)]
  exact ⟨own_base (show Own 3 C _ (.slice (some ⟨C.length,0,none⟩) 0 0) [] from .inr ⟨C.length,rfl,Nat.le_refl _,at_new C (.cells (ints []) 3 false)⟩) (pA.trans (pB.trans pC)).length_le,pre_app (pA.trans (pB.trans pC)) _⟩
 have e0:0<=(bfs L j).getD i 0:=by omega
 rw [if_pos e0] at hQ
 obtain ⟨d,hd⟩:∃ d:Nat,(bfs L j).getD i 0=d:=⟨((bfs L j).getD i 0).toNat,by omega⟩
 rw [hd,Int.toNat_natCast] at hQ
 simp (disch:=omega) only [SS,eq_self,reduceIte,reduceCtorEq,Nat.reduceEqDiff,Nat.reduceAdd]
 generalize hD:C ++ [AObj.cells [.int .i64 (i:Int)] 3 false]=D
 have pD:C<+:D:=by rw [<- hD];exact List.prefix_append _ _
 have cD:D[C.length]?=some (.cells (ints [(i:Int)]) 3 false):=by rw [<- hD];exact at_new ..
 have lD:D.length=C.length+1:=by rw [<- hD];simp
 have own0:Own 3 C D (.slice (some ⟨C.length,0,none⟩) 1 1) [(i:Int)]:=.inr ⟨C.length,rfl,Nat.le_refl _,cD⟩
 have hW:[(i:Int)] ++ (wyS L (bfs L j) (j:Int) d (i:Int)).tail=wyS L (bfs L j) (j:Int) d (i:Int):=(wyS_head _ _ _ _ _).symm
 generalize hWW:wyS L (bfs L j) (j:Int) d (i:Int)=W at hW hQ
 have hWl:W.length=d+1:=by rw [<- hWW];exact (wy_len hLk hsy (by omega) d i (by omega) hd).1
 have hbN:∀ x,x<N->(bfs L j).getD x 0<N:=by
  intro x hx
  obtain ⟨q,h⟩:=bfs_DI hLk (show j<L.length by omega)
  have h1:=h.bi.lo x (by omega)
  have h2:=h.bi.len_le
  have h1':(bfs L j).getD x 0<(q.length:Nat):=h1.2
  have h2':q.length<=L.length:=h2
  omega
 have hdN:d<N:=by have:=hbN i (by omega);omega
 refine LoopH.by (fun m s H'=>∃ (c:Nat) (O:List Int),c<N/\(bfs L j).getD c 0=(m:Int)/\s 1=.int .i64 (c:Int)/\s 2=.int .i64 (j:Int)/\s 7=v/\s 8=fv/\Own 3 C H' (s 9) O/\O ++ (wyS L (bfs L j) (j:Int) m (c:Int)).tail=W/\C<+:H') d ?_ ?_
 ·refine ⟨i,[(i:Int)],?_⟩
  have hW2:(i:Int) :: (wyS L (bfs L j) (j:Int) d (i:Int)).tail=W:=by rw [hWW];exact hW
  simp (disch:=omega) only [SS,eq_self,reduceIte,reduceCtorEq,Nat.reduceEqDiff,Nat.reduceAdd]
  (repeat' first | exact hd | exact own0 | exact hW2 | exact pD | apply And.intro) <;> first | (simp only [Value.int.injEq,true_and];omega) | omega | rfl | assumption | (simp;done) | (simp;omega)
 rintro m s H' ⟨c,O,hc,hm,h1,h2,h7,h8,hO,hT,pH⟩
 generalize hU:s 9=U at *
 simp (disch:=omega) only [h1,h2,h7,h8,hU,SS,eq_self,reduceIte,reduceCtorEq,Nat.reduceEqDiff,Nat.reduceAdd]
 by_cases ec:c=j
 ·have ec':¬ ¬ (c:Int)=(j:Int):=by omega
  subst ec
  simp (disch:=omega) only [decide_eq_false ec',h1,h2,h7,h8,hU,SS,eq_self,reduceIte,reduceCtorEq,Nat.reduceEqDiff,Nat.reduceAdd]
  refine hQ _ _ _ ?_
  simp (disch:=omega) only [hO.row.tup,SS,eq_self,reduceIte,reduceCtorEq,Nat.reduceEqDiff,Nat.reduceAdd]
  rw [wyS_end] at hT
  have hOW:O=W:=by simpa using hT
  rw [<- hOW]
  exact ⟨own_base hO (pA.trans (pB.trans pC)).length_le,pA.trans (pB.trans (pC.trans pH))⟩
 ·have ec':¬ (c:Int)=(j:Int):=by omega
  have hcN:=hbN c hc
  have hpos:=far_pos hLk hsy (show j<L.length by omega) (show c<L.length by omega) (by omega) ec
  obtain ⟨k,rfl⟩:∃ k,m=k+1:=⟨m - 1,by omega⟩
  obtain ⟨n1,n2,n3⟩:=nx_ok hLk hsy (show j<L.length by omega) (show c<L.length by omega) hm
  obtain ⟨nx,hnx⟩:∃ nx:Nat,nxS L (bfs L j) (c:Int)=nx:=⟨(nxS L (bfs L j) (c:Int)).toNat,by have:=hLk c _ n1;omega⟩
  have hnr:=hLk c _ n1
  rw [hnx] at n1 n2 n3 hnr
  rw [Int.toNat_natCast] at n2
  have hT2:(O ++ [(nx:Int)]) ++ (wyS L (bfs L j) (j:Int) k (nx:Int)).tail=W:=by
   rw [<- hT]
   have:(wyS L (bfs L j) (j:Int) (k+1) (c:Int)).tail=wyS L (bfs L j) (j:Int) k (nx:Int):=by
    simp only [wyS];rw [if_neg ec',hnx];rfl
   rw [this,List.append_assoc]
   congr 1
   exact (wyS_head _ _ _ _ _).symm
  obtain ⟨us,hus,hvb,hul,hin⟩:=hv.pre (pC.trans pH)
  have hcc:=hus.cell (show c<us.length by omega)
  have hrow:=(hin c (by omega)).1
  have hfH:=hf0.pre pH
  simp (disch:=omega) only [decide_eq_true ec',h1,h2,h7,h8,hU,SS,eq_self,reduceIte,reduceCtorEq,Nat.reduceEqDiff,Nat.reduceAdd]
  generalize hxs:L.getD c []=xs at *
  have hxl:=hsm c
  rw [hxs] at hxl
  have hxr:∀ z ∈ xs,0<=z/\z<N:=fun z hz=>by have:=hLk c z (by rw [hxs];exact hz);omega
  refine LoopH.by (fun m' s' H''=>∃ (q:Nat),m'+q=xs.length/\s' 1=.int .i64 (c:Int)/\s' 2=.int .i64 (j:Int)/\s' 7=v/\s' 8=fv/\s' 9=U/\s' 10=.int .i64 ((q:Nat):Int)/\H'=H''/\(xs.drop q).find? (fun k=>decide ((bfs L j).getD k.toNat 0=(bfs L j).getD c 0 - 1))=some (nx:Int)) xs.length ?_ ?_
  ·refine ⟨0,?_⟩
   simp (disch:=omega) only [h1,h2,h7,h8,hU,SS,eq_self,reduceIte,reduceCtorEq,Nat.reduceEqDiff,Nat.reduceAdd]
   (repeat' first | exact n3 | apply And.intro) <;> first | (simp only [Value.int.injEq,true_and];omega) | omega | rfl | assumption | (simp;done) | (simp;omega)
  rintro m' s' H'' ⟨q,hm',g1,g2,g7,g8,g9,g10,rfl,hfd⟩
  have hq:q<xs.length:=Nat.lt_of_not_le fun h=>by
   rw [List.drop_of_length_le h] at hfd
   simp at hfd
  have hzm:xs.getD q 0 ∈ xs:=by simp [hq]
  have hzr:=hxr _ hzm
  have hcq:=hrow.cell hq
  obtain ⟨z,hz⟩:∃ z:Nat,xs.getD q 0=z:=⟨(xs.getD q 0).toNat,by omega⟩
  rw [hz] at hcq hzr
  have hfz:=hfH.cell (show z<(bfs L j).length by omega)
  have hfc:=hfH.cell (show c<(bfs L j).length by omega)
  have hdrop:xs.drop q=(z:Int) :: xs.drop (q+1):=by
   rw [List.drop_eq_getElem_cons hq]
   congr 1
   rw [<- hz];simp [hq]
  rw [hdrop,List.find?_cons,Int.toNat_natCast] at hfd
  have hwr:IntKind.i64.wrap ((bfs L j).getD c 0 - 1)=(bfs L j).getD c 0 - 1:=wrap64 (by omega) (by omega)
  simp (disch:=omega) only [g1,g2,g7,g8,g9,g10,hus.ix Tryz.underlying32 cs27,hcc,hrow.ix Tryz.underlying27 cs3,hfH.ix Tryz.underlying27 cs3,Int.toNat_natCast,hcq,hfz,hfc,hwr,SS,eq_self,reduceIte,reduceCtorEq,Nat.reduceEqDiff,Nat.reduceAdd]
  by_cases e5:(bfs L j).getD z 0=(bfs L j).getD c 0 - 1
  ·have e5':¬ ¬ (bfs L j).getD z 0=(bfs L j).getD c 0 - 1:=fun h=>h e5
   rw [decide_eq_true e5] at hfd
   have hzn:z=nx:=by
    have:=Option.some.inj hfd
    omega
   subst hzn
   obtain ⟨U',H2,j1,j2,j3,j4,j5,j6⟩:=own1_27 hO pH (by
    have:O.length<=W.length:=by rw [<- hT];simp
    omega) (z:Int)
   simp (disch:=omega) only [decide_eq_false e5',g1,g2,g7,g8,g9,g10,hus.ix Tryz.underlying32 cs27,hcc,hrow.ix Tryz.underlying27 cs3,Int.toNat_natCast,hcq,j1,SS,eq_self,reduceIte,reduceCtorEq,Nat.reduceEqDiff,Nat.reduceAdd]
   refine ⟨k,by omega,z,O ++ [(z:Int)],?_⟩
   (repeat' first | exact n2 | exact j2 | exact hT2 | exact j3 | apply And.intro) <;> first | (simp only [Value.int.injEq,true_and];omega) | omega | rfl | assumption | (simp;done) | (simp;omega)
  ·rw [decide_eq_false e5] at hfd
   simp (disch:=omega) only [decide_eq_true e5,g1,g2,g7,g8,g9,g10,wrap64,SS,eq_self,reduceIte,reduceCtorEq,Nat.reduceEqDiff,Nat.reduceAdd]
   refine ⟨m' - 1,by omega,q+1,?_⟩
   (repeat' first | exact hfd | apply And.intro) <;> first | (simp only [Value.int.injEq,true_and];omega) | omega | rfl | assumption | (simp;done) | (simp;omega)
theorem l3Walk_c {a b va vb:Value}{us:List Value}{ls:List (List Int)}{ps:List (Int × Int)}{x y:List Int}{H:AH}(hr:SpRow H a b ls ps)(h:Sts H a us ls)(hn:ls.length<=1000)(hp:ps.length<=1000000)(hps:StpOk ls.length ps){dg:Nat}(hdeg:∀ x,(nbS ps x).length<=dg)
  (hx:Row 3 H va x)(hy:Row 3 H vb y)(hlx:x.length<=1099511627776)(hly:y.length<=1099511627776) :
  ACalls Tryz.prog 76 [.agg (List.toArray [a,b]),va,vb] H fun r H'=>InL H.length H'.length 27 3 H' r (wkL ls ps x y)/\H<+:H':=by
 refine in76 rfl ?_
 intro Q hQ
 have hul:=h.len
 simp (disch:=omega) only [cd76,hr.box,SS,eq_self,reduceIte,reduceCtorEq,Nat.reduceEqDiff,Nat.reduceAdd]
 generalize hA:H ++ [AObj.cells [a,b] 34 false]=A
 have pA:H<+:A:=by rw [<- hA];exact List.prefix_append _ _
 have cA:A[H.length]?=some (.cells [a,b] 34 false):=by rw [<- hA];exact at_new ..
 have lA:A.length=H.length+1:=by rw [<- hA];simp
 simp (disch:=omega) only [ld_agg ag34 cs34 cA,SS,eq_self,reduceIte,reduceCtorEq,Nat.reduceEqDiff,Nat.reduceAdd]
 refine CallH.by (l2Index_c (hr.pre pA) (h.pre pA) (hx.pre pA) hlx) ?_
 rintro _ B ⟨⟨i,rfl,hi1,hi2⟩,pB⟩
 have cB:=pre_at pB cA
 have pHB:=pA.trans pB
 simp (disch:=omega) only [ld_agg ag34 cs34 cB,SS,eq_self,reduceIte,reduceCtorEq,Nat.reduceEqDiff,Nat.reduceAdd]
 refine CallH.by (l2Index_c (hr.pre pHB) (h.pre pHB) (hy.pre pHB) hly) ?_
 rintro _ C ⟨⟨j,rfl,hj1,hj2⟩,pC⟩
 have pHC:=pHB.trans pC
 have cC:=pre_at pC cB
 have lC:=(pB.trans pC).length_le
 simp (disch:=omega) only [SS,eq_self,reduceIte,reduceCtorEq,Nat.reduceEqDiff,Nat.reduceAdd]
 generalize hE:C ++ [AObj.cells [] 27 false]=E
 have pE:C<+:E:=by rw [<- hE];exact List.prefix_append _ _
 have u0:InU A.length E.length 27 3 E C.length [] []:=by
  have:=InU.new A.length 27 3 C lC
  rw [hE] at this
  rw [show E.length=C.length+1 by rw [<- hE];simp]
  exact this
 have cE:=pre_at pE cC
 have pHE:=pHC.trans pE
 have none_:¬ (x ∈ ls/\y ∈ ls)->wkL ls ps x y=[]:=fun q=>by
  unfold wkL
  rw [if_neg]
  unfold wkB
  rw [decide_eq_true_eq]
  exact fun g=>q ⟨g.1,g.2.1⟩
 have out:∀ s:Sl,True->wkL ls ps x y=[]->InL H.length E.length 27 3 E (.slice (some ⟨C.length,0,none⟩) 0 0) (wkL ls ps x y)/\H<+:E:=fun s _ q=>by
  rw [q]
  have:=u0.inl
  exact ⟨(by simpa using this.wide (show H.length<=A.length by omega) (Nat.le_refl _)),pHE⟩
 have m1:(-1:Int)<0:=by decide
 by_cases ex:x ∈ ls
 rotate_left
 ·have hi:=hi1 ex
  subst hi
  simp (disch:=omega) only [decide_eq_true m1,SS,eq_self,reduceIte,reduceCtorEq,Nat.reduceEqDiff,Nat.reduceAdd]
  refine hQ _ _ _ ?_
  simp (disch:=omega) only [SS,eq_self,reduceIte,reduceCtorEq,Nat.reduceEqDiff,Nat.reduceAdd]
  exact out (fun _=>undef) trivial (none_ fun q=>ex q.1)
 obtain ⟨⟨i1,i2⟩,i3⟩:=hi2 ex
 obtain ⟨ix,rfl⟩:∃ k:Nat,i=k:=⟨i.toNat,by omega⟩
 rw [Int.toNat_natCast] at i3
 have hix:=idx_of h.srt (by omega) i3
 have n1:¬ (ix:Int)<0:=by omega
 by_cases ey:y ∈ ls
 rotate_left
 ·have hj:=hj1 ey
  subst hj
  simp (disch:=omega) only [decide_eq_false n1,decide_eq_true m1,SS,eq_self,reduceIte,reduceCtorEq,Nat.reduceEqDiff,Nat.reduceAdd]
  refine hQ _ _ _ ?_
  simp (disch:=omega) only [SS,eq_self,reduceIte,reduceCtorEq,Nat.reduceEqDiff,Nat.reduceAdd]
  exact out (fun _=>undef) trivial (none_ fun q=>ey q.2)
 obtain ⟨⟨j1,j2⟩,j3⟩:=hj2 ey
 obtain ⟨jy,rfl⟩:∃ k:Nat,j=k:=⟨j.toNat,by omega⟩
 rw [Int.toNat_natCast] at j3
 have hjy:=idx_of h.srt (by omega) j3
 have n2:¬ (jy:Int)<0:=by omega
 simp (disch:=omega) only [decide_eq_false n1,decide_eq_false n2,ld_agg ag34 cs34 cE,SS,eq_self,reduceIte,reduceCtorEq,Nat.reduceEqDiff,Nat.reduceAdd]
 refine CallH.by (l2Walk_c (hr.pre pHE) hn hp hps hdeg (show ix<ls.length by omega) (show jy<ls.length by omega)) ?_
 rintro g D ⟨hg,pD⟩
 have hb:wkB ls ps x y=decide (0<=(bfs (rdS ls.length ps) jy).getD ix 0):=by
  unfold wkB
  rw [<- hix,<- hjy]
  exact decide_eq_decide.2 ⟨fun q=>q.2.2,fun q=>⟨ex,ey,q⟩⟩
 have hwl:wkL ls ps x y=(if 0<=(bfs (rdS ls.length ps) jy).getD ix 0 then wyS (rdS ls.length ps) (bfs (rdS ls.length ps) jy) (jy:Int) ((bfs (rdS ls.length ps) jy).getD ix 0).toNat (ix:Int) else []).map fun k=>ls.getD k.toNat []:=by
  unfold wkL
  rw [hb,<- hix,<- hjy]
  by_cases q:0<=(bfs (rdS ls.length ps) jy).getD ix 0
  ·rw [if_pos (decide_eq_true q),if_pos q]
  ·rw [if_neg (by simpa using q),if_neg q];rfl
 have hrng:∀ z ∈ (if 0<=(bfs (rdS ls.length ps) jy).getD ix 0 then wyS (rdS ls.length ps) (bfs (rdS ls.length ps) jy) (jy:Int) ((bfs (rdS ls.length ps) jy).getD ix 0).toNat (ix:Int) else []),0<=z/\z<ls.length:=by
  intro z hz
  split at hz
  ·rename_i q
   have:=(wy_len (rdS_ok hps) (rdS_sym ps) (by rw [rdS_len];omega) ((bfs (rdS ls.length ps) jy).getD ix 0).toNat ix (by rw [rdS_len];omega) (by omega)).2 z hz
   rwa [rdS_len] at this
  ·simp at hz
 have hwy:(if 0<=(bfs (rdS ls.length ps) jy).getD ix 0 then wyS (rdS ls.length ps) (bfs (rdS ls.length ps) jy) (jy:Int) ((bfs (rdS ls.length ps) jy).getD ix 0).toNat (ix:Int) else []).length<=1000000:=by
  split
  ·rename_i q
   have hL:=rdS_ok hps
   have hlt:jy<(rdS ls.length ps).length:=by rw [rdS_len];omega
   have:=(wy_len hL (rdS_sym ps) hlt ((bfs (rdS ls.length ps) jy).getD ix 0).toNat ix (by rw [rdS_len];omega) (by omega)).1
   obtain ⟨q',h'⟩:=bfs_DI hL hlt
   have h1:=h'.bi.lo ix (by rw [rdS_len];omega)
   have h2:=h'.bi.len_le
   have h1':(bfs (rdS ls.length ps) jy).getD ix 0<(q'.length:Nat):=h1.2
   have h2':q'.length<=(rdS ls.length ps).length:=h2
   rw [rdS_len] at h2'
   omega
  ·simp
 rw [hwl] at hQ
 clear out none_ hwl hb
 generalize (if 0<=(bfs (rdS ls.length ps) jy).getD ix 0 then wyS (rdS ls.length ps) (bfs (rdS ls.length ps) jy) (jy:Int) ((bfs (rdS ls.length ps) jy).getD ix 0).toNat (ix:Int) else [])=W at *
 have u1:InU A.length D.length 27 3 D C.length [] ((W.take 0).map fun k=>ls.getD k.toNat []):=(u0.pre pD).wide (Nat.le_refl _) pD.length_le
 have hlE:C.length+1=E.length:=by rw [<- hE];simp
 have pHD:=pHE.trans pD
 simp (disch:=omega) only [SS,eq_self,reduceIte,reduceCtorEq,Nat.reduceEqDiff,Nat.reduceAdd]
 refine LoopH.by (fun m s H'=>∃ (i o:Nat) (vs:List Value),m+i=W.length/\s 3=.pointer (some ⟨H.length,0,none⟩)/\s 9=.slice (some ⟨o,0,none⟩) ((W.take i).map fun k=>ls.getD k.toNat []).length ((W.take i).map fun k=>ls.getD k.toNat []).length/\s 10=g/\s 11=.int .i64 ((i:Nat):Int)/\(o=C.length∨D.length<=o)/\InU A.length H'.length 27 3 H' o vs ((W.take i).map fun k=>ls.getD k.toNat [])/\(∀ (j:Nat) (y:AObj),j ≠ C.length->D[j]?=some y->H'[j]?=some y)/\D.length<=H'.length) W.length ?_ ?_
 ·exact ⟨0,C.length,[],by simp,rfl,rfl,rfl,rfl,.inl rfl,u1,fun j y _ hy=>hy,Nat.le_refl _⟩
 rintro m s H' ⟨i,o,vs,hm,h3,h9,h10,h11,hoD,hin,hk,hAl⟩
 have pCH:C<+:H':=prefix_of fun j y hy=>hk j y (by have:=at_lt hy;omega) (pre_at (pE.trans pD) hy)
 have hgO:=own_nil hg
 have lE:E.length=C.length+1:=hlE.symm
 have hgH:Row 3 H' g W:=by
  rcases hg with q | ⟨og,q1,q2,q3⟩
  ·exact .inl q
  ·exact (show Own 3 E H' g W from .inr ⟨og,q1,q2,hk _ _ (by omega) q3⟩).row
 have cH:H'[H.length]?=some (.cells [a,b] 34 false):=pre_at pCH cC
 have hH:=h.pre (pHC.trans pCH)
 have hml:((W.take i).map fun k=>ls.getD k.toNat []).length=i:=by rw [List.length_map,List.length_take];omega
 simp (disch:=omega) only [h3,h9,h10,h11,hgH.len Tryz.underlying27,SS,eq_self,reduceIte,reduceCtorEq,Nat.reduceEqDiff,Nat.reduceAdd]
 refine brD.intro (fun q=>?_) (fun q=>?_)
 ·have hi:i<W.length:=by omega
  have hzm:W.getD i 0 ∈ W:=by simp [hi]
  have hzr:=hrng _ hzm
  have hst:(W.take (i+1)).map (fun k=>ls.getD k.toNat [])=(W.take i).map (fun k=>ls.getD k.toNat []) ++ [ls.getD (W.getD i 0).toNat []]:=by
   rw [List.take_add_one,List.getElem?_eq_getElem hi,List.map_append]
   have:W.getD i 0=W[i]:=by simp [hi]
   rw [this];rfl
  have hci:=hgH.cell hi
  obtain ⟨z,hz⟩:∃ z:Nat,W.getD i 0=z:=⟨(W.getD i 0).toNat,by omega⟩
  rw [hz,Int.toNat_natCast] at hst
  rw [hz] at hci hzr
  have hcz:=hH.cell (show z<ls.length by omega)
  simp (disch:=omega) only [h3,h9,h10,h11,hgH.ix Tryz.underlying27 cs3,Int.toNat_natCast,hci,cell_of cH,hH.row.ix Tryz.underlying32 cs27,hcz,SS,eq_self,reduceIte,reduceCtorEq,Nat.reduceEqDiff,Nat.reduceAdd]
  refine CallH.by (l1Own_c _ _ H' (hH.each z (by omega)) (hH.small z (by omega))) ?_
  rintro c F ⟨hc,pF⟩
  have hinw:=InI.of hc.mine
  obtain ⟨H3,k1,k2,k3,k4⟩:=(hin.pre pF).app1 (P:=Tryz.prog) (t2:=32) Tryz.underlying32 cs27 (by rw [by27];decide) zk27 hinw (by have:=pCH.length_le;omega) pF.length_le (Nat.le_refl _) (by omega)
  rw [hml] at k1 k2
  rw [<- hst] at k2
  have hml2:((W.take (i+1)).map fun k=>ls.getD k.toNat []).length=i+1:=by rw [List.length_map,List.length_take];omega
  have f1:∀ (j:Nat) (y:AObj),j ≠ C.length->D[j]?=some y->H3[j]?=some y:=fun j y hj hy=>by
   refine k4 j y ?_ (pre_at pF (hk j y hj hy))
   rcases hoD with g | g
   ·omega
   ·have:=at_lt hy;omega
  have f2:InU A.length H3.length 27 3 H3 (F.length+1) (vs.take i ++ [c]) ((W.take (i+1)).map fun k=>ls.getD k.toNat []):=by rw [k3];exact k2
  have hlF:=pF.length_le
  have f3:F.length+1=C.length∨D.length<=F.length+1:=by omega
  simp (disch:=omega) only [h3,h9,h10,h11,hml,bsRowW hc.row,k1,wrap64,SS,eq_self,reduceIte,reduceCtorEq,Nat.reduceEqDiff,Nat.reduceAdd]
  refine ⟨m - 1,by omega,i+1,F.length+1,vs.take i ++ [c],?_⟩
  rw [hml2]
  (repeat' first | exact f1 | exact f2 | exact f3 | apply And.intro) <;> first | (simp only [Value.int.injEq,true_and];omega) | omega | rfl | assumption | (simp;done) | (simp;omega)
 ·have hi:i=W.length:=by omega
  subst hi
  simp (disch:=omega) only [h9,SS,eq_self,reduceIte,reduceCtorEq,Nat.reduceEqDiff,Nat.reduceAdd]
  refine hQ _ _ _ ?_
  simp (disch:=omega) only [SS,eq_self,reduceIte,reduceCtorEq,Nat.reduceEqDiff,Nat.reduceAdd]
  have e1:W.take W.length=W:=List.take_length
  rw [e1] at hin ⊢
  exact ⟨hin.inl.wide (by omega) (Nat.le_refl _),pHC.trans pCH⟩
theorem l3Told_c {lo hi:Nat}(v:Value)(ls:List (List Int))(H:AH)(h:InL lo hi 27 3 H v ls) :
  ACalls Tryz.prog 75 [v] H fun r H'=>r=.tuple (List.toArray [v,.bool (decide (0<ls.length))])/\H=H':=by
 refine in75 rfl ?_
 intro Q hQ
 obtain ⟨us,r1,r2,r3⟩:=h.parts
 have hd:decide (0<ls.length)=decide ((0:Int)<(us.length:Int)):=decide_eq_decide.2 (by omega)
 rw [hd] at hQ
 simp (disch:=omega) only [cd75,r1.len Tryz.underlying32,SS,eq_self,reduceIte,reduceCtorEq,Nat.reduceEqDiff,Nat.reduceAdd]
 refine hQ _ _ _ ?_
 simp (disch:=omega) only [r1.tup,SS,eq_self,reduceIte,reduceCtorEq,Nat.reduceEqDiff,Nat.reduceAdd]
def BagI (b:Nat)(s:List Int):Prop:=b<2 ^ 32/\∀ z:Nat,z<64->b.testBit z=decide ((z:Int) ∈ s)
theorem BagI.zero:BagI 0 []:=⟨by decide,fun z _=>by simp⟩
theorem BagI.or {b y:Nat}{s:List Int}(h:BagI b s)(hy:y<32):BagI (b ||| 2 ^ y) (s ++ [(y:Int)]):=by
 refine ⟨Nat.or_lt_two_pow h.1 (Nat.pow_lt_pow_right (by decide) hy),fun z hz=>?_⟩
 rw [Nat.testBit_or,h.2 z hz,Nat.testBit_two_pow]
 by_cases e:y=z
 ·subst e;simp
 ·have e2:¬ ((z:Int)=y):=by omega
  simp [e,e2]
theorem BagI.congr {b:Nat}{s t:List Int}(h:BagI b s)(he:∀ z:Nat,z<64->((z:Int) ∈ s↔(z:Int) ∈ t)):BagI b t :=
 ⟨h.1,fun z hz=>by rw [h.2 z hz];exact decide_eq_decide.2 (he z hz)⟩
def cd38:Cd:=(.seq (.reg [⟨⟨some 3,.box 26 (.tmp 0),none⟩,[]⟩,⟨⟨some 6,.assign (.const (.int .i64 0)),none⟩,[]⟩,⟨⟨some 7,.assign (.const (.bool false)),none⟩,[]⟩]) (.seq (.seq (.reg [⟨⟨some 8,.load 26 (.tmp 3),none⟩,[]⟩,⟨⟨some 9,.move (.tmp 1),none⟩,[]⟩,⟨⟨some 10,.move (.tmp 2),none⟩,[]⟩,⟨⟨some 11,.call ⟨(.value (.func 100)),#[.tmp 8,.tmp 9,.tmp 10],#[26,3,3]⟩,none⟩,[]⟩,⟨⟨some 12,.unOp .not 4 (.tmp 11),none⟩,[]⟩]) (.cond (.tmp 12) (.seq (.reg [⟨⟨some 6,.assign (.const (.int .i64 0)),none⟩,[]⟩,⟨⟨some 7,.assign (.const (.bool false)),none⟩,[]⟩]) .ret) .skip)) (.seq (.reg [⟨⟨some 13,.load 26 (.tmp 3),none⟩,[]⟩,⟨⟨some 14,.move (.tmp 1),none⟩,[]⟩,⟨⟨some 15,.move (.tmp 2),none⟩,[]⟩,⟨⟨some 16,.call ⟨(.value (.func 101)),#[.tmp 13,.tmp 14,.tmp 15],#[26,3,3]⟩,none⟩,[]⟩,⟨⟨some 17,.call ⟨(.builtin .len),#[.tmp 16],#[32]⟩,none⟩,[]⟩,
 ⟨⟨some 6,.assign (.tmp 17),none⟩,[]⟩,
  ⟨⟨some 7,.assign (.const (.bool true)),none⟩,[]⟩]) .ret)))
theorem in38:InT Tryz.prog 38 3 [.tmp 6,.tmp 7] cd38:=InT.mk (by kernel_rfl) [] Tryz.func38 rfl (by kernel_rfl) (by kernel_rfl) (of_decide_eq_true (by kernel_rfl)) (by kernel_rfl)
def cd39:Cd:=(.seq (.reg [⟨⟨some 3,.box 26 (.tmp 0),none⟩,[]⟩,⟨⟨some 6,.assign (.const (.int .i64 0)),none⟩,[]⟩,⟨⟨some 7,.assign (.const (.bool false)),none⟩,[]⟩]) (.seq (.seq (.reg [⟨⟨some 8,.load 26 (.tmp 3),none⟩,[]⟩,⟨⟨some 9,.move (.tmp 1),none⟩,[]⟩,⟨⟨some 10,.move (.tmp 2),none⟩,[]⟩,⟨⟨some 11,.call ⟨(.value (.func 97)),#[.tmp 8,.tmp 9,.tmp 10],#[26,3,3]⟩,none⟩,[]⟩,⟨⟨some 12,.unOp .not 4 (.tmp 11),none⟩,[]⟩]) (.cond (.tmp 12) (.seq (.reg [⟨⟨some 6,.assign (.const (.int .i64 0)),none⟩,[]⟩,⟨⟨some 7,.assign (.const (.bool false)),none⟩,[]⟩]) .ret) .skip)) (.seq (.reg [⟨⟨some 13,.load 26 (.tmp 3),none⟩,[]⟩,⟨⟨some 14,.load 26 (.tmp 3),none⟩,[]⟩,⟨⟨some 15,.move (.tmp 2),none⟩,[]⟩,⟨⟨some 17,.move (.tmp 1),none⟩,[]⟩,⟨⟨some 16,.call ⟨(.value (.func 84)),#[.tmp 14,.tmp 15],#[26,3]⟩,none⟩,[⟨some 13,.load 26 (.tmp 3),none⟩]⟩,
 ⟨⟨some 18,.call ⟨(.value (.func 103)),#[.tmp 13,.tmp 16,.tmp 17],#[26,27,3]⟩,none⟩,[]⟩,
  ⟨⟨some 6,.assign (.tmp 18),none⟩,[]⟩,
  ⟨⟨some 7,.assign (.const (.bool true)),none⟩,[]⟩]) .ret)))
theorem in39:InT Tryz.prog 39 3 [.tmp 6,.tmp 7] cd39:=InT.mk (by kernel_rfl) [(3,[(0,false),(1,false),(2,false),(4,false),(3,true),(5,true),(6,false),(7,false)])] Tryz.func39 rfl (by kernel_rfl) (by kernel_rfl) (of_decide_eq_true (by kernel_rfl)) (by kernel_rfl)
def cd37:Cd:=(.seq (.reg [⟨⟨some 3,.box 26 (.tmp 0),none⟩,[]⟩,⟨⟨some 6,.assign (.const (.slice none 0 0)),none⟩,[]⟩,⟨⟨some 7,.assign (.const (.bool false)),none⟩,[]⟩]) (.seq (.seq (.reg [⟨⟨some 8,.load 26 (.tmp 3),none⟩,[]⟩,⟨⟨some 9,.move (.tmp 1),none⟩,[]⟩,⟨⟨some 10,.move (.tmp 2),none⟩,[]⟩,⟨⟨some 11,.call ⟨(.value (.func 97)),#[.tmp 8,.tmp 9,.tmp 10],#[26,3,3]⟩,none⟩,[]⟩,⟨⟨some 12,.unOp .not 4 (.tmp 11),none⟩,[]⟩]) (.cond (.tmp 12) (.seq (.reg [⟨⟨some 13,.buildSlice 32 0 #[],none⟩,[]⟩,⟨⟨some 6,.assign (.tmp 13),none⟩,[]⟩,⟨⟨some 7,.assign (.const (.bool false)),none⟩,[]⟩]) .ret) .skip)) (.seq (.reg [⟨⟨some 14,.load 26 (.tmp 3),none⟩,[]⟩,⟨⟨some 15,.move (.tmp 1),none⟩,[]⟩,⟨⟨some 16,.move (.tmp 2),none⟩,[]⟩,⟨⟨some 17,.call ⟨(.value (.func 98)),#[.tmp 14,.tmp 15,.tmp 16],#[26,3,3]⟩,none⟩,[]⟩,
 ⟨⟨some 18,.call ⟨(.value (.func 75)),#[.tmp 17],#[32]⟩,none⟩,[]⟩,
  ⟨⟨some 19,.extract (.tmp 18) 0,none⟩,[]⟩,
  ⟨⟨some 20,.extract (.tmp 18) 1,none⟩,[]⟩,
  ⟨⟨some 6,.assign (.tmp 19),none⟩,[]⟩,
  ⟨⟨some 7,.assign (.tmp 20),none⟩,[]⟩]) .ret)))
theorem in37:InT Tryz.prog 37 3 [.tmp 6,.tmp 7] cd37:=InT.mk (by kernel_rfl) [] Tryz.func37 rfl (by kernel_rfl) (by kernel_rfl) (of_decide_eq_true (by kernel_rfl)) (by kernel_rfl)
def cd82:Cd:=(.seq (.reg [⟨⟨some 2,.assign (.const (.slice none 0 0)),none⟩,[]⟩]) (.seq (.reg [⟨⟨some 5,.buildSlice 27 0 #[],none⟩,[]⟩,⟨⟨some 3,.assign (.tmp 5),none⟩,[]⟩]) (.seq (.seq (.reg [⟨⟨some 6,.move (.const (.int .i64 0)),none⟩,[]⟩]) (.block 0 (.loop (.seq (.reg [⟨⟨some 7,.binOp .lss 3 (.tmp 6) (.const (.int .i64 8)) 3,none⟩,[]⟩]) (.seq (.cond (.tmp 7) .skip (.exit 0)) (.seq (.block 1 (.seq (.reg [⟨⟨some 8,.move (.tmp 6),none⟩,[]⟩,⟨⟨some 4,.assign (.tmp 8),none⟩,[]⟩]) (.seq (.reg [⟨⟨some 9,.move (.tmp 0),none⟩,[]⟩,⟨⟨some 10,.move (.tmp 4),none⟩,[]⟩,⟨⟨some 11,.binOp .shr 95 (.tmp 9) (.tmp 10) 3,none⟩,[]⟩,⟨⟨some 12,.binOp .and 95 (.tmp 11) (.const (.int .u64 1)) 95,none⟩,[]⟩,⟨⟨some 13,.binOp .eql 95 (.tmp 12) (.const (.int .u64 1)) 95,none⟩,[]⟩]) (.cond (.tmp 13) (.reg [⟨⟨some 14,.move (.tmp 3),none⟩,[]⟩,⟨⟨some 15,.move (.tmp 4),none⟩,[]⟩,⟨⟨some 16,.buildSlice 27 1 #[(0,.tmp 15)],none⟩,[]⟩,⟨⟨some 17,.call ⟨(.builtin .append),#[.tmp 14,.tmp 16],#[27,27]⟩,none⟩,[]⟩,⟨⟨some 3,.assign (.tmp 17),none⟩,[]⟩]) .skip)))) (.reg [⟨⟨some 18,.binOp .add 3 (.tmp 6) (.const (.int .i64 1)) 3,none⟩,[]⟩,⟨⟨some 6,.move (.tmp 18),none⟩,[]⟩]))))))) (.seq (.reg [⟨⟨some 19,.move (.tmp 3),none⟩,[]⟩,
 ⟨⟨some 2,.assign (.tmp 19),none⟩,[]⟩]) .ret))))
theorem in82:InT Tryz.prog 82 1 [.tmp 2] cd82:=InT.mk (by kernel_rfl) [] Tryz.func82 rfl (by kernel_rfl) (by kernel_rfl) (of_decide_eq_true (by kernel_rfl)) (by kernel_rfl)
end Go.Proofs.YtlcipphiflcaiaaGreat.Ai
namespace Go.Proofs.YtlcipphiflcaiaaGreat.Ai
open Go Go.RowKit
theorem CwI_c (n:Int)(v:Value)(es:List (Int × Int))(s t:Int)(H:AH)(hr:RowP 115 H v es)(hlen:es.length<=1099511627776) :
  ACalls Tryz.prog 38 [.agg (List.toArray [.int .i64 n,v]),.int .i64 s,.int .i64 t] H fun r H'=>r=.tuple (List.toArray [.int .i64 ((wsL n es s t).length:Int),.bool (decide (WsOk n es s t))])/\H<+:H':=by
 refine in38 rfl ?_
 intro Q hQ
 simp (disch:=omega) only [cd38,hr.boxG,SS,eq_self,reduceIte,reduceCtorEq,Nat.reduceEqDiff,Nat.reduceAdd]
 generalize hA:H ++ [AObj.cells [.int .i64 n,v] 26 false]=A
 have pA:H<+:A:=by rw [<- hA];exact List.prefix_append _ _
 have cA:A[H.length]?=some (.cells [.int .i64 n,v] 26 false):=by rw [<- hA];exact at_new ..
 have rA:=hr.pre pA
 simp (disch:=omega) only [ld_agg ag26 cs26 cA,SS,eq_self,reduceIte,reduceCtorEq,Nat.reduceEqDiff,Nat.reduceAdd]
 refine CallH.by (isTwo_c n v es s t A rA hlen) ?_
 rintro _ B ⟨rfl,pB⟩
 by_cases e:WsOk n es s t
 ·simp (disch:=omega) only [decide_eq_true e,ld_agg ag26 cs26 (pre_at pB cA),SS,eq_self,reduceIte,reduceCtorEq,Nat.reduceEqDiff,Nat.reduceAdd]
  refine CallH.by (ways_c n v es s t B (rA.pre pB) hlen e) ?_
  rintro g C ⟨hin,pC⟩
  obtain ⟨us,r1,r2,r3⟩:=hin.parts
  simp (disch:=omega) only [r1.len Tryz.underlying32,r2,SS,eq_self,reduceIte,reduceCtorEq,Nat.reduceEqDiff,Nat.reduceAdd]
  refine hQ _ _ _ ?_
  simp (disch:=omega) only [SS,eq_self,reduceIte,reduceCtorEq,Nat.reduceEqDiff,Nat.reduceAdd]
  exact ⟨by rw [decide_eq_true e],pA.trans (pB.trans pC)⟩
 ·have z:wsL n es s t=[]:=by unfold wsL;rw [if_neg fun q=>e q.1]
  simp (disch:=omega) only [decide_eq_false e,SS,eq_self,reduceIte,reduceCtorEq,Nat.reduceEqDiff,Nat.reduceAdd]
  refine hQ _ _ _ ?_
  simp (disch:=omega) only [SS,eq_self,reduceIte,reduceCtorEq,Nat.reduceEqDiff,Nat.reduceAdd]
  exact ⟨by rw [decide_eq_false e,z];rfl,pA.trans pB⟩
theorem l7CountN_c (n:Int)(v vf:Value)(es:List (Int × Int))(hg:Grd n es)(hlen:es.length<=1099511627776){far:List Int}(hfl:far.length=n.toNat)(x:Nat)(H:AH)(hx:x<n.toNat)(hd:far.getD x 0<0)(hr:RowP 115 H v es)(hf:Row 3 H vf far) :
  ACalls Tryz.prog 103 [.agg (List.toArray [.int .i64 n,v]),vf,.int .i64 (x:Int)] H fun r H'=>r=.int .i64 0/\H<+:H':=by
 have h8:=hg.1
 refine in103 rfl ?_
 intro Q hQ
 simp (disch:=omega) only [cd103,hr.boxG,SS,eq_self,reduceIte,reduceCtorEq,Nat.reduceEqDiff,Nat.reduceAdd]
 generalize hA:H ++ [AObj.cells [.int .i64 n,v] 26 false]=A
 have pA:H<+:A:=by rw [<- hA];exact List.prefix_append _ _
 have cA:A[H.length]?=some (.cells [.int .i64 n,v] 26 false):=by rw [<- hA];exact at_new ..
 have rA:=hr.pre pA
 have hfA:=hf.pre pA
 have hcA:=hfA.cell (show x<far.length by omega)
 have hne:¬ (far.getD x 0=0):=by omega
 have hng:¬ (0:Int)<far.getD x 0:=by omega
 simp (disch:=omega) only [hf.ix Tryz.underlying27 cs3,Int.toNat_natCast,hcA,decide_eq_false hne,ld_agg ag26 cs26 cA,SS,eq_self,reduceIte,reduceCtorEq,Nat.reduceEqDiff,Nat.reduceAdd]
 refine CallH.by (l2Neighbors_c n v es (x:Int) A rA hlen h8) ?_
 rintro w B ⟨hw,pB⟩
 have hw0:=hw.row
 generalize hxs:nbsU es (x:Int) n.toNat=xs at *
 have hsm:xs.length<=1000000000:=by
  have h1:=roadsL_small n.toNat es (by omega) x
  rw [roadsL_at n.toNat es x hx,hxs] at h1
  omega
 simp (disch:=omega) only [SS,eq_self,reduceIte,reduceCtorEq,Nat.reduceEqDiff,Nat.reduceAdd]
 refine LoopH.by (fun m s H'=>∃ (k:Nat),m+k=xs.length/\s 1=vf/\s 2=.int .i64 (x:Int)/\s 7=.int .i64 0/\s 8=w/\s 9=.int .i64 ((k:Nat):Int)/\B=H') xs.length ?_ ?_
 ·exact ⟨0,by simp,rfl,rfl,rfl,rfl,rfl,rfl⟩
 rintro m s H' ⟨k,hm,h1,h2,h7,h8s,h9s,rfl⟩
 have hcB:=(hfA.pre pB).cell (show x<far.length by omega)
 simp (disch:=omega) only [h1,h2,h7,h8s,h9s,hw0.len Tryz.underlying27,SS,eq_self,reduceIte,reduceCtorEq,Nat.reduceEqDiff,Nat.reduceAdd]
 refine brD.intro (fun g=>?_) (fun g=>?_)
 ·simp (disch:=omega) only [h1,h2,h7,h8s,h9s,(hfA.pre pB).ix Tryz.underlying27 cs3,Int.toNat_natCast,hcB,decide_eq_false hng,wrap64,SS,eq_self,reduceIte,reduceCtorEq,Nat.reduceEqDiff,Nat.reduceAdd]
  refine ⟨m - 1,by omega,k+1,?_⟩
  (repeat' first | exact h1 | apply And.intro) <;> first | (simp only [Value.int.injEq,true_and];omega) | omega | rfl | assumption | (simp;done) | (simp;omega)
 ·simp (disch:=omega) only [h7,SS,eq_self,reduceIte,reduceCtorEq,Nat.reduceEqDiff,Nat.reduceAdd]
  refine hQ _ _ _ ?_
  simp (disch:=omega) only [SS,eq_self,reduceIte,reduceCtorEq,Nat.reduceEqDiff,Nat.reduceAdd]
  exact pA.trans pB
theorem CwS_c (n:Int)(v:Value)(es:List (Int × Int))(s t:Int)(H:AH)(hr:RowP 115 H v es)(hlen:es.length<=1099511627776) :
  ACalls Tryz.prog 39 [.agg (List.toArray [.int .i64 n,v]),.int .i64 s,.int .i64 t] H fun r H'=>r=.tuple (List.toArray [.int .i64 ((wsL n es s t).length:Int),.bool (decide (WsOk n es s t))])/\H<+:H':=by
 refine in39 rfl ?_
 intro Q hQ
 simp (disch:=omega) only [cd39,hr.boxG,SS,eq_self,reduceIte,reduceCtorEq,Nat.reduceEqDiff,Nat.reduceAdd]
 generalize hA:H ++ [AObj.cells [.int .i64 n,v] 26 false]=A
 have pA:H<+:A:=by rw [<- hA];exact List.prefix_append _ _
 have cA:A[H.length]?=some (.cells [.int .i64 n,v] 26 false):=by rw [<- hA];exact at_new ..
 have rA:=hr.pre pA
 simp (disch:=omega) only [ld_agg ag26 cs26 cA,SS,eq_self,reduceIte,reduceCtorEq,Nat.reduceEqDiff,Nat.reduceAdd]
 refine CallH.by (l7Ends_c n v es s t A rA hlen) ?_
 rintro _ B ⟨rfl,pB⟩
 by_cases e:WsOk n es s t
 rotate_left
 ·have z:wsL n es s t=[]:=by unfold wsL;rw [if_neg fun q=>e q.1]
  simp (disch:=omega) only [decide_eq_false e,SS,eq_self,reduceIte,reduceCtorEq,Nat.reduceEqDiff,Nat.reduceAdd]
  refine hQ _ _ _ ?_
  simp (disch:=omega) only [SS,eq_self,reduceIte,reduceCtorEq,Nat.reduceEqDiff,Nat.reduceAdd]
  exact ⟨by rw [decide_eq_false e,z];rfl,pA.trans pB⟩
 have hF:=farG_ok e
 have hg:=e.1
 have h8:=hg.1
 obtain ⟨sN,rfl⟩:∃ k:Nat,s=k:=⟨s.toNat,by have:=e.2.1;omega⟩
 obtain ⟨tN,rfl⟩:∃ k:Nat,t=k:=⟨t.toNat,by have:=e.2.2;omega⟩
 have hsb:=e.2.1
 have htb:=e.2.2
 have cB:=pre_at pB cA
 simp (disch:=omega) only [decide_eq_true e,ld_agg ag26 cs26 cB,SS,eq_self,reduceIte,reduceCtorEq,Nat.reduceEqDiff,Nat.reduceAdd]
 refine CallH.by (l3Far_c n v es tN B (rA.pre pB) hlen h8 (by omega)) ?_
 rintro vf C ⟨hf,pC⟩
 have hfar:farG n es (tN:Int)=bfs (roadsL n.toNat es) tN:=by unfold farG;rw [Int.toNat_natCast]
 rw [<- hfar] at hf
 have hWs:wsL n es (sN:Int) (tN:Int)=if 0<=(farG n es (tN:Int)).getD sN 0 then wA (roadsL n.toNat es) (farG n es (tN:Int)) ((farG n es (tN:Int)).getD sN 0).toNat (sN:Int) [(sN:Int)] else []:=by
  unfold wsL
  rw [Int.toNat_natCast]
  by_cases q:0<=(farG n es (tN:Int)).getD sN 0
  ·rw [if_pos ⟨e,q⟩,if_pos q]
  ·rw [if_neg (fun p=>q p.2),if_neg q]
 rw [hWs] at hQ
 have cC:=pre_at pC cB
 have cCB:C[H.length]?=B[H.length]?:=by rw [cC,cB]
 rw [Int.toNat_natCast] at hF
 generalize farG n es (tN:Int)=far at *
 have pHC:=pA.trans (pB.trans pC)
 simp (disch:=omega) only [cCB,ld_agg ag26 cs26 cC,SS,eq_self,reduceIte,reduceCtorEq,Nat.reduceEqDiff,Nat.reduceAdd]
 by_cases q:0<=far.getD sN 0
 ·rw [if_pos q] at hQ
  obtain ⟨d,hd⟩:∃ d:Nat,far.getD sN 0=d:=⟨(far.getD sN 0).toNat,by omega⟩
  rw [hd,Int.toNat_natCast,wA_len] at hQ
  refine CallH.by (l7Count_c n v vf es hg hlen hF d sN C (by omega) hd (rA.pre (pB.trans pC)) hf.row) ?_
  rintro _ D ⟨rfl,pD⟩
  simp (disch:=omega) only [SS,eq_self,reduceIte,reduceCtorEq,Nat.reduceEqDiff,Nat.reduceAdd]
  refine hQ _ _ _ ?_
  simp (disch:=omega) only [SS,eq_self,reduceIte,reduceCtorEq,Nat.reduceEqDiff,Nat.reduceAdd]
  exact ⟨by rw [decide_eq_true e],pHC.trans pD⟩
 ·rw [if_neg q] at hQ
  refine CallH.by (l7CountN_c n v vf es hg hlen hF.fl sN C (by omega) (by omega) (rA.pre (pB.trans pC)) hf.row) ?_
  rintro _ D ⟨rfl,pD⟩
  simp (disch:=omega) only [SS,eq_self,reduceIte,reduceCtorEq,Nat.reduceEqDiff,Nat.reduceAdd]
  refine hQ _ _ _ ?_
  simp (disch:=omega) only [SS,eq_self,reduceIte,reduceCtorEq,Nat.reduceEqDiff,Nat.reduceAdd]
  exact ⟨by rw [decide_eq_true e];rfl,pHC.trans pD⟩
theorem SwS_c (n:Int)(v:Value)(es:List (Int × Int))(s t:Int)(H:AH)(hr:RowP 115 H v es)(hlen:es.length<=1099511627776) :
  ACalls Tryz.prog 37 [.agg (List.toArray [.int .i64 n,v]),.int .i64 s,.int .i64 t] H fun r H'=>(∃ g,r=.tuple (List.toArray [g,.bool (decide (0<(wsL n es s t).length))])/\InL H.length H'.length 27 3 H' g (wsL n es s t))/\H<+:H':=by
 refine in37 rfl ?_
 intro Q hQ
 simp (disch:=omega) only [cd37,hr.boxG,SS,eq_self,reduceIte,reduceCtorEq,Nat.reduceEqDiff,Nat.reduceAdd]
 generalize hA:H ++ [AObj.cells [.int .i64 n,v] 26 false]=A
 have pA:H<+:A:=by rw [<- hA];exact List.prefix_append _ _
 have cA:A[H.length]?=some (.cells [.int .i64 n,v] 26 false):=by rw [<- hA];exact at_new ..
 have rA:=hr.pre pA
 simp (disch:=omega) only [ld_agg ag26 cs26 cA,SS,eq_self,reduceIte,reduceCtorEq,Nat.reduceEqDiff,Nat.reduceAdd]
 refine CallH.by (l7Ends_c n v es s t A rA hlen) ?_
 rintro _ B ⟨rfl,pB⟩
 by_cases e:WsOk n es s t
 ·simp (disch:=omega) only [decide_eq_true e,ld_agg ag26 cs26 (pre_at pB cA),SS,eq_self,reduceIte,reduceCtorEq,Nat.reduceEqDiff,Nat.reduceAdd]
  refine CallH.by (l7Ways_c n v es s t B (rA.pre pB) hlen e) ?_
  rintro g C ⟨hin,pC⟩
  simp (disch:=omega) only [SS,eq_self,reduceIte,reduceCtorEq,Nat.reduceEqDiff,Nat.reduceAdd]
  refine CallH.by (l3Told_c g _ C hin) ?_
  rintro _ _ ⟨rfl,rfl⟩
  simp (disch:=omega) only [SS,eq_self,reduceIte,reduceCtorEq,Nat.reduceEqDiff,Nat.reduceAdd]
  refine hQ _ _ _ ?_
  obtain ⟨us,r1,_⟩:=hin.parts
  simp (disch:=omega) only [r1.tup,SS,eq_self,reduceIte,reduceCtorEq,Nat.reduceEqDiff,Nat.reduceAdd]
  exact ⟨⟨_,rfl,hin.wide (pA.trans pB).length_le (Nat.le_refl _)⟩,pA.trans (pB.trans pC)⟩
 ·have z:wsL n es s t=[]:=by unfold wsL;rw [if_neg fun q=>e q.1]
  have u0:=InU.new H.length 27 3 B (pA.trans pB).length_le
  simp (disch:=omega) only [decide_eq_false e,SS,eq_self,reduceIte,reduceCtorEq,Nat.reduceEqDiff,Nat.reduceAdd]
  refine hQ _ _ _ ?_
  simp (disch:=omega) only [SS,eq_self,reduceIte,reduceCtorEq,Nat.reduceEqDiff,Nat.reduceAdd]
  rw [z]
  refine ⟨⟨_,rfl,?_⟩,pre_app (pA.trans pB) _⟩
  have:=u0.inl
  simpa using this
theorem bagList_c (b:Nat)(H:AH)(hb:b<2 ^ 64) :
  ACalls Tryz.prog 82 [.int .u64 (b:Int)] H fun r H'=>Own 3 H H' r ((alls 8).filter fun x=>b.testBit x.toNat)/\H<+:H':=by
 refine in82 rfl ?_
 intro Q hQ
 simp (disch:=omega) only [cd82,SS,eq_self,reduceIte,reduceCtorEq,Nat.reduceEqDiff,Nat.reduceAdd]
 generalize hA:H ++ [AObj.cells [] 3 false]=A
 have pA:H<+:A:=by rw [<- hA];exact List.prefix_append _ _
 have own0:Own 3 H A (.slice (some ⟨H.length,0,none⟩) 0 0) ((alls 0).filter fun x=>b.testBit x.toNat):=.inr ⟨H.length,rfl,Nat.le_refl _,by rw [<- hA];exact at_new ..⟩
 refine LoopH.by (fun m s H'=>∃ i:Nat,m+i=8/\s 0=.int .u64 (b:Int)/\s 6=.int .i64 ((i:Nat):Int)/\Own 3 H H' (s 3) ((alls i).filter fun x=>b.testBit x.toNat)/\H<+:H') 8 ?_ ?_
 ·refine ⟨0,by omega,?_⟩
  simp (disch:=omega) only [SS,eq_self,reduceIte,reduceCtorEq,Nat.reduceEqDiff,Nat.reduceAdd]
  (repeat' first | exact own0 | exact pA | apply And.intro) <;> first | (simp only [Value.int.injEq,true_and];omega) | omega | rfl | assumption | (simp;done) | (simp;omega)
 rintro m s H' ⟨i,hm,s0,s6,hO,hp⟩
 simp (disch:=omega) only [s0,s6,SS,eq_self,reduceIte,reduceCtorEq,Nat.reduceEqDiff,Nat.reduceAdd]
 refine brD.intro (fun g=>?_) (fun g=>?_)
 ·have hi:i<8:=by omega
  have e1:=bin_shr Tryz.prog 95 b i (by omega)
  have e2:binA Tryz.prog .and 95 (.int .u64 ((b / 2 ^ i:Nat):Int)) (.int .u64 1)=some (.int .u64 (((b / 2 ^ i) &&& 1:Nat):Int)):=bin_and Tryz.prog 95 (b / 2 ^ i) 1 (div_lt b i hb) (by decide)
  have hbit:((((b / 2 ^ i) &&& 1:Nat):Int)=1)↔b.testBit i=true:=by rw [<- bit_and];omega
  have hst:(alls (i+1)).filter (fun x=>b.testBit x.toNat)=(alls i).filter (fun x=>b.testBit x.toNat) ++ if b.testBit i=true then [(i:Int)] else []:=by
   rw [alls_succ,List.filter_append]
   congr 1
   rw [List.filter_cons,List.filter_nil,Int.toNat_natCast]
  have hol:((alls i).filter fun x=>b.testBit x.toNat).length<=i:=Nat.le_trans (List.length_filter_le _ _) (by rw [alls_len];exact Nat.le_refl _)
  by_cases q:b.testBit i=true
  ·rw [if_pos q] at hst
   obtain ⟨c2,F,a1,a2,a3,a4,a5,a6⟩:=own1_27 hO hp (by omega) (i:Int)
   rw [<- hst] at a2
   simp (disch:=omega) only [s0,s6,e1,e2,decide_eq_true (hbit.2 q),a1,wrap64,SS,eq_self,reduceIte,reduceCtorEq,Nat.reduceEqDiff,Nat.reduceAdd]
   refine ⟨m - 1,by omega,i+1,?_⟩
   (repeat' first | exact a2 | exact a3 | apply And.intro) <;> first | (simp only [Value.int.injEq,true_and];omega) | omega | rfl | assumption | (simp;done) | (simp;omega)
  ·rw [if_neg q,List.append_nil] at hst
   rw [<- hst] at hO
   simp (disch:=omega) only [s0,s6,e1,e2,decide_eq_false (fun h=>q (hbit.1 h)),wrap64,SS,eq_self,reduceIte,reduceCtorEq,Nat.reduceEqDiff,Nat.reduceAdd]
   refine ⟨m - 1,by omega,i+1,?_⟩
   (repeat' first | exact hO | exact hp | apply And.intro) <;> first | (simp only [Value.int.injEq,true_and];omega) | omega | rfl | assumption | (simp;done) | (simp;omega)
 ·have hi:i=8:=by omega
  subst hi
  simp (disch:=omega) only [hO.row.tup,SS,eq_self,reduceIte,reduceCtorEq,Nat.reduceEqDiff,Nat.reduceAdd]
  refine hQ _ _ _ ?_
  simp (disch:=omega) only [hO.row.tup,SS,eq_self,reduceIte,reduceCtorEq,Nat.reduceEqDiff,Nat.reduceAdd]
  exact ⟨hO,hp⟩
theorem mk_bags {n:Nat}(h1:n<=1099511627776)(H:AH) :
  makeSliceA Tryz.prog 110 (.int .i64 (n:Int)) (.int .i64 (n:Int)) H=some (.slice (some ⟨H.length,0,none⟩) n n,H ++ [.cells (List.replicate n (.int .u64 0)) 95 false]):=by
 have hb2:(n:Int).toNat * Tryz.prog.bytesOf 95<=281474976710656:=by
  rw [by95,Int.toNat_natCast];omega
 have hzc:(Value.int .u64 0).cells=#[.int .u64 0]:=rfl
 have hzs:zerosA (.int .u64 0) ((n:Int).toNat * 1)=List.replicate n (.int .u64 0):=by
  unfold zerosA
  rw [hzc,Nat.mul_one,Int.toNat_natCast]
  apply List.ext_getElem
  ·simp
  ·intro i h1 h2
   simp [Nat.mod_one]
 simp only [makeSliceA,Tryz.underlying110,cs95,ze95]
 rw [if_pos ⟨trivial,by omega,by omega,hb2,by omega⟩,if_pos ⟨by simp [plainCs,hzc,plainC],by simp [hzc]⟩,hzs,Int.toNat_natCast]
def colL (ls:List (List Int))(d:Nat):List Int:=ls.map fun w=>w.getD d 0
theorem alls_bits {b:Nat}{s:List Int}(h:BagI b s){l:List Int}(hl:l.Pairwise (· < ·))(hm:∀ x:Int,x ∈ l↔x ∈ s)(hr:∀ x ∈ l,0<=x/\x<8):((alls 8).filter fun x=>b.testBit x.toNat)=l:=by
 have ha:(alls 8).Pairwise (· < ·):=by
  unfold alls
  rw [List.pairwise_map]
  exact List.pairwise_lt_range.imp fun h=>by omega
 refine srt_ext (ha.filter _) hl fun z=>?_
 rw [List.mem_filter,alls_mem]
 constructor
 ·rintro ⟨h1,h2⟩
  rw [h.2 z.toNat (by omega),decide_eq_true_eq,show ((z.toNat:Nat):Int)=z by omega] at h2
  exact (hm z).2 h2
 ·intro hz
  have:=hr z hz
  refine ⟨by omega,?_⟩
  rw [h.2 z.toNat (by omega),decide_eq_true_eq,show ((z.toNat:Nat):Int)=z by omega]
  exact (hm z).1 hz
theorem layD_asc (n:Int)(es:List (Int × Int))(s t:Int)(d:Nat):(layD n es s t d).Pairwise (· < ·):=by
 unfold layD
 rw [List.pairwise_map]
 exact (List.pairwise_lt_range.filter _).imp fun h=>by omega
theorem layD_rng {n:Int}{es:List (Int × Int)}{s t:Int}{d:Nat}(hn:n<=8):∀ x ∈ layD n es s t d,0<=x/\x<8:=by
 intro x hx
 unfold layD at hx
 obtain ⟨y,hy,rfl⟩:=List.mem_map.1 hx
 have:=List.mem_range.1 (List.mem_filter.1 hy).1
 omega
def cd104:Cd:=(.seq (.reg [⟨⟨some 2,.alloc 26,none⟩,[]⟩]) (.seq (.reg [⟨⟨some 3,.move (.tmp 0),none⟩,[]⟩,
 ⟨⟨some 4,.call ⟨(.value (.func 135)),#[.tmp 3,(.const (.int .i64 8))],#[64,3]⟩,none⟩,[]⟩,
 ⟨⟨none,.store 26 (.tmp 2) (.tmp 4),none⟩,[]⟩]) .ret))
theorem in104:InT Tryz.prog 104 1 [.cell 2 26] cd104:=InT.mk (by kernel_rfl) [] Tryz.func104 rfl (by kernel_rfl) (by kernel_rfl) (of_decide_eq_true (by kernel_rfl)) (by kernel_rfl)
def cd95:Cd:=(.seq (.reg [⟨⟨some 2,.alloc 26,none⟩,[]⟩,⟨⟨some 3,.assign (.const (.int .i64 0)),none⟩,[]⟩,⟨⟨some 4,.assign (.const (.int .i64 0)),none⟩,[]⟩]) (.seq (.reg [⟨⟨some 7,.move (.tmp 0),none⟩,[]⟩,⟨⟨some 8,.build 67 #[(0,.tmp 7)],none⟩,[]⟩,⟨⟨some 9,.box 67 (.tmp 8),none⟩,[]⟩,⟨⟨some 5,.assign (.tmp 9),none⟩,[]⟩]) (.seq (.reg [⟨⟨some 10,.move (.tmp 5),none⟩,[]⟩,⟨⟨some 11,.call ⟨(.value (.func 104)),#[.tmp 10],#[64]⟩,none⟩,[]⟩,⟨⟨some 6,.alloc 26,none⟩,[]⟩,⟨⟨none,.store 26 (.tmp 6) (.tmp 11),none⟩,[]⟩]) (.seq (.reg [⟨⟨some 12,.load 26 (.tmp 6),none⟩,[]⟩,⟨⟨some 13,.move (.tmp 5),none⟩,[]⟩,⟨⟨some 14,.load 26 (.tmp 6),none⟩,[]⟩,⟨⟨some 16,.move (.tmp 5),none⟩,[]⟩,
 ⟨⟨some 17,.load 26 (.tmp 6),none⟩,[]⟩,
  ⟨⟨some 15,.call ⟨(.value (.func 105)),#[.tmp 13,.tmp 14],#[64,26]⟩,none⟩,[⟨some 17,.load 26 (.tmp 6),none⟩,⟨some 12,.load 26 (.tmp 6),none⟩]⟩,
  ⟨⟨some 18,.call ⟨(.value (.func 105)),#[.tmp 16,.tmp 17],#[64,26]⟩,none⟩,[⟨some 12,.load 26 (.tmp 6),none⟩]⟩,
  ⟨⟨none,.store 26 (.tmp 2) (.tmp 12),none⟩,[]⟩,
  ⟨⟨some 3,.assign (.tmp 15),none⟩,[]⟩,
  ⟨⟨some 4,.assign (.tmp 18),none⟩,[]⟩]) .ret))))
theorem in95:InT Tryz.prog 95 1 [.cell 2 26,.tmp 3,.tmp 4] cd95:=InT.mk (by kernel_rfl) [(3,[(0,false),(1,false),(2,false),(4,false),(5,false),(3,true),(6,true),(7,true),(8,false),(9,false)])] Tryz.func95 rfl (by kernel_rfl) (by kernel_rfl) (of_decide_eq_true (by kernel_rfl)) (by kernel_rfl)
def cd33:Cd:=(.seq (.reg [⟨⟨some 2,.alloc 26,none⟩,[]⟩,
 ⟨⟨some 3,.assign (.const (.int .i64 0)),none⟩,[]⟩,
 ⟨⟨some 4,.assign (.const (.int .i64 0)),none⟩,[]⟩]) (.seq (.reg [⟨⟨some 5,.move (.tmp 0),none⟩,[]⟩,
 ⟨⟨some 6,.call ⟨(.value (.func 95)),#[.tmp 5],#[22]⟩,none⟩,[]⟩,
 ⟨⟨some 7,.extract (.tmp 6) 0,none⟩,[]⟩,
 ⟨⟨some 8,.extract (.tmp 6) 1,none⟩,[]⟩,
 ⟨⟨some 9,.extract (.tmp 6) 2,none⟩,[]⟩,
 ⟨⟨none,.store 26 (.tmp 2) (.tmp 7),none⟩,[]⟩,
 ⟨⟨some 3,.assign (.tmp 8),none⟩,[]⟩,
 ⟨⟨some 4,.assign (.tmp 9),none⟩,[]⟩]) .ret))
theorem in33:InT Tryz.prog 33 1 [.cell 2 26,.tmp 3,.tmp 4] cd33:=InT.mk (by kernel_rfl) [] Tryz.func33 rfl (by kernel_rfl) (by kernel_rfl) (of_decide_eq_true (by kernel_rfl)) (by kernel_rfl)
def cd42:Cd:=(.seq (.reg [⟨⟨some 2,.alloc 26,none⟩,[]⟩,⟨⟨some 3,.assign (.const (.slice none 0 0)),none⟩,[]⟩,⟨⟨some 4,.assign (.const (.slice none 0 0)),none⟩,[]⟩]) (.seq (.reg [⟨⟨some 11,.move (.tmp 0),none⟩,[]⟩,⟨⟨some 12,.build 67 #[(0,.tmp 11)],none⟩,[]⟩,⟨⟨some 13,.box 67 (.tmp 12),none⟩,[]⟩,⟨⟨some 5,.assign (.tmp 13),none⟩,[]⟩]) (.seq (.reg [⟨⟨some 14,.move (.tmp 5),none⟩,[]⟩,⟨⟨some 15,.call ⟨(.value (.func 104)),#[.tmp 14],#[64]⟩,none⟩,[]⟩,⟨⟨some 6,.alloc 26,none⟩,[]⟩,⟨⟨none,.store 26 (.tmp 6) (.tmp 15),none⟩,[]⟩]) (.seq (.reg [⟨⟨some 16,.move (.tmp 5),none⟩,[]⟩,⟨⟨some 17,.load 26 (.tmp 6),none⟩,[]⟩,⟨⟨some 19,.move (.tmp 5),none⟩,[]⟩,⟨⟨some 20,.load 26 (.tmp 6),none⟩,[]⟩,
 ⟨⟨some 18,.call ⟨(.value (.func 105)),#[.tmp 16,.tmp 17],#[64,26]⟩,none⟩,[⟨some 20,.load 26 (.tmp 6),none⟩]⟩,⟨⟨some 21,.call ⟨(.value (.func 105)),#[.tmp 19,.tmp 20],#[64,26]⟩,none⟩,[]⟩,⟨⟨some 7,.assign (.tmp 18),none⟩,[]⟩,⟨⟨some 8,.assign (.tmp 21),none⟩,[]⟩]) (.seq (.reg [⟨⟨some 23,.load 26 (.tmp 6),none⟩,[]⟩,⟨⟨some 24,.move (.tmp 7),none⟩,[]⟩,⟨⟨some 25,.move (.tmp 8),none⟩,[]⟩,⟨⟨some 26,.call ⟨(.value (.func 37)),#[.tmp 23,.tmp 24,.tmp 25],#[26,3,3]⟩,none⟩,[]⟩,⟨⟨some 22,.move (.tmp 26),none⟩,[]⟩,⟨⟨some 27,.extract (.tmp 22) 0,none⟩,[]⟩,⟨⟨some 28,.extract (.tmp 22) 1,none⟩,[]⟩,⟨⟨some 9,.assign (.tmp 27),none⟩,[]⟩,⟨⟨some 10,.assign (.tmp 28),none⟩,[]⟩]) (.seq (.seq (.reg [⟨⟨some 29,.move (.tmp 10),none⟩,[]⟩,
 ⟨⟨some 30,.unOp .not 4 (.tmp 29),none⟩,[]⟩,⟨⟨some 31,.move (.tmp 30),none⟩,[]⟩,⟨⟨some 32,.move (.tmp 5),some (31,false)⟩,[]⟩,⟨⟨some 33,.call ⟨(.value (.func 86)),#[.tmp 32,(.const (.int .i64 16))],#[64,3]⟩,some (31,false)⟩,[]⟩,⟨⟨some 34,.pick (.tmp 31) (.const (.bool true)) (.tmp 33),none⟩,[]⟩]) (.cond (.tmp 34) (.seq (.reg [⟨⟨some 35,.load 26 (.tmp 6),none⟩,[]⟩,⟨⟨some 36,.move (.tmp 5),none⟩,[]⟩,⟨⟨some 37,.load 26 (.tmp 6),none⟩,[]⟩,⟨⟨some 39,.move (.tmp 5),none⟩,[]⟩,⟨⟨some 40,.load 26 (.tmp 6),none⟩,[]⟩,⟨⟨some 38,.call ⟨(.value (.func 106)),#[.tmp 36,.tmp 37],#[64,26]⟩,none⟩,[⟨some 40,.load 26 (.tmp 6),none⟩,⟨some 35,.load 26 (.tmp 6),none⟩]⟩,⟨⟨some 41,.call ⟨(.value (.func 106)),#[.tmp 39,.tmp 40],#[64,26]⟩,none⟩,[⟨some 35,.load 26 (.tmp 6),none⟩]⟩,⟨⟨none,.store 26 (.tmp 2) (.tmp 35),none⟩,[]⟩,
 ⟨⟨some 3,.assign (.tmp 38),none⟩,[]⟩,⟨⟨some 4,.assign (.tmp 41),none⟩,[]⟩]) .ret) .skip)) (.seq (.reg [⟨⟨some 42,.load 26 (.tmp 6),none⟩,[]⟩,⟨⟨some 43,.move (.tmp 9),none⟩,[]⟩,⟨⟨some 44,.move (.tmp 5),none⟩,[]⟩,⟨⟨some 45,.move (.tmp 9),none⟩,[]⟩,⟨⟨some 46,.call ⟨(.builtin .len),#[.tmp 45],#[32]⟩,none⟩,[]⟩,⟨⟨some 50,.move (.tmp 9),none⟩,[]⟩,⟨⟨some 51,.move (.tmp 5),none⟩,[]⟩,⟨⟨some 52,.move (.tmp 9),none⟩,[]⟩,⟨⟨some 53,.call ⟨(.builtin .len),#[.tmp 52],#[32]⟩,none⟩,[]⟩,⟨⟨some 47,.call ⟨(.value (.func 107)),#[.tmp 44,.tmp 46],#[64,3]⟩,none⟩,[⟨some 42,.load 26 (.tmp 6),none⟩]⟩,⟨⟨some 48,.indexAddr 32 (.tmp 43) (.tmp 47),none⟩,[]⟩,
 ⟨⟨some 49,.load 27 (.tmp 48),none⟩,[]⟩,
  ⟨⟨some 54,.call ⟨(.value (.func 107)),#[.tmp 51,.tmp 53],#[64,3]⟩,none⟩,[⟨some 49,.load 27 (.tmp 48),none⟩,⟨some 42,.load 26 (.tmp 6),none⟩]⟩,
  ⟨⟨some 55,.indexAddr 32 (.tmp 50) (.tmp 54),none⟩,[]⟩,
  ⟨⟨some 56,.load 27 (.tmp 55),none⟩,[]⟩,
  ⟨⟨none,.store 26 (.tmp 2) (.tmp 42),none⟩,[⟨some 56,.load 27 (.tmp 55),none⟩,⟨some 49,.load 27 (.tmp 48),none⟩]⟩,
  ⟨⟨some 3,.assign (.tmp 49),none⟩,[]⟩,
  ⟨⟨some 4,.assign (.tmp 56),none⟩,[]⟩]) .ret)))))))
theorem in42:InT Tryz.prog 42 1 [.cell 2 26,.tmp 3,.tmp 4] cd42:=InT.mk (by kernel_rfl) [(3,[(0,false),(1,false),(3,false),(4,false),(2,true),(5,true),(6,false),(7,false)]),(6,[(0,false),(1,false),(2,false),(4,false),(5,false),(3,true),(6,true),(7,true),(8,false),(9,false)]),(7,[(0,false),(1,false),(2,false),(3,false),(4,false),(8,false),(9,false),(10,false),(11,false),(5,true),(6,false),(7,false),(12,true),(13,false),(14,false),(15,true),(16,false),(17,false)])] Tryz.func42 rfl (by kernel_rfl) (by kernel_rfl) (of_decide_eq_true (by kernel_rfl)) (by kernel_rfl)
end Go.Proofs.YtlcipphiflcaiaaGreat.Ai
namespace Go.Proofs.YtlcipphiflcaiaaGreat.Ai
open Go Go.RowKit
theorem bigGraph_c {H:AH}{o:Nat}{v:Value}{us:List Value}{N:Nat}(h:Cur H o v us N)(hN:N<=100000000) :
  ACalls Tryz.prog 104 [.pointer (some ⟨o,0,none⟩)] H fun r H'=>∃ (n:Int) (w:Value) (ps:List (Int × Int)),r=.agg (List.toArray [.int .i64 n,w])/\MineP 115 H H' w ps/\I64 n/\ps.length<=200/\Sml ps/\Cur H' o v us (N+1000)/\Keeps o H H':=by
 have ho:o<H.length:=by
  obtain ⟨_,_,g,_⟩:=h.cur
  exact at_lt g
 refine in104 rfl ?_
 intro Q hQ
 simp (disch:=omega) only [cd104,alloc_G,SS,eq_self,reduceIte,reduceCtorEq,Nat.reduceEqDiff,Nat.reduceAdd]
 generalize hA:H ++ [AObj.cells [.int .i64 0,.slice none 0 0] 26 false]=A
 have pA:H<+:A:=by rw [<- hA];exact List.prefix_append _ _
 have cA:A[H.length]?=some (.cells [.int .i64 0,.slice none 0 0] 26 false):=by rw [<- hA];exact at_new ..
 have lA:A.length=H.length+1:=by rw [<- hA];simp
 refine CallH.by (someGraph_c (h.pre pA) hN 8 (by omega)) ?_
 rintro _ K ⟨n,w,ps,rfl,hm,hn,hl,hs,hC,hK⟩
 have c1:=hK.2 _ _ (by omega) cA
 have hst:=st_G hm.row c1 rfl n
 simp (disch:=omega) only [hst,SS,eq_self,reduceIte,reduceCtorEq,Nat.reduceEqDiff,Nat.reduceAdd]
 have d4:=at_set (d:=.cells [.int .i64 n,w] 26 false) c1
 have at_:∀ {j:Nat} {y:AObj},j ≠ H.length->K[j]?=some y->(K.set H.length (.cells [.int .i64 n,w] 26 false))[j]?=some y:=fun hj hy=>by rw [List.getElem?_set_ne (fun e=>hj e.symm)];exact hy
 obtain ⟨a,sd,c1',c2,c3⟩:=hC.cur
 refine hQ _ _ _ (end_cell _ _ _ _ _ _ (.agg (List.toArray [.int .i64 n,w])) ?_ rfl ⟨n,w,ps,rfl,?_,hn,hl,hs,⟨⟨a,sd,at_ (by omega) c1',c2,c3⟩,hC.row.mono fun y hy=>at_ ?_ hy,hC.byt,hC.ap,hC.le⟩,⟨by have:=hK.1;simp;omega,fun j y hj hy=>at_ (by have:=at_lt hy;omega) (hK.2 j y hj (pre_at pA hy))⟩⟩)
 ·simp (disch:=omega) only [ld_agg ag26 cs26 d4,SS,eq_self,reduceIte,reduceCtorEq,Nat.reduceEqDiff,Nat.reduceAdd]
 ·rcases hm with z | ⟨q,zs,z1,z2,z3,z4⟩
  ·exact .inl z
  ·exact .inr ⟨q,zs,z1,by omega,at_ (by omega) z3,z4⟩
 ·rcases h.row with q | ⟨o',k',vs',ro',e1,g2,_⟩
  ·rw [q.1]
   show (0:Nat) ≠ H.length
   omega
  ·rw [e1]
   have:=at_lt g2
   show o' ≠ H.length
   omega
theorem DrawCw_c {H:AH}{v:Value}{us:List Value}(h:Byt H v us) :
  ACalls Tryz.prog 95 [v] H fun r H'=>∃ (n s t:Int) (w:Value) (es:List (Int × Int)),r=.tuple (List.toArray [.agg (List.toArray [.int .i64 n,w]),.int .i64 s,.int .i64 t])/\RowP 115 H' w es/\es.length<=200/\I64 n/\Sml es/\H<+:H':=by
 obtain ⟨pv,ev⟩:=h.row.shape
 refine in95 rfl ?_
 intro Q hQ
 have b1:=bld_cur pv us.length us.length
 have b2:=fun H=>box_cur pv us.length us.length H
 rw [<- ev] at b1 b2
 generalize hA:H ++ [AObj.cells [.int .i64 0,.slice none 0 0] 26 false]=A
 have pA:H<+:A:=by rw [<- hA];exact List.prefix_append _ _
 have cA:A[H.length]?=some (.cells [.int .i64 0,.slice none 0 0] 26 false):=by rw [<- hA];exact at_new ..
 have lA:A.length=H.length+1:=by rw [<- hA];simp
 have al:=alloc_G H
 rw [hA] at al
 simp (disch:=omega) only [cd95,al,b1,b2,SS,eq_self,reduceIte,reduceCtorEq,Nat.reduceEqDiff,Nat.reduceAdd]
 generalize hB:A ++ [AObj.cells [v,.int .i64 0,.int .u64 0] 67 false]=B
 have pB:A<+:B:=by rw [<- hB];exact List.prefix_append _ _
 have lB:B.length=A.length+1:=by rw [<- hB];simp
 have hC:Cur B A.length v us 0:=by rw [<- hB];exact (h.pre pA).cur
 have cB:=pre_at pB cA
 refine CallH.by (bigGraph_c hC (by omega)) ?_
 rintro _ C ⟨n,w,es,rfl,hm,hn,hl,hs,hCC,kC⟩
 have cC:=kC.2 _ _ (by omega) cB
 have lC:=kC.1
 have hwo:w=.slice none 0 0∨B.length<=rowO w:=hm.low
 have st1:=st_G hm.row (at_new C (.cells [.int .i64 0,.slice none 0 0] 26 false)) rfl n
 rw [set_new] at st1
 simp (disch:=omega) only [alloc_G,st1,SS,eq_self,reduceIte,reduceCtorEq,Nat.reduceEqDiff,Nat.reduceAdd]
 generalize hD:C ++ [AObj.cells [.int .i64 n,w] 26 false]=D
 have pD:C<+:D:=by rw [<- hD];exact List.prefix_append _ _
 have lD:D.length=C.length+1:=by rw [<- hD];simp
 have gD:D[C.length]?=some (.cells [.int .i64 n,w] 26 false):=by rw [<- hD];exact at_new ..
 have rD:=hm.row.pre pD
 simp (disch:=omega) only [ld_agg ag26 cs26 gD,SS,eq_self,reduceIte,reduceCtorEq,Nat.reduceEqDiff,Nat.reduceAdd]
 refine CallH.by (node_c (hCC.pre pD) (by omega) n rD) ?_
 rintro _ E ⟨⟨s,rfl,_,_⟩,hCE,kE⟩
 have lE:=kE.1
 have gE:=kE.2 _ _ (by omega) gD
 have gDE:E[C.length]?=D[C.length]?:=by rw [gE,gD]
 have rE:RowP 115 E w es:=rowP_keeps rD (hwo.imp id fun q=>by omega) kE
 simp (disch:=omega) only [ld_agg ag26 cs26 gE,gDE,SS,eq_self,reduceIte,reduceCtorEq,Nat.reduceEqDiff,Nat.reduceAdd]
 refine CallH.by (node_c hCE (by omega) n rE) ?_
 rintro _ F ⟨⟨t,rfl,_,_⟩,hCF,kF⟩
 have lF:=kF.1
 have gF:=kF.2 _ _ (by omega) gE
 have gDF:F[C.length]?=D[C.length]?:=by rw [gF,gD]
 have gEF:F[C.length]?=E[C.length]?:=by rw [gF,gE]
 have rF:RowP 115 F w es:=rowP_keeps rE (hwo.imp id fun q=>by omega) kF
 have cF:F[H.length]?=some (.cells [.int .i64 0,.slice none 0 0] 26 false):=kF.2 _ _ (by omega) (kE.2 _ _ (by omega) (pre_at pD cC))
 have hst:=st_G rF cF rfl n
 have d4:=at_set (d:=.cells [.int .i64 n,w] 26 false) cF
 simp (disch:=omega) only [ld_agg ag26 cs26 gF,gDF,gEF,hst,SS,eq_self,reduceIte,reduceCtorEq,Nat.reduceEqDiff,Nat.reduceAdd]
 have at_:∀ {j:Nat} {y:AObj},j ≠ H.length->F[j]?=some y->(F.set H.length (.cells [.int .i64 n,w] 26 false))[j]?=some y:=fun hj hy=>by rw [List.getElem?_set_ne (fun e=>hj e.symm)];exact hy
 refine hQ _ _ _ (end_cell3 _ _ _ _ _ _ _ _ (.agg (List.toArray [.int .i64 n,w])) (.int .i64 s) (.int .i64 t) ?_ rfl ?_ rfl ?_ rfl ⟨n,s,t,w,es,rfl,?_,hl,hn,hs,?_⟩)
 ·simp (disch:=omega) only [ld_agg ag26 cs26 d4,SS,eq_self,reduceIte,reduceCtorEq,Nat.reduceEqDiff,Nat.reduceAdd]
 ·simp (disch:=omega) only [SS,eq_self,reduceIte,reduceCtorEq,Nat.reduceEqDiff,Nat.reduceAdd]
 ·simp (disch:=omega) only [SS,eq_self,reduceIte,reduceCtorEq,Nat.reduceEqDiff,Nat.reduceAdd]
 ·rcases hwo with e | e
  ·exact .inl ⟨e,rD.nilv e⟩
  ·exact rF.mono fun y hy=>at_ (by omega) hy
 ·exact prefix_of fun j y hy=>by
   have hj:=at_lt hy
   exact at_ (by omega) (kF.2 _ _ (by omega) (kE.2 _ _ (by omega) (pre_at pD (kC.2 _ _ (by omega) (pre_at (pA.trans pB) hy)))))
theorem DrawWs_c {H:AH}{v:Value}{us:List Value}(h:Byt H v us) :
  ACalls Tryz.prog 33 [v] H fun r H'=>∃ (n s t:Int) (w:Value) (es:List (Int × Int)),r=.tuple (List.toArray [.agg (List.toArray [.int .i64 n,w]),.int .i64 s,.int .i64 t])/\RowP 115 H' w es/\es.length<=200/\I64 n/\Sml es/\H<+:H':=by
 refine in33 rfl ?_
 intro Q hQ
 have pA:H<+:H ++ [AObj.cells [.int .i64 0,.slice none 0 0] 26 false]:=List.prefix_append _ _
 have cA:=at_new H (.cells [.int .i64 0,.slice none 0 0] 26 false)
 simp (disch:=omega) only [cd33,alloc_G,SS,eq_self,reduceIte,reduceCtorEq,Nat.reduceEqDiff,Nat.reduceAdd]
 refine CallH.by (DrawCw_c (h.pre pA)) ?_
 rintro _ K ⟨n,s,t,w,es,rfl,x1,x2,x3,x4,x9⟩
 have cK:=pre_at x9 cA
 have hk:Keeps H.length K (K.set H.length (.cells [.int .i64 n,w] 26 false)):=⟨by simp,fun j y hj hy=>by rw [List.getElem?_set_ne (fun e=>hj e.symm)];exact hy⟩
 have d1:=at_set (d:=.cells [.int .i64 n,w] 26 false) cK
 have hst:=st_G x1 cK rfl n
 simp (disch:=omega) only [hst,SS,eq_self,reduceIte,reduceCtorEq,Nat.reduceEqDiff,Nat.reduceAdd]
 refine hQ _ _ _ (end_cell3 _ _ _ _ _ _ _ _ (.agg (List.toArray [.int .i64 n,w])) (.int .i64 s) (.int .i64 t) ?_ rfl ?_ rfl ?_ rfl ⟨n,s,t,w,es,rfl,rowP_keeps x1 (rowP_ne x1 cK) hk,x2,x3,x4,prefix_of fun j y hy=>hk.2 j y (by have:=at_lt hy;omega) (pre_at x9 (pre_at pA hy))⟩)
 ·simp (disch:=omega) only [ld_agg ag26 cs26 d1,SS,eq_self,reduceIte,reduceCtorEq,Nat.reduceEqDiff,Nat.reduceAdd]
 ·simp (disch:=omega) only [SS,eq_self,reduceIte,reduceCtorEq,Nat.reduceEqDiff,Nat.reduceAdd]
 ·simp (disch:=omega) only [SS,eq_self,reduceIte,reduceCtorEq,Nat.reduceEqDiff,Nat.reduceAdd]
theorem inl_keep {lo hi o:Nat}{K L:AH}{g:Value}{ls:List (List Int)}(h:InL lo hi 27 3 K g ls)(ho:o<lo)(hk:Keeps o K L):InL lo hi 27 3 L g ls:=by
 rcases h with z | ⟨q,us,z,a1,a2,a3,a4,a5,a6⟩
 ·exact .inl z
 ·refine .inr ⟨q,us,z,a1,a2,hk.2 _ _ (by omega) a3,a4,fun i hi=>⟨?_,(a5 i hi).2⟩,a6⟩
  rcases (a5 i hi).1 with y | ⟨p,zs,y1,y2,y3,y4,y5⟩
  ·exact .inl y
  ·exact .inr ⟨p,zs,y1,y2,y3,hk.2 _ _ (by omega) y4,y5⟩
theorem DrawWw_c {H:AH}{v:Value}{us:List Value}(h:Byt H v us) :
  ACalls Tryz.prog 42 [v] H fun r H'=>DrawR H r H':=by
 obtain ⟨pv,ev⟩:=h.row.shape
 refine in42 rfl ?_
 intro Q hQ
 have b1:=bld_cur pv us.length us.length
 have b2:=fun H=>box_cur pv us.length us.length H
 rw [<- ev] at b1 b2
 generalize hA:H ++ [AObj.cells [.int .i64 0,.slice none 0 0] 26 false]=A
 have pA:H<+:A:=by rw [<- hA];exact List.prefix_append _ _
 have cA:A[H.length]?=some (.cells [.int .i64 0,.slice none 0 0] 26 false):=by rw [<- hA];exact at_new ..
 have lA:A.length=H.length+1:=by rw [<- hA];simp
 have al:=alloc_G H
 rw [hA] at al
 rw [cd42]
 refine cutC (fun s K=>A=K/\s 0=v/\s 2=.pointer (some ⟨H.length,0,none⟩)) (fun c hc=>?_) ?_
 ·simp (disch:=omega) only [al,SS,eq_self,reduceIte,reduceCtorEq,Nat.reduceEqDiff,Nat.reduceAdd]
  exact hc _ _ ⟨rfl,rfl,rfl⟩
 rintro s _ ⟨rfl,s0,s2⟩
 refine cutC (fun s K=>s 2=.pointer (some ⟨H.length,0,none⟩)/\s 5=.pointer (some ⟨A.length,0,none⟩)/\Cur K A.length v us 0/\A<+:K) (fun c hc=>?_) ?_
 ·simp (disch:=omega) only [s0,s2,b1,b2,SS,eq_self,reduceIte,reduceCtorEq,Nat.reduceEqDiff,Nat.reduceAdd]
  exact hc _ _ ⟨s2,rfl,(h.pre pA).cur,List.prefix_append _ _⟩
 clear s0 s2 s
 rintro s B ⟨s2,s5,hC,pB⟩
 have cB:=pre_at pB cA
 have lB:A.length<B.length:=by
  obtain ⟨_,_,g,_⟩:=hC.cur
  exact at_lt g
 refine cutC (fun s K=>∃ (gp:Nat) (n:Int) (w:Value) (es:List (Int × Int)),s 2=.pointer (some ⟨H.length,0,none⟩)/\s 5=.pointer (some ⟨A.length,0,none⟩)/\s 6=.pointer (some ⟨gp,0,none⟩)/\I64 n/\es.length<=200/\Sml es/\SlSt H A.length gp n w es (.slice none 0 0) [] v us 1020 K) (fun c hc=>?_) ?_
 ·simp (disch:=omega) only [s2,s5,SS,eq_self,reduceIte,reduceCtorEq,Nat.reduceEqDiff,Nat.reduceAdd]
  refine CallH.by (bigGraph_c hC (by omega)) ?_
  rintro _ C ⟨n,w,es,rfl,hm,hn,hl,hs,hCC,kC⟩
  have cC:=kC.2 _ _ (by omega) cB
  have lC:=kC.1
  have hwo:w=.slice none 0 0∨B.length<=rowO w:=hm.low
  have st1:=st_G hm.row (at_new C (.cells [.int .i64 0,.slice none 0 0] 26 false)) rfl n
  rw [set_new] at st1
  simp (disch:=omega) only [s2,s5,alloc_G,st1,SS,eq_self,reduceIte,reduceCtorEq,Nat.reduceEqDiff,Nat.reduceAdd]
  have pD:C<+:C ++ [AObj.cells [.int .i64 n,w] 26 false]:=List.prefix_append _ _
  refine hc _ _ ⟨C.length,n,w,es,s2,s5,rfl,hn,hl,hs,lA,pre_at pD cC,at_new ..,by omega,hm.row.pre pD,hwo.imp id fun q=>by omega,.inl ⟨rfl,rfl⟩,.inl rfl,(hCC.pre pD).more (by omega),?_⟩
  exact prefix_of fun j y hy=>pre_at pD (kC.2 j y (by have:=at_lt hy;omega) (pre_at (pA.trans pB) hy))
 clear s2 s5 s cB lB hC pB B
 rintro s B ⟨gp,n,w,es,s2,s5,s6,hn,hl,hs,hD⟩
 have gp2:=hD.gp2
 have oo:A.length<gp:=by omega
 refine cutC (fun s K=>∃ (x y:Int),s 2=.pointer (some ⟨H.length,0,none⟩)/\s 5=.pointer (some ⟨A.length,0,none⟩)/\s 6=.pointer (some ⟨gp,0,none⟩)/\s 7=.int .i64 x/\s 8=.int .i64 y/\SlSt H A.length gp n w es (.slice none 0 0) [] v us 1030 K) (fun c hc=>?_) ?_
 ·simp (disch:=omega) only [s2,s5,s6,ld_agg ag26 cs26 hD.cg,SS,eq_self,reduceIte,reduceCtorEq,Nat.reduceEqDiff,Nat.reduceAdd]
  refine CallH.by (node_c hD.cr (by omega) n hD.rw_) ?_
  rintro _ C ⟨⟨x,rfl,_,_⟩,hCC,kC⟩
  have hE:=hD.keeps kC hCC
  have eC:C[gp]?=B[gp]?:=by rw [hE.cg,hD.cg]
  simp (disch:=omega) only [s6,eC,ld_agg ag26 cs26 hE.cg,SS,eq_self,reduceIte,reduceCtorEq,Nat.reduceEqDiff,Nat.reduceAdd]
  refine CallH.by (node_c hE.cr (by omega) n hE.rw_) ?_
  rintro _ D ⟨⟨y,rfl,_,_⟩,hCD,kD⟩
  simp (disch:=omega) only [s2,s5,s6,SS,eq_self,reduceIte,reduceCtorEq,Nat.reduceEqDiff,Nat.reduceAdd]
  exact hc _ _ ⟨x,y,s2,s5,s6,rfl,rfl,(hE.keeps kD hCD).more (by omega)⟩
 clear s2 s5 s6 s hD B
 rintro s B ⟨x,y,s2,s5,s6,s7,s8,hD⟩
 have fin:∀ (s:Sl) (K:AH) (a b:Value) (p q:List Int) (N:Nat),s 2=.pointer (some ⟨H.length,0,none⟩)->s 3=a->s 4=b->Row 3 K b q->(b=.slice none 0 0∨H.length+2<=rowO b)->LsOk p->LsOk q->SlSt H A.length gp n w es a p v us N K->Q .ret s (K.set H.length (.cells [.int .i64 n,w] 26 false)):=by
  intro s K a b p q N s2 s3 s4 hb lb kp kq hD
  obtain ⟨d1,d2,d3,d4,d5⟩:=hD.fin hb lb
  refine hQ _ _ _ (end_cell3 _ _ _ _ _ _ _ _ (.agg (List.toArray [.int .i64 n,w])) a b ?_ rfl s3 hD.ra.tup s4 hb.tup ⟨n,w,a,b,es,p,q,rfl,d2,hl,hn,hs,d3,kp,d4,kq,d5⟩)
  simp (disch:=omega) only [s2,ld_agg ag26 cs26 d1,SS,eq_self,reduceIte,reduceCtorEq,Nat.reduceEqDiff,Nat.reduceAdd]
 have lBo:A.length<B.length:=by
  obtain ⟨_,_,g,_⟩:=hD.cr.cur
  exact at_lt g
 have lBg:=at_lt hD.cg
 have low:∀ {K L:AH} {b:Value} {q:List Int},H.length+2<=K.length->Own 3 K L b q->b=.slice none 0 0∨H.length+2<=rowO b:=fun {K L b q} hK h=>by
  rcases h with z | ⟨oo,q1,q2,q3⟩
  ·exact .inl z.1
  ·right;rw [q1];show H.length+2<=oo;omega
 refine cutC (fun s K=>∃ (g:Value),s 2=.pointer (some ⟨H.length,0,none⟩)/\s 5=.pointer (some ⟨A.length,0,none⟩)/\s 6=.pointer (some ⟨gp,0,none⟩)/\s 9=g/\s 10=.bool (decide (0<(wsL n es x y).length))/\InL B.length K.length 27 3 K g (wsL n es x y)/\B.length<=K.length/\SlSt H A.length gp n w es (.slice none 0 0) [] v us 1030 K) (fun c hc=>?_) ?_
 ·simp (disch:=omega) only [s2,s5,s6,s7,s8,ld_agg ag26 cs26 hD.cg,SS,eq_self,reduceIte,reduceCtorEq,Nat.reduceEqDiff,Nat.reduceAdd]
  refine CallH.by (SwS_c n w es x y B hD.rw_ (by omega)) ?_
  rintro _ K ⟨⟨g,rfl,hin⟩,pK⟩
  simp (disch:=omega) only [s2,s5,s6,SS,eq_self,reduceIte,reduceCtorEq,Nat.reduceEqDiff,Nat.reduceAdd]
  exact hc _ _ ⟨g,s2,s5,s6,rfl,rfl,hin,pK.length_le,hD.pre pK⟩
 have lB2:H.length+2<=B.length:=by omega
 clear s2 s5 s6 s7 s8 s hD
 rintro s K ⟨g,s2,s5,s6,s9,s10,hin,lK,hD⟩
 obtain ⟨_,w9,⟨k,hk8,hwk⟩,w8⟩:=wsL_ok (n:=n) (es:=es) (s:=x) (t:=y)
 generalize wsL n es x y=W at *
 have nds:∀ (K:AH) (N:Nat),N<=2000->B.length<=K.length->SlSt H A.length gp n w es (.slice none 0 0) [] v us N K->ACalls Tryz.prog 106 [.pointer (some ⟨A.length,0,none⟩),.agg (List.toArray [.int .i64 n,w])] K fun r L=>∃ (p:List Int),LsOk p/\Own 3 K L r p/\SlSt H A.length gp n w es (.slice none 0 0) [] v us (N+4) L/\Keeps A.length K L:=fun K N hN hBK hD=>(nodes_c hD.cr (by omega) n hD.rw_).mono fun r L hr=>by
  obtain ⟨p,h1,h2,h3,h4,h5⟩:=hr
  exact ⟨p,⟨by omega,fun y hy=>by have:=h3 y hy;exact ⟨by omega,by omega⟩⟩,h1,hD.keeps h5 h4,h5⟩
 by_cases hok:0<W.length
 rotate_left
 ·simp (disch:=omega) only [s2,s5,s6,s9,s10,decide_eq_false hok,ld_agg ag26 cs26 hD.cg,SS,eq_self,reduceIte,reduceCtorEq,Nat.reduceEqDiff,Nat.reduceAdd]
  refine CallH.by (nds K 1030 (by omega) lK hD) ?_
  rintro a L ⟨p,kp,ha,hE,kE⟩
  have eE:L[gp]?=K[gp]?:=by rw [hE.cg,hD.cg]
  simp (disch:=omega) only [s6,eE,ld_agg ag26 cs26 hE.cg,SS,eq_self,reduceIte,reduceCtorEq,Nat.reduceEqDiff,Nat.reduceAdd]
  refine CallH.by (nds L 1034 (by omega) (by have:=kE.1;omega) hE) ?_
  rintro b M ⟨q,kq,hb,hF,kF⟩
  have ta:=ha.row.tup
  have tb:=hb.row.tup
  have eF:M[gp]?=K[gp]?:=by rw [hF.cg,hD.cg]
  have eF2:M[gp]?=L[gp]?:=by rw [hF.cg,hE.cg]
  have hst:=st_G hF.rw_ hF.c0 rfl n
  have la:=low (by omega) ha
  have lb:=low (by have:=kE.1;omega) hb
  have haM:=row_keeps ha.row (la.imp id fun q=>by omega) kF
  simp (disch:=omega) only [s2,s5,s6,eF,eF2,ta,tb,ld_agg ag26 cs26 hF.cg,hst,SS,eq_self,reduceIte,reduceCtorEq,Nat.reduceEqDiff,Nat.reduceAdd]
  refine fin _ M a b p q (1034+4) ?_ ?_ ?_ hb.row lb kp kq { hF with ra:=haM,la:=la } <;> simp (disch:=omega) only [s2,SS,eq_self,reduceIte,reduceCtorEq,Nat.reduceEqDiff,Nat.reduceAdd]
 simp (disch:=omega) only [s2,s5,s6,s9,s10,decide_eq_true hok,SS,eq_self,reduceIte,reduceCtorEq,Nat.reduceEqDiff,Nat.reduceAdd]
 refine CallH.by (one_c hD.cr (by omega) 16 (by omega)) ?_
 rintro _ K2 ⟨⟨bb,rfl⟩,hC2,o2⟩
 have hD2:=hD.keeps o2.keeps hC2
 have hin2:=inl_keep hin (by omega) o2.keeps
 have lK2:=o2.1
 simp (disch:=omega) only [SS,eq_self,reduceIte,reduceCtorEq,Nat.reduceEqDiff,Nat.reduceAdd]
 cases bb with
 | true =>
  refine brH.intro (fun _=>?_) (fun q=>by cases q)
  simp (disch:=omega) only [s2,s5,s6,ld_agg ag26 cs26 hD2.cg,SS,eq_self,reduceIte,reduceCtorEq,Nat.reduceEqDiff,Nat.reduceAdd]
  refine CallH.by (nds K2 1031 (by omega) (by omega) hD2) ?_
  rintro a L ⟨p,kp,ha,hE,kE⟩
  have eE:L[gp]?=K2[gp]?:=by rw [hE.cg,hD2.cg]
  simp (disch:=omega) only [s6,eE,ld_agg ag26 cs26 hE.cg,SS,eq_self,reduceIte,reduceCtorEq,Nat.reduceEqDiff,Nat.reduceAdd]
  refine CallH.by (nds L 1035 (by omega) (by have:=kE.1;omega) hE) ?_
  rintro b M ⟨q,kq,hb,hF,kF⟩
  have ta:=ha.row.tup
  have tb:=hb.row.tup
  have eF:M[gp]?=K2[gp]?:=by rw [hF.cg,hD2.cg]
  have eF2:M[gp]?=L[gp]?:=by rw [hF.cg,hE.cg]
  have hst:=st_G hF.rw_ hF.c0 rfl n
  have la:=low (by omega) ha
  have lb:=low (by have:=kE.1;omega) hb
  have haM:=row_keeps ha.row (la.imp id fun q=>by omega) kF
  simp (disch:=omega) only [s2,s5,s6,eF,eF2,ta,tb,ld_agg ag26 cs26 hF.cg,hst,SS,eq_self,reduceIte,reduceCtorEq,Nat.reduceEqDiff,Nat.reduceAdd]
  refine fin _ M a b p q (1035+4) ?_ ?_ ?_ hb.row lb kp kq { hF with ra:=haM,la:=la } <;> simp (disch:=omega) only [s2,SS,eq_self,reduceIte,reduceCtorEq,Nat.reduceEqDiff,Nat.reduceAdd]
 | false =>
  refine brH.intro (fun q=>by cases q) (fun _=>?_)
  obtain ⟨vs,r1,r2,r3⟩:=hin2.parts
  have hgo:g=.slice none 0 0∨rowO g ≠ A.length:=by
   rcases hin2 with z | ⟨q,us',z,a1,a2,_⟩
   ·exact .inl z.1
   ·right;rw [z];show q ≠ A.length;omega
  have hgn:rowO g ≠ A.length/\rowO g ≠ H.length:=by
   rcases hin2 with z | ⟨q,us',z,a1,a2,_⟩
   ·rw [z.2] at hok;exact absurd hok (Nat.lt_irrefl _)
   ·rw [z];exact ⟨by show q ≠ A.length;omega,by show q ≠ H.length;omega⟩
  have lvs:∀ i,i<W.length->vs.getD i undef=.slice none 0 0∨B.length<=rowO (vs.getD i undef):=fun i hi=>by
   rcases r3 i hi with z | ⟨q,zs,z,a1,_⟩
   ·exact .inl z.1
   ·right;rw [z];exact a1
  have lkw:∀ i,i<W.length->LsOk (W.getD i []):=fun i hi=>by
   have hm:W.getD i [] ∈ W:=by simp [hi]
   have e1:=hwk _ hm
   exact ⟨by omega,fun y hy=>by have:=w8 _ hm y hy;exact ⟨by omega,by omega⟩⟩
  simp (disch:=omega) only [s2,s5,s6,s9,ld_agg ag26 cs26 hD2.cg,r1.len Tryz.underlying32,r2,SS,eq_self,reduceIte,reduceCtorEq,Nat.reduceEqDiff,Nat.reduceAdd]
  refine CallH.by (pick_c hD2.cr (by omega) (W.length:Int) (by omega)) ?_
  rintro _ L ⟨⟨i,rfl,hi⟩,hCL,oL⟩
  have hi':i<W.length:=by omega
  have hE:=hD2.keeps oL.keeps hCL
  have eE:L[gp]?=K2[gp]?:=by rw [hE.cg,hD2.cg]
  have lL:=oL.1
  have r1L:=r1.mono fun y hy=>oL.2 _ _ hgn.1 hy
  have hcL:=r1L.cell (show i<vs.length by omega)
  have ti:=(r3 i hi').row.1.tup
  simp (disch:=omega) only [s2,s5,s6,s9,eE,ld_agg ag26 cs26 hE.cg,r1L.len Tryz.underlying32,r1L.ix Tryz.underlying32 cs27,r2,Int.toNat_natCast,hcL,SS,eq_self,reduceIte,reduceCtorEq,Nat.reduceEqDiff,Nat.reduceAdd]
  refine CallH.by (pick_c hE.cr (by omega) (W.length:Int) (by omega)) ?_
  rintro _ M ⟨⟨j,rfl,hj⟩,hCM,oM⟩
  have hj':j<W.length:=by omega
  have hF:=hE.keeps oM.keeps hCM
  have eF:M[gp]?=K2[gp]?:=by rw [hF.cg,hD2.cg]
  have eF2:M[gp]?=L[gp]?:=by rw [hF.cg,hE.cg]
  have r1M:=r1L.mono fun y hy=>oM.2 _ _ hgn.1 hy
  have hcM:=r1M.cell (show i<vs.length by omega)
  have hcM2:=r1M.cell (show j<vs.length by omega)
  have tj:=(r3 j hj').row.1.tup
  have kLM:Keeps A.length K2 M:=oL.keeps.trans oM.keeps
  have hra:=row_keeps (r3 i hi').row.1 ((lvs i hi').imp id fun q=>by omega) kLM
  have hrb:=row_keeps (r3 j hj').row.1 ((lvs j hj').imp id fun q=>by omega) kLM
  have hst:=st_G hF.rw_ hF.c0 rfl n
  have hS:∀ {X:AObj},RowV 27 (M.set H.length X) g vs:=fun {X}=>r1M.mono fun y hy=>by rw [List.getElem?_set_ne (fun e=>hgn.2 e.symm)];exact hy
  have hcS:=(hS (X:=.cells [.int .i64 n,w] 26 false)).cell (show i<vs.length by omega)
  have hcS2:=(hS (X:=.cells [.int .i64 n,w] 26 false)).cell (show j<vs.length by omega)
  simp (disch:=omega) only [s2,s5,s6,s9,eF,eF2,ti,tj,ld_agg ag26 cs26 hF.cg,r1M.len Tryz.underlying32,r1M.ix Tryz.underlying32 cs27,r2,Int.toNat_natCast,hcM,hcM2,hst,hcS,hcS2,SS,eq_self,reduceIte,reduceCtorEq,Nat.reduceEqDiff,Nat.reduceAdd]
  refine fin _ M (vs.getD i undef) (vs.getD j undef) (W.getD i []) (W.getD j []) (1030+1+1+1) ?_ ?_ ?_ hrb ((lvs j hj').imp id fun q=>by omega) (lkw i hi') (lkw j hj') { hF with ra:=hra,la:=(lvs i hi').imp id fun q=>by omega } <;> simp (disch:=omega) only [s2,SS,eq_self,reduceIte,reduceCtorEq,Nat.reduceEqDiff,Nat.reduceAdd]
def cd40:Cd:=(.seq (.reg [⟨⟨some 3,.box 26 (.tmp 0),none⟩,[]⟩,⟨⟨some 6,.assign (.const (.slice none 0 0)),none⟩,[]⟩,⟨⟨some 7,.assign (.const (.bool false)),none⟩,[]⟩]) (.seq (.seq (.reg [⟨⟨some 17,.load 26 (.tmp 3),none⟩,[]⟩,⟨⟨some 18,.move (.tmp 1),none⟩,[]⟩,⟨⟨some 19,.move (.tmp 2),none⟩,[]⟩,⟨⟨some 20,.call ⟨(.value (.func 100)),#[.tmp 17,.tmp 18,.tmp 19],#[26,3,3]⟩,none⟩,[]⟩,⟨⟨some 21,.unOp .not 4 (.tmp 20),none⟩,[]⟩]) (.cond (.tmp 21) (.seq (.reg [⟨⟨some 6,.assign (.const (.slice none 0 0)),none⟩,[]⟩,⟨⟨some 7,.assign (.const (.bool false)),none⟩,[]⟩]) .ret) .skip)) (.seq (.reg [⟨⟨some 22,.load 26 (.tmp 3),none⟩,[]⟩,⟨⟨some 23,.move (.tmp 1),none⟩,[]⟩,⟨⟨some 24,.move (.tmp 2),none⟩,[]⟩,⟨⟨some 25,.call ⟨(.value (.func 101)),#[.tmp 22,.tmp 23,.tmp 24],#[26,3,3]⟩,none⟩,[]⟩,⟨⟨some 8,.assign (.tmp 25),none⟩,[]⟩]) (.seq (.seq (.reg [⟨⟨some 26,.move (.tmp 8),none⟩,[]⟩,
 ⟨⟨some 27,.call ⟨(.builtin .len),#[.tmp 26],#[32]⟩,none⟩,[]⟩,⟨⟨some 28,.binOp .eql 3 (.tmp 27) (.const (.int .i64 0)) 3,none⟩,[]⟩]) (.cond (.tmp 28) (.seq (.reg [⟨⟨some 6,.assign (.const (.slice none 0 0)),none⟩,[]⟩,⟨⟨some 7,.assign (.const (.bool true)),none⟩,[]⟩]) .ret) .skip)) (.seq (.reg [⟨⟨some 29,.move (.tmp 8),none⟩,[]⟩,⟨⟨some 30,.indexAddr 32 (.tmp 29) (.const (.int .i64 0)),none⟩,[]⟩,⟨⟨some 31,.load 27 (.tmp 30),none⟩,[]⟩,⟨⟨some 32,.call ⟨(.builtin .len),#[.tmp 31],#[27]⟩,none⟩,[]⟩,⟨⟨some 33,.makeSlice 110 (.tmp 32) (.tmp 32),none⟩,[]⟩,⟨⟨some 9,.assign (.tmp 33),none⟩,[]⟩]) (.seq (.seq (.reg [⟨⟨some 34,.move (.tmp 8),none⟩,[]⟩,⟨⟨some 35,.call ⟨(.builtin .len),#[.tmp 34],#[32]⟩,none⟩,[]⟩,⟨⟨some 36,.move (.const (.int .i64 0)),none⟩,[]⟩]) (.block 0 (.loop (.seq (.reg [⟨⟨some 37,.binOp .lss 3 (.tmp 36) (.tmp 35) 3,none⟩,[]⟩]) (.seq (.cond (.tmp 37) .skip (.exit 0)) (.seq (.block 1 (.seq (.reg [⟨⟨some 38,.indexAddr 32 (.tmp 34) (.tmp 36),none⟩,[]⟩,⟨⟨some 39,.load 27 (.tmp 38),none⟩,[]⟩,⟨⟨some 11,.assign (.tmp 39),none⟩,[]⟩]) (.seq (.reg [⟨⟨some 40,.move (.tmp 11),none⟩,[]⟩,
 ⟨⟨some 41,.call ⟨(.builtin .len),#[.tmp 40],#[27]⟩,none⟩,[]⟩,⟨⟨some 42,.move (.const (.int .i64 0)),none⟩,[]⟩]) (.block 2 (.loop (.seq (.reg [⟨⟨some 43,.binOp .lss 3 (.tmp 42) (.tmp 41) 3,none⟩,[]⟩]) (.seq (.cond (.tmp 43) .skip (.exit 2)) (.seq (.block 3 (.seq (.reg [⟨⟨some 44,.move (.tmp 42),none⟩,[]⟩,⟨⟨some 45,.indexAddr 27 (.tmp 40) (.tmp 42),none⟩,[]⟩,⟨⟨some 46,.load 3 (.tmp 45),none⟩,[]⟩,⟨⟨some 12,.assign (.tmp 44),none⟩,[]⟩,⟨⟨some 13,.assign (.tmp 46),none⟩,[]⟩]) (.reg [⟨⟨some 47,.move (.tmp 9),none⟩,[]⟩,⟨⟨some 48,.move (.tmp 12),none⟩,[]⟩,⟨⟨some 49,.indexAddr 110 (.tmp 47) (.tmp 48),none⟩,[]⟩,⟨⟨some 50,.load 95 (.tmp 49),none⟩,[]⟩,⟨⟨some 51,.move (.tmp 13),none⟩,[]⟩,⟨⟨some 52,.binOp .shl 95 (.const (.int .u64 1)) (.tmp 51) 3,none⟩,[]⟩,⟨⟨some 53,.binOp .or 95 (.tmp 50) (.tmp 52) 95,none⟩,[]⟩,
 ⟨⟨some 54,.indexAddr 110 (.tmp 47) (.tmp 48),none⟩,[]⟩,⟨⟨none,.store 95 (.tmp 54) (.tmp 53),none⟩,[]⟩]))) (.reg [⟨⟨some 55,.binOp .add 3 (.tmp 42) (.const (.int .i64 1)) 3,none⟩,[]⟩,⟨⟨some 42,.move (.tmp 55),none⟩,[]⟩]))))))))) (.reg [⟨⟨some 56,.binOp .add 3 (.tmp 36) (.const (.int .i64 1)) 3,none⟩,[]⟩,⟨⟨some 36,.move (.tmp 56),none⟩,[]⟩]))))))) (.seq (.reg [⟨⟨some 57,.buildSlice 32 0 #[],none⟩,[]⟩,⟨⟨some 14,.assign (.tmp 57),none⟩,[]⟩]) (.seq (.seq (.reg [⟨⟨some 58,.move (.tmp 9),none⟩,[]⟩,⟨⟨some 59,.call ⟨(.builtin .len),#[.tmp 58],#[110]⟩,none⟩,[]⟩,⟨⟨some 60,.move (.const (.int .i64 0)),none⟩,[]⟩]) (.block 4 (.loop (.seq (.reg [⟨⟨some 61,.binOp .lss 3 (.tmp 60) (.tmp 59) 3,none⟩,[]⟩]) (.seq (.cond (.tmp 61) .skip (.exit 4)) (.seq (.block 5 (.seq (.reg [⟨⟨some 62,.indexAddr 110 (.tmp 58) (.tmp 60),none⟩,[]⟩,⟨⟨some 63,.load 95 (.tmp 62),none⟩,[]⟩,⟨⟨some 16,.assign (.tmp 63),none⟩,[]⟩]) (.reg [⟨⟨some 64,.move (.tmp 14),none⟩,[]⟩,⟨⟨some 65,.move (.tmp 16),none⟩,[]⟩,⟨⟨some 66,.call ⟨(.value (.func 82)),#[.tmp 65],#[95]⟩,none⟩,[]⟩,⟨⟨some 67,.buildSlice 32 1 #[(0,.tmp 66)],none⟩,[]⟩,
 ⟨⟨some 68,.call ⟨(.builtin .append),#[.tmp 64,.tmp 67],#[32,32]⟩,none⟩,[]⟩,
  ⟨⟨some 14,.assign (.tmp 68),none⟩,[]⟩]))) (.reg [⟨⟨some 69,.binOp .add 3 (.tmp 60) (.const (.int .i64 1)) 3,none⟩,[]⟩,
  ⟨⟨some 60,.move (.tmp 69),none⟩,[]⟩]))))))) (.seq (.reg [⟨⟨some 70,.move (.tmp 14),none⟩,[]⟩,
  ⟨⟨some 6,.assign (.tmp 70),none⟩,[]⟩,
  ⟨⟨some 7,.assign (.const (.bool true)),none⟩,[]⟩]) .ret)))))))))
theorem in40:InT Tryz.prog 40 3 [.tmp 6,.tmp 7] cd40:=InT.mk (by kernel_rfl) [(13,[(0,false),(1,false),(2,false),(3,false),(4,false),(5,false),(6,false),(7,false),(8,true)])] Tryz.func40 rfl (by kernel_rfl) (by kernel_rfl) (of_decide_eq_true (by kernel_rfl)) (by kernel_rfl)
def cd41:Cd:=(.seq (.reg [⟨⟨some 3,.box 26 (.tmp 0),none⟩,[]⟩,⟨⟨some 6,.assign (.const (.slice none 0 0)),none⟩,[]⟩,⟨⟨some 7,.assign (.const (.bool false)),none⟩,[]⟩]) (.seq (.reg [⟨⟨some 14,.buildSlice 32 0 #[],none⟩,[]⟩,⟨⟨some 8,.assign (.tmp 14),none⟩,[]⟩]) (.seq (.seq (.reg [⟨⟨some 15,.load 26 (.tmp 3),none⟩,[]⟩,⟨⟨some 16,.move (.tmp 1),none⟩,[]⟩,⟨⟨some 17,.move (.tmp 2),none⟩,[]⟩,⟨⟨some 18,.call ⟨(.value (.func 97)),#[.tmp 15,.tmp 16,.tmp 17],#[26,3,3]⟩,none⟩,[]⟩,⟨⟨some 19,.unOp .not 4 (.tmp 18),none⟩,[]⟩]) (.cond (.tmp 19) (.seq (.reg [⟨⟨some 20,.move (.tmp 8),none⟩,[]⟩,⟨⟨some 6,.assign (.tmp 20),none⟩,[]⟩,⟨⟨some 7,.assign (.const (.bool false)),none⟩,[]⟩]) .ret) .skip)) (.seq (.reg [⟨⟨some 21,.load 26 (.tmp 3),none⟩,[]⟩,⟨⟨some 22,.move (.tmp 1),none⟩,[]⟩,⟨⟨some 24,.load 26 (.tmp 3),none⟩,[]⟩,
 ⟨⟨some 25,.move (.tmp 2),none⟩,[]⟩,⟨⟨some 23,.call ⟨(.value (.func 84)),#[.tmp 21,.tmp 22],#[26,3]⟩,none⟩,[⟨some 24,.load 26 (.tmp 3),none⟩]⟩,⟨⟨some 26,.call ⟨(.value (.func 84)),#[.tmp 24,.tmp 25],#[26,3]⟩,none⟩,[]⟩,⟨⟨some 9,.assign (.tmp 23),none⟩,[]⟩,⟨⟨some 10,.assign (.tmp 26),none⟩,[]⟩]) (.seq (.seq (.reg [⟨⟨some 11,.assign (.const (.int .i64 0)),none⟩,[]⟩]) (.block 0 (.loop (.seq (.seq (.reg [⟨⟨some 27,.move (.tmp 11),none⟩,[]⟩,⟨⟨some 28,.move (.tmp 9),none⟩,[]⟩,⟨⟨some 29,.move (.tmp 2),none⟩,[]⟩,⟨⟨some 30,.indexAddr 27 (.tmp 28) (.tmp 29),none⟩,[]⟩,⟨⟨some 31,.load 3 (.tmp 30),none⟩,[]⟩,⟨⟨some 32,.binOp .leq 3 (.tmp 27) (.tmp 31) 3,none⟩,[]⟩]) (.cond (.tmp 32) .skip (.exit 0))) (.seq (.block 1 (.seq (.reg [⟨⟨some 35,.buildSlice 27 0 #[],none⟩,[]⟩,⟨⟨some 12,.assign (.tmp 35),none⟩,[]⟩]) (.seq (.seq (.reg [⟨⟨some 13,.assign (.const (.int .i64 0)),none⟩,[]⟩]) (.block 2 (.loop (.seq (.seq (.reg [⟨⟨some 36,.move (.tmp 13),none⟩,[]⟩,⟨⟨some 37,.fieldAddr 26 (.tmp 3) 0,none⟩,[]⟩,
 ⟨⟨some 38,.load 3 (.tmp 37),none⟩,[]⟩,⟨⟨some 39,.binOp .lss 3 (.tmp 36) (.tmp 38) 3,none⟩,[]⟩]) (.cond (.tmp 39) .skip (.exit 2))) (.seq (.block 3 (.seq (.reg [⟨⟨some 42,.move (.tmp 9),none⟩,[]⟩,⟨⟨some 43,.move (.tmp 13),none⟩,[]⟩,⟨⟨some 44,.indexAddr 27 (.tmp 42) (.tmp 43),none⟩,[]⟩,⟨⟨some 45,.load 3 (.tmp 44),none⟩,[]⟩,⟨⟨some 46,.move (.tmp 11),none⟩,[]⟩,⟨⟨some 47,.binOp .eql 3 (.tmp 45) (.tmp 46) 3,none⟩,[]⟩,⟨⟨some 48,.move (.tmp 47),none⟩,[]⟩,⟨⟨some 49,.move (.tmp 10),some (48,true)⟩,[]⟩,⟨⟨some 50,.move (.tmp 13),some (48,true)⟩,[]⟩,⟨⟨some 51,.indexAddr 27 (.tmp 49) (.tmp 50),some (48,true)⟩,[]⟩,⟨⟨some 52,.load 3 (.tmp 51),some (48,true)⟩,[]⟩,
 ⟨⟨some 53,.move (.tmp 9),some (48,true)⟩,[]⟩,⟨⟨some 54,.move (.tmp 2),some (48,true)⟩,[]⟩,⟨⟨some 55,.indexAddr 27 (.tmp 53) (.tmp 54),some (48,true)⟩,[]⟩,⟨⟨some 56,.load 3 (.tmp 55),some (48,true)⟩,[]⟩,⟨⟨some 57,.move (.tmp 11),some (48,true)⟩,[]⟩,⟨⟨some 58,.binOp .sub 3 (.tmp 56) (.tmp 57) 3,some (48,true)⟩,[]⟩,⟨⟨some 59,.binOp .eql 3 (.tmp 52) (.tmp 58) 3,some (48,true)⟩,[]⟩,⟨⟨some 60,.pick (.tmp 48) (.tmp 59) (.const (.bool false)),none⟩,[]⟩]) (.cond (.tmp 60) (.reg [⟨⟨some 61,.move (.tmp 12),none⟩,[]⟩,⟨⟨some 62,.move (.tmp 13),none⟩,[]⟩,⟨⟨some 63,.buildSlice 27 1 #[(0,.tmp 62)],none⟩,[]⟩,⟨⟨some 64,.call ⟨(.builtin .append),#[.tmp 61,.tmp 63],#[27,27]⟩,none⟩,[]⟩,⟨⟨some 12,.assign (.tmp 64),none⟩,[]⟩]) .skip))) (.reg [⟨⟨some 40,.move (.tmp 13),none⟩,[]⟩,
 ⟨⟨some 41,.binOp .add 3 (.tmp 40) (.const (.int .i64 1)) 3,none⟩,[]⟩,
  ⟨⟨some 13,.assign (.tmp 41),none⟩,[]⟩])))))) (.reg [⟨⟨some 65,.move (.tmp 8),none⟩,[]⟩,
  ⟨⟨some 66,.move (.tmp 12),none⟩,[]⟩,
  ⟨⟨some 67,.buildSlice 32 1 #[(0,.tmp 66)],none⟩,[]⟩,
  ⟨⟨some 68,.call ⟨(.builtin .append),#[.tmp 65,.tmp 67],#[32,32]⟩,none⟩,[]⟩,
  ⟨⟨some 8,.assign (.tmp 68),none⟩,[]⟩])))) (.reg [⟨⟨some 33,.move (.tmp 11),none⟩,[]⟩,
  ⟨⟨some 34,.binOp .add 3 (.tmp 33) (.const (.int .i64 1)) 3,none⟩,[]⟩,
  ⟨⟨some 11,.assign (.tmp 34),none⟩,[]⟩])))))) (.seq (.reg [⟨⟨some 69,.move (.tmp 8),none⟩,[]⟩,
  ⟨⟨some 6,.assign (.tmp 69),none⟩,[]⟩,
  ⟨⟨some 7,.assign (.const (.bool true)),none⟩,[]⟩]) .ret))))))
theorem in41:InT Tryz.prog 41 3 [.tmp 6,.tmp 7] cd41:=InT.mk (by kernel_rfl) [(4,[(0,false),(1,false),(3,false),(4,false),(2,true),(5,true),(6,false),(7,false)]),(12,[(0,false),(1,false),(2,false),(3,false),(4,false),(5,false),(6,false),(7,false),(8,false),(9,false),(10,false),(11,false),(12,false),(13,false),(14,false),(15,false),(16,false),(17,false),(18,false)])] Tryz.func41 rfl (by kernel_rfl) (by kernel_rfl) (of_decide_eq_true (by kernel_rfl)) (by kernel_rfl)
end Go.Proofs.YtlcipphiflcaiaaGreat.Ai
namespace Go.Proofs.YtlcipphiflcaiaaGreat.Ai
open Go Go.RowKit
def BagsOk (ws:List Value)(D:Nat)(ls:List (List Int))(w:List Int)(j:Nat):Prop:=ws.length=D/\∀ d,d<D->∃ b:Nat,ws.getD d undef=.int .u64 (b:Int)/\BagI b (colL ls d ++ if d<j then [w.getD d 0] else [])
theorem BagsOk.next {ws:List Value}{D:Nat}{ls:List (List Int)}{w:List Int}(h:BagsOk ws D ls w D):BagsOk ws D (ls ++ [w]) [] 0:=by
 refine ⟨h.1,fun d hd=>?_⟩
 obtain ⟨b,h1,h2⟩:=h.2 d hd
 refine ⟨b,h1,?_⟩
 rw [if_pos hd] at h2
 rw [if_neg (Nat.not_lt_zero d),List.append_nil]
 unfold colL at h2 ⊢
 rw [List.map_append]
 exact h2
theorem BagsOk.step {ws:List Value}{D:Nat}{ls:List (List Int)}{w:List Int}{j:Nat}(h:BagsOk ws D ls w j)(hj:j<D){x b:Nat}(hx:w.getD j 0=x)(hx8:x<32)(hb:ws.getD j undef=.int .u64 (b:Int))(hbb:BagI b (colL ls j)):BagsOk (ws.set j (.int .u64 ((b ||| 2 ^ x:Nat):Int))) D ls w (j+1):=by
 refine ⟨by rw [List.length_set];exact h.1,fun d hd=>?_⟩
 have hl:=h.1
 by_cases e:d=j
 ·subst e
  refine ⟨b ||| 2 ^ x,by simp [hl,hd],?_⟩
  rw [if_pos (by omega),hx]
  exact hbb.or hx8
 ·obtain ⟨b',h1,h2⟩:=h.2 d hd
  refine ⟨b',?_,?_⟩
  ·rw [List.getD_eq_getElem?_getD,List.getElem?_set_ne (fun q=>e q.symm),<- List.getD_eq_getElem?_getD];exact h1
  ·have:(d<j+1)↔d<j:=by omega
   simp only [this]
   exact h2
theorem LoI_c (n:Int)(v:Value)(es:List (Int × Int))(s t:Int)(H:AH)(hr:RowP 115 H v es)(hlen:es.length<=1099511627776) :
  ACalls Tryz.prog 40 [.agg (List.toArray [.int .i64 n,v]),.int .i64 s,.int .i64 t] H fun r H'=>(∃ g,r=.tuple (List.toArray [g,.bool (decide (WsOk n es s t))])/\InL H.length H'.length 27 3 H' g (layL n es s t))/\H<+:H':=by
 refine in40 rfl ?_
 intro Q hQ
 simp (disch:=omega) only [cd40,hr.boxG,SS,eq_self,reduceIte,reduceCtorEq,Nat.reduceEqDiff,Nat.reduceAdd]
 generalize hA:H ++ [AObj.cells [.int .i64 n,v] 26 false]=A
 have pA:H<+:A:=by rw [<- hA];exact List.prefix_append _ _
 have cA:A[H.length]?=some (.cells [.int .i64 n,v] 26 false):=by rw [<- hA];exact at_new ..
 have rA:=hr.pre pA
 simp (disch:=omega) only [ld_agg ag26 cs26 cA,SS,eq_self,reduceIte,reduceCtorEq,Nat.reduceEqDiff,Nat.reduceAdd]
 refine CallH.by (isTwo_c n v es s t A rA hlen) ?_
 rintro _ B ⟨rfl,pB⟩
 by_cases e:WsOk n es s t
 rotate_left
 ·have z:layL n es s t=[]:=by unfold layL;rw [if_neg e]
  simp (disch:=omega) only [decide_eq_false e,SS,eq_self,reduceIte,reduceCtorEq,Nat.reduceEqDiff,Nat.reduceAdd]
  refine hQ _ _ _ ?_
  simp (disch:=omega) only [SS,eq_self,reduceIte,reduceCtorEq,Nat.reduceEqDiff,Nat.reduceAdd]
  rw [z,decide_eq_false e]
  exact ⟨⟨_,rfl,.inl ⟨rfl,rfl⟩⟩,pA.trans pB⟩
 have h8:=e.1.1
 obtain ⟨lw1,lw2,lw3⟩:=lay_ways e
 have hasc:=fun d=>layD_asc n es s t d
 obtain ⟨_,w9,_,w8⟩:=wsL_ok (n:=n) (es:=es) (s:=s) (t:=t)
 simp (disch:=omega) only [decide_eq_true e,ld_agg ag26 cs26 (pre_at pB cA),SS,eq_self,reduceIte,reduceCtorEq,Nat.reduceEqDiff,Nat.reduceAdd]
 refine CallH.by (ways_c n v es s t B (rA.pre pB) hlen e) ?_
 rintro g C ⟨hin,pC⟩
 obtain ⟨us,r1,r2,r3⟩:=hin.parts
 have pHC:=pA.trans (pB.trans pC)
 rw [decide_eq_true e] at hQ
 generalize hW:wsL n es s t=W at *
 generalize hLy:layL n es s t=Ly at *
 by_cases z:W.length=0
 ·have hz:=lw2 (List.length_eq_zero_iff.1 z)
  have z':((W.length:Nat):Int)=0:=by omega
  simp (disch:=omega) only [r1.len Tryz.underlying32,r2,decide_eq_true z',SS,eq_self,reduceIte,reduceCtorEq,Nat.reduceEqDiff,Nat.reduceAdd]
  refine hQ _ _ _ ?_
  simp (disch:=omega) only [SS,eq_self,reduceIte,reduceCtorEq,Nat.reduceEqDiff,Nat.reduceAdd]
  rw [hz]
  exact ⟨⟨_,rfl,.inl ⟨rfl,rfl⟩⟩,pHC⟩
 have z':¬ ((W.length:Nat):Int)=0:=by omega
 have h0:0<W.length:=by omega
 have hm0:W.getD 0 [] ∈ W:=by simp [h0]
 have hD0:=lw1 _ hm0
 have hlyl:Ly.length<=1000:=by
  obtain ⟨_,_,⟨k,hk8,hk⟩,_⟩:=wsL_ok (n:=n) (es:=es) (s:=s) (t:=t)
  rw [hW] at hk
  have:=hk _ hm0
  omega
 have hix0:=r1.ix Tryz.underlying32 cs27 .i64 (i:=0) (by omega) (by omega)
 have hc0:cellA C (rowO g) (rowK g+Int.toNat 0)=some (us.getD 0 undef):=r1.cell (by omega)
 have hr0:=(r3 0 h0).row.1
 have mk:=mk_bags (n:=Ly.length) (by omega) C
 rw [<- hD0] at mk
 simp (disch:=omega) only [r1.len Tryz.underlying32,r2,decide_eq_false z',hix0,hc0,hr0.len Tryz.underlying27,mk,SS,eq_self,reduceIte,reduceCtorEq,Nat.reduceEqDiff,Nat.reduceAdd]
 rw [hD0]
 generalize hDD:Ly.length=D at *
 generalize hE:C ++ [AObj.cells (List.replicate D (.int .u64 0)) 95 false]=E
 have pE:C<+:E:=by rw [<- hE];exact List.prefix_append _ _
 have cE:E[C.length]?=some (.cells (List.replicate D (.int .u64 0)) 95 false):=by rw [<- hE];exact at_new ..
 have lE:E.length=C.length+1:=by rw [<- hE];simp
 have hE0:E=E.set C.length (.cells (List.replicate D (.int .u64 0)) 95 false):=by
  apply List.ext_getElem?
  intro j
  rw [List.getElem?_set]
  by_cases hj:C.length=j
  ·subst hj;rw [if_pos rfl,if_pos (at_lt cE),cE]
  ·rw [if_neg hj]
 have ok0:BagsOk (List.replicate D (.int .u64 0)) D (W.take 0) [] 0:=by
  refine ⟨by simp,fun d hd=>⟨0,by simp [hd],?_⟩⟩
  have:colL (W.take 0) d ++ (if d<0 then [([]:List Int).getD d 0] else [])=[]:=by simp [colL]
  rw [this];exact BagI.zero
 have lE2:∀ {X:AObj},C<+:E.set C.length X:=fun {X}=>prefix_of fun j y hy=>by
  rw [List.getElem?_set_ne (by have:=at_lt hy;omega)];exact pre_at pE hy
 refine LoopH.by (fun m s K=>∃ (i:Nat) (ws:List Value),m+i=W.length/\s 9=.slice (some ⟨C.length,0,none⟩) D D/\s 34=g/\s 35=.int .i64 (W.length:Int)/\s 36=.int .i64 ((i:Nat):Int)/\BagsOk ws D (W.take i) [] 0/\K=E.set C.length (.cells ws 95 false)) W.length ?_ ?_
 ·refine ⟨0,List.replicate D (.int .u64 0),by omega,?_⟩
  simp (disch:=omega) only [r1.len Tryz.underlying32,r2,SS,eq_self,reduceIte,reduceCtorEq,Nat.reduceEqDiff,Nat.reduceAdd]
  (repeat' first | exact ok0 | exact hE0 | apply And.intro) <;> first | (simp only [Value.int.injEq,true_and];omega) | omega | rfl | assumption | (simp;done) | (simp;omega)
 rintro m s K ⟨i,ws,hm,s9,s34,s35,s36,hok,rfl⟩
 simp (disch:=omega) only [s9,s34,s35,s36,SS,eq_self,reduceIte,reduceCtorEq,Nat.reduceEqDiff,Nat.reduceAdd]
 refine brD.intro (fun gi=>?_) (fun gi=>?_)
 ·have hi:i<W.length:=by omega
  have hmi:W.getD i [] ∈ W:=by simp [hi]
  have hli:=lw1 _ hmi
  have hci:=(r1.pre (lE2 (X:=.cells ws 95 false))).cell (show i<us.length by omega)
  have hri:=(r3 i hi).row.1
  have htk:W.take (i+1)=W.take i ++ [W.getD i []]:=by
   rw [List.take_add_one,List.getElem?_eq_getElem hi];simp [hi]
  generalize hw:W.getD i []=w at *
  have hok1:BagsOk ws D (W.take i) w 0:=by
   refine ⟨hok.1,fun d hd=>?_⟩
   have:=hok.2 d hd
   rw [if_neg (Nat.not_lt_zero d)] at this ⊢
   exact this
  simp (disch:=omega) only [s9,s34,s35,s36,(r1.pre (lE2 (X:=.cells ws 95 false))).ix Tryz.underlying32 cs27,r2,Int.toNat_natCast,hci,(hri.pre (lE2 (X:=.cells ws 95 false))).len Tryz.underlying27,SS,eq_self,reduceIte,reduceCtorEq,Nat.reduceEqDiff,Nat.reduceAdd]
  generalize hu:us.getD i undef=u at *
  refine LoopH.by (fun m s K=>∃ (j:Nat) (ws:List Value),m+j=D/\s 9=.slice (some ⟨C.length,0,none⟩) D D/\s 34=g/\s 35=.int .i64 (W.length:Int)/\s 36=.int .i64 ((i:Nat):Int)/\s 40=u/\s 41=.int .i64 (D:Int)/\s 42=.int .i64 ((j:Nat):Int)/\BagsOk ws D (W.take i) w j/\K=E.set C.length (.cells ws 95 false)) D ?_ ?_
  ·refine ⟨0,ws,by omega,?_⟩
   simp (disch:=omega) only [s9,s34,s35,s36,hli,SS,eq_self,reduceIte,reduceCtorEq,Nat.reduceEqDiff,Nat.reduceAdd]
   (repeat' first | exact hok1 | apply And.intro) <;> first | (simp only [Value.int.injEq,true_and];omega) | omega | rfl | assumption | (simp;done) | (simp;omega)
  rintro m2 s K ⟨j,ws,hm2,s9,s34,s35,s36,s40,s41,s42,hok2,rfl⟩
  simp (disch:=omega) only [s9,s34,s35,s36,s40,s41,s42,SS,eq_self,reduceIte,reduceCtorEq,Nat.reduceEqDiff,Nat.reduceAdd]
  refine brD.intro (fun gj=>?_) (fun gj=>?_)
  ·have hj:j<D:=by omega
   have hxm:w.getD j 0 ∈ w:=by simp [show j<w.length by omega]
   have hxr:=w8 w hmi _ hxm
   obtain ⟨x,hx⟩:∃ x:Nat,w.getD j 0=x:=⟨(w.getD j 0).toNat,by omega⟩
   have hcj:=(hri.pre (lE2 (X:=.cells ws 95 false))).cell (show j<w.length by omega)
   rw [hx] at hcj hxr
   obtain ⟨b,hb,hbb⟩:=hok2.2 j hj
   rw [if_neg (Nat.lt_irrefl j),List.append_nil] at hbb
   have hwl:=hok2.1
   have cK:(E.set C.length (.cells ws 95 false))[C.length]?=some (.cells ws 95 false):=at_set cE
   have cwj:ws[j]?=some (.int .u64 (b:Int)):=by rw [<- hb];simp [show j<ws.length by omega]
   have k1:=bin_shl Tryz.prog 95 x (by omega)
   have k2:=bin_or Tryz.prog 95 b (2 ^ x) (Nat.lt_of_lt_of_le hbb.1 (by decide)) (Nat.pow_lt_pow_right (by decide) (by omega))
   have st:=st_at (P:=Tryz.prog) (t:=95) (i:=j) (y:=.int .u64 ((b ||| 2 ^ x:Nat):Int)) cs95 cK (by omega) rfl rfl
   rw [List.set_set] at st
   have hok3:=hok2.step hj hx (by omega) hb hbb
   simp (disch:=omega) only [s9,s34,s35,s36,s40,s41,s42,(hri.pre (lE2 (X:=.cells ws 95 false))).ix Tryz.underlying27 cs3,hli,Int.toNat_natCast,Nat.zero_add,hcj,cell_of cK,cwj,k1,k2,st,wrap64,SS,eq_self,reduceIte,reduceCtorEq,Nat.reduceEqDiff,Nat.reduceAdd]
   refine ⟨m2 - 1,by omega,j+1,ws.set j (.int .u64 ((b ||| 2 ^ x:Nat):Int)),?_⟩
   (repeat' first | exact hok3 | apply And.intro) <;> first | (simp only [Value.int.injEq,true_and];omega) | omega | rfl | assumption | (simp;done) | (simp;omega)
  ·have hj:j=D:=by omega
   subst hj
   have hok3:=hok2.next
   rw [<- htk] at hok3
   simp (disch:=omega) only [s9,s34,s35,s36,wrap64,SS,eq_self,reduceIte,reduceCtorEq,Nat.reduceEqDiff,Nat.reduceAdd]
   refine ⟨m - 1,by omega,i+1,ws,?_⟩
   (repeat' first | exact hok3 | apply And.intro) <;> first | (simp only [Value.int.injEq,true_and];omega) | omega | rfl | assumption | (simp;done) | (simp;omega)
 have hi:i=W.length:=by omega
 subst hi
 rw [List.take_length] at hok
 have hwl:=hok.1
 have cK:(E.set C.length (.cells ws 95 false))[C.length]?=some (.cells ws 95 false):=at_set cE
 have lK:(E.set C.length (.cells ws 95 false)).length=E.length:=List.length_set
 have pK:C<+:E.set C.length (.cells ws 95 false):=lE2
 generalize E.set C.length (.cells ws 95 false)=K at *
 have pHK:=pHC.trans pK
 have hwK:RowV 95 K (.slice (some ⟨C.length,0,none⟩) D D) ws:=.inr ⟨C.length,0,ws,false,by rw [hwl],cK,by omega,by simp⟩
 simp (disch:=omega) only [s9,SS,eq_self,reduceIte,reduceCtorEq,Nat.reduceEqDiff,Nat.reduceAdd]
 have u0:=InU.new H.length 27 3 K pHK.length_le
 refine LoopH.by (fun m s K'=>∃ i o us,m+i=D/\s 14=.slice (some ⟨o,0,none⟩) i i/\s 58=.slice (some ⟨C.length,0,none⟩) D D/\s 59=.int .i64 (D:Int)/\s 60=.int .i64 ((i:Nat):Int)/\K.length<=o/\InU H.length K'.length 27 3 K' o us (Ly.take i)/\K<+:K') D ?_ ?_
 ·refine ⟨0,K.length,[],by omega,?_⟩
  have f1:InU H.length (K ++ [AObj.cells [] 27 false]).length 27 3 (K ++ [AObj.cells [] 27 false]) K.length [] (Ly.take 0):=by simpa using u0
  have f2:K<+:K ++ [AObj.cells [] 27 false]:=List.prefix_append _ _
  simp (disch:=omega) only [s9,SS,eq_self,reduceIte,reduceCtorEq,Nat.reduceEqDiff,Nat.reduceAdd]
  (repeat' first | exact f1 | exact f2 | apply And.intro) <;> first | (simp only [Value.int.injEq,true_and];omega) | omega | rfl | assumption | (simp;done) | (simp;omega)
 clear s9 s34 s35 s36 hm s
 rintro m s K' ⟨i,o,us',hm,s14,s58,s59,s60,hoA,hin',hp⟩
 simp (disch:=omega) only [s14,s58,s59,s60,SS,eq_self,reduceIte,reduceCtorEq,Nat.reduceEqDiff,Nat.reduceAdd]
 refine brD.intro (fun gi=>?_) (fun gi=>?_)
 ·have hi:i<D:=by omega
  obtain ⟨b,hb,hbb⟩:=hok.2 i hi
  rw [if_neg (Nat.not_lt_zero i),List.append_nil] at hbb
  have hcb:=(hwK.pre hp).cell (show i<ws.length by omega)
  rw [hb] at hcb
  obtain ⟨l1,l2⟩:=lw3 i (by omega)
  have hll:Ly.getD i []=(alls 8).filter fun x=>b.testBit x.toNat:=by
   rw [l1]
   refine (alls_bits hbb (hasc i) (fun x=>?_) (layD_rng (by omega))).symm
   rw [l2 x]
   unfold colL
   rw [List.mem_map]
  have hbl:(Ly.take i).length=i:=by rw [List.length_take];omega
  have hst:Ly.take (i+1)=Ly.take i ++ [(alls 8).filter fun x=>b.testBit x.toNat]:=by
   rw [List.take_add_one,List.getElem?_eq_getElem (by omega),<- hll]
   simp [show i<Ly.length by omega]
  simp (disch:=omega) only [s14,s58,s59,s60,(hwK.pre hp).ix Tryz.underlying110 cs95,hwl,Int.toNat_natCast,hcb,SS,eq_self,reduceIte,reduceCtorEq,Nat.reduceEqDiff,Nat.reduceAdd]
  refine CallH.by (bagList_c b K' (Nat.lt_of_lt_of_le hbb.1 (by decide))) ?_
  rintro bv F ⟨hbv,pF⟩
  have hinw:=InI.of hbv.mine
  have pHH:=pHK.trans hp
  obtain ⟨H3,k1,k2,k3,k4⟩:=(hin'.pre pF).app1 (P:=Tryz.prog) (t2:=32) Tryz.underlying32 cs27 (by rw [by27];decide) zk27 hinw pHH.length_le pF.length_le (Nat.le_refl _) (by omega)
  have hbs:buildSliceA Tryz.prog 32 1 [(0,bv)] F=some (.slice (some ⟨F.length,0,none⟩) 1 1,F ++ [.cells [bv] 27 false]):=by
   obtain ⟨q,eq⟩:=hbv.row.shape
   rw [eq]
   exact bs1 Tryz.underlying32 cs27 ze27 ⟨by kernel_rfl,by kernel_rfl⟩ F rfl
  rw [hbl] at k1 k2
  simp (disch:=omega) only [s14,s58,s59,s60,hbs,k1,wrap64,SS,eq_self,reduceIte,reduceCtorEq,Nat.reduceEqDiff,Nat.reduceAdd]
  have f1:K<+:H3:=prefix_of fun j x hx'=>k4 j x (by have:=at_lt hx';omega) (pre_at (hp.trans pF) hx')
  have f2:InU H.length H3.length 27 3 H3 (F.length+1) (us'.take i ++ [bv]) (Ly.take (i+1)):=by
   rw [k3,hst];exact k2
  have hDl:=(hp.trans pF).length_le
  refine ⟨m - 1,by omega,i+1,F.length+1,us'.take i ++ [bv],by omega,?_⟩
  (repeat' first | exact f1 | exact f2 | apply And.intro) <;> first | (simp only [Value.int.injEq,true_and];omega) | omega | rfl | assumption | (simp;done) | (simp;omega)
 ·have hi:i=D:=by omega
  subst hi
  simp (disch:=omega) only [s14,SS,eq_self,reduceIte,reduceCtorEq,Nat.reduceEqDiff,Nat.reduceAdd]
  refine hQ _ _ _ ?_
  simp (disch:=omega) only [s14,SS,eq_self,reduceIte,reduceCtorEq,Nat.reduceEqDiff,Nat.reduceAdd]
  refine ⟨?_,pHK.trans hp⟩
  rw [List.take_of_length_le (by omega)] at hin'
  have:=hin'.inl
  rw [hDD] at this
  exact ⟨_,rfl,this⟩
theorem LoS_c (n:Int)(v:Value)(es:List (Int × Int))(s t:Int)(H:AH)(hr:RowP 115 H v es)(hlen:es.length<=1099511627776) :
  ACalls Tryz.prog 41 [.agg (List.toArray [.int .i64 n,v]),.int .i64 s,.int .i64 t] H fun r H'=>(∃ g,r=.tuple (List.toArray [g,.bool (decide (WsOk n es s t))])/\InL H.length H'.length 27 3 H' g (layL n es s t))/\H<+:H':=by
 refine in41 rfl ?_
 intro Q hQ
 simp (disch:=omega) only [cd41,hr.boxG,SS,eq_self,reduceIte,reduceCtorEq,Nat.reduceEqDiff,Nat.reduceAdd]
 generalize hA0:H ++ [AObj.cells [.int .i64 n,v] 26 false]=A0
 have pA0:H<+:A0:=by rw [<- hA0];exact List.prefix_append _ _
 have cA0:A0[H.length]?=some (.cells [.int .i64 n,v] 26 false):=by rw [<- hA0];exact at_new ..
 have rA0:=hr.pre pA0
 have u00:=InU.new H.length 27 3 A0 pA0.length_le
 generalize hA:A0 ++ [AObj.cells [] 27 false]=A at *
 have pA1:A0<+:A:=by rw [<- hA];exact List.prefix_append _ _
 have cA:=pre_at pA1 cA0
 have rA:=rA0.pre pA1
 have pA:=pA0.trans pA1
 have lA:A.length=A0.length+1:=by rw [<- hA];simp
 simp (disch:=omega) only [ld_agg ag26 cs26 cA,SS,eq_self,reduceIte,reduceCtorEq,Nat.reduceEqDiff,Nat.reduceAdd]
 refine CallH.by (l7Ends_c n v es s t A rA hlen) ?_
 rintro _ B ⟨rfl,pB⟩
 by_cases e:WsOk n es s t
 rotate_left
 ·have z:layL n es s t=[]:=by unfold layL;rw [if_neg e]
  simp (disch:=omega) only [decide_eq_false e,SS,eq_self,reduceIte,reduceCtorEq,Nat.reduceEqDiff,Nat.reduceAdd]
  refine hQ _ _ _ ?_
  simp (disch:=omega) only [SS,eq_self,reduceIte,reduceCtorEq,Nat.reduceEqDiff,Nat.reduceAdd]
  rw [z,decide_eq_false e]
  have:=((u00.pre pB).wide (Nat.le_refl _) (show A0.length+1<=B.length by have:=pB.length_le;omega)).inl
  exact ⟨⟨_,rfl,by simpa using this⟩,pA.trans pB⟩
 have hF:=farG_ok e
 have h8:=e.1.1
 obtain ⟨sN,rfl⟩:∃ k:Nat,s=k:=⟨s.toNat,by have:=e.2.1;omega⟩
 obtain ⟨tN,rfl⟩:∃ k:Nat,t=k:=⟨t.toNat,by have:=e.2.2;omega⟩
 have hsb:=e.2.1
 have htb:=e.2.2
 have hF2:=farG_ok (show WsOk n es (tN:Int) (sN:Int) from ⟨e.1,e.2.2,e.2.1⟩)
 rw [Int.toNat_natCast] at hF hF2
 have cB:=pre_at pB cA
 have hf1:farG n es (sN:Int)=bfs (roadsL n.toNat es) sN:=by unfold farG;rw [Int.toNat_natCast]
 have hf2:farG n es (tN:Int)=bfs (roadsL n.toNat es) tN:=by unfold farG;rw [Int.toNat_natCast]
 simp (disch:=omega) only [decide_eq_true e,ld_agg ag26 cs26 cB,SS,eq_self,reduceIte,reduceCtorEq,Nat.reduceEqDiff,Nat.reduceAdd]
 refine CallH.by (l3Far_c n v es sN B (rA.pre pB) hlen h8 (by omega)) ?_
 rintro vs C ⟨hs,pC⟩
 have cC:=pre_at pC cB
 have cCB:C[H.length]?=B[H.length]?:=by rw [cC,cB]
 simp (disch:=omega) only [cCB,ld_agg ag26 cs26 cC,SS,eq_self,reduceIte,reduceCtorEq,Nat.reduceEqDiff,Nat.reduceAdd]
 refine CallH.by (l3Far_c n v es tN C (rA.pre (pB.trans pC)) hlen h8 (by omega)) ?_
 rintro vt D ⟨ht,pD⟩
 rw [<- hf1] at hs
 rw [<- hf2] at ht
 have hs':=hs.row.pre pD
 have ht':=ht.row
 have pAD:=pB.trans (pC.trans pD)
 have cD:=pre_at pAD cA
 have hb:=hF2.lo tN (by omega)
 have hlyl:(layL n es (sN:Int) (tN:Int)).length=((farG n es (sN:Int)).getD tN 0+1).toNat:=by
  unfold layL;rw [if_pos e,List.length_map,List.length_range,Int.toNat_natCast]
 have hlat:∀ d,d<(layL n es (sN:Int) (tN:Int)).length->(layL n es (sN:Int) (tN:Int)).getD d []=layD n es (sN:Int) (tN:Int) d:=by
  intro d hd
  rw [hlyl] at hd
  unfold layL;rw [if_pos e,Int.toNat_natCast,List.getD_eq_getElem?_getD,List.getElem?_map,List.getElem?_range hd];rfl
 have hlD:∀ d,layD n es (sN:Int) (tN:Int) d=((List.range n.toNat).filter fun x:Nat=>decide ((farG n es (sN:Int)).getD x 0=(d:Int)/\(farG n es (tN:Int)).getD x 0=(farG n es (sN:Int)).getD tN 0 - d)).map fun x:Nat=>(x:Int):=fun d=>by
  unfold layD;rw [Int.toNat_natCast]
 rw [decide_eq_true e] at hQ
 have hfl:=hF.fl
 have hfl2:=hF2.fl
 generalize farG n es (sN:Int)=fs at *
 generalize farG n es (tN:Int)=ft at *
 generalize layL n es (sN:Int) (tN:Int)=Ly at *
 generalize layD n es (sN:Int) (tN:Int)=LD at *
 have u0:=(u00.pre pAD).wide (Nat.le_refl _) (show A0.length+1<=D.length by have:=pAD.length_le;omega)
 have lD:=pAD.length_le
 have hbt:=hF2.lo tN (by omega)
 simp (disch:=omega) only [SS,eq_self,reduceIte,reduceCtorEq,Nat.reduceEqDiff,Nat.reduceAdd]
 refine LoopH.by (fun m s K=>∃ (i o:Nat) (us:List Value),m+i=Ly.length/\s 2=.int .i64 (tN:Int)/\s 3=.pointer (some ⟨H.length,0,none⟩)/\s 8=.slice (some ⟨o,0,none⟩) i i/\s 9=vs/\s 10=vt/\s 11=.int .i64 (i:Int)/\A0.length<=o/\(o=A0.length∨D.length<=o)/\InU H.length K.length 27 3 K o us (Ly.take i)/\Row 3 K vs fs/\Row 3 K vt ft/\K[H.length]?=some (.cells [.int .i64 n,v] 26 false)/\A0<+:K/\D.length<=K.length) Ly.length ?_ ?_
 ·refine ⟨0,A0.length,[],by omega,?_⟩
  have f1:InU H.length D.length 27 3 D A0.length [] (Ly.take 0):=u0
  have f2:A0<+:D:=pA1.trans pAD
  simp (disch:=omega) only [SS,eq_self,reduceIte,reduceCtorEq,Nat.reduceEqDiff,Nat.reduceAdd]
  (repeat' first | exact f1 | exact hs' | exact ht' | exact cD | exact f2 | apply And.intro) <;> first | (simp only [Value.int.injEq,true_and];omega) | omega | rfl | assumption | (simp;done) | (simp;omega)
 rintro m s K ⟨i,o,us,hm,s2,s3,s8,s9,s10,s11,ho1,ho2,hin,hsK,htK,cK,pK,lK⟩
 have hctK:=hsK.cell (show tN<fs.length by omega)
 simp (disch:=omega) only [s2,s3,s8,s9,s10,s11,hsK.ix Tryz.underlying27 cs3,Int.toNat_natCast,hctK,SS,eq_self,reduceIte,reduceCtorEq,Nat.reduceEqDiff,Nat.reduceAdd]
 refine brD.intro (fun gi=>?_) (fun gi=>?_)
 rotate_left
 ·have hi:i=Ly.length:=by omega
  subst hi
  simp (disch:=omega) only [s8,SS,eq_self,reduceIte,reduceCtorEq,Nat.reduceEqDiff,Nat.reduceAdd]
  refine hQ _ _ _ ?_
  simp (disch:=omega) only [s8,SS,eq_self,reduceIte,reduceCtorEq,Nat.reduceEqDiff,Nat.reduceAdd]
  rw [List.take_length] at hin
  exact ⟨⟨_,rfl,hin.inl⟩,pA0.trans pK⟩
 have hi:i<Ly.length:=by omega
 have hly:=hlat i hi
 have hst:Ly.take (i+1)=Ly.take i ++ [LD i]:=by
  rw [List.take_add_one,List.getElem?_eq_getElem hi,<- hly]
  simp [hi]
 have hbl:(Ly.take i).length=i:=by rw [List.length_take];omega
 simp (disch:=omega) only [s2,s3,s8,s9,s10,s11,SS,eq_self,reduceIte,reduceCtorEq,Nat.reduceEqDiff,Nat.reduceAdd]
 generalize hE:K ++ [AObj.cells [] 3 false]=E
 have pE:K<+:E:=by rw [<- hE];exact List.prefix_append _ _
 have own0:Own 3 K E (.slice (some ⟨K.length,0,none⟩) 0 0) ([]:List Int):=.inr ⟨K.length,rfl,Nat.le_refl _,by rw [<- hE];exact at_new ..⟩
 refine LoopH.by (fun m s K2=>∃ x:Nat,m+x=n.toNat/\s 2=.int .i64 (tN:Int)/\s 3=.pointer (some ⟨H.length,0,none⟩)/\s 8=.slice (some ⟨o,0,none⟩) i i/\s 9=vs/\s 10=vt/\s 11=.int .i64 (i:Int)/\s 13=.int .i64 (x:Int)/\Own 3 K K2 (s 12) (((List.range x).filter fun x:Nat=>decide (fs.getD x 0=(i:Int)/\ft.getD x 0=fs.getD tN 0 - i)).map fun x:Nat=>(x:Int))/\K<+:K2) n.toNat ?_ ?_
 ·refine ⟨0,by omega,?_⟩
  have f1:Own 3 K E (.slice (some ⟨K.length,0,none⟩) 0 0) (((List.range 0).filter fun x:Nat=>decide (fs.getD x 0=(i:Int)/\ft.getD x 0=fs.getD tN 0 - i)).map fun x:Nat=>(x:Int)):=own0
  simp (disch:=omega) only [s2,s3,s8,s9,s10,s11,SS,eq_self,reduceIte,reduceCtorEq,Nat.reduceEqDiff,Nat.reduceAdd]
  (repeat' first | exact f1 | exact pE | apply And.intro) <;> first | (simp only [Value.int.injEq,true_and];omega) | omega | rfl | assumption | (simp;done) | (simp;omega)
 clear own0
 rintro m2 s K2 ⟨x,hm2,s2,s3,s8,s9,s10,s11,s13,hO,pp⟩
 have hsK2:=hsK.pre pp
 have htK2:=htK.pre pp
 have cK2:=pre_at pp cK
 simp (disch:=omega) only [s2,s3,s8,s9,s10,s11,s13,cell_of cK2,SS,eq_self,reduceIte,reduceCtorEq,Nat.reduceEqDiff,Nat.reduceAdd]
 refine brD.intro (fun gx=>?_) (fun gx=>?_)
 ·have hx:x<n.toNat:=by omega
  have c1:=hsK2.cell (show x<fs.length by omega)
  have c2:=htK2.cell (show x<ft.length by omega)
  have c3:=hsK2.cell (show tN<fs.length by omega)
  have hlx:(((List.range x).filter fun x:Nat=>decide (fs.getD x 0=(i:Int)/\ft.getD x 0=fs.getD tN 0 - i)).map fun x:Nat=>(x:Int)).length<=x:=by
   rw [List.length_map]
   exact Nat.le_trans (List.length_filter_le _ _) (by rw [List.length_range];exact Nat.le_refl _)
  have hsx:(((List.range (x+1)).filter fun x:Nat=>decide (fs.getD x 0=(i:Int)/\ft.getD x 0=fs.getD tN 0 - i)).map fun x:Nat=>(x:Int))=(((List.range x).filter fun x:Nat=>decide (fs.getD x 0=(i:Int)/\ft.getD x 0=fs.getD tN 0 - i)).map fun x:Nat=>(x:Int)) ++ if fs.getD x 0=(i:Int)/\ft.getD x 0=fs.getD tN 0 - i then [(x:Int)] else []:=by
   rw [List.range_succ,List.filter_append,List.map_append]
   congr 1
   rw [List.filter_cons,List.filter_nil]
   by_cases q:fs.getD x 0=(i:Int)/\ft.getD x 0=fs.getD tN 0 - i
   ·rw [if_pos (by rw [decide_eq_true_eq];exact q),if_pos q];rfl
   ·rw [if_neg (by rw [decide_eq_true_eq];exact q),if_neg q];rfl
  have hwr:IntKind.i64.wrap (fs.getD tN 0 - (i:Int))=fs.getD tN 0 - (i:Int):=wrap64 (by omega) (by omega)
  by_cases q:fs.getD x 0=(i:Int)/\ft.getD x 0=fs.getD tN 0 - i
  ·rw [if_pos q] at hsx
   obtain ⟨u2,F,a1,a2,a3,a4,a5,a6⟩:=own1_27 hO pp (by omega) (x:Int)
   rw [<- hsx] at a2
   simp (disch:=omega) only [s2,s3,s8,s9,s10,s11,s13,hsK2.ix Tryz.underlying27 cs3,htK2.ix Tryz.underlying27 cs3,Int.toNat_natCast,c1,c2,c3,hwr,decide_eq_true q.1,decide_eq_true q.2,a1,wrap64,SS,eq_self,reduceIte,reduceCtorEq,Nat.reduceEqDiff,Nat.reduceAdd]
   refine ⟨m2 - 1,by omega,x+1,?_⟩
   (repeat' first | exact a2 | exact a3 | apply And.intro) <;> first | (simp only [Value.int.injEq,true_and];omega) | omega | rfl | assumption | (simp;done) | (simp;omega)
  ·rw [if_neg q,List.append_nil] at hsx
   rw [<- hsx] at hO
   by_cases q1:fs.getD x 0=(i:Int)
   ·have q2:¬ ft.getD x 0=fs.getD tN 0 - i:=fun h=>q ⟨q1,h⟩
    simp (disch:=omega) only [s2,s3,s8,s9,s10,s11,s13,hsK2.ix Tryz.underlying27 cs3,htK2.ix Tryz.underlying27 cs3,Int.toNat_natCast,c1,c2,c3,hwr,decide_eq_true q1,decide_eq_false q2,wrap64,SS,eq_self,reduceIte,reduceCtorEq,Nat.reduceEqDiff,Nat.reduceAdd]
    refine ⟨m2 - 1,by omega,x+1,?_⟩
    (repeat' first | exact hO | exact pp | apply And.intro) <;> first | (simp only [Value.int.injEq,true_and];omega) | omega | rfl | assumption | (simp;done) | (simp;omega)
   ·simp (disch:=omega) only [s2,s3,s8,s9,s10,s11,s13,hsK2.ix Tryz.underlying27 cs3,Int.toNat_natCast,c1,decide_eq_false q1,wrap64,SS,eq_self,reduceIte,reduceCtorEq,Nat.reduceEqDiff,Nat.reduceAdd]
    refine ⟨m2 - 1,by omega,x+1,?_⟩
    (repeat' first | exact hO | exact pp | apply And.intro) <;> first | (simp only [Value.int.injEq,true_and];omega) | omega | rfl | assumption | (simp;done) | (simp;omega)
 ·have hx:x=n.toNat:=by omega
  subst hx
  rw [<- hlD] at hO
  have hinw:=InI.of hO.mine
  have lp:=pp.length_le
  generalize hu:s 12=u at *
  have pA0H:=pA0.length_le
  obtain ⟨H3,k1,k2,k3,k4⟩:=(hin.pre pp).app1 (P:=Tryz.prog) (t2:=32) Tryz.underlying32 cs27 (by rw [by27];decide) zk27 hinw (by omega) lp (Nat.le_refl _) (by omega)
  have hbs:buildSliceA Tryz.prog 32 1 [(0,u)] K2=some (.slice (some ⟨K2.length,0,none⟩) 1 1,K2 ++ [.cells [u] 27 false]):=by
   obtain ⟨q,eq⟩:=hO.row.shape
   rw [eq]
   exact bs1 Tryz.underlying32 cs27 ze27 ⟨by kernel_rfl,by kernel_rfl⟩ K2 rfl
  rw [hbl] at k1 k2
  simp (disch:=omega) only [s2,s3,s8,s9,s10,s11,hu,hbs,k1,wrap64,SS,eq_self,reduceIte,reduceCtorEq,Nat.reduceEqDiff,Nat.reduceAdd]
  have ne:∀ {w:Value} {xs:List Int},Row 3 K w xs->(w=.slice none 0 0∨rowO w ≠ o)->Row 3 H3 w xs:=fun {w xs} hw hne=>by
   rcases hne with z | z
   ·exact .inl ⟨z,hw.nilv z⟩
   ·exact (hw.pre pp).mono fun y hy=>k4 _ _ z hy
  have f0:A0<+:H3:=prefix_of fun j y hy=>k4 j y (by have:=at_lt hy;omega) (pre_at (pK.trans pp) hy)
  have f1:InU H.length H3.length 27 3 H3 (K2.length+1) (us.take i ++ [u]) (Ly.take (i+1)):=by
   rw [k3,hst];exact k2
  have f2:H3[H.length]?=some (.cells [.int .i64 n,v] 26 false):=pre_at f0 cA0
  have vne:∀ {w:Value} {xs:List Int},Row 3 K w xs->w=.slice none 0 0∨rowO w ≠ o:=fun {w xs} hw=>by
   rcases hw with z | ⟨o',k',vs',ro',z1,z2,_⟩
   ·exact .inl z.1
   ·right
    rw [z1]
    intro z3
    obtain ⟨_,_,z4,_⟩:=hin
    have z5:o'=o:=z3
    rw [z5,z4] at z2
    cases z2
  have f3:=ne hsK (vne hsK)
  have f4:=ne htK (vne htK)
  refine ⟨m - 1,by omega,i+1,K2.length+1,us.take i ++ [u],by omega,?_⟩
  (repeat' first | exact f0 | exact f1 | exact f2 | exact f3 | exact f4 | apply And.intro) <;> first | (simp only [Value.int.injEq,true_and];omega) | omega | rfl | assumption | (simp;done) | (simp;omega)
def cd44:Cd:=(.seq (.reg [⟨⟨some 3,.box 26 (.tmp 0),none⟩,[]⟩,⟨⟨some 6,.assign (.const (.slice none 0 0)),none⟩,[]⟩,⟨⟨some 7,.assign (.const (.bool false)),none⟩,[]⟩]) (.seq (.seq (.reg [⟨⟨some 8,.move (.tmp 1),none⟩,[]⟩,⟨⟨some 9,.call ⟨(.builtin .len),#[.tmp 8],#[27]⟩,none⟩,[]⟩,⟨⟨some 10,.binOp .eql 3 (.tmp 9) (.const (.int .i64 0)) 3,none⟩,[]⟩,⟨⟨some 11,.move (.tmp 10),none⟩,[]⟩,⟨⟨some 12,.load 26 (.tmp 3),some (11,false)⟩,[]⟩,⟨⟨some 13,.move (.tmp 1),some (11,false)⟩,[]⟩,⟨⟨some 14,.indexAddr 27 (.tmp 13) (.const (.int .i64 0)),some (11,false)⟩,[]⟩,⟨⟨some 15,.load 3 (.tmp 14),some (11,false)⟩,[]⟩,⟨⟨some 16,.move (.tmp 1),some (11,false)⟩,[]⟩,⟨⟨some 17,.move (.tmp 1),some (11,false)⟩,[]⟩,
 ⟨⟨some 18,.call ⟨(.builtin .len),#[.tmp 17],#[27]⟩,some (11,false)⟩,[]⟩,⟨⟨some 19,.binOp .sub 3 (.tmp 18) (.const (.int .i64 1)) 3,some (11,false)⟩,[]⟩,⟨⟨some 20,.indexAddr 27 (.tmp 16) (.tmp 19),some (11,false)⟩,[]⟩,⟨⟨some 21,.load 3 (.tmp 20),some (11,false)⟩,[]⟩,⟨⟨some 22,.call ⟨(.value (.func 97)),#[.tmp 12,.tmp 15,.tmp 21],#[26,3,3]⟩,some (11,false)⟩,[]⟩,⟨⟨some 23,.unOp .not 4 (.tmp 22),some (11,false)⟩,[]⟩,⟨⟨some 24,.pick (.tmp 11) (.const (.bool true)) (.tmp 23),none⟩,[]⟩]) (.cond (.tmp 24) (.seq (.reg [⟨⟨some 25,.buildSlice 32 0 #[],none⟩,[]⟩,⟨⟨some 6,.assign (.tmp 25),none⟩,[]⟩,⟨⟨some 7,.assign (.const (.bool false)),none⟩,[]⟩]) .ret) .skip)) (.seq (.reg [⟨⟨some 26,.load 26 (.tmp 3),none⟩,[]⟩,⟨⟨some 27,.move (.tmp 1),none⟩,[]⟩,⟨⟨some 28,.indexAddr 27 (.tmp 27) (.const (.int .i64 0)),none⟩,[]⟩,⟨⟨some 29,.load 3 (.tmp 28),none⟩,[]⟩,
 ⟨⟨some 30,.move (.tmp 1),none⟩,[]⟩,⟨⟨some 31,.move (.tmp 1),none⟩,[]⟩,⟨⟨some 32,.call ⟨(.builtin .len),#[.tmp 31],#[27]⟩,none⟩,[]⟩,⟨⟨some 33,.binOp .sub 3 (.tmp 32) (.const (.int .i64 1)) 3,none⟩,[]⟩,⟨⟨some 34,.indexAddr 27 (.tmp 30) (.tmp 33),none⟩,[]⟩,⟨⟨some 35,.load 3 (.tmp 34),none⟩,[]⟩,⟨⟨some 38,.move (.tmp 1),none⟩,[]⟩,⟨⟨some 39,.move (.tmp 2),none⟩,[]⟩,⟨⟨some 36,.call ⟨(.value (.func 98)),#[.tmp 26,.tmp 29,.tmp 35],#[26,3,3]⟩,none⟩,[]⟩,⟨⟨some 37,.call ⟨(.value (.func 99)),#[.tmp 36],#[32]⟩,none⟩,[]⟩,⟨⟨some 40,.call ⟨(.value (.func 76)),#[.tmp 37,.tmp 38,.tmp 39],#[34,27,27]⟩,none⟩,[]⟩,⟨⟨some 41,.call ⟨(.value (.func 75)),#[.tmp 40],#[32]⟩,none⟩,[]⟩,
 ⟨⟨some 42,.extract (.tmp 41) 0,none⟩,[]⟩,
  ⟨⟨some 43,.extract (.tmp 41) 1,none⟩,[]⟩,
  ⟨⟨some 6,.assign (.tmp 42),none⟩,[]⟩,
  ⟨⟨some 7,.assign (.tmp 43),none⟩,[]⟩]) .ret)))
theorem in44:InT Tryz.prog 44 3 [.tmp 6,.tmp 7] cd44:=InT.mk (by kernel_rfl) [(1,[(0,false),(1,false),(2,false),(3,false),(4,false),(5,false),(6,false),(7,false),(8,false),(9,false),(10,false),(11,false),(12,false),(13,false),(14,true),(15,false),(16,false)]),(3,[(0,false),(1,false),(2,false),(3,false),(4,false),(5,false),(6,false),(7,false),(8,false),(9,false),(12,false),(13,false),(10,true),(11,true),(14,true),(15,true),(16,false),(17,false),(18,false),(19,false)])] Tryz.func44 rfl (by kernel_rfl) (by kernel_rfl) (of_decide_eq_true (by kernel_rfl)) (by kernel_rfl)
def cd43:Cd:=(.seq (.reg [⟨⟨some 3,.box 26 (.tmp 0),none⟩,[]⟩,⟨⟨some 6,.assign (.const (.slice none 0 0)),none⟩,[]⟩,⟨⟨some 7,.assign (.const (.bool false)),none⟩,[]⟩]) (.seq (.seq (.reg [⟨⟨some 10,.move (.tmp 1),none⟩,[]⟩,⟨⟨some 11,.call ⟨(.builtin .len),#[.tmp 10],#[27]⟩,none⟩,[]⟩,⟨⟨some 12,.binOp .eql 3 (.tmp 11) (.const (.int .i64 0)) 3,none⟩,[]⟩,⟨⟨some 13,.move (.tmp 12),none⟩,[]⟩,⟨⟨some 14,.move (.tmp 2),some (13,false)⟩,[]⟩,⟨⟨some 15,.call ⟨(.builtin .len),#[.tmp 14],#[27]⟩,some (13,false)⟩,[]⟩,⟨⟨some 16,.binOp .eql 3 (.tmp 15) (.const (.int .i64 0)) 3,some (13,false)⟩,[]⟩,⟨⟨some 17,.pick (.tmp 13) (.const (.bool true)) (.tmp 16),none⟩,[]⟩,⟨⟨some 18,.move (.tmp 17),none⟩,[]⟩,⟨⟨some 19,.move (.tmp 1),some (18,false)⟩,[]⟩,
 ⟨⟨some 20,.indexAddr 27 (.tmp 19) (.const (.int .i64 0)),some (18,false)⟩,[]⟩,⟨⟨some 21,.load 3 (.tmp 20),some (18,false)⟩,[]⟩,⟨⟨some 22,.move (.tmp 2),some (18,false)⟩,[]⟩,⟨⟨some 23,.indexAddr 27 (.tmp 22) (.const (.int .i64 0)),some (18,false)⟩,[]⟩,⟨⟨some 24,.load 3 (.tmp 23),some (18,false)⟩,[]⟩,⟨⟨some 25,.binOp .neq 3 (.tmp 21) (.tmp 24) 3,some (18,false)⟩,[]⟩,⟨⟨some 26,.pick (.tmp 18) (.const (.bool true)) (.tmp 25),none⟩,[]⟩,⟨⟨some 27,.move (.tmp 26),none⟩,[]⟩,⟨⟨some 28,.move (.tmp 1),some (27,false)⟩,[]⟩,⟨⟨some 29,.move (.tmp 1),some (27,false)⟩,[]⟩,⟨⟨some 30,.call ⟨(.builtin .len),#[.tmp 29],#[27]⟩,some (27,false)⟩,[]⟩,⟨⟨some 31,.binOp .sub 3 (.tmp 30) (.const (.int .i64 1)) 3,some (27,false)⟩,[]⟩,
 ⟨⟨some 32,.indexAddr 27 (.tmp 28) (.tmp 31),some (27,false)⟩,[]⟩,⟨⟨some 33,.load 3 (.tmp 32),some (27,false)⟩,[]⟩,⟨⟨some 34,.move (.tmp 2),some (27,false)⟩,[]⟩,⟨⟨some 35,.move (.tmp 2),some (27,false)⟩,[]⟩,⟨⟨some 36,.call ⟨(.builtin .len),#[.tmp 35],#[27]⟩,some (27,false)⟩,[]⟩,⟨⟨some 37,.binOp .sub 3 (.tmp 36) (.const (.int .i64 1)) 3,some (27,false)⟩,[]⟩,⟨⟨some 38,.indexAddr 27 (.tmp 34) (.tmp 37),some (27,false)⟩,[]⟩,⟨⟨some 39,.load 3 (.tmp 38),some (27,false)⟩,[]⟩,⟨⟨some 40,.binOp .neq 3 (.tmp 33) (.tmp 39) 3,some (27,false)⟩,[]⟩,⟨⟨some 41,.pick (.tmp 27) (.const (.bool true)) (.tmp 40),none⟩,[]⟩]) (.cond (.tmp 41) (.seq (.reg [⟨⟨some 6,.assign (.const (.slice none 0 0)),none⟩,[]⟩,⟨⟨some 7,.assign (.const (.bool false)),none⟩,[]⟩]) .ret) .skip)) (.seq (.reg [⟨⟨some 43,.load 26 (.tmp 3),none⟩,[]⟩,⟨⟨some 44,.move (.tmp 1),none⟩,[]⟩,
 ⟨⟨some 45,.indexAddr 27 (.tmp 44) (.const (.int .i64 0)),none⟩,[]⟩,⟨⟨some 46,.load 3 (.tmp 45),none⟩,[]⟩,⟨⟨some 47,.move (.tmp 1),none⟩,[]⟩,⟨⟨some 48,.move (.tmp 1),none⟩,[]⟩,⟨⟨some 49,.call ⟨(.builtin .len),#[.tmp 48],#[27]⟩,none⟩,[]⟩,⟨⟨some 50,.binOp .sub 3 (.tmp 49) (.const (.int .i64 1)) 3,none⟩,[]⟩,⟨⟨some 51,.indexAddr 27 (.tmp 47) (.tmp 50),none⟩,[]⟩,⟨⟨some 52,.load 3 (.tmp 51),none⟩,[]⟩,⟨⟨some 8,.alloc 34,none⟩,[]⟩,⟨⟨some 53,.call ⟨(.value (.func 34)),#[.tmp 43,.tmp 46,.tmp 52],#[26,3,3]⟩,none⟩,[⟨some 8,.alloc 34,none⟩]⟩,⟨⟨some 42,.move (.tmp 53),none⟩,[]⟩,⟨⟨some 54,.extract (.tmp 42) 0,none⟩,[]⟩,
 ⟨⟨some 55,.extract (.tmp 42) 1,none⟩,[]⟩,
  ⟨⟨none,.store 34 (.tmp 8) (.tmp 54),none⟩,[]⟩,
  ⟨⟨some 9,.assign (.tmp 55),none⟩,[]⟩]) (.seq (.seq (.reg [⟨⟨some 56,.move (.tmp 9),none⟩,[]⟩,
  ⟨⟨some 57,.unOp .not 4 (.tmp 56),none⟩,[]⟩]) (.cond (.tmp 57) (.seq (.reg [⟨⟨some 6,.assign (.const (.slice none 0 0)),none⟩,[]⟩,
  ⟨⟨some 7,.assign (.const (.bool false)),none⟩,[]⟩]) .ret) .skip)) (.seq (.reg [⟨⟨some 58,.load 34 (.tmp 8),none⟩,[]⟩,
  ⟨⟨some 59,.move (.tmp 1),none⟩,[]⟩,
  ⟨⟨some 60,.move (.tmp 2),none⟩,[]⟩,
  ⟨⟨some 61,.call ⟨(.value (.func 73)),#[.tmp 58,.tmp 59,.tmp 60],#[34,27,27]⟩,none⟩,[]⟩,
  ⟨⟨some 62,.extract (.tmp 61) 0,none⟩,[]⟩,
  ⟨⟨some 63,.extract (.tmp 61) 1,none⟩,[]⟩,
  ⟨⟨some 6,.assign (.tmp 62),none⟩,[]⟩,
  ⟨⟨some 7,.assign (.tmp 63),none⟩,[]⟩]) .ret)))))
theorem in43:InT Tryz.prog 43 3 [.tmp 6,.tmp 7] cd43:=InT.mk (by kernel_rfl) [(1,[(0,false),(1,false),(2,false),(3,false),(4,false),(5,false),(6,false),(7,false),(8,false),(9,false),(10,false),(11,false),(12,false),(13,false),(14,false),(15,false),(16,false),(17,false),(18,false),(19,false),(20,false),(21,false),(22,false),(23,false),(24,false),(25,false),(26,false),(27,false),(28,false),(29,false),(30,false),(31,false)]),(3,[(0,false),(1,false),(2,false),(3,false),(4,false),(5,false),(6,false),(7,false),(8,false),(9,false),(14,false),(10,true),(11,false),(12,false),(13,false),(15,true),(16,false)])] Tryz.func43 rfl (by kernel_rfl) (by kernel_rfl) (of_decide_eq_true (by kernel_rfl)) (by kernel_rfl)
end Go.Proofs.YtlcipphiflcaiaaGreat.Ai
namespace Go.Proofs.YtlcipphiflcaiaaGreat.Ai
open Go Go.RowKit
def hdI (xs:List Int):Int:=xs.getD 0 0
def ltI (xs:List Int):Int:=xs.getD (xs.length - 1) 0
def wwL (n:Int)(es:List (Int × Int))(xs ys:List Int):List (List Int):=if xs=[] then [] else wkL (wsL n es (hdI xs) (ltI xs)) (wsP n es (hdI xs) (ltI xs)) xs ys
def wwB (n:Int)(es:List (Int × Int))(xs ys:List Int):Bool:=!decide (xs=[]) && wkB (wsL n es (hdI xs) (ltI xs)) (wsP n es (hdI xs) (ltI xs)) xs ys
theorem wk_no {ls:List (List Int)}{ps:List (Int × Int)}{x y:List Int}(h:¬ (x ∈ ls/\y ∈ ls)):wkB ls ps x y=false/\wkL ls ps x y=[]:=by
 have hb:wkB ls ps x y=false:=by
  unfold wkB
  exact decide_eq_false fun g=>h ⟨g.1,g.2.1⟩
 exact ⟨hb,by unfold wkL;rw [hb];rfl⟩
theorem wk_pos (ls:List (List Int))(ps:List (Int × Int))(x y:List Int):wkB ls ps x y=decide (0<(wkL ls ps x y).length):=by
 unfold wkL
 cases h:wkB ls ps x y with
 | false=>rfl
 | true =>
  rw [if_pos rfl,List.length_map]
  exact (decide_eq_true (wyS_pos _ _ _ _ _)).symm
theorem wA_last (L:List (List Int))(far:List Int):∀ (d x:Nat) (b:List Int),0<b.length->ltI b=(x:Int)->far.getD x 0=(d:Int)->(∀ y ∈ L.getD x [],0<=y)->(∀ u,∀ y ∈ L.getD u [],0<=y)->∀ w ∈ wA L far d (x:Int) b,∃ z:Nat,ltI w=(z:Int)/\far.getD z 0=0
 | 0,x,b,hb,hl,hd,_,_,w,h=>by
  simp only [wA,List.mem_singleton] at h
  subst h
  exact ⟨x,hl,by simpa using hd⟩
 | d+1,x,b,hb,hl,hd,_,hnn,w,h=>by
  obtain ⟨y,h1,h2,h3⟩:=wT_mem (show w ∈ wT far (wA L far d) (d:Int) b (L.getD (x:Int).toNat []) from h)
  have hy:=hnn _ y h1
  obtain ⟨k,rfl⟩:∃ k:Nat,y=k:=⟨y.toNat,by omega⟩
  rw [Int.toNat_natCast] at h2
  exact wA_last L far d k (b ++ [(k:Int)]) (by simp) (by unfold ltI;simp) h2 (hnn _) hnn w h3
theorem wsL_ends {n:Int}{es:List (Int × Int)}{s t:Int}{w:List Int}(h:w ∈ wsL n es s t):w ≠ []/\hdI w=s/\ltI w=t:=by
 unfold wsL at h
 split at h
 ·rename_i hc
  obtain ⟨hw,h0⟩:=hc
  have hf:=farG_ok hw
  have hs:=hw.2.1
  have ht:=hw.2.2
  obtain ⟨r,r1,_,_⟩:=wA_pre _ _ _ _ _ w h
  refine ⟨by rw [r1];simp,by rw [r1];rfl,?_⟩
  obtain ⟨sN,rfl⟩:∃ k:Nat,s=k:=⟨s.toNat,by omega⟩
  rw [Int.toNat_natCast] at h h0
  obtain ⟨z,z1,z2⟩:=wA_last (roadsL n.toNat es) (farG n es t) ((farG n es t).getD sN 0).toNat sN [(sN:Int)] (by simp) rfl (by omega) (fun y hy=>(hf.lok _ y hy).1) (fun u y hy=>(hf.lok u y hy).1) w h
  by_cases hz:z<n.toNat
  ·have:=hf.uniq z hz z2
   rw [z1];omega
  ·have hmem:ltI w ∈ w:=by
    have:0<w.length:=by rw [r1];simp
    unfold ltI
    simp [show w.length - 1<w.length by omega]
   have:=(wsL_ok (n:=n) (es:=es) (s:=(sN:Int)) (t:=t)).2.2.2 w (by unfold wsL;rw [if_pos ⟨hw,by rw [Int.toNat_natCast];exact h0⟩,Int.toNat_natCast];exact h) _ hmem
   have hfl:=hf.fl
   exfalso
   obtain ⟨r',r1',r2',r3'⟩:=wA_pre _ _ _ _ _ w h
   rcases List.eq_nil_or_concat r' with e | ⟨q,c,e⟩
   ·rw [r1',e] at z1
    have:(sN:Int)=(z:Int):=z1
    omega
   ·rw [List.concat_eq_append] at e
    rw [r1',e] at z1
    have hc:c=(z:Int):=by
     have:ltI ([(sN:Int)] ++ (q ++ [c]))=c:=by unfold ltI;simp
     rw [<- this];exact z1
    obtain ⟨u,hu⟩:=r3' c (by rw [e];simp)
    have:=(hf.lok u c hu)
    omega
 ·simp at h
theorem ww_no {n:Int}{es:List (Int × Int)}{xs ys:List Int}(h:xs=[]∨ys=[]∨hdI xs ≠ hdI ys∨ltI xs ≠ ltI ys):wwB n es xs ys=false/\wwL n es xs ys=[]:=by
 unfold wwB wwL
 by_cases e:xs=[]
 ·rw [decide_eq_true e,if_pos e];exact ⟨rfl,rfl⟩
 ·have hno:¬ (xs ∈ wsL n es (hdI xs) (ltI xs)/\ys ∈ wsL n es (hdI xs) (ltI xs)):=fun g=>by
   obtain ⟨g1,g2,g3⟩:=wsL_ends g.2
   rcases h with q | q | q | q
   ·exact e q
   ·exact g1 q
   ·exact q g2.symm
   ·exact q g3.symm
  obtain ⟨k1,k2⟩:=wk_no (ps:=wsP n es (hdI xs) (ltI xs)) hno
  rw [if_neg e,k1,k2]
  exact ⟨by simp,rfl⟩
theorem ws_walk (n:Int)(es:List (Int × Int))(s t:Int):StpOk (wsL n es s t).length (wsP n es s t)/\(∀ x,(nbS (wsP n es s t) x).length<=12)/\(wsL n es s t).length<=1000/\(wsP n es s t).length<=1000000:=by
 have h9:=(wsL_ok (n:=n) (es:=es) (s:=s) (t:=t)).2.1
 have h2:=stpO_le_sq chB (wsL n es s t) h9
 exact ⟨steps_ok _ _,fun x=>by have:=deg_le chB (wsL n es s t) x;unfold wsP;omega,by omega,by unfold wsP;omega⟩
theorem WwS_c (n:Int)(v w u:Value)(es:List (Int × Int))(a b:List Int)(H:AH)(hr:RowP 115 H v es)(hlen:es.length<=1048576)(hes:∀ y ∈ es,I64 y.1/\I64 y.2)(ha:Row 3 H w a)(hla:a.length<=1048576)(hxa:∀ y ∈ a,I64 y)(hb:Row 3 H u b)(hlb:b.length<=1048576)(hxb:∀ y ∈ b,I64 y)(hn:I64 n) :
  ACalls Tryz.prog 44 [.agg (List.toArray [.int .i64 n,v]),w,u] H fun r H'=>∃ g,r=.tuple (List.toArray [g,.bool (wwB n es a b)])/\InL H.length H'.length 27 3 H' g (wwL n es a b)/\H<+:H':=by
 refine in44 rfl ?_
 intro Q hQ
 simp (disch:=omega) only [cd44,hr.boxG,SS,eq_self,reduceIte,reduceCtorEq,Nat.reduceEqDiff,Nat.reduceAdd]
 generalize hA:H ++ [AObj.cells [.int .i64 n,v] 26 false]=A
 have pA:H<+:A:=by rw [<- hA];exact List.prefix_append _ _
 have cA:A[H.length]?=some (.cells [.int .i64 n,v] 26 false):=by rw [<- hA];exact at_new ..
 have rA:=hr.pre pA
 have haA:=ha.pre pA
 by_cases e0:a.length=0
 ·have e0':((a.length:Nat):Int)=0:=by omega
  obtain ⟨k1,k2⟩:=ww_no (n:=n) (es:=es) (xs:=a) (ys:=b) (.inl (List.length_eq_zero_iff.1 e0))
  simp (disch:=omega) only [haA.len Tryz.underlying27,decide_eq_true e0',SS,eq_self,reduceIte,reduceCtorEq,Nat.reduceEqDiff,Nat.reduceAdd]
  refine hQ _ _ _ ?_
  simp (disch:=omega) only [SS,eq_self,reduceIte,reduceCtorEq,Nat.reduceEqDiff,Nat.reduceAdd]
  rw [k1,k2]
  have u0:=InU.new H.length 27 3 A pA.length_le
  refine ⟨_,rfl,?_,pre_app pA _⟩
  have:=u0.inl
  simpa using this
 have e0':¬ ((a.length:Nat):Int)=0:=by omega
 have hne:a ≠ []:=fun q=>e0 (by rw [q];rfl)
 have c0:=haA.cell (show 0<a.length by omega)
 have c1:=haA.cell (show a.length - 1<a.length by omega)
 rw [Nat.add_zero] at c0
 have hw1:IntKind.i64.wrap ((a.length:Int) - 1)=((a.length - 1:Nat):Int):=by rw [wrap64 (by omega) (by omega)];omega
 simp (disch:=omega) only [haA.len Tryz.underlying27,decide_eq_false e0',haA.ix Tryz.underlying27 cs3,Int.toNat_zero,Nat.add_zero,c0,hw1,Int.toNat_natCast,c1,ld_agg ag26 cs26 cA,SS,eq_self,reduceIte,reduceCtorEq,Nat.reduceEqDiff,Nat.reduceAdd]
 refine CallH.by (l7Ends_c n v es (hdI a) (ltI a) A rA (by omega)) ?_
 rintro _ B ⟨rfl,pB⟩
 have cB:=pre_at pB cA
 have pHB:=pA.trans pB
 have haB:=ha.pre pHB
 have d0:=haB.cell (show 0<a.length by omega)
 have d1:=haB.cell (show a.length - 1<a.length by omega)
 rw [Nat.add_zero] at d0
 have hB:wwB n es a b=wkB (wsL n es (hdI a) (ltI a)) (wsP n es (hdI a) (ltI a)) a b:=by unfold wwB;rw [decide_eq_false hne];rfl
 have hL:wwL n es a b=wkL (wsL n es (hdI a) (ltI a)) (wsP n es (hdI a) (ltI a)) a b:=by unfold wwL;rw [if_neg hne]
 by_cases e1:WsOk n es (hdI a) (ltI a)
 rotate_left
 ·have hw:wsL n es (hdI a) (ltI a)=[]:=by unfold wsL;rw [if_neg (fun q=>e1 q.1)]
  have hno:=wk_no (ls:=wsL n es (hdI a) (ltI a)) (ps:=wsP n es (hdI a) (ltI a)) (x:=a) (y:=b) (fun q=>by rw [hw] at q;simp at q)
  simp (disch:=omega) only [decide_eq_false e1,SS,eq_self,reduceIte,reduceCtorEq,Nat.reduceEqDiff,Nat.reduceAdd]
  refine hQ _ _ _ ?_
  simp (disch:=omega) only [SS,eq_self,reduceIte,reduceCtorEq,Nat.reduceEqDiff,Nat.reduceAdd]
  rw [hB,hL,hno.1,hno.2]
  have u0:=InU.new H.length 27 3 B pHB.length_le
  refine ⟨_,rfl,?_,pre_app pHB _⟩
  have:=u0.inl
  simpa using this
 obtain ⟨k1,k2,k3,k4⟩:=ws_walk n es (hdI a) (ltI a)
 obtain ⟨hsrt,h9,⟨kk,k8,hk⟩,_⟩:=wsL_ok (n:=n) (es:=es) (s:=hdI a) (t:=ltI a)
 rw [hB,hL] at hQ
 simp (disch:=omega) only [decide_eq_true e1,haB.len Tryz.underlying27,haB.ix Tryz.underlying27 cs3,Int.toNat_zero,Nat.add_zero,d0,hw1,Int.toNat_natCast,d1,ld_agg ag26 cs26 cB,SS,eq_self,reduceIte,reduceCtorEq,Nat.reduceEqDiff,Nat.reduceAdd]
 refine CallH.by (l7Ways_c n v es (hdI a) (ltI a) B (rA.pre pB) (by omega) e1) ?_
 rintro g C ⟨hgL,pC⟩
 have pHC:=pHB.trans pC
 simp (disch:=omega) only [SS,eq_self,reduceIte,reduceCtorEq,Nat.reduceEqDiff,Nat.reduceAdd]
 refine CallH.by (l7Turns_c hgL h9 k8 hk) ?_
 rintro _ D ⟨st,rfl,hp,pD⟩
 have pHD:=pHC.trans pD
 have hP:wsP n es (hdI a) (ltI a)=steps chB (wsL n es (hdI a) (ltI a)):=rfl
 rw [<- hP] at hp
 generalize wsP n es (hdI a) (ltI a)=ps at *
 generalize wsL n es (hdI a) (ltI a)=ls at *
 have hrow:SpRow D g st ls ps:=⟨⟨_,(hgL.row).pre pD⟩,by
  rcases hp with ⟨q1,q2⟩ | ⟨o,zs,q1,q2,q3,q4,q5⟩
  ·exact (show MineP 115 D D st ps from .inl ⟨q1,q2⟩).row
  ·exact (show MineP 115 C D st ps from .inr ⟨o,zs,q1,q2,q4,q5⟩).row⟩
 obtain ⟨us,r1,r2,r3⟩:=hgL.parts
 have hsts:Sts C g us ls:=⟨r1,r2,fun i hi=>(r3 i hi).row.1,fun i hi=>by
  have:ls.getD i [] ∈ ls:=by simp [hi]
  have:=hk _ this;omega,by omega,hsrt⟩
 simp (disch:=omega) only [SS,eq_self,reduceIte,reduceCtorEq,Nat.reduceEqDiff,Nat.reduceAdd]
 refine CallH.by (l3Walk_c hrow (hsts.pre pD) k3 k4 k1 k2 (ha.pre pHD) (hb.pre pHD) (by omega) (by omega)) ?_
 rintro r E ⟨hr2,pE⟩
 simp (disch:=omega) only [SS,eq_self,reduceIte,reduceCtorEq,Nat.reduceEqDiff,Nat.reduceAdd]
 refine CallH.by (l3Told_c r _ E hr2) ?_
 rintro _ _ ⟨rfl,rfl⟩
 simp (disch:=omega) only [SS,eq_self,reduceIte,reduceCtorEq,Nat.reduceEqDiff,Nat.reduceAdd]
 refine hQ _ _ _ ?_
 obtain ⟨vs,v1,_⟩:=hr2.parts
 simp (disch:=omega) only [v1.tup,SS,eq_self,reduceIte,reduceCtorEq,Nat.reduceEqDiff,Nat.reduceAdd]
 rw [wk_pos]
 exact ⟨r,rfl,hr2.wide pHD.length_le (Nat.le_refl _),pHD.trans pE⟩
theorem WwI_c (n:Int)(v w u:Value)(es:List (Int × Int))(a b:List Int)(H:AH)(hr:RowP 115 H v es)(hlen:es.length<=1048576)(hes:∀ y ∈ es,I64 y.1/\I64 y.2)(ha:Row 3 H w a)(hla:a.length<=1048576)(hxa:∀ y ∈ a,I64 y)(hb:Row 3 H u b)(hlb:b.length<=1048576)(hxb:∀ y ∈ b,I64 y)(hn:I64 n) :
  ACalls Tryz.prog 43 [.agg (List.toArray [.int .i64 n,v]),w,u] H fun r H'=>∃ g,r=.tuple (List.toArray [g,.bool (wwB n es a b)])/\InL H.length H'.length 27 3 H' g (wwL n es a b)/\H<+:H':=by
 refine in43 rfl ?_
 intro Q hQ
 simp (maxSteps:=1000000) (disch:=omega) only [cd43,hr.boxG,SS,eq_self,reduceIte,reduceCtorEq,Nat.reduceEqDiff,Nat.reduceAdd]
 generalize hA:H ++ [AObj.cells [.int .i64 n,v] 26 false]=A
 have pA:H<+:A:=by rw [<- hA];exact List.prefix_append _ _
 have cA:A[H.length]?=some (.cells [.int .i64 n,v] 26 false):=by rw [<- hA];exact at_new ..
 have rA:=hr.pre pA
 have haA:=ha.pre pA
 have hbA:=hb.pre pA
 have no:(a=[]∨b=[]∨hdI a ≠ hdI b∨ltI a ≠ ltI b)->∃ g,(Value.tuple (List.toArray [.slice none 0 0,.bool false]):Value)=.tuple (List.toArray [g,.bool (wwB n es a b)])/\InL H.length A.length 27 3 A g (wwL n es a b)/\H<+:A:=fun q=>by
  obtain ⟨k1,k2⟩:=ww_no (n:=n) (es:=es) q
  rw [k1,k2]
  exact ⟨_,rfl,.inl ⟨rfl,rfl⟩,pA⟩
 by_cases e0:a.length=0
 ·have e0':((a.length:Nat):Int)=0:=by omega
  simp (maxSteps:=1000000) (disch:=omega) only [haA.len Tryz.underlying27,decide_eq_true e0',SS,eq_self,reduceIte,reduceCtorEq,Nat.reduceEqDiff,Nat.reduceAdd]
  refine hQ _ _ _ ?_
  simp (maxSteps:=1000000) (disch:=omega) only [SS,eq_self,reduceIte,reduceCtorEq,Nat.reduceEqDiff,Nat.reduceAdd]
  exact no (.inl (List.length_eq_zero_iff.1 e0))
 have e0':¬ ((a.length:Nat):Int)=0:=by omega
 have hne:a ≠ []:=fun q=>e0 (by rw [q];rfl)
 by_cases f0:b.length=0
 ·have f0':((b.length:Nat):Int)=0:=by omega
  simp (maxSteps:=1000000) (disch:=omega) only [haA.len Tryz.underlying27,decide_eq_false e0',hbA.len Tryz.underlying27,decide_eq_true f0',SS,eq_self,reduceIte,reduceCtorEq,Nat.reduceEqDiff,Nat.reduceAdd]
  refine hQ _ _ _ ?_
  simp (maxSteps:=1000000) (disch:=omega) only [SS,eq_self,reduceIte,reduceCtorEq,Nat.reduceEqDiff,Nat.reduceAdd]
  exact no (.inr (.inl (List.length_eq_zero_iff.1 f0)))
 have f0':¬ ((b.length:Nat):Int)=0:=by omega
 have c0:=haA.cell (show 0<a.length by omega)
 have c1:=haA.cell (show a.length - 1<a.length by omega)
 have b0:=hbA.cell (show 0<b.length by omega)
 have b1:=hbA.cell (show b.length - 1<b.length by omega)
 rw [Nat.add_zero] at c0 b0
 have hw1:IntKind.i64.wrap ((a.length:Int) - 1)=((a.length - 1:Nat):Int):=by rw [wrap64 (by omega) (by omega)];omega
 have hw2:IntKind.i64.wrap ((b.length:Int) - 1)=((b.length - 1:Nat):Int):=by rw [wrap64 (by omega) (by omega)];omega
 by_cases g0:a.getD 0 0=b.getD 0 0
 rotate_left
 ·simp (maxSteps:=1000000) (disch:=omega) only [haA.len Tryz.underlying27,decide_eq_false e0',hbA.len Tryz.underlying27,decide_eq_false f0',haA.ix Tryz.underlying27 cs3,hbA.ix Tryz.underlying27 cs3,Int.toNat_zero,Nat.add_zero,c0,b0,decide_eq_true g0,SS,eq_self,reduceIte,reduceCtorEq,Nat.reduceEqDiff,Nat.reduceAdd]
  refine hQ _ _ _ ?_
  simp (maxSteps:=1000000) (disch:=omega) only [SS,eq_self,reduceIte,reduceCtorEq,Nat.reduceEqDiff,Nat.reduceAdd]
  exact no (.inr (.inr (.inl g0)))
 have g0':¬ ¬ a.getD 0 0=b.getD 0 0:=fun h=>h g0
 by_cases g1:a.getD (a.length - 1) 0=b.getD (b.length - 1) 0
 rotate_left
 ·simp (maxSteps:=1000000) (disch:=omega) only [haA.len Tryz.underlying27,decide_eq_false e0',hbA.len Tryz.underlying27,decide_eq_false f0',haA.ix Tryz.underlying27 cs3,hbA.ix Tryz.underlying27 cs3,Int.toNat_zero,Nat.add_zero,c0,b0,decide_eq_false g0',hw1,hw2,Int.toNat_natCast,c1,b1,decide_eq_true g1,SS,eq_self,reduceIte,reduceCtorEq,Nat.reduceEqDiff,Nat.reduceAdd]
  refine hQ _ _ _ ?_
  simp (maxSteps:=1000000) (disch:=omega) only [SS,eq_self,reduceIte,reduceCtorEq,Nat.reduceEqDiff,Nat.reduceAdd]
  exact no (.inr (.inr (.inr g1)))
 have g1':¬ ¬ a.getD (a.length - 1) 0=b.getD (b.length - 1) 0:=fun h=>h g1
 simp (maxSteps:=1000000) (disch:=omega) only [haA.len Tryz.underlying27,decide_eq_false e0',hbA.len Tryz.underlying27,decide_eq_false f0',haA.ix Tryz.underlying27 cs3,hbA.ix Tryz.underlying27 cs3,Int.toNat_zero,Nat.add_zero,c0,b0,decide_eq_false g0',hw1,hw2,Int.toNat_natCast,c1,b1,decide_eq_false g1',ld_agg ag26 cs26 cA,alloc_sp,SS,eq_self,reduceIte,reduceCtorEq,Nat.reduceEqDiff,Nat.reduceAdd]
 generalize hB:A ++ [AObj.cells [.slice none 0 0,.slice none 0 0] 34 false]=B
 have pB:A<+:B:=by rw [<- hB];exact List.prefix_append _ _
 have cB:B[A.length]?=some (.cells [.slice none 0 0,.slice none 0 0] 34 false):=by rw [<- hB];exact at_new ..
 have lB:B.length=A.length+1:=by rw [<- hB];simp
 have pHB:=pA.trans pB
 refine CallH.by (WyI_c (hdI a) (ltI a) n v es B (rA.pre pB) (by omega) hes hn) ?_
 rintro _ C ⟨sa,sb,rfl,hs,pC⟩
 have hBo:wwB n es a b=wkB (wsL n es (hdI a) (ltI a)) (wsP n es (hdI a) (ltI a)) a b:=by unfold wwB;rw [decide_eq_false hne];rfl
 have hLo:wwL n es a b=wkL (wsL n es (hdI a) (ltI a)) (wsP n es (hdI a) (ltI a)) a b:=by unfold wwL;rw [if_neg hne]
 have cC:=pre_at pC cB
 have lC:=pC.length_le
 have hstore:=hs.row.store cC rfl
 obtain ⟨k1,k2,k3,k4⟩:=ws_walk n es (hdI a) (ltI a)
 obtain ⟨hsrt,h9,⟨kk,k8,hk⟩,_⟩:=wsL_ok (n:=n) (es:=es) (s:=hdI a) (t:=ltI a)
 have hwB:wsB n es (hdI a) (ltI a)=decide (0<(wsL n es (hdI a) (ltI a)).length):=rfl
 rw [hBo,hLo] at hQ
 clear no
 rw [hwB]
 generalize wsP n es (hdI a) (ltI a)=ps at *
 generalize wsL n es (hdI a) (ltI a)=ls at *
 have hs2:=hs
 obtain ⟨mid,m1,m2,hL,hP⟩:=hs2
 have keep:∀ {j:Nat} {y:AObj},j ≠ A.length->C[j]?=some y->(C.set A.length (.cells [sa,sb] 34 false))[j]?=some y:=fun hj hy=>by
  rw [List.getElem?_set_ne (fun e=>hj e.symm)];exact hy
 have d4:=at_set (d:=.cells [sa,sb] 34 false) cC
 have pHS:H<+:C.set A.length (.cells [sa,sb] 34 false):=pre_set (pHB.trans pC) (pA.length_le) _
 have hkeq:C[A.length]?=B[A.length]?:=by rw [cC,cB]
 simp (maxSteps:=1000000) (disch:=omega) only [hstore,hkeq,SS,eq_self,reduceIte,reduceCtorEq,Nat.reduceEqDiff,Nat.reduceAdd]
 by_cases e:0<ls.length
 rotate_left
 ·have hnil:ls=[]:=List.length_eq_zero_iff.1 (by omega)
  have hno:=wk_no (ls:=ls) (ps:=ps) (x:=a) (y:=b) (fun q=>by rw [hnil] at q;simp at q)
  simp (maxSteps:=1000000) (disch:=omega) only [decide_eq_false e,SS,eq_self,reduceIte,reduceCtorEq,Nat.reduceEqDiff,Nat.reduceAdd]
  refine hQ _ _ _ ?_
  simp (maxSteps:=1000000) (disch:=omega) only [SS,eq_self,reduceIte,reduceCtorEq,Nat.reduceEqDiff,Nat.reduceAdd]
  rw [hno.1,hno.2]
  exact ⟨_,rfl,.inl ⟨rfl,rfl⟩,pHS⟩
 have hLs:InL B.length mid 27 3 (C.set A.length (.cells [sa,sb] 34 false)) sa ls:=by
  rcases hL with q | ⟨o,us',q1,q2⟩
  ·exact .inl q
  ·exact .inr ⟨o,us',q1,q2.move fun j y hj1 hj2 hy=>keep (by omega) hy⟩
 have hPs:RowP 115 (C.set A.length (.cells [sa,sb] 34 false)) sb ps:=by
  rcases hP with ⟨q1,q2⟩ | ⟨o,zs,q1,q2,q3,q4,q5⟩
  ·exact (show MineP 115 C _ sb ps from .inl ⟨q1,q2⟩).row
  ·exact (show MineP 115 B _ sb ps from .inr ⟨o,zs,q1,by omega,keep (by omega) q4,q5⟩).row
 have hrow:SpRow (C.set A.length (.cells [sa,sb] 34 false)) sa sb ls ps:=⟨⟨_,hLs.row⟩,hPs⟩
 obtain ⟨us,r1,r2,r3⟩:=hLs.parts
 have hsts:Sts (C.set A.length (.cells [sa,sb] 34 false)) sa us ls:=⟨r1,r2,fun i hi=>(r3 i hi).row.1,fun i hi=>by
  have:ls.getD i [] ∈ ls:=by simp [hi]
  have:=hk _ this;omega,by omega,hsrt⟩
 simp (maxSteps:=1000000) (disch:=omega) only [decide_eq_true e,ld_agg ag34 cs34 d4,SS,eq_self,reduceIte,reduceCtorEq,Nat.reduceEqDiff,Nat.reduceAdd]
 refine CallH.by (walk_c hrow hsts k3 k4 k1 k2 (ha.pre pHS) (hb.pre pHS) (by omega) (by omega)) ?_
 rintro _ E ⟨⟨g,rfl,hg⟩,pE⟩
 have ht:isTup g=false:=by
  obtain ⟨vs,v1,_⟩:=hg.parts
  exact v1.tup
 simp (maxSteps:=1000000) (disch:=omega) only [SS,eq_self,reduceIte,reduceCtorEq,Nat.reduceEqDiff,Nat.reduceAdd]
 refine hQ _ _ _ ?_
 simp (maxSteps:=1000000) (disch:=omega) only [ht,SS,eq_self,reduceIte,reduceCtorEq,Nat.reduceEqDiff,Nat.reduceAdd]
 exact ⟨g,rfl,hg.wide pHS.length_le (Nat.le_refl _),pHS.trans pE⟩
theorem bfs_lip {L:List (List Int)}(hL:LOk L.length L){i:Nat}(hi:i<L.length)(f:Nat->Nat)(f0:f i=0)
  (lip:∀ u v:Nat,u<L.length->v<L.length->(v:Int) ∈ L.getD u []->f v<=f u+1) :
  ∀ u,u<L.length->0<=(bfs L i).getD u 0->(f u:Int)<=(bfs L i).getD u 0:=by
 obtain ⟨q,hDI⟩:=bfs_DI hL hi
 have B:∀ d v:Nat,v<L.length->(bfs L i).getD v 0=(d:Int)->f v<=d:=by
  intro d
  induction d with
  | zero =>
   intro v hv h
   rcases hDI.src v hv (show 0<=(bfs L i).getD v 0 by omega) with ⟨e,_⟩ | ⟨u,u1,u2,u3,u4⟩
   ·subst e;omega
   ·have u2':0<=(bfs L i).getD u 0:=u2
    have u4':(bfs L i).getD v 0=(bfs L i).getD u 0+1:=u4
    omega
  | succ d ih =>
   intro v hv h
   rcases hDI.src v hv (show 0<=(bfs L i).getD v 0 by omega) with ⟨e,_⟩ | ⟨u,u1,u2,u3,u4⟩
   ·subst e;omega
   ·have u2':0<=(bfs L i).getD u 0:=u2
    have u4':(bfs L i).getD v 0=(bfs L i).getD u 0+1:=u4
    have h1:=ih u u1 (by omega)
    have h2:=lip u v u1 hv u3
    omega
 intro u hu h0
 have:=B ((bfs L i).getD u 0).toNat u hu (by omega)
 omega
theorem dfF_tri (a b c:List Int):∀ k,(dfF a c k).length<=(dfF a b k).length+(dfF b c k).length
 | 0=>Nat.zero_le _
 | k+1=>by
  have ih:=dfF_tri a b c k
  simp only [dfF,List.length_append]
  by_cases h1:a.getD k 0=b.getD k 0 <;> by_cases h2:b.getD k 0=c.getD k 0 <;> by_cases h3:a.getD k 0=c.getD k 0 <;> simp only [h1,h2,h3,ne_eq,not_true_eq_false,not_false_eq_true,if_true,if_false,ite_true,ite_false,List.length_nil,List.length_singleton,decide_true,decide_false] <;> first | omega | (exfalso;exact h3 (h1.trans h2)) | (simp_all;try omega)
theorem dfF_sym (a b:List Int):∀ k,(dfF a b k).length=(dfF b a k).length
 | 0=>rfl
 | k+1=>by
  have ih:=dfF_sym a b k
  simp only [dfF,List.length_append,ih]
  by_cases h1:a.getD k 0=b.getD k 0
  ·rw [if_neg (fun q=>q h1),if_neg (fun q=>q h1.symm)]
  ·rw [if_pos h1,if_pos (fun q=>h1 q.symm)]
   try rfl
theorem dfF_self (a:List Int):∀ k,(dfF a a k).length=0
 | 0=>rfl
 | k+1=>by
  have ih:=dfF_self a k
  simp only [dfF,List.length_append,ih]
  rw [if_neg (fun q=>q rfl)];rfl
theorem ww_len {n:Int}{es:List (Int × Int)}{a b:List Int}(h:wwB n es a b=true):(dfF a b a.length).length+1<=(wwL n es a b).length/\b.length=a.length/\(wwL n es a b).length<=1000/\a.length<=8:=by
 unfold wwB at h
 rw [Bool.and_eq_true] at h
 obtain ⟨h1,h2⟩:=h
 have hne:¬ a=[]:=by intro q;rw [decide_eq_true q] at h1;cases h1
 unfold wwL
 rw [if_neg hne]
 generalize hdI a=s at *
 generalize ltI a=t at *
 obtain ⟨hsr,h9,⟨k,hk8,hk⟩,_⟩:=wsL_ok (n:=n) (es:=es) (s:=s) (t:=t)
 obtain ⟨w1,_,_,_⟩:=ws_walk n es s t
 have hps:wsP n es s t=steps chB (wsL n es s t):=rfl
 unfold wkL
 rw [if_pos h2]
 unfold wkB at h2
 rw [decide_eq_true_eq] at h2
 obtain ⟨ha,hb,h0⟩:=h2
 generalize wsL n es s t=ls at *
 generalize wsP n es s t=ps at *
 have ia:=List.idxOf_lt_length_iff.2 ha
 have ib:=List.idxOf_lt_length_iff.2 hb
 have la:ls.getD (ls.idxOf a) []=a:=by
  rw [List.getD_eq_getElem?_getD,List.getElem?_eq_getElem ia,Option.getD_some];exact List.getElem_idxOf ia
 have lb:ls.getD (ls.idxOf b) []=b:=by
  rw [List.getD_eq_getElem?_getD,List.getElem?_eq_getElem ib,Option.getD_some];exact List.getElem_idxOf ib
 have hl:=rdS_len ls.length ps
 have hL:=rdS_ok w1
 have hS:=rdS_sym (n:=ls.length) ps
 have at_:∀ u,u<ls.length->(ls.getD u []).length=k:=fun u hu=>hk _ (by simp [hu])
 have key:=bfs_lip hL (i:=ls.idxOf b) (by rw [hl];exact ib) (fun u=>(dfF (ls.getD u []) b k).length) (by simp only [lb];exact dfF_self b k)
  (fun u v hu hv hm=>by
   rw [hl] at hu hv
   rw [rdS_at _ _ hu,hps,steps_nb chB ls hu hv] at hm
   have hc:(dfF (ls.getD v []) (ls.getD u []) k).length=1:=by
    rcases hm with ⟨_,q⟩ | ⟨_,q⟩
    ·unfold chB dfL at q
     rw [decide_eq_true_eq,at_ v hv] at q
     exact q
    ·unfold chB dfL at q
     rw [decide_eq_true_eq,at_ u hu] at q
     rw [dfF_sym];exact q
   have:=dfF_tri (ls.getD v []) (ls.getD u []) b k
   show (dfF (ls.getD v []) b k).length<=(dfF (ls.getD u []) b k).length+1
   omega) (ls.idxOf a) (by rw [hl];exact ia) h0
 simp only [la] at key
 have hka:=hk a ha
 have hkb:=hk b hb
 obtain ⟨d,hd⟩:∃ d:Nat,(bfs (rdS ls.length ps) (ls.idxOf b)).getD (ls.idxOf a) 0=d:=⟨((bfs (rdS ls.length ps) (ls.idxOf b)).getD (ls.idxOf a) 0).toNat,by omega⟩
 have wl:=wy_len hL hS (j:=ls.idxOf b) (by rw [hl];exact ib) d (ls.idxOf a) (by rw [hl];exact ia) hd
 have hbr:=(bfs_DI hL (i:=ls.idxOf b) (by rw [hl];exact ib))
 obtain ⟨q,hDI⟩:=hbr
 have hlo:=(hDI.bi.lo (ls.idxOf a) (by rw [hl];exact ia)).2
 have hq:=hDI.bi.len_le
 rw [hl] at hq
 rw [List.length_map,hd,Int.toNat_natCast,wl.1,hka]
 rw [hd] at key
 have hlo':(bfs (rdS ls.length ps) (ls.idxOf b)).getD (ls.idxOf a) 0<(q.length:Int):=hlo
 rw [hd] at hlo'
 have hq2:q.length<=ls.length:=hq
 refine ⟨by omega,by omega,by omega,by omega⟩
def cd12:Cd:=(.seq (.reg [⟨⟨some 4,.assign (.const (.bool false)),none⟩,[]⟩]) (.seq (.seq (.reg [⟨⟨some 6,.move (.tmp 0),none⟩,[]⟩,⟨⟨some 7,.call ⟨(.builtin .len),#[.tmp 6],#[27]⟩,none⟩,[]⟩,⟨⟨some 8,.move (.tmp 1),none⟩,[]⟩,⟨⟨some 9,.call ⟨(.builtin .len),#[.tmp 8],#[27]⟩,none⟩,[]⟩,⟨⟨some 10,.binOp .neq 3 (.tmp 7) (.tmp 9) 3,none⟩,[]⟩]) (.cond (.tmp 10) (.seq (.reg [⟨⟨some 4,.assign (.const (.bool false)),none⟩,[]⟩]) .ret) .skip)) (.seq (.seq (.reg [⟨⟨some 5,.assign (.const (.int .i64 0)),none⟩,[]⟩]) (.block 0 (.loop (.seq (.seq (.reg [⟨⟨some 11,.move (.tmp 5),none⟩,[]⟩,⟨⟨some 12,.move (.tmp 0),none⟩,[]⟩,⟨⟨some 13,.call ⟨(.builtin .len),#[.tmp 12],#[27]⟩,none⟩,[]⟩,⟨⟨some 14,.binOp .lss 3 (.tmp 11) (.tmp 13) 3,none⟩,[]⟩]) (.cond (.tmp 14) .skip (.exit 0))) (.seq (.block 1 (.seq (.reg [⟨⟨some 17,.move (.tmp 0),none⟩,[]⟩,⟨⟨some 18,.move (.tmp 5),none⟩,[]⟩,⟨⟨some 19,.indexAddr 27 (.tmp 17) (.tmp 18),none⟩,[]⟩,⟨⟨some 20,.load 3 (.tmp 19),none⟩,[]⟩,⟨⟨some 21,.move (.tmp 1),none⟩,[]⟩,
 ⟨⟨some 22,.move (.tmp 5),none⟩,[]⟩,
  ⟨⟨some 23,.indexAddr 27 (.tmp 21) (.tmp 22),none⟩,[]⟩,
  ⟨⟨some 24,.load 3 (.tmp 23),none⟩,[]⟩,
  ⟨⟨some 25,.binOp .neq 3 (.tmp 20) (.tmp 24) 3,none⟩,[]⟩]) (.cond (.tmp 25) (.seq (.reg [⟨⟨some 4,.assign (.const (.bool false)),none⟩,[]⟩]) .ret) .skip))) (.reg [⟨⟨some 15,.move (.tmp 5),none⟩,[]⟩,
  ⟨⟨some 16,.binOp .add 3 (.tmp 15) (.const (.int .i64 1)) 3,none⟩,[]⟩,
  ⟨⟨some 5,.assign (.tmp 16),none⟩,[]⟩])))))) (.seq (.reg [⟨⟨some 4,.assign (.const (.bool true)),none⟩,[]⟩]) .ret))))
theorem in12:InT Tryz.prog 12 2 [.tmp 4] cd12:=InT.mk (by kernel_rfl) [(6,[(0,false),(1,false),(2,false),(3,false),(4,false),(5,false),(6,false),(7,false),(8,false)])] Tryz.func12 rfl (by kernel_rfl) (by kernel_rfl) (of_decide_eq_true (by kernel_rfl)) (by kernel_rfl)
def cd29:Cd:=(.seq (.reg [⟨⟨some 4,.assign (.const (.bool false)),none⟩,[]⟩]) (.seq (.seq (.reg [⟨⟨some 6,.move (.tmp 0),none⟩,[]⟩,⟨⟨some 7,.call ⟨(.builtin .len),#[.tmp 6],#[32]⟩,none⟩,[]⟩,⟨⟨some 8,.move (.tmp 1),none⟩,[]⟩,⟨⟨some 9,.call ⟨(.builtin .len),#[.tmp 8],#[32]⟩,none⟩,[]⟩,⟨⟨some 10,.binOp .neq 3 (.tmp 7) (.tmp 9) 3,none⟩,[]⟩]) (.cond (.tmp 10) (.seq (.reg [⟨⟨some 4,.assign (.const (.bool false)),none⟩,[]⟩]) .ret) .skip)) (.seq (.seq (.reg [⟨⟨some 5,.assign (.const (.int .i64 0)),none⟩,[]⟩]) (.block 0 (.loop (.seq (.seq (.reg [⟨⟨some 11,.move (.tmp 5),none⟩,[]⟩,⟨⟨some 12,.move (.tmp 0),none⟩,[]⟩,⟨⟨some 13,.call ⟨(.builtin .len),#[.tmp 12],#[32]⟩,none⟩,[]⟩,⟨⟨some 14,.binOp .lss 3 (.tmp 11) (.tmp 13) 3,none⟩,[]⟩]) (.cond (.tmp 14) .skip (.exit 0))) (.seq (.block 1 (.seq (.reg [⟨⟨some 17,.move (.tmp 0),none⟩,[]⟩,⟨⟨some 18,.move (.tmp 5),none⟩,[]⟩,⟨⟨some 19,.indexAddr 32 (.tmp 17) (.tmp 18),none⟩,[]⟩,⟨⟨some 20,.load 27 (.tmp 19),none⟩,[]⟩,⟨⟨some 21,.move (.tmp 1),none⟩,[]⟩,
 ⟨⟨some 22,.move (.tmp 5),none⟩,[]⟩,
  ⟨⟨some 23,.indexAddr 32 (.tmp 21) (.tmp 22),none⟩,[]⟩,
  ⟨⟨some 24,.load 27 (.tmp 23),none⟩,[]⟩,
  ⟨⟨some 25,.call ⟨(.value (.func 12)),#[.tmp 20,.tmp 24],#[27,27]⟩,none⟩,[]⟩,
  ⟨⟨some 26,.unOp .not 4 (.tmp 25),none⟩,[]⟩]) (.cond (.tmp 26) (.seq (.reg [⟨⟨some 4,.assign (.const (.bool false)),none⟩,[]⟩]) .ret) .skip))) (.reg [⟨⟨some 15,.move (.tmp 5),none⟩,[]⟩,
  ⟨⟨some 16,.binOp .add 3 (.tmp 15) (.const (.int .i64 1)) 3,none⟩,[]⟩,
  ⟨⟨some 5,.assign (.tmp 16),none⟩,[]⟩])))))) (.seq (.reg [⟨⟨some 4,.assign (.const (.bool true)),none⟩,[]⟩]) .ret))))
theorem in29:InT Tryz.prog 29 2 [.tmp 4] cd29:=InT.mk (by kernel_rfl) [(6,[(0,false),(1,false),(2,false),(3,false),(4,false),(5,false),(6,false),(7,false),(8,true),(9,false)])] Tryz.func29 rfl (by kernel_rfl) (by kernel_rfl) (of_decide_eq_true (by kernel_rfl)) (by kernel_rfl)
def cd63:Cd:=(.seq (.reg [⟨⟨some 4,.assign (.const (.bool false)),none⟩,[]⟩]) (.seq (.seq (.reg [⟨⟨some 6,.move (.tmp 0),none⟩,[]⟩,⟨⟨some 7,.call ⟨(.builtin .len),#[.tmp 6],#[24]⟩,none⟩,[]⟩,⟨⟨some 8,.move (.tmp 1),none⟩,[]⟩,⟨⟨some 9,.call ⟨(.builtin .len),#[.tmp 8],#[24]⟩,none⟩,[]⟩,⟨⟨some 10,.binOp .neq 3 (.tmp 7) (.tmp 9) 3,none⟩,[]⟩]) (.cond (.tmp 10) (.seq (.reg [⟨⟨some 4,.assign (.const (.bool false)),none⟩,[]⟩]) .ret) .skip)) (.seq (.seq (.reg [⟨⟨some 5,.assign (.const (.int .i64 0)),none⟩,[]⟩]) (.block 0 (.loop (.seq (.seq (.reg [⟨⟨some 11,.move (.tmp 5),none⟩,[]⟩,⟨⟨some 12,.move (.tmp 0),none⟩,[]⟩,⟨⟨some 13,.call ⟨(.builtin .len),#[.tmp 12],#[24]⟩,none⟩,[]⟩,⟨⟨some 14,.binOp .lss 3 (.tmp 11) (.tmp 13) 3,none⟩,[]⟩]) (.cond (.tmp 14) .skip (.exit 0))) (.seq (.block 1 (.seq (.reg [⟨⟨some 17,.move (.tmp 0),none⟩,[]⟩,⟨⟨some 18,.move (.tmp 5),none⟩,[]⟩,⟨⟨some 19,.indexAddr 24 (.tmp 17) (.tmp 18),none⟩,[]⟩,⟨⟨some 20,.load 115 (.tmp 19),none⟩,[]⟩,⟨⟨some 21,.move (.tmp 1),none⟩,[]⟩,
 ⟨⟨some 22,.move (.tmp 5),none⟩,[]⟩,
  ⟨⟨some 23,.indexAddr 24 (.tmp 21) (.tmp 22),none⟩,[]⟩,
  ⟨⟨some 24,.load 115 (.tmp 23),none⟩,[]⟩,
  ⟨⟨some 25,.binOp .neq 115 (.tmp 20) (.tmp 24) 115,none⟩,[]⟩]) (.cond (.tmp 25) (.seq (.reg [⟨⟨some 4,.assign (.const (.bool false)),none⟩,[]⟩]) .ret) .skip))) (.reg [⟨⟨some 15,.move (.tmp 5),none⟩,[]⟩,
  ⟨⟨some 16,.binOp .add 3 (.tmp 15) (.const (.int .i64 1)) 3,none⟩,[]⟩,
  ⟨⟨some 5,.assign (.tmp 16),none⟩,[]⟩])))))) (.seq (.reg [⟨⟨some 4,.assign (.const (.bool true)),none⟩,[]⟩]) .ret))))
theorem in63:InT Tryz.prog 63 2 [.tmp 4] cd63:=InT.mk (by kernel_rfl) [(6,[(0,false),(1,false),(2,false),(3,false),(4,false),(5,false),(6,false),(7,false),(8,false)])] Tryz.func63 rfl (by kernel_rfl) (by kernel_rfl) (of_decide_eq_true (by kernel_rfl)) (by kernel_rfl)
end Go.Proofs.YtlcipphiflcaiaaGreat.Ai
namespace Go.Proofs.YtlcipphiflcaiaaGreat.Ai
open Go Go.RowKit
theorem vInts_c (v w:Value)(xs:List Int)(H:AH)(hr:Row 3 H v xs)(hs:Row 3 H w xs)(hl:xs.length<=1000000):ACalls Tryz.prog 12 [v,w] H fun r H'=>r=.bool true/\H=H':=by
 refine in12 rfl ?_
 intro Q hQ
 have e0:¬ ¬ ((xs.length:Nat):Int)=((xs.length:Nat):Int):=fun h=>h rfl
 simp (disch:=omega) only [cd12,hr.len Tryz.underlying27,hs.len Tryz.underlying27,decide_eq_false e0,SS,eq_self,reduceIte,reduceCtorEq,Nat.reduceEqDiff,Nat.reduceAdd]
 refine LoopH.by (fun m s H'=>∃ (i:Nat),m+i=xs.length/\s 0=v/\s 1=w/\s 5=.int .i64 ((i:Nat):Int)/\H=H') xs.length ?_ ?_
 ·exact ⟨0,by simp,rfl,rfl,rfl,rfl⟩
 rintro m s H' ⟨i,hm,h0,h1,h5,rfl⟩
 simp (disch:=omega) only [h0,h1,h5,hr.len Tryz.underlying27,SS,eq_self,reduceIte,reduceCtorEq,Nat.reduceEqDiff,Nat.reduceAdd]
 refine brD.intro (fun g=>?_) (fun g=>?_)
 ·have hi:i<xs.length:=by omega
  have c1:=hr.cell hi
  have c2:=hs.cell hi
  have e1:¬ ¬ xs.getD i 0=xs.getD i 0:=fun h=>h rfl
  simp (disch:=omega) only [h0,h1,h5,hr.ix Tryz.underlying27 cs3,hs.ix Tryz.underlying27 cs3,Int.toNat_natCast,c1,c2,decide_eq_false e1,wrap64,SS,eq_self,reduceIte,reduceCtorEq,Nat.reduceEqDiff,Nat.reduceAdd]
  refine ⟨m - 1,by omega,i+1,?_⟩
  (repeat' first | exact rfl | apply And.intro) <;> first | (simp only [Value.int.injEq,true_and];omega) | omega | rfl | assumption | (simp;done) | (simp;omega)
 ·simp (disch:=omega) only [SS,eq_self,reduceIte,reduceCtorEq,Nat.reduceEqDiff,Nat.reduceAdd]
  refine hQ _ _ _ ?_
  simp (disch:=omega) only [SS,eq_self,reduceIte,reduceCtorEq,Nat.reduceEqDiff,Nat.reduceAdd]
theorem vTable_c {b1 b2:Nat}(v w:Value)(ls:List (List Int))(H:AH)(hr:RowLB b1 27 3 H v ls)(hs:RowLB b2 27 3 H w ls)(hl:ls.length<=1000000)(hll:∀ l ∈ ls,l.length<=1000000):ACalls Tryz.prog 29 [v,w] H fun r H'=>r=.bool true/\H=H':=by
 obtain ⟨us,r1,_,r2,r3⟩:=hr
 obtain ⟨ws,s1,_,s2,s3⟩:=hs
 refine in29 rfl ?_
 intro Q hQ
 have e0:¬ ¬ ((us.length:Nat):Int)=((ws.length:Nat):Int):=fun h=>h (by omega)
 simp (disch:=omega) only [cd29,r1.len Tryz.underlying32,s1.len Tryz.underlying32,decide_eq_false e0,SS,eq_self,reduceIte,reduceCtorEq,Nat.reduceEqDiff,Nat.reduceAdd]
 refine LoopH.by (fun m s H'=>∃ (i:Nat),m+i=ls.length/\s 0=v/\s 1=w/\s 5=.int .i64 ((i:Nat):Int)/\H=H') ls.length ?_ ?_
 ·exact ⟨0,by simp,rfl,rfl,rfl,rfl⟩
 rintro m s H' ⟨i,hm,h0,h1,h5,rfl⟩
 simp (disch:=omega) only [h0,h1,h5,r1.len Tryz.underlying32,SS,eq_self,reduceIte,reduceCtorEq,Nat.reduceEqDiff,Nat.reduceAdd]
 refine brD.intro (fun g=>?_) (fun g=>?_)
 ·have hi:i<ls.length:=by omega
  have c1:=r1.cell (show i<us.length by omega)
  have c2:=s1.cell (show i<ws.length by omega)
  simp (disch:=omega) only [h0,h1,h5,r1.ix Tryz.underlying32 cs27,s1.ix Tryz.underlying32 cs27,Int.toNat_natCast,c1,c2,SS,eq_self,reduceIte,reduceCtorEq,Nat.reduceEqDiff,Nat.reduceAdd]
  refine CallH.by (vInts_c _ _ (ls.getD i []) H (r3 i hi).1 (s3 i hi).1 (hll _ (by simp [hi]))) ?_
  rintro _ _ ⟨rfl,rfl⟩
  simp (disch:=omega) only [h0,h1,h5,wrap64,SS,eq_self,reduceIte,reduceCtorEq,Nat.reduceEqDiff,Nat.reduceAdd]
  refine ⟨m - 1,by omega,i+1,?_⟩
  (repeat' first | exact rfl | apply And.intro) <;> first | (simp only [Value.int.injEq,true_and];omega) | omega | rfl | assumption | (simp;done) | (simp;omega)
 ·simp (disch:=omega) only [SS,eq_self,reduceIte,reduceCtorEq,Nat.reduceEqDiff,Nat.reduceAdd]
  refine hQ _ _ _ ?_
  simp (disch:=omega) only [SS,eq_self,reduceIte,reduceCtorEq,Nat.reduceEqDiff,Nat.reduceAdd]
theorem vPairs_c (v w:Value)(ps:List (Int × Int))(H:AH)(hr:RowP 115 H v ps)(hs:RowP 115 H w ps)(hl:ps.length<=1000000):ACalls Tryz.prog 63 [v,w] H fun r H'=>r=.bool true/\H=H':=by
 refine in63 rfl ?_
 intro Q hQ
 have e0:¬ ¬ ((ps.length:Nat):Int)=((ps.length:Nat):Int):=fun h=>h rfl
 simp (disch:=omega) only [cd63,hr.len Tryz.underlying24,hs.len Tryz.underlying24,decide_eq_false e0,SS,eq_self,reduceIte,reduceCtorEq,Nat.reduceEqDiff,Nat.reduceAdd]
 refine LoopH.by (fun m s H'=>∃ (i:Nat),m+i=ps.length/\s 0=v/\s 1=w/\s 5=.int .i64 ((i:Nat):Int)/\H=H') ps.length ?_ ?_
 ·exact ⟨0,by simp,rfl,rfl,rfl,rfl⟩
 rintro m s H' ⟨i,hm,h0,h1,h5,rfl⟩
 simp (disch:=omega) only [h0,h1,h5,hr.len Tryz.underlying24,SS,eq_self,reduceIte,reduceCtorEq,Nat.reduceEqDiff,Nat.reduceAdd]
 refine brD.intro (fun g=>?_) (fun g=>?_)
 ·have hi:i<ps.length:=by omega
  have c1:=hr.ld ag115 cs115 hi
  have c2:=hs.ld ag115 cs115 hi
  have e1:∀ a b:Int,binA Tryz.prog .neq 115 (.agg (List.toArray [.int .i64 a,.int .i64 b])) (.agg (List.toArray [.int .i64 a,.int .i64 b]))=some (.bool false):=by
   intro a b
   have h:binA Tryz.prog .neq 115 (.agg (List.toArray [.int .i64 a,.int .i64 b])) (.agg (List.toArray [.int .i64 a,.int .i64 b]))=some (.bool (!(a == a && b == b))):=by kernel_rfl
   rw [h];simp
  simp (disch:=omega) only [h0,h1,h5,hr.ix Tryz.underlying24 cs115,hs.ix Tryz.underlying24 cs115,Int.toNat_natCast,c1,c2,e1,wrap64,SS,eq_self,reduceIte,reduceCtorEq,Nat.reduceEqDiff,Nat.reduceAdd]
  refine ⟨m - 1,by omega,i+1,?_⟩
  (repeat' first | exact rfl | apply And.intro) <;> first | (simp only [Value.int.injEq,true_and];omega) | omega | rfl | assumption | (simp;done) | (simp;omega)
 ·simp (disch:=omega) only [SS,eq_self,reduceIte,reduceCtorEq,Nat.reduceEqDiff,Nat.reduceAdd]
  refine hQ _ _ _ ?_
  simp (disch:=omega) only [SS,eq_self,reduceIte,reduceCtorEq,Nat.reduceEqDiff,Nat.reduceAdd]
def cd13:Cd:=(.seq (.reg [⟨⟨some 2,.box 34 (.tmp 0),none⟩,[]⟩,⟨⟨some 3,.box 34 (.tmp 1),none⟩,[]⟩,⟨⟨some 4,.assign (.const (.bool false)),none⟩,[]⟩]) (.seq (.reg [⟨⟨some 5,.fieldAddr 34 (.tmp 2) 0,none⟩,[]⟩,⟨⟨some 6,.load 32 (.tmp 5),none⟩,[]⟩,⟨⟨some 7,.fieldAddr 34 (.tmp 3) 0,none⟩,[]⟩,⟨⟨some 8,.load 32 (.tmp 7),none⟩,[]⟩,⟨⟨some 9,.call ⟨(.value (.func 29)),#[.tmp 6,.tmp 8],#[32,32]⟩,none⟩,[]⟩,⟨⟨some 10,.move (.tmp 9),none⟩,[]⟩,⟨⟨some 11,.fieldAddr 34 (.tmp 2) 1,some (10,true)⟩,[]⟩,⟨⟨some 12,.load 24 (.tmp 11),some (10,true)⟩,[]⟩,⟨⟨some 13,.fieldAddr 34 (.tmp 3) 1,some (10,true)⟩,[]⟩,⟨⟨some 14,.load 24 (.tmp 13),some (10,true)⟩,[]⟩,
 ⟨⟨some 15,.call ⟨(.value (.func 63)),#[.tmp 12,.tmp 14],#[24,24]⟩,some (10,true)⟩,[]⟩,
  ⟨⟨some 16,.pick (.tmp 10) (.tmp 15) (.const (.bool false)),none⟩,[]⟩,
  ⟨⟨some 4,.assign (.tmp 16),none⟩,[]⟩]) .ret))
theorem in13:InT Tryz.prog 13 2 [.tmp 4] cd13:=InT.mk (by kernel_rfl) [] Tryz.func13 rfl (by kernel_rfl) (by kernel_rfl) (of_decide_eq_true (by kernel_rfl)) (by kernel_rfl)
end Go.Proofs.YtlcipphiflcaiaaGreat.Ai
namespace Go.Proofs.YtlcipphiflcaiaaGreat.Ai
open Go Go.RowKit
theorem vSpace_c {a b a' b':Value}{ls:List (List Int)}{ps:List (Int × Int)}{H:AH}(hr:SpRow H a b ls ps)(hs:SpRow H a' b' ls ps)(hl:ls.length<=1000000)(hll:∀ l ∈ ls,l.length<=1000000)(hp:ps.length<=1000000) :
  ACalls Tryz.prog 13 [.agg (List.toArray [a,b]),.agg (List.toArray [a',b'])] H fun r H'=>r=.bool true/\H<+:H':=by
 refine in13 rfl ?_
 intro Q hQ
 simp (disch:=omega) only [cd13,hr.box,hs.box,SS,eq_self,reduceIte,reduceCtorEq,Nat.reduceEqDiff,Nat.reduceAdd]
 generalize hA:H ++ [AObj.cells [a,b] 34 false]=A
 have pA:H<+:A:=by rw [<- hA];exact List.prefix_append _ _
 have cA:A[H.length]?=some (.cells [a,b] 34 false):=by rw [<- hA];exact at_new ..
 generalize hB:A ++ [AObj.cells [a',b'] 34 false]=B
 have pB:A<+:B:=by rw [<- hB];exact List.prefix_append _ _
 have cB:B[A.length]?=some (.cells [a',b'] 34 false):=by rw [<- hB];exact at_new ..
 have cA2:=pre_at pB cA
 have h1:=hr.pre (pA.trans pB)
 have h2:=hs.pre (pA.trans pB)
 obtain ⟨⟨bd1,r1⟩,r2⟩:=h1
 obtain ⟨⟨bd2,s1⟩,s2⟩:=h2
 simp (disch:=omega) only [cell_of cA2,cell_of cB,SS,eq_self,reduceIte,reduceCtorEq,Nat.reduceEqDiff,Nat.reduceAdd]
 refine CallH.by (vTable_c a a' ls B r1 s1 hl hll) ?_
 rintro _ _ ⟨rfl,rfl⟩
 simp (disch:=omega) only [cell_of cA2,cell_of cB,SS,eq_self,reduceIte,reduceCtorEq,Nat.reduceEqDiff,Nat.reduceAdd]
 refine CallH.by (vPairs_c b b' ps B r2 s2 hp) ?_
 rintro _ _ ⟨rfl,rfl⟩
 simp (disch:=omega) only [SS,eq_self,reduceIte,reduceCtorEq,Nat.reduceEqDiff,Nat.reduceAdd]
 refine hQ _ _ _ ?_
 simp (disch:=omega) only [SS,eq_self,reduceIte,reduceCtorEq,Nat.reduceEqDiff,Nat.reduceAdd]
 exact pA.trans pB
end Go.Proofs.YtlcipphiflcaiaaGreat.Ai
