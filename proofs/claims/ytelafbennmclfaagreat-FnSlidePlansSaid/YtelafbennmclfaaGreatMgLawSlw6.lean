/- Texts of this claim, joined: Slide, PrmC, TreP, BfsP, PartP, ReachP, BfsQ, Bfs, Roads, TreQ, MatP, MatA, SrtL, GrA, Joi, TrI, Reach, Part, Wout, Two, Drq. -/
import Derived.Test.YtelafbennmclfaaGreatProg
import Derived.KernelRfl
import Derived.Test.YtelafbennmclfaaGreatMgLawSlw5
set_option linter.unusedVariables false
set_option linter.unusedSimpArgs false
namespace Go.Proofs.YtelafbennmclfaaGreat.Ai
open Go
def ords14 : List (Nat × List (Nat × Bool)) := [(8,[(0,false),(1,false),(2,false),(3,false),(4,false),(5,false),(6,true),(7,false)])]
def cd14 : Cd := (.seq (.reg [⟨⟨some 3,Op.box 26 (Operand.tmp 0),none⟩,[]⟩,
  ⟨⟨some 6,Op.assign (Operand.const (Value.slice none 0 0)),none⟩,[]⟩,
  ⟨⟨some 7,Op.assign (Operand.const (Value.bool false)),none⟩,[]⟩]) (.seq (.seq (.reg [⟨⟨some 11,Op.load 26 (Operand.tmp 3),none⟩,[]⟩,
  ⟨⟨some 12,Op.move (Operand.tmp 1),none⟩,[]⟩,
  ⟨⟨some 13,Op.call { callee := (Callee.value (Operand.func 42)),args := #[(Operand.tmp 11),(Operand.tmp 12)],argTypes := #[26,27] },none⟩,[]⟩,
  ⟨⟨some 14,Op.unOp UnOp.not 4 (Operand.tmp 13),none⟩,[]⟩]) (.cond (Operand.tmp 14) (.seq (.reg [⟨⟨some 15,Op.buildSlice 27 0 #[],none⟩,[]⟩,
  ⟨⟨some 6,Op.assign (Operand.tmp 15),none⟩,[]⟩,
  ⟨⟨some 7,Op.assign (Operand.const (Value.bool false)),none⟩,[]⟩]) .ret) .skip)) (.seq (.reg [⟨⟨some 16,Op.move (Operand.tmp 1),none⟩,[]⟩,
  ⟨⟨some 17,Op.call { callee := (Callee.value (Operand.func 57)),args := #[(Operand.tmp 16)],argTypes := #[27] },none⟩,[]⟩,
  ⟨⟨some 8,Op.assign (Operand.tmp 17),none⟩,[]⟩]) (.seq (.seq (.reg [⟨⟨some 9,Op.assign (Operand.const (Value.int IntKind.i64 0)),none⟩,[]⟩]) (.block 0 (.loop (.seq (.seq (.reg [⟨⟨some 18,Op.move (Operand.tmp 9),none⟩,[]⟩,
  ⟨⟨some 19,Op.move (Operand.tmp 2),none⟩,[]⟩,
  ⟨⟨some 20,Op.call { callee := (Callee.builtin Builtin.len),args := #[(Operand.tmp 19)],argTypes := #[27] },none⟩,[]⟩,
  ⟨⟨some 21,Op.binOp BinOp.lss 3 (Operand.tmp 18) (Operand.tmp 20) 3,none⟩,[]⟩]) (.cond (Operand.tmp 21) .skip (.exit 0))) (.seq (.block 1 (.seq (.reg [⟨⟨some 24,Op.move (Operand.tmp 8),none⟩,[]⟩,
  ⟨⟨some 25,Op.call { callee := (Callee.value (Operand.func 46)),args := #[(Operand.tmp 24),(Operand.const (Value.int IntKind.i64 0))],argTypes := #[27,3] },none⟩,[]⟩,
  ⟨⟨some 10,Op.assign (Operand.tmp 25),none⟩,[]⟩]) (.seq (.seq (.reg [⟨⟨some 26,Op.load 26 (Operand.tmp 3),none⟩,[]⟩,
  ⟨⟨some 27,Op.move (Operand.tmp 10),none⟩,[]⟩,
  ⟨⟨some 28,Op.move (Operand.tmp 2),none⟩,[]⟩,
  ⟨⟨some 29,Op.move (Operand.tmp 9),none⟩,[]⟩,
  ⟨⟨some 30,Op.indexAddr 27 (Operand.tmp 28) (Operand.tmp 29),none⟩,[]⟩,
  ⟨⟨some 31,Op.load 3 (Operand.tmp 30),none⟩,[]⟩,
  ⟨⟨some 32,Op.call { callee := (Callee.value (Operand.func 58)),args := #[(Operand.tmp 26),(Operand.tmp 27),(Operand.tmp 31)],argTypes := #[26,3,3] },none⟩,[]⟩,
  ⟨⟨some 33,Op.unOp UnOp.not 4 (Operand.tmp 32),none⟩,[]⟩]) (.cond (Operand.tmp 33) (.seq (.reg [⟨⟨some 34,Op.buildSlice 27 0 #[],none⟩,[]⟩,
  ⟨⟨some 6,Op.assign (Operand.tmp 34),none⟩,[]⟩,
  ⟨⟨some 7,Op.assign (Operand.const (Value.bool false)),none⟩,[]⟩]) .ret) .skip)) (.reg [⟨⟨some 35,Op.move (Operand.tmp 8),none⟩,[]⟩,
  ⟨⟨some 36,Op.move (Operand.tmp 10),none⟩,[]⟩,
  ⟨⟨some 37,Op.move (Operand.tmp 2),none⟩,[]⟩,
  ⟨⟨some 38,Op.move (Operand.tmp 9),none⟩,[]⟩,
  ⟨⟨some 39,Op.indexAddr 27 (Operand.tmp 37) (Operand.tmp 38),none⟩,[]⟩,
  ⟨⟨some 40,Op.load 3 (Operand.tmp 39),none⟩,[]⟩,
  ⟨⟨some 41,Op.call { callee := (Callee.value (Operand.func 59)),args := #[(Operand.tmp 35),(Operand.tmp 36),(Operand.tmp 40)],argTypes := #[27,3,3] },none⟩,[]⟩,
  ⟨⟨some 8,Op.assign (Operand.tmp 41),none⟩,[]⟩])))) (.reg [⟨⟨some 22,Op.move (Operand.tmp 9),none⟩,[]⟩,
  ⟨⟨some 23,Op.binOp BinOp.add 3 (Operand.tmp 22) (Operand.const (Value.int IntKind.i64 1)) 3,none⟩,[]⟩,
  ⟨⟨some 9,Op.assign (Operand.tmp 23),none⟩,[]⟩])))))) (.seq (.reg [⟨⟨some 42,Op.move (Operand.tmp 8),none⟩,[]⟩,
  ⟨⟨some 6,Op.assign (Operand.tmp 42),none⟩,[]⟩,
  ⟨⟨some 7,Op.assign (Operand.const (Value.bool true)),none⟩,[]⟩]) .ret)))))
theorem sl14 : slim Tryz.f14.ntmps ords14 (Tryz.f14.body.getD .skip) = some cd14 := by kernel_rfl
theorem in14 {args : List Value} {H : AH} {R : Value → AH → Prop} (hl : args.length = 3) (h : ∀ (Q : Exit → Sl → AH → Prop),(∀ e s H,endA Tryz.prog [ResultVar.tmp 6,ResultVar.tmp 7] R e s H → Q e s H) → wpC Tryz.prog cd14 Q (enterA args) H) : ACalls Tryz.prog 14 args H R :=
  ACalls.intro (by kernel_rfl) Tryz.func14 rfl (by kernel_rfl) sl14 hl (of_decide_eq_true (by kernel_rfl)) (by kernel_rfl) h
def ords13 : List (Nat × List (Nat × Bool)) := []
def cd13 : Cd := (.seq (.reg [⟨⟨some 3,Op.box 26 (Operand.tmp 0),none⟩,[]⟩,
  ⟨⟨some 6,Op.assign (Operand.const (Value.slice none 0 0)),none⟩,[]⟩,
  ⟨⟨some 7,Op.assign (Operand.const (Value.bool false)),none⟩,[]⟩]) (.seq (.seq (.reg [⟨⟨some 14,Op.load 26 (Operand.tmp 3),none⟩,[]⟩,
  ⟨⟨some 15,Op.move (Operand.tmp 1),none⟩,[]⟩,
  ⟨⟨some 16,Op.call { callee := (Callee.value (Operand.func 35)),args := #[(Operand.tmp 14),(Operand.tmp 15)],argTypes := #[26,27] },none⟩,[]⟩,
  ⟨⟨some 17,Op.unOp UnOp.not 4 (Operand.tmp 16),none⟩,[]⟩]) (.cond (Operand.tmp 17) (.seq (.reg [⟨⟨some 6,Op.assign (Operand.const (Value.slice none 0 0)),none⟩,[]⟩,
  ⟨⟨some 7,Op.assign (Operand.const (Value.bool false)),none⟩,[]⟩]) .ret) .skip)) (.seq (.reg [⟨⟨some 18,Op.move (Operand.tmp 1),none⟩,[]⟩,
  ⟨⟨some 19,Op.call { callee := (Callee.value (Operand.func 55)),args := #[(Operand.tmp 18)],argTypes := #[27] },none⟩,[]⟩,
  ⟨⟨some 8,Op.assign (Operand.tmp 19),none⟩,[]⟩]) (.seq (.seq (.reg [⟨⟨some 20,Op.move (Operand.tmp 2),none⟩,[]⟩,
  ⟨⟨some 21,Op.call { callee := (Callee.builtin Builtin.len),args := #[(Operand.tmp 20)],argTypes := #[27] },none⟩,[]⟩,
  ⟨⟨some 22,Op.move (Operand.const (Value.int IntKind.i64 0)),none⟩,[]⟩]) (.block 0 (.loop (.seq (.reg [⟨⟨some 23,Op.binOp BinOp.lss 3 (Operand.tmp 22) (Operand.tmp 21) 3,none⟩,[]⟩]) (.seq (.cond (Operand.tmp 23) .skip (.exit 0)) (.seq (.block 1 (.seq (.reg [⟨⟨some 24,Op.indexAddr 27 (Operand.tmp 20) (Operand.tmp 22),none⟩,[]⟩,
  ⟨⟨some 25,Op.load 3 (Operand.tmp 24),none⟩,[]⟩,
  ⟨⟨some 10,Op.assign (Operand.tmp 25),none⟩,[]⟩]) (.seq (.reg [⟨⟨some 27,Op.load 26 (Operand.tmp 3),none⟩,[]⟩,
  ⟨⟨some 28,Op.move (Operand.tmp 8),none⟩,[]⟩,
  ⟨⟨some 29,Op.call { callee := (Callee.value (Operand.func 39)),args := #[(Operand.tmp 27),(Operand.tmp 28)],argTypes := #[26,27] },none⟩,[]⟩,
  ⟨⟨some 26,Op.move (Operand.tmp 29),none⟩,[]⟩,
  ⟨⟨some 30,Op.extract (Operand.tmp 26) 0,none⟩,[]⟩,
  ⟨⟨some 31,Op.extract (Operand.tmp 26) 1,none⟩,[]⟩,
  ⟨⟨some 11,Op.assign (Operand.tmp 30),none⟩,[]⟩,
  ⟨⟨some 12,Op.assign (Operand.tmp 31),none⟩,[]⟩]) (.seq (.reg [⟨⟨some 32,Op.move (Operand.tmp 12),none⟩,[]⟩,
  ⟨⟨some 33,Op.move (Operand.tmp 10),none⟩,[]⟩,
  ⟨⟨some 34,Op.call { callee := (Callee.value (Operand.func 56)),args := #[(Operand.tmp 32),(Operand.tmp 33)],argTypes := #[27,3] },none⟩,[]⟩,
  ⟨⟨some 13,Op.assign (Operand.tmp 34),none⟩,[]⟩]) (.seq (.seq (.reg [⟨⟨some 35,Op.move (Operand.tmp 13),none⟩,[]⟩,
  ⟨⟨some 36,Op.binOp BinOp.lss 3 (Operand.tmp 35) (Operand.const (Value.int IntKind.i64 0)) 3,none⟩,[]⟩]) (.cond (Operand.tmp 36) (.seq (.reg [⟨⟨some 6,Op.assign (Operand.const (Value.slice none 0 0)),none⟩,[]⟩,
  ⟨⟨some 7,Op.assign (Operand.const (Value.bool false)),none⟩,[]⟩]) .ret) .skip)) (.reg [⟨⟨some 37,Op.move (Operand.tmp 11),none⟩,[]⟩,
  ⟨⟨some 38,Op.move (Operand.tmp 13),none⟩,[]⟩,
  ⟨⟨some 39,Op.indexAddr 43 (Operand.tmp 37) (Operand.tmp 38),none⟩,[]⟩,
  ⟨⟨some 40,Op.load 27 (Operand.tmp 39),none⟩,[]⟩,
  ⟨⟨some 8,Op.assign (Operand.tmp 40),none⟩,[]⟩])))))) (.reg [⟨⟨some 41,Op.binOp BinOp.add 3 (Operand.tmp 22) (Operand.const (Value.int IntKind.i64 1)) 3,none⟩,[]⟩,
  ⟨⟨some 22,Op.move (Operand.tmp 41),none⟩,[]⟩]))))))) (.seq (.reg [⟨⟨some 42,Op.move (Operand.tmp 8),none⟩,[]⟩,
  ⟨⟨some 6,Op.assign (Operand.tmp 42),none⟩,[]⟩,
  ⟨⟨some 7,Op.assign (Operand.const (Value.bool true)),none⟩,[]⟩]) .ret)))))
theorem sl13 : slim Tryz.f13.ntmps ords13 (Tryz.f13.body.getD .skip) = some cd13 := by kernel_rfl
theorem in13 {args : List Value} {H : AH} {R : Value → AH → Prop} (hl : args.length = 3) (h : ∀ (Q : Exit → Sl → AH → Prop),(∀ e s H,endA Tryz.prog [ResultVar.tmp 6,ResultVar.tmp 7] R e s H → Q e s H) → wpC Tryz.prog cd13 Q (enterA args) H) : ACalls Tryz.prog 13 args H R :=
  ACalls.intro (by kernel_rfl) Tryz.func13 rfl (by kernel_rfl) sl13 hl (of_decide_eq_true (by kernel_rfl)) (by kernel_rfl) h
end Go.Proofs.YtelafbennmclfaaGreat.Ai
namespace Go.Proofs.YtelafbennmclfaaGreat.Ai
open Go Go.RowKit
def slideF (es : List (Int × Int)) : List Int → List Int → Option (List Int)
  | b,[] => some b
  | b,x :: r => if nearB es (ax b 0) x = true then slideF es (swp b (ax b 0).toNat x.toNat) r else none
theorem slideF_step (es : List (Int × Int)) (b xs : List Int) (i : Nat) (hi : i < xs.length) : slideF es b (xs.drop i) = if nearB es (ax b 0) (xs.getD i 0) = true then slideF es (swp b (ax b 0).toNat (xs.getD i 0).toNat) (xs.drop (i + 1)) else none := by
  rw [List.drop_eq_getElem_cons hi]
  have : xs.getD i 0 = xs[i] := by simp [hi]
  rw [this]; rfl
def slideR (n : Int) (es : List (Int × Int)) (p xs : List Int) : List Int := if Brd n es p then (slideF es p xs).getD [] else []
def slideK (n : Int) (es : List (Int × Int)) (p xs : List Int) : Bool := decide (Brd n es p) && (slideF es p xs).isSome
theorem brd_zero {n : Int} {es : List (Int × Int)} {p : List Int} (h : Brd n es p) : (0 : Int) ∈ p := by
  have := h.1.1.2.2 0 (by have := h.1.2; have := h.2.1; omega)
  exact this
theorem swp_zero {p : List Int} {h x : Nat} (hh : h < p.length) (hx : x < p.length) (h0 : p.getD h 0 = 0) : (0 : Int) ∈ swp p h x := by
  have := swp_at p h x x hh hx hx
  rw [if_pos rfl,h0] at this
  rw [← this]
  exact getD_mem (by rw [swp_len]; exact hx)
set_option maxRecDepth 20000 in
set_option maxHeartbeats 4000000 in
theorem SlideS_c (n : Int) (v w u : Value) (es : List (Int × Int)) (p xs : List Int) (H : AH) (hr : RowP 53 H v es) (hlen : es.length ≤ 1099511627776) (hes : ∀ y ∈ es,I64 y.1 ∧ I64 y.2)
    (hp : Row 3 H w p) (hlp : p.length ≤ 1099511627776) (hxp : ∀ y ∈ p,I64 y) (hx : Row 3 H u xs) (hlx : xs.length ≤ 1099511627776) (hxs : ∀ y ∈ xs,I64 y) (hn : I64 n) :
    ACalls Tryz.prog 14 [.agg (List.toArray [.int .i64 n,v]),w,u] H fun r H' => ∃ g,r = .tuple (List.toArray [g,.bool (slideK n es p xs)]) ∧ Mine 3 H H' g (slideR n es p xs) ∧ H <+: H' := by
  refine in14 rfl ?_
  intro Q hQ
  simp (maxSteps := 1000000) (disch := omega) only [cd14,hr.boxG,SS,eq_self,reduceIte,reduceCtorEq,Nat.reduceEqDiff,Nat.reduceAdd]
  generalize hA : H ++ [AObj.cells [.int .i64 n,v] 26 false] = A
  have pA : H <+: A := by rw [← hA]; exact List.prefix_append _ _
  have cA : A[H.length]? = some (.cells [.int .i64 n,v] 26 false) := by rw [← hA]; exact at_new ..
  have rA := hr.pre pA
  simp (maxSteps := 1000000) (disch := omega) only [ld_agg ag26 cs26 cA,SS,eq_self,reduceIte,reduceCtorEq,Nat.reduceEqDiff,Nat.reduceAdd]
  refine CallH.by (l9Board_c n v w es p A rA hlen (hp.pre pA) hlp) ?_
  rintro _ B ⟨rfl,pB⟩
  have cB := pre_at pB cA
  have pHB := pA.trans pB
  simp (maxSteps := 1000000) (disch := omega) only [SS,eq_self,reduceIte,reduceCtorEq,Nat.reduceEqDiff,Nat.reduceAdd]
  refine brD.intro (fun e => ?_) (fun e => ?_) <;> simp (maxSteps := 1000000) (disch := omega) only [e,SS,eq_self,reduceIte,reduceCtorEq,Nat.reduceEqDiff,Nat.reduceAdd]
  · have hz := brd_zero e
    have hg := e.1.1.1
    have hpl := e.1.2
    have hnn := e.2
    have hR : slideR n es p xs = (slideF es p xs).getD [] := by simp [slideR,e]
    have hK : slideK n es p xs = (slideF es p xs).isSome := by simp [slideK,e]
    refine CallH.by (l1Own_c w p B (hp.pre pHB) hlp) ?_
    rintro c C ⟨hc,pC⟩
    have cC := pre_at pC cB
    have pHC := pHB.trans pC
    have hcm := (hc.base pHB).mine
    simp (maxSteps := 1000000) (disch := omega) only [SS,eq_self,reduceIte,reduceCtorEq,Nat.reduceEqDiff,Nat.reduceAdd]
    refine LoopH.by (fun m s H' => ∃ i cur,m + i = xs.length ∧ s 2 = u ∧ s 3 = .pointer (some ⟨H.length,0,none⟩) ∧ s 9 = .int .i64 ((i : Nat) : Int) ∧ cur.length = p.length ∧ (0 : Int) ∈ cur ∧ slideF es p xs = slideF es cur (xs.drop i) ∧ Mine 3 H H' (s 8) cur ∧ C <+: H') xs.length ?_ ?_
    · exact ⟨0,p,by simp,rfl,rfl,rfl,rfl,hz,by rw [List.drop_zero],hcm,List.prefix_refl _⟩
    · rintro m s H' ⟨i,cur,hm,h2,h3,h9,hcl,hc0,hF,hmine,hpp⟩
      have hx' := hx.pre (pHC.trans hpp)
      have hrG := hr.pre (pHC.trans hpp)
      have cH := pre_at hpp cC
      have hpH := pHC.trans hpp
      generalize hw : s 8 = b at *
      simp (maxSteps := 1000000) (disch := omega) only [h2,h3,h9,hw,hx'.len Tryz.underlying27,SS,eq_self,reduceIte,reduceCtorEq,Nat.reduceEqDiff,Nat.reduceAdd]
      refine brD.intro (fun g => ?_) (fun g => ?_)
      · have hi : i < xs.length := by omega
        rw [slideF_step es cur xs i hi] at hF
        obtain ⟨h,hhl,hhe,hh0⟩ := ax_at hc0
        rw [hhe] at hF
        simp (maxSteps := 1000000) (disch := omega) only [h2,h3,h9,hw,SS,eq_self,reduceIte,reduceCtorEq,Nat.reduceEqDiff,Nat.reduceAdd]
        refine CallH.by (l9At_c b cur 0 H' hmine.row (by omega) hc0) ?_
        rintro _ _ ⟨rfl,rfl⟩
        rw [hhe]
        simp (maxSteps := 1000000) (disch := omega) only [h2,h3,h9,hw,ld_agg ag26 cs26 cH,hx'.ix Tryz.underlying27 cs3,hx'.cell,Int.toNat_natCast,SS,eq_self,reduceIte,reduceCtorEq,Nat.reduceEqDiff,Nat.reduceAdd]
        refine CallH.by (l2Near_c n v es h (xs.getD i 0) H' hrG hlen) ?_
        rintro _ D ⟨rfl,pD⟩
        have hxD := hx'.pre pD
        simp (maxSteps := 1000000) (disch := omega) only [SS,eq_self,reduceIte,reduceCtorEq,Nat.reduceEqDiff,Nat.reduceAdd]
        refine brH.intro (fun e1 => ?_) (fun e1 => ?_) <;> simp (maxSteps := 1000000) (disch := omega) only [e1,h2,h3,h9,hw,hxD.ix Tryz.underlying27 cs3,hxD.cell,Int.toNat_natCast,SS,eq_self,reduceIte,reduceCtorEq,Nat.reduceEqDiff,Nat.reduceAdd]
        · have e1' : nearB es h (xs.getD i 0) = true := by simpa using e1
          obtain ⟨k,hk⟩ : ∃ k : Nat,xs.getD i 0 = k := ⟨(xs.getD i 0).toNat,by have := near_rng hg e1'; omega⟩
          have hkr := (near_rng hg e1').2.1
          rw [if_pos e1',Int.toNat_natCast,hk,Int.toNat_natCast] at hF
          rw [hk] at hkr ⊢
          refine CallH.by (l9Swap_c b cur h k D (hmine.row.pre pD) (by omega) hhl (by omega)) ?_
          rintro c2 E ⟨hc2,pE⟩
          have f1 := (hc2.base (hpH.trans pD)).mine
          have f2 := hpp.trans (pD.trans pE)
          have f3 := swp_zero hhl (show k < cur.length by omega) hh0
          have f4 : (swp cur h k).length = p.length := by rw [swp_len]; exact hcl
          simp (maxSteps := 1000000) (disch := omega) only [h2,h3,h9,wrap64,SS,eq_self,reduceIte,reduceCtorEq,Nat.reduceEqDiff,Nat.reduceAdd]
          refine ⟨m - 1,by omega,i + 1,swp cur h k,?_⟩
          (repeat' first | exact f1 | exact f2 | exact f3 | exact f4 | exact hF | apply And.intro) <;> first | (simp only [Value.int.injEq,true_and]; omega) | omega | rfl | assumption | (simp; done) | (simp; omega)
        · have e1' : ¬ nearB es h (xs.getD i 0) = true := by simpa using e1
          rw [if_neg e1'] at hF
          refine hQ _ _ _ ?_
          simp (maxSteps := 1000000) (disch := omega) only [SS,eq_self,reduceIte,reduceCtorEq,Nat.reduceEqDiff,Nat.reduceAdd]
          rw [hR,hK,hF]
          exact ⟨_,rfl,Own.mine (.inr ⟨D.length,rfl,(hpH.trans pD).length_le,at_new ..⟩),pre_app (hpH.trans pD) _⟩
      · simp (maxSteps := 1000000) (disch := omega) only [hw,SS,eq_self,reduceIte,reduceCtorEq,Nat.reduceEqDiff,Nat.reduceAdd]
        refine hQ _ _ _ ?_
        simp (maxSteps := 1000000) (disch := omega) only [hw,hmine.row.tup,SS,eq_self,reduceIte,reduceCtorEq,Nat.reduceEqDiff,Nat.reduceAdd]
        rw [List.drop_of_length_le (by omega)] at hF
        rw [hR,hK,hF]
        exact ⟨b,rfl,hmine,hpH⟩
  · refine hQ _ _ _ ?_
    simp (maxSteps := 1000000) (disch := omega) only [SS,eq_self,reduceIte,reduceCtorEq,Nat.reduceEqDiff,Nat.reduceAdd]
    have hR : slideR n es p xs = [] := by simp [slideR,e]
    have hK : slideK n es p xs = false := by simp [slideK,e]
    rw [hR,hK]
    exact ⟨_,rfl,Own.mine (.inr ⟨B.length,rfl,pHB.length_le,at_new ..⟩),pre_app pHB _⟩
set_option maxRecDepth 20000 in
set_option maxHeartbeats 4000000 in
theorem SlideI_c (n : Int) (v w u : Value) (es : List (Int × Int)) (p xs : List Int) (H : AH) (hr : RowP 53 H v es) (hlen : es.length ≤ 1099511627776) (hes : ∀ y ∈ es,I64 y.1 ∧ I64 y.2)
    (hp : Row 3 H w p) (hlp : p.length ≤ 1099511627776) (hxp : ∀ y ∈ p,I64 y) (hx : Row 3 H u xs) (hlx : xs.length ≤ 1099511627776) (hxs : ∀ y ∈ xs,I64 y) (hn : I64 n) :
    ACalls Tryz.prog 13 [.agg (List.toArray [.int .i64 n,v]),w,u] H fun r H' => ∃ g,r = .tuple (List.toArray [g,.bool (slideK n es p xs)]) ∧ Mine 3 H H' g (slideR n es p xs) ∧ H <+: H' := by
  refine in13 rfl ?_
  intro Q hQ
  simp (maxSteps := 1000000) (disch := omega) only [cd13,hr.boxG,SS,eq_self,reduceIte,reduceCtorEq,Nat.reduceEqDiff,Nat.reduceAdd]
  generalize hA : H ++ [AObj.cells [.int .i64 n,v] 26 false] = A
  have pA : H <+: A := by rw [← hA]; exact List.prefix_append _ _
  have cA : A[H.length]? = some (.cells [.int .i64 n,v] 26 false) := by rw [← hA]; exact at_new ..
  have rA := hr.pre pA
  simp (maxSteps := 1000000) (disch := omega) only [ld_agg ag26 cs26 cA,SS,eq_self,reduceIte,reduceCtorEq,Nat.reduceEqDiff,Nat.reduceAdd]
  refine CallH.by (isBoard_c n v w es p A rA hlen (hp.pre pA) hlp hxp) ?_
  rintro _ B ⟨rfl,pB⟩
  have cB := pre_at pB cA
  have pHB := pA.trans pB
  simp (maxSteps := 1000000) (disch := omega) only [SS,eq_self,reduceIte,reduceCtorEq,Nat.reduceEqDiff,Nat.reduceAdd]
  refine brD.intro (fun e => ?_) (fun e => ?_) <;> simp (maxSteps := 1000000) (disch := omega) only [e,SS,eq_self,reduceIte,reduceCtorEq,Nat.reduceEqDiff,Nat.reduceAdd]
  · have hz := brd_zero e
    have hg := e.1.1.1
    have hpl := e.1.2
    have hnn := e.2
    have hR : slideR n es p xs = (slideF es p xs).getD [] := by simp [slideR,e]
    have hK : slideK n es p xs = (slideF es p xs).isSome := by simp [slideK,e]
    refine CallH.by (Clone_c w p B (hp.pre pHB) hlp) ?_
    rintro c C ⟨hc,pC⟩
    have cC := pre_at pC cB
    have pHC := pHB.trans pC
    have hcm := (hc.base pHB).mine
    simp (maxSteps := 1000000) (disch := omega) only [hx.len Tryz.underlying27,SS,eq_self,reduceIte,reduceCtorEq,Nat.reduceEqDiff,Nat.reduceAdd]
    refine LoopH.by (fun m s H' => ∃ i cur,m + i = xs.length ∧ s 3 = .pointer (some ⟨H.length,0,none⟩) ∧ s 20 = u ∧ s 21 = .int .i64 (xs.length : Int) ∧ s 22 = .int .i64 ((i : Nat) : Int) ∧ cur.length = p.length ∧ (0 : Int) ∈ cur ∧ slideF es p xs = slideF es cur (xs.drop i) ∧ Mine 3 H H' (s 8) cur ∧ C <+: H') xs.length ?_ ?_
    · exact ⟨0,p,by simp,rfl,rfl,rfl,rfl,rfl,hz,by rw [List.drop_zero],hcm,List.prefix_refl _⟩
    · rintro m s H' ⟨i,cur,hm,h3,h20,h21,h22,hcl,hc0,hF,hmine,hpp⟩
      have hx' := hx.pre (pHC.trans hpp)
      have hrG := hr.pre (pHC.trans hpp)
      have cH := pre_at hpp cC
      have hpH := pHC.trans hpp
      generalize hw : s 8 = b at *
      simp (maxSteps := 1000000) (disch := omega) only [h3,h20,h21,h22,hw,SS,eq_self,reduceIte,reduceCtorEq,Nat.reduceEqDiff,Nat.reduceAdd]
      refine brD.intro (fun g => ?_) (fun g => ?_)
      · have hi : i < xs.length := by omega
        rw [slideF_step es cur xs i hi] at hF
        obtain ⟨h,hhl,hhe,hh0⟩ := ax_at hc0
        rw [hhe] at hF
        simp (maxSteps := 1000000) (disch := omega) only [h3,h20,h21,h22,hw,ld_agg ag26 cs26 cH,hx'.ix Tryz.underlying27 cs3,hx'.cell,Int.toNat_natCast,SS,eq_self,reduceIte,reduceCtorEq,Nat.reduceEqDiff,Nat.reduceAdd]
        refine CallH.by (slides_c n v b es cur H' hrG hlen hmine.row hg (by omega) h hhe hhl) ?_
        rintro _ D ⟨L,nd,rfl,hL,hnd,pD⟩
        simp (maxSteps := 1000000) (disch := omega) only [SS,eq_self,reduceIte,reduceCtorEq,Nat.reduceEqDiff,Nat.reduceAdd]
        have hnl := nbsU_len es h n.toNat
        refine CallH.by (Index_c nd (nbsU es h n.toNat) (xs.getD i 0) D hnd (by omega)) ?_
        rintro _ _ ⟨rfl,rfl⟩
        simp (maxSteps := 1000000) (disch := omega) only [SS,eq_self,reduceIte,reduceCtorEq,Nat.reduceEqDiff,Nat.reduceAdd]
        by_cases e1 : nearB es h (xs.getD i 0) = true
        · have hrg := near_rng hg e1
          have hin : xs.getD i 0 ∈ nbsU es h n.toNat := (nbsU_mem es h n.toNat _).2 ⟨by omega,e1⟩
          obtain ⟨k,hk⟩ : ∃ k : Nat,xs.getD i 0 = k := ⟨(xs.getD i 0).toNat,by omega⟩
          rw [if_pos e1,Int.toNat_natCast,hk,Int.toNat_natCast] at hF
          rw [hk] at hin hrg ⊢
          obtain ⟨j,hjl,hje,hj0⟩ := ax_at hin
          have hje' : idxP (fun y => decide ((k : Int) = y)) (nbsU es h n.toNat) 0 = (j : Int) := hje
          rw [hje']
          refine brD.intro (fun q => absurd q (by omega)) (fun q => ?_)
          obtain ⟨us,r1,r3,r4⟩ := hL.parts
          have hbl : (brds cur (nbsU es h n.toNat) h).length = (nbsU es h n.toNat).length := by simp [brds]
          have hju : j < us.length := by omega
          have hcell := r1.cell hju
          have hbj : (brds cur (nbsU es h n.toNat) h).getD j [] = swp cur h k := by
            have : (nbsU es h n.toNat)[j] = (k : Int) := by rw [← hj0]; simp [hjl]
            unfold brds
            rw [List.getD_eq_getElem?_getD,List.getElem?_map,List.getElem?_eq_getElem hjl]
            simp only [Option.map_some,Option.getD_some]
            rw [this,Int.toNat_natCast]
            exact swp_comm _ _ _ (by omega)
          have hgI : InI H'.length D.length 3 D (us.getD j undef) (swp cur h k) := by
            have := r4 j (by omega)
            rwa [hbj] at this
          have f1 : Mine 3 H D (us.getD j undef) (swp cur h k) := hgI.mine.base hpH
          have f2 := hpp.trans pD
          have f3 := swp_zero hhl (show k < cur.length by omega) hh0
          have f4 : (swp cur h k).length = p.length := by rw [swp_len]; exact hcl
          simp (maxSteps := 1000000) (disch := omega) only [h3,h20,h21,h22,r1.ix Tryz.underlying43 cs27,hcell,Int.toNat_natCast,wrap64,SS,eq_self,reduceIte,reduceCtorEq,Nat.reduceEqDiff,Nat.reduceAdd]
          refine ⟨m - 1,by omega,i + 1,swp cur h k,?_⟩
          (repeat' first | exact f1 | exact f2 | exact f3 | exact f4 | exact hF | apply And.intro) <;> first | (simp only [Value.int.injEq,true_and]; omega) | omega | rfl | assumption | (simp; done) | (simp; omega)
        · rw [if_neg e1] at hF
          have hno : xs.getD i 0 ∉ nbsU es h n.toNat := fun hm => e1 ((nbsU_mem es h n.toNat _).1 hm).2
          have hneg : idxP (fun y => decide (xs.getD i 0 = y)) (nbsU es h n.toNat) 0 < 0 := by
            have := mt (idxP_any (fun y => decide (xs.getD i 0 = y)) (nbsU es h n.toNat) 0).1 (by simpa using hno)
            omega
          refine brD.intro (fun q => ?_) (fun q => absurd hneg q)
          simp (maxSteps := 1000000) (disch := omega) only [SS,eq_self,reduceIte,reduceCtorEq,Nat.reduceEqDiff,Nat.reduceAdd]
          refine hQ _ _ _ ?_
          simp (maxSteps := 1000000) (disch := omega) only [SS,eq_self,reduceIte,reduceCtorEq,Nat.reduceEqDiff,Nat.reduceAdd]
          rw [hR,hK,hF]
          exact ⟨_,rfl,.inl ⟨rfl,rfl⟩,hpH.trans pD⟩
      · simp (maxSteps := 1000000) (disch := omega) only [hw,SS,eq_self,reduceIte,reduceCtorEq,Nat.reduceEqDiff,Nat.reduceAdd]
        refine hQ _ _ _ ?_
        simp (maxSteps := 1000000) (disch := omega) only [hw,hmine.row.tup,SS,eq_self,reduceIte,reduceCtorEq,Nat.reduceEqDiff,Nat.reduceAdd]
        rw [List.drop_of_length_le (by omega)] at hF
        rw [hR,hK,hF]
        exact ⟨b,rfl,hmine,hpH⟩
  · refine hQ _ _ _ ?_
    simp (maxSteps := 1000000) (disch := omega) only [SS,eq_self,reduceIte,reduceCtorEq,Nat.reduceEqDiff,Nat.reduceAdd]
    have hR : slideR n es p xs = [] := by simp [slideR,e]
    have hK : slideK n es p xs = false := by simp [slideK,e]
    rw [hR,hK]
    exact ⟨_,rfl,.inl ⟨rfl,rfl⟩,pHB⟩
def Mn (R : Nat → Nat → Prop) (x : Nat) : Prop := ∀ y,R x y → x ≤ y
open Classical in
noncomputable def cls (R : Nat → Nat → Prop) (n : Nat) : Nat := (List.range n).countP fun x => decide (Mn R x)
theorem least_of {P : Nat → Prop} : ∀ n,P n → ∃ m,P m ∧ ∀ k,P k → m ≤ k := by
  intro n
  induction n using Nat.strongRecOn with
  | ind n ih =>
    intro h
    by_cases q : ∃ k,k < n ∧ P k
    · obtain ⟨k,k1,k2⟩ := q
      exact ih k k1 k2
    · exact ⟨n,h,fun k hk => Nat.le_of_not_lt fun g => q ⟨k,g,hk⟩⟩
theorem cls_join {R R' : Nat → Nat → Prop} {n a b : Nat} (h0 : ∀ x,R x x) (h1 : ∀ {x y},R x y → R y x) (h2 : ∀ {x y z},R x y → R y z → R x z)
    (hJ : ∀ {u v},R' u v → R u v ∨ (R u a ∧ R b v) ∨ (R u b ∧ R a v)) : cls R n ≤ cls R' n + 1 := by
  obtain ⟨ma,a1,a2⟩ := least_of (P := fun x => R a x) a (h0 a)
  obtain ⟨mb,b1,b2⟩ := least_of (P := fun x => R b x) b (h0 b)
  have key : ∀ x,Mn R x → x ≠ max ma mb → Mn R' x := by
    intro x hx hne y hy
    rcases hJ hy with g | ⟨g1,g2⟩ | ⟨g1,g2⟩
    · exact hx y g
    · have e : x = ma := Nat.le_antisymm (hx ma (h2 g1 a1)) (a2 x (h1 g1))
      have := b2 y g2
      omega
    · have e : x = mb := Nat.le_antisymm (hx mb (h2 g1 b1)) (b2 x (h1 g1))
      have := a2 y g2
      omega
  unfold cls
  have : ∀ l : List Nat,l.Nodup → l.countP (fun x => @decide (Mn R x) (Classical.propDecidable _)) ≤ l.countP (fun x => @decide (Mn R' x) (Classical.propDecidable _)) + (if max ma mb ∈ l then 1 else 0) := by
    intro l
    induction l with
    | nil => intro _; simp
    | cons x l ih =>
      intro hn
      have hn' := List.nodup_cons.1 hn
      have ih := ih hn'.2
      rw [List.countP_cons,List.countP_cons]
      by_cases e : x = max ma mb
      · have hnot : max ma mb ∉ l := by rw [← e]; exact hn'.1
        rw [if_neg hnot] at ih
        rw [if_pos (show max ma mb ∈ x :: l by rw [← e]; simp)]
        split <;> split <;> omega
      · have hiff : (max ma mb ∈ x :: l) = (max ma mb ∈ l) := by
          rw [List.mem_cons]; exact propext ⟨fun h => h.resolve_left (fun q => e q.symm),.inr⟩
        simp only [hiff]
        by_cases hx : Mn R x
        · have hy := key x hx e
          have d1 : @decide (Mn R x) (Classical.propDecidable _) = true := by simpa using hx
          have d2 : @decide (Mn R' x) (Classical.propDecidable _) = true := by simpa using hy
          rw [if_pos d1,if_pos d2]; omega
        · have d1 : ¬ @decide (Mn R x) (Classical.propDecidable _) = true := by simpa using hx
          rw [if_neg d1]
          split <;> omega
  have h := this (List.range n) List.nodup_range
  split at h <;> omega
def enA (es : List (Int × Int)) (e : Int) : Nat := (es.getD e.toNat (0,0)).1.toNat
def enB (es : List (Int × Int)) (e : Int) : Nat := (es.getD e.toNat (0,0)).2.toNat
inductive Jn (es : List (Int × Int)) (T : List Int) : Nat → Nat → Prop
  | refl (x : Nat) : Jn es T x x
  | edge (e : Int) (h : e ∈ T) : Jn es T (enA es e) (enB es e)
  | symm {x y : Nat} (h : Jn es T x y) : Jn es T y x
  | trans {x y z : Nat} (h1 : Jn es T x y) (h2 : Jn es T y z) : Jn es T x z
theorem Jn.mono {es : List (Int × Int)} {T U : List Int} (hs : ∀ e ∈ T,e ∈ U) {x y : Nat} (h : Jn es T x y) : Jn es U x y := by
  induction h with
  | refl x => exact .refl x
  | edge e h => exact .edge e (hs e h)
  | symm _ ih => exact .symm ih
  | trans _ _ i1 i2 => exact .trans i1 i2
theorem Jn.add {es : List (Int × Int)} {T U : List Int} {e : Int} (hs : ∀ x ∈ U,x ∈ T ∨ x = e) {u v : Nat} (h : Jn es U u v) :
    Jn es T u v ∨ (Jn es T u (enA es e) ∧ Jn es T (enB es e) v) ∨ (Jn es T u (enB es e) ∧ Jn es T (enA es e) v) := by
  induction h with
  | refl x => exact .inl (.refl x)
  | edge x h =>
    rcases hs x h with q | q
    · exact .inl (.edge x q)
    · subst q; exact .inr (.inl ⟨.refl _,.refl _⟩)
  | symm _ ih =>
    rcases ih with q | ⟨q1,q2⟩ | ⟨q1,q2⟩
    · exact .inl q.symm
    · exact .inr (.inr ⟨q2.symm,q1.symm⟩)
    · exact .inr (.inl ⟨q2.symm,q1.symm⟩)
  | trans _ _ i1 i2 =>
    rcases i1 with q | ⟨q1,q2⟩ | ⟨q1,q2⟩ <;> rcases i2 with p | ⟨p1,p2⟩ | ⟨p1,p2⟩
    · exact .inl (q.trans p)
    · exact .inr (.inl ⟨q.trans p1,p2⟩)
    · exact .inr (.inr ⟨q.trans p1,p2⟩)
    · exact .inr (.inl ⟨q1,q2.trans p⟩)
    · exact .inr (.inl ⟨q1,p2⟩)
    · exact .inl (q1.trans p2)
    · exact .inr (.inr ⟨q1,q2.trans p⟩)
    · exact .inl (q1.trans p2)
    · exact .inr (.inr ⟨q1,p2⟩)
theorem Jn.same {es : List (Int × Int)} {T U : List Int} {e : Int} (hs : ∀ x ∈ U,x ∈ T ∨ x = e) (hj : Jn es T (enA es e) (enB es e)) {u v : Nat} (h : Jn es U u v) : Jn es T u v := by
  rcases Jn.add hs h with q | ⟨q1,q2⟩ | ⟨q1,q2⟩
  · exact q
  · exact q1.trans (hj.trans q2)
  · exact q1.trans (hj.symm.trans q2)
theorem Jn.nil {es : List (Int × Int)} {x y : Nat} (h : Jn es [] x y) : x = y := by
  induction h with
  | refl => rfl
  | edge e h => simp at h
  | symm _ ih => exact ih.symm
  | trans _ _ i1 i2 => exact i1.trans i2
def EndsIn (es : List (Int × Int)) (T : List Int) (n : Nat) : Prop := ∀ e ∈ T,enA es e < n ∧ enB es e < n
theorem Jn.in_ {es : List (Int × Int)} {T : List Int} {n : Nat} (hT : EndsIn es T n) {x y : Nat} (h : Jn es T x y) : x < n ↔ y < n := by
  induction h with
  | refl => exact Iff.rfl
  | edge e h => exact ⟨fun _ => (hT e h).2,fun _ => (hT e h).1⟩
  | symm _ ih => exact ih.symm
  | trans _ _ i1 i2 => exact i1.trans i2
theorem cls_nil (es : List (Int × Int)) (n : Nat) : cls (Jn es []) n = n := by
  have : ∀ x,Mn (Jn es []) x := fun x y h => Nat.le_of_eq h.nil
  unfold cls
  rw [List.countP_eq_length.2 (fun x _ => by simpa using this x),List.length_range]
theorem cls_add {es : List (Int × Int)} {T U : List Int} {e : Int} (hs : ∀ x ∈ U,x ∈ T ∨ x = e) (n : Nat) : cls (Jn es T) n ≤ cls (Jn es U) n + 1 :=
  cls_join (a := enA es e) (b := enB es e) (fun x => .refl x) (fun h => h.symm) (fun h k => h.trans k) (fun h => Jn.add hs h)
theorem cls_le (es : List (Int × Int)) (n : Nat) : ∀ T : List Int,n ≤ cls (Jn es T) n + T.length
  | [] => by rw [cls_nil]; simp
  | e :: T => by
    have h1 := cls_le es n T
    have h2 := cls_add (es := es) (T := T) (U := e :: T) (e := e) (fun x hx => (List.mem_cons.1 hx).symm) n
    simp only [List.length_cons]; omega
def Conn (es : List (Int × Int)) (T : List Int) (n : Nat) : Prop := ∀ x y,x < n → y < n → Jn es T x y
theorem conn_cls {es : List (Int × Int)} {T : List Int} {n : Nat} (h : Conn es T n) : cls (Jn es T) n ≤ 1 := by
  unfold cls
  have key : ∀ k,k ≤ n → (List.range k).countP (fun x => @decide (Mn (Jn es T) x) (Classical.propDecidable _)) ≤ 1 := by
    intro k
    induction k with
    | zero => intro _; simp
    | succ k ih =>
      intro hk
      rw [List.range_succ,List.countP_append]
      by_cases g : k = 0
      · subst g; simp [List.countP_cons]; split <;> omega
      · have hm : ¬ Mn (Jn es T) k := fun q => by have := q 0 (h k 0 (by omega) (by omega)); omega
        have hi := ih (by omega)
        have hz : List.countP (fun x => @decide (Mn (Jn es T) x) (Classical.propDecidable _)) [k] = 0 := by
          rw [List.countP_eq_zero]
          intro x hx
          rw [List.mem_singleton] at hx
          subst hx
          simpa using hm
        omega
  exact key n (Nat.le_refl _)
def wo1 (T : List Int) (e : Int) : List Int := T.filter fun y => decide (y ≠ e)
theorem wo1_mem {T : List Int} {e x : Int} : x ∈ wo1 T e ↔ x ∈ T ∧ x ≠ e := by simp [wo1]
theorem wo1_len {T : List Int} (hn : T.Nodup) {e : Int} (he : e ∈ T) : (wo1 T e).length + 1 = T.length := by
  induction T with
  | nil => simp at he
  | cons x T ih =>
    have hx := List.nodup_cons.1 hn
    by_cases g : x = e
    · subst g
      have : wo1 (x :: T) x = T := by
        unfold wo1
        rw [List.filter_cons]
        simp only [ne_eq,not_true_eq_false,decide_false,Bool.false_eq_true,if_false]
        rw [List.filter_eq_self]
        intro y hy
        simp only [decide_eq_true_eq]
        exact fun q => hx.1 (q ▸ hy)
      rw [this]; rfl
    · have : wo1 (x :: T) e = x :: wo1 T e := by unfold wo1; rw [List.filter_cons]; simp [g]
      rw [this]
      have := ih hx.2 ((List.mem_cons.1 he).resolve_left (fun q => g q.symm))
      simp only [List.length_cons]; omega
structure Tree (es : List (Int × Int)) (T : List Int) (n : Nat) : Prop where
  nd : T.Nodup
  len : T.length + 1 = n
  conn : Conn es T n
  ends : EndsIn es T n
theorem Tree.cover {es : List (Int × Int)} {T : List Int} {n : Nat} (h : Tree es T n) {e : Int} : ∀ x ∈ T,x ∈ wo1 T e ∨ x = e := fun x hx => by
  by_cases g : x = e
  · exact .inr g
  · exact .inl (wo1_mem.2 ⟨hx,g⟩)
theorem Tree.bridge {es : List (Int × Int)} {T : List Int} {n : Nat} (h : Tree es T n) {e : Int} (he : e ∈ T) : ¬ Jn es (wo1 T e) (enA es e) (enB es e) := by
  intro hj
  have c : Conn es (wo1 T e) n := fun x y hx hy => Jn.same h.cover hj (h.conn x y hx hy)
  have h1 := conn_cls c
  have h2 := cls_le es n (wo1 T e)
  have h3 := wo1_len h.nd he
  have h4 := h.len
  omega
theorem Tree.split {es : List (Int × Int)} {T : List Int} {n : Nat} (h : Tree es T n) {e : Int} (he : e ∈ T) {x : Nat} (hx : x < n) : Jn es (wo1 T e) x (enA es e) ∨ Jn es (wo1 T e) x (enB es e) := by
  rcases Jn.add h.cover (h.conn x (enA es e) hx (h.ends e he).1) with q | ⟨q,_⟩ | ⟨q,_⟩
  · exact .inl q
  · exact .inl q
  · exact .inr q
theorem Tree.cut {es : List (Int × Int)} {T : List Int} {n : Nat} (h : Tree es T n) {e : Int} (he : e ∈ T) {u v : Nat} (hu : u < n) (hv : v < n) : ¬ Jn es (wo1 T e) u v ↔ ¬ (Jn es (wo1 T e) (enA es e) u ↔ Jn es (wo1 T e) (enA es e) v) := by
  constructor
  · intro hn hiff
    by_cases g : Jn es (wo1 T e) (enA es e) u
    · exact hn (g.symm.trans (hiff.1 g))
    · have g2 : ¬ Jn es (wo1 T e) (enA es e) v := fun q => g (hiff.2 q)
      have a := (h.split he hu).resolve_left fun q => g q.symm
      have b := (h.split he hv).resolve_left fun q => g2 q.symm
      exact hn (a.trans b.symm)
  · intro hn hj
    exact hn ⟨fun q => q.trans hj,fun q => q.trans hj.symm⟩
def Cir (es : List (Int × Int)) (T : List Int) (f e : Int) : Prop := e ∈ T ∧ ¬ Jn es (wo1 T e) (enA es f) (enB es f)
theorem Tree.round {es : List (Int × Int)} {T : List Int} {n : Nat} (h : Tree es T n) {f : Int} (hfe : enA es f < n ∧ enB es f < n) {C : List Int} (hC : ∀ e,Cir es T f e → e ∈ C) : Jn es C (enA es f) (enB es f) := by
  have key : ∀ (k : Nat) (S : List Int),(∀ e ∈ S,e ∈ T) → S.Nodup → S.length = k → Jn es S (enA es f) (enB es f) → Jn es C (enA es f) (enB es f) := by
    intro k
    induction k with
    | zero =>
      intro S _ _ hl hj
      rw [List.eq_nil_of_length_eq_zero hl] at hj
      exact hj.mono (fun e he => by simp at he)
    | succ k ih =>
      intro S hS hnd hl hj
      by_cases g : ∀ e ∈ S,Cir es T f e
      · exact hj.mono fun e he => hC e (g e he)
      · obtain ⟨e,he,hce⟩ : ∃ e,e ∈ S ∧ ¬ Cir es T f e := by
          refine Classical.byContradiction fun q => g fun e he => Classical.byContradiction fun q2 => q ⟨e,he,q2⟩
        have hTe := hS e he
        have huv : Jn es (wo1 T e) (enA es f) (enB es f) := Classical.byContradiction fun q => hce ⟨hTe,q⟩
        have sub : ∀ x ∈ wo1 S e,x ∈ wo1 T e := fun x hx => wo1_mem.2 ⟨hS x (wo1_mem.1 hx).1,(wo1_mem.1 hx).2⟩
        have cov : ∀ x ∈ S,x ∈ wo1 S e ∨ x = e := fun x hx => by
          by_cases g : x = e
          · exact .inr g
          · exact .inl (wo1_mem.2 ⟨hx,g⟩)
        refine ih (wo1 S e) (fun x hx => hS x (wo1_mem.1 hx).1) (hnd.sublist List.filter_sublist) (by have := wo1_len hnd he; omega) ?_
        rcases Jn.add cov hj with q | ⟨q1,q2⟩ | ⟨q1,q2⟩
        · exact q
        · exact absurd ((q1.mono sub).symm.trans (huv.trans (q2.mono sub).symm)) (h.bridge hTe)
        · exact absurd ((q2.mono sub).trans (huv.symm.trans (q1.mono sub))) (h.bridge hTe)
  exact key T.length T (fun _ h => h) h.nd rfl (h.conn _ _ hfe.1 hfe.2)
theorem Tree.away {es : List (Int × Int)} {T B : List Int} {n : Nat} (h : Tree es T n) (hB : Tree es B n) {f : Int} (hf : f ∈ B) (hfT : f ∉ T) : ∃ e,Cir es T f e ∧ e ∉ B := by
  refine Classical.byContradiction fun q => ?_
  have hfe := hB.ends f hf
  refine hB.bridge hf (h.round hfe (C := wo1 B f) fun e he => wo1_mem.2 ⟨Classical.byContradiction fun q2 => q ⟨e,he,q2⟩,fun q2 => hfT (q2 ▸ he.1)⟩)
def bfsIn (d : Int) : List Int → List Int × List Int → List Int × List Int
  | [],st => st
  | j :: r,st => if st.1.getD j.toNat 0 < 0 then bfsIn d r (st.1.set j.toNat d,st.2 ++ [j]) else bfsIn d r st
def bfsF (L : List (List Int)) : Nat → List Int × List Int → Nat → List Int
  | 0,st,_ => st.1
  | f + 1,st,k => if k < st.2.length then bfsF L f (bfsIn (st.1.getD (st.2.getD k 0).toNat 0 + 1) (L.getD (st.2.getD k 0).toNat []) st) (k + 1) else st.1
def bfs0 (N i : Nat) : List Int := (List.replicate N (-1)).set i 0
def bfs (L : List (List Int)) (i : Nat) : List Int := bfsF L (L.length + 1) (bfs0 L.length i,[(i : Int)]) 0
def LOk (N : Nat) (L : List (List Int)) : Prop := ∀ i,∀ y ∈ L.getD i [],0 ≤ y ∧ y < N
structure BI (N : Nat) (st : List Int × List Int) : Prop where
  len : st.1.length = N
  q : ∀ x ∈ st.2,(0 ≤ x ∧ x < N) ∧ 0 ≤ st.1.getD x.toNat 0
  lo : ∀ v,v < N → -1 ≤ st.1.getD v 0 ∧ st.1.getD v 0 < st.2.length
  cnt : st.2.length + st.1.countP (· < 0) = N
theorem countP_set_neg (xs : List Int) (j : Nat) (d : Int) (hj : j < xs.length) (h : xs.getD j 0 < 0) (hd : 0 ≤ d) : (xs.set j d).countP (· < 0) + 1 = xs.countP (· < 0) := by
  induction xs generalizing j with
  | nil => simp at hj
  | cons x xs ih =>
    cases j with
    | zero =>
      have hx : x < 0 := by simpa using h
      simp only [List.set_cons_zero,List.countP_cons]
      simp only [decide_eq_true_eq]
      rw [if_neg (by omega),if_pos hx]
    | succ j =>
      have := ih j (by simpa using hj) (by simpa using h)
      simp only [List.set_cons_succ,List.countP_cons]
      omega
theorem BI.len_le {N : Nat} {st : List Int × List Int} (h : BI N st) : st.2.length ≤ N := by have := h.cnt; omega
theorem getD_setB (xs : List Int) (j v : Nat) (d : Int) (hv : v < xs.length) : (xs.set j d).getD v 0 = if j = v then d else xs.getD v 0 := by
  rw [List.getD_eq_getElem?_getD,List.getD_eq_getElem?_getD,List.getElem?_set]
  by_cases h : j = v
  · subst h; rw [if_pos rfl,if_pos rfl,if_pos hv]; rfl
  · rw [if_neg h,if_neg h]
theorem BI.put {N : Nat} {st : List Int × List Int} (h : BI N st) {j d : Int} (hj : 0 ≤ j ∧ j < N) (hn : st.1.getD j.toNat 0 < 0) (hd : 0 ≤ d ∧ d ≤ st.2.length) : BI N (st.1.set j.toNat d,st.2 ++ [j]) := by
  have hl := h.len
  refine ⟨by simp [hl],?_,?_,?_⟩
  · intro x hx
    simp only [List.mem_append,List.mem_cons,List.not_mem_nil,or_false] at hx
    rcases hx with hx | rfl
    · obtain ⟨h1,h2⟩ := h.q x hx
      refine ⟨h1,?_⟩
      show 0 ≤ (st.1.set j.toNat d).getD x.toNat 0
      rw [getD_setB _ _ _ _ (by omega)]
      split <;> omega
    · refine ⟨hj,?_⟩
      show 0 ≤ (st.1.set x.toNat d).getD x.toNat 0
      rw [getD_setB _ _ _ _ (by omega),if_pos rfl]; omega
  · intro v hv
    have := h.lo v hv
    show -1 ≤ (st.1.set j.toNat d).getD v 0 ∧ (st.1.set j.toNat d).getD v 0 < ((st.2 ++ [j]).length : Nat)
    rw [getD_setB _ _ _ _ (by omega)]
    simp only [List.length_append,List.length_cons,List.length_nil]
    split <;> omega
  · have := countP_set_neg st.1 j.toNat d (by omega) hn hd.1
    have := h.cnt
    show (st.2 ++ [j]).length + (st.1.set j.toNat d).countP (· < 0) = N
    simp only [List.length_append,List.length_cons,List.length_nil]
    omega
theorem bfs0_BI (N i : Nat) (hi : i < N) : BI N (bfs0 N i,[(i : Int)]) := by
  have hat : ∀ v,v < N → (bfs0 N i).getD v 0 = if i = v then 0 else -1 := by
    intro v hv
    unfold bfs0
    rw [getD_setB _ _ _ _ (by simpa using hv)]
    split
    · rfl
    · rw [List.getD_eq_getElem?_getD,List.getElem?_replicate,if_pos hv]; rfl
  refine ⟨by simp [bfs0],?_,?_,?_⟩
  · intro x hx
    simp only [List.mem_cons,List.not_mem_nil,or_false] at hx
    subst hx
    refine ⟨by omega,?_⟩
    show 0 ≤ (bfs0 N i).getD (i : Int).toNat 0
    rw [Int.toNat_natCast,hat i hi,if_pos rfl]; omega
  · intro v hv
    show -1 ≤ (bfs0 N i).getD v 0 ∧ (bfs0 N i).getD v 0 < _
    rw [hat v hv]
    simp only [List.length_cons,List.length_nil]
    split <;> omega
  · show [(i : Int)].length + (bfs0 N i).countP (· < 0) = N
    have := countP_set_neg (List.replicate N (-1)) i 0 (by simpa using hi) (by rw [List.getD_eq_getElem?_getD,List.getElem?_replicate,if_pos hi]; decide) (by omega)
    have h2 : (List.replicate N (-1 : Int)).countP (· < 0) = N := by rw [List.countP_replicate]; simp
    unfold bfs0
    simp only [List.length_cons,List.length_nil]
    omega
theorem BI.inn {N : Nat} {d : Int} : ∀ (l : List Int) {st : List Int × List Int},BI N st → (∀ y ∈ l,0 ≤ y ∧ y < N) → (0 ≤ d ∧ d ≤ st.2.length) → BI N (bfsIn d l st)
  | [],st,h,_,_ => h
  | j :: r,st,h,hl,hd => by
    simp only [bfsIn]
    split
    · rename_i hn
      refine BI.inn r (h.put (hl j (by simp)) hn hd) (fun y hy => hl y (by simp [hy])) ?_
      simp only [List.length_append,List.length_cons,List.length_nil]
      omega
    · exact BI.inn r h (fun y hy => hl y (by simp [hy])) hd
theorem bfsF_done (L : List (List Int)) (f : Nat) (st : List Int × List Int) (k : Nat) (h : st.2.length ≤ k) : bfsF L f st k = st.1 := by
  cases f with
  | zero => rfl
  | succ f => simp only [bfsF]; rw [if_neg (by omega)]
theorem bfsF_step (L : List (List Int)) (f : Nat) (st : List Int × List Int) (k : Nat) (h : k < st.2.length) : bfsF L (f + 1) st k = bfsF L f (bfsIn (st.1.getD (st.2.getD k 0).toNat 0 + 1) (L.getD (st.2.getD k 0).toNat []) st) (k + 1) := by
  simp only [bfsF]; rw [if_pos h]
theorem bfsIn_pre (d : Int) : ∀ (l : List Int) (st : List Int × List Int),st.2 <+: (bfsIn d l st).2
  | [],st => List.prefix_refl _
  | j :: r,st => by
    simp only [bfsIn]
    split
    · exact (List.prefix_append st.2 [j]).trans (bfsIn_pre d r (st.1.set j.toNat d,st.2 ++ [j]))
    · exact bfsIn_pre d r st
theorem bfs_BI (L : List (List Int)) (hL : LOk L.length L) : ∀ (f : Nat) (st : List Int × List Int) (k : Nat),BI L.length st → ∃ q,BI L.length (bfsF L f st k,q)
  | 0,st,k,h => ⟨st.2,h⟩
  | f + 1,st,k,h => by
    simp only [bfsF]
    split
    · rename_i hk
      have hm : st.2.getD k 0 ∈ st.2 := by simp [hk]
      obtain ⟨h1,h2⟩ := h.q _ hm
      have h3 := h.lo (st.2.getD k 0).toNat (by omega)
      exact bfs_BI L hL f _ _ (BI.inn _ h (hL _) (by omega))
    · exact ⟨st.2,h⟩
theorem bfs_rng (L : List (List Int)) (hL : LOk L.length L) (i : Nat) (hi : i < L.length) : (bfs L i).length = L.length ∧ ∀ v,v < L.length → -1 ≤ (bfs L i).getD v 0 ∧ (bfs L i).getD v 0 < L.length := by
  obtain ⟨q,h⟩ := bfs_BI L hL (L.length + 1) _ 0 (bfs0_BI L.length i hi)
  have := h.len_le
  refine ⟨h.len,fun v hv => ?_⟩
  have := h.lo v hv
  exact ⟨this.1,by have h2 : (bfs L i).getD v 0 < (q.length : Int) := this.2; have h3 : q.length ≤ L.length := h.len_le; omega⟩
def ptIn : List Int → List Bool × List Int → List Bool × List Int
  | [],st => st
  | j :: r,st => if st.1.getD j.toNat false = true then ptIn r st else ptIn r (st.1.set j.toNat true,st.2 ++ [j])
def ptF (L : List (List Int)) : Nat → List Bool × List Int → Nat → List Bool × List Int
  | 0,st,_ => st
  | f + 1,st,k => if k < st.2.length then ptF L f (ptIn (L.getD (st.2.getD k 0).toNat []) st) (k + 1) else st
def inOrd (N : Nat) (q : List Int) : List Int := ((List.range N).map fun z : Nat => (z : Int)).filter fun z => decide (z ∈ q)
def prF (L : List (List Int)) (s0 : List Bool) : Nat → List Bool × List (List Int)
  | 0 => (s0,[])
  | k + 1 => if (prF L s0 k).1.getD k false = true then prF L s0 k else
      ((ptF L (L.length + 1) ((prF L s0 k).1.set k true,[(k : Int)]) 0).1,(prF L s0 k).2 ++ [inOrd L.length (ptF L (L.length + 1) ((prF L s0 k).1.set k true,[(k : Int)]) 0).2])
def seen0 (N : Nat) (without : Int) : List Bool := if 0 ≤ without then (List.replicate N false).set without.toNat true else List.replicate N false
def partsL (L : List (List Int)) (without : Int) : List (List Int) := (prF L (seen0 L.length without) L.length).2
structure PI (N C : Nat) (st : List Bool × List Int) : Prop where
  len : st.1.length = N
  q : ∀ x ∈ st.2,(0 ≤ x ∧ x < N) ∧ st.1.getD x.toNat false = true
  nd : st.2.Nodup
  cnt : st.2.length + st.1.countP (fun b => !b) = C
  le : C ≤ N
theorem getD_setBool (xs : List Bool) (j v : Nat) (d : Bool) (hv : v < xs.length) : (xs.set j d).getD v false = if j = v then d else xs.getD v false := by
  rw [List.getD_eq_getElem?_getD,List.getD_eq_getElem?_getD,List.getElem?_set]
  by_cases h : j = v
  · subst h; rw [if_pos rfl,if_pos rfl,if_pos hv]; rfl
  · rw [if_neg h,if_neg h]
theorem countP_set_true : ∀ (xs : List Bool) (j : Nat),j < xs.length → xs.getD j false = false → (xs.set j true).countP (fun b => !b) + 1 = xs.countP (fun b => !b)
  | [],j,h,_ => by simp at h
  | x :: xs,0,_,h => by
    have hx : x = false := by simpa using h
    subst hx
    simp [List.countP_cons]
  | x :: xs,j + 1,hj,h => by
    have := countP_set_true xs j (by simpa using hj) (by simpa using h)
    simp only [List.set_cons_succ,List.countP_cons]
    omega
theorem PI.len_le {N C : Nat} {st : List Bool × List Int} (h : PI N C st) : st.2.length ≤ N := by have := h.cnt; have := h.le; omega
theorem PI.put {N C : Nat} {st : List Bool × List Int} (h : PI N C st) {j : Int} (hj : 0 ≤ j ∧ j < N) (hn : ¬ st.1.getD j.toNat false = true) : PI N C (st.1.set j.toNat true,st.2 ++ [j]) := by
  have hl := h.len
  have hf : st.1.getD j.toNat false = false := by simpa using hn
  refine ⟨by simp [hl],?_,?_,?_,h.le⟩
  · intro x hx
    simp only [List.mem_append,List.mem_cons,List.not_mem_nil,or_false] at hx
    rcases hx with hx | rfl
    · obtain ⟨h1,h2⟩ := h.q x hx
      refine ⟨h1,?_⟩
      show (st.1.set j.toNat true).getD x.toNat false = true
      rw [getD_setBool _ _ _ _ (by omega)]
      split
      · rfl
      · exact h2
    · refine ⟨hj,?_⟩
      show (st.1.set x.toNat true).getD x.toNat false = true
      rw [getD_setBool _ _ _ _ (by omega),if_pos rfl]
  · rw [List.nodup_append]
    refine ⟨h.nd,by simp,?_⟩
    intro a ha b hb hab
    simp only [List.mem_cons,List.not_mem_nil,or_false] at hb
    subst hab; subst hb
    exact hn (h.q a ha).2
  · have := countP_set_true st.1 j.toNat (by omega) hf
    have := h.cnt
    show (st.2 ++ [j]).length + (st.1.set j.toNat true).countP (fun b => !b) = C
    simp only [List.length_append,List.length_cons,List.length_nil]
    omega
theorem PI.first {N : Nat} {s : List Bool} (hs : s.length = N) {k : Nat} (hk : k < N) (hn : ¬ s.getD k false = true) : PI N (s.countP fun b => !b) (s.set k true,[(k : Int)]) := by
  have hf : s.getD k false = false := by simpa using hn
  refine ⟨by simp [hs],?_,by simp,?_,?_⟩
  · intro x hx
    simp only [List.mem_cons,List.not_mem_nil,or_false] at hx
    subst hx
    refine ⟨by omega,?_⟩
    show (s.set k true).getD (k : Int).toNat false = true
    rw [Int.toNat_natCast,getD_setBool _ _ _ _ (by omega),if_pos rfl]
  · have := countP_set_true s k (by omega) hf
    show [(k : Int)].length + (s.set k true).countP (fun b => !b) = _
    simp only [List.length_cons,List.length_nil]
    omega
  · rw [← hs]; exact List.countP_le_length
theorem PI.inn {N C : Nat} : ∀ (l : List Int) {st : List Bool × List Int},PI N C st → (∀ y ∈ l,0 ≤ y ∧ y < N) → PI N C (ptIn l st)
  | [],st,h,_ => h
  | j :: r,st,h,hl => by
    simp only [ptIn]
    split
    · exact PI.inn r h (fun y hy => hl y (by simp [hy]))
    · rename_i hn
      exact PI.inn r (h.put (hl j (by simp)) hn) (fun y hy => hl y (by simp [hy]))
theorem ptIn_pre : ∀ (l : List Int) (st : List Bool × List Int),st.2 <+: (ptIn l st).2
  | [],st => List.prefix_refl _
  | j :: r,st => by
    simp only [ptIn]
    split
    · exact ptIn_pre r st
    · exact (List.prefix_append st.2 [j]).trans (ptIn_pre r (st.1.set j.toNat true,st.2 ++ [j]))
theorem ptF_done (L : List (List Int)) (f : Nat) (st : List Bool × List Int) (k : Nat) (h : st.2.length ≤ k) : ptF L f st k = st := by
  cases f with
  | zero => rfl
  | succ f => simp only [ptF]; rw [if_neg (by omega)]
theorem ptF_step (L : List (List Int)) (f : Nat) (st : List Bool × List Int) (k : Nat) (h : k < st.2.length) : ptF L (f + 1) st k = ptF L f (ptIn (L.getD (st.2.getD k 0).toNat []) st) (k + 1) := by
  simp only [ptF]; rw [if_pos h]
theorem ptF_PI (L : List (List Int)) (hL : LOk L.length L) {C : Nat} : ∀ (f : Nat) (st : List Bool × List Int) (k : Nat),PI L.length C st → PI L.length C (ptF L f st k)
  | 0,st,k,h => h
  | f + 1,st,k,h => by
    simp only [ptF]
    split
    · exact ptF_PI L hL f _ _ (PI.inn _ h (hL _))
    · exact h
theorem ptIn_drop (l : List Int) (j : Nat) (hj : j < l.length) (st : List Bool × List Int) : ptIn (l.drop j) st = if st.1.getD (l.getD j 0).toNat false = true then ptIn (l.drop (j + 1)) st else ptIn (l.drop (j + 1)) (st.1.set (l.getD j 0).toNat true,st.2 ++ [l.getD j 0]) := by
  have e : l.getD j 0 = l[j] := by simp [hj]
  rw [List.drop_eq_getElem_cons hj,e]
  rfl
theorem inOrd_eq {N : Nat} {q ys : List Int} (hq : q.Nodup) (hr : ∀ x ∈ q,0 ≤ x ∧ x < N) (hp : ys.Perm q) (ha : Asc ys) : ys = inOrd N q := by
  have hnd : (inOrd N q).Nodup := by
    unfold inOrd
    refine List.Pairwise.filter _ ?_
    refine List.Pairwise.map _ ?_ List.nodup_range
    intro a b hab e
    exact hab (by omega)
  have hperm : ys.Perm (inOrd N q) := by
    refine hp.trans ((List.perm_ext_iff_of_nodup hq hnd).2 fun z => ?_)
    unfold inOrd
    rw [List.mem_filter,decide_eq_true_iff]
    constructor
    · intro hz
      have := hr z hz
      exact ⟨List.mem_map.2 ⟨z.toNat,List.mem_range.2 (by omega),by omega⟩,hz⟩
    · exact fun h => h.2
  have hs : (inOrd N q).Pairwise (· ≤ ·) := by
    unfold inOrd
    refine List.Pairwise.filter _ ?_
    refine List.Pairwise.map _ ?_ List.pairwise_lt_range
    intro a b hab
    omega
  exact hperm.eq_of_pairwise (fun a b _ _ h1 h2 => by omega) (asc_of ha) hs
theorem prF_len (L : List (List Int)) (s0 : List Bool) (h0 : s0.length = L.length) (hL : LOk L.length L) (k : Nat) (hk : k ≤ L.length) : (prF L s0 k).1.length = L.length ∧ (prF L s0 k).2.length ≤ k := by
  induction k with
  | zero => exact ⟨h0,by simp [prF]⟩
  | succ k ih =>
    obtain ⟨i1,i2⟩ := ih (by omega)
    simp only [prF]
    split
    · exact ⟨i1,by omega⟩
    · rename_i hn
      have := ptF_PI L hL (L.length + 1) _ 0 (PI.first i1 (by omega) hn)
      exact ⟨this.len,by simp; omega⟩
def rcIn (es : List (Int × Int)) (out : List Int) (y : Int) : List Int := if y ∈ out then out else if (out.any fun o => nearB es o y) = true then put out y else out
def rcRound (es : List (Int × Int)) (set out : List Int) : List Int := set.foldl (rcIn es) out
def rcIter (es : List (Int × Int)) (set : List Int) : Nat → List Int → List Int
  | 0,o => o
  | k + 1,o => rcRound es set (rcIter es set k o)
def reachL (es : List (Int × Int)) (set : List Int) (x : Int) : List Int := rcIter es set set.length [x]
def pcS (es : List (Int × Int)) (set : List Int) (st : List (List Int) × List Int) (x : Int) : List (List Int) × List Int :=
  if x ∈ st.2 then st else (st.1 ++ [reachL es set x],(reachL es set x).foldl put st.2)
def pcK (es : List (Int × Int)) (set : List Int) (l : List Int) : List (List Int) × List Int := l.foldl (pcS es set) ([],[])
def piecesL (es : List (Int × Int)) (set : List Int) : List (List Int) := (pcK es set set).1
inductive Rch (adj : Int → Int → Prop) (S : Int → Prop) (x : Int) : Int → Prop
  | refl : Rch adj S x x
  | step {y z : Int} : Rch adj S x y → adj y z → S z → Rch adj S x z
theorem Rch.mono {adj : Int → Int → Prop} {S T : Int → Prop} {x z : Int} (h : Rch adj S x z) (hs : ∀ y,S y → T y) : Rch adj T x z := by
  induction h with
  | refl => exact .refl
  | step _ h1 h2 ih => exact .step ih h1 (hs _ h2)
theorem Rch.in_ {adj : Int → Int → Prop} {S : Int → Prop} {x z : Int} (h : Rch adj S x z) (hx : S x) : S z := by
  cases h with
  | refl => exact hx
  | step _ _ h2 => exact h2
theorem nodup_le {a b : List Int} (ha : a.Nodup) (h : ∀ x ∈ a,x ∈ b) : a.length ≤ b.length := by
  induction a generalizing b with
  | nil => simp
  | cons x a ih =>
    have hx : x ∈ b := h x (by simp)
    rw [List.nodup_cons] at ha
    have hl := List.length_erase_of_mem hx
    have hp := List.length_pos_of_mem hx
    have := ih (b := b.erase x) ha.2 fun y hy => (List.mem_erase_of_ne (fun e : y = x => ha.1 (by rw [← e]; exact hy))).2 (h y (by simp [hy]))
    simp only [List.length_cons]
    omega
theorem lt_nodup {l : List Int} (h : l.Pairwise (· < ·)) : l.Nodup := h.imp fun h => by omega
theorem rcIn_mem (es : List (Int × Int)) (out : List Int) (y : Int) {z : Int} (h : z ∈ out) : z ∈ rcIn es out y := by
  unfold rcIn
  split
  · exact h
  · split
    · exact (put_mem _ _ _).2 (.inr h)
    · exact h
theorem fold_mem (es : List (Int × Int)) (set : List Int) : ∀ (out : List Int) {z : Int},z ∈ out → z ∈ set.foldl (rcIn es) out := by
  induction set with
  | nil => intro out z h; exact h
  | cons y ys ih => intro out z h; exact ih _ (rcIn_mem es out y h)
theorem rcIn_srt (es : List (Int × Int)) (out : List Int) (y : Int) (h : out.Pairwise (· < ·)) : (rcIn es out y).Pairwise (· < ·) := by
  unfold rcIn
  split
  · exact h
  · split
    · exact put_sorted _ _ h
    · exact h
theorem fold_srt (es : List (Int × Int)) (set : List Int) : ∀ (out : List Int),out.Pairwise (· < ·) → (set.foldl (rcIn es) out).Pairwise (· < ·) := by
  induction set with
  | nil => intro out h; exact h
  | cons y ys ih => intro out h; exact ih _ (rcIn_srt es out y h)
theorem rcIn_inv (es : List (Int × Int)) (S : Int → Prop) (x : Int) (out : List Int) (y : Int) (hy : S y) (h : ∀ z ∈ out,Rch (fun a b => nearB es a b = true) S x z) : ∀ z ∈ rcIn es out y,Rch (fun a b => nearB es a b = true) S x z := by
  unfold rcIn
  split
  · exact h
  · split
    · rename_i e
      intro z hz
      rcases (put_mem _ _ _).1 hz with rfl | hz
      · obtain ⟨o,ho,hn⟩ := List.any_eq_true.1 e
        exact .step (h o ho) hn hy
      · exact h z hz
    · exact h
theorem fold_inv (es : List (Int × Int)) (S : Int → Prop) (x : Int) (set : List Int) : ∀ (out : List Int),(∀ y ∈ set,S y) → (∀ z ∈ out,Rch (fun a b => nearB es a b = true) S x z) → ∀ z ∈ set.foldl (rcIn es) out,Rch (fun a b => nearB es a b = true) S x z := by
  induction set with
  | nil => intro out _ h; exact h
  | cons y ys ih => intro out hs h; exact ih _ (fun z hz => hs z (by simp [hz])) (rcIn_inv es S x out y (hs y (by simp)) h)
theorem rcIter_srt (es : List (Int × Int)) (set : List Int) (x : Int) (k : Nat) : (rcIter es set k [x]).Pairwise (· < ·) := by
  induction k with
  | zero => exact List.pairwise_singleton _ _
  | succ k ih => exact fold_srt es set _ ih
theorem rcIter_x (es : List (Int × Int)) (set : List Int) (x : Int) (k : Nat) : x ∈ rcIter es set k [x] := by
  induction k with
  | zero => simp [rcIter]
  | succ k ih => exact fold_mem es set _ ih
theorem rcIter_inv (es : List (Int × Int)) (set : List Int) (x : Int) (k : Nat) : ∀ z ∈ rcIter es set k [x],Rch (fun a b => nearB es a b = true) (· ∈ set) x z := by
  induction k with
  | zero => intro z hz; simp [rcIter] at hz; subst hz; exact .refl
  | succ k ih => exact fold_inv es (· ∈ set) x set _ (fun _ h => h) ih
def Clo (es : List (Int × Int)) (set out : List Int) : Prop := ∀ a ∈ out,∀ b ∈ set,nearB es a b = true → b ∈ out
theorem fold_get (es : List (Int × Int)) {a b : Int} (hn : nearB es a b = true) : ∀ (set out : List Int),b ∈ set → a ∈ out → b ∈ set.foldl (rcIn es) out
  | [],out,h,_ => by simp at h
  | y :: ys,out,h,ha => by
    rw [List.foldl_cons]
    rcases List.mem_cons.1 h with rfl | h
    · refine fold_mem es ys _ ?_
      unfold rcIn
      split
      · rename_i hm; exact hm
      · rw [if_pos (List.any_eq_true.2 ⟨a,ha,hn⟩)]
        exact (put_mem _ _ _).2 (.inl rfl)
    · exact fold_get es hn ys _ h (rcIn_mem es out y ha)
theorem fold_clo (es : List (Int × Int)) (set : List Int) (out : List Int) (hc : Clo es set out) : ∀ l : List Int,(∀ y ∈ l,y ∈ set) → l.foldl (rcIn es) out = out
  | [],_ => rfl
  | y :: ys,h => by
    have : rcIn es out y = out := by
      unfold rcIn
      split
      · rfl
      · rename_i hm
        rw [if_neg]
        intro e
        obtain ⟨o,ho,hn⟩ := List.any_eq_true.1 e
        exact hm (hc o ho y (h y (by simp)) hn)
    rw [List.foldl_cons,this]
    exact fold_clo es set out hc ys fun z hz => h z (by simp [hz])
theorem rcIter_or (es : List (Int × Int)) (set : List Int) (x : Int) (k : Nat) : Clo es set (rcIter es set k [x]) ∨ k + 1 ≤ (rcIter es set k [x]).length := by
  induction k with
  | zero => exact .inr (by simp [rcIter])
  | succ k ih =>
    by_cases hc : Clo es set (rcIter es set k [x])
    · left
      have : rcIter es set (k + 1) [x] = rcIter es set k [x] := fold_clo es set _ hc set fun _ h => h
      rw [this]; exact hc
    · right
      have ih := ih.resolve_left hc
      have hex : ∃ a b,a ∈ rcIter es set k [x] ∧ b ∈ set ∧ nearB es a b = true ∧ b ∉ rcIter es set k [x] := Classical.byContradiction fun h => hc fun a ha b hb hn => Classical.byContradiction fun hm => h ⟨a,b,ha,hb,hn,hm⟩
      obtain ⟨a,b,ha,hb,hn,hm⟩ := hex
      have hb2 : b ∈ rcIter es set (k + 1) [x] := fold_get es hn set _ hb ha
      have := nodup_le (a := b :: rcIter es set k [x]) (b := rcIter es set (k + 1) [x]) (by
        rw [List.nodup_cons]; exact ⟨hm,lt_nodup (rcIter_srt es set x k)⟩) (by
        intro z hz
        rcases List.mem_cons.1 hz with rfl | hz
        · exact hb2
        · exact fold_mem es set _ hz)
      simp only [List.length_cons] at this
      omega
theorem reach_iff (es : List (Int × Int)) (set : List Int) (x : Int) (hx : x ∈ set) (z : Int) : z ∈ reachL es set x ↔ Rch (fun a b => nearB es a b = true) (· ∈ set) x z := by
  constructor
  · exact rcIter_inv es set x _ z
  · have hc : Clo es set (reachL es set x) := by
      rcases rcIter_or es set x set.length with h | h
      · exact h
      · have := nodup_le (a := rcIter es set set.length [x]) (b := set) (lt_nodup (rcIter_srt es set x _)) fun y hy => (rcIter_inv es set x _ y hy).in_ hx
        omega
    intro h
    induction h with
    | refl => exact rcIter_x es set x _
    | step _ h1 h2 ih => exact hc _ ih _ h2 h1
theorem reach_srt (es : List (Int × Int)) (set : List Int) (x : Int) : (reachL es set x).Pairwise (· < ·) := rcIter_srt es set x _
theorem puts_mem (z : Int) : ∀ (l s : List Int),z ∈ l.foldl put s ↔ z ∈ l ∨ z ∈ s
  | [],s => by simp
  | y :: ys,s => by
    rw [List.foldl_cons,puts_mem z ys,put_mem,List.mem_cons]
    constructor
    · rintro (h | h | h)
      · exact .inl (.inr h)
      · exact .inl (.inl h)
      · exact .inr h
    · rintro ((h | h) | h)
      · exact .inr (.inl h)
      · exact .inl h
      · exact .inr (.inr h)
theorem ptIn_seen {N C : Nat} (v : Nat) (hv : v < N) : ∀ (l : List Int) (st : List Bool × List Int),PI N C st → (∀ y ∈ l,0 ≤ y ∧ y < N) → ((ptIn l st).1.getD v false = true ↔ (st.1.getD v false = true ∨ (v : Int) ∈ l))
  | [],st,h,_ => by simp [ptIn]
  | j :: r,st,h,hl => by
    have hj := hl j (by simp)
    simp only [ptIn]
    split
    · rename_i hs
      rw [ptIn_seen v hv r st h (fun y hy => hl y (by simp [hy])),List.mem_cons]
      constructor
      · rintro (h1 | h1)
        · exact .inl h1
        · exact .inr (.inr h1)
      · rintro (h1 | h1 | h1)
        · exact .inl h1
        · left; rw [← h1] at hs; simpa using hs
        · exact .inr h1
    · rename_i hn
      have hlen := h.len
      rw [ptIn_seen v hv r _ (h.put hj hn) (fun y hy => hl y (by simp [hy])),List.mem_cons]
      show ((st.1.set j.toNat true).getD v false = true ∨ _) ↔ _
      rw [getD_setBool _ _ _ _ (by omega)]
      by_cases e : j.toNat = v
      · rw [if_pos e]
        have : (v : Int) = j := by omega
        simp [this]
      · rw [if_neg e]
        have : ¬ (v : Int) = j := by omega
        simp [this]
theorem ptIn_q (z : Int) : ∀ (l : List Int) (st : List Bool × List Int),z ∈ (ptIn l st).2 → z ∈ st.2 ∨ (z ∈ l ∧ ¬ st.1.getD z.toNat false = true)
  | [],st,h => .inl h
  | j :: r,st,h => by
    simp only [ptIn] at h
    split at h
    · rcases ptIn_q z r st h with h | ⟨h,h2⟩
      · exact .inl h
      · exact .inr ⟨by simp [h],h2⟩
    · rename_i hn
      rcases ptIn_q z r _ h with h | ⟨h,h2⟩
      · simp only [List.mem_append,List.mem_cons,List.not_mem_nil,or_false] at h
        rcases h with h | rfl
        · exact .inl h
        · exact .inr ⟨by simp,hn⟩
      · refine .inr ⟨by simp [h],fun h3 => h2 ?_⟩
        show (st.1.set j.toNat true).getD z.toNat false = true
        rw [List.getD_eq_getElem?_getD,List.getElem?_set]
        rw [List.getD_eq_getElem?_getD] at h3
        split
        · split
          · rfl
          · rename_i e1 e2
            rw [← e1,List.getElem?_eq_none (by omega)] at h3
            exact h3
        · exact h3
structure QI (L : List (List Int)) (s : List Bool) (x : Nat) (C : Nat) (st : List Bool × List Int) (k : Nat) : Prop where
  pi : PI L.length C st
  seen : ∀ v,v < L.length → (st.1.getD v false = true ↔ (s.getD v false = true ∨ (v : Int) ∈ st.2))
  rch : ∀ z ∈ st.2,Rch (fun a b => b ∈ L.getD a.toNat []) (fun z => 0 ≤ z ∧ z < L.length ∧ ¬ s.getD z.toNat false = true) x z
  cl : ∀ i,i < k → ∀ y ∈ L.getD (st.2.getD i 0).toNat [],st.1.getD y.toNat false = true
  le : k ≤ st.2.length
  x : (x : Int) ∈ st.2
theorem QI.step {L : List (List Int)} (hL : LOk L.length L) {s : List Bool} {x C : Nat} {st : List Bool × List Int} {k : Nat} (h : QI L s x C st k) (hk : k < st.2.length) : QI L s x C (ptIn (L.getD (st.2.getD k 0).toNat []) st) (k + 1) := by
  have hpre := ptIn_pre (L.getD (st.2.getD k 0).toNat []) st
  have hPI := PI.inn _ h.pi (hL (st.2.getD k 0).toNat)
  have hm : st.2.getD k 0 ∈ st.2 := by simp [hk]
  have hsn : ∀ v,v < L.length → _ := fun v hv => ptIn_seen v hv (L.getD (st.2.getD k 0).toNat []) st h.pi (hL _)
  refine ⟨hPI,?_,?_,?_,?_,hpre.subset h.x⟩
  · intro v hv
    constructor
    · intro hh
      rcases (hsn v hv).1 hh with h1 | h1
      · rcases (h.seen v hv).1 h1 with h2 | h2
        · exact .inl h2
        · exact .inr (hpre.subset h2)
      · by_cases h2 : st.1.getD v false = true
        · rcases (h.seen v hv).1 h2 with h2 | h2
          · exact .inl h2
          · exact .inr (hpre.subset h2)
        · right
          have key : ∀ (l : List Int) (st : List Bool × List Int),PI L.length C st → (∀ y ∈ l,0 ≤ y ∧ y < L.length) → (v : Int) ∈ l → ¬ st.1.getD v false = true → (v : Int) ∈ (ptIn l st).2 := by
            intro l
            induction l with
            | nil => intro st _ _ h3; simp at h3
            | cons j r ih =>
              intro st hp hl h3 h4
              have hj := hl j (by simp)
              simp only [ptIn]
              by_cases e : j = (v : Int)
              · subst e
                rw [Int.toNat_natCast,if_neg h4]
                exact (ptIn_pre r _).subset (by simp)
              · have h3' : (v : Int) ∈ r := by
                  rcases List.mem_cons.1 h3 with h | h
                  · exact absurd h.symm e
                  · exact h
                split
                · exact ih st hp (fun y hy => hl y (by simp [hy])) h3' h4
                · rename_i hn
                  refine ih _ (hp.put hj hn) (fun y hy => hl y (by simp [hy])) h3' ?_
                  show ¬ (st.1.set j.toNat true).getD v false = true
                  have := hp.len
                  rw [getD_setBool _ _ _ _ (by omega),if_neg (by omega)]
                  exact h4
          exact key _ st h.pi (hL _) h1 h2
    · rintro (h1 | h1)
      · exact (hsn v hv).2 (.inl ((h.seen v hv).2 (.inl h1)))
      · obtain ⟨_,h2⟩ := hPI.q _ h1
        simpa using h2
  · intro z hz
    rcases ptIn_q z _ st hz with h1 | ⟨h1,h2⟩
    · exact h.rch z h1
    · have hr := hL _ z h1
      refine .step (h.rch _ hm) h1 ⟨hr.1,hr.2,fun h3 => h2 ?_⟩
      exact (h.seen z.toNat (by omega)).2 (.inl h3)
  · intro i hi y hy
    have hg : (ptIn (L.getD (st.2.getD k 0).toNat []) st).2.getD i 0 = st.2.getD i 0 := by
      obtain ⟨t,ht⟩ := hpre
      rw [← ht,List.getD_eq_getElem?_getD,List.getElem?_append_left (by omega),← List.getD_eq_getElem?_getD]
    rw [hg] at hy
    have hr := hL _ y hy
    refine (hsn y.toNat (by omega)).2 ?_
    by_cases e : i = k
    · subst e
      right
      rw [Int.toNat_of_nonneg hr.1]; exact hy
    · exact .inl (h.cl i (by omega) y hy)
  · have := hpre.length_le
    by_cases e : (ptIn (L.getD (st.2.getD k 0).toNat []) st).2.length = st.2.length <;> omega
theorem QI.run {L : List (List Int)} (hL : LOk L.length L) {s : List Bool} {x C : Nat} : ∀ (f : Nat) (st : List Bool × List Int) (k : Nat),f + k = L.length + 1 → QI L s x C st k → QI L s x C (ptF L f st k) (ptF L f st k).2.length
  | 0,st,k,hf,h => by have := h.pi.len_le; have := h.le; omega
  | f + 1,st,k,hf,h => by
    simp only [ptF]
    split
    · rename_i hk
      exact QI.run hL f _ _ (by omega) (h.step hL hk)
    · have : k = st.2.length := by have := h.le; omega
      rw [← this]; exact h
theorem queue_iff {L : List (List Int)} (hL : LOk L.length L) {s : List Bool} (hs : s.length = L.length) {x : Nat} (hx : x < L.length) (hn : ¬ s.getD x false = true) :
    (∀ z,z ∈ (ptF L (L.length + 1) (s.set x true,[(x : Int)]) 0).2 ↔ Rch (fun a b => b ∈ L.getD a.toNat []) (fun z => 0 ≤ z ∧ z < L.length ∧ ¬ s.getD z.toNat false = true) x z)
    ∧ (∀ v,v < L.length → ((ptF L (L.length + 1) (s.set x true,[(x : Int)]) 0).1.getD v false = true ↔ (s.getD v false = true ∨ (v : Int) ∈ (ptF L (L.length + 1) (s.set x true,[(x : Int)]) 0).2)))
    ∧ (ptF L (L.length + 1) (s.set x true,[(x : Int)]) 0).1.length = L.length := by
  have h0 : QI L s x (s.countP fun b => !b) (s.set x true,[(x : Int)]) 0 := by
    refine ⟨PI.first hs hx hn,?_,?_,fun i hi => absurd hi (Nat.not_lt_zero i),Nat.zero_le _,by simp⟩
    · intro v hv
      show (s.set x true).getD v false = true ↔ _
      rw [getD_setBool _ _ _ _ (by omega)]
      by_cases e : x = v
      · rw [if_pos e]; simp [e]
      · rw [if_neg e]
        have : ¬ (v : Int) = (x : Int) := by omega
        simp [this]
    · intro z hz
      simp only [List.mem_cons,List.not_mem_nil,or_false] at hz
      subst hz; exact .refl
  have h := QI.run hL (L.length + 1) _ 0 (by omega) h0
  refine ⟨fun z => ⟨h.rch z,fun hz => ?_⟩,h.seen,h.pi.len⟩
  induction hz with
  | refl => exact h.x
  | step _ h1 h2 ih =>
    rename_i y z _
    obtain ⟨i,hi,e⟩ := List.mem_iff_getElem.1 ih
    have e2 : (ptF L (L.length + 1) (s.set x true,[(x : Int)]) 0).2.getD i 0 = y := by simp [hi,e]
    have h3 := h.cl i hi z (by rw [e2]; exact h1)
    rcases (h.seen z.toNat (by omega)).1 h3 with h4 | h4
    · exact absurd h4 h2.2.2
    · rw [Int.toNat_of_nonneg h2.1] at h4; exact h4
def setW (s0 : List Bool) : Nat → List Int
  | 0 => []
  | k + 1 => setW s0 k ++ if s0.getD k false = true then [] else [(k : Int)]
theorem setW_mem (s0 : List Bool) (k : Nat) (z : Int) : z ∈ setW s0 k ↔ (0 ≤ z ∧ z < k ∧ ¬ s0.getD z.toNat false = true) := by
  induction k with
  | zero =>
    simp only [setW,List.not_mem_nil,false_iff]
    rintro ⟨h1,h2,_⟩
    omega
  | succ k ih =>
    have e0 : setW s0 (k + 1) = setW s0 k ++ if s0.getD k false = true then [] else [(k : Int)] := rfl
    rw [e0,List.mem_append,ih]
    by_cases hs : s0.getD k false = true
    · rw [if_pos hs]
      simp only [List.not_mem_nil,or_false]
      constructor
      · rintro ⟨h1,h2,h3⟩; exact ⟨h1,by omega,h3⟩
      · rintro ⟨h1,h2,h3⟩
        refine ⟨h1,?_,h3⟩
        by_cases e : z = k
        · subst e; rw [Int.toNat_natCast] at h3; exact absurd hs h3
        · omega
    · rw [if_neg hs]
      simp only [List.mem_cons,List.not_mem_nil,or_false]
      constructor
      · rintro (⟨h1,h2,h3⟩ | rfl)
        · exact ⟨h1,by omega,h3⟩
        · exact ⟨by omega,by omega,by rw [Int.toNat_natCast]; exact hs⟩
      · rintro ⟨h1,h2,h3⟩
        by_cases e : z = k
        · exact .inr e
        · exact .inl ⟨h1,by omega,h3⟩
theorem srt_ext {a b : List Int} (ha : a.Pairwise (· < ·)) (hb : b.Pairwise (· < ·)) (h : ∀ z,z ∈ a ↔ z ∈ b) : a = b := by
  have hp : a.Perm b := (List.perm_ext_iff_of_nodup (lt_nodup ha) (lt_nodup hb)).2 h
  exact List.Perm.eq_of_pairwise (le := (· < ·)) (fun x y _ _ h1 h2 => by omega) ha hb hp
theorem inOrd_srt (N : Nat) (q : List Int) : (inOrd N q).Pairwise (· < ·) := by
  unfold inOrd
  refine List.Pairwise.filter _ ?_
  refine List.Pairwise.map _ ?_ List.pairwise_lt_range
  intro a b hab
  omega
theorem inOrd_mem (N : Nat) (q : List Int) (z : Int) : z ∈ inOrd N q ↔ (0 ≤ z ∧ z < N) ∧ z ∈ q := by
  unfold inOrd
  rw [List.mem_filter,decide_eq_true_iff,List.mem_map]
  constructor
  · rintro ⟨⟨a,ha,rfl⟩,h⟩
    have := List.mem_range.1 ha
    exact ⟨by omega,h⟩
  · rintro ⟨⟨h1,h2⟩,h⟩
    exact ⟨⟨z.toNat,List.mem_range.2 (by omega),by omega⟩,h⟩
structure PR (L : List (List Int)) (es : List (Int × Int)) (s0 : List Bool) (k : Nat) : Prop where
  eq : (prF L s0 k).2 = (pcK es (setW s0 L.length) (setW s0 k)).1
  len : (prF L s0 k).1.length = L.length
  seen : ∀ v,v < L.length → ((prF L s0 k).1.getD v false = true ↔ (s0.getD v false = true ∨ (v : Int) ∈ (pcK es (setW s0 L.length) (setW s0 k)).2))
  sub : ∀ z ∈ (pcK es (setW s0 L.length) (setW s0 k)).2,z ∈ setW s0 L.length
  clo : Clo es (setW s0 L.length) (pcK es (setW s0 L.length) (setW s0 k)).2
theorem parts_pc {L : List (List Int)} {es : List (Int × Int)} (hadj : ∀ x,x < L.length → ∀ y,y ∈ L.getD x [] ↔ ((0 ≤ y ∧ y < L.length) ∧ nearB es x y = true)) (s0 : List Bool) (hs : s0.length = L.length) {k : Nat} : k ≤ L.length → PR L es s0 k := by
  have hL : LOk L.length L := by
    intro i y hy
    by_cases hi : i < L.length
    · exact ((hadj i hi y).1 hy).1
    · have : L.getD i [] = [] := by simp [List.getElem?_eq_none (by omega : L.length ≤ i)]
      rw [this] at hy; simp at hy
  induction k with
  | zero =>
    intro _
    refine ⟨rfl,hs,?_,?_,?_⟩
    · intro v hv; simp [prF,setW,pcK]
    · intro z hz; simp [setW,pcK] at hz
    · intro a ha; simp [setW,pcK] at ha
  | succ k ih =>
    intro hk
    have h := ih (by omega)
    obtain ⟨h1,h2,h3,h4,h5⟩ := h
    have e0 : setW s0 (k + 1) = setW s0 k ++ if s0.getD k false = true then [] else [(k : Int)] := rfl
    have p0 : prF L s0 (k + 1) = if (prF L s0 k).1.getD k false = true then prF L s0 k else
      ((ptF L (L.length + 1) ((prF L s0 k).1.set k true,[(k : Int)]) 0).1,(prF L s0 k).2 ++ [inOrd L.length (ptF L (L.length + 1) ((prF L s0 k).1.set k true,[(k : Int)]) 0).2]) := rfl
    by_cases hk0 : s0.getD k false = true
    · rw [if_pos hk0,List.append_nil] at e0
      have hk1 : (prF L s0 k).1.getD k false = true := (h3 k (by omega)).2 (.inl hk0)
      rw [if_pos hk1] at p0
      refine ⟨?_,?_,?_,?_,?_⟩
      · rw [p0,e0]; exact h1
      · rw [p0]; exact h2
      · rw [p0,e0]; exact h3
      · rw [e0]; exact h4
      · rw [e0]; exact h5
    · rw [if_neg hk0] at e0
      have hkS : (k : Int) ∈ setW s0 L.length := (setW_mem s0 L.length k).2 ⟨by omega,by omega,by rw [Int.toNat_natCast]; exact hk0⟩
      have c0 : pcK es (setW s0 L.length) (setW s0 (k + 1)) = pcS es (setW s0 L.length) (pcK es (setW s0 L.length) (setW s0 k)) k := by
        rw [e0]; unfold pcK; rw [List.foldl_append]; rfl
      generalize hS : setW s0 L.length = S at *
      generalize hP : pcK es S (setW s0 k) = P at *
      by_cases hk1 : (k : Int) ∈ P.2
      · have hk2 : (prF L s0 k).1.getD k false = true := (h3 k (by omega)).2 (.inr hk1)
        rw [if_pos hk2] at p0
        have c1 : pcK es S (setW s0 (k + 1)) = P := by rw [c0]; unfold pcS; rw [if_pos hk1]
        refine ⟨?_,?_,?_,?_,?_⟩
        · rw [p0,hS,c1]; exact h1
        · rw [p0]; exact h2
        · rw [p0,hS,c1]; exact h3
        · rw [hS,c1]; exact h4
        · rw [hS,c1]; exact h5
      · have hk2 : ¬ (prF L s0 k).1.getD k false = true := fun h => by
          rcases (h3 k (by omega)).1 h with h | h
          · exact hk0 h
          · exact hk1 h
        rw [if_neg hk2] at p0
        have c1 : pcK es S (setW s0 (k + 1)) = (P.1 ++ [reachL es S k],(reachL es S k).foldl put P.2) := by rw [c0]; unfold pcS; rw [if_neg hk1]
        obtain ⟨q1,q2,q3⟩ := queue_iff hL h2 (x := k) (by omega) hk2
        have hri := reach_iff es S k hkS
        have same : ∀ z,z ∈ (ptF L (L.length + 1) ((prF L s0 k).1.set k true,[(k : Int)]) 0).2 ↔ z ∈ reachL es S k := by
          intro z
          rw [q1,hri]
          constructor
          · intro h
            induction h with
            | refl => exact .refl
            | step hy h1' h2' ih =>
              rename_i y z
              have hyr0 := hy.in_ (S := fun z : Int => 0 ≤ z ∧ z < L.length ∧ ¬ (prF L s0 k).1.getD z.toNat false = true) ⟨by omega,by omega,by rw [Int.toNat_natCast]; exact hk2⟩
              have hyr : 0 ≤ y ∧ y < L.length := ⟨hyr0.1,hyr0.2.1⟩
              have hn := ((hadj y.toNat (by omega) z).1 h1').2
              rw [Int.toNat_of_nonneg hyr.1] at hn
              refine .step ih hn ?_
              show z ∈ S
              rw [← hS,setW_mem]
              exact ⟨h2'.1,h2'.2.1,fun h => h2'.2.2 ((h3 z.toNat (by omega)).2 (.inl h))⟩
          · intro h
            have key : (z ∉ P.2 ∧ z ∈ S) ∧ Rch (fun a b => b ∈ L.getD a.toNat []) (fun z => 0 ≤ z ∧ z < L.length ∧ ¬ (prF L s0 k).1.getD z.toNat false = true) k z := by
              induction h with
              | refl => exact ⟨⟨hk1,hkS⟩,.refl⟩
              | step _ hn hz ih =>
                rename_i y z _
                obtain ⟨⟨i1,i2⟩,i3⟩ := ih
                have hz' : z ∈ S := hz
                have hzP : z ∉ P.2 := fun hm => i1 (h5 z hm y i2 (by rw [nearB_comm]; exact hn))
                have hzr := hz'
                rw [← hS,setW_mem] at hzr
                have hyr := i2
                rw [← hS,setW_mem] at hyr
                refine ⟨⟨hzP,hz'⟩,.step i3 ?_ ⟨hzr.1,hzr.2.1,fun h => ?_⟩⟩
                · refine (hadj y.toNat (by omega) z).2 ⟨⟨hzr.1,hzr.2.1⟩,?_⟩
                  rw [Int.toNat_of_nonneg hyr.1]; exact hn
                · rcases (h3 z.toNat (by omega)).1 h with h | h
                  · exact hzr.2.2 h
                  · rw [Int.toNat_of_nonneg hzr.1] at h; exact hzP h
            exact key.2
        have hsub : ∀ z ∈ reachL es S k,z ∈ S := fun z hz => ((hri z).1 hz).in_ (S := (· ∈ S)) hkS
        have hrng : ∀ z ∈ S,0 ≤ z ∧ z < L.length := fun z hz => by rw [← hS,setW_mem] at hz; exact ⟨hz.1,hz.2.1⟩
        have heq : inOrd L.length (ptF L (L.length + 1) ((prF L s0 k).1.set k true,[(k : Int)]) 0).2 = reachL es S k := by
          refine srt_ext (inOrd_srt _ _) (reach_srt es S k) fun z => ?_
          rw [inOrd_mem,same]
          exact ⟨fun h => h.2,fun h => ⟨hrng z (hsub z h),h⟩⟩
        refine ⟨?_,?_,?_,?_,?_⟩
        · rw [p0,hS,c1,heq,h1]
        · rw [p0]; exact q3
        · intro v hv
          rw [p0,hS,c1]
          show (ptF L (L.length + 1) ((prF L s0 k).1.set k true,[(k : Int)]) 0).1.getD v false = true ↔ (_ ∨ (v : Int) ∈ (reachL es S k).foldl put P.2)
          rw [q2 v hv,puts_mem,h3 v hv,same]
          constructor
          · rintro ((h | h) | h)
            · exact .inl h
            · exact .inr (.inr h)
            · exact .inr (.inl h)
          · rintro (h | h | h)
            · exact .inl (.inl h)
            · exact .inr h
            · exact .inl (.inr h)
        · rw [hS,c1]
          intro z hz
          rcases (puts_mem z _ _).1 hz with h | h
          · exact hsub z h
          · exact h4 z h
        · rw [hS,c1]
          intro a ha b hb hn
          refine (puts_mem b _ _).2 ?_
          rcases (puts_mem a _ _).1 ha with h | h
          · exact .inl ((hri b).2 (.step ((hri a).1 h) hn hb))
          · exact .inr (h5 a h b hb hn)
theorem parts_pieces {L : List (List Int)} {es : List (Int × Int)} (hadj : ∀ x,x < L.length → ∀ y,y ∈ L.getD x [] ↔ ((0 ≤ y ∧ y < L.length) ∧ nearB es x y = true)) (wo : Int) : partsL L wo = piecesL es (setW (seen0 L.length wo) L.length) := by
  have hs : (seen0 L.length wo).length = L.length := by unfold seen0; split <;> simp
  exact (parts_pc hadj _ hs (k := L.length) (Nat.le_refl _)).eq
structure DI (L : List (List Int)) (i : Nat) (st : List Int × List Int) (k : Nat) : Prop where
  bi : BI L.length st
  iff : ∀ v,v < L.length → (0 ≤ st.1.getD v 0 ↔ (v : Int) ∈ st.2)
  src : ∀ v,v < L.length → 0 ≤ st.1.getD v 0 → (v = i ∧ st.1.getD v 0 = 0) ∨ ∃ u,u < L.length ∧ 0 ≤ st.1.getD u 0 ∧ (v : Int) ∈ L.getD u [] ∧ st.1.getD v 0 = st.1.getD u 0 + 1
  cl : ∀ j,j < k → ∀ y ∈ L.getD (st.2.getD j 0).toNat [],0 ≤ st.1.getD y.toNat 0
  le : k ≤ st.2.length
  at_ : 0 ≤ st.1.getD i 0
theorem bfsIn_keep (d : Int) (v : Nat) : ∀ (l : List Int) (st : List Int × List Int),(∀ y ∈ l,0 ≤ y ∧ y < st.1.length) → 0 ≤ st.1.getD v 0 → (bfsIn d l st).1.getD v 0 = st.1.getD v 0
  | [],st,_,_ => rfl
  | j :: r,st,hl,h => by
    simp only [bfsIn]
    have hj := hl j (by simp)
    split
    · rename_i hn
      have hvj : j.toNat ≠ v := fun e => by rw [e] at hn; omega
      have e1 : (st.1.set j.toNat d).getD v 0 = st.1.getD v 0 := by
        rw [List.getD_eq_getElem?_getD,List.getD_eq_getElem?_getD,List.getElem?_set_ne hvj]
      rw [bfsIn_keep d v r _ (fun y hy => by simpa using hl y (by simp [hy])) (by show 0 ≤ (st.1.set j.toNat d).getD v 0; rw [e1]; exact h)]
      exact e1
    · exact bfsIn_keep d v r st (fun y hy => hl y (by simp [hy])) h
theorem bfsIn_new (d : Int) (hd : 0 ≤ d) (v : Nat) : ∀ (l : List Int) (st : List Int × List Int),(∀ y ∈ l,0 ≤ y ∧ y < st.1.length) → v < st.1.length → st.1.getD v 0 < 0 →
    (((v : Int) ∈ l ∧ (bfsIn d l st).1.getD v 0 = d ∧ (v : Int) ∈ (bfsIn d l st).2) ∨ ((v : Int) ∉ l ∧ (bfsIn d l st).1.getD v 0 = st.1.getD v 0 ∧ ((v : Int) ∈ (bfsIn d l st).2 → (v : Int) ∈ st.2)))
  | [],st,_,_,h => .inr ⟨by simp,rfl,id⟩
  | j :: r,st,hl,hv,h => by
    have hj := hl j (by simp)
    simp only [bfsIn]
    by_cases e : j = (v : Int)
    · subst e
      rw [Int.toNat_natCast,if_pos h]
      have e1 : (st.1.set v d).getD v 0 = d := by rw [getD_setB _ _ _ _ hv,if_pos rfl]
      refine .inl ⟨by simp,?_,?_⟩
      · rw [bfsIn_keep d v r _ (fun y hy => by simpa using hl y (by simp [hy])) (by show 0 ≤ (st.1.set v d).getD v 0; rw [e1]; exact hd)]
        exact e1
      · exact (bfsIn_pre d r _).subset (by simp)
    · have hne : ¬ (v : Int) = j := fun h => e h.symm
      split
      · rename_i hn
        have e1 : (st.1.set j.toNat d).getD v 0 = st.1.getD v 0 := by
          rw [getD_setB _ _ _ _ hv,if_neg (by omega)]
        rcases bfsIn_new d hd v r (st.1.set j.toNat d,st.2 ++ [j]) (fun y hy => by simpa using hl y (by simp [hy])) (by simpa using hv) (by show (st.1.set j.toNat d).getD v 0 < 0; rw [e1]; exact h) with ⟨h1,h2,h3⟩ | ⟨h1,h2,h3⟩
        · exact .inl ⟨by simp [h1],h2,h3⟩
        · refine .inr ⟨by simp [hne,h1],by rw [h2]; exact e1,fun h4 => ?_⟩
          have := h3 h4
          simpa [hne] using this
      · rcases bfsIn_new d hd v r st (fun y hy => hl y (by simp [hy])) hv h with ⟨h1,h2,h3⟩ | ⟨h1,h2,h3⟩
        · exact .inl ⟨by simp [h1],h2,h3⟩
        · exact .inr ⟨by simp [hne,h1],h2,h3⟩
theorem DI.step {L : List (List Int)} (hL : LOk L.length L) {i : Nat} {st : List Int × List Int} {k : Nat} (h : DI L i st k) (hk : k < st.2.length) :
    DI L i (bfsIn (st.1.getD (st.2.getD k 0).toNat 0 + 1) (L.getD (st.2.getD k 0).toNat []) st) (k + 1) := by
  have hm : st.2.getD k 0 ∈ st.2 := by simp [hk]
  obtain ⟨hxr,hx0⟩ := h.bi.q _ hm
  have hlo := h.bi.lo (st.2.getD k 0).toNat (by omega)
  have hlen := h.bi.len
  generalize hx : (st.2.getD k 0).toNat = x at *
  generalize hd : st.1.getD x 0 + 1 = d at *
  have hl := hL x
  have hl' : ∀ y ∈ L.getD x [],0 ≤ y ∧ y < (st.1.length : Int) := by rw [hlen]; exact hl
  have hbi := BI.inn (d := d) _ h.bi hl (by omega)
  have hpre := bfsIn_pre d (L.getD x []) st
  have keep : ∀ v,0 ≤ st.1.getD v 0 → _ := fun v hv => bfsIn_keep d v (L.getD x []) st hl' hv
  have new : ∀ v,v < L.length → st.1.getD v 0 < 0 → _ := fun v hv hn => bfsIn_new d (by omega) v (L.getD x []) st hl' (by omega) hn
  refine ⟨hbi,?_,?_,?_,?_,?_⟩
  · intro v hv
    by_cases hn : 0 ≤ st.1.getD v 0
    · rw [keep v hn]
      exact ⟨fun _ => hpre.subset ((h.iff v hv).1 hn),fun _ => hn⟩
    · rcases new v hv (by omega) with ⟨h1,h2,h3⟩ | ⟨h1,h2,h3⟩
      · rw [h2]; exact ⟨fun _ => h3,fun _ => by omega⟩
      · rw [h2]; exact ⟨fun g => absurd g hn,fun g => (h.iff v hv).2 (h3 g)⟩
  · intro v hv hp
    by_cases hn : 0 ≤ st.1.getD v 0
    · rw [keep v hn]
      rcases h.src v hv hn with h1 | ⟨u,u1,u2,u3,u4⟩
      · exact .inl h1
      · exact .inr ⟨u,u1,by rw [keep u u2]; exact u2,u3,by rw [keep u u2]; exact u4⟩
    · rcases new v hv (by omega) with ⟨h1,h2,h3⟩ | ⟨h1,h2,h3⟩
      · refine .inr ⟨x,by omega,by rw [keep x hx0]; exact hx0,h1,?_⟩
        rw [h2,keep x hx0,← hd]
      · rw [h2] at hp; exact absurd hp hn
  · intro j hj y hy
    have hg : (bfsIn d (L.getD x []) st).2.getD j 0 = st.2.getD j 0 := by
      obtain ⟨t,ht⟩ := hpre
      rw [← ht,List.getD_eq_getElem?_getD,List.getElem?_append_left (by omega),← List.getD_eq_getElem?_getD]
    rw [hg] at hy
    by_cases hn : 0 ≤ st.1.getD y.toNat 0
    · rw [keep _ hn]; exact hn
    · by_cases e : j = k
      · subst e
        rw [hx] at hy
        have hr := hl y hy
        rcases new y.toNat (by omega) (by omega) with ⟨h1,h2,h3⟩ | ⟨h1,h2,h3⟩
        · rw [h2]; omega
        · rw [Int.toNat_of_nonneg hr.1] at h1; exact absurd hy h1
      · exact absurd (h.cl j (by omega) y hy) hn
  · have := hpre.length_le
    omega
  · rw [keep i h.at_]; exact h.at_
theorem DI.run {L : List (List Int)} (hL : LOk L.length L) {i : Nat} : ∀ (f : Nat) (st : List Int × List Int) (k : Nat),f + k = L.length + 1 → DI L i st k → ∃ q,DI L i (bfsF L f st k,q) q.length
  | 0,st,k,hf,h => by have := h.bi.len_le; have := h.le; omega
  | f + 1,st,k,hf,h => by
    simp only [bfsF]
    split
    · rename_i hk
      exact DI.run hL f _ _ (by omega) (h.step hL hk)
    · have e : k = st.2.length := by have := h.le; omega
      exact ⟨st.2,by rw [← e]; exact h⟩
theorem DI.zero {L : List (List Int)} {i : Nat} (hi : i < L.length) : DI L i (bfs0 L.length i,[(i : Int)]) 0 := by
  have hat : ∀ v,v < L.length → (bfs0 L.length i).getD v 0 = if i = v then 0 else -1 := by
    intro v hv
    unfold bfs0
    rw [getD_setB _ _ _ _ (by simpa using hv)]
    split
    · rfl
    · rw [List.getD_eq_getElem?_getD,List.getElem?_replicate,if_pos hv]; rfl
  refine ⟨bfs0_BI _ i hi,?_,?_,fun j hj => absurd hj (Nat.not_lt_zero j),Nat.zero_le _,?_⟩
  · intro v hv
    show 0 ≤ (bfs0 L.length i).getD v 0 ↔ (v : Int) ∈ [(i : Int)]
    rw [hat v hv,List.mem_singleton]
    split <;> omega
  · intro v hv h
    left
    have h' : 0 ≤ (bfs0 L.length i).getD v 0 := h
    rw [hat v hv] at h'
    show v = i ∧ (bfs0 L.length i).getD v 0 = 0
    rw [hat v hv]
    by_cases e : i = v
    · exact ⟨e.symm,by rw [if_pos e]⟩
    · rw [if_neg e] at h'; omega
  · show 0 ≤ (bfs0 L.length i).getD i 0
    rw [hat i hi,if_pos rfl]; omega
theorem bfs_DI {L : List (List Int)} (hL : LOk L.length L) {i : Nat} (hi : i < L.length) : ∃ q,DI L i (bfs L i,q) q.length := DI.run hL _ _ _ (by omega) (DI.zero hi)
theorem bfs_clo {L : List (List Int)} (hL : LOk L.length L) {i : Nat} (hi : i < L.length) {u : Nat} (hu : u < L.length) (h0 : 0 ≤ (bfs L i).getD u 0) {y : Int} (hy : y ∈ L.getD u []) : 0 ≤ (bfs L i).getD y.toNat 0 := by
  obtain ⟨q,h⟩ := bfs_DI hL hi
  obtain ⟨j,hj,e⟩ := List.mem_iff_getElem.1 ((h.iff u hu).1 h0)
  refine h.cl j hj y ?_
  have e2 : q.getD j 0 = (u : Int) := by simp [hj,e]
  show y ∈ L.getD (q.getD j 0).toNat []
  rw [e2,Int.toNat_natCast]; exact hy
def dq (st : List Int × List Int) (a : Nat) : Int := st.1.getD (st.2.getD a 0).toNat 0
theorem bfsIn_mono (d : Int) (hd : 0 ≤ d) : ∀ (l : List Int) (st : List Int × List Int),(∀ y ∈ l,0 ≤ y ∧ y < st.1.length) → (∀ x ∈ st.2,(0 ≤ x ∧ x < st.1.length) ∧ 0 ≤ st.1.getD x.toNat 0) →
    (∀ a b,a ≤ b → b < st.2.length → dq st a ≤ dq st b) → (∀ b,b < st.2.length → dq st b ≤ d) →
    (∀ a b,a ≤ b → b < (bfsIn d l st).2.length → dq (bfsIn d l st) a ≤ dq (bfsIn d l st) b) ∧ ∀ b,b < (bfsIn d l st).2.length → dq (bfsIn d l st) b ≤ d
  | [],st,_,_,h1,h2 => ⟨h1,h2⟩
  | j :: r,st,hl,hq,h1,h2 => by
    have hj := hl j (by simp)
    simp only [bfsIn]
    split
    · rename_i hn
      have keep : ∀ a,a < st.2.length → dq (st.1.set j.toNat d,st.2 ++ [j]) a = dq st a := by
        intro a ha
        have hm : st.2.getD a 0 ∈ st.2 := by simp [ha]
        have hx := hq _ hm
        unfold dq
        have e1 : (st.2 ++ [j]).getD a 0 = st.2.getD a 0 := by
          rw [List.getD_eq_getElem?_getD,List.getElem?_append_left ha,← List.getD_eq_getElem?_getD]
        show (st.1.set j.toNat d).getD ((st.2 ++ [j]).getD a 0).toNat 0 = _
        rw [e1,getD_setB _ _ _ _ (by omega),if_neg (fun e => by rw [e] at hn; omega)]
      have last : dq (st.1.set j.toNat d,st.2 ++ [j]) st.2.length = d := by
        unfold dq
        show (st.1.set j.toNat d).getD ((st.2 ++ [j]).getD st.2.length 0).toNat 0 = d
        rw [show (st.2 ++ [j]).getD st.2.length 0 = j by simp,getD_setB _ _ _ _ (by omega),if_pos rfl]
      refine bfsIn_mono d hd r _ (fun y hy => by simpa using hl y (by simp [hy])) ?_ ?_ ?_
      · intro x hx
        rcases List.mem_append.1 hx with hx | hx
        · have := hq x hx
          refine ⟨by simpa using this.1,?_⟩
          show 0 ≤ (st.1.set j.toNat d).getD x.toNat 0
          rw [getD_setB _ _ _ _ (by omega)]
          split <;> omega
        · rw [List.mem_singleton] at hx; subst hx
          refine ⟨by simpa using hj,?_⟩
          show 0 ≤ (st.1.set x.toNat d).getD x.toNat 0
          rw [getD_setB _ _ _ _ (by omega),if_pos rfl]; exact hd
      · intro a b hab hb
        have hb' : b < st.2.length + 1 := by simpa using hb
        by_cases eb : b = st.2.length
        · subst eb
          rw [last]
          by_cases ea : a = st.2.length
          · subst ea; rw [last]; exact Int.le_refl _
          · rw [keep a (by omega)]; exact h2 a (by omega)
        · rw [keep b (by omega),keep a (by omega)]; exact h1 a b hab (by omega)
      · intro b hb
        have hb' : b < st.2.length + 1 := by simpa using hb
        by_cases eb : b = st.2.length
        · subst eb; rw [last]; exact Int.le_refl _
        · rw [keep b (by omega)]; exact h2 b (by omega)
    · exact bfsIn_mono d hd r st (fun y hy => hl y (by simp [hy])) hq h1 h2
structure DS (L : List (List Int)) (i : Nat) (st : List Int × List Int) (k : Nat) : Prop where
  di : DI L i st k
  zero : st.1.getD i 0 = 0
  mono : ∀ a b,a ≤ b → b < st.2.length → dq st a ≤ dq st b
  near : ∀ a b,k ≤ a → a < st.2.length → b < st.2.length → dq st b ≤ dq st a + 1
  ed : ∀ a,a < k → ∀ y ∈ L.getD (st.2.getD a 0).toNat [],0 ≤ st.1.getD y.toNat 0 ∧ st.1.getD y.toNat 0 ≤ dq st a + 1
theorem DS.step {L : List (List Int)} (hL : LOk L.length L) {i : Nat} (hi : i < L.length) {st : List Int × List Int} {k : Nat} (h : DS L i st k) (hk : k < st.2.length) :
    DS L i (bfsIn (st.1.getD (st.2.getD k 0).toNat 0 + 1) (L.getD (st.2.getD k 0).toNat []) st) (k + 1) := by
  have hd1 := h.di.step hL hk
  have hm : st.2.getD k 0 ∈ st.2 := by simp [hk]
  obtain ⟨hxr,hx0⟩ := h.di.bi.q _ hm
  have hlen := h.di.bi.len
  have hl := hL (st.2.getD k 0).toNat
  have hdk : dq st k + 1 = st.1.getD (st.2.getD k 0).toNat 0 + 1 := rfl
  have hl' : ∀ y ∈ L.getD (st.2.getD k 0).toNat [],0 ≤ y ∧ y < (st.1.length : Int) := by rw [hlen]; exact hl
  have hmono := bfsIn_mono (dq st k + 1) (by unfold dq; omega) _ st hl' (fun x hx => by have := h.di.bi.q x hx; rw [hlen]; exact this) h.mono (fun b hb => h.near k b (Nat.le_refl _) hk hb)
  have hpre := bfsIn_pre (dq st k + 1) (L.getD (st.2.getD k 0).toNat []) st
  have keep : ∀ v,0 ≤ st.1.getD v 0 → _ := fun v hv => bfsIn_keep (dq st k + 1) v (L.getD (st.2.getD k 0).toNat []) st hl' hv
  have gq : ∀ a,a < st.2.length → (bfsIn (dq st k + 1) (L.getD (st.2.getD k 0).toNat []) st).2.getD a 0 = st.2.getD a 0 := by
    intro a ha
    obtain ⟨t,ht⟩ := hpre
    rw [← ht,List.getD_eq_getElem?_getD,List.getElem?_append_left ha,← List.getD_eq_getElem?_getD]
  have kq : ∀ a,a < st.2.length → dq (bfsIn (dq st k + 1) (L.getD (st.2.getD k 0).toNat []) st) a = dq st a := by
    intro a ha
    have hma : st.2.getD a 0 ∈ st.2 := by simp [ha]
    unfold dq at *
    rw [gq a ha]
    exact keep _ (h.di.bi.q _ hma).2
  have hpl := hpre.length_le
  rw [← hdk] at hd1 ⊢
  refine ⟨hd1,?_,hmono.1,?_,?_⟩
  · rw [keep i (by rw [h.zero]; exact Int.le_refl _)]; exact h.zero
  · intro a b ha hal hb
    have h1 := hmono.2 b hb
    have h2 := hmono.1 k a (by omega) hal
    rw [kq k hk] at h2
    omega
  · intro a ha y hy
    rw [gq a (by omega)] at hy
    by_cases e : a = k
    · subst e
      rw [kq a hk]
      have hyr := hl y hy
      by_cases hn : 0 ≤ st.1.getD y.toNat 0
      · rw [keep _ hn]
        refine ⟨hn,?_⟩
        have hin := (h.di.iff y.toNat (by omega)).1 hn
        rw [Int.toNat_of_nonneg hyr.1] at hin
        obtain ⟨b,hb,eb⟩ := List.mem_iff_getElem.1 hin
        have e2 : st.2.getD b 0 = y := by simp [hb,eb]
        have := h.near a b (Nat.le_refl _) hk hb
        have e3 : dq st b = st.1.getD y.toNat 0 := by unfold dq; rw [e2]
        rw [e3] at this; exact this
      · rcases bfsIn_new (dq st a + 1) (by unfold dq; omega) y.toNat _ st hl' (by omega) (by omega) with ⟨_,g2,_⟩ | ⟨g1,_⟩
        · rw [g2]; exact ⟨by unfold dq; omega,Int.le_refl _⟩
        · rw [Int.toNat_of_nonneg hyr.1] at g1; exact absurd hy g1
    · rw [kq a (by omega)]
      have h1 := h.ed a (by omega) y hy
      rw [keep _ h1.1]; exact h1
theorem DS.run {L : List (List Int)} (hL : LOk L.length L) {i : Nat} (hi : i < L.length) : ∀ (f : Nat) (st : List Int × List Int) (k : Nat),f + k = L.length + 1 → DS L i st k → ∃ q,DS L i (bfsF L f st k,q) q.length
  | 0,st,k,hf,h => by have := h.di.bi.len_le; have := h.di.le; omega
  | f + 1,st,k,hf,h => by
    simp only [bfsF]
    split
    · rename_i hk
      exact DS.run hL hi f _ _ (by omega) (h.step hL hi hk)
    · have e : k = st.2.length := by have := h.di.le; omega
      exact ⟨st.2,by rw [← e]; exact h⟩
theorem bfs_DS {L : List (List Int)} (hL : LOk L.length L) {i : Nat} (hi : i < L.length) : ∃ q,DS L i (bfs L i,q) q.length := by
  refine DS.run hL hi _ _ _ (by omega) ⟨DI.zero hi,?_,?_,?_,fun a ha => absurd ha (Nat.not_lt_zero a)⟩
  · show (bfs0 L.length i).getD i 0 = 0
    unfold bfs0
    rw [getD_setB _ _ _ _ (by simpa using hi),if_pos rfl]
  · intro a b hab hb
    have hb' : b < 1 := hb
    have e1 : a = 0 := by omega
    have e2 : b = 0 := by omega
    rw [e1,e2]; exact Int.le_refl _
  · intro a b _ ha hb
    have ha' : a < 1 := ha
    have hb' : b < 1 := hb
    have e1 : a = 0 := by omega
    have e2 : b = 0 := by omega
    rw [e1,e2]; omega
theorem bfs_zero {L : List (List Int)} (hL : LOk L.length L) {i : Nat} (hi : i < L.length) : (bfs L i).getD i 0 = 0 := by
  obtain ⟨q,h⟩ := bfs_DS hL hi
  exact h.zero
def ords68 : List (Nat × List (Nat × Bool)) := []
def cd68 : Cd := (.seq (.reg [⟨⟨some 4,Op.assign (Operand.const (Value.slice none 0 0)),none⟩,[]⟩]) (.seq (.reg [⟨⟨some 10,Op.buildSlice 27 1 #[(0,(Operand.const (Value.int IntKind.i64 (-1))))],none⟩,[]⟩,
  ⟨⟨some 11,Op.move (Operand.tmp 0),none⟩,[]⟩,
  ⟨⟨some 12,Op.call { callee := (Callee.builtin Builtin.len),args := #[(Operand.tmp 11)],argTypes := #[43] },none⟩,[]⟩,
  ⟨⟨some 13,Op.call { callee := (Callee.value (Operand.func 100)),args := #[(Operand.tmp 10),(Operand.tmp 12)],argTypes := #[27,3] },none⟩,[]⟩,
  ⟨⟨some 5,Op.assign (Operand.tmp 13),none⟩,[]⟩]) (.seq (.reg [⟨⟨some 14,Op.move (Operand.tmp 5),none⟩,[]⟩,
  ⟨⟨some 15,Op.move (Operand.tmp 1),none⟩,[]⟩,
  ⟨⟨some 16,Op.indexAddr 27 (Operand.tmp 14) (Operand.tmp 15),none⟩,[]⟩,
  ⟨⟨none,Op.store 3 (Operand.tmp 16) (Operand.const (Value.int IntKind.i64 0)),none⟩,[]⟩]) (.seq (.reg [⟨⟨some 17,Op.move (Operand.tmp 1),none⟩,[]⟩,
  ⟨⟨some 18,Op.buildSlice 27 1 #[(0,(Operand.tmp 17))],none⟩,[]⟩,
  ⟨⟨some 6,Op.assign (Operand.tmp 18),none⟩,[]⟩]) (.seq (.block 0 (.loop (.seq (.seq (.reg [⟨⟨some 19,Op.move (Operand.tmp 6),none⟩,[]⟩,
  ⟨⟨some 20,Op.call { callee := (Callee.builtin Builtin.len),args := #[(Operand.tmp 19)],argTypes := #[27] },none⟩,[]⟩,
  ⟨⟨some 21,Op.binOp BinOp.gtr 3 (Operand.tmp 20) (Operand.const (Value.int IntKind.i64 0)) 3,none⟩,[]⟩]) (.cond (Operand.tmp 21) .skip (.exit 0))) (.block 1 (.seq (.reg [⟨⟨some 22,Op.move (Operand.tmp 6),none⟩,[]⟩,
  ⟨⟨some 23,Op.indexAddr 27 (Operand.tmp 22) (Operand.const (Value.int IntKind.i64 0)),none⟩,[]⟩,
  ⟨⟨some 24,Op.load 3 (Operand.tmp 23),none⟩,[]⟩,
  ⟨⟨some 7,Op.assign (Operand.tmp 24),none⟩,[]⟩]) (.seq (.reg [⟨⟨some 25,Op.move (Operand.tmp 6),none⟩,[]⟩,
  ⟨⟨some 26,Op.slice 27 (Operand.tmp 25) (some (Operand.const (Value.int IntKind.i64 1))) none none,none⟩,[]⟩,
  ⟨⟨some 6,Op.assign (Operand.tmp 26),none⟩,[]⟩]) (.seq (.reg [⟨⟨some 27,Op.move (Operand.tmp 0),none⟩,[]⟩,
  ⟨⟨some 28,Op.move (Operand.tmp 7),none⟩,[]⟩,
  ⟨⟨some 29,Op.indexAddr 43 (Operand.tmp 27) (Operand.tmp 28),none⟩,[]⟩,
  ⟨⟨some 30,Op.load 27 (Operand.tmp 29),none⟩,[]⟩,
  ⟨⟨some 31,Op.call { callee := (Callee.builtin Builtin.len),args := #[(Operand.tmp 30)],argTypes := #[27] },none⟩,[]⟩,
  ⟨⟨some 32,Op.move (Operand.const (Value.int IntKind.i64 0)),none⟩,[]⟩]) (.block 2 (.loop (.seq (.reg [⟨⟨some 33,Op.binOp BinOp.lss 3 (Operand.tmp 32) (Operand.tmp 31) 3,none⟩,[]⟩]) (.seq (.cond (Operand.tmp 33) .skip (.exit 2)) (.seq (.block 3 (.seq (.reg [⟨⟨some 34,Op.indexAddr 27 (Operand.tmp 30) (Operand.tmp 32),none⟩,[]⟩,
  ⟨⟨some 35,Op.load 3 (Operand.tmp 34),none⟩,[]⟩,
  ⟨⟨some 9,Op.assign (Operand.tmp 35),none⟩,[]⟩]) (.seq (.reg [⟨⟨some 36,Op.move (Operand.tmp 5),none⟩,[]⟩,
  ⟨⟨some 37,Op.move (Operand.tmp 9),none⟩,[]⟩,
  ⟨⟨some 38,Op.indexAddr 27 (Operand.tmp 36) (Operand.tmp 37),none⟩,[]⟩,
  ⟨⟨some 39,Op.load 3 (Operand.tmp 38),none⟩,[]⟩,
  ⟨⟨some 40,Op.binOp BinOp.lss 3 (Operand.tmp 39) (Operand.const (Value.int IntKind.i64 0)) 3,none⟩,[]⟩]) (.cond (Operand.tmp 40) (.seq (.reg [⟨⟨some 41,Op.move (Operand.tmp 5),none⟩,[]⟩,
  ⟨⟨some 42,Op.move (Operand.tmp 9),none⟩,[]⟩,
  ⟨⟨some 43,Op.move (Operand.tmp 5),none⟩,[]⟩,
  ⟨⟨some 44,Op.move (Operand.tmp 7),none⟩,[]⟩,
  ⟨⟨some 45,Op.indexAddr 27 (Operand.tmp 43) (Operand.tmp 44),none⟩,[]⟩,
  ⟨⟨some 46,Op.load 3 (Operand.tmp 45),none⟩,[]⟩,
  ⟨⟨some 47,Op.binOp BinOp.add 3 (Operand.tmp 46) (Operand.const (Value.int IntKind.i64 1)) 3,none⟩,[]⟩,
  ⟨⟨some 48,Op.indexAddr 27 (Operand.tmp 41) (Operand.tmp 42),none⟩,[]⟩,
  ⟨⟨none,Op.store 3 (Operand.tmp 48) (Operand.tmp 47),none⟩,[]⟩]) (.reg [⟨⟨some 49,Op.move (Operand.tmp 6),none⟩,[]⟩,
  ⟨⟨some 50,Op.move (Operand.tmp 9),none⟩,[]⟩,
  ⟨⟨some 51,Op.buildSlice 27 1 #[(0,(Operand.tmp 50))],none⟩,[]⟩,
  ⟨⟨some 52,Op.call { callee := (Callee.builtin Builtin.append),args := #[(Operand.tmp 49),(Operand.tmp 51)],argTypes := #[27,27] },none⟩,[]⟩,
  ⟨⟨some 6,Op.assign (Operand.tmp 52),none⟩,[]⟩])) .skip)))) (.reg [⟨⟨some 53,Op.binOp BinOp.add 3 (Operand.tmp 32) (Operand.const (Value.int IntKind.i64 1)) 3,none⟩,[]⟩,
  ⟨⟨some 32,Op.move (Operand.tmp 53),none⟩,[]⟩]))))))))))))) (.seq (.reg [⟨⟨some 54,Op.move (Operand.tmp 5),none⟩,[]⟩,
  ⟨⟨some 4,Op.assign (Operand.tmp 54),none⟩,[]⟩]) .ret))))))
theorem sl68 : slim Tryz.f68.ntmps ords68 (Tryz.f68.body.getD .skip) = some cd68 := by kernel_rfl
theorem in68 {args : List Value} {H : AH} {R : Value → AH → Prop} (hl : args.length = 2) (h : ∀ (Q : Exit → Sl → AH → Prop),(∀ e s H,endA Tryz.prog [ResultVar.tmp 4] R e s H → Q e s H) → wpC Tryz.prog cd68 Q (enterA args) H) : ACalls Tryz.prog 68 args H R :=
  ACalls.intro (by kernel_rfl) Tryz.func68 rfl (by kernel_rfl) sl68 hl (of_decide_eq_true (by kernel_rfl)) (by kernel_rfl) h
end Go.Proofs.YtelafbennmclfaaGreat.Ai
namespace Go.Proofs.YtelafbennmclfaaGreat.Ai
open Go Go.RowKit
def QH (H0 H : AH) (oo : Nat) (out : List Int) (oq kq nq : Nat) (q : List Int) : Prop :=
  (∃ zs,H[oq]? = some (.cells (ints zs) 3 false) ∧ (zs.drop kq).take nq = q ∧ kq + nq ≤ zs.length) ∧ H[oo]? = some (.cells (ints out) 3 false) ∧ H0.length ≤ oo ∧ H0.length ≤ oq ∧ oq ≠ oo ∧ H0 <+: H
theorem app_q {P : Program} {t e : TypeId} (hu : P.underlying t = some (.slice e)) (hc : P.cellsOf e = 1) (hby : P.bytesOf e ≤ 64) (hz : zeroOk P e = true) {H : AH} {o k n c : Nat} {zs : List Int} {x : Int} (ho : H[o]? = some (.cells (ints zs) e false)) (hn : k + n ≤ zs.length) (hb : n ≤ 1099511627775) :
    appendA P t t (.slice (some ⟨o,k,none⟩) n c) (.slice (some ⟨H.length,0,none⟩) 1 1) (H ++ [.cells [.int .i64 x] e false]) = some (.slice (some ⟨H.length + 1,0,none⟩) (n + 1) (n + 1),H.set o .dead ++ [.cells [.int .i64 x] e false,.cells (ints ((zs.drop k).take n ++ [x])) e false]) := by
  have hlt : o < H.length := at_lt ho
  have hb2 : (n + 1) * P.bytesOf e ≤ 140737488355328 := by
    refine Nat.le_trans (Nat.mul_le_mul_left _ hby) ?_
    omega
  have ho2 : (H ++ [AObj.cells [.int .i64 x] e false])[o]? = some (.cells (ints zs) e false) := at_app ho _
  have hsc : sliceCells P e (.slice (some ⟨H.length,0,none⟩) 1 1) (H ++ [.cells [.int .i64 x] e false]) = some (1,[.int .i64 x]) := by
    simp only [sliceCells,at_new,hc]; simp
  simp only [appendA,hu,hc,hsc,ho2,hz]
  rw [if_pos (by simp),if_neg (by simp),if_pos ⟨trivial,by rw [ints_len]; omega,hb2,by omega,trivial⟩]
  have : List.take (n * 1) (List.drop k (ints zs)) ++ [Value.int .i64 x] = ints ((zs.drop k).take n ++ [x]) := by
    simp [ints,List.map_take,List.map_drop]
  rw [this,List.length_append,List.set_append_left _ _ hlt]
  simp
theorem QH.push {H0 H : AH} {oo : Nat} {out : List Int} {oq kq nq : Nat} {q : List Int} (h : QH H0 H oo out oq kq nq q) (y : Nat) (d x : Int) (hb : nq ≤ 1099511627775) :
    ∃ H2,appendA Tryz.prog 27 27 (.slice (some ⟨oq,kq,none⟩) nq nq) (.slice (some ⟨(H.set oo (.cells (ints (out.set y d)) 3 false)).length,0,none⟩) 1 1) (H.set oo (.cells (ints (out.set y d)) 3 false) ++ [.cells [.int .i64 x] 3 false]) = some (.slice (some ⟨(H.set oo (.cells (ints (out.set y d)) 3 false)).length + 1,0,none⟩) (nq + 1) (nq + 1),H2) ∧
      QH H0 H2 oo (out.set y d) ((H.set oo (.cells (ints (out.set y d)) 3 false)).length + 1) 0 (nq + 1) (q ++ [x]) := by
  obtain ⟨⟨zs,h1,h2,h3⟩,h4,h5,h6,h7,h8⟩ := h
  have hlt := at_lt h4
  generalize hH1 : H.set oo (.cells (ints (out.set y d)) 3 false) = H1
  have l1 : H1.length = H.length := by rw [← hH1]; simp
  have k1 : H1[oq]? = some (.cells (ints zs) 3 false) := by rw [← hH1,List.getElem?_set_ne (fun e => h7 e.symm)]; exact h1
  have k4 : H1[oo]? = some (.cells (ints (out.set y d)) 3 false) := by rw [← hH1]; exact at_set h4
  have hp1 : H0 <+: H1 := by rw [← hH1]; exact pre_set h8 h5 _
  refine ⟨_,app_q Tryz.underlying27 cs3 (by rw [by3]; decide) zk3 k1 h3 hb,⟨(zs.drop kq).take nq ++ [x],?_,?_,?_⟩,?_,h5,?_,?_,?_⟩
  · rw [List.getElem?_append_right (by simp)]
    simp
  · rw [List.drop_zero,h2,List.take_of_length_le]
    rw [← h2]; simp; omega
  · simp; omega
  · rw [List.getElem?_append_left (by simp; omega),List.getElem?_set_ne h7]
    exact k4
  · have := h8.length_le; omega
  · omega
  · exact pre_app (pre_set hp1 h6 _) _
theorem QH.tail {H0 H : AH} {oo : Nat} {out : List Int} {oq kq nq : Nat} {x : Int} {q : List Int} (h : QH H0 H oo out oq kq nq (x :: q)) : QH H0 H oo out oq (kq + 1) (nq - 1) q ∧ cellA H oq kq = some (.int .i64 x) ∧ 0 < nq := by
  obtain ⟨⟨zs,h1,h2,h3⟩,h4⟩ := h
  have hl := congrArg List.length h2
  simp only [List.length_take,List.length_drop,List.length_cons] at hl
  have hk : kq < zs.length := by omega
  obtain ⟨n,rfl⟩ : ∃ n,nq = n + 1 := ⟨nq - 1,by omega⟩
  rw [List.drop_eq_getElem_cons hk,List.take_succ_cons] at h2
  injection h2 with e1 e2
  refine ⟨⟨⟨zs,h1,by simpa using e2,by omega⟩,h4⟩,?_,by omega⟩
  rw [cell_of h1,ints_at zs hk]
  congr 2
  simp [hk,e1]
theorem bfsIn_drop (d : Int) (l : List Int) (j : Nat) (hj : j < l.length) (st : List Int × List Int) : bfsIn d (l.drop j) st = if st.1.getD (l.getD j 0).toNat 0 < 0 then bfsIn d (l.drop (j + 1)) (st.1.set (l.getD j 0).toNat d,st.2 ++ [l.getD j 0]) else bfsIn d (l.drop (j + 1)) st := by
  have e : l.getD j 0 = l[j] := by simp [hj]
  rw [List.drop_eq_getElem_cons hj,e]
  rfl
set_option maxRecDepth 20000 in
set_option maxHeartbeats 4000000 in
theorem spread_c (v : Value) (L : List (List Int)) (i : Nat) (H : AH) {b : Nat} (hr : RowLB b 27 3 H v L) (hL : LOk L.length L) (hN : L.length ≤ 1000000) (hi : i < L.length) (hls : ∀ x,(L.getD x []).length ≤ 1000000000) :
    ACalls Tryz.prog 68 [v,.int .i64 (i : Int)] H fun r H' => Own 3 H H' r (bfs L i) ∧ H <+: H' := by
  refine in68 rfl ?_
  intro Q hQ
  obtain ⟨us,hus,hvb,hul,hin⟩ := hr
  simp (maxSteps := 1000000) (disch := omega) only [cd68,hus.len Tryz.underlying43,SS,eq_self,reduceIte,reduceCtorEq,Nat.reduceEqDiff,Nat.reduceAdd]
  generalize hA : H ++ [AObj.cells [.int .i64 (-1)] 3 false] = A
  have pA : H <+: A := by rw [← hA]; exact List.prefix_append _ _
  have rA : Row 3 A (.slice (some ⟨H.length,0,none⟩) 1 1) [-1] := .inr ⟨H.length,0,ints [-1],false,rfl,by rw [← hA]; exact at_new ..,by decide,rfl⟩
  rw [hul]
  refine CallH.by (Repeat_c _ L.length A rA (by omega)) ?_
  rintro u B ⟨hu,pB⟩
  rcases hu with ⟨_,h0⟩ | ⟨oo,hu,hol,hoc⟩
  · have : L.length = 0 := by simpa using congrArg List.length h0
    omega
  rw [List.length_replicate] at hu
  subst hu
  have hlr : i < (List.replicate L.length (-1 : Int)).length := by simpa using hi
  simp (maxSteps := 1000000) (disch := omega) only [Int.toNat_natCast,Nat.zero_add,st_ints cs3 hoc hlr,SS,eq_self,reduceIte,reduceCtorEq,Nat.reduceEqDiff,Nat.reduceAdd]
  have hb0 : (List.replicate L.length (-1 : Int)).set i 0 = bfs0 L.length i := rfl
  rw [hb0]
  generalize hC : B.set oo (.cells (ints (bfs0 L.length i)) 3 false) = C
  have c0 : C[oo]? = some (.cells (ints (bfs0 L.length i)) 3 false) := by rw [← hC]; exact at_set hoc
  have lAH := pA.length_le
  have pC : H <+: C := by rw [← hC]; exact pre_set (pA.trans pB) (by omega) _
  have hlt := at_lt c0
  have q0 : QH H (C ++ [AObj.cells [.int .i64 (i : Int)] 3 false]) oo (bfs0 L.length i) C.length 0 1 [(i : Int)] :=
    ⟨⟨[(i : Int)],at_new ..,rfl,by simp⟩,at_app c0 _,by omega,pC.length_le,by omega,pre_app pC _⟩
  refine LoopH.by (fun m s H' => ∃ st k oq kq nq,m + k = L.length ∧ s 0 = v ∧ s 5 = .slice (some ⟨oo,0,none⟩) L.length L.length ∧ s 6 = .slice (some ⟨oq,kq,none⟩) nq nq ∧ nq + k = st.2.length ∧ QH H H' oo st.1 oq kq nq (st.2.drop k) ∧ BI L.length st ∧ bfsF L (m + 1) st k = bfs L i) L.length ?_ ?_
  · exact ⟨(bfs0 L.length i,[(i : Int)]),0,C.length,0,1,by omega,rfl,rfl,rfl,rfl,q0,bfs0_BI _ i hi,rfl⟩
  · rintro m s H' ⟨st,k,oq,kq,nq,hm,h0,h5,h6,hnq,hq,hb,hF⟩
    have hle := hb.len_le
    simp (maxSteps := 1000000) (disch := omega) only [h0,h5,h6,SS,eq_self,reduceIte,reduceCtorEq,Nat.reduceEqDiff,Nat.reduceAdd]
    refine brD.intro (fun g => ?_) (fun g => ?_)
    · have hk : k < st.2.length := by omega
      rw [bfsF_step L m st k hk] at hF
      have hqm : st.2.getD k 0 ∈ st.2 := by simp [hk]
      obtain ⟨hxr,hx0⟩ := hb.q _ hqm
      have hxl := hb.lo (st.2.getD k 0).toNat (by omega)
      rw [List.drop_eq_getElem_cons hk] at hq
      have hge : st.2[k] = st.2.getD k 0 := by simp [hk]
      rw [hge] at hq
      obtain ⟨x,hx⟩ : ∃ x : Nat,st.2.getD k 0 = x := ⟨(st.2.getD k 0).toNat,by omega⟩
      rw [hx] at hq hF hxr hx0 hxl
      rw [Int.toNat_natCast] at hF hx0 hxl
      obtain ⟨hq2,hcell,hnq0⟩ := hq.tail
      have hqo : ∃ zs ro,H'[oq]? = some (.cells (ints zs) 3 ro) := by obtain ⟨⟨zs,g1,_⟩,_⟩ := hq; exact ⟨zs,false,g1⟩
      obtain ⟨zs,ro,hqo⟩ := hqo
      have hsl := sl_own (P := Tryz.prog) (t := 27) (k := kq) (n := nq) (c := nq) Tryz.underlying27 cs3 hqo (bound_some (k := .i64) (i := 1) (by decide) 0) (hi_none nq) (show (1 : Int).toNat ≤ nq from hnq0) (Nat.le_refl _)
      have hpp : H <+: H' := hq.2.2.2.2.2
      have hus' := hus.pre hpp
      have hxu : x < us.length := by omega
      have hinH := (hin x (by omega)).1
      have hin' := hinH.pre hpp
      have hlb := hls x
      have hLx := hL x
      have hz0 : (0 : Int).toNat = 0 := rfl
      simp (maxSteps := 1000000) (disch := omega) only [h0,h5,h6,hz0,hcell,hsl,hus'.ix Tryz.underlying43 cs27,hus'.cell,Int.toNat_natCast,SS,eq_self,reduceIte,reduceCtorEq,Nat.reduceEqDiff,Nat.reduceAdd]
      generalize hw : us.getD x undef = w at *
      generalize hl : L.getD x [] = l at *
      simp (maxSteps := 1000000) (disch := omega) only [hin'.len Tryz.underlying27,SS,eq_self,reduceIte,reduceCtorEq,Nat.reduceEqDiff,Nat.reduceAdd]
      generalize hd : st.1.getD x 0 + 1 = d at *
      have hone : (1 : Int).toNat = 1 := rfl
      simp only [hone]
      refine LoopH.by (fun m' s' H'' => ∃ j st' oq' kq' nq',m' + j = l.length ∧ s' 0 = v ∧ s' 5 = .slice (some ⟨oo,0,none⟩) L.length L.length ∧ s' 6 = .slice (some ⟨oq',kq',none⟩) nq' nq' ∧ s' 7 = .int .i64 (x : Int) ∧ s' 30 = w ∧ s' 31 = .int .i64 (l.length : Int) ∧ s' 32 = .int .i64 ((j : Nat) : Int) ∧ nq' + (k + 1) = st'.2.length ∧ QH H H'' oo st'.1 oq' kq' nq' (st'.2.drop (k + 1)) ∧ BI L.length st' ∧ st.2 <+: st'.2 ∧ st'.1.getD x 0 + 1 = d ∧ bfsIn d (l.drop j) st' = bfsIn d l st) l.length ?_ ?_
      · have hd1 : st.2.drop (k + 1) = st.2.drop (k + 1) := rfl
        refine ⟨0,st,oq,kq + 1,nq - 1,by simp,?_⟩
        simp only [SS,eq_self,reduceIte,reduceCtorEq,Nat.reduceEqDiff,Nat.reduceAdd,h0,h5,h6]
        have hd2 : bfsIn d (l.drop 0) st = bfsIn d l st := by rw [List.drop_zero]
        have hpr := List.prefix_refl st.2
        (repeat' first | exact hq2 | exact hb | exact hd | exact hd2 | exact hpr | apply And.intro) <;> first | (simp only [Value.int.injEq,true_and]; omega) | omega | rfl | assumption | (simp; done) | (simp; omega)
      · rintro m' s' H'' ⟨j,st',oq',kq',nq',hm',g0,g5,g6,g7,g30,g31,g32,hnq',hq',hb',hpre,hd',hB⟩
        have hpp' : H <+: H'' := hq'.2.2.2.2.2
        have hw' := hinH.pre hpp'
        have hle' := hb'.len_le
        simp (maxSteps := 1000000) (disch := omega) only [g0,g5,g6,g7,g30,g31,g32,SS,eq_self,reduceIte,reduceCtorEq,Nat.reduceEqDiff,Nat.reduceAdd]
        refine brD.intro (fun q => ?_) (fun q => ?_)
        · have hj : j < l.length := by omega
          rw [bfsIn_drop d l j hj] at hB
          have hym : l.getD j 0 ∈ l := by simp [hj]
          obtain ⟨y,hy⟩ : ∃ y : Nat,l.getD j 0 = y := ⟨(l.getD j 0).toNat,by have := hLx _ hym; omega⟩
          have hyr := hLx _ hym
          rw [hy] at hB hyr
          rw [Int.toNat_natCast] at hB
          have hoc' := hq'.2.1
          have hlen' := hb'.len
          have hyl : y < st'.1.length := by omega
          have hxl' : x < st'.1.length := by omega
          have hcw := hw'.cell hj
          rw [hy] at hcw
          simp (maxSteps := 1000000) (disch := omega) only [g0,g5,g6,g7,g30,g31,g32,hw'.ix Tryz.underlying27 cs3,hcw,Int.toNat_natCast,Nat.zero_add,cell_ints hoc' hyl,SS,eq_self,reduceIte,reduceCtorEq,Nat.reduceEqDiff,Nat.reduceAdd]
          refine brD.intro (fun e => ?_) (fun e => ?_)
          · rw [if_pos e] at hB
            have hd0 : 0 ≤ d := by omega
            have hdl : d ≤ st'.2.length := by
              have := hb'.lo x (by omega)
              omega
            have hb2 := hb'.put (j := (y : Int)) (d := d) hyr (by rw [Int.toNat_natCast]; exact e) ⟨hd0,hdl⟩
            rw [Int.toNat_natCast] at hb2
            obtain ⟨H2,k1,k2⟩ := hq'.push y d (y : Int) (by omega)
            have hk1 : k + 1 ≤ st'.2.length := by have := hpre.length_le; omega
            rw [← List.drop_append_of_le_length hk1] at k2
            simp (maxSteps := 1000000) (disch := omega) only [g0,g5,g6,g7,g30,g31,g32,hw'.ix Tryz.underlying27 cs3,hcw,Int.toNat_natCast,Nat.zero_add,cell_ints hoc' hxl',hd',st_ints cs3 hoc' hyl,k1,wrap64,SS,eq_self,reduceIte,reduceCtorEq,Nat.reduceEqDiff,Nat.reduceAdd]
            have f1 : st.2 <+: st'.2 ++ [(y : Int)] := hpre.trans (List.prefix_append _ _)
            have f2 : (st'.1.set y d).getD x 0 + 1 = d := by
              rw [getD_setB _ _ _ _ hxl']
              split
              · rename_i e2
                subst e2
                have := hb'.lo y (by omega)
                omega
              · exact hd'
            refine ⟨m' - 1,by omega,j + 1,(st'.1.set y d,st'.2 ++ [(y : Int)]),(H''.set oo (AObj.cells (ints (st'.1.set y d)) 3 false)).length + 1,0,nq' + 1,?_⟩
            have f3 : (st'.2 ++ [(y : Int)]).length = st'.2.length + 1 := by simp
            (repeat' first | exact k2 | exact hb2 | exact f1 | exact f2 | exact hB | apply And.intro) <;> first | (simp only [Value.int.injEq,true_and]; omega) | omega | rfl | assumption | (simp; done) | (simp; omega)
          · rw [if_neg e] at hB
            simp (maxSteps := 1000000) (disch := omega) only [g0,g5,g6,g7,g30,g31,g32,wrap64,SS,eq_self,reduceIte,reduceCtorEq,Nat.reduceEqDiff,Nat.reduceAdd]
            refine ⟨m' - 1,by omega,j + 1,st',oq',kq',nq',?_⟩
            (repeat' first | exact hq' | exact hb' | exact hpre | exact hd' | exact hB | apply And.intro) <;> first | (simp only [Value.int.injEq,true_and]; omega) | omega | rfl | assumption | (simp; done) | (simp; omega)
        · simp (maxSteps := 1000000) (disch := omega) only [g0,g5,g6,g7,g30,g31,g32,SS,eq_self,reduceIte,reduceCtorEq,Nat.reduceEqDiff,Nat.reduceAdd]
          rw [List.drop_of_length_le (by omega)] at hB
          have hB' : st' = bfsIn d l st := hB
          rw [← hB'] at hF
          have hm1 : m - 1 + 1 = m := by omega
          rw [← hm1] at hF
          refine ⟨m - 1,by omega,st',k + 1,oq',kq',nq',?_⟩
          (repeat' first | exact hq' | exact hb' | exact hF | apply And.intro) <;> first | (simp only [Value.int.injEq,true_and]; omega) | omega | rfl | assumption | (simp; done) | (simp; omega)
    · simp (maxSteps := 1000000) (disch := omega) only [h5,SS,eq_self,reduceIte,reduceCtorEq,Nat.reduceEqDiff,Nat.reduceAdd]
      refine hQ _ _ _ ?_
      simp (maxSteps := 1000000) (disch := omega) only [h5,SS,eq_self,reduceIte,reduceCtorEq,Nat.reduceEqDiff,Nat.reduceAdd]
      rw [bfsF_done L _ st k (by omega)] at hF
      rw [hF] at hq
      have hbl : (bfs L i).length = L.length := by rw [← hF]; exact hb.len
      exact ⟨.inr ⟨oo,by rw [hbl],hq.2.2.1,hq.2.1⟩,hq.2.2.2.2.2⟩
theorem QH.at {H0 H : AH} {oo : Nat} {out : List Int} {oq kq nq : Nat} {q : List Int} (h : QH H0 H oo out oq kq nq q) {j : Nat} (hj : j < q.length) : cellA H oq (kq + j) = some (.int .i64 (q.getD j 0)) := by
  obtain ⟨⟨zs,h1,h2,h3⟩,_⟩ := h
  have hl := congrArg List.length h2
  simp only [List.length_take,List.length_drop] at hl
  have hk : kq + j < zs.length := by omega
  rw [cell_of h1,ints_at zs hk]
  congr 2
  rw [← h2,List.getD_eq_getElem?_getD,List.getD_eq_getElem?_getD,List.getElem?_take,if_pos (by omega),List.getElem?_drop]
def ords52 : List (Nat × List (Nat × Bool)) := []
def cd52 : Cd := (.seq (.reg [⟨⟨some 2,Op.box 26 (Operand.tmp 0),none⟩,[]⟩,
  ⟨⟨some 4,Op.assign (Operand.const (Value.slice none 0 0)),none⟩,[]⟩]) (.seq (.reg [⟨⟨some 7,Op.buildSlice 27 0 #[],none⟩,[]⟩,
  ⟨⟨some 5,Op.assign (Operand.tmp 7),none⟩,[]⟩]) (.seq (.seq (.reg [⟨⟨some 6,Op.assign (Operand.const (Value.int IntKind.i64 0)),none⟩,[]⟩]) (.block 0 (.loop (.seq (.seq (.reg [⟨⟨some 8,Op.move (Operand.tmp 6),none⟩,[]⟩,
  ⟨⟨some 9,Op.fieldAddr 26 (Operand.tmp 2) 0,none⟩,[]⟩,
  ⟨⟨some 10,Op.load 3 (Operand.tmp 9),none⟩,[]⟩,
  ⟨⟨some 11,Op.binOp BinOp.lss 3 (Operand.tmp 8) (Operand.tmp 10) 3,none⟩,[]⟩]) (.cond (Operand.tmp 11) .skip (.exit 0))) (.seq (.block 1 (.seq (.reg [⟨⟨some 14,Op.load 26 (Operand.tmp 2),none⟩,[]⟩,
  ⟨⟨some 15,Op.move (Operand.tmp 1),none⟩,[]⟩,
  ⟨⟨some 16,Op.move (Operand.tmp 6),none⟩,[]⟩,
  ⟨⟨some 17,Op.call { callee := (Callee.value (Operand.func 58)),args := #[(Operand.tmp 14),(Operand.tmp 15),(Operand.tmp 16)],argTypes := #[26,3,3] },none⟩,[]⟩]) (.cond (Operand.tmp 17) (.reg [⟨⟨some 18,Op.move (Operand.tmp 5),none⟩,[]⟩,
  ⟨⟨some 19,Op.move (Operand.tmp 6),none⟩,[]⟩,
  ⟨⟨some 20,Op.buildSlice 27 1 #[(0,(Operand.tmp 19))],none⟩,[]⟩,
  ⟨⟨some 21,Op.call { callee := (Callee.builtin Builtin.append),args := #[(Operand.tmp 18),(Operand.tmp 20)],argTypes := #[27,27] },none⟩,[]⟩,
  ⟨⟨some 5,Op.assign (Operand.tmp 21),none⟩,[]⟩]) .skip))) (.reg [⟨⟨some 12,Op.move (Operand.tmp 6),none⟩,[]⟩,
  ⟨⟨some 13,Op.binOp BinOp.add 3 (Operand.tmp 12) (Operand.const (Value.int IntKind.i64 1)) 3,none⟩,[]⟩,
  ⟨⟨some 6,Op.assign (Operand.tmp 13),none⟩,[]⟩])))))) (.seq (.reg [⟨⟨some 22,Op.move (Operand.tmp 5),none⟩,[]⟩,
  ⟨⟨some 4,Op.assign (Operand.tmp 22),none⟩,[]⟩]) .ret))))
theorem sl52 : slim Tryz.f52.ntmps ords52 (Tryz.f52.body.getD .skip) = some cd52 := by kernel_rfl
theorem in52 {args : List Value} {H : AH} {R : Value → AH → Prop} (hl : args.length = 2) (h : ∀ (Q : Exit → Sl → AH → Prop),(∀ e s H,endA Tryz.prog [ResultVar.tmp 4] R e s H → Q e s H) → wpC Tryz.prog cd52 Q (enterA args) H) : ACalls Tryz.prog 52 args H R :=
  ACalls.intro (by kernel_rfl) Tryz.func52 rfl (by kernel_rfl) sl52 hl (of_decide_eq_true (by kernel_rfl)) (by kernel_rfl) h
def ords67 : List (Nat × List (Nat × Bool)) := []
def cd67 : Cd := (.seq (.reg [⟨⟨some 1,Op.box 26 (Operand.tmp 0),none⟩,[]⟩,
  ⟨⟨some 2,Op.assign (Operand.const (Value.slice none 0 0)),none⟩,[]⟩]) (.seq (.reg [⟨⟨some 5,Op.buildSlice 43 0 #[],none⟩,[]⟩,
  ⟨⟨some 3,Op.assign (Operand.tmp 5),none⟩,[]⟩]) (.seq (.seq (.reg [⟨⟨some 6,Op.fieldAddr 26 (Operand.tmp 1) 0,none⟩,[]⟩,
  ⟨⟨some 7,Op.load 3 (Operand.tmp 6),none⟩,[]⟩,
  ⟨⟨some 8,Op.move (Operand.const (Value.int IntKind.i64 0)),none⟩,[]⟩]) (.block 0 (.loop (.seq (.reg [⟨⟨some 9,Op.binOp BinOp.lss 3 (Operand.tmp 8) (Operand.tmp 7) 3,none⟩,[]⟩]) (.seq (.cond (Operand.tmp 9) .skip (.exit 0)) (.seq (.block 1 (.seq (.reg [⟨⟨some 10,Op.move (Operand.tmp 8),none⟩,[]⟩,
  ⟨⟨some 4,Op.assign (Operand.tmp 10),none⟩,[]⟩]) (.reg [⟨⟨some 11,Op.move (Operand.tmp 3),none⟩,[]⟩,
  ⟨⟨some 12,Op.load 26 (Operand.tmp 1),none⟩,[]⟩,
  ⟨⟨some 13,Op.move (Operand.tmp 4),none⟩,[]⟩,
  ⟨⟨some 14,Op.call { callee := (Callee.value (Operand.func 91)),args := #[(Operand.tmp 12),(Operand.tmp 13)],argTypes := #[26,3] },none⟩,[]⟩,
  ⟨⟨some 15,Op.buildSlice 43 1 #[(0,(Operand.tmp 14))],none⟩,[]⟩,
  ⟨⟨some 16,Op.call { callee := (Callee.builtin Builtin.append),args := #[(Operand.tmp 11),(Operand.tmp 15)],argTypes := #[43,43] },none⟩,[]⟩,
  ⟨⟨some 3,Op.assign (Operand.tmp 16),none⟩,[]⟩]))) (.reg [⟨⟨some 17,Op.binOp BinOp.add 3 (Operand.tmp 8) (Operand.const (Value.int IntKind.i64 1)) 3,none⟩,[]⟩,
  ⟨⟨some 8,Op.move (Operand.tmp 17),none⟩,[]⟩]))))))) (.seq (.reg [⟨⟨some 18,Op.move (Operand.tmp 3),none⟩,[]⟩,
  ⟨⟨some 2,Op.assign (Operand.tmp 18),none⟩,[]⟩]) .ret))))
theorem sl67 : slim Tryz.f67.ntmps ords67 (Tryz.f67.body.getD .skip) = some cd67 := by kernel_rfl
theorem in67 {args : List Value} {H : AH} {R : Value → AH → Prop} (hl : args.length = 1) (h : ∀ (Q : Exit → Sl → AH → Prop),(∀ e s H,endA Tryz.prog [ResultVar.tmp 2] R e s H → Q e s H) → wpC Tryz.prog cd67 Q (enterA args) H) : ACalls Tryz.prog 67 args H R :=
  ACalls.intro (by kernel_rfl) Tryz.func67 rfl (by kernel_rfl) sl67 hl (of_decide_eq_true (by kernel_rfl)) (by kernel_rfl) h
end Go.Proofs.YtelafbennmclfaaGreat.Ai
namespace Go.Proofs.YtelafbennmclfaaGreat.Ai
open Go Go.RowKit
def roadsL (n : Nat) (es : List (Int × Int)) : List (List Int) := (List.range n).map fun x : Nat => nbsU es (x : Int) n
theorem roadsL_len (n : Nat) (es : List (Int × Int)) : (roadsL n es).length = n := by simp [roadsL]
theorem roadsL_at (n : Nat) (es : List (Int × Int)) (i : Nat) (hi : i < n) : (roadsL n es).getD i [] = nbsU es i n := by
  unfold roadsL
  rw [List.getD_eq_getElem?_getD,List.getElem?_map,List.getElem?_range hi]; rfl
theorem roadsL_out (n : Nat) (es : List (Int × Int)) (i : Nat) (hi : ¬ i < n) : (roadsL n es).getD i [] = [] := by
  rw [List.getD_eq_getElem?_getD,List.getElem?_eq_none (by rw [roadsL_len]; omega)]; rfl
theorem roadsL_ok (n : Nat) (es : List (Int × Int)) : LOk (roadsL n es).length (roadsL n es) := by
  intro i y hy
  rw [roadsL_len]
  by_cases hi : i < n
  · rw [roadsL_at n es i hi] at hy
    exact ((nbsU_mem es i n y).1 hy).1
  · rw [roadsL_out n es i hi] at hy
    simp at hy
theorem roadsL_small (n : Nat) (es : List (Int × Int)) (hn : n ≤ 1000000000) (x : Nat) : ((roadsL n es).getD x []).length ≤ 1000000000 := by
  by_cases hi : x < n
  · rw [roadsL_at n es x hi]
    have := nbsU_len es x n
    omega
  · rw [roadsL_out n es x hi]; simp
set_option maxRecDepth 20000 in
set_option maxHeartbeats 1000000 in
theorem l2Neighbors_c (n : Int) (v : Value) (es : List (Int × Int)) (x : Int) (H : AH) (hr : RowP 53 H v es) (hlen : es.length ≤ 1099511627776) (hn : 0 ≤ n ∧ n ≤ 8) :
    ACalls Tryz.prog 52 [.agg (List.toArray [.int .i64 n,v]),.int .i64 x] H fun r H' => Own 3 H H' r (nbsU es x n.toNat) ∧ H <+: H' := by
  refine in52 rfl ?_
  intro Q hQ
  simp (maxSteps := 1000000) (disch := omega) only [cd52,hr.boxG,SS,eq_self,reduceIte,reduceCtorEq,Nat.reduceEqDiff,Nat.reduceAdd]
  generalize hA : H ++ [AObj.cells [.int .i64 n,v] 26 false] = A
  have pA : H <+: A := by rw [← hA]; exact List.prefix_append _ _
  have cA : A[H.length]? = some (.cells [.int .i64 n,v] 26 false) := by rw [← hA]; exact at_new ..
  have rA := hr.pre pA
  try simp (maxSteps := 1000000) (disch := omega) only [SS,eq_self,reduceIte,reduceCtorEq,Nat.reduceEqDiff,Nat.reduceAdd]
  refine LoopH.by (fun m s H' => ∃ i,m + i = n.toNat ∧ s 1 = .int .i64 x ∧ s 2 = .pointer (some ⟨H.length,0,none⟩) ∧ s 6 = .int .i64 ((i : Nat) : Int) ∧ Own 3 A H' (s 5) (nbsU es x i) ∧ A <+: H') n.toNat ?_ ?_
  · exact ⟨0,by simp,rfl,rfl,rfl,.inr ⟨A.length,rfl,Nat.le_refl _,at_new ..⟩,List.prefix_append _ _⟩
  · rintro m s H' ⟨i,hm,h1,h2,h6,ho,hp⟩
    have hr' := rA.pre hp
    have cH := pre_at hp cA
    have hl := nbsU_len es x i
    have hst : nbsU es x (i + 1) = nbsU es x i ++ if nearB es x i = true then [(i : Int)] else [] := rfl
    generalize hw : s 5 = w at *
    simp (maxSteps := 1000000) (disch := omega) only [h1,h2,h6,hw,cell_of cH,SS,eq_self,reduceIte,reduceCtorEq,Nat.reduceEqDiff,Nat.reduceAdd]
    refine brD.intro (fun g => ?_) (fun g => ?_)
    · simp (maxSteps := 1000000) (disch := omega) only [h1,h2,h6,hw,ld_agg ag26 cs26 cH,SS,eq_self,reduceIte,reduceCtorEq,Nat.reduceEqDiff,Nat.reduceAdd]
      refine CallH.by (l2Near_c n v es x i H' hr' hlen) ?_
      rintro _ B ⟨rfl,pB⟩
      have hoB := ho.pre pB
      have hpB := hp.trans pB
      simp (maxSteps := 1000000) (disch := omega) only [SS,eq_self,reduceIte,reduceCtorEq,Nat.reduceEqDiff,Nat.reduceAdd]
      refine brH.intro (fun e2 => ?_) (fun e2 => ?_)
      · obtain ⟨w',H2,k1,k2,k3,k4,k5,k6⟩ := own1_27 hoB hpB (by omega) (i : Int)
        simp (maxSteps := 1000000) (disch := omega) only [e2,h1,h2,h6,hw,k1,wrap64,SS,eq_self,reduceIte,reduceCtorEq,Nat.reduceEqDiff,Nat.reduceAdd]
        rw [if_pos e2] at hst
        rw [← hst] at k2
        refine ⟨m - 1,by omega,i + 1,?_⟩
        (repeat' first | exact k2 | exact k3 | apply And.intro) <;> first | (simp only [Value.int.injEq,true_and]; omega) | omega | rfl | assumption | (simp; done) | (simp; omega)
      · simp (maxSteps := 1000000) (disch := omega) only [e2,h1,h2,h6,hw,wrap64,SS,eq_self,reduceIte,reduceCtorEq,Nat.reduceEqDiff,Nat.reduceAdd]
        rw [if_neg (by simpa using e2),List.append_nil] at hst
        rw [← hst] at hoB
        refine ⟨m - 1,by omega,i + 1,?_⟩
        (repeat' first | exact hoB | exact hpB | apply And.intro) <;> first | (simp only [Value.int.injEq,true_and]; omega) | omega | rfl | assumption | (simp; done) | (simp; omega)
    · simp (maxSteps := 1000000) (disch := omega) only [hw,SS,eq_self,reduceIte,reduceCtorEq,Nat.reduceEqDiff,Nat.reduceAdd]
      refine hQ _ _ _ ?_
      simp (maxSteps := 1000000) (disch := omega) only [hw,ho.row.tup,SS,eq_self,reduceIte,reduceCtorEq,Nat.reduceEqDiff,Nat.reduceAdd]
      have : i = n.toNat := by omega
      subst this
      exact ⟨ho.base pA,pA.trans hp⟩
set_option maxRecDepth 20000 in
set_option maxHeartbeats 1000000 in
theorem roads_c (n : Int) (v : Value) (es : List (Int × Int)) (H : AH) (hr : RowP 53 H v es) (hlen : es.length ≤ 1099511627776) (hg : Grd n es) :
    ACalls Tryz.prog 67 [.agg (List.toArray [.int .i64 n,v])] H fun r H' => InL H.length H'.length 27 3 H' r (roadsL n.toNat es) ∧ H <+: H' := by
  have hn := hg.1
  refine in67 rfl ?_
  intro Q hQ
  simp (maxSteps := 1000000) (disch := omega) only [cd67,hr.boxG,SS,eq_self,reduceIte,reduceCtorEq,Nat.reduceEqDiff,Nat.reduceAdd]
  generalize hA : H ++ [AObj.cells [.int .i64 n,v] 26 false] = A
  have pA : H <+: A := by rw [← hA]; exact List.prefix_append _ _
  have cA : A[H.length]? = some (.cells [.int .i64 n,v] 26 false) := by rw [← hA]; exact at_new ..
  have rA := hr.pre pA
  simp (maxSteps := 1000000) (disch := omega) only [cell_of (at_app cA _),SS,eq_self,reduceIte,reduceCtorEq,Nat.reduceEqDiff,Nat.reduceAdd]
  have u0 := InU.new H.length 27 3 A pA.length_le
  refine LoopH.by (fun m s H' => ∃ i o us,m + i = n.toNat ∧ s 1 = .pointer (some ⟨H.length,0,none⟩) ∧ s 3 = .slice (some ⟨o,0,none⟩) i i ∧ s 7 = .int .i64 n ∧ s 8 = .int .i64 ((i : Nat) : Int) ∧ A.length ≤ o ∧ InU H.length H'.length 27 3 H' o us ((List.range i).map fun x : Nat => nbsU es (x : Int) n.toNat) ∧ A <+: H') n.toNat ?_ ?_
  · refine ⟨0,A.length,[],by simp,rfl,rfl,rfl,rfl,Nat.le_refl _,?_,List.prefix_append _ _⟩
    simpa using u0
  · rintro m s H' ⟨i,o,us,hm,h1,h3,h7,h8,hoA,hin,hp⟩
    have hr' := rA.pre hp
    have cH := pre_at hp cA
    have hbl : ((List.range i).map fun x : Nat => nbsU es (x : Int) n.toNat).length = i := by simp
    have hst : ((List.range (i + 1)).map fun x : Nat => nbsU es (x : Int) n.toNat) = ((List.range i).map fun x : Nat => nbsU es (x : Int) n.toNat) ++ [nbsU es i n.toNat] := by rw [List.range_succ,List.map_append]; rfl
    simp (maxSteps := 1000000) (disch := omega) only [h1,h3,h7,h8,SS,eq_self,reduceIte,reduceCtorEq,Nat.reduceEqDiff,Nat.reduceAdd]
    refine brD.intro (fun g => ?_) (fun g => ?_)
    · simp (maxSteps := 1000000) (disch := omega) only [h1,h3,h7,h8,ld_agg ag26 cs26 cH,SS,eq_self,reduceIte,reduceCtorEq,Nat.reduceEqDiff,Nat.reduceAdd]
      refine CallH.by (neighbors_c n v es i H' hr' hlen hg) ?_
      rintro b D ⟨hb,pD⟩
      have hinw := InI.of hb.mine
      have pHH := pA.trans hp
      obtain ⟨H3,k1,k2,k3,k4⟩ := (hin.pre pD).app1 (P := Tryz.prog) (t2 := 43) Tryz.underlying43 cs27 (by rw [by27]; decide) zk27 hinw pHH.length_le pD.length_le (Nat.le_refl _) (by omega)
      have hbs : buildSliceA Tryz.prog 43 1 [(0,b)] D = some (.slice (some ⟨D.length,0,none⟩) 1 1,D ++ [.cells [b] 27 false]) := by
        obtain ⟨q,eq⟩ := hb.row.shape
        rw [eq]
        exact bs1 Tryz.underlying43 cs27 ze27 ⟨by kernel_rfl,by kernel_rfl⟩ D rfl
      rw [hbl] at k1 k2
      simp (maxSteps := 1000000) (disch := omega) only [h1,h3,h7,h8,hbs,k1,wrap64,SS,eq_self,reduceIte,reduceCtorEq,Nat.reduceEqDiff,Nat.reduceAdd]
      have f1 : A <+: H3 := prefix_of fun j x hx' => k4 j x (by have := at_lt hx'; omega) (pre_at (hp.trans pD) hx')
      have f2 : InU H.length H3.length 27 3 H3 (D.length + 1) (us.take i ++ [b]) ((List.range (i + 1)).map fun x : Nat => nbsU es (x : Int) n.toNat) := by
        rw [k3,hst]; exact k2
      have hDl := (hp.trans pD).length_le
      refine ⟨m - 1,by omega,i + 1,D.length + 1,us.take i ++ [b],by omega,?_⟩
      (repeat' first | exact f1 | exact f2 | apply And.intro) <;> first | (simp only [Value.int.injEq,true_and]; omega) | omega | rfl | assumption | (simp; done) | (simp; omega)
    · simp (maxSteps := 1000000) (disch := omega) only [h3,SS,eq_self,reduceIte,reduceCtorEq,Nat.reduceEqDiff,Nat.reduceAdd]
      refine hQ _ _ _ ?_
      simp (maxSteps := 1000000) (disch := omega) only [h3,SS,eq_self,reduceIte,reduceCtorEq,Nat.reduceEqDiff,Nat.reduceAdd]
      have : i = n.toNat := by omega
      subst this
      refine ⟨?_,pA.trans hp⟩
      have := hin.inl
      rwa [hbl] at this
def prtG (es : List (Int × Int)) (T : List Int) : List (Int × Int) := T.map fun e => es.getD e.toNat (0,0)
def EdIn (es : List (Int × Int)) (T : List Int) : Prop := ∀ e ∈ T,0 ≤ e ∧ e < es.length
theorem EdIn.sub {es : List (Int × Int)} {T U : List Int} (h : EdIn es T) (hs : ∀ x ∈ U,x ∈ T) : EdIn es U := fun e he => h e (hs e he)
theorem en_eq {n : Int} {es : List (Int × Int)} (hg : Grd n es) {e : Int} (h : 0 ≤ e ∧ e < es.length) : es.getD e.toNat (0,0) = ((enA es e : Int),(enB es e : Int)) ∧ enA es e < enB es e ∧ (enB es e : Int) < n := by
  have hl : e.toNat < es.length := by omega
  have hm : es.getD e.toNat (0,0) ∈ es := by simp [hl]
  have := grd_mem hg hm
  unfold enA enB
  refine ⟨Prod.ext ?_ ?_,?_,?_⟩
  · show _ = (((es.getD e.toNat (0,0)).1.toNat : Nat) : Int); omega
  · show _ = (((es.getD e.toNat (0,0)).2.toNat : Nat) : Int); omega
  · omega
  · omega
theorem EdIn.ends {n : Nat} {es : List (Int × Int)} (hg : Grd (n : Int) es) {T : List Int} (h : EdIn es T) : EndsIn es T n := fun e he => by
  have := en_eq hg (h e he)
  omega
theorem prt_near {n : Int} {es : List (Int × Int)} (hg : Grd n es) {T : List Int} (hT : EdIn es T) (a b : Int) : nearB (prtG es T) a b = true ↔ ∃ e ∈ T,(a = enA es e ∧ b = enB es e) ∨ (b = enA es e ∧ a = enB es e) := by
  rw [nearB_iff]
  unfold prtG
  rw [List.mem_map,List.mem_map]
  constructor
  · rintro (⟨e,he,q⟩ | ⟨e,he,q⟩)
    · rw [(en_eq hg (hT e he)).1,Prod.mk.injEq] at q
      exact ⟨e,he,.inl ⟨q.1.symm,q.2.symm⟩⟩
    · rw [(en_eq hg (hT e he)).1,Prod.mk.injEq] at q
      exact ⟨e,he,.inr ⟨q.1.symm,q.2.symm⟩⟩
  · rintro ⟨e,he,⟨q1,q2⟩ | ⟨q1,q2⟩⟩
    · exact .inl ⟨e,he,by rw [(en_eq hg (hT e he)).1,q1,q2]⟩
    · exact .inr ⟨e,he,by rw [(en_eq hg (hT e he)).1,q1,q2]⟩
theorem Rch.trans {adj : Int → Int → Prop} {S : Int → Prop} {x y z : Int} (h : Rch adj S x y) (k : Rch adj S y z) : Rch adj S x z := by
  induction k with
  | refl => exact h
  | step _ h1 h2 ih => exact .step ih h1 h2
theorem Rch.back {adj : Int → Int → Prop} {S : Int → Prop} (hs : ∀ a b,adj a b → adj b a) {x z : Int} (h : Rch adj S x z) (hx : S x) : Rch adj S z x := by
  induction h with
  | refl => exact .refl
  | step h0 h1 h2 ih => exact (Rch.step .refl (hs _ _ h1) (h0.in_ hx)).trans ih
theorem jn_rch {n : Nat} {es : List (Int × Int)} (hg : Grd (n : Int) es) {T : List Int} (hT : EdIn es T) {x : Nat} (hx : x < n) (z' : Int) :
    Rch (fun a b => nearB (prtG es T) a b = true) (· ∈ alls n) (x : Int) z' ↔ ∃ z : Nat,z' = z ∧ z < n ∧ Jn es T x z := by
  have ends := hT.ends hg
  constructor
  · intro h
    induction h with
    | refl => exact ⟨x,rfl,hx,.refl x⟩
    | step _ h1 h2 ih =>
      obtain ⟨z,rfl,hz,hj⟩ := ih
      obtain ⟨e,he,q⟩ := (prt_near hg hT _ _).1 h1
      have hm := ends e he
      rcases q with ⟨q1,q2⟩ | ⟨q1,q2⟩
      · have : z = enA es e := by omega
        subst this
        exact ⟨enB es e,q2,hm.2,hj.trans (.edge e he)⟩
      · have : z = enB es e := by omega
        subst this
        exact ⟨enA es e,q1,hm.1,hj.trans (.symm (.edge e he))⟩
  · rintro ⟨z,rfl,hz,hj⟩
    have key : ∀ {u v : Nat},Jn es T u v → u < n → Rch (fun a b => nearB (prtG es T) a b = true) (· ∈ alls n) (u : Int) (v : Int) := by
      intro u v h
      induction h with
      | refl y => intro _; exact .refl
      | edge e he => intro _; exact .step .refl ((prt_near hg hT _ _).2 ⟨e,he,.inl ⟨rfl,rfl⟩⟩) ((alls_mem _ _).2 (by have := ends e he; omega))
      | symm h ih => intro hu; exact (ih ((Jn.in_ ends h).2 hu)).back (fun a b hab => by rw [nearB_comm]; exact hab) ((alls_mem _ _).2 (by have := (Jn.in_ ends h).2 hu; omega))
      | trans h1 h2 i1 i2 => intro hu; exact (i1 hu).trans (i2 ((Jn.in_ ends h1).1 hu))
    exact key hj hx
def jnB (es : List (Int × Int)) (n : Nat) (T : List Int) (a b : Nat) : Bool := decide (0 ≤ (bfs (roadsL n (prtG es T)) a).getD b 0)
theorem jnB_iff {n : Nat} {es : List (Int × Int)} (hg : Grd (n : Int) es) {T : List Int} (hT : EdIn es T) {i j : Nat} (hi : i < n) (hj : j < n) : jnB es n T i j = true ↔ Jn es T i j := by
  have hL := roadsL_ok n (prtG es T)
  have hl := roadsL_len n (prtG es T)
  have hi' : i < (roadsL n (prtG es T)).length := by omega
  unfold jnB
  rw [decide_eq_true_eq]
  have hadj : ∀ u,u < n → ∀ y,y ∈ (roadsL n (prtG es T)).getD u [] ↔ ((0 ≤ y ∧ y < n) ∧ nearB (prtG es T) u y = true) := fun u hu y => by rw [roadsL_at _ _ _ hu,nbsU_mem]
  constructor
  · obtain ⟨q,h⟩ := bfs_DS hL hi'
    have key : ∀ (d v : Nat),v < n → (bfs (roadsL n (prtG es T)) i).getD v 0 = d → Jn es T i v := by
      intro d
      induction d with
      | zero =>
        intro v hv hd
        rcases h.di.src v (by omega) (show 0 ≤ (bfs (roadsL n (prtG es T)) i).getD v 0 by omega) with ⟨e,_⟩ | ⟨u,u1,u2,u3,u4⟩
        · subst e; exact .refl _
        · have u2' : 0 ≤ (bfs (roadsL n (prtG es T)) i).getD u 0 := u2
          have u4' : (bfs (roadsL n (prtG es T)) i).getD v 0 = (bfs (roadsL n (prtG es T)) i).getD u 0 + 1 := u4
          omega
      | succ d ih =>
        intro v hv hd
        rcases h.di.src v (by omega) (show 0 ≤ (bfs (roadsL n (prtG es T)) i).getD v 0 by omega) with ⟨_,e⟩ | ⟨u,u1,u2,u3,u4⟩
        · have e' : (bfs (roadsL n (prtG es T)) i).getD v 0 = 0 := e
          omega
        · have u4' : (bfs (roadsL n (prtG es T)) i).getD v 0 = (bfs (roadsL n (prtG es T)) i).getD u 0 + 1 := u4
          have hu : u < n := by omega
          have hj := ih u hu (by omega)
          obtain ⟨e,he,c⟩ := (prt_near hg hT _ _).1 ((hadj u hu _).1 u3).2
          rcases c with ⟨c1,c2⟩ | ⟨c1,c2⟩
          · have e1 : u = enA es e := by omega
            have e2 : v = enB es e := by omega
            rw [e2]; exact (e1 ▸ hj).trans (.edge e he)
          · have e1 : u = enB es e := by omega
            have e2 : v = enA es e := by omega
            rw [e2]; exact (e1 ▸ hj).trans (.symm (.edge e he))
    intro h0
    exact key _ j hj (Int.toNat_of_nonneg h0).symm
  · intro hjn
    have hr := (jn_rch hg hT hi (j : Int)).2 ⟨j,rfl,hj,hjn⟩
    have key : ∀ z : Int,Rch (fun a b => nearB (prtG es T) a b = true) (· ∈ alls n) (i : Int) z → (0 ≤ z ∧ z < n) ∧ 0 ≤ (bfs (roadsL n (prtG es T)) i).getD z.toNat 0 := by
      intro z h
      induction h with
      | refl => refine ⟨by omega,?_⟩; rw [Int.toNat_natCast,bfs_zero hL hi']; omega
      | step _ h1 h2 ih =>
        have hz := (alls_mem _ _).1 h2
        refine ⟨hz,bfs_clo hL hi' (by omega) ih.2 ((hadj _ (by omega) _).2 ⟨hz,?_⟩)⟩
        rw [Int.toNat_of_nonneg ih.1.1]; exact h1
    have := (key _ hr).2
    rwa [Int.toNat_natCast] at this
def TreL (n : Nat) (es : List (Int × Int)) (T : List Int) : Prop := T.length + 1 = n ∧ T.Pairwise (· < ·) ∧ EdIn es T ∧ Conn es T n
end Go.Proofs.YtelafbennmclfaaGreat.Ai
namespace Go.Proofs.YtelafbennmclfaaGreat.Ai
open Go Go.RowKit
abbrev ed1 (es : List (Int × Int)) (e : Int) : Int := (es.getD e.toNat (0,0)).1
abbrev ed2 (es : List (Int × Int)) (e : Int) : Int := (es.getD e.toNat (0,0)).2
def seenL (es : List (Int × Int)) (xs : List Int) : List Int := xs.flatMap fun e => [ed1 es e,ed2 es e]
theorem seenL_snoc (es : List (Int × Int)) (xs : List Int) (e : Int) : seenL es (xs ++ [e]) = seenL es xs ++ [ed1 es e,ed2 es e] := by simp [seenL]
theorem seenL_len (es : List (Int × Int)) (xs : List Int) : (seenL es xs).length = 2 * xs.length := by
  induction xs with
  | nil => rfl
  | cons a xs ih => simp only [seenL,List.flatMap_cons,List.length_append] at ih ⊢; simp only [List.length_cons,List.length_nil,ih]; omega
def rsOk (n : Int) (xs : List Int) (i : Nat) : Prop := (0 ≤ xs.getD i 0 ∧ xs.getD i 0 ≤ n - 1) ∧ (0 < i → xs.getD (i - 1) 0 < xs.getD i 0)
instance (n : Int) (xs : List Int) (i : Nat) : Decidable (rsOk n xs i) := by unfold rsOk; infer_instance
def frOk (es : List (Int × Int)) (xs : List Int) (i : Nat) : Prop := ed1 es (xs.getD i 0) ∉ seenL es (xs.take i) ∧ ed2 es (xs.getD i 0) ∉ seenL es (xs.take i)
instance (es : List (Int × Int)) (xs : List Int) (i : Nat) : Decidable (frOk es xs i) := by unfold frOk; infer_instance
def MtU (es : List (Int × Int)) (xs : List Int) (k : Nat) : Prop := ∀ i,i < k → rsOk es.length xs i ∧ frOk es xs i
instance (es : List (Int × Int)) (xs : List Int) (k : Nat) : Decidable (MtU es xs k) := by unfold MtU; infer_instance
theorem MtU.zero (es : List (Int × Int)) (xs : List Int) : MtU es xs 0 := fun i h => absurd h (Nat.not_lt_zero i)
theorem MtU.succ {es : List (Int × Int)} {xs : List Int} {k : Nat} (h : MtU es xs k) (h1 : rsOk es.length xs k) (h2 : frOk es xs k) : MtU es xs (k + 1) := by
  intro i hi
  rcases Nat.lt_succ_iff_lt_or_eq.1 hi with g | g
  · exact h i g
  · rw [g]; exact ⟨h1,h2⟩
theorem MtU.no {es : List (Int × Int)} {xs : List Int} {k i : Nat} (hi : i < k) (h : ¬ (rsOk es.length xs i ∧ frOk es xs i)) : ¬ MtU es xs k := fun g => h (g i hi)
end Go.Proofs.YtelafbennmclfaaGreat.Ai
namespace Go.Proofs.YtelafbennmclfaaGreat.Ai
open Go
def frE (es : List (Int × Int)) (ed : List Int) (e : Int) : Prop := ed1 es e ∉ seenL es ed ∧ ed2 es e ∉ seenL es ed
instance (es : List (Int × Int)) (ed : List Int) (e : Int) : Decidable (frE es ed e) := by unfold frE; infer_instance
def mall (es : List (Int × Int)) : Nat → List Int → List (List Int)
  | 0,_ => []
  | k + 1,ed => (if frE es ed ((es.length - (k + 1) : Nat) : Int) then (ed ++ [((es.length - (k + 1) : Nat) : Int)]) :: mall es k (ed ++ [((es.length - (k + 1) : Nat) : Int)]) else []) ++ mall es k ed
theorem nodupM_le : ∀ (n : Nat) (l : List Int),l.Nodup → (∀ x ∈ l,0 ≤ x ∧ x < n) → l.length ≤ n
  | 0,l,_,h => by
    cases l with
    | nil => simp
    | cons x l => have := h x (by simp); omega
  | n + 1,l,hd,h => by
    have h1 := nodupM_le n (l.erase (n : Int)) (hd.erase _) (fun x hx => by
      have := (hd.mem_erase_iff).1 hx
      have h2 := h x this.2
      have : x ≠ (n : Int) := this.1
      omega)
    have : l.length ≤ (l.erase (n : Int)).length + 1 := by
      rw [List.length_erase]
      split <;> omega
    omega
def Mgo (n : Int) (es : List (Int × Int)) (ed : List Int) : Prop := (seenL es ed).Nodup ∧ ∀ z ∈ seenL es ed,0 ≤ z ∧ z < n
theorem Mgo.nil (n : Int) (es : List (Int × Int)) : Mgo n es [] := ⟨by simp [seenL],fun z hz => by simp [seenL] at hz⟩
theorem Mgo.snoc {n : Int} {es : List (Int × Int)} {ed : List Int} {e : Int} (hg : Grd n es) (h : Mgo n es ed) (he : e.toNat < es.length) (hf : frE es ed e) : Mgo n es (ed ++ [e]) := by
  obtain ⟨a1,a2,a3,_⟩ := hg.2 e.toNat he
  have b1 : ed1 es e < ed2 es e := a2
  have b2 : 0 ≤ ed1 es e := a1
  have b3 : ed2 es e < n := a3
  refine ⟨?_,?_⟩
  · rw [seenL_snoc,List.nodup_append]
    refine ⟨h.1,?_,?_⟩
    · simp; omega
    · intro x hx y hy hxy
      subst hxy
      simp only [List.mem_cons,List.not_mem_nil,or_false] at hy
      rcases hy with rfl | rfl
      · exact hf.1 hx
      · exact hf.2 hx
  · intro z hz
    rw [seenL_snoc,List.mem_append] at hz
    rcases hz with hz | hz
    · exact h.2 z hz
    · simp only [List.mem_cons,List.not_mem_nil,or_false] at hz
      omega
theorem Mgo.all {n : Int} {es : List (Int × Int)} (hg : Grd n es) : ∀ (k : Nat) (ed : List Int),k ≤ es.length → Mgo n es ed → ∀ x ∈ mall es k ed,Mgo n es x
  | 0,ed,_,h,x,hx => by simp [mall] at hx
  | k + 1,ed,hk,h,x,hx => by
    simp only [mall,List.mem_append] at hx
    rcases hx with hx | hx
    · split at hx
      · rename_i hf
        have h2 := h.snoc hg (by rw [Int.toNat_natCast]; omega) hf
        simp only [List.mem_cons] at hx
        rcases hx with rfl | hx
        · exact h2
        · exact Mgo.all hg k _ (by omega) h2 x hx
      · simp at hx
    · exact Mgo.all hg k ed (by omega) h x hx
theorem Mgo.len {n : Int} {es : List (Int × Int)} {ed : List Int} (hn : 0 ≤ n) (h : Mgo n es ed) : 2 * ed.length ≤ n.toNat := by
  have := nodupM_le n.toNat (seenL es ed) h.1 (fun z hz => by have := h.2 z hz; omega)
  rw [seenL_len] at this
  exact this
end Go.Proofs.YtelafbennmclfaaGreat.Ai
namespace Go.Proofs.YtelafbennmclfaaGreat.Ai
open Go Go.RowKit
def cmpL : List Int → List Int → Int
  | [],[] => 0
  | [],_ :: _ => -1
  | _ :: _,[] => 1
  | a :: xs,b :: ys => if cmpI a b ≠ 0 then cmpI a b else cmpL xs ys
def SrtL (ls : List (List Int)) : Prop := ∀ i j,i < j → j < ls.length → 0 < cmpL (ls.getD j []) (ls.getD i [])
structure Sts (H : AH) (v : Value) (us : List Value) (ls : List (List Int)) : Prop where
  row : RowV 27 H v us
  len : us.length = ls.length
  each : ∀ i,i < ls.length → Row 3 H (us.getD i undef) (ls.getD i [])
  small : ∀ i,i < ls.length → (ls.getD i []).length ≤ 1099511627776
  bnd : ls.length ≤ 60000
  srt : SrtL ls
theorem Sts.pre {H H' : AH} {v : Value} {us : List Value} {ls : List (List Int)} (h : Sts H v us ls) (hp : H <+: H') : Sts H' v us ls := ⟨h.row.pre hp,h.len,fun i hi => (h.each i hi).pre hp,h.small,h.bnd,h.srt⟩
theorem cmpL_self : ∀ xs : List Int,cmpL xs xs = 0
  | [] => rfl
  | a :: xs => by
    have : cmpI a a = 0 := by unfold cmpI; rw [if_neg (by omega),if_neg (by omega)]
    rw [cmpL,if_neg (by rw [this]; decide)]; exact cmpL_self xs
theorem Sts.le {H : AH} {v : Value} {us : List Value} {ls : List (List Int)} (h : Sts H v us ls) {i j : Nat} (hij : i ≤ j) (hj : j < ls.length) : ¬ cmpL (ls.getD j []) (ls.getD i []) < 0 := by
  by_cases e : i = j
  · subst e; rw [cmpL_self]; omega
  · have := h.srt i j (by omega) hj; omega
section
variable {v : Value} {us : List Value} {ls : List (List Int)} {H : AH}
theorem Sts.cell (h : Sts H v us ls) {i : Nat} (hi : i < ls.length) : cellA H (rowO v) (rowK v + i) = some (us.getD i undef) := h.row.cell (by have := h.len; omega)
end
def Fst (es : List (Int × Int)) (T : List Int) : Prop := ∀ k,k < T.length → ¬ Jn es (T.take k) (enA es (T.getD k 0)) (enB es (T.getD k 0))
theorem Fst.nil (es : List (Int × Int)) : Fst es [] := fun k hk => absurd hk (Nat.not_lt_zero k)
theorem Fst.snoc {es : List (Int × Int)} {T : List Int} {e : Int} (h : Fst es T) (he : ¬ Jn es T (enA es e) (enB es e)) : Fst es (T ++ [e]) := by
  intro k hk
  rw [List.length_append,List.length_singleton] at hk
  by_cases g : k < T.length
  · have e1 : (T ++ [e]).getD k 0 = T.getD k 0 := by
      rw [List.getD_eq_getElem?_getD,List.getElem?_append_left g,← List.getD_eq_getElem?_getD]
    rw [e1,List.take_append_of_le_length (by omega)]
    exact h k g
  · have : k = T.length := by omega
    subst this
    have e1 : (T ++ [e]).getD T.length 0 = e := by
      rw [List.getD_eq_getElem?_getD,List.getElem?_append_right (Nat.le_refl _)]; simp
    rw [e1,List.take_append_of_le_length (Nat.le_refl _),List.take_length]
    exact he
structure Beg (n : Nat) (es : List (Int × Int)) (k : Nat) (T : List Int) : Prop where
  fst : Fst es T
  asc : T.Pairwise (· < ·)
  low : ∀ e ∈ T,0 ≤ e ∧ e < ((es.length - k : Nat) : Int)
  len : T.length + 1 ≤ n
theorem Beg.ed {n : Nat} {es : List (Int × Int)} {k : Nat} {T : List Int} (h : Beg n es k T) : EdIn es T := fun e he => by have := h.low e he; omega
theorem Beg.nil {n : Nat} (hn : 1 ≤ n) (es : List (Int × Int)) : Beg n es es.length [] := ⟨Fst.nil es,.nil,fun e he => by simp at he,hn⟩
theorem Beg.skip {n : Nat} {es : List (Int × Int)} {k : Nat} {T : List Int} (h : Beg n es (k + 1) T) : Beg n es k T := ⟨h.fst,h.asc,fun e he => by have := h.low e he; omega,h.len⟩
theorem Beg.snoc {n : Nat} {es : List (Int × Int)} (hg : Grd (n : Int) es) {k : Nat} {T : List Int} (h : Beg n es (k + 1) T) (hk : k + 1 ≤ es.length) (hl : T.length + 1 ≠ n) (hj : ¬ jnB es n T (enA es ((es.length - (k + 1) : Nat) : Int)) (enB es ((es.length - (k + 1) : Nat) : Int)) = true) : Beg n es k (T ++ [((es.length - (k + 1) : Nat) : Int)]) := by
  have he : (0 : Int) ≤ ((es.length - (k + 1) : Nat) : Int) ∧ ((es.length - (k + 1) : Nat) : Int) < es.length := by omega
  have hen := en_eq hg he
  refine ⟨h.fst.snoc fun q => hj ((jnB_iff hg h.ed (by omega) (by omega)).2 q),?_,fun e hm => ?_,by have := h.len; simp; omega⟩
  · rw [List.pairwise_append]
    exact ⟨h.asc,by simp,fun a ha b hb => by rw [List.mem_singleton.1 hb]; exact (h.low a ha).2⟩
  · rcases List.mem_append.1 hm with q | q
    · have := h.low e q; omega
    · rw [List.mem_singleton.1 q]; omega
end Go.Proofs.YtelafbennmclfaaGreat.Ai
namespace Go.Proofs.YtelafbennmclfaaGreat.Ai
open Go Go.RowKit
structure JS (n : Nat) (J : List Int) (rt d : Nat → Nat) : Prop where
  len : J.length = n
  nxt : ∀ x,x < n → ∃ y : Nat,J.getD x 0 = (y : Int) ∧ y < n ∧ rt y = rt x ∧ (y = x → rt x = x) ∧ (y ≠ x → d y < d x)
  top : ∀ x,x < n → rt x < n ∧ J.getD (rt x) 0 = (rt x : Int)
theorem JS.rr {n : Nat} {J : List Int} {rt d : Nat → Nat} (h : JS n J rt d) {x : Nat} (hx : x < n) : rt (rt x) = rt x := by
  obtain ⟨t1,t2⟩ := h.top x hx
  obtain ⟨y,y1,_,y3,y4,_⟩ := h.nxt (rt x) t1
  exact y4 (by rw [t2] at y1; omega)
theorem alls_at {n x : Nat} (h : x < n) : (alls n).getD x 0 = (x : Int) := by simp [alls,h]
theorem JS.zero (n : Nat) : JS n (alls n) id fun _ => 0 :=
  ⟨by simp [alls],fun x hx => ⟨x,alls_at hx,hx,rfl,fun _ => rfl,fun q => absurd rfl q⟩,fun x hx => ⟨hx,alls_at hx⟩⟩
theorem getD_setI (xs : List Int) (j v : Nat) (d : Int) (hj : j < xs.length) : (xs.set j d).getD v 0 = if j = v then d else xs.getD v 0 := by
  simp only [List.getD_eq_getElem?_getD,List.getElem?_set]
  split
  · rename_i e
    subst e
    first | rfl | (rw [if_pos hj]; rfl)
  · rfl
theorem JS.join {n : Nat} {J : List Int} {rt d : Nat → Nat} (h : JS n J rt d) {a b : Nat} (ha : a < n) (hb : b < n) :
    ∃ d',JS n (J.set (rt a) (rt b : Int)) (fun x => if rt x = rt a then rt b else rt x) d' := by
  have ra := h.rr ha
  have rb := h.rr hb
  have ta := h.top a ha
  have tb := h.top b hb
  have hl : rt a < J.length := by rw [h.len]; exact ta.1
  refine ⟨fun x => if rt x = rt a ∧ rt a ≠ rt b then d x + d (rt b) + 1 else d x,by rw [List.length_set]; exact h.len,fun x hx => ?_,fun x hx => ?_⟩
  · rw [getD_setI _ _ _ _ hl]
    by_cases e : rt a = x
    · refine ⟨rt b,if_pos e,tb.1,?_,fun q => ?_,fun q => ?_⟩
      · show (if rt (rt b) = rt a then rt b else rt (rt b)) = if rt x = rt a then rt b else rt x
        rw [rb,← e,ra,if_pos rfl]
        split <;> rfl
      · show (if rt x = rt a then rt b else rt x) = x
        rw [← e,ra,if_pos rfl,q,e]
      · show (if rt (rt b) = rt a ∧ rt a ≠ rt b then _ else _) < (if rt x = rt a ∧ rt a ≠ rt b then _ else _)
        have hne : rt a ≠ rt b := fun g => q (by rw [← g,e])
        rw [rb,if_neg (fun g => hne g.1.symm),← e,ra,if_pos ⟨rfl,hne⟩]
        omega
    · obtain ⟨y,y1,y2,y3,y4,y5⟩ := h.nxt x hx
      refine ⟨y,by rw [if_neg e]; exact y1,y2,?_,fun q => ?_,fun q => ?_⟩
      · show (if rt y = rt a then rt b else rt y) = if rt x = rt a then rt b else rt x
        rw [y3]
      · show (if rt x = rt a then rt b else rt x) = x
        have := y4 q
        rw [this,if_neg fun g => e g.symm]
      · show (if rt y = rt a ∧ rt a ≠ rt b then _ else _) < (if rt x = rt a ∧ rt a ≠ rt b then _ else _)
        have := y5 q
        rw [y3]
        split <;> omega
  · show (if rt x = rt a then rt b else rt x) < n ∧ (J.set (rt a) (rt b : Int)).getD (if rt x = rt a then rt b else rt x) 0 = ((if rt x = rt a then rt b else rt x : Nat) : Int)
    rw [getD_setI _ _ _ _ hl]
    have tx := h.top x hx
    by_cases e : rt x = rt a
    · rw [if_pos e]
      refine ⟨tb.1,?_⟩
      split
      · rfl
      · exact tb.2
    · rw [if_neg e,if_neg fun g => e g.symm]
      exact tx
def JR (es : List (Int × Int)) (T : List Int) (n : Nat) (J : List Int) : Prop := ∃ rt d,JS n J rt d ∧ ∀ u v,u < n → v < n → (Jn es T u v ↔ rt u = rt v)
theorem JR.zero (es : List (Int × Int)) (n : Nat) : JR es [] n (alls n) := ⟨_,_,JS.zero n,fun u v _ _ => ⟨fun h => h.nil,fun h => by have : u = v := h; subst this; exact .refl u⟩⟩
theorem JR.congr {es : List (Int × Int)} {T U : List Int} {n : Nat} {J : List Int} (h : JR es T n J) (hs : ∀ x,x ∈ T ↔ x ∈ U) : JR es U n J := by
  obtain ⟨rt,d,h1,h2⟩ := h
  exact ⟨rt,d,h1,fun u v hu hv => ⟨fun q => (h2 u v hu hv).1 (q.mono fun x hx => (hs x).2 hx),fun q => ((h2 u v hu hv).2 q).mono fun x hx => (hs x).1 hx⟩⟩
theorem JS.rel {es : List (Int × Int)} {T U : List Int} {n : Nat} {J : List Int} {rt d : Nat → Nat} (h : JS n J rt d) (hr : ∀ u v,u < n → v < n → (Jn es T u v ↔ rt u = rt v)) {e : Int} (ha : enA es e < n) (hb : enB es e < n) (hs : ∀ x,x ∈ U ↔ x ∈ T ∨ x = e) :
    JR es U n (J.set (rt (enA es e)) (rt (enB es e) : Int)) := by
  obtain ⟨d',hj⟩ := h.join ha hb
  refine ⟨_,d',hj,fun u v hu hv => ?_⟩
  show _ ↔ (if rt u = rt (enA es e) then rt (enB es e) else rt u) = if rt v = rt (enA es e) then rt (enB es e) else rt v
  have sub : ∀ x ∈ T,x ∈ U := fun x hx => (hs x).2 (.inl hx)
  constructor
  · intro hj
    rcases Jn.add (fun x hx => (hs x).1 hx) hj with q | ⟨q1,q2⟩ | ⟨q1,q2⟩
    · rw [(hr u v hu hv).1 q]
    · rw [if_pos ((hr _ _ hu ha).1 q1),← (hr _ _ hb hv).1 q2]
      split <;> rfl
    · have e2 := (hr _ _ ha hv).1 q2
      rw [if_pos e2.symm,(hr _ _ hu hb).1 q1]
      split <;> rfl
  · intro hq
    have ed : Jn es U (enA es e) (enB es e) := .edge e ((hs e).2 (.inr rfl))
    split at hq <;> split at hq
    · rename_i g1 g2
      exact ((hr u v hu hv).2 (g1.trans g2.symm)).mono sub
    · rename_i g1 g2
      exact (((hr _ _ hu ha).2 g1).mono sub).trans (ed.trans (((hr _ _ hb hv).2 hq).mono sub))
    · rename_i g1 g2
      exact (((hr _ _ hu hb).2 hq).mono sub).trans (ed.symm.trans (((hr _ _ ha hv).2 g2.symm).mono sub))
    · exact ((hr u v hu hv).2 hq).mono sub
noncomputable instance (n : Nat) (es : List (Int × Int)) (T : List Int) : Decidable (TreL n es T) := Classical.propDecidable _
def Sm (o : List Int) : Prop := o.Pairwise (· < ·) ∧ ∀ z ∈ o,0 ≤ z ∧ z < 8
theorem Sm.len {o : List Int} (h : Sm o) : o.length ≤ 8 := by
  have := nodup_le (a := o) (b := (List.range 8).map fun z : Nat => (z : Int)) (lt_nodup h.1) fun x hx => by
    have := h.2 x hx
    exact List.mem_map.2 ⟨x.toNat,List.mem_range.2 (by omega),by omega⟩
  simpa using this
theorem Sm.put {o : List Int} (h : Sm o) {x : Int} (hx : 0 ≤ x ∧ x < 8) : Sm (put o x) := by
  refine ⟨put_sorted _ _ h.1,fun z hz => ?_⟩
  rcases (put_mem _ _ _).1 hz with rfl | hz
  · exact hx
  · exact h.2 z hz
theorem Sm.nil : Sm [] := ⟨List.Pairwise.nil,fun z hz => by simp at hz⟩
theorem Sm.one {x : Int} (hx : 0 ≤ x ∧ x < 8) : Sm [x] := ⟨List.pairwise_singleton _ _,fun z hz => by simp at hz; subst hz; exact hx⟩
theorem Sm.rcIn {o : List Int} (h : Sm o) (es : List (Int × Int)) {y : Int} (hy : 0 ≤ y ∧ y < 8) : Sm (rcIn es o y) := by
  unfold Ai.rcIn
  split
  · exact h
  · split
    · exact h.put hy
    · exact h
theorem Sm.fold (es : List (Int × Int)) : ∀ (l : List Int) {o : List Int},Sm o → (∀ y ∈ l,0 ≤ y ∧ y < 8) → Sm (l.foldl (Ai.rcIn es) o)
  | [],o,h,_ => h
  | y :: ys,o,h,hl => Sm.fold es ys (h.rcIn es (hl y (by simp))) fun z hz => hl z (by simp [hz])
theorem Sm.iter (es : List (Int × Int)) (set : List Int) (hl : ∀ y ∈ set,0 ≤ y ∧ y < 8) {x : Int} (hx : 0 ≤ x ∧ x < 8) : ∀ k,Sm (rcIter es set k [x])
  | 0 => Sm.one hx
  | k + 1 => Sm.fold es set (Sm.iter es set hl hx k) hl
theorem Sm.puts : ∀ (l : List Int) {s : List Int},Sm s → (∀ y ∈ l,0 ≤ y ∧ y < 8) → Sm (l.foldl Ai.put s)
  | [],s,h,_ => h
  | y :: ys,s,h,hl => Sm.puts ys (h.put (hl y (by simp))) fun z hz => hl z (by simp [hz])
theorem Sm.reach {es : List (Int × Int)} {set : List Int} (hl : ∀ y ∈ set,0 ≤ y ∧ y < 8) {x : Int} (hx : 0 ≤ x ∧ x < 8) : Sm (reachL es set x) := Sm.iter es set hl hx _
theorem pcK_Sm (es : List (Int × Int)) (set : List Int) (hl : ∀ y ∈ set,0 ≤ y ∧ y < 8) : ∀ (l : List Int) (st : List (List Int) × List Int),(∀ y ∈ l,0 ≤ y ∧ y < 8) → Sm st.2 → Sm (l.foldl (pcS es set) st).2 ∧ (l.foldl (pcS es set) st).1.length ≤ st.1.length + l.length
  | [],st,_,h => ⟨h,by simp⟩
  | y :: ys,st,hy,h => by
    rw [List.foldl_cons]
    have h1 : Sm (pcS es set st y).2 ∧ (pcS es set st y).1.length ≤ st.1.length + 1 := by
      unfold pcS
      split
      · exact ⟨h,by omega⟩
      · exact ⟨h.puts _ fun z hz => (Sm.reach hl (hy y (by simp))).2 z hz,by simp⟩
    obtain ⟨i1,i2⟩ := pcK_Sm es set hl ys _ (fun z hz => hy z (by simp [hz])) h1.1
    exact ⟨i1,by simp only [List.length_cons]; omega⟩
end Go.Proofs.YtelafbennmclfaaGreat.Ai
namespace Go.Proofs.YtelafbennmclfaaGreat.Ai
open Go
def ords119 : List (Nat × List (Nat × Bool)) := [(1,[(0,false),(1,false),(2,false),(3,false),(4,false),(5,false)])]
def cd119 : Cd := (.seq (.reg [⟨⟨some 4,Op.assign (Operand.const (Value.slice none 0 0)),none⟩,[]⟩]) (.seq (.reg [⟨⟨some 12,Op.buildSlice 43 0 #[],none⟩,[]⟩,
  ⟨⟨some 13,Op.move (Operand.tmp 0),none⟩,[]⟩,
  ⟨⟨some 14,Op.call { callee := (Callee.builtin Builtin.len),args := #[(Operand.tmp 13)],argTypes := #[43] },none⟩,[]⟩,
  ⟨⟨some 15,Op.makeSlice 130 (Operand.tmp 14) (Operand.tmp 14),none⟩,[]⟩,
  ⟨⟨some 5,Op.assign (Operand.tmp 12),none⟩,[]⟩,
  ⟨⟨some 6,Op.assign (Operand.tmp 15),none⟩,[]⟩]) (.seq (.seq (.reg [⟨⟨some 16,Op.move (Operand.tmp 1),none⟩,[]⟩,
  ⟨⟨some 17,Op.binOp BinOp.geq 3 (Operand.tmp 16) (Operand.const (Value.int IntKind.i64 0)) 3,none⟩,[]⟩]) (.cond (Operand.tmp 17) (.reg [⟨⟨some 18,Op.move (Operand.tmp 6),none⟩,[]⟩,
  ⟨⟨some 19,Op.move (Operand.tmp 1),none⟩,[]⟩,
  ⟨⟨some 20,Op.indexAddr 130 (Operand.tmp 18) (Operand.tmp 19),none⟩,[]⟩,
  ⟨⟨none,Op.store 4 (Operand.tmp 20) (Operand.const (Value.bool true)),none⟩,[]⟩]) .skip)) (.seq (.seq (.reg [⟨⟨some 21,Op.move (Operand.tmp 0),none⟩,[]⟩,
  ⟨⟨some 22,Op.call { callee := (Callee.builtin Builtin.len),args := #[(Operand.tmp 21)],argTypes := #[43] },none⟩,[]⟩,
  ⟨⟨some 23,Op.move (Operand.const (Value.int IntKind.i64 0)),none⟩,[]⟩]) (.block 0 (.loop (.seq (.reg [⟨⟨some 24,Op.binOp BinOp.lss 3 (Operand.tmp 23) (Operand.tmp 22) 3,none⟩,[]⟩]) (.seq (.cond (Operand.tmp 24) .skip (.exit 0)) (.seq (.block 1 (.seq (.reg [⟨⟨some 25,Op.move (Operand.tmp 23),none⟩,[]⟩,
  ⟨⟨some 7,Op.assign (Operand.tmp 25),none⟩,[]⟩]) (.seq (.seq (.reg [⟨⟨some 26,Op.move (Operand.tmp 6),none⟩,[]⟩,
  ⟨⟨some 27,Op.move (Operand.tmp 7),none⟩,[]⟩,
  ⟨⟨some 28,Op.indexAddr 130 (Operand.tmp 26) (Operand.tmp 27),none⟩,[]⟩,
  ⟨⟨some 29,Op.load 4 (Operand.tmp 28),none⟩,[]⟩]) (.cond (Operand.tmp 29) (.exit 1) .skip)) (.seq (.reg [⟨⟨some 30,Op.move (Operand.tmp 6),none⟩,[]⟩,
  ⟨⟨some 31,Op.move (Operand.tmp 7),none⟩,[]⟩,
  ⟨⟨some 32,Op.indexAddr 130 (Operand.tmp 30) (Operand.tmp 31),none⟩,[]⟩,
  ⟨⟨none,Op.store 4 (Operand.tmp 32) (Operand.const (Value.bool true)),none⟩,[]⟩]) (.seq (.reg [⟨⟨some 33,Op.move (Operand.tmp 7),none⟩,[]⟩,
  ⟨⟨some 34,Op.buildSlice 27 1 #[(0,(Operand.tmp 33))],none⟩,[]⟩,
  ⟨⟨some 8,Op.assign (Operand.tmp 34),none⟩,[]⟩]) (.seq (.seq (.reg [⟨⟨some 9,Op.assign (Operand.const (Value.int IntKind.i64 0)),none⟩,[]⟩]) (.block 2 (.loop (.seq (.seq (.reg [⟨⟨some 35,Op.move (Operand.tmp 9),none⟩,[]⟩,
  ⟨⟨some 36,Op.move (Operand.tmp 8),none⟩,[]⟩,
  ⟨⟨some 37,Op.call { callee := (Callee.builtin Builtin.len),args := #[(Operand.tmp 36)],argTypes := #[27] },none⟩,[]⟩,
  ⟨⟨some 38,Op.binOp BinOp.lss 3 (Operand.tmp 35) (Operand.tmp 37) 3,none⟩,[]⟩]) (.cond (Operand.tmp 38) .skip (.exit 2))) (.seq (.block 3 (.seq (.reg [⟨⟨some 41,Op.move (Operand.tmp 0),none⟩,[]⟩,
  ⟨⟨some 42,Op.move (Operand.tmp 8),none⟩,[]⟩,
  ⟨⟨some 43,Op.move (Operand.tmp 9),none⟩,[]⟩,
  ⟨⟨some 44,Op.indexAddr 27 (Operand.tmp 42) (Operand.tmp 43),none⟩,[]⟩,
  ⟨⟨some 45,Op.load 3 (Operand.tmp 44),none⟩,[]⟩,
  ⟨⟨some 46,Op.indexAddr 43 (Operand.tmp 41) (Operand.tmp 45),none⟩,[]⟩,
  ⟨⟨some 47,Op.load 27 (Operand.tmp 46),none⟩,[]⟩,
  ⟨⟨some 48,Op.call { callee := (Callee.builtin Builtin.len),args := #[(Operand.tmp 47)],argTypes := #[27] },none⟩,[]⟩,
  ⟨⟨some 49,Op.move (Operand.const (Value.int IntKind.i64 0)),none⟩,[]⟩]) (.block 4 (.loop (.seq (.reg [⟨⟨some 50,Op.binOp BinOp.lss 3 (Operand.tmp 49) (Operand.tmp 48) 3,none⟩,[]⟩]) (.seq (.cond (Operand.tmp 50) .skip (.exit 4)) (.seq (.block 5 (.seq (.reg [⟨⟨some 51,Op.indexAddr 27 (Operand.tmp 47) (Operand.tmp 49),none⟩,[]⟩,
  ⟨⟨some 52,Op.load 3 (Operand.tmp 51),none⟩,[]⟩,
  ⟨⟨some 11,Op.assign (Operand.tmp 52),none⟩,[]⟩]) (.seq (.reg [⟨⟨some 53,Op.move (Operand.tmp 6),none⟩,[]⟩,
  ⟨⟨some 54,Op.move (Operand.tmp 11),none⟩,[]⟩,
  ⟨⟨some 55,Op.indexAddr 130 (Operand.tmp 53) (Operand.tmp 54),none⟩,[]⟩,
  ⟨⟨some 56,Op.load 4 (Operand.tmp 55),none⟩,[]⟩,
  ⟨⟨some 57,Op.unOp UnOp.not 4 (Operand.tmp 56),none⟩,[]⟩]) (.cond (Operand.tmp 57) (.seq (.reg [⟨⟨some 58,Op.move (Operand.tmp 6),none⟩,[]⟩,
  ⟨⟨some 59,Op.move (Operand.tmp 11),none⟩,[]⟩,
  ⟨⟨some 60,Op.indexAddr 130 (Operand.tmp 58) (Operand.tmp 59),none⟩,[]⟩,
  ⟨⟨none,Op.store 4 (Operand.tmp 60) (Operand.const (Value.bool true)),none⟩,[]⟩]) (.reg [⟨⟨some 61,Op.move (Operand.tmp 8),none⟩,[]⟩,
  ⟨⟨some 62,Op.move (Operand.tmp 11),none⟩,[]⟩,
  ⟨⟨some 63,Op.buildSlice 27 1 #[(0,(Operand.tmp 62))],none⟩,[]⟩,
  ⟨⟨some 64,Op.call { callee := (Callee.builtin Builtin.append),args := #[(Operand.tmp 61),(Operand.tmp 63)],argTypes := #[27,27] },none⟩,[]⟩,
  ⟨⟨some 8,Op.assign (Operand.tmp 64),none⟩,[]⟩])) .skip)))) (.reg [⟨⟨some 65,Op.binOp BinOp.add 3 (Operand.tmp 49) (Operand.const (Value.int IntKind.i64 1)) 3,none⟩,[]⟩,
  ⟨⟨some 49,Op.move (Operand.tmp 65),none⟩,[]⟩])))))))) (.reg [⟨⟨some 39,Op.move (Operand.tmp 9),none⟩,[]⟩,
  ⟨⟨some 40,Op.binOp BinOp.add 3 (Operand.tmp 39) (Operand.const (Value.int IntKind.i64 1)) 3,none⟩,[]⟩,
  ⟨⟨some 9,Op.assign (Operand.tmp 40),none⟩,[]⟩])))))) (.seq (.reg [⟨⟨some 66,Op.move (Operand.tmp 8),none⟩,[]⟩,
  ⟨⟨some 67,Op.call { callee := (Callee.value (Operand.func 114)),args := #[(Operand.tmp 66)],argTypes := #[27] },none⟩,[]⟩]) (.reg [⟨⟨some 68,Op.move (Operand.tmp 5),none⟩,[]⟩,
  ⟨⟨some 69,Op.move (Operand.tmp 8),none⟩,[]⟩,
  ⟨⟨some 70,Op.buildSlice 43 1 #[(0,(Operand.tmp 69))],none⟩,[]⟩,
  ⟨⟨some 71,Op.call { callee := (Callee.builtin Builtin.append),args := #[(Operand.tmp 68),(Operand.tmp 70)],argTypes := #[43,43] },none⟩,[]⟩,
  ⟨⟨some 5,Op.assign (Operand.tmp 71),none⟩,[]⟩])))))))) (.reg [⟨⟨some 72,Op.binOp BinOp.add 3 (Operand.tmp 23) (Operand.const (Value.int IntKind.i64 1)) 3,none⟩,[]⟩,
  ⟨⟨some 23,Op.move (Operand.tmp 72),none⟩,[]⟩]))))))) (.seq (.reg [⟨⟨some 73,Op.move (Operand.tmp 5),none⟩,[]⟩,
  ⟨⟨some 4,Op.assign (Operand.tmp 73),none⟩,[]⟩]) .ret)))))
theorem sl119 : slim Tryz.f119.ntmps ords119 (Tryz.f119.body.getD .skip) = some cd119 := by kernel_rfl
theorem in119 {args : List Value} {H : AH} {R : Value → AH → Prop} (hl : args.length = 2) (h : ∀ (Q : Exit → Sl → AH → Prop),(∀ e s H,endA Tryz.prog [ResultVar.tmp 4] R e s H → Q e s H) → wpC Tryz.prog cd119 Q (enterA args) H) : ACalls Tryz.prog 119 args H R :=
  ACalls.intro (by kernel_rfl) Tryz.func119 rfl (by kernel_rfl) sl119 hl (of_decide_eq_true (by kernel_rfl)) (by kernel_rfl) h
end Go.Proofs.YtelafbennmclfaaGreat.Ai
namespace Go.Proofs.YtelafbennmclfaaGreat.Ai
open Go Go.RowKit
def bls (bs : List Bool) : List Value := bs.map Value.bool
theorem bls_len (bs : List Bool) : (bls bs).length = bs.length := by simp [bls]
theorem mk_bools {n : Int} (h0 : 0 ≤ n) (h1 : n ≤ 1099511627776) (H : AH) :
    makeSliceA Tryz.prog 130 (.int .i64 n) (.int .i64 n) H = some (.slice (some ⟨H.length,0,none⟩) n.toNat n.toNat,H ++ [.cells (bls (List.replicate n.toNat false)) 4 false]) := by
  have hb2 : n.toNat * Tryz.prog.bytesOf 4 ≤ 281474976710656 := by
    rw [by4]; omega
  have hzc : (Value.bool false).cells = #[.bool false] := rfl
  have hzs : zerosA (.bool false) (n.toNat * 1) = bls (List.replicate n.toNat false) := by
    unfold zerosA bls
    rw [hzc,Nat.mul_one,List.map_replicate]
    apply List.ext_getElem
    · simp
    · intro i h1 h2
      simp [Nat.mod_one]
  simp only [makeSliceA,Tryz.underlying130,cs4,ze4]
  rw [if_pos ⟨trivial,h0,by omega,hb2,by omega⟩,if_pos ⟨by simp [plainCs,hzc,plainC],by simp [hzc]⟩,hzs]
theorem cell_bls {H : AH} {o i : Nat} {bs : List Bool} {e : TypeId} {ro : Bool} (ho : H[o]? = some (.cells (bls bs) e ro)) (hi : i < bs.length) : cellA H o i = some (.bool (bs.getD i false)) := by
  rw [cell_of ho]
  simp [bls,hi]
theorem st_bls {H : AH} {o i : Nat} {bs : List Bool} {e : TypeId} (ho : H[o]? = some (.cells (bls bs) e false)) (hi : i < bs.length) (b : Bool) : storeA Tryz.prog 4 (.pointer (some ⟨o,i,none⟩)) (.bool b) H = some (H.set o (.cells (bls (bs.set i b)) e false)) := by
  have := st_at (P := Tryz.prog) (t := 4) (i := i) (y := .bool b) cs4 ho (by rw [bls_len]; exact hi) rfl rfl
  rw [this]
  simp [bls,List.map_set]
set_option maxRecDepth 20000 in
set_option maxHeartbeats 4000000 in
theorem parts_c (v : Value) (L : List (List Int)) (wo : Int) (H : AH) {b : Nat} (hr : RowLB b 27 3 H v L) (hL : LOk L.length L) (hN : L.length ≤ 12) (hwo : -1 ≤ wo ∧ wo < L.length) (hls : ∀ x,(L.getD x []).length ≤ 1000000000) :
    ACalls Tryz.prog 119 [v,.int .i64 wo] H fun r H' => InL H.length H'.length 27 3 H' r (partsL L wo) ∧ H <+: H' := by
  refine in119 rfl ?_
  intro Q hQ
  obtain ⟨us,hus,hvb,hul,hin⟩ := hr
  have mk := mk_bools (n := (L.length : Int)) (by omega) (by omega)
  simp only [Int.toNat_natCast] at mk
  simp (maxSteps := 1000000) (disch := omega) only [cd119,hus.len Tryz.underlying43,hul,mk,SS,eq_self,reduceIte,reduceCtorEq,Nat.reduceEqDiff,Nat.reduceAdd]
  generalize hA : H ++ [AObj.cells [] 27 false] = A
  have pA : H <+: A := by rw [← hA]; exact List.prefix_append _ _
  have cA : A[H.length]? = some (.cells [] 27 false) := by rw [← hA]; exact at_new ..
  have lA : A.length = H.length + 1 := by rw [← hA]; simp
  generalize hB : A ++ [AObj.cells (bls (List.replicate L.length false)) 4 false] = B
  have pB : A <+: B := by rw [← hB]; exact List.prefix_append _ _
  have cB : B[A.length]? = some (.cells (bls (List.replicate L.length false)) 4 false) := by rw [← hB]; exact at_new ..
  have lB : B.length = A.length + 1 := by rw [← hB]; simp
  have uB : InU H.length B.length 27 3 B H.length [] [] := ⟨Nat.le_refl _,by omega,pre_at pB cA,Nat.le_refl _,fun i hi => absurd hi (by simp),fun i j _ hi _ => absurd hi (by simp)⟩
  have pHB := pA.trans pB
  refine brD.intro (fun g0 => ?_) (fun g0 => ?_)
  · obtain ⟨w0,hw0⟩ : ∃ w0 : Nat,wo = w0 := ⟨wo.toNat,by omega⟩
    subst hw0
    have hwl : w0 < (List.replicate L.length false).length := by simp; omega
    simp (maxSteps := 1000000) (disch := omega) only [Int.toNat_natCast,Nat.zero_add,st_bls cB hwl,SS,eq_self,reduceIte,reduceCtorEq,Nat.reduceEqDiff,Nat.reduceAdd]
    obtain ⟨s0,hs0⟩ : ∃ s0,s0 = (List.replicate L.length false).set w0 true := ⟨_,rfl⟩
    have hs0e : s0 = seen0 L.length (w0 : Int) := by unfold seen0; rw [if_pos (by omega),hs0,Int.toNat_natCast]
    rw [← hs0]
    generalize hCC : B.set A.length (.cells (bls s0) 4 false) = C
    have cS : C[A.length]? = some (.cells (bls s0) 4 false) := by rw [← hCC]; exact at_set cB
    have pC : H <+: C := by rw [← hCC]; exact pre_set pHB (by omega) _
    have lC : C.length = B.length := by rw [← hCC]; simp
    have uC : InU H.length C.length 27 3 C H.length [] [] := by
      rw [lC,← hCC]
      have aw0 : Away A.length H.length [] ([] : List (List Int)) := ⟨by omega,fun i hi => absurd hi (by simp)⟩
      exact uB.moveq aw0 fun j y hj hy => by rw [List.getElem?_set_ne (fun e => hj e.symm)]; exact hy
    have hs0l : s0.length = L.length := by rw [hs0]; simp
    simp (maxSteps := 1000000) (disch := omega) only [hus.len Tryz.underlying43,hul,SS,eq_self,reduceIte,reduceCtorEq,Nat.reduceEqDiff,Nat.reduceAdd]
    refine LoopH.by (fun m s H' => ∃ i oo vs,m + i = L.length ∧ s 0 = v ∧ s 5 = .slice (some ⟨oo,0,none⟩) (prF L s0 i).2.length (prF L s0 i).2.length ∧ s 6 = .slice (some ⟨A.length,0,none⟩) L.length L.length ∧ s 22 = .int .i64 (L.length : Int) ∧ s 23 = .int .i64 ((i : Nat) : Int) ∧ H'[A.length]? = some (.cells (bls (prF L s0 i).1) 4 false) ∧ InU H.length H'.length 27 3 H' oo vs (prF L s0 i).2 ∧ Away A.length oo vs (prF L s0 i).2 ∧ H <+: H') L.length ?_ ?_
    · exact ⟨0,H.length,[],by simp,rfl,rfl,rfl,rfl,rfl,cS,uC,⟨by omega,fun i hi => absurd hi (by simp [prF])⟩,pC⟩
    rintro m s H' ⟨i,oo,vs,hm,h0,h5,h6,h22,h23,hcs,hin1,haw,hpp⟩
    obtain ⟨hsl,hpl⟩ := prF_len L s0 (by rw [hs0l]) hL i (by omega)
    have hstep : prF L s0 (i + 1) = if (prF L s0 i).1.getD i false = true then prF L s0 i else ((ptF L (L.length + 1) ((prF L s0 i).1.set i true,[(i : Int)]) 0).1,(prF L s0 i).2 ++ [inOrd L.length (ptF L (L.length + 1) ((prF L s0 i).1.set i true,[(i : Int)]) 0).2]) := rfl
    have hfin : i = L.length → (prF L s0 L.length).2 = (prF L s0 i).2 := fun e => by rw [e]
    generalize hSe : (prF L s0 i).1 = Se at *
    generalize hPs : (prF L s0 i).2 = Ps at *
    simp (maxSteps := 1000000) (disch := omega) only [h0,h5,h6,h22,h23,SS,eq_self,reduceIte,reduceCtorEq,Nat.reduceEqDiff,Nat.reduceAdd]
    refine brD.intro (fun g => ?_) (fun g => ?_)
    rotate_left
    · have hi : i = L.length := by omega
      simp (maxSteps := 1000000) (disch := omega) only [h5,SS,eq_self,reduceIte,reduceCtorEq,Nat.reduceEqDiff,Nat.reduceAdd]
      refine hQ _ _ _ ?_
      simp (maxSteps := 1000000) (disch := omega) only [h5,SS,eq_self,reduceIte,reduceCtorEq,Nat.reduceEqDiff,Nat.reduceAdd]
      have hP : partsL L (w0 : Int) = Ps := by unfold partsL; rw [← hs0e,hfin hi]
      rw [hP]
      exact ⟨hin1.inl,hpp⟩
    have hi : i < L.length := by omega
    have hiS : i < Se.length := by omega
    simp (maxSteps := 1000000) (disch := omega) only [h0,h5,h6,h22,h23,Int.toNat_natCast,Nat.zero_add,cell_bls hcs hiS,SS,eq_self,reduceIte,reduceCtorEq,Nat.reduceEqDiff,Nat.reduceAdd]
    refine brH.intro (fun e1 => ?_) (fun e1 => ?_)
    · rw [if_pos e1] at hstep
      simp (maxSteps := 1000000) (disch := omega) only [e1,h0,h5,h6,h22,h23,wrap64,SS,eq_self,reduceIte,reduceCtorEq,Nat.reduceEqDiff,Nat.reduceAdd]
      refine ⟨m - 1,by omega,i + 1,oo,vs,?_⟩
      have g1 : (prF L s0 (i + 1)).1 = Se := by rw [hstep,hSe]
      have g2 : (prF L s0 (i + 1)).2 = Ps := by rw [hstep,hPs]
      rw [g1,g2]
      (repeat' first | exact hcs | exact hin1 | exact haw | exact hpp | apply And.intro) <;> first | (simp only [Value.int.injEq,true_and]; omega) | omega | rfl | assumption | (simp; done) | (simp; omega)
    have hne : ¬ Se.getD i false = true := by rw [e1]; decide
    rw [if_neg hne] at hstep
    have hPI := PI.first hsl hi hne
    generalize hCn : Se.countP (fun b => !b) = Cn at hPI
    simp (maxSteps := 1000000) (disch := omega) only [e1,h0,h5,h6,h22,h23,Int.toNat_natCast,Nat.zero_add,st_bls hcs hiS,SS,eq_self,reduceIte,reduceCtorEq,Nat.reduceEqDiff,Nat.reduceAdd]
    have hin2 : InU H.length H'.length 27 3 (H'.set A.length (.cells (bls (Se.set i true)) 4 false)) oo vs Ps := hin1.moveq haw fun j y hj hy => by rw [List.getElem?_set_ne (fun e => hj e.symm)]; exact hy
    have hcs2 : (H'.set A.length (.cells (bls (Se.set i true)) 4 false))[A.length]? = some (.cells (bls (Se.set i true)) 4 false) := at_set hcs
    have hpp2 : H <+: H'.set A.length (.cells (bls (Se.set i true)) 4 false) := pre_set hpp (by omega) _
    have hll : (H'.set A.length (.cells (bls (Se.set i true)) 4 false)).length = H'.length := by simp
    generalize hG : H'.set A.length (.cells (bls (Se.set i true)) 4 false) = G at *
    have hltS := at_lt hcs
    have lH' := hpp.length_le
    refine LoopH.by (fun m s G' => ∃ st k op,m + k = L.length ∧ s 0 = v ∧ s 5 = .slice (some ⟨oo,0,none⟩) Ps.length Ps.length ∧ s 6 = .slice (some ⟨A.length,0,none⟩) L.length L.length ∧ s 8 = .slice (some ⟨op,0,none⟩) st.2.length st.2.length ∧ s 9 = .int .i64 ((k : Nat) : Int) ∧ s 22 = .int .i64 (L.length : Int) ∧ s 23 = .int .i64 ((i : Nat) : Int) ∧ k ≤ st.2.length ∧ G'[A.length]? = some (.cells (bls st.1) 4 false) ∧ G'[op]? = some (.cells (ints st.2) 3 false) ∧ H'.length ≤ op ∧ InU H.length H'.length 27 3 G' oo vs Ps ∧ PI L.length Cn st ∧ ptF L (m + 1) st k = ptF L (L.length + 1) (Se.set i true,[(i : Int)]) 0 ∧ H <+: G') L.length ?_ ?_
    · refine ⟨(Se.set i true,[(i : Int)]),0,G.length,by omega,?_⟩
      simp only [SS,eq_self,reduceIte,reduceCtorEq,Nat.reduceEqDiff,Nat.reduceAdd,h0,h5,h6,h22,h23]
      have q1 := at_app hcs2 [AObj.cells [.int .i64 (i : Int)] 3 false]
      have q2 : (G ++ [AObj.cells [.int .i64 (i : Int)] 3 false])[G.length]? = some (.cells (ints [(i : Int)]) 3 false) := at_new ..
      have q3 := hin2.pre (List.prefix_append G [AObj.cells [.int .i64 (i : Int)] 3 false])
      have q4 := pre_app hpp2 [AObj.cells [.int .i64 (i : Int)] 3 false]
      (repeat' first | exact q1 | exact q2 | exact q3 | exact q4 | exact hPI | apply And.intro) <;> first | (simp only [Value.int.injEq,true_and]; omega) | omega | rfl | assumption | (simp; done) | (simp; omega)
    rintro mk s G' ⟨st,k,op,hmk,h0,h5,h6,h8,h9,h22,h23,hkl,hcs3,hcp,hop,hin3,hpi,hF,hpp3⟩
    have hle := hpi.len_le
    simp (maxSteps := 1000000) (disch := omega) only [h0,h5,h6,h8,h9,h22,h23,SS,eq_self,reduceIte,reduceCtorEq,Nat.reduceEqDiff,Nat.reduceAdd]
    refine brD.intro (fun gk => ?_) (fun gk => ?_)
    · have hk : k < st.2.length := by omega
      rw [ptF_step L mk st k hk] at hF
      have hqm : st.2.getD k 0 ∈ st.2 := by simp [hk]
      obtain ⟨hxr,_⟩ := hpi.q _ hqm
      obtain ⟨x,hx⟩ : ∃ x : Nat,st.2.getD k 0 = x := ⟨(st.2.getD k 0).toNat,by omega⟩
      have hcell := cell_ints hcp hk
      rw [hx] at hF hxr hcell
      rw [Int.toNat_natCast] at hF
      have hus' := hus.pre hpp3
      have hxu : x < us.length := by omega
      have hinH := (hin x (by omega)).1
      have hin' := hinH.pre hpp3
      have hlb := hls x
      have hLx := hL x
      simp (maxSteps := 1000000) (disch := omega) only [h0,h5,h6,h8,h9,h22,h23,hcell,hus'.ix Tryz.underlying43 cs27,hus'.cell,Int.toNat_natCast,Nat.zero_add,SS,eq_self,reduceIte,reduceCtorEq,Nat.reduceEqDiff,Nat.reduceAdd]
      generalize hw : us.getD x undef = w at *
      generalize hl : L.getD x [] = l at *
      simp (maxSteps := 1000000) (disch := omega) only [hin'.len Tryz.underlying27,SS,eq_self,reduceIte,reduceCtorEq,Nat.reduceEqDiff,Nat.reduceAdd]
      refine LoopH.by (fun m' s' G2 => ∃ j st' op',m' + j = l.length ∧ s' 0 = v ∧ s' 5 = .slice (some ⟨oo,0,none⟩) Ps.length Ps.length ∧ s' 6 = .slice (some ⟨A.length,0,none⟩) L.length L.length ∧ s' 8 = .slice (some ⟨op',0,none⟩) st'.2.length st'.2.length ∧ s' 9 = .int .i64 ((k : Nat) : Int) ∧ s' 22 = .int .i64 (L.length : Int) ∧ s' 23 = .int .i64 ((i : Nat) : Int) ∧ s' 47 = w ∧ s' 48 = .int .i64 (l.length : Int) ∧ s' 49 = .int .i64 ((j : Nat) : Int) ∧ G2[A.length]? = some (.cells (bls st'.1) 4 false) ∧ G2[op']? = some (.cells (ints st'.2) 3 false) ∧ H'.length ≤ op' ∧ InU H.length H'.length 27 3 G2 oo vs Ps ∧ PI L.length Cn st' ∧ st.2 <+: st'.2 ∧ ptIn (l.drop j) st' = ptIn l st ∧ H <+: G2) l.length ?_ ?_
      · refine ⟨0,st,op,by simp,?_⟩
        simp only [SS,eq_self,reduceIte,reduceCtorEq,Nat.reduceEqDiff,Nat.reduceAdd,h0,h5,h6,h8,h9,h22,h23]
        have hd2 : ptIn (l.drop 0) st = ptIn l st := by rw [List.drop_zero]
        have hpr := List.prefix_refl st.2
        (repeat' first | exact hcs3 | exact hcp | exact hin3 | exact hpi | exact hd2 | exact hpr | exact hpp3 | apply And.intro) <;> first | (simp only [Value.int.injEq,true_and]; omega) | omega | rfl | assumption | (simp; done) | (simp; omega)
      · rintro m' s' G2 ⟨j,st',op',hm',g0,g5,g6,g8,g9,g22,g23,g47,g48,g49,hcs4,hcp4,hop4,hin4,hpi4,hpre,hD,hpp4⟩
        have hw' := hinH.pre hpp4
        have hle' := hpi4.len_le
        have hlen' := hpi4.len
        simp (maxSteps := 1000000) (disch := omega) only [g0,g5,g6,g8,g9,g22,g23,g47,g48,g49,SS,eq_self,reduceIte,reduceCtorEq,Nat.reduceEqDiff,Nat.reduceAdd]
        refine brD.intro (fun q => ?_) (fun q => ?_)
        · have hj : j < l.length := by omega
          rw [ptIn_drop l j hj] at hD
          have hym : l.getD j 0 ∈ l := by simp [hj]
          have hyr := hLx _ hym
          obtain ⟨y,hy⟩ : ∃ y : Nat,l.getD j 0 = y := ⟨(l.getD j 0).toNat,by omega⟩
          rw [hy] at hD hyr
          rw [Int.toNat_natCast] at hD
          have hyl : y < st'.1.length := by omega
          have hcw := hw'.cell hj
          rw [hy] at hcw
          simp (maxSteps := 1000000) (disch := omega) only [g0,g5,g6,g8,g9,g22,g23,g47,g48,g49,hw'.ix Tryz.underlying27 cs3,hcw,Int.toNat_natCast,Nat.zero_add,cell_bls hcs4 hyl,SS,eq_self,reduceIte,reduceCtorEq,Nat.reduceEqDiff,Nat.reduceAdd]
          refine brH.intro (fun e => ?_) (fun e => ?_)
          · rw [if_pos e] at hD
            simp (maxSteps := 1000000) (disch := omega) only [e,g0,g5,g6,g8,g9,g22,g23,g47,g48,g49,wrap64,SS,eq_self,reduceIte,reduceCtorEq,Nat.reduceEqDiff,Nat.reduceAdd]
            refine ⟨m' - 1,by omega,j + 1,st',op',?_⟩
            (repeat' first | exact hcs4 | exact hcp4 | exact hin4 | exact hpi4 | exact hpre | exact hD | exact hpp4 | apply And.intro) <;> first | (simp only [Value.int.injEq,true_and]; omega) | omega | rfl | assumption | (simp; done) | (simp; omega)
          · have hnn : ¬ st'.1.getD y false = true := by rw [e]; decide
            rw [if_neg hnn] at hD
            have hb2 := hpi4.put (j := (y : Int)) hyr (by rw [Int.toNat_natCast]; exact hnn)
            rw [Int.toNat_natCast] at hb2
            have hlt4 := at_lt hcs4
            have hltp := at_lt hcp4
            have hcp5 : (G2.set A.length (.cells (bls (st'.1.set y true)) 4 false))[op']? = some (.cells (ints st'.2) 3 false) := by rw [List.getElem?_set_ne (by omega)]; exact hcp4
            have hap := appi27 (x := (y : Int)) (n := st'.2.length) (c := st'.2.length) hcp5 rfl (by omega)
            simp (maxSteps := 1000000) (disch := omega) only [e,g0,g5,g6,g8,g9,g22,g23,g47,g48,g49,Int.toNat_natCast,Nat.zero_add,st_bls hcs4 hyl,hap,wrap64,SS,eq_self,reduceIte,reduceCtorEq,Nat.reduceEqDiff,Nat.reduceAdd]
            have f1 : st.2 <+: st'.2 ++ [(y : Int)] := hpre.trans (List.prefix_append _ _)
            have f2 : (st'.2 ++ [(y : Int)]).length = st'.2.length + 1 := by simp
            have aw : ∀ {o z},o ≠ A.length → o ≠ op' → G2[o]? = some z → ((G2.set A.length (.cells (bls (st'.1.set y true)) 4 false)).set op' .dead ++ [AObj.cells [.int .i64 (y : Int)] 3 false,.cells (ints (st'.2 ++ [(y : Int)])) 3 false])[o]? = some z := by
              intro o z ho1 ho2 hz
              have := at_lt hz
              rw [List.getElem?_append_left (by simp; omega),List.getElem?_set_ne (fun e => ho2 e.symm),List.getElem?_set_ne (fun e => ho1 e.symm)]
              exact hz
            have f3 : ((G2.set A.length (.cells (bls (st'.1.set y true)) 4 false)).set op' .dead ++ [AObj.cells [.int .i64 (y : Int)] 3 false,.cells (ints (st'.2 ++ [(y : Int)])) 3 false])[A.length]? = some (.cells (bls (st'.1.set y true)) 4 false) := by
              rw [List.getElem?_append_left (by simp; omega),List.getElem?_set_ne (by omega),List.getElem?_set_self hlt4]
            have f4 : ((G2.set A.length (.cells (bls (st'.1.set y true)) 4 false)).set op' .dead ++ [AObj.cells [.int .i64 (y : Int)] 3 false,.cells (ints (st'.2 ++ [(y : Int)])) 3 false])[(G2.set A.length (.cells (bls (st'.1.set y true)) 4 false)).length + 1]? = some (.cells (ints (st'.2 ++ [(y : Int)])) 3 false) := by
              rw [List.getElem?_append_right (by simp)]; simp
            have f5 : InU H.length H'.length 27 3 ((G2.set A.length (.cells (bls (st'.1.set y true)) 4 false)).set op' .dead ++ [AObj.cells [.int .i64 (y : Int)] 3 false,.cells (ints (st'.2 ++ [(y : Int)])) 3 false]) oo vs Ps := by
              have q1 := hin4.moveq haw (H' := G2.set A.length (.cells (bls (st'.1.set y true)) 4 false)) fun j z hj hz => by rw [List.getElem?_set_ne (fun e => hj e.symm)]; exact hz
              refine q1.move fun j z hj1 hj2 hz => ?_
              have := at_lt hz
              rw [List.getElem?_append_left (by simpa using this),List.getElem?_set_ne (by omega)]
              exact hz
            have f6 : H <+: (G2.set A.length (.cells (bls (st'.1.set y true)) 4 false)).set op' .dead ++ [AObj.cells [.int .i64 (y : Int)] 3 false,.cells (ints (st'.2 ++ [(y : Int)])) 3 false] := pre_app (pre_set (pre_set hpp4 (by omega) _) (by omega) _) _
            have f7 : H'.length ≤ (G2.set A.length (.cells (bls (st'.1.set y true)) 4 false)).length + 1 := by simp; omega
            refine ⟨m' - 1,by omega,j + 1,(st'.1.set y true,st'.2 ++ [(y : Int)]),(G2.set A.length (.cells (bls (st'.1.set y true)) 4 false)).length + 1,?_⟩
            simp only [f2]
            (repeat' first | exact f3 | exact f4 | exact f5 | exact f6 | exact f7 | exact f1 | exact hb2 | exact hD | apply And.intro) <;> first | (simp only [Value.int.injEq,true_and]; omega) | omega | rfl | assumption | (simp; done) | (simp; omega)
        · simp (maxSteps := 1000000) (disch := omega) only [g0,g5,g6,g8,g9,g22,g23,g47,g48,g49,wrap64,SS,eq_self,reduceIte,reduceCtorEq,Nat.reduceEqDiff,Nat.reduceAdd]
          rw [List.drop_of_length_le (by omega)] at hD
          have hD' : st' = ptIn l st := hD
          rw [← hD'] at hF
          have hm1 : mk - 1 + 1 = mk := by omega
          rw [← hm1] at hF
          have hkl' : k + 1 ≤ st'.2.length := by have := hpre.length_le; omega
          refine ⟨mk - 1,by omega,st',k + 1,op',?_⟩
          (repeat' first | exact hcs4 | exact hcp4 | exact hop4 | exact hin4 | exact hpi4 | exact hF | exact hkl' | exact hpp4 | apply And.intro) <;> first | (simp only [Value.int.injEq,true_and]; omega) | omega | rfl | assumption | (simp; done) | (simp; omega)
    · rw [ptF_done L _ st k (by omega)] at hF
      rw [← hF] at hstep
      have hnd := hpi.nd
      have hltp := at_lt hcp
      simp (maxSteps := 1000000) (disch := omega) only [h0,h5,h6,h8,h9,h22,h23,SS,eq_self,reduceIte,reduceCtorEq,Nat.reduceEqDiff,Nat.reduceAdd]
      refine CallH.by (Sort_c (.slice (some ⟨op,0,none⟩) st.2.length st.2.length) st.2 H G' (.inr ⟨op,rfl,by omega,hcp⟩) (by omega)) ?_
      rintro _ K ⟨ys,hys,hperm,hasc,hel⟩
      have hyl : ys.length = st.2.length := hperm.length_eq
      have hyeq := inOrd_eq hnd (fun x hx => (hpi.q x hx).1) hperm hasc
      have hKl : K.length = G'.length := hel.1
      have hke : ∀ {o z},o ≠ op → G'[o]? = some z → K[o]? = some z := fun ho hz => hel.2 _ _ (.inr ho) hz
      have hcsK := hke (by omega) hcs3
      have hinK : InU H.length H'.length 27 3 K oo vs Ps := hin3.move fun j z hj1 hj2 hz => hke (by omega) hz
      have hcpK : K[op]? = some (.cells (ints ys) 3 false) := by
        rcases hys with ⟨q,_⟩ | ⟨o,q,_,hc⟩
        · cases q
        · simp only [Value.slice.injEq,Option.some.injEq,Addr.mk.injEq,and_true] at q
          obtain ⟨q1,_⟩ := q
          have q2 : o = op := by
            first
            | exact q1.symm
            | exact q1
            | exact q1.1.symm
            | exact q1.1
          rw [← q2]; exact hc
      have hppK : H <+: K := prefix_of fun o z hz => hke (by have := at_lt hz; omega) (pre_at hpp3 hz)
      have hltG := hpp3.length_le
      have hGH : H'.length ≤ G'.length := by omega
      have hinw : InI H'.length K.length 3 K (.slice (some ⟨op,0,none⟩) st.2.length st.2.length) ys := .inr ⟨op,ys,by rw [hyl],hop,by omega,hcpK,List.take_of_length_le (Nat.le_refl _)⟩
      obtain ⟨K2,k1,k2,k3,k4⟩ := hinK.app1 (P := Tryz.prog) (t2 := 43) Tryz.underlying43 cs27 (by rw [by27]; decide) zk27 hinw lH' (by omega) (Nat.le_refl _) (by omega)
      simp (maxSteps := 1000000) (disch := omega) only [h0,h5,h6,h8,h9,h22,h23,k1,wrap64,SS,eq_self,reduceIte,reduceCtorEq,Nat.reduceEqDiff,Nat.reduceAdd]
      have g1 : (prF L s0 (i + 1)).1 = st.1 := by rw [hstep]
      have g2 : (prF L s0 (i + 1)).2 = Ps ++ [ys] := by rw [hstep,hyeq]
      have g3 : (Ps ++ [ys]).length = Ps.length + 1 := by simp
      have c1 : K2[A.length]? = some (.cells (bls st.1) 4 false) := k4 _ _ (fun e => haw.1 e.symm) hcsK
      have c2 : InU H.length K2.length 27 3 K2 (K.length + 1) (vs.take Ps.length ++ [.slice (some ⟨op,0,none⟩) st.2.length st.2.length]) (Ps ++ [ys]) := by rw [k3]; exact k2
      have c3 : Away A.length (K.length + 1) (vs.take Ps.length ++ [.slice (some ⟨op,0,none⟩) st.2.length st.2.length]) (Ps ++ [ys]) := by
        refine ⟨by omega,fun j hj => ?_⟩
        rw [g3] at hj
        have hvl := hinK.2.2.2.1
        rw [List.getD_eq_getElem?_getD,List.getElem?_append]
        have hl2 : (vs.take Ps.length).length = Ps.length := by simp; omega
        rw [hl2]
        split
        · rename_i hj2
          rw [List.getElem?_take,if_pos hj2,← List.getD_eq_getElem?_getD]
          exact haw.2 j hj2
        · have : j - Ps.length = 0 := by omega
          rw [this]
          refine .inr ?_
          show op ≠ A.length
          omega
      have c4 : H <+: K2 := prefix_of fun o z hz => k4 o z (by have := at_lt hz; have := hinK.1; omega) (pre_at hppK hz)
      refine ⟨m - 1,by omega,i + 1,K.length + 1,vs.take Ps.length ++ [.slice (some ⟨op,0,none⟩) st.2.length st.2.length],?_⟩
      rw [g1,g2,g3]
      (repeat' first | exact c1 | exact c2 | exact c3 | exact c4 | apply And.intro) <;> first | (simp only [Value.int.injEq,true_and]; omega) | omega | rfl | assumption | (simp; done) | (simp; omega)
  · simp (maxSteps := 1000000) (disch := omega) only [SS,eq_self,reduceIte,reduceCtorEq,Nat.reduceEqDiff,Nat.reduceAdd]
    obtain ⟨s0,hs0⟩ : ∃ s0,s0 = List.replicate L.length false := ⟨_,rfl⟩
    have hs0e : s0 = seen0 L.length wo := by unfold seen0; rw [if_neg (by omega),hs0]
    rw [← hs0] at cB
    have cS := cB
    have pC := pHB
    have uC := uB
    have hs0l : s0.length = L.length := by rw [hs0]; simp
    simp (maxSteps := 1000000) (disch := omega) only [hus.len Tryz.underlying43,hul,SS,eq_self,reduceIte,reduceCtorEq,Nat.reduceEqDiff,Nat.reduceAdd]
    refine LoopH.by (fun m s H' => ∃ i oo vs,m + i = L.length ∧ s 0 = v ∧ s 5 = .slice (some ⟨oo,0,none⟩) (prF L s0 i).2.length (prF L s0 i).2.length ∧ s 6 = .slice (some ⟨A.length,0,none⟩) L.length L.length ∧ s 22 = .int .i64 (L.length : Int) ∧ s 23 = .int .i64 ((i : Nat) : Int) ∧ H'[A.length]? = some (.cells (bls (prF L s0 i).1) 4 false) ∧ InU H.length H'.length 27 3 H' oo vs (prF L s0 i).2 ∧ Away A.length oo vs (prF L s0 i).2 ∧ H <+: H') L.length ?_ ?_
    · exact ⟨0,H.length,[],by simp,rfl,rfl,rfl,rfl,rfl,cS,uC,⟨by omega,fun i hi => absurd hi (by simp [prF])⟩,pC⟩
    rintro m s H' ⟨i,oo,vs,hm,h0,h5,h6,h22,h23,hcs,hin1,haw,hpp⟩
    obtain ⟨hsl,hpl⟩ := prF_len L s0 (by rw [hs0l]) hL i (by omega)
    have hstep : prF L s0 (i + 1) = if (prF L s0 i).1.getD i false = true then prF L s0 i else ((ptF L (L.length + 1) ((prF L s0 i).1.set i true,[(i : Int)]) 0).1,(prF L s0 i).2 ++ [inOrd L.length (ptF L (L.length + 1) ((prF L s0 i).1.set i true,[(i : Int)]) 0).2]) := rfl
    have hfin : i = L.length → (prF L s0 L.length).2 = (prF L s0 i).2 := fun e => by rw [e]
    generalize hSe : (prF L s0 i).1 = Se at *
    generalize hPs : (prF L s0 i).2 = Ps at *
    simp (maxSteps := 1000000) (disch := omega) only [h0,h5,h6,h22,h23,SS,eq_self,reduceIte,reduceCtorEq,Nat.reduceEqDiff,Nat.reduceAdd]
    refine brD.intro (fun g => ?_) (fun g => ?_)
    rotate_left
    · have hi : i = L.length := by omega
      simp (maxSteps := 1000000) (disch := omega) only [h5,SS,eq_self,reduceIte,reduceCtorEq,Nat.reduceEqDiff,Nat.reduceAdd]
      refine hQ _ _ _ ?_
      simp (maxSteps := 1000000) (disch := omega) only [h5,SS,eq_self,reduceIte,reduceCtorEq,Nat.reduceEqDiff,Nat.reduceAdd]
      have hP : partsL L wo = Ps := by unfold partsL; rw [← hs0e,hfin hi]
      rw [hP]
      exact ⟨hin1.inl,hpp⟩
    have hi : i < L.length := by omega
    have hiS : i < Se.length := by omega
    simp (maxSteps := 1000000) (disch := omega) only [h0,h5,h6,h22,h23,Int.toNat_natCast,Nat.zero_add,cell_bls hcs hiS,SS,eq_self,reduceIte,reduceCtorEq,Nat.reduceEqDiff,Nat.reduceAdd]
    refine brH.intro (fun e1 => ?_) (fun e1 => ?_)
    · rw [if_pos e1] at hstep
      simp (maxSteps := 1000000) (disch := omega) only [e1,h0,h5,h6,h22,h23,wrap64,SS,eq_self,reduceIte,reduceCtorEq,Nat.reduceEqDiff,Nat.reduceAdd]
      refine ⟨m - 1,by omega,i + 1,oo,vs,?_⟩
      have g1 : (prF L s0 (i + 1)).1 = Se := by rw [hstep,hSe]
      have g2 : (prF L s0 (i + 1)).2 = Ps := by rw [hstep,hPs]
      rw [g1,g2]
      (repeat' first | exact hcs | exact hin1 | exact haw | exact hpp | apply And.intro) <;> first | (simp only [Value.int.injEq,true_and]; omega) | omega | rfl | assumption | (simp; done) | (simp; omega)
    have hne : ¬ Se.getD i false = true := by rw [e1]; decide
    rw [if_neg hne] at hstep
    have hPI := PI.first hsl hi hne
    generalize hCn : Se.countP (fun b => !b) = Cn at hPI
    simp (maxSteps := 1000000) (disch := omega) only [e1,h0,h5,h6,h22,h23,Int.toNat_natCast,Nat.zero_add,st_bls hcs hiS,SS,eq_self,reduceIte,reduceCtorEq,Nat.reduceEqDiff,Nat.reduceAdd]
    have hin2 : InU H.length H'.length 27 3 (H'.set A.length (.cells (bls (Se.set i true)) 4 false)) oo vs Ps := hin1.moveq haw fun j y hj hy => by rw [List.getElem?_set_ne (fun e => hj e.symm)]; exact hy
    have hcs2 : (H'.set A.length (.cells (bls (Se.set i true)) 4 false))[A.length]? = some (.cells (bls (Se.set i true)) 4 false) := at_set hcs
    have hpp2 : H <+: H'.set A.length (.cells (bls (Se.set i true)) 4 false) := pre_set hpp (by omega) _
    have hll : (H'.set A.length (.cells (bls (Se.set i true)) 4 false)).length = H'.length := by simp
    generalize hG : H'.set A.length (.cells (bls (Se.set i true)) 4 false) = G at *
    have hltS := at_lt hcs
    have lH' := hpp.length_le
    refine LoopH.by (fun m s G' => ∃ st k op,m + k = L.length ∧ s 0 = v ∧ s 5 = .slice (some ⟨oo,0,none⟩) Ps.length Ps.length ∧ s 6 = .slice (some ⟨A.length,0,none⟩) L.length L.length ∧ s 8 = .slice (some ⟨op,0,none⟩) st.2.length st.2.length ∧ s 9 = .int .i64 ((k : Nat) : Int) ∧ s 22 = .int .i64 (L.length : Int) ∧ s 23 = .int .i64 ((i : Nat) : Int) ∧ k ≤ st.2.length ∧ G'[A.length]? = some (.cells (bls st.1) 4 false) ∧ G'[op]? = some (.cells (ints st.2) 3 false) ∧ H'.length ≤ op ∧ InU H.length H'.length 27 3 G' oo vs Ps ∧ PI L.length Cn st ∧ ptF L (m + 1) st k = ptF L (L.length + 1) (Se.set i true,[(i : Int)]) 0 ∧ H <+: G') L.length ?_ ?_
    · refine ⟨(Se.set i true,[(i : Int)]),0,G.length,by omega,?_⟩
      simp only [SS,eq_self,reduceIte,reduceCtorEq,Nat.reduceEqDiff,Nat.reduceAdd,h0,h5,h6,h22,h23]
      have q1 := at_app hcs2 [AObj.cells [.int .i64 (i : Int)] 3 false]
      have q2 : (G ++ [AObj.cells [.int .i64 (i : Int)] 3 false])[G.length]? = some (.cells (ints [(i : Int)]) 3 false) := at_new ..
      have q3 := hin2.pre (List.prefix_append G [AObj.cells [.int .i64 (i : Int)] 3 false])
      have q4 := pre_app hpp2 [AObj.cells [.int .i64 (i : Int)] 3 false]
      (repeat' first | exact q1 | exact q2 | exact q3 | exact q4 | exact hPI | apply And.intro) <;> first | (simp only [Value.int.injEq,true_and]; omega) | omega | rfl | assumption | (simp; done) | (simp; omega)
    rintro mk s G' ⟨st,k,op,hmk,h0,h5,h6,h8,h9,h22,h23,hkl,hcs3,hcp,hop,hin3,hpi,hF,hpp3⟩
    have hle := hpi.len_le
    simp (maxSteps := 1000000) (disch := omega) only [h0,h5,h6,h8,h9,h22,h23,SS,eq_self,reduceIte,reduceCtorEq,Nat.reduceEqDiff,Nat.reduceAdd]
    refine brD.intro (fun gk => ?_) (fun gk => ?_)
    · have hk : k < st.2.length := by omega
      rw [ptF_step L mk st k hk] at hF
      have hqm : st.2.getD k 0 ∈ st.2 := by simp [hk]
      obtain ⟨hxr,_⟩ := hpi.q _ hqm
      obtain ⟨x,hx⟩ : ∃ x : Nat,st.2.getD k 0 = x := ⟨(st.2.getD k 0).toNat,by omega⟩
      have hcell := cell_ints hcp hk
      rw [hx] at hF hxr hcell
      rw [Int.toNat_natCast] at hF
      have hus' := hus.pre hpp3
      have hxu : x < us.length := by omega
      have hinH := (hin x (by omega)).1
      have hin' := hinH.pre hpp3
      have hlb := hls x
      have hLx := hL x
      simp (maxSteps := 1000000) (disch := omega) only [h0,h5,h6,h8,h9,h22,h23,hcell,hus'.ix Tryz.underlying43 cs27,hus'.cell,Int.toNat_natCast,Nat.zero_add,SS,eq_self,reduceIte,reduceCtorEq,Nat.reduceEqDiff,Nat.reduceAdd]
      generalize hw : us.getD x undef = w at *
      generalize hl : L.getD x [] = l at *
      simp (maxSteps := 1000000) (disch := omega) only [hin'.len Tryz.underlying27,SS,eq_self,reduceIte,reduceCtorEq,Nat.reduceEqDiff,Nat.reduceAdd]
      refine LoopH.by (fun m' s' G2 => ∃ j st' op',m' + j = l.length ∧ s' 0 = v ∧ s' 5 = .slice (some ⟨oo,0,none⟩) Ps.length Ps.length ∧ s' 6 = .slice (some ⟨A.length,0,none⟩) L.length L.length ∧ s' 8 = .slice (some ⟨op',0,none⟩) st'.2.length st'.2.length ∧ s' 9 = .int .i64 ((k : Nat) : Int) ∧ s' 22 = .int .i64 (L.length : Int) ∧ s' 23 = .int .i64 ((i : Nat) : Int) ∧ s' 47 = w ∧ s' 48 = .int .i64 (l.length : Int) ∧ s' 49 = .int .i64 ((j : Nat) : Int) ∧ G2[A.length]? = some (.cells (bls st'.1) 4 false) ∧ G2[op']? = some (.cells (ints st'.2) 3 false) ∧ H'.length ≤ op' ∧ InU H.length H'.length 27 3 G2 oo vs Ps ∧ PI L.length Cn st' ∧ st.2 <+: st'.2 ∧ ptIn (l.drop j) st' = ptIn l st ∧ H <+: G2) l.length ?_ ?_
      · refine ⟨0,st,op,by simp,?_⟩
        simp only [SS,eq_self,reduceIte,reduceCtorEq,Nat.reduceEqDiff,Nat.reduceAdd,h0,h5,h6,h8,h9,h22,h23]
        have hd2 : ptIn (l.drop 0) st = ptIn l st := by rw [List.drop_zero]
        have hpr := List.prefix_refl st.2
        (repeat' first | exact hcs3 | exact hcp | exact hin3 | exact hpi | exact hd2 | exact hpr | exact hpp3 | apply And.intro) <;> first | (simp only [Value.int.injEq,true_and]; omega) | omega | rfl | assumption | (simp; done) | (simp; omega)
      · rintro m' s' G2 ⟨j,st',op',hm',g0,g5,g6,g8,g9,g22,g23,g47,g48,g49,hcs4,hcp4,hop4,hin4,hpi4,hpre,hD,hpp4⟩
        have hw' := hinH.pre hpp4
        have hle' := hpi4.len_le
        have hlen' := hpi4.len
        simp (maxSteps := 1000000) (disch := omega) only [g0,g5,g6,g8,g9,g22,g23,g47,g48,g49,SS,eq_self,reduceIte,reduceCtorEq,Nat.reduceEqDiff,Nat.reduceAdd]
        refine brD.intro (fun q => ?_) (fun q => ?_)
        · have hj : j < l.length := by omega
          rw [ptIn_drop l j hj] at hD
          have hym : l.getD j 0 ∈ l := by simp [hj]
          have hyr := hLx _ hym
          obtain ⟨y,hy⟩ : ∃ y : Nat,l.getD j 0 = y := ⟨(l.getD j 0).toNat,by omega⟩
          rw [hy] at hD hyr
          rw [Int.toNat_natCast] at hD
          have hyl : y < st'.1.length := by omega
          have hcw := hw'.cell hj
          rw [hy] at hcw
          simp (maxSteps := 1000000) (disch := omega) only [g0,g5,g6,g8,g9,g22,g23,g47,g48,g49,hw'.ix Tryz.underlying27 cs3,hcw,Int.toNat_natCast,Nat.zero_add,cell_bls hcs4 hyl,SS,eq_self,reduceIte,reduceCtorEq,Nat.reduceEqDiff,Nat.reduceAdd]
          refine brH.intro (fun e => ?_) (fun e => ?_)
          · rw [if_pos e] at hD
            simp (maxSteps := 1000000) (disch := omega) only [e,g0,g5,g6,g8,g9,g22,g23,g47,g48,g49,wrap64,SS,eq_self,reduceIte,reduceCtorEq,Nat.reduceEqDiff,Nat.reduceAdd]
            refine ⟨m' - 1,by omega,j + 1,st',op',?_⟩
            (repeat' first | exact hcs4 | exact hcp4 | exact hin4 | exact hpi4 | exact hpre | exact hD | exact hpp4 | apply And.intro) <;> first | (simp only [Value.int.injEq,true_and]; omega) | omega | rfl | assumption | (simp; done) | (simp; omega)
          · have hnn : ¬ st'.1.getD y false = true := by rw [e]; decide
            rw [if_neg hnn] at hD
            have hb2 := hpi4.put (j := (y : Int)) hyr (by rw [Int.toNat_natCast]; exact hnn)
            rw [Int.toNat_natCast] at hb2
            have hlt4 := at_lt hcs4
            have hltp := at_lt hcp4
            have hcp5 : (G2.set A.length (.cells (bls (st'.1.set y true)) 4 false))[op']? = some (.cells (ints st'.2) 3 false) := by rw [List.getElem?_set_ne (by omega)]; exact hcp4
            have hap := appi27 (x := (y : Int)) (n := st'.2.length) (c := st'.2.length) hcp5 rfl (by omega)
            simp (maxSteps := 1000000) (disch := omega) only [e,g0,g5,g6,g8,g9,g22,g23,g47,g48,g49,Int.toNat_natCast,Nat.zero_add,st_bls hcs4 hyl,hap,wrap64,SS,eq_self,reduceIte,reduceCtorEq,Nat.reduceEqDiff,Nat.reduceAdd]
            have f1 : st.2 <+: st'.2 ++ [(y : Int)] := hpre.trans (List.prefix_append _ _)
            have f2 : (st'.2 ++ [(y : Int)]).length = st'.2.length + 1 := by simp
            have aw : ∀ {o z},o ≠ A.length → o ≠ op' → G2[o]? = some z → ((G2.set A.length (.cells (bls (st'.1.set y true)) 4 false)).set op' .dead ++ [AObj.cells [.int .i64 (y : Int)] 3 false,.cells (ints (st'.2 ++ [(y : Int)])) 3 false])[o]? = some z := by
              intro o z ho1 ho2 hz
              have := at_lt hz
              rw [List.getElem?_append_left (by simp; omega),List.getElem?_set_ne (fun e => ho2 e.symm),List.getElem?_set_ne (fun e => ho1 e.symm)]
              exact hz
            have f3 : ((G2.set A.length (.cells (bls (st'.1.set y true)) 4 false)).set op' .dead ++ [AObj.cells [.int .i64 (y : Int)] 3 false,.cells (ints (st'.2 ++ [(y : Int)])) 3 false])[A.length]? = some (.cells (bls (st'.1.set y true)) 4 false) := by
              rw [List.getElem?_append_left (by simp; omega),List.getElem?_set_ne (by omega),List.getElem?_set_self hlt4]
            have f4 : ((G2.set A.length (.cells (bls (st'.1.set y true)) 4 false)).set op' .dead ++ [AObj.cells [.int .i64 (y : Int)] 3 false,.cells (ints (st'.2 ++ [(y : Int)])) 3 false])[(G2.set A.length (.cells (bls (st'.1.set y true)) 4 false)).length + 1]? = some (.cells (ints (st'.2 ++ [(y : Int)])) 3 false) := by
              rw [List.getElem?_append_right (by simp)]; simp
            have f5 : InU H.length H'.length 27 3 ((G2.set A.length (.cells (bls (st'.1.set y true)) 4 false)).set op' .dead ++ [AObj.cells [.int .i64 (y : Int)] 3 false,.cells (ints (st'.2 ++ [(y : Int)])) 3 false]) oo vs Ps := by
              have q1 := hin4.moveq haw (H' := G2.set A.length (.cells (bls (st'.1.set y true)) 4 false)) fun j z hj hz => by rw [List.getElem?_set_ne (fun e => hj e.symm)]; exact hz
              refine q1.move fun j z hj1 hj2 hz => ?_
              have := at_lt hz
              rw [List.getElem?_append_left (by simpa using this),List.getElem?_set_ne (by omega)]
              exact hz
            have f6 : H <+: (G2.set A.length (.cells (bls (st'.1.set y true)) 4 false)).set op' .dead ++ [AObj.cells [.int .i64 (y : Int)] 3 false,.cells (ints (st'.2 ++ [(y : Int)])) 3 false] := pre_app (pre_set (pre_set hpp4 (by omega) _) (by omega) _) _
            have f7 : H'.length ≤ (G2.set A.length (.cells (bls (st'.1.set y true)) 4 false)).length + 1 := by simp; omega
            refine ⟨m' - 1,by omega,j + 1,(st'.1.set y true,st'.2 ++ [(y : Int)]),(G2.set A.length (.cells (bls (st'.1.set y true)) 4 false)).length + 1,?_⟩
            simp only [f2]
            (repeat' first | exact f3 | exact f4 | exact f5 | exact f6 | exact f7 | exact f1 | exact hb2 | exact hD | apply And.intro) <;> first | (simp only [Value.int.injEq,true_and]; omega) | omega | rfl | assumption | (simp; done) | (simp; omega)
        · simp (maxSteps := 1000000) (disch := omega) only [g0,g5,g6,g8,g9,g22,g23,g47,g48,g49,wrap64,SS,eq_self,reduceIte,reduceCtorEq,Nat.reduceEqDiff,Nat.reduceAdd]
          rw [List.drop_of_length_le (by omega)] at hD
          have hD' : st' = ptIn l st := hD
          rw [← hD'] at hF
          have hm1 : mk - 1 + 1 = mk := by omega
          rw [← hm1] at hF
          have hkl' : k + 1 ≤ st'.2.length := by have := hpre.length_le; omega
          refine ⟨mk - 1,by omega,st',k + 1,op',?_⟩
          (repeat' first | exact hcs4 | exact hcp4 | exact hop4 | exact hin4 | exact hpi4 | exact hF | exact hkl' | exact hpp4 | apply And.intro) <;> first | (simp only [Value.int.injEq,true_and]; omega) | omega | rfl | assumption | (simp; done) | (simp; omega)
    · rw [ptF_done L _ st k (by omega)] at hF
      rw [← hF] at hstep
      have hnd := hpi.nd
      have hltp := at_lt hcp
      simp (maxSteps := 1000000) (disch := omega) only [h0,h5,h6,h8,h9,h22,h23,SS,eq_self,reduceIte,reduceCtorEq,Nat.reduceEqDiff,Nat.reduceAdd]
      refine CallH.by (Sort_c (.slice (some ⟨op,0,none⟩) st.2.length st.2.length) st.2 H G' (.inr ⟨op,rfl,by omega,hcp⟩) (by omega)) ?_
      rintro _ K ⟨ys,hys,hperm,hasc,hel⟩
      have hyl : ys.length = st.2.length := hperm.length_eq
      have hyeq := inOrd_eq hnd (fun x hx => (hpi.q x hx).1) hperm hasc
      have hKl : K.length = G'.length := hel.1
      have hke : ∀ {o z},o ≠ op → G'[o]? = some z → K[o]? = some z := fun ho hz => hel.2 _ _ (.inr ho) hz
      have hcsK := hke (by omega) hcs3
      have hinK : InU H.length H'.length 27 3 K oo vs Ps := hin3.move fun j z hj1 hj2 hz => hke (by omega) hz
      have hcpK : K[op]? = some (.cells (ints ys) 3 false) := by
        rcases hys with ⟨q,_⟩ | ⟨o,q,_,hc⟩
        · cases q
        · simp only [Value.slice.injEq,Option.some.injEq,Addr.mk.injEq,and_true] at q
          obtain ⟨q1,_⟩ := q
          have q2 : o = op := by
            first
            | exact q1.symm
            | exact q1
            | exact q1.1.symm
            | exact q1.1
          rw [← q2]; exact hc
      have hppK : H <+: K := prefix_of fun o z hz => hke (by have := at_lt hz; omega) (pre_at hpp3 hz)
      have hltG := hpp3.length_le
      have hGH : H'.length ≤ G'.length := by omega
      have hinw : InI H'.length K.length 3 K (.slice (some ⟨op,0,none⟩) st.2.length st.2.length) ys := .inr ⟨op,ys,by rw [hyl],hop,by omega,hcpK,List.take_of_length_le (Nat.le_refl _)⟩
      obtain ⟨K2,k1,k2,k3,k4⟩ := hinK.app1 (P := Tryz.prog) (t2 := 43) Tryz.underlying43 cs27 (by rw [by27]; decide) zk27 hinw lH' (by omega) (Nat.le_refl _) (by omega)
      simp (maxSteps := 1000000) (disch := omega) only [h0,h5,h6,h8,h9,h22,h23,k1,wrap64,SS,eq_self,reduceIte,reduceCtorEq,Nat.reduceEqDiff,Nat.reduceAdd]
      have g1 : (prF L s0 (i + 1)).1 = st.1 := by rw [hstep]
      have g2 : (prF L s0 (i + 1)).2 = Ps ++ [ys] := by rw [hstep,hyeq]
      have g3 : (Ps ++ [ys]).length = Ps.length + 1 := by simp
      have c1 : K2[A.length]? = some (.cells (bls st.1) 4 false) := k4 _ _ (fun e => haw.1 e.symm) hcsK
      have c2 : InU H.length K2.length 27 3 K2 (K.length + 1) (vs.take Ps.length ++ [.slice (some ⟨op,0,none⟩) st.2.length st.2.length]) (Ps ++ [ys]) := by rw [k3]; exact k2
      have c3 : Away A.length (K.length + 1) (vs.take Ps.length ++ [.slice (some ⟨op,0,none⟩) st.2.length st.2.length]) (Ps ++ [ys]) := by
        refine ⟨by omega,fun j hj => ?_⟩
        rw [g3] at hj
        have hvl := hinK.2.2.2.1
        rw [List.getD_eq_getElem?_getD,List.getElem?_append]
        have hl2 : (vs.take Ps.length).length = Ps.length := by simp; omega
        rw [hl2]
        split
        · rename_i hj2
          rw [List.getElem?_take,if_pos hj2,← List.getD_eq_getElem?_getD]
          exact haw.2 j hj2
        · have : j - Ps.length = 0 := by omega
          rw [this]
          refine .inr ?_
          show op ≠ A.length
          omega
      have c4 : H <+: K2 := prefix_of fun o z hz => k4 o z (by have := at_lt hz; have := hinK.1; omega) (pre_at hppK hz)
      refine ⟨m - 1,by omega,i + 1,K.length + 1,vs.take Ps.length ++ [.slice (some ⟨op,0,none⟩) st.2.length st.2.length],?_⟩
      rw [g1,g2,g3]
      (repeat' first | exact c1 | exact c2 | exact c3 | exact c4 | apply And.intro) <;> first | (simp only [Value.int.injEq,true_and]; omega) | omega | rfl | assumption | (simp; done) | (simp; omega)
end Go.Proofs.YtelafbennmclfaaGreat.Ai
namespace Go.Proofs.YtelafbennmclfaaGreat.Ai
open Go Go.RowKit
def without (xs ys : List Int) : List Int := xs.filter fun x => decide (¬ x ∈ ys)
theorem setW_srt (s0 : List Bool) : ∀ k,(setW s0 k).Pairwise (· < ·)
  | 0 => List.Pairwise.nil
  | k + 1 => by
    simp only [setW]
    rw [List.pairwise_append]
    refine ⟨setW_srt s0 k,by split <;> simp,fun a ha b hb => ?_⟩
    have := (setW_mem s0 k a).1 ha
    split at hb
    · simp at hb
    · simp only [List.mem_cons,List.not_mem_nil,or_false] at hb
      omega
theorem setW_all (N : Nat) : setW (seen0 N (-1)) N = alls N := by
  refine srt_ext (setW_srt _ _) (alls_srt N) fun z => ?_
  rw [setW_mem,alls_mem]
  constructor
  · rintro ⟨h1,h2,_⟩; exact ⟨h1,h2⟩
  · rintro ⟨h1,h2⟩
    refine ⟨h1,h2,?_⟩
    unfold seen0
    rw [if_neg (by omega),List.getD_eq_getElem?_getD,List.getElem?_replicate,if_pos (by omega)]
    decide
theorem roads_adj (n : Nat) (es : List (Int × Int)) (x : Nat) (hx : x < (roadsL n es).length) (y : Int) : y ∈ (roadsL n es).getD x [] ↔ ((0 ≤ y ∧ y < (roadsL n es).length) ∧ nearB es x y = true) := by
  rw [roadsL_len] at hx ⊢
  rw [roadsL_at n es x hx,nbsU_mem]
theorem roads_parts (n : Nat) (es : List (Int × Int)) : partsL (roadsL n es) (-1) = piecesL es (alls n) := by
  rw [parts_pieces (es := es) (roads_adj n es),roadsL_len,setW_all]
theorem pieces_le (es : List (Int × Int)) (set : List Int) (hl : ∀ y ∈ set,0 ≤ y ∧ y < 8) : (piecesL es set).length ≤ set.length := by
  have := (pcK_Sm es set hl set ([],[]) hl Sm.nil).2
  simpa [piecesL,pcK] using this
theorem alls_sm {n : Nat} (h : n ≤ 8) : ∀ y ∈ alls n,0 ≤ y ∧ y < 8 := fun y hy => by have := (alls_mem n y).1 hy; omega
theorem end_cell3 (P : Program) (a b c : Nat) (t : TypeId) (R : Value → AH → Prop) (s : Sl) (H : AH) (v w x : Value) (h : loadA P t (s a) H = some v) (ht : isTup v = false) (hb : s b = w) (hw : isTup w = false) (hc : s c = x) (hx : isTup x = false) (hr : R (.tuple (List.toArray [v,w,x])) H) : endA P [.cell a t,.tmp b,.tmp c] R .ret s H := by
  subst hb
  subst hc
  simp only [endA,resA,h,ht]
  simp [hw,hx,outA]
  exact hr
end Go.Proofs.YtelafbennmclfaaGreat.Ai
