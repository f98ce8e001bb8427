/- Texts of this claim, joined: Tok, Mvs, Spd, Drc, Drp, Drs, Stp, Sld. -/
import Derived.Test.YtelafbennmclfaaGreatProg
import Derived.KernelRfl
import Derived.Test.YtelafbennmclfaaGreatMgLawSlw4
set_option linter.unusedVariables false
set_option linter.unusedSimpArgs false
namespace Go.Proofs.YtelafbennmclfaaGreat.Ai
open Go
def ords62 : List (Nat × List (Nat × Bool)) := []
def cd62 : Cd := (.seq (.reg [⟨⟨some 2,Op.box 26 (Operand.tmp 0),none⟩,[]⟩,
  ⟨⟨some 4,Op.assign (Operand.const (Value.bool false)),none⟩,[]⟩]) (.seq (.reg [⟨⟨some 5,Op.load 26 (Operand.tmp 2),none⟩,[]⟩,
  ⟨⟨some 6,Op.call { callee := (Callee.value (Operand.func 73)),args := #[(Operand.tmp 5)],argTypes := #[26] },none⟩,[]⟩,
  ⟨⟨some 7,Op.move (Operand.tmp 6),none⟩,[]⟩,
  ⟨⟨some 8,Op.move (Operand.tmp 1),some (7,true)⟩,[]⟩,
  ⟨⟨some 9,Op.call { callee := (Callee.value (Operand.func 86)),args := #[(Operand.tmp 8)],argTypes := #[27] },some (7,true)⟩,[]⟩,
  ⟨⟨some 10,Op.pick (Operand.tmp 7) (Operand.tmp 9) (Operand.const (Value.bool false)),none⟩,[]⟩,
  ⟨⟨some 11,Op.move (Operand.tmp 10),none⟩,[]⟩,
  ⟨⟨some 12,Op.move (Operand.tmp 1),some (11,true)⟩,[]⟩,
  ⟨⟨some 13,Op.call { callee := (Callee.builtin Builtin.len),args := #[(Operand.tmp 12)],argTypes := #[27] },some (11,true)⟩,[]⟩,
  ⟨⟨some 14,Op.fieldAddr 26 (Operand.tmp 2) 0,some (11,true)⟩,[]⟩,
  ⟨⟨some 15,Op.load 3 (Operand.tmp 14),some (11,true)⟩,[]⟩,
  ⟨⟨some 16,Op.binOp BinOp.eql 3 (Operand.tmp 13) (Operand.tmp 15) 3,some (11,true)⟩,[]⟩,
  ⟨⟨some 17,Op.pick (Operand.tmp 11) (Operand.tmp 16) (Operand.const (Value.bool false)),none⟩,[]⟩,
  ⟨⟨some 4,Op.assign (Operand.tmp 17),none⟩,[]⟩]) .ret))
theorem sl62 : slim Tryz.f62.ntmps ords62 (Tryz.f62.body.getD .skip) = some cd62 := by kernel_rfl
theorem in62 {args : List Value} {H : AH} {R : Value → AH → Prop} (hl : args.length = 2) (h : ∀ (Q : Exit → Sl → AH → Prop),(∀ e s H,endA Tryz.prog [ResultVar.tmp 4] R e s H → Q e s H) → wpC Tryz.prog cd62 Q (enterA args) H) : ACalls Tryz.prog 62 args H R :=
  ACalls.intro (by kernel_rfl) Tryz.func62 rfl (by kernel_rfl) sl62 hl (of_decide_eq_true (by kernel_rfl)) (by kernel_rfl) h
def ords35 : List (Nat × List (Nat × Bool)) := []
def cd35 : Cd := (.seq (.reg [⟨⟨some 2,Op.box 26 (Operand.tmp 0),none⟩,[]⟩,
  ⟨⟨some 4,Op.assign (Operand.const (Value.bool false)),none⟩,[]⟩]) (.seq (.reg [⟨⟨some 5,Op.load 26 (Operand.tmp 2),none⟩,[]⟩,
  ⟨⟨some 6,Op.move (Operand.tmp 1),none⟩,[]⟩,
  ⟨⟨some 7,Op.call { callee := (Callee.value (Operand.func 62)),args := #[(Operand.tmp 5),(Operand.tmp 6)],argTypes := #[26,27] },none⟩,[]⟩,
  ⟨⟨some 8,Op.move (Operand.tmp 7),none⟩,[]⟩,
  ⟨⟨some 9,Op.fieldAddr 26 (Operand.tmp 2) 0,some (8,true)⟩,[]⟩,
  ⟨⟨some 10,Op.load 3 (Operand.tmp 9),some (8,true)⟩,[]⟩,
  ⟨⟨some 11,Op.call { callee := (Callee.value (Operand.func 90)),args := #[(Operand.tmp 10),(Operand.const (Value.int IntKind.i64 1)),(Operand.const (Value.int IntKind.i64 6))],argTypes := #[3,3,3] },some (8,true)⟩,[]⟩,
  ⟨⟨some 12,Op.pick (Operand.tmp 8) (Operand.tmp 11) (Operand.const (Value.bool false)),none⟩,[]⟩,
  ⟨⟨some 4,Op.assign (Operand.tmp 12),none⟩,[]⟩]) .ret))
theorem sl35 : slim Tryz.f35.ntmps ords35 (Tryz.f35.body.getD .skip) = some cd35 := by kernel_rfl
theorem in35 {args : List Value} {H : AH} {R : Value → AH → Prop} (hl : args.length = 2) (h : ∀ (Q : Exit → Sl → AH → Prop),(∀ e s H,endA Tryz.prog [ResultVar.tmp 4] R e s H → Q e s H) → wpC Tryz.prog cd35 Q (enterA args) H) : ACalls Tryz.prog 35 args H R :=
  ACalls.intro (by kernel_rfl) Tryz.func35 rfl (by kernel_rfl) sl35 hl (of_decide_eq_true (by kernel_rfl)) (by kernel_rfl) h
def ords65 : List (Nat × List (Nat × Bool)) := []
def cd65 : Cd := (.seq (.reg [⟨⟨some 2,Op.box 26 (Operand.tmp 0),none⟩,[]⟩,
  ⟨⟨some 4,Op.assign (Operand.const (Value.bool false)),none⟩,[]⟩]) (.seq (.reg [⟨⟨some 5,Op.load 26 (Operand.tmp 2),none⟩,[]⟩,
  ⟨⟨some 6,Op.call { callee := (Callee.value (Operand.func 69)),args := #[(Operand.tmp 5)],argTypes := #[26] },none⟩,[]⟩,
  ⟨⟨some 7,Op.move (Operand.tmp 6),none⟩,[]⟩,
  ⟨⟨some 8,Op.fieldAddr 26 (Operand.tmp 2) 0,some (7,true)⟩,[]⟩,
  ⟨⟨some 9,Op.load 3 (Operand.tmp 8),some (7,true)⟩,[]⟩,
  ⟨⟨some 10,Op.binOp BinOp.leq 3 (Operand.tmp 9) (Operand.const (Value.int IntKind.i64 6)) 3,some (7,true)⟩,[]⟩,
  ⟨⟨some 11,Op.pick (Operand.tmp 7) (Operand.tmp 10) (Operand.const (Value.bool false)),none⟩,[]⟩,
  ⟨⟨some 12,Op.move (Operand.tmp 11),none⟩,[]⟩,
  ⟨⟨some 13,Op.move (Operand.tmp 1),some (12,true)⟩,[]⟩,
  ⟨⟨some 14,Op.call { callee := (Callee.builtin Builtin.len),args := #[(Operand.tmp 13)],argTypes := #[27] },some (12,true)⟩,[]⟩,
  ⟨⟨some 15,Op.fieldAddr 26 (Operand.tmp 2) 0,some (12,true)⟩,[]⟩,
  ⟨⟨some 16,Op.load 3 (Operand.tmp 15),some (12,true)⟩,[]⟩,
  ⟨⟨some 17,Op.binOp BinOp.eql 3 (Operand.tmp 14) (Operand.tmp 16) 3,some (12,true)⟩,[]⟩,
  ⟨⟨some 18,Op.pick (Operand.tmp 12) (Operand.tmp 17) (Operand.const (Value.bool false)),none⟩,[]⟩,
  ⟨⟨some 19,Op.move (Operand.tmp 18),none⟩,[]⟩,
  ⟨⟨some 20,Op.move (Operand.tmp 1),some (19,true)⟩,[]⟩,
  ⟨⟨some 21,Op.call { callee := (Callee.value (Operand.func 70)),args := #[(Operand.tmp 20)],argTypes := #[27] },some (19,true)⟩,[]⟩,
  ⟨⟨some 22,Op.pick (Operand.tmp 19) (Operand.tmp 21) (Operand.const (Value.bool false)),none⟩,[]⟩,
  ⟨⟨some 4,Op.assign (Operand.tmp 22),none⟩,[]⟩]) .ret))
theorem sl65 : slim Tryz.f65.ntmps ords65 (Tryz.f65.body.getD .skip) = some cd65 := by kernel_rfl
theorem in65 {args : List Value} {H : AH} {R : Value → AH → Prop} (hl : args.length = 2) (h : ∀ (Q : Exit → Sl → AH → Prop),(∀ e s H,endA Tryz.prog [ResultVar.tmp 4] R e s H → Q e s H) → wpC Tryz.prog cd65 Q (enterA args) H) : ACalls Tryz.prog 65 args H R :=
  ACalls.intro (by kernel_rfl) Tryz.func65 rfl (by kernel_rfl) sl65 hl (of_decide_eq_true (by kernel_rfl)) (by kernel_rfl) h
def ords42 : List (Nat × List (Nat × Bool)) := []
def cd42 : Cd := (.seq (.reg [⟨⟨some 2,Op.box 26 (Operand.tmp 0),none⟩,[]⟩,
  ⟨⟨some 4,Op.assign (Operand.const (Value.bool false)),none⟩,[]⟩]) (.seq (.reg [⟨⟨some 5,Op.load 26 (Operand.tmp 2),none⟩,[]⟩,
  ⟨⟨some 6,Op.move (Operand.tmp 1),none⟩,[]⟩,
  ⟨⟨some 7,Op.call { callee := (Callee.value (Operand.func 65)),args := #[(Operand.tmp 5),(Operand.tmp 6)],argTypes := #[26,27] },none⟩,[]⟩,
  ⟨⟨some 8,Op.move (Operand.tmp 7),none⟩,[]⟩,
  ⟨⟨some 9,Op.fieldAddr 26 (Operand.tmp 2) 0,some (8,true)⟩,[]⟩,
  ⟨⟨some 10,Op.load 3 (Operand.tmp 9),some (8,true)⟩,[]⟩,
  ⟨⟨some 11,Op.binOp BinOp.gtr 3 (Operand.tmp 10) (Operand.const (Value.int IntKind.i64 0)) 3,some (8,true)⟩,[]⟩,
  ⟨⟨some 12,Op.pick (Operand.tmp 8) (Operand.tmp 11) (Operand.const (Value.bool false)),none⟩,[]⟩,
  ⟨⟨some 4,Op.assign (Operand.tmp 12),none⟩,[]⟩]) .ret))
theorem sl42 : slim Tryz.f42.ntmps ords42 (Tryz.f42.body.getD .skip) = some cd42 := by kernel_rfl
theorem in42 {args : List Value} {H : AH} {R : Value → AH → Prop} (hl : args.length = 2) (h : ∀ (Q : Exit → Sl → AH → Prop),(∀ e s H,endA Tryz.prog [ResultVar.tmp 4] R e s H → Q e s H) → wpC Tryz.prog cd42 Q (enterA args) H) : ACalls Tryz.prog 42 args H R :=
  ACalls.intro (by kernel_rfl) Tryz.func42 rfl (by kernel_rfl) sl42 hl (of_decide_eq_true (by kernel_rfl)) (by kernel_rfl) h
def ords39 : List (Nat × List (Nat × Bool)) := []
def cd39 : Cd := (.seq (.reg [⟨⟨some 2,Op.box 26 (Operand.tmp 0),none⟩,[]⟩,
  ⟨⟨some 4,Op.assign (Operand.const (Value.slice none 0 0)),none⟩,[]⟩,
  ⟨⟨some 5,Op.assign (Operand.const (Value.slice none 0 0)),none⟩,[]⟩]) (.seq (.reg [⟨⟨some 11,Op.move (Operand.tmp 1),none⟩,[]⟩,
  ⟨⟨some 12,Op.call { callee := (Callee.value (Operand.func 56)),args := #[(Operand.tmp 11),(Operand.const (Value.int IntKind.i64 0))],argTypes := #[27,3] },none⟩,[]⟩,
  ⟨⟨some 6,Op.assign (Operand.tmp 12),none⟩,[]⟩]) (.seq (.reg [⟨⟨some 13,Op.buildSlice 43 0 #[],none⟩,[]⟩,
  ⟨⟨some 14,Op.load 26 (Operand.tmp 2),none⟩,[]⟩,
  ⟨⟨some 15,Op.move (Operand.tmp 6),none⟩,[]⟩,
  ⟨⟨some 16,Op.call { callee := (Callee.value (Operand.func 91)),args := #[(Operand.tmp 14),(Operand.tmp 15)],argTypes := #[26,3] },none⟩,[]⟩,
  ⟨⟨some 7,Op.assign (Operand.tmp 13),none⟩,[]⟩,
  ⟨⟨some 8,Op.assign (Operand.tmp 16),none⟩,[]⟩]) (.seq (.seq (.reg [⟨⟨some 17,Op.move (Operand.tmp 8),none⟩,[]⟩,
  ⟨⟨some 18,Op.call { callee := (Callee.builtin Builtin.len),args := #[(Operand.tmp 17)],argTypes := #[27] },none⟩,[]⟩,
  ⟨⟨some 19,Op.move (Operand.const (Value.int IntKind.i64 0)),none⟩,[]⟩]) (.block 0 (.loop (.seq (.reg [⟨⟨some 20,Op.binOp BinOp.lss 3 (Operand.tmp 19) (Operand.tmp 18) 3,none⟩,[]⟩]) (.seq (.cond (Operand.tmp 20) .skip (.exit 0)) (.seq (.block 1 (.seq (.reg [⟨⟨some 21,Op.indexAddr 27 (Operand.tmp 17) (Operand.tmp 19),none⟩,[]⟩,
  ⟨⟨some 22,Op.load 3 (Operand.tmp 21),none⟩,[]⟩,
  ⟨⟨some 10,Op.assign (Operand.tmp 22),none⟩,[]⟩]) (.reg [⟨⟨some 23,Op.move (Operand.tmp 7),none⟩,[]⟩,
  ⟨⟨some 24,Op.move (Operand.tmp 1),none⟩,[]⟩,
  ⟨⟨some 25,Op.move (Operand.tmp 10),none⟩,[]⟩,
  ⟨⟨some 26,Op.move (Operand.tmp 6),none⟩,[]⟩,
  ⟨⟨some 27,Op.build 53 #[(0,(Operand.tmp 25)),(1,(Operand.tmp 26))],none⟩,[]⟩,
  ⟨⟨some 28,Op.call { callee := (Callee.value (Operand.func 87)),args := #[(Operand.tmp 24),(Operand.tmp 27)],argTypes := #[27,53] },none⟩,[]⟩,
  ⟨⟨some 29,Op.buildSlice 43 1 #[(0,(Operand.tmp 28))],none⟩,[]⟩,
  ⟨⟨some 30,Op.call { callee := (Callee.builtin Builtin.append),args := #[(Operand.tmp 23),(Operand.tmp 29)],argTypes := #[43,43] },none⟩,[]⟩,
  ⟨⟨some 7,Op.assign (Operand.tmp 30),none⟩,[]⟩]))) (.reg [⟨⟨some 31,Op.binOp BinOp.add 3 (Operand.tmp 19) (Operand.const (Value.int IntKind.i64 1)) 3,none⟩,[]⟩,
  ⟨⟨some 19,Op.move (Operand.tmp 31),none⟩,[]⟩]))))))) (.seq (.reg [⟨⟨some 32,Op.move (Operand.tmp 7),none⟩,[]⟩,
  ⟨⟨some 33,Op.move (Operand.tmp 8),none⟩,[]⟩,
  ⟨⟨some 4,Op.assign (Operand.tmp 32),none⟩,[]⟩,
  ⟨⟨some 5,Op.assign (Operand.tmp 33),none⟩,[]⟩]) .ret)))))
theorem sl39 : slim Tryz.f39.ntmps ords39 (Tryz.f39.body.getD .skip) = some cd39 := by kernel_rfl
theorem in39 {args : List Value} {H : AH} {R : Value → AH → Prop} (hl : args.length = 2) (h : ∀ (Q : Exit → Sl → AH → Prop),(∀ e s H,endA Tryz.prog [ResultVar.tmp 4,ResultVar.tmp 5] R e s H → Q e s H) → wpC Tryz.prog cd39 Q (enterA args) H) : ACalls Tryz.prog 39 args H R :=
  ACalls.intro (by kernel_rfl) Tryz.func39 rfl (by kernel_rfl) sl39 hl (of_decide_eq_true (by kernel_rfl)) (by kernel_rfl) h
end Go.Proofs.YtelafbennmclfaaGreat.Ai
namespace Go.Proofs.YtelafbennmclfaaGreat.Ai
open Go Go.RowKit
def Tkn (n : Int) (es : List (Int × Int)) (p : List Int) : Prop := (Grd n es ∧ Prm p) ∧ (p.length : Int) = n
instance (n : Int) (es : List (Int × Int)) (p : List Int) : Decidable (Tkn n es p) := by unfold Tkn; infer_instance
def Brd (n : Int) (es : List (Int × Int)) (p : List Int) : Prop := Tkn n es p ∧ (1 ≤ n ∧ n ≤ 6)
instance (n : Int) (es : List (Int × Int)) (p : List Int) : Decidable (Brd n es p) := by unfold Brd; infer_instance
def Fld (n : Int) (es : List (Int × Int)) (p : List Int) : Prop := Tkn n es p ∧ n ≤ 6
instance (n : Int) (es : List (Int × Int)) (p : List Int) : Decidable (Fld n es p) := by unfold Fld; infer_instance
theorem isTokens_c (n : Int) (v w : Value) (es : List (Int × Int)) (p : List Int) (H : AH) (hr : RowP 53 H v es) (hlen : es.length ≤ 1099511627776) (hx : Row 3 H w p) (hlp : p.length ≤ 1099511627776) (hxs : ∀ y ∈ p,I64 y) :
    ACalls Tryz.prog 62 [.agg (List.toArray [.int .i64 n,v]),w] H fun r H' => r = .bool (decide (Tkn n es p)) ∧ H <+: H' := by
  refine in62 rfl ?_
  intro Q hQ
  simp (maxSteps := 1000000) (disch := omega) only [cd62,hr.boxG,SS,eq_self,reduceIte,reduceCtorEq,Nat.reduceEqDiff,Nat.reduceAdd]
  generalize hA : H ++ [AObj.cells [.int .i64 n,v] 26 false] = A
  have pA : H <+: A := by rw [← hA]; exact List.prefix_append _ _
  have cA : A[H.length]? = some (.cells [.int .i64 n,v] 26 false) := by rw [← hA]; exact at_new ..
  have rA := hr.pre pA
  simp (maxSteps := 1000000) (disch := omega) only [ld_agg ag26 cs26 cA,SS,eq_self,reduceIte,reduceCtorEq,Nat.reduceEqDiff,Nat.reduceAdd]
  refine CallH.by (IsGraph_c n v es A rA hlen) ?_
  rintro _ B ⟨rfl,pB⟩
  have cB := pre_at pB cA
  have pHB := pA.trans pB
  simp (maxSteps := 1000000) (disch := omega) only [SS,eq_self,reduceIte,reduceCtorEq,Nat.reduceEqDiff,Nat.reduceAdd]
  refine brD.intro (fun e => ?_) (fun e => ?_) <;> simp (maxSteps := 1000000) (disch := omega) only [e,SS,eq_self,reduceIte,reduceCtorEq,Nat.reduceEqDiff,Nat.reduceAdd]
  · refine CallH.by (PermI_c w p B (hx.pre pHB) hlp hxs) ?_
    rintro _ C ⟨rfl,pC⟩
    have cC := pre_at pC cB
    have pHC := pHB.trans pC
    simp (maxSteps := 1000000) (disch := omega) only [e,SS,eq_self,reduceIte,reduceCtorEq,Nat.reduceEqDiff,Nat.reduceAdd]
    refine brD.intro (fun e2 => ?_) (fun e2 => ?_) <;> simp (maxSteps := 1000000) (disch := omega) only [e,e2,(hx.pre pHC).len Tryz.underlying27,cell_of cC,SS,eq_self,reduceIte,reduceCtorEq,Nat.reduceEqDiff,Nat.reduceAdd]
    · refine hQ _ _ _ ?_
      simp (maxSteps := 1000000) (disch := omega) only [e,e2,SS,eq_self,reduceIte,reduceCtorEq,Nat.reduceEqDiff,Nat.reduceAdd]
      exact ⟨by simp [Tkn,e,e2],pHC⟩
    · refine hQ _ _ _ ?_
      simp (maxSteps := 1000000) (disch := omega) only [e,e2,SS,eq_self,reduceIte,reduceCtorEq,Nat.reduceEqDiff,Nat.reduceAdd]
      exact ⟨by simp [Tkn,e2],pHC⟩
  · refine hQ _ _ _ ?_
    simp (maxSteps := 1000000) (disch := omega) only [e,SS,eq_self,reduceIte,reduceCtorEq,Nat.reduceEqDiff,Nat.reduceAdd]
    exact ⟨by simp [Tkn,e],pHB⟩
theorem isBoard_c (n : Int) (v w : Value) (es : List (Int × Int)) (p : List Int) (H : AH) (hr : RowP 53 H v es) (hlen : es.length ≤ 1099511627776) (hx : Row 3 H w p) (hlp : p.length ≤ 1099511627776) (hxs : ∀ y ∈ p,I64 y) :
    ACalls Tryz.prog 35 [.agg (List.toArray [.int .i64 n,v]),w] H fun r H' => r = .bool (decide (Brd n es p)) ∧ H <+: H' := by
  refine in35 rfl ?_
  intro Q hQ
  simp (maxSteps := 1000000) (disch := omega) only [cd35,hr.boxG,SS,eq_self,reduceIte,reduceCtorEq,Nat.reduceEqDiff,Nat.reduceAdd]
  generalize hA : H ++ [AObj.cells [.int .i64 n,v] 26 false] = A
  have pA : H <+: A := by rw [← hA]; exact List.prefix_append _ _
  have cA : A[H.length]? = some (.cells [.int .i64 n,v] 26 false) := by rw [← hA]; exact at_new ..
  have rA := hr.pre pA
  simp (maxSteps := 1000000) (disch := omega) only [ld_agg ag26 cs26 cA,SS,eq_self,reduceIte,reduceCtorEq,Nat.reduceEqDiff,Nat.reduceAdd]
  refine CallH.by (isTokens_c n v w es p A rA hlen (hx.pre pA) hlp hxs) ?_
  rintro _ B ⟨rfl,pB⟩
  have cB := pre_at pB cA
  have pHB := pA.trans pB
  simp (maxSteps := 1000000) (disch := omega) only [SS,eq_self,reduceIte,reduceCtorEq,Nat.reduceEqDiff,Nat.reduceAdd]
  refine brD.intro (fun e => ?_) (fun e => ?_) <;> simp (maxSteps := 1000000) (disch := omega) only [e,cell_of cB,SS,eq_self,reduceIte,reduceCtorEq,Nat.reduceEqDiff,Nat.reduceAdd]
  · refine CallH.by (between_c _ _ _ B) ?_
    rintro _ _ ⟨rfl,rfl⟩
    simp (maxSteps := 1000000) (disch := omega) only [e,SS,eq_self,reduceIte,reduceCtorEq,Nat.reduceEqDiff,Nat.reduceAdd]
    refine hQ _ _ _ ?_
    simp (maxSteps := 1000000) (disch := omega) only [e,SS,eq_self,reduceIte,reduceCtorEq,Nat.reduceEqDiff,Nat.reduceAdd]
    exact ⟨by simp [Brd,e],pHB⟩
  · refine hQ _ _ _ ?_
    simp (maxSteps := 1000000) (disch := omega) only [e,SS,eq_self,reduceIte,reduceCtorEq,Nat.reduceEqDiff,Nat.reduceAdd]
    exact ⟨by simp [Brd,e],pHB⟩
theorem l9Field_c (n : Int) (v w : Value) (es : List (Int × Int)) (p : List Int) (H : AH) (hr : RowP 53 H v es) (hlen : es.length ≤ 1099511627776) (hx : Row 3 H w p) (hlp : p.length ≤ 1099511627776) :
    ACalls Tryz.prog 65 [.agg (List.toArray [.int .i64 n,v]),w] H fun r H' => r = .bool (decide (Fld n es p)) ∧ H <+: H' := by
  refine in65 rfl ?_
  intro Q hQ
  simp (maxSteps := 1000000) (disch := omega) only [cd65,hr.boxG,SS,eq_self,reduceIte,reduceCtorEq,Nat.reduceEqDiff,Nat.reduceAdd]
  generalize hA : H ++ [AObj.cells [.int .i64 n,v] 26 false] = A
  have pA : H <+: A := by rw [← hA]; exact List.prefix_append _ _
  have cA : A[H.length]? = some (.cells [.int .i64 n,v] 26 false) := by rw [← hA]; exact at_new ..
  have rA := hr.pre pA
  simp (maxSteps := 1000000) (disch := omega) only [ld_agg ag26 cs26 cA,SS,eq_self,reduceIte,reduceCtorEq,Nat.reduceEqDiff,Nat.reduceAdd]
  refine CallH.by (l2Good_c n v es A rA hlen) ?_
  rintro _ B ⟨rfl,pB⟩
  have cB := pre_at pB cA
  have pHB := pA.trans pB
  simp (maxSteps := 1000000) (disch := omega) only [SS,eq_self,reduceIte,reduceCtorEq,Nat.reduceEqDiff,Nat.reduceAdd]
  refine brD.intro (fun e => ?_) (fun e => ?_) <;> simp (maxSteps := 1000000) (disch := omega) only [e,cell_of cB,SS,eq_self,reduceIte,reduceCtorEq,Nat.reduceEqDiff,Nat.reduceAdd]
  · refine brD.intro (fun e2 => ?_) (fun e2 => ?_) <;> simp (maxSteps := 1000000) (disch := omega) only [e,e2,(hx.pre pHB).len Tryz.underlying27,cell_of cB,SS,eq_self,reduceIte,reduceCtorEq,Nat.reduceEqDiff,Nat.reduceAdd]
    · refine brD.intro (fun e3 => ?_) (fun e3 => ?_) <;> simp (maxSteps := 1000000) (disch := omega) only [e,e2,e3,SS,eq_self,reduceIte,reduceCtorEq,Nat.reduceEqDiff,Nat.reduceAdd]
      · refine CallH.by (l9Perm_c w p B (hx.pre pHB) hlp) ?_
        rintro _ _ ⟨rfl,rfl⟩
        simp (maxSteps := 1000000) (disch := omega) only [e,e2,e3,SS,eq_self,reduceIte,reduceCtorEq,Nat.reduceEqDiff,Nat.reduceAdd]
        refine hQ _ _ _ ?_
        simp (maxSteps := 1000000) (disch := omega) only [e,e2,e3,SS,eq_self,reduceIte,reduceCtorEq,Nat.reduceEqDiff,Nat.reduceAdd]
        exact ⟨by simp [Fld,Tkn,e,e2,e3],pHB⟩
      · refine hQ _ _ _ ?_
        simp (maxSteps := 1000000) (disch := omega) only [e,e2,e3,SS,eq_self,reduceIte,reduceCtorEq,Nat.reduceEqDiff,Nat.reduceAdd]
        exact ⟨by simp [Fld,Tkn,e,e2,e3],pHB⟩
    · refine hQ _ _ _ ?_
      simp (maxSteps := 1000000) (disch := omega) only [e,e2,SS,eq_self,reduceIte,reduceCtorEq,Nat.reduceEqDiff,Nat.reduceAdd]
      exact ⟨by simp [Fld,Tkn,e,e2],pHB⟩
  · refine hQ _ _ _ ?_
    simp (maxSteps := 1000000) (disch := omega) only [e,SS,eq_self,reduceIte,reduceCtorEq,Nat.reduceEqDiff,Nat.reduceAdd]
    exact ⟨by simp [Fld,Tkn,e],pHB⟩
theorem l9Board_c (n : Int) (v w : Value) (es : List (Int × Int)) (p : List Int) (H : AH) (hr : RowP 53 H v es) (hlen : es.length ≤ 1099511627776) (hx : Row 3 H w p) (hlp : p.length ≤ 1099511627776) :
    ACalls Tryz.prog 42 [.agg (List.toArray [.int .i64 n,v]),w] H fun r H' => r = .bool (decide (Brd n es p)) ∧ H <+: H' := by
  refine in42 rfl ?_
  intro Q hQ
  simp (maxSteps := 1000000) (disch := omega) only [cd42,hr.boxG,SS,eq_self,reduceIte,reduceCtorEq,Nat.reduceEqDiff,Nat.reduceAdd]
  generalize hA : H ++ [AObj.cells [.int .i64 n,v] 26 false] = A
  have pA : H <+: A := by rw [← hA]; exact List.prefix_append _ _
  have cA : A[H.length]? = some (.cells [.int .i64 n,v] 26 false) := by rw [← hA]; exact at_new ..
  have rA := hr.pre pA
  simp (maxSteps := 1000000) (disch := omega) only [ld_agg ag26 cs26 cA,SS,eq_self,reduceIte,reduceCtorEq,Nat.reduceEqDiff,Nat.reduceAdd]
  refine CallH.by (l9Field_c n v w es p A rA hlen (hx.pre pA) hlp) ?_
  rintro _ B ⟨rfl,pB⟩
  have cB := pre_at pB cA
  have pHB := pA.trans pB
  simp (maxSteps := 1000000) (disch := omega) only [SS,eq_self,reduceIte,reduceCtorEq,Nat.reduceEqDiff,Nat.reduceAdd]
  refine brD.intro (fun e => ?_) (fun e => ?_) <;> simp (maxSteps := 1000000) (disch := omega) only [e,cell_of cB,SS,eq_self,reduceIte,reduceCtorEq,Nat.reduceEqDiff,Nat.reduceAdd]
  · refine hQ _ _ _ ?_
    simp (maxSteps := 1000000) (disch := omega) only [e,SS,eq_self,reduceIte,reduceCtorEq,Nat.reduceEqDiff,Nat.reduceAdd]
    refine ⟨?_,pHB⟩
    rw [Value.bool.injEq,decide_eq_decide]
    unfold Fld at e
    unfold Brd
    constructor
    · intro h; exact ⟨e.1,by omega⟩
    · intro h; omega
  · refine hQ _ _ _ ?_
    simp (maxSteps := 1000000) (disch := omega) only [e,SS,eq_self,reduceIte,reduceCtorEq,Nat.reduceEqDiff,Nat.reduceAdd]
    refine ⟨?_,pHB⟩
    rw [Value.bool.injEq,eq_comm,decide_eq_false_iff_not]
    exact fun h => e ⟨h.1,h.2.2⟩
theorem swp_comm (p : List Int) (a b : Nat) (h : a ≠ b) : swp p a b = swp p b a := by
  unfold swp
  rw [List.set_comm _ _ h]
def brds (p : List Int) (nb : List Int) (h : Nat) : List (List Int) := nb.map fun x => swp p x.toNat h
set_option maxRecDepth 20000 in
set_option maxHeartbeats 4000000 in
theorem slides_c (n : Int) (v w : Value) (es : List (Int × Int)) (p : List Int) (H : AH) (hr : RowP 53 H v es) (hlen : es.length ≤ 1099511627776) (hx : Row 3 H w p) (hg : Grd n es) (hp : (p.length : Int) = n) (h : Nat) (hh : ax p 0 = h) (hm : h < p.length) :
    ACalls Tryz.prog 39 [.agg (List.toArray [.int .i64 n,v]),w] H fun r H' => ∃ L nd,r = .tuple (List.toArray [L,nd]) ∧ InL H.length H'.length 27 3 H' L (brds p (nbsU es h n.toNat) h) ∧ Row 3 H' nd (nbsU es h n.toNat) ∧ H <+: H' := by
  have hn := hg.1
  refine in39 rfl ?_
  intro Q hQ
  simp (maxSteps := 1000000) (disch := omega) only [cd39,hr.boxG,SS,eq_self,reduceIte,reduceCtorEq,Nat.reduceEqDiff,Nat.reduceAdd]
  generalize hA : H ++ [AObj.cells [.int .i64 n,v] 26 false] = A
  have pA : H <+: A := by rw [← hA]; exact List.prefix_append _ _
  have cA : A[H.length]? = some (.cells [.int .i64 n,v] 26 false) := by rw [← hA]; exact at_new ..
  have rA := hr.pre pA
  try simp (maxSteps := 1000000) (disch := omega) only [SS,eq_self,reduceIte,reduceCtorEq,Nat.reduceEqDiff,Nat.reduceAdd]
  refine CallH.by (Index_c w p 0 A (hx.pre pA) (by omega)) ?_
  rintro _ _ ⟨rfl,rfl⟩
  have hh' : idxP (fun y => decide (0 = y)) p 0 = (h : Int) := hh
  rw [hh']
  simp (maxSteps := 1000000) (disch := omega) only [ld_agg ag26 cs26 (at_app cA _),SS,eq_self,reduceIte,reduceCtorEq,Nat.reduceEqDiff,Nat.reduceAdd]
  generalize hB : A ++ [AObj.cells [] 27 false] = B
  have pB : A <+: B := by rw [← hB]; exact List.prefix_append _ _
  have lB : B.length = A.length + 1 := by rw [← hB]; simp
  have cB : B[A.length]? = some (.cells [] 27 false) := by rw [← hB]; exact at_new ..
  refine CallH.by (neighbors_c n v es h B (rA.pre pB) hlen hg) ?_
  rintro nd C ⟨hnd,pC⟩
  have hnl := nbsU_len es h n.toNat
  simp (maxSteps := 1000000) (disch := omega) only [hnd.row.len Tryz.underlying27,SS,eq_self,reduceIte,reduceCtorEq,Nat.reduceEqDiff,Nat.reduceAdd]
  have hin0 : InU H.length C.length 27 3 C A.length [] [] :=
    ⟨pA.length_le,by have := pC.length_le; omega,pre_at pC cB,Nat.le_refl _,fun i hi => absurd hi (by simp),fun i j _ hi _ => absurd hi (by simp)⟩
  have hap0 : Apart nd (.slice (some ⟨A.length,0,none⟩) 0 0) := by
    rcases hnd with ⟨q,_⟩ | ⟨o,q,hq,_⟩
    · exact .inr (.inl q)
    · refine .inr (.inr ?_)
      rw [q]
      show o ≠ A.length
      omega
  have pHC := pA.trans (pB.trans pC)
  have hnr : rowO nd < C.length ∨ nd = .slice none 0 0 := by
    rcases hnd.row.nil with q | q
    · exact .inr q.1
    · exact .inl q
  have hmem : ∀ i,i < (nbsU es h n.toNat).length → 0 ≤ (nbsU es h n.toNat).getD i 0 ∧ (nbsU es h n.toNat).getD i 0 < n := fun i hi => by
    have := (nbsU_mem es h n.toNat _).1 (getD_mem hi)
    omega
  have hnd1 := hnd.row
  generalize hN : nbsU es h n.toNat = N at *
  refine LoopH.by (fun m s H' => ∃ i o us,m + i = N.length ∧ s 1 = w ∧ s 6 = .int .i64 (h : Int) ∧ s 7 = .slice (some ⟨o,0,none⟩) i i ∧ s 8 = nd ∧ s 17 = nd ∧ s 18 = .int .i64 (N.length : Int) ∧ s 19 = .int .i64 ((i : Nat) : Int) ∧ i ≤ N.length ∧ InU H.length H'.length 27 3 H' o us (brds p (N.take i) h) ∧ Row 3 H' nd N ∧ Apart nd (.slice (some ⟨o,0,none⟩) 0 0) ∧ C.length ≤ H'.length ∧ H <+: H') N.length ?_ ?_
  · exact ⟨0,A.length,[],by simp,rfl,rfl,rfl,rfl,rfl,rfl,rfl,by omega,by simpa [brds] using hin0,hnd1,hap0,Nat.le_refl _,pHC⟩
  · rintro m s H' ⟨i,o,us,hm',h1,h6,h7,h8,h17,h18,h19,hiN,hin,hrn,hap,hCl,hpp⟩
    simp (maxSteps := 1000000) (disch := omega) only [h1,h6,h7,h8,h17,h18,h19,SS,eq_self,reduceIte,reduceCtorEq,Nat.reduceEqDiff,Nat.reduceAdd]
    refine brD.intro (fun g => ?_) (fun g => ?_)
    · have hi : i < N.length := by omega
      have hx' := hx.pre hpp
      have hmi := hmem i hi
      have hst : brds p (N.take (i + 1)) h = brds p (N.take i) h ++ [swp p (N.getD i 0).toNat h] := by
        unfold brds
        rw [List.take_add_one,List.getElem?_eq_getElem hi,List.map_append]
        have : N.getD i 0 = N[i] := by simp [hi]
        rw [this]; rfl
      have hbl : (brds p (N.take i) h).length = i := by simp [brds]; omega
      obtain ⟨k,hk⟩ : ∃ k : Nat,N.getD i 0 = k := ⟨(N.getD i 0).toNat,by omega⟩
      rw [hk] at hmi hst
      have hcell := hrn.cell hi
      rw [hk] at hcell
      simp (maxSteps := 1000000) (disch := omega) only [h1,h6,h7,h8,h17,h18,h19,hrn.ix Tryz.underlying27 cs3,hcell,Int.toNat_natCast,build_a2,SS,eq_self,reduceIte,reduceCtorEq,Nat.reduceEqDiff,Nat.reduceAdd]
      refine CallH.by (swapped_c w p k h H' hx' (by omega) (by omega) hm) ?_
      rintro b D ⟨hb,pD⟩
      rw [Int.toNat_natCast] at hst
      have hinw := InI.of hb.mine
      obtain ⟨H3,k1,k2,k3,k4⟩ := (hin.pre pD).app1 (P := Tryz.prog) (t2 := 43) Tryz.underlying43 cs27 (by rw [by27]; decide) zk27 hinw hpp.length_le pD.length_le (Nat.le_refl _) (by omega)
      have hbs : buildSliceA Tryz.prog 43 1 [(0,b)] D = some (.slice (some ⟨D.length,0,none⟩) 1 1,D ++ [.cells [b] 27 false]) := by
        obtain ⟨q,eq⟩ := hb.row.shape
        rw [eq]
        exact bs1 Tryz.underlying43 cs27 ze27 ⟨by kernel_rfl,by kernel_rfl⟩ D rfl
      rw [hbl] at k1 k2
      simp (maxSteps := 1000000) (disch := omega) only [h1,h6,h7,h8,h17,h18,h19,hbs,k1,wrap64,SS,eq_self,reduceIte,reduceCtorEq,Nat.reduceEqDiff,Nat.reduceAdd]
      have ho := hin.1
      have f1 : H <+: H3 := prefix_of fun j x hx' => k4 j x (by have := at_lt hx'; omega) (pre_at (hpp.trans pD) hx')
      have f2 : InU H.length H3.length 27 3 H3 (D.length + 1) (us.take i ++ [b]) (brds p (N.take (i + 1)) h) := by
        rw [k3,hst]; exact k2
      have hkp : Kept (.slice (some ⟨o,0,none⟩) 0 0) D H3 := fun j y hj hy => by
        rcases hj with hj | hj
        · cases hj
        · exact k4 j y hj hy
      have f3 : Row 3 H3 nd N := (hrn.pre pD).kept hap hkp
      have hDl := pD.length_le
      have f4 : Apart nd (.slice (some ⟨D.length + 1,0,none⟩) 0 0) := by
        rcases hnr with q | q
        · exact .inr (.inr (by show rowO nd ≠ D.length + 1; omega))
        · exact .inr (.inl q)
      refine ⟨m - 1,by omega,i + 1,D.length + 1,us.take i ++ [b],by omega,?_⟩
      (repeat' first | exact f1 | exact f2 | exact f3 | exact f4 | apply And.intro) <;> first | (simp only [Value.int.injEq,true_and]; omega) | omega | rfl | assumption | (simp; done) | (simp; omega)
    · simp (maxSteps := 1000000) (disch := omega) only [h7,h8,SS,eq_self,reduceIte,reduceCtorEq,Nat.reduceEqDiff,Nat.reduceAdd]
      refine hQ _ _ _ ?_
      simp (maxSteps := 1000000) (disch := omega) only [h7,h8,hrn.tup,SS,eq_self,reduceIte,reduceCtorEq,Nat.reduceEqDiff,Nat.reduceAdd]
      have : i = N.length := by omega
      subst this
      rw [List.take_of_length_le (Nat.le_refl _)] at hin
      refine ⟨_,_,rfl,?_,hrn,hpp⟩
      have := hin.inl
      rwa [show (brds p N h).length = N.length by simp [brds]] at this
def ords37 : List (Nat × List (Nat × Bool)) := []
def cd37 : Cd := (.seq (.reg [⟨⟨some 2,Op.box 26 (Operand.tmp 0),none⟩,[]⟩,
  ⟨⟨some 4,Op.assign (Operand.const (Value.slice none 0 0)),none⟩,[]⟩]) (.seq (.reg [⟨⟨some 8,Op.load 26 (Operand.tmp 2),none⟩,[]⟩,
  ⟨⟨some 9,Op.move (Operand.tmp 1),none⟩,[]⟩,
  ⟨⟨some 10,Op.call { callee := (Callee.value (Operand.func 39)),args := #[(Operand.tmp 8),(Operand.tmp 9)],argTypes := #[26,27] },none⟩,[]⟩,
  ⟨⟨some 7,Op.move (Operand.tmp 10),none⟩,[]⟩,
  ⟨⟨some 11,Op.extract (Operand.tmp 7) 0,none⟩,[]⟩,
  ⟨⟨some 12,Op.extract (Operand.tmp 7) 1,none⟩,[]⟩,
  ⟨⟨some 5,Op.assign (Operand.tmp 11),none⟩,[]⟩,
  ⟨⟨some 6,Op.assign (Operand.tmp 12),none⟩,[]⟩]) (.seq (.reg [⟨⟨some 13,Op.move (Operand.tmp 5),none⟩,[]⟩,
  ⟨⟨some 4,Op.assign (Operand.tmp 13),none⟩,[]⟩]) .ret)))
theorem sl37 : slim Tryz.f37.ntmps ords37 (Tryz.f37.body.getD .skip) = some cd37 := by kernel_rfl
theorem in37 {args : List Value} {H : AH} {R : Value → AH → Prop} (hl : args.length = 2) (h : ∀ (Q : Exit → Sl → AH → Prop),(∀ e s H,endA Tryz.prog [ResultVar.tmp 4] R e s H → Q e s H) → wpC Tryz.prog cd37 Q (enterA args) H) : ACalls Tryz.prog 37 args H R :=
  ACalls.intro (by kernel_rfl) Tryz.func37 rfl (by kernel_rfl) sl37 hl (of_decide_eq_true (by kernel_rfl)) (by kernel_rfl) h
def ords89 : List (Nat × List (Nat × Bool)) := [(5,[(0,false),(1,false),(2,false),(3,false),(4,false),(5,false),(6,false),(7,false),(8,false),(9,false),(10,false),(11,false),(12,false),(13,false)])]
def cd89 : Cd := (.seq (.reg [⟨⟨some 3,Op.box 26 (Operand.tmp 0),none⟩,[]⟩,
  ⟨⟨some 6,Op.assign (Operand.const (Value.slice none 0 0)),none⟩,[]⟩,
  ⟨⟨some 7,Op.assign (Operand.const (Value.slice none 0 0)),none⟩,[]⟩]) (.seq (.reg [⟨⟨some 13,Op.buildSlice 43 0 #[],none⟩,[]⟩,
  ⟨⟨some 14,Op.buildSlice 24 0 #[],none⟩,[]⟩,
  ⟨⟨some 8,Op.assign (Operand.tmp 13),none⟩,[]⟩,
  ⟨⟨some 9,Op.assign (Operand.tmp 14),none⟩,[]⟩]) (.seq (.seq (.reg [⟨⟨some 10,Op.assign (Operand.const (Value.int IntKind.i64 0)),none⟩,[]⟩]) (.block 0 (.loop (.seq (.seq (.reg [⟨⟨some 15,Op.move (Operand.tmp 10),none⟩,[]⟩,
  ⟨⟨some 16,Op.fieldAddr 26 (Operand.tmp 3) 1,none⟩,[]⟩,
  ⟨⟨some 17,Op.load 24 (Operand.tmp 16),none⟩,[]⟩,
  ⟨⟨some 18,Op.call { callee := (Callee.builtin Builtin.len),args := #[(Operand.tmp 17)],argTypes := #[24] },none⟩,[]⟩,
  ⟨⟨some 19,Op.binOp BinOp.lss 3 (Operand.tmp 15) (Operand.tmp 18) 3,none⟩,[]⟩]) (.cond (Operand.tmp 19) .skip (.exit 0))) (.seq (.block 1 (.seq (.reg [⟨⟨some 22,Op.fieldAddr 26 (Operand.tmp 3) 1,none⟩,[]⟩,
  ⟨⟨some 23,Op.load 24 (Operand.tmp 22),none⟩,[]⟩,
  ⟨⟨some 24,Op.move (Operand.tmp 10),none⟩,[]⟩,
  ⟨⟨some 25,Op.indexAddr 24 (Operand.tmp 23) (Operand.tmp 24),none⟩,[]⟩,
  ⟨⟨some 26,Op.indexAddr 53 (Operand.tmp 25) (Operand.const (Value.int IntKind.i64 0)),none⟩,[]⟩,
  ⟨⟨some 27,Op.load 3 (Operand.tmp 26),none⟩,[]⟩,
  ⟨⟨some 28,Op.fieldAddr 26 (Operand.tmp 3) 1,none⟩,[]⟩,
  ⟨⟨some 29,Op.load 24 (Operand.tmp 28),none⟩,[]⟩,
  ⟨⟨some 30,Op.move (Operand.tmp 10),none⟩,[]⟩,
  ⟨⟨some 31,Op.indexAddr 24 (Operand.tmp 29) (Operand.tmp 30),none⟩,[]⟩,
  ⟨⟨some 32,Op.indexAddr 53 (Operand.tmp 31) (Operand.const (Value.int IntKind.i64 1)),none⟩,[]⟩,
  ⟨⟨some 33,Op.load 3 (Operand.tmp 32),none⟩,[]⟩,
  ⟨⟨some 11,Op.assign (Operand.tmp 27),none⟩,[]⟩,
  ⟨⟨some 12,Op.assign (Operand.tmp 33),none⟩,[]⟩]) (.seq (.reg [⟨⟨some 34,Op.move (Operand.tmp 2),none⟩,[]⟩,
  ⟨⟨some 35,Op.unOp UnOp.not 4 (Operand.tmp 34),none⟩,[]⟩,
  ⟨⟨some 36,Op.move (Operand.tmp 35),none⟩,[]⟩,
  ⟨⟨some 37,Op.move (Operand.tmp 1),some (36,false)⟩,[]⟩,
  ⟨⟨some 38,Op.move (Operand.tmp 11),some (36,false)⟩,[]⟩,
  ⟨⟨some 39,Op.indexAddr 27 (Operand.tmp 37) (Operand.tmp 38),some (36,false)⟩,[]⟩,
  ⟨⟨some 40,Op.load 3 (Operand.tmp 39),some (36,false)⟩,[]⟩,
  ⟨⟨some 41,Op.binOp BinOp.eql 3 (Operand.tmp 40) (Operand.const (Value.int IntKind.i64 0)) 3,some (36,false)⟩,[]⟩,
  ⟨⟨some 42,Op.pick (Operand.tmp 36) (Operand.const (Value.bool true)) (Operand.tmp 41),none⟩,[]⟩,
  ⟨⟨some 43,Op.move (Operand.tmp 42),none⟩,[]⟩,
  ⟨⟨some 44,Op.move (Operand.tmp 1),some (43,false)⟩,[]⟩,
  ⟨⟨some 45,Op.move (Operand.tmp 12),some (43,false)⟩,[]⟩,
  ⟨⟨some 46,Op.indexAddr 27 (Operand.tmp 44) (Operand.tmp 45),some (43,false)⟩,[]⟩,
  ⟨⟨some 47,Op.load 3 (Operand.tmp 46),some (43,false)⟩,[]⟩,
  ⟨⟨some 48,Op.binOp BinOp.eql 3 (Operand.tmp 47) (Operand.const (Value.int IntKind.i64 0)) 3,some (43,false)⟩,[]⟩,
  ⟨⟨some 49,Op.pick (Operand.tmp 43) (Operand.const (Value.bool true)) (Operand.tmp 48),none⟩,[]⟩]) (.cond (Operand.tmp 49) (.seq (.reg [⟨⟨some 50,Op.move (Operand.tmp 8),none⟩,[]⟩,
  ⟨⟨some 51,Op.move (Operand.tmp 1),none⟩,[]⟩,
  ⟨⟨some 52,Op.move (Operand.tmp 11),none⟩,[]⟩,
  ⟨⟨some 53,Op.move (Operand.tmp 12),none⟩,[]⟩,
  ⟨⟨some 54,Op.call { callee := (Callee.value (Operand.func 59)),args := #[(Operand.tmp 51),(Operand.tmp 52),(Operand.tmp 53)],argTypes := #[27,3,3] },none⟩,[]⟩,
  ⟨⟨some 55,Op.buildSlice 43 1 #[(0,(Operand.tmp 54))],none⟩,[]⟩,
  ⟨⟨some 56,Op.call { callee := (Callee.builtin Builtin.append),args := #[(Operand.tmp 50),(Operand.tmp 55)],argTypes := #[43,43] },none⟩,[]⟩,
  ⟨⟨some 8,Op.assign (Operand.tmp 56),none⟩,[]⟩]) (.reg [⟨⟨some 57,Op.move (Operand.tmp 9),none⟩,[]⟩,
  ⟨⟨some 58,Op.fieldAddr 26 (Operand.tmp 3) 1,none⟩,[]⟩,
  ⟨⟨some 59,Op.load 24 (Operand.tmp 58),none⟩,[]⟩,
  ⟨⟨some 60,Op.move (Operand.tmp 10),none⟩,[]⟩,
  ⟨⟨some 61,Op.indexAddr 24 (Operand.tmp 59) (Operand.tmp 60),none⟩,[]⟩,
  ⟨⟨some 62,Op.load 53 (Operand.tmp 61),none⟩,[]⟩,
  ⟨⟨some 63,Op.buildSlice 24 1 #[(0,(Operand.tmp 62))],none⟩,[]⟩,
  ⟨⟨some 64,Op.call { callee := (Callee.builtin Builtin.append),args := #[(Operand.tmp 57),(Operand.tmp 63)],argTypes := #[24,24] },none⟩,[]⟩,
  ⟨⟨some 9,Op.assign (Operand.tmp 64),none⟩,[]⟩])) .skip)))) (.reg [⟨⟨some 20,Op.move (Operand.tmp 10),none⟩,[]⟩,
  ⟨⟨some 21,Op.binOp BinOp.add 3 (Operand.tmp 20) (Operand.const (Value.int IntKind.i64 1)) 3,none⟩,[]⟩,
  ⟨⟨some 10,Op.assign (Operand.tmp 21),none⟩,[]⟩])))))) (.seq (.reg [⟨⟨some 65,Op.move (Operand.tmp 8),none⟩,[]⟩,
  ⟨⟨some 66,Op.move (Operand.tmp 9),none⟩,[]⟩,
  ⟨⟨some 6,Op.assign (Operand.tmp 65),none⟩,[]⟩,
  ⟨⟨some 7,Op.assign (Operand.tmp 66),none⟩,[]⟩]) .ret))))
theorem sl89 : slim Tryz.f89.ntmps ords89 (Tryz.f89.body.getD .skip) = some cd89 := by kernel_rfl
theorem in89 {args : List Value} {H : AH} {R : Value → AH → Prop} (hl : args.length = 3) (h : ∀ (Q : Exit → Sl → AH → Prop),(∀ e s H,endA Tryz.prog [ResultVar.tmp 6,ResultVar.tmp 7] R e s H → Q e s H) → wpC Tryz.prog cd89 Q (enterA args) H) : ACalls Tryz.prog 89 args H R :=
  ACalls.intro (by kernel_rfl) Tryz.func89 rfl (by kernel_rfl) sl89 hl (of_decide_eq_true (by kernel_rfl)) (by kernel_rfl) h
end Go.Proofs.YtelafbennmclfaaGreat.Ai
namespace Go.Proofs.YtelafbennmclfaaGreat.Ai
open Go Go.RowKit
theorem hole_of {n : Nat} {p : List Int} (hp : Bd n p) (hn : 1 ≤ n) : ∃ h : Nat,h < n ∧ ax p 0 = (h : Int) ∧ p.getD h 0 = 0 := by
  have : (0 : Int) ∈ p := hp.1.2 0 (by rw [hp.2]; omega)
  obtain ⟨i,h1,h2,h3⟩ := ax_at this
  exact ⟨i,by rw [← hp.2]; exact h1,h2,h3⟩
set_option maxHeartbeats 1000000 in
theorem boardsI_c (n : Nat) (v w : Value) (es : List (Int × Int)) (p : List Int) (H : AH) (hr : RowP 53 H v es) (hlen : es.length ≤ 1099511627776) (hx : Row 3 H w p) (hg : Grd (n : Int) es) (hp : Bd n p) (hn : 1 ≤ n) :
    ACalls Tryz.prog 37 [.agg (List.toArray [.int .i64 (n : Int),v]),w] H fun r H' => InL H.length H'.length 27 3 H' r (nxt es true p) ∧ H <+: H' := by
  obtain ⟨h,h1,h2,h3⟩ := hole_of hp hn
  refine in37 rfl ?_
  intro Q hQ
  simp (maxSteps := 1000000) (disch := omega) only [cd37,hr.boxG,SS,eq_self,reduceIte,reduceCtorEq,Nat.reduceEqDiff,Nat.reduceAdd]
  generalize hA : H ++ [AObj.cells [.int .i64 ↑n,v] 26 false] = A
  have pA : H <+: A := by rw [← hA]; exact List.prefix_append _ _
  have cA : A[H.length]? = some (.cells [.int .i64 ↑n,v] 26 false) := by rw [← hA]; exact at_new ..
  have rA := hr.pre pA
  simp (maxSteps := 1000000) (disch := omega) only [ld_agg ag26 cs26 cA,SS,eq_self,reduceIte,reduceCtorEq,Nat.reduceEqDiff,Nat.reduceAdd]
  refine CallH.by (slides_c n v w es p A rA hlen (hx.pre pA) hg (by rw [hp.2]) h h2 (by rw [hp.2]; exact h1)) ?_
  rintro _ B ⟨L,nd,rfl,hL,hnd,pB⟩
  simp (maxSteps := 1000000) (disch := omega) only [SS,eq_self,reduceIte,reduceCtorEq,Nat.reduceEqDiff,Nat.reduceAdd]
  refine hQ _ _ _ ?_
  have e : brds p (nbsU es (h : Int) (n : Int).toNat) h = nxt es true p := by
    rw [Int.toNat_natCast]; exact brds_nxt hg hp h1 h3
  rw [e] at hL
  have ht : isTup L = false := by
    rcases hL with q | ⟨o,us,q,_⟩
    · rw [q.1]; rfl
    · rw [q]; rfl
  simp (maxSteps := 1000000) (disch := omega) only [ht,SS,eq_self,reduceIte,reduceCtorEq,Nat.reduceEqDiff,Nat.reduceAdd]
  exact ⟨hL.wide pA.length_le (Nat.le_refl _),pA.trans pB⟩
theorem boards_mv {HB : AH} {n : Nat} {v : Value} {es : List (Int × Int)} (hr : RowP 53 HB v es) (hlen : es.length ≤ 1099511627776) (hg : Grd (n : Int) es) (hn : 1 ≤ n) :
    MvFn HB n 37 [.agg (List.toArray [.int .i64 (n : Int),v])] [] (nxt es true) := fun w b H hp hx hb => boardsI_c n v w es b H (hr.pre hp) hlen hx hg hb hn
theorem mkf_G {G : AH} {e : TypeId} {v : Value} {ps : List (Int × Int)} (h : RowP e G v ps) (f : FuncId) (n : Int) : makeFuncA (.func f) [.agg (List.toArray [.int .i64 n,v])] [] = some (.func (.func f) (List.toArray [.agg (List.toArray [.int .i64 n,v])]) (List.toArray [])) := by
  obtain ⟨q,rfl⟩ := h.shape
  rfl
theorem nxt_le {n : Nat} {es : List (Int × Int)} (hg : Grd (n : Int) es) (hl : es.length ≤ 1000000) (sl : Bool) (b : List Int) : (nxt es sl b).length ≤ 1000000 := by
  rw [nxt_len]
  exact Nat.le_trans (mvs_len es sl b) hl
theorem InU.keptP {lo hi : Nat} {H0 H H' : AH} {o : Nat} {us : List Value} {ls : List (List Int)} {v : Value} {ps : List (Int × Int)} (h : InU lo hi 27 3 H o us ls) (hm : MineP 53 H0 H v ps) (hk : Kept v H H') : InU lo hi 27 3 H' o us ls := by
  rcases hm with g | ⟨oo,zs,g1,g2,g3,g4⟩
  · exact h.move fun j y _ _ hy => hk j y (.inl g.1) hy
  · have hk' : ∀ (j : Nat) (y : AObj),j ≠ oo → H[j]? = some y → H'[j]? = some y := fun j y hj hy => hk j y (.inr (by rw [g1]; exact hj)) hy
    refine h.moveq (q := oo) ⟨fun e => ?_,fun i hi => ?_⟩ hk'
    · have := h.2.2.1
      rw [e,g3] at this
      simp only [Option.some.injEq,AObj.cells.injEq] at this
      exact absurd this.2.1 (by decide)
    · rcases (h.2.2.2.2.1 i hi).1 with q | ⟨ow,ws,q1,q2,q3,q4,q5⟩
      · exact .inl q.1
      · refine .inr fun e => ?_
        rw [q1] at e
        have e' : ow = oo := e
        rw [e',g3] at q4
        simp only [Option.some.injEq,AObj.cells.injEq] at q4
        exact absurd q4.2.1 (by decide)
theorem MineP.keptU {H0 H H' : AH} {o : Nat} {us : List Value} {v : Value} {ps : List (Int × Int)} (hm : MineP 53 H0 H v ps) (ho : H[o]? = some (.cells us 27 false)) (hk : ∀ (j : Nat) (y : AObj),j ≠ o → H[j]? = some y → H'[j]? = some y) : MineP 53 H0 H' v ps := by
  rcases hm with g | ⟨oo,zs,g1,g2,g3,g4⟩
  · exact .inl g
  · refine .inr ⟨oo,zs,g1,g2,hk _ _ (fun e => ?_) g3,g4⟩
    rw [e,ho] at g3
    simp only [Option.some.injEq,AObj.cells.injEq] at g3
    exact absurd g3.2.1 (by decide)
set_option maxRecDepth 20000 in
set_option maxHeartbeats 8000000 in
theorem l9Next_c (n : Nat) (v w : Value) (es : List (Int × Int)) (p : List Int) (sl : Bool) (H : AH) (hr : RowP 53 H v es) (hlen : es.length ≤ 1000000) (hx : Row 3 H w p) (hg : Grd (n : Int) es) (hp : Bd n p) :
    ACalls Tryz.prog 89 [.agg (List.toArray [.int .i64 (n : Int),v]),w,.bool sl] H fun r H' => ∃ L M,r = .tuple (List.toArray [L,M]) ∧ InL H.length H'.length 27 3 H' L (nxt es sl p) ∧ MineP 53 H H' M (mvs es sl p) ∧ H <+: H' := by
  have hn8 := hp.1.1
  have hpl := hp.2
  refine in89 rfl ?_
  intro Q hQ
  simp (maxSteps := 1000000) (disch := omega) only [cd89,hr.boxG,SS,eq_self,reduceIte,reduceCtorEq,Nat.reduceEqDiff,Nat.reduceAdd]
  generalize hA : H ++ [AObj.cells [.int .i64 ↑n,v] 26 false] = A
  have pA : H <+: A := by rw [← hA]; exact List.prefix_append _ _
  have cA : A[H.length]? = some (.cells [.int .i64 ↑n,v] 26 false) := by rw [← hA]; exact at_new ..
  have rA := hr.pre pA
  try simp (maxSteps := 1000000) (disch := omega) only [SS,eq_self,reduceIte,reduceCtorEq,Nat.reduceEqDiff,Nat.reduceAdd]
  generalize hB : A ++ [AObj.cells [] 27 false] = B
  have pB : A <+: B := by rw [← hB]; exact List.prefix_append _ _
  have lA : A.length = H.length + 1 := by rw [← hA]; simp
  have lB : B.length = A.length + 1 := by rw [← hB]; simp
  have cB : B[A.length]? = some (.cells [] 27 false) := by rw [← hB]; exact at_new ..
  generalize hC : B ++ [AObj.cells [] 53 false] = C
  have pC : B <+: C := by rw [← hC]; exact List.prefix_append _ _
  have lC : C.length = B.length + 1 := by rw [← hC]; simp
  have pAC := pB.trans pC
  have hin0 : InU H.length C.length 27 3 C A.length [] [] :=
    ⟨by omega,by omega,pre_at pC cB,Nat.le_refl _,fun i hi => absurd hi (by simp),fun i j _ hi _ => absurd hi (by simp)⟩
  have hm0 : MineP 53 H C (.slice (some ⟨B.length,0,none⟩) 0 0) [] := by rw [← hC]; exact MineP.nil0 (P := Tryz.prog) H B (by omega)
  refine LoopH.by (fun m s H' => ∃ i o us,m + i = es.length ∧ s 1 = w ∧ s 2 = .bool sl ∧ s 3 = .pointer (some ⟨H.length,0,none⟩) ∧ s 8 = .slice (some ⟨o,0,none⟩) (nxt (es.take i) sl p).length (nxt (es.take i) sl p).length ∧ s 10 = .int .i64 ((i : Nat) : Int) ∧ i ≤ es.length ∧ InU H.length H'.length 27 3 H' o us (nxt (es.take i) sl p) ∧ MineP 53 H H' (s 9) (mvs (es.take i) sl p) ∧ A <+: H') es.length ?_ ?_
  · exact ⟨0,A.length,[],by simp,rfl,rfl,rfl,rfl,rfl,by omega,by simpa [nxt,mvs] using hin0,hm0,pAC⟩
  rintro m s H' ⟨i,o,us,hm,h1,h2,h3,h8,h10,hie,hin,hmv,hpA⟩
  have hpp := pA.trans hpA
  have hr' := hr.pre hpp
  have hx' := hx.pre hpp
  have cG := pre_at hpA cA
  generalize hM : s 9 = M at *
  simp (maxSteps := 1000000) (disch := omega) only [h1,h2,h3,h8,h10,hM,cell_of cG,hr'.len Tryz.underlying24,SS,eq_self,reduceIte,reduceCtorEq,Nat.reduceEqDiff,Nat.reduceAdd]
  refine brD.intro (fun g => ?_) (fun g => ?_)
  rotate_left
  · simp (maxSteps := 1000000) (disch := omega) only [h8,hM,SS,eq_self,reduceIte,reduceCtorEq,Nat.reduceEqDiff,Nat.reduceAdd]
    refine hQ _ _ _ ?_
    simp (maxSteps := 1000000) (disch := omega) only [h8,hM,hmv.row.tup,SS,eq_self,reduceIte,reduceCtorEq,Nat.reduceEqDiff,Nat.reduceAdd]
    have : i = es.length := by omega
    subst this
    rw [List.take_of_length_le (Nat.le_refl _)] at hin hmv ⊢
    exact ⟨_,_,rfl,hin.inl,hmv,hpp⟩
  have hi : i < es.length := by omega
  have hem : es.getD i (0,0) ∈ es := by simp [hi]
  obtain ⟨q1,q2,q3⟩ := grd_mem hg hem
  have hst : mvs (es.take (i + 1)) sl p = mvs (es.take i) sl p ++ if (!sl || holeB p (es.getD i (0,0))) = true then [es.getD i (0,0)] else [] := by
    unfold mvs
    rw [List.take_add_one,List.getElem?_eq_getElem hi,List.filter_append]
    have : es.getD i (0,0) = es[i] := by simp [hi]
    rw [this]
    simp only [Option.toList_some,List.filter_cons,List.filter_nil]
  have hst2 : nxt (es.take (i + 1)) sl p = nxt (es.take i) sl p ++ if (!sl || holeB p (es.getD i (0,0))) = true then [swp p (es.getD i (0,0)).1.toNat (es.getD i (0,0)).2.toNat] else [] := by
    unfold nxt
    rw [hst,List.map_append]
    split <;> rfl
  have hll : (nxt (es.take i) sl p).length ≤ 1000000 := by
    rw [nxt_len]
    have := mvs_len (es.take i) sl p
    simp at this; omega
  have hll2 : (mvs (es.take i) sl p).length ≤ 1000000 := by rw [← nxt_len]; exact hll
  have hc0 := hr'.cell0 hi
  have hc1 := hr'.cell1 hi
  have hld := hr'.ld (P := Tryz.prog) ag53 cs53 hi
  generalize he : es.getD i (0,0) = e at *
  obtain ⟨x,y⟩ := e
  obtain ⟨a,rfl⟩ : ∃ a : Nat,x = a := ⟨x.toNat,by simp only at q1; omega⟩
  obtain ⟨b,rfl⟩ : ∃ b : Nat,y = b := ⟨y.toNat,by simp only at q1 q2; omega⟩
  simp only [Int.toNat_natCast] at q1 q2 q3 hst2
  have la : a < p.length := by omega
  have lb : b < p.length := by omega
  have hh : holeB p ((a : Int),(b : Int)) = (decide (p.getD a 0 = 0) || decide (p.getD b 0 = 0)) := by
    unfold holeB; simp only [Int.toNat_natCast]
  simp (maxSteps := 1000000) (disch := omega) only [h1,h2,h3,h8,h10,hM,cell_of cG,hr'.ix Tryz.underlying24 cs53,Int.toNat_natCast,hc0,hc1,SS,eq_self,reduceIte,reduceCtorEq,Nat.reduceEqDiff,Nat.reduceAdd]
  have skip : (!sl || holeB p ((a : Int),(b : Int))) = false → mvs (es.take (i + 1)) sl p = mvs (es.take i) sl p ∧ nxt (es.take (i + 1)) sl p = nxt (es.take i) sl p := fun q => by
    rw [hst,hst2,q]; simp
  have take : (!sl || holeB p ((a : Int),(b : Int))) = true → @CallH Tryz.prog 59 [w,.int .i64 (a : Int),.int .i64 (b : Int)] H' ⟨fun r H1 => ∃ o' us' M',∃ H3 H4 : AH,buildSliceA Tryz.prog 43 1 [(0,r)] H1 = some (.slice (some ⟨H1.length,0,none⟩) 1 1,H1 ++ [.cells [r] 27 false]) ∧
      appendA Tryz.prog 43 43 (.slice (some ⟨o,0,none⟩) (nxt (es.take i) sl p).length (nxt (es.take i) sl p).length) (.slice (some ⟨H1.length,0,none⟩) 1 1) (H1 ++ [.cells [r] 27 false]) = some (.slice (some ⟨o',0,none⟩) (nxt (es.take (i + 1)) sl p).length (nxt (es.take (i + 1)) sl p).length,H3) ∧
      cellA H3 H.length 1 = some v ∧ RowP 53 H3 v es ∧ appendA Tryz.prog 24 24 M (.slice (some ⟨H3.length,0,none⟩) 1 1) (H3 ++ [.cells [.int .i64 (a : Int),.int .i64 (b : Int)] 53 false]) = some (M',H4) ∧
      InU H.length H4.length 27 3 H4 o' us' (nxt (es.take (i + 1)) sl p) ∧ MineP 53 H H4 M' (mvs (es.take (i + 1)) sl p) ∧ A <+: H4⟩ := by
    intro q
    refine CallH.by (l9Swap_c w p a b H' hx' (by omega) la lb) ?_
    rintro c D ⟨hc,pD⟩
    rw [hst2,hst,q,if_pos rfl,if_pos rfl]
    have hinw := InI.of hc.mine
    have hl1 := hpp.length_le
    obtain ⟨H3,k1,k2,k3,k4⟩ := (hin.pre pD).app1 (P := Tryz.prog) (t2 := 43) Tryz.underlying43 cs27 (by rw [by27]; decide) zk27 hinw (by omega) pD.length_le (Nat.le_refl _) (by omega)
    have ho := hin.1
    have ho2 := hin.2.2.1
    have hoA : A.length ≤ o ∨ o = H.length := by omega
    have hno : o ≠ H.length := fun e => by
      rw [e,cG] at ho2
      simp only [Option.some.injEq,AObj.cells.injEq] at ho2
      exact absurd ho2.2.1 (by decide)
    have pA3 : A <+: H3 := prefix_of fun j x hx' => k4 j x (by have := at_lt hx'; omega) (pre_at (hpA.trans pD) hx')
    have hm3 := (hmv.pre pD).keptU (pre_at pD ho2) k4
    obtain ⟨M',H4,j1,j2,j3,j4,j5,j6⟩ := own1_24 hm3 (pA.trans pA3) (by omega) (a : Int) (b : Int)
    have k2' : InU H.length H3.length 27 3 H3 (D.length + 1) (us.take (nxt (es.take i) sl p).length ++ [c]) (nxt (es.take i) sl p ++ [swp p a b]) := by rw [k3]; exact k2
    have k5 := k2'.keptP hm3 j4
    have hl3 : H3.length ≤ H4.length := by
      rcases j2 with g | ⟨oo,zs,g1,g2,g3,g4⟩
      · have := congrArg List.length g.2; simp at this
      · have := at_lt g3
        rw [g1] at j5
        have j5' : H3.length ≤ oo := j5
        omega
    have pA4 : A <+: H4 := prefix_of fun j x hx' => by
      rcases hm3 with g | ⟨oo,zs,g1,g2,g3,g4⟩
      · exact j4 j x (.inl g.1) (pre_at pA3 hx')
      · refine j4 j x (.inr ?_) (pre_at pA3 hx')
        rw [g1]
        show j ≠ oo
        intro e
        have h5 := pre_at pA3 hx'
        rw [e] at hx'
        have := at_lt hx'
        have h6 := pre_at pA3 hx'
        by_cases e2 : oo = H.length
        · have := pre_at pA3 cA
          rw [← e2,g3] at this
          simp only [Option.some.injEq,AObj.cells.injEq] at this
          exact absurd this.2.1 (by decide)
        · omega
    refine ⟨D.length + 1,us.take (nxt (es.take i) sl p).length ++ [c],M',H3,H4,bsRowQ hc.row D,?_,by rw [cell_of (pre_at pA3 cA)]; rfl,hr.pre (pA.trans pA3),j1,k5.wide (Nat.le_refl _) hl3,j2,pA4⟩
    rw [List.length_append]
    exact k1
  have fin : ∀ (s' : Sl),s' 1 = w → s' 2 = .bool sl → s' 3 = .pointer (some ⟨H.length,0,none⟩) → True := fun _ _ _ _ => trivial
  cases hs : sl with
  | false =>
    rw [hs] at take hst hst2 hin hmv h8 skip h2
    simp (maxSteps := 1000000) (disch := omega) only [h1,h2,h3,h8,h10,hM,SS,eq_self,reduceIte,reduceCtorEq,Nat.reduceEqDiff,Nat.reduceAdd]
    refine CallH.by (take rfl) ?_
    rintro r H1 ⟨o',us',M',H3,H4,t1,t2,t3,t4,t5,t6,t7,t8⟩
    have hld4 := t4.ld (P := Tryz.prog) ag53 cs53 hi
    rw [he] at hld4
    simp (maxSteps := 1000000) (disch := omega) only [h1,h2,h3,h8,h10,hM,t1,t2,t3,t4.ix Tryz.underlying24 cs53,Int.toNat_natCast,hld4,t5,wrap64,SS,eq_self,reduceIte,reduceCtorEq,Nat.reduceEqDiff,Nat.reduceAdd]
    refine ⟨m - 1,by omega,i + 1,o',us',?_⟩
    (repeat' first | exact t6 | exact t7 | exact t8 | apply And.intro) <;> first | (simp only [Value.int.injEq,true_and]; omega) | omega | rfl | assumption | (simp; done) | (simp; omega)
  | true =>
    rw [hs] at take hst hst2 hin hmv h8 skip h2
    simp only [Bool.not_true,Bool.false_or,hh] at take skip
    simp (maxSteps := 1000000) (disch := omega) only [h1,h2,h3,h8,h10,hM,hx'.ix Tryz.underlying27 cs3,hx'.cell,Int.toNat_natCast,SS,eq_self,reduceIte,reduceCtorEq,Nat.reduceEqDiff,Nat.reduceAdd]
    refine brD.intro (fun e1 => ?_) (fun e1 => ?_)
    · rw [decide_eq_true e1] at take
      simp (maxSteps := 1000000) (disch := omega) only [e1,h1,h2,h3,h8,h10,hM,SS,eq_self,reduceIte,reduceCtorEq,Nat.reduceEqDiff,Nat.reduceAdd]
      refine CallH.by (take rfl) ?_
      rintro r H1 ⟨o',us',M',H3,H4,t1,t2,t3,t4,t5,t6,t7,t8⟩
      have hld4 := t4.ld (P := Tryz.prog) ag53 cs53 hi
      rw [he] at hld4
      simp (maxSteps := 1000000) (disch := omega) only [h1,h2,h3,h8,h10,hM,t1,t2,t3,t4.ix Tryz.underlying24 cs53,Int.toNat_natCast,hld4,t5,wrap64,SS,eq_self,reduceIte,reduceCtorEq,Nat.reduceEqDiff,Nat.reduceAdd]
      refine ⟨m - 1,by omega,i + 1,o',us',?_⟩
      (repeat' first | exact t6 | exact t7 | exact t8 | apply And.intro) <;> first | (simp only [Value.int.injEq,true_and]; omega) | omega | rfl | assumption | (simp; done) | (simp; omega)
    · rw [decide_eq_false e1,Bool.false_or] at take skip
      simp (maxSteps := 1000000) (disch := omega) only [e1,h1,h2,h3,h8,h10,hM,hx'.ix Tryz.underlying27 cs3,hx'.cell,Int.toNat_natCast,SS,eq_self,reduceIte,reduceCtorEq,Nat.reduceEqDiff,Nat.reduceAdd]
      refine brD.intro (fun e2 => ?_) (fun e2 => ?_)
      · simp (maxSteps := 1000000) (disch := omega) only [e1,e2,h1,h2,h3,h8,h10,hM,SS,eq_self,reduceIte,reduceCtorEq,Nat.reduceEqDiff,Nat.reduceAdd]
        refine CallH.by (take (decide_eq_true e2)) ?_
        rintro r H1 ⟨o',us',M',H3,H4,t1,t2,t3,t4,t5,t6,t7,t8⟩
        have hld4 := t4.ld (P := Tryz.prog) ag53 cs53 hi
        rw [he] at hld4
        simp (maxSteps := 1000000) (disch := omega) only [h1,h2,h3,h8,h10,hM,t1,t2,t3,t4.ix Tryz.underlying24 cs53,Int.toNat_natCast,hld4,t5,wrap64,SS,eq_self,reduceIte,reduceCtorEq,Nat.reduceEqDiff,Nat.reduceAdd]
        refine ⟨m - 1,by omega,i + 1,o',us',?_⟩
        (repeat' first | exact t6 | exact t7 | exact t8 | apply And.intro) <;> first | (simp only [Value.int.injEq,true_and]; omega) | omega | rfl | assumption | (simp; done) | (simp; omega)
      · obtain ⟨s1,s2⟩ := skip (decide_eq_false e2)
        rw [← s1] at hmv
        rw [← s2] at hin h8
        simp (maxSteps := 1000000) (disch := omega) only [e1,e2,h1,h2,h3,h8,h10,hM,wrap64,SS,eq_self,reduceIte,reduceCtorEq,Nat.reduceEqDiff,Nat.reduceAdd]
        refine ⟨m - 1,by omega,i + 1,o,us,?_⟩
        (repeat' first | exact hin | exact hmv | exact hpA | apply And.intro) <;> first | (simp only [Value.int.injEq,true_and]; omega) | omega | rfl | assumption | (simp; done) | (simp; omega)
def ords94 : List (Nat × List (Nat × Bool)) := []
def cd94 : Cd := (.seq (.reg [⟨⟨some 4,Op.assign (Operand.const (Value.int IntKind.i64 0)),none⟩,[]⟩]) (.seq (.seq (.reg [⟨⟨some 5,Op.move (Operand.tmp 0),none⟩,[]⟩,
  ⟨⟨some 6,Op.move (Operand.tmp 1),none⟩,[]⟩,
  ⟨⟨some 7,Op.binOp BinOp.gtr 3 (Operand.tmp 5) (Operand.tmp 6) 3,none⟩,[]⟩]) (.cond (Operand.tmp 7) (.seq (.reg [⟨⟨some 8,Op.move (Operand.tmp 0),none⟩,[]⟩,
  ⟨⟨some 4,Op.assign (Operand.tmp 8),none⟩,[]⟩]) .ret) .skip)) (.seq (.reg [⟨⟨some 9,Op.move (Operand.tmp 1),none⟩,[]⟩,
  ⟨⟨some 4,Op.assign (Operand.tmp 9),none⟩,[]⟩]) .ret)))
theorem sl94 : slim Tryz.f94.ntmps ords94 (Tryz.f94.body.getD .skip) = some cd94 := by kernel_rfl
theorem in94 {args : List Value} {H : AH} {R : Value → AH → Prop} (hl : args.length = 2) (h : ∀ (Q : Exit → Sl → AH → Prop),(∀ e s H,endA Tryz.prog [ResultVar.tmp 4] R e s H → Q e s H) → wpC Tryz.prog cd94 Q (enterA args) H) : ACalls Tryz.prog 94 args H R :=
  ACalls.intro (by kernel_rfl) Tryz.func94 rfl (by kernel_rfl) sl94 hl (of_decide_eq_true (by kernel_rfl)) (by kernel_rfl) h
def ords43 : List (Nat × List (Nat × Bool)) := [(11,[(0,false),(1,false),(2,false),(3,false),(4,false),(5,false),(6,true),(7,false),(8,false),(9,false),(10,false),(11,false)]),(16,[(0,false),(1,false),(2,false),(3,false),(4,false),(6,false),(7,false),(8,false),(9,false),(10,false),(5,true),(11,true),(12,false),(13,false),(14,false),(15,false),(16,true)])]
def cd43 : Cd := (.seq (.reg [⟨⟨some 3,Op.box 26 (Operand.tmp 0),none⟩,[]⟩,
  ⟨⟨some 6,Op.assign (Operand.const (Value.slice none 0 0)),none⟩,[]⟩]) (.seq (.reg [⟨⟨some 14,Op.move (Operand.tmp 1),none⟩,[]⟩,
  ⟨⟨some 15,Op.call { callee := (Callee.builtin Builtin.len),args := #[(Operand.tmp 14)],argTypes := #[27] },none⟩,[]⟩,
  ⟨⟨some 16,Op.call { callee := (Callee.value (Operand.func 92)),args := #[(Operand.tmp 15)],argTypes := #[3] },none⟩,[]⟩,
  ⟨⟨some 17,Op.makeSlice 27 (Operand.tmp 16) (Operand.tmp 16),none⟩,[]⟩,
  ⟨⟨some 7,Op.assign (Operand.tmp 17),none⟩,[]⟩]) (.seq (.seq (.reg [⟨⟨some 8,Op.assign (Operand.const (Value.int IntKind.i64 0)),none⟩,[]⟩]) (.block 0 (.loop (.seq (.seq (.reg [⟨⟨some 18,Op.move (Operand.tmp 8),none⟩,[]⟩,
  ⟨⟨some 19,Op.move (Operand.tmp 7),none⟩,[]⟩,
  ⟨⟨some 20,Op.call { callee := (Callee.builtin Builtin.len),args := #[(Operand.tmp 19)],argTypes := #[27] },none⟩,[]⟩,
  ⟨⟨some 21,Op.binOp BinOp.lss 3 (Operand.tmp 18) (Operand.tmp 20) 3,none⟩,[]⟩]) (.cond (Operand.tmp 21) .skip (.exit 0))) (.seq (.block 1 (.reg [⟨⟨some 24,Op.move (Operand.tmp 7),none⟩,[]⟩,
  ⟨⟨some 25,Op.move (Operand.tmp 8),none⟩,[]⟩,
  ⟨⟨some 26,Op.indexAddr 27 (Operand.tmp 24) (Operand.tmp 25),none⟩,[]⟩,
  ⟨⟨none,Op.store 3 (Operand.tmp 26) (Operand.const (Value.int IntKind.i64 (-1))),none⟩,[]⟩])) (.reg [⟨⟨some 22,Op.move (Operand.tmp 8),none⟩,[]⟩,
  ⟨⟨some 23,Op.binOp BinOp.add 3 (Operand.tmp 22) (Operand.const (Value.int IntKind.i64 1)) 3,none⟩,[]⟩,
  ⟨⟨some 8,Op.assign (Operand.tmp 23),none⟩,[]⟩])))))) (.seq (.reg [⟨⟨some 27,Op.move (Operand.tmp 7),none⟩,[]⟩,
  ⟨⟨some 28,Op.move (Operand.tmp 1),none⟩,[]⟩,
  ⟨⟨some 29,Op.call { callee := (Callee.value (Operand.func 44)),args := #[(Operand.tmp 28)],argTypes := #[27] },none⟩,[]⟩,
  ⟨⟨some 30,Op.indexAddr 27 (Operand.tmp 27) (Operand.tmp 29),none⟩,[]⟩,
  ⟨⟨none,Op.store 3 (Operand.tmp 30) (Operand.const (Value.int IntKind.i64 0)),none⟩,[]⟩]) (.seq (.reg [⟨⟨some 31,Op.move (Operand.tmp 1),none⟩,[]⟩,
  ⟨⟨some 32,Op.call { callee := (Callee.value (Operand.func 57)),args := #[(Operand.tmp 31)],argTypes := #[27] },none⟩,[]⟩,
  ⟨⟨some 33,Op.buildSlice 43 1 #[(0,(Operand.tmp 32))],none⟩,[]⟩,
  ⟨⟨some 9,Op.assign (Operand.tmp 33),none⟩,[]⟩]) (.seq (.seq (.reg [⟨⟨some 10,Op.assign (Operand.const (Value.int IntKind.i64 0)),none⟩,[]⟩]) (.block 2 (.loop (.seq (.seq (.reg [⟨⟨some 34,Op.move (Operand.tmp 10),none⟩,[]⟩,
  ⟨⟨some 35,Op.move (Operand.tmp 9),none⟩,[]⟩,
  ⟨⟨some 36,Op.call { callee := (Callee.builtin Builtin.len),args := #[(Operand.tmp 35)],argTypes := #[43] },none⟩,[]⟩,
  ⟨⟨some 37,Op.binOp BinOp.lss 3 (Operand.tmp 34) (Operand.tmp 36) 3,none⟩,[]⟩]) (.cond (Operand.tmp 37) .skip (.exit 2))) (.seq (.block 3 (.seq (.reg [⟨⟨some 41,Op.load 26 (Operand.tmp 3),none⟩,[]⟩,
  ⟨⟨some 42,Op.move (Operand.tmp 9),none⟩,[]⟩,
  ⟨⟨some 43,Op.move (Operand.tmp 10),none⟩,[]⟩,
  ⟨⟨some 44,Op.indexAddr 43 (Operand.tmp 42) (Operand.tmp 43),none⟩,[]⟩,
  ⟨⟨some 45,Op.load 27 (Operand.tmp 44),none⟩,[]⟩,
  ⟨⟨some 46,Op.move (Operand.tmp 2),none⟩,[]⟩,
  ⟨⟨some 47,Op.call { callee := (Callee.value (Operand.func 89)),args := #[(Operand.tmp 41),(Operand.tmp 45),(Operand.tmp 46)],argTypes := #[26,27,4] },none⟩,[]⟩,
  ⟨⟨some 40,Op.move (Operand.tmp 47),none⟩,[]⟩,
  ⟨⟨some 48,Op.extract (Operand.tmp 40) 0,none⟩,[]⟩,
  ⟨⟨some 49,Op.extract (Operand.tmp 40) 1,none⟩,[]⟩,
  ⟨⟨some 11,Op.assign (Operand.tmp 48),none⟩,[]⟩,
  ⟨⟨some 12,Op.assign (Operand.tmp 49),none⟩,[]⟩]) (.seq (.reg [⟨⟨some 13,Op.assign (Operand.const (Value.int IntKind.i64 0)),none⟩,[]⟩]) (.block 4 (.loop (.seq (.seq (.reg [⟨⟨some 50,Op.move (Operand.tmp 13),none⟩,[]⟩,
  ⟨⟨some 51,Op.move (Operand.tmp 11),none⟩,[]⟩,
  ⟨⟨some 52,Op.call { callee := (Callee.builtin Builtin.len),args := #[(Operand.tmp 51)],argTypes := #[43] },none⟩,[]⟩,
  ⟨⟨some 53,Op.binOp BinOp.lss 3 (Operand.tmp 50) (Operand.tmp 52) 3,none⟩,[]⟩]) (.cond (Operand.tmp 53) .skip (.exit 4))) (.seq (.block 5 (.seq (.reg [⟨⟨some 56,Op.move (Operand.tmp 7),none⟩,[]⟩,
  ⟨⟨some 57,Op.move (Operand.tmp 11),none⟩,[]⟩,
  ⟨⟨some 58,Op.move (Operand.tmp 13),none⟩,[]⟩,
  ⟨⟨some 59,Op.indexAddr 43 (Operand.tmp 57) (Operand.tmp 58),none⟩,[]⟩,
  ⟨⟨some 60,Op.load 27 (Operand.tmp 59),none⟩,[]⟩,
  ⟨⟨some 61,Op.call { callee := (Callee.value (Operand.func 44)),args := #[(Operand.tmp 60)],argTypes := #[27] },none⟩,[]⟩,
  ⟨⟨some 62,Op.indexAddr 27 (Operand.tmp 56) (Operand.tmp 61),none⟩,[]⟩,
  ⟨⟨some 63,Op.load 3 (Operand.tmp 62),none⟩,[]⟩,
  ⟨⟨some 64,Op.binOp BinOp.lss 3 (Operand.tmp 63) (Operand.const (Value.int IntKind.i64 0)) 3,none⟩,[]⟩]) (.cond (Operand.tmp 64) (.seq (.reg [⟨⟨some 65,Op.move (Operand.tmp 7),none⟩,[]⟩,
  ⟨⟨some 66,Op.move (Operand.tmp 11),none⟩,[]⟩,
  ⟨⟨some 67,Op.move (Operand.tmp 13),none⟩,[]⟩,
  ⟨⟨some 68,Op.indexAddr 43 (Operand.tmp 66) (Operand.tmp 67),none⟩,[]⟩,
  ⟨⟨some 69,Op.load 27 (Operand.tmp 68),none⟩,[]⟩,
  ⟨⟨some 71,Op.move (Operand.tmp 7),none⟩,[]⟩,
  ⟨⟨some 72,Op.move (Operand.tmp 9),none⟩,[]⟩,
  ⟨⟨some 73,Op.move (Operand.tmp 10),none⟩,[]⟩,
  ⟨⟨some 74,Op.indexAddr 43 (Operand.tmp 72) (Operand.tmp 73),none⟩,[]⟩,
  ⟨⟨some 75,Op.load 27 (Operand.tmp 74),none⟩,[]⟩,
  ⟨⟨some 70,Op.call { callee := (Callee.value (Operand.func 44)),args := #[(Operand.tmp 69)],argTypes := #[27] },none⟩,[⟨some 75,Op.load 27 (Operand.tmp 74),none⟩]⟩,
  ⟨⟨some 76,Op.call { callee := (Callee.value (Operand.func 44)),args := #[(Operand.tmp 75)],argTypes := #[27] },none⟩,[]⟩,
  ⟨⟨some 77,Op.indexAddr 27 (Operand.tmp 71) (Operand.tmp 76),none⟩,[]⟩,
  ⟨⟨some 78,Op.load 3 (Operand.tmp 77),none⟩,[]⟩,
  ⟨⟨some 79,Op.binOp BinOp.add 3 (Operand.tmp 78) (Operand.const (Value.int IntKind.i64 1)) 3,none⟩,[]⟩,
  ⟨⟨some 80,Op.indexAddr 27 (Operand.tmp 65) (Operand.tmp 70),none⟩,[]⟩,
  ⟨⟨none,Op.store 3 (Operand.tmp 80) (Operand.tmp 79),none⟩,[]⟩]) (.reg [⟨⟨some 81,Op.move (Operand.tmp 9),none⟩,[]⟩,
  ⟨⟨some 82,Op.move (Operand.tmp 11),none⟩,[]⟩,
  ⟨⟨some 83,Op.move (Operand.tmp 13),none⟩,[]⟩,
  ⟨⟨some 84,Op.indexAddr 43 (Operand.tmp 82) (Operand.tmp 83),none⟩,[]⟩,
  ⟨⟨some 85,Op.load 27 (Operand.tmp 84),none⟩,[]⟩,
  ⟨⟨some 86,Op.buildSlice 43 1 #[(0,(Operand.tmp 85))],none⟩,[]⟩,
  ⟨⟨some 87,Op.call { callee := (Callee.builtin Builtin.append),args := #[(Operand.tmp 81),(Operand.tmp 86)],argTypes := #[43,43] },none⟩,[]⟩,
  ⟨⟨some 9,Op.assign (Operand.tmp 87),none⟩,[]⟩])) .skip))) (.reg [⟨⟨some 54,Op.move (Operand.tmp 13),none⟩,[]⟩,
  ⟨⟨some 55,Op.binOp BinOp.add 3 (Operand.tmp 54) (Operand.const (Value.int IntKind.i64 1)) 3,none⟩,[]⟩,
  ⟨⟨some 13,Op.assign (Operand.tmp 55),none⟩,[]⟩])))))))) (.reg [⟨⟨some 38,Op.move (Operand.tmp 10),none⟩,[]⟩,
  ⟨⟨some 39,Op.binOp BinOp.add 3 (Operand.tmp 38) (Operand.const (Value.int IntKind.i64 1)) 3,none⟩,[]⟩,
  ⟨⟨some 10,Op.assign (Operand.tmp 39),none⟩,[]⟩])))))) (.seq (.reg [⟨⟨some 88,Op.move (Operand.tmp 7),none⟩,[]⟩,
  ⟨⟨some 6,Op.assign (Operand.tmp 88),none⟩,[]⟩]) .ret)))))))
theorem sl43 : slim Tryz.f43.ntmps ords43 (Tryz.f43.body.getD .skip) = some cd43 := by kernel_rfl
theorem in43 {args : List Value} {H : AH} {R : Value → AH → Prop} (hl : args.length = 3) (h : ∀ (Q : Exit → Sl → AH → Prop),(∀ e s H,endA Tryz.prog [ResultVar.tmp 6] R e s H → Q e s H) → wpC Tryz.prog cd43 Q (enterA args) H) : ACalls Tryz.prog 43 args H R :=
  ACalls.intro (by kernel_rfl) Tryz.func43 rfl (by kernel_rfl) sl43 hl (of_decide_eq_true (by kernel_rfl)) (by kernel_rfl) h
def ords47 : List (Nat × List (Nat × Bool)) := []
def cd47 : Cd := (.seq (.reg [⟨⟨some 2,Op.assign (Operand.const (Value.int IntKind.i64 0)),none⟩,[]⟩,
  ⟨⟨some 3,Op.assign (Operand.const (Value.bool false)),none⟩,[]⟩]) (.seq (.reg [⟨⟨some 4,Op.move (Operand.tmp 0),none⟩,[]⟩,
  ⟨⟨some 5,Op.call { callee := (Callee.value (Operand.func 94)),args := #[(Operand.tmp 4),(Operand.const (Value.int IntKind.i64 0))],argTypes := #[3,3] },none⟩,[]⟩,
  ⟨⟨some 6,Op.move (Operand.tmp 0),none⟩,[]⟩,
  ⟨⟨some 7,Op.binOp BinOp.geq 3 (Operand.tmp 6) (Operand.const (Value.int IntKind.i64 0)) 3,none⟩,[]⟩,
  ⟨⟨some 2,Op.assign (Operand.tmp 5),none⟩,[]⟩,
  ⟨⟨some 3,Op.assign (Operand.tmp 7),none⟩,[]⟩]) .ret))
theorem sl47 : slim Tryz.f47.ntmps ords47 (Tryz.f47.body.getD .skip) = some cd47 := by kernel_rfl
theorem in47 {args : List Value} {H : AH} {R : Value → AH → Prop} (hl : args.length = 1) (h : ∀ (Q : Exit → Sl → AH → Prop),(∀ e s H,endA Tryz.prog [ResultVar.tmp 2,ResultVar.tmp 3] R e s H → Q e s H) → wpC Tryz.prog cd47 Q (enterA args) H) : ACalls Tryz.prog 47 args H R :=
  ACalls.intro (by kernel_rfl) Tryz.func47 rfl (by kernel_rfl) sl47 hl (of_decide_eq_true (by kernel_rfl)) (by kernel_rfl) h
end Go.Proofs.YtelafbennmclfaaGreat.Ai
namespace Go.Proofs.YtelafbennmclfaaGreat.Ai
open Go Go.RowKit
theorem l1MostK_c (a b : Int) (H : AH) : ACalls Tryz.prog 94 [.int .i64 a,.int .i64 b] H fun r H' => r = .int .i64 (if b < a then a else b) ∧ H = H' := by
  refine in94 rfl ?_
  intro Q hQ
  simp (maxSteps := 1000000) (disch := omega) only [cd94,SS,eq_self,reduceIte,reduceCtorEq,Nat.reduceEqDiff,Nat.reduceAdd]
  refine brD.intro (fun e => ?_) (fun e => ?_) <;> simp (maxSteps := 1000000) (disch := omega) only [SS,eq_self,reduceIte,reduceCtorEq,Nat.reduceEqDiff,Nat.reduceAdd]
  · refine hQ _ _ _ ?_
    simp (maxSteps := 1000000) (disch := omega) only [if_pos e,SS,eq_self,reduceIte,reduceCtorEq,Nat.reduceEqDiff,Nat.reduceAdd]
  · refine hQ _ _ _ ?_
    simp (maxSteps := 1000000) (disch := omega) only [if_neg e,SS,eq_self,reduceIte,reduceCtorEq,Nat.reduceEqDiff,Nat.reduceAdd]
theorem bds_len {n : Nat} (hn : n ≤ 6) {st : List (List Int × Int)} (hok : ∀ e ∈ st,Bd n e.1) (hnd : (st.map (·.1)).Nodup) : st.length ≤ 720 := by
  have := nodupI_le (mny n) ((st.map (·.1)).map cod) (by
    rw [List.Nodup,List.pairwise_map]
    refine List.Pairwise.imp_of_mem ?_ hnd
    intro x y hx hy hxy q
    obtain ⟨s1,hs1,rfl⟩ := List.mem_map.1 hx
    obtain ⟨s2,hs2,rfl⟩ := List.mem_map.1 hy
    have g1 := hok s1 hs1
    have g2 := hok s2 hs2
    exact hxy (cod_inj g1.1 g2.1 (by rw [g1.2]; exact hn) (by rw [g1.2,g2.2]) q)) (fun y hy => by
    obtain ⟨z,hz,rfl⟩ := List.mem_map.1 hy
    obtain ⟨s1,hs1,rfl⟩ := List.mem_map.1 hz
    have g1 := hok s1 hs1
    have := cod_rng g1.1 (by rw [g1.2]; exact hn)
    rw [g1.2] at this; exact this)
  have hm := mny_le hn
  simp only [List.length_map] at this
  omega
def spL (N : Nat) (st : List (List Int × Int)) : List Int := (List.range N).map fun z : Nat => match st.find? (fun e => decide (cod e.1 = (z : Int))) with | some e => e.2 | none => -1
theorem spL_len (N : Nat) (st : List (List Int × Int)) : (spL N st).length = N := by simp [spL]
theorem spL_get (N : Nat) (st : List (List Int × Int)) (z : Nat) (hz : z < N) : (spL N st).getD z 0 = match st.find? (fun e => decide (cod e.1 = (z : Int))) with | some e => e.2 | none => -1 := by
  unfold spL
  rw [List.getD_eq_getElem?_getD,List.getElem?_map,List.getElem?_range hz]; rfl
theorem spL_nil (N : Nat) : spL N [] = List.replicate N (-1) := by
  apply List.ext_getElem
  · simp [spL]
  · intro i h1 h2
    simp [spL]
theorem find_bd {n : Nat} (hn : n ≤ 6) {b : List Int} (hb : Bd n b) : ∀ (st : List (List Int × Int)),(∀ e ∈ st,Bd n e.1) → (match st.find? (fun e => decide (cod e.1 = cod b)) with | some e => e.2 | none => -1) = (bdD st b).getD (-1)
  | [],_ => rfl
  | e :: st,h => by
    have ih := find_bd hn hb st (fun x hx => h x (by simp [hx]))
    have he := h e (by simp)
    unfold bdD at *
    rw [List.find?_cons,List.find?_cons]
    by_cases g : e.1 = b
    · rw [decide_eq_true (show cod e.1 = cod b by rw [g]),decide_eq_true g]; rfl
    · rw [decide_eq_false (fun q => g (cod_inj he.1 hb.1 (by rw [he.2]; exact hn) (by rw [he.2,hb.2]) q)),decide_eq_false g]
      exact ih
theorem cod_nat {n : Nat} (hn : n ≤ 6) {b : List Int} (hb : Bd n b) : ∃ z : Nat,cod b = (z : Int) ∧ z < mny n := by
  have h := cod_rng hb.1 (by rw [hb.2]; exact hn)
  rw [hb.2] at h
  exact ⟨(cod b).toNat,by omega,by omega⟩
theorem spL_at {n : Nat} (hn : n ≤ 6) {b : List Int} (hb : Bd n b) {st : List (List Int × Int)} (h : ∀ e ∈ st,Bd n e.1) : (spL (mny n) st).getD (cod b).toNat 0 = (bdD st b).getD (-1) := by
  obtain ⟨z,hz,hlt⟩ := cod_nat hn hb
  rw [hz,Int.toNat_natCast,spL_get _ _ z hlt,← hz]
  exact find_bd hn hb st h
theorem spL_snoc {n : Nat} (hn : n ≤ 6) {b : List Int} (hb : Bd n b) {st : List (List Int × Int)} (h : ∀ e ∈ st,Bd n e.1) (hnew : b ∉ st.map (·.1)) (d : Int) : (spL (mny n) st).set (cod b).toNat d = spL (mny n) (st ++ [(b,d)]) := by
  obtain ⟨z,hz,hlt⟩ := cod_nat hn hb
  rw [hz,Int.toNat_natCast]
  apply List.ext_getElem?
  intro i
  rw [List.getElem?_set]
  by_cases hi : i < mny n
  · have e1 := spL_get (mny n) st i hi
    have e2 := spL_get (mny n) (st ++ [(b,d)]) i hi
    have l1 : i < (spL (mny n) st).length := by rw [spL_len]; exact hi
    have l2 : i < (spL (mny n) (st ++ [(b,d)])).length := by rw [spL_len]; exact hi
    rw [List.getD_eq_getElem?_getD,List.getElem?_eq_getElem l2] at e2
    rw [List.getD_eq_getElem?_getD,List.getElem?_eq_getElem l1] at e1
    simp only [Option.getD_some] at e1 e2
    rw [List.getElem?_eq_getElem l2,e2]
    by_cases hzi : z = i
    · subst hzi
      rw [if_pos rfl,if_pos l1]
      have hno : st.find? (fun e => decide (cod e.1 = (z : Int))) = none := by
        rw [List.find?_eq_none]
        intro e he
        simp only [decide_eq_true_eq]
        intro q
        have h1 := h e he
        have := cod_inj h1.1 hb.1 (by rw [h1.2]; exact hn) (by rw [h1.2,hb.2]) (q.trans hz.symm)
        exact hnew (List.mem_map.2 ⟨e,he,this⟩)
      rw [List.find?_append,hno]
      simp [List.find?_cons,hz]
    · rw [if_neg hzi,List.getElem?_eq_getElem l1,e1,List.find?_append]
      have hno : [(b,d)].find? (fun e => decide (cod e.1 = (i : Int))) = none := by
        rw [List.find?_eq_none]
        intro e he
        simp only [List.mem_cons,List.not_mem_nil,or_false] at he
        subst he
        simp only [decide_eq_true_eq]
        omega
      rw [hno,Option.or_none]
  · rw [List.getElem?_eq_none (by rw [spL_len]; omega),List.getElem?_eq_none (by rw [spL_len]; omega)]
    split
    · rw [if_neg (by rw [spL_len]; omega)]
    · rfl
def QA (H : AH) (so oq nq : Nat) (bs : List (List Int)) : Prop :=
  ∃ zs,H[oq]? = some (.cells zs 27 false) ∧ nq ≤ zs.length ∧ nq = bs.length ∧ ∀ j,j < nq → Row 3 H (zs.getD j undef) (bs.getD j []) ∧ (zs.getD j undef = .slice none 0 0 ∨ rowO (zs.getD j undef) ≠ so)
theorem QA.pre {H H' : AH} {so oq nq : Nat} {bs : List (List Int)} (h : QA H so oq nq bs) (hp : H <+: H') : QA H' so oq nq bs := by
  obtain ⟨zs,h1,h2,h3,h4⟩ := h
  exact ⟨zs,pre_at hp h1,h2,h3,fun j hj => ⟨(h4 j hj).1.pre hp,(h4 j hj).2⟩⟩
theorem QA.set {H H' : AH} {so oq nq : Nat} {bs : List (List Int)} (h : QA H so oq nq bs) (hq : oq ≠ so) (hk : ∀ (j : Nat) (y : AObj),j ≠ so → H[j]? = some y → H'[j]? = some y) : QA H' so oq nq bs := by
  obtain ⟨zs,h1,h2,h3,h4⟩ := h
  refine ⟨zs,hk _ _ hq h1,h2,h3,fun j hj => ?_⟩
  obtain ⟨g1,g2⟩ := h4 j hj
  refine ⟨?_,g2⟩
  rcases g2 with g | g
  · exact .inl ⟨g,g1.nilv g⟩
  · exact g1.mono fun y hy => hk _ _ g hy
theorem QA.at_ {H : AH} {so oq nq : Nat} {bs : List (List Int)} (h : QA H so oq nq bs) {j : Nat} (hj : j < nq) : ∃ u,cellA H oq j = some u ∧ Row 3 H u (bs.getD j []) := by
  obtain ⟨zs,h1,h2,h3,h4⟩ := h
  refine ⟨zs.getD j undef,?_,(h4 j hj).1⟩
  rw [cell_of h1]
  have : j < zs.length := by omega
  simp [this]
theorem QA.push {H : AH} {so oq nq : Nat} {bs : List (List Int)} (h : QA H so oq nq bs) {x : Value} {b : List Int} (hx : Row 3 H x b) (hxs : x = .slice none 0 0 ∨ rowO x ≠ so) (hb : nq ≤ 1099511627775) :
    ∃ H2,appendA Tryz.prog 43 43 (.slice (some ⟨oq,0,none⟩) nq nq) (.slice (some ⟨H.length,0,none⟩) 1 1) (H ++ [.cells [x] 27 false]) = some (.slice (some ⟨H.length + 1,0,none⟩) (nq + 1) (nq + 1),H2) ∧
      QA H2 so (H.length + 1) (nq + 1) (bs ++ [b]) ∧ H2.length = H.length + 2 ∧ (∀ (j : Nat) (y : AObj),j ≠ oq → H[j]? = some y → H2[j]? = some y) := by
  obtain ⟨zs,h1,h2,h3,h4⟩ := h
  have k1 := app_qV (P := Tryz.prog) (t := 43) (k := 0) (n := nq) (c := nq) (x := x) Tryz.underlying43 cs27 (by rw [by27]; decide) zk27 h1 (by omega) hb
  have keep : ∀ (j : Nat) (y : AObj),j ≠ oq → H[j]? = some y → (H.set oq .dead ++ [AObj.cells [x] 27 false,.cells ((zs.drop 0).take nq ++ [x]) 27 false])[j]? = some y := fun j y hj hy => at_old hy (fun e => hj e.symm) _
  refine ⟨_,k1,⟨(zs.drop 0).take nq ++ [x],at_new1 ..,by simp; omega,by simp; omega,fun j hj => ?_⟩,by simp,keep⟩
  rw [List.drop_zero]
  have hl : (zs.take nq).length = nq := by simp; omega
  rw [List.getD_eq_getElem?_getD,List.getElem?_append,hl]
  by_cases hj2 : j < nq
  · obtain ⟨g1,g2⟩ := h4 j hj2
    rw [if_pos hj2,List.getElem?_take,if_pos hj2,← List.getD_eq_getElem?_getD]
    have e : (bs ++ [b]).getD j [] = bs.getD j [] := by
      rw [List.getD_eq_getElem?_getD,List.getElem?_append_left (by omega),← List.getD_eq_getElem?_getD]
    rw [e]
    exact ⟨g1.but h1 (noInt_ll _ _) (by simpa using keep),g2⟩
  · have e : (bs ++ [b]).getD j [] = b := by
      rw [List.getD_eq_getElem?_getD,List.getElem?_append_right (by omega),show j - bs.length = 0 by omega]; rfl
    rw [if_neg hj2,e,show j - nq = 0 by omega]
    exact ⟨hx.but h1 (noInt_ll _ _) (by simpa using keep),hxs⟩
set_option maxRecDepth 20000 in
set_option maxHeartbeats 8000000 in
theorem l9Spread_c (n : Nat) (v w : Value) (es : List (Int × Int)) (p : List Int) (sl : Bool) (H : AH) (hr : RowP 53 H v es) (hlen : es.length ≤ 1000000) (hx : Row 3 H w p) (hg : Grd (n : Int) es) (hp : Bd n p) (hn : n ≤ 6) :
    ACalls Tryz.prog 43 [.agg (List.toArray [.int .i64 (n : Int),v]),w,.bool sl] H fun r H' => Own 3 H H' r (spL (mny n) (bdR es sl p)) ∧ H <+: H' := by
  have hpl := hp.2
  have hmn := mny_le hn
  refine in43 rfl ?_
  intro Q hQ
  simp (maxSteps := 1000000) (disch := omega) only [cd43,hr.boxG,SS,eq_self,reduceIte,reduceCtorEq,Nat.reduceEqDiff,Nat.reduceAdd]
  generalize hA : H ++ [AObj.cells [.int .i64 ↑n,v] 26 false] = A
  have pA : H <+: A := by rw [← hA]; exact List.prefix_append _ _
  have cA : A[H.length]? = some (.cells [.int .i64 ↑n,v] 26 false) := by rw [← hA]; exact at_new ..
  have rA := hr.pre pA
  have lA : A.length = H.length + 1 := by rw [← hA]; simp
  have hxA := hx.pre pA
  have hlw := hxA.len (P := Tryz.prog) Tryz.underlying27
  rw [hpl] at hlw
  simp (maxSteps := 1000000) (disch := omega) only [hlw,SS,eq_self,reduceIte,reduceCtorEq,Nat.reduceEqDiff,Nat.reduceAdd]
  refine CallH.by (l9Many_c n A (by omega)) ?_
  rintro _ _ ⟨rfl,rfl⟩
  obtain ⟨N,hN⟩ : ∃ N,N = mny n := ⟨_,rfl⟩
  rw [← hN] at hmn ⊢
  have mk := mks27 (n := (N : Int)) (by omega) (by omega) A
  rw [Int.toNat_natCast] at mk
  simp (maxSteps := 1000000) (disch := omega) only [mk,SS,eq_self,reduceIte,reduceCtorEq,Nat.reduceEqDiff,Nat.reduceAdd]
  generalize hZ : A ++ [AObj.cells (ints (List.replicate N 0)) 3 false] = Z
  have pZ : A <+: Z := by rw [← hZ]; exact List.prefix_append _ _
  have cZ : Z[A.length]? = some (.cells (ints (List.replicate N 0)) 3 false) := by rw [← hZ]; exact at_new ..
  have lZ : Z.length = A.length + 1 := by rw [← hZ]; simp
  refine LoopH.by (fun m s H' => ∃ j,m + j = N ∧ s 1 = w ∧ s 2 = .bool sl ∧ s 3 = .pointer (some ⟨H.length,0,none⟩) ∧ s 7 = .slice (some ⟨A.length,0,none⟩) N N ∧ s 8 = .int .i64 ((j : Nat) : Int) ∧ H' = Z.set A.length (.cells (ints (rpN N j)) 3 false)) N ?_ ?_
  · refine ⟨0,by omega,rfl,rfl,rfl,rfl,rfl,?_⟩
    have : rpN N 0 = List.replicate N 0 := by simp [rpN]
    rw [this]
    apply List.ext_getElem?
    intro j
    rw [List.getElem?_set]
    by_cases hj : A.length = j
    · subst hj; rw [if_pos rfl,if_pos (at_lt cZ),cZ]
    · rw [if_neg hj]
  rintro m s H' ⟨j,hm,h1,h2,h3,h7,h8,rfl⟩
  have cJ : (Z.set A.length (.cells (ints (rpN N j)) 3 false))[A.length]? = some (.cells (ints (rpN N j)) 3 false) := at_set cZ
  simp (maxSteps := 1000000) (disch := omega) only [h1,h2,h3,h7,h8,SS,eq_self,reduceIte,reduceCtorEq,Nat.reduceEqDiff,Nat.reduceAdd]
  refine brD.intro (fun g => ?_) (fun g => ?_)
  · have hj : j < (rpN N j).length := by rw [rpN_len _ _ (by omega)]; omega
    simp (maxSteps := 1000000) (disch := omega) only [h1,h2,h3,h7,h8,Int.toNat_natCast,Nat.zero_add,st_ints cs3 cJ hj,wrap64,SS,eq_self,reduceIte,reduceCtorEq,Nat.reduceEqDiff,Nat.reduceAdd]
    rw [List.set_set,rpN_set _ _ (by omega)]
    refine ⟨m - 1,by omega,j + 1,?_⟩
    (repeat' apply And.intro) <;> first | (simp only [Value.int.injEq,true_and]; omega) | omega | rfl | assumption | (simp; done) | (simp; omega)
  have hjN : j = N := by omega
  subst hjN
  have e3 : rpN j j = List.replicate j (-1) := by simp [rpN]
  rw [e3] at cJ
  rw [e3]
  have lJ : (Z.set A.length (.cells (ints (List.replicate j (-1))) 3 false)).length = Z.length := by simp
  have pJ : A <+: Z.set A.length (.cells (ints (List.replicate j (-1))) 3 false) := pre_set pZ (Nat.le_refl _) _
  generalize hJ : Z.set A.length (.cells (ints (List.replicate j (-1))) 3 false) = J at *
  have hok0 : ∀ e ∈ [(p,(0 : Int))],Bd n e.1 := fun e he => by
    simp only [List.mem_cons,List.not_mem_nil,or_false] at he
    subst he; exact hp
  have h0 := spL_snoc hn hp (st := []) (fun e he => by simp at he) (by simp) 0
  rw [List.nil_append,spL_nil,← hN] at h0
  obtain ⟨z,hz,hzl⟩ := cod_nat hn hp
  rw [hz,Int.toNat_natCast] at h0
  have hsto := st_ints (P := Tryz.prog) (t := 3) (x := 0) cs3 cJ (show z < (List.replicate j (-1 : Int)).length by simp; omega)
  rw [h0] at hsto
  simp (maxSteps := 1000000) (disch := omega) only [h1,h2,h3,h7,h8,SS,eq_self,reduceIte,reduceCtorEq,Nat.reduceEqDiff,Nat.reduceAdd]
  refine CallH.by (l9Code_c w p J (hxA.pre pJ) (by omega)) ?_
  rintro _ _ ⟨rfl,rfl⟩
  rw [hz]
  simp (maxSteps := 1000000) (disch := omega) only [h1,h2,h3,h7,h8,Int.toNat_natCast,Nat.zero_add,hsto,SS,eq_self,reduceIte,reduceCtorEq,Nat.reduceEqDiff,Nat.reduceAdd]
  generalize hB : J.set A.length (.cells (ints (spL j [(p,0)])) 3 false) = B
  have lB : B.length = Z.length := by rw [← hB,List.length_set]; exact lJ
  have cB : B[A.length]? = some (.cells (ints (spL j [(p,0)])) 3 false) := by rw [← hB]; exact at_set cJ
  have pB : A <+: B := by rw [← hB]; exact pre_set pJ (Nat.le_refl _) _
  refine CallH.by (l1Own_c w p B (hxA.pre pB) (by omega)) ?_
  rintro c C ⟨hc,pC⟩
  have lC := pC.length_le
  simp (maxSteps := 1000000) (disch := omega) only [h1,h2,h3,h7,h8,bsRowQ hc.row,SS,eq_self,reduceIte,reduceCtorEq,Nat.reduceEqDiff,Nat.reduceAdd]
  generalize hD : C ++ [AObj.cells [c] 27 false] = D
  have pD : C <+: D := by rw [← hD]; exact List.prefix_append _ _
  have cD : D[C.length]? = some (.cells [c] 27 false) := by rw [← hD]; exact at_new ..
  have lD : D.length = C.length + 1 := by rw [← hD]; simp
  have hcs : c = .slice none 0 0 ∨ rowO c ≠ A.length := by
    rcases hc with q | ⟨oo,q1,q2,_⟩
    · exact .inl q.1
    · refine .inr ?_
      rw [q1]
      show oo ≠ A.length
      omega
  have q0 : QA D A.length C.length 1 [p] := ⟨[c],cD,by simp,rfl,fun i hi => by
    obtain rfl : i = 0 := by omega
    exact ⟨hc.row.pre pD,hcs⟩⟩
  refine LoopH.by (fun m s H' => ∃ (st : List (List Int × Int)) (k oq : Nat),m + k = 721 ∧ s 2 = .bool sl ∧ s 3 = .pointer (some ⟨H.length,0,none⟩) ∧ s 7 = .slice (some ⟨A.length,0,none⟩) j j ∧ s 9 = .slice (some ⟨oq,0,none⟩) st.length st.length ∧ s 10 = .int .i64 ((k : Nat) : Int) ∧ BdI n (nxt es sl) p st k ∧ bdF (nxt es sl) m st k = bdR es sl p ∧
    H'[A.length]? = some (.cells (ints (spL j st)) 3 false) ∧ QA H' A.length oq st.length (st.map (·.1)) ∧ A.length < oq ∧ A <+: H') 721 ?_ ?_
  · refine ⟨[(p,0)],0,C.length,rfl,?_⟩
    have f1 := BdI.zero (nx := nxt es sl) hp
    have f2 : bdF (nxt es sl) 721 [(p,0)] 0 = bdR es sl p := rfl
    have f3 := pre_at (pC.trans pD) cB
    have f4 : A.length < C.length := by omega
    have f5 : A <+: D := pB.trans (pC.trans pD)
    simp (maxSteps := 1000000) (disch := omega) only [h2,h3,h7,SS,eq_self,reduceIte,reduceCtorEq,Nat.reduceEqDiff,Nat.reduceAdd]
    (repeat' first | exact f1 | exact f2 | exact f3 | exact q0 | exact f4 | exact f5 | apply And.intro) <;> first | (simp only [Value.int.injEq,true_and]; omega) | omega | rfl | assumption | (simp; done) | (simp; omega)
  clear h1 h2 h3 h7 h8 hsto h0
  rintro m s H' ⟨st,k,oq,hm,h2,h3,h7,h9,h10,hI,hF,hS,hQ',hoq,hpA⟩
  have hle := hI.len_le hn
  have hrH := hr.pre (pA.trans hpA)
  have cG := pre_at hpA cA
  simp (maxSteps := 1000000) (disch := omega) only [h2,h3,h7,h9,h10,SS,eq_self,reduceIte,reduceCtorEq,Nat.reduceEqDiff,Nat.reduceAdd]
  refine brD.intro (fun g => ?_) (fun g => ?_)
  rotate_left
  · simp (maxSteps := 1000000) (disch := omega) only [h7,SS,eq_self,reduceIte,reduceCtorEq,Nat.reduceEqDiff,Nat.reduceAdd]
    refine hQ _ _ _ ?_
    simp (maxSteps := 1000000) (disch := omega) only [h7,SS,eq_self,reduceIte,reduceCtorEq,Nat.reduceEqDiff,Nat.reduceAdd]
    rw [bdF_done (nxt es sl) m st k (by omega)] at hF
    rw [← hF,← hN]
    exact ⟨.inr ⟨A.length,by rw [spL_len],by omega,hS⟩,pA.trans hpA⟩
  have hk : k < st.length := by omega
  obtain ⟨f,rfl⟩ : ∃ f,m = f + 1 := ⟨m - 1,by omega⟩
  rw [bdF_step (nxt es sl) f st k hk] at hF
  have hum : st.getD k ([],0) ∈ st := by simp [hk]
  have hnx := fun b (hb : Bd n b) => nxt_bd hg sl hb
  have hstep := hI.step hnx hk
  have hur := hI.rng _ hum
  have hbd := hI.ok _ hum
  obtain ⟨u,hcu,hru⟩ := hQ'.at_ hk
  have hmk : (st.map (·.1)).getD k [] = (st.getD k ([],0)).1 := by
    rw [List.getD_eq_getElem?_getD,List.getElem?_map,List.getElem?_eq_getElem hk]
    simp [hk]
  rw [hmk] at hru
  generalize hu : st.getD k ([],0) = e0 at *
  obtain ⟨b,d0⟩ := e0
  have hst0 : st[k]? = some (b,d0) := by
    rw [List.getElem?_eq_getElem hk]
    have : st.getD k ([],0) = st[k] := by simp [hk]
    rw [← this,hu]
  simp (maxSteps := 1000000) (disch := omega) only [h2,h3,h7,h9,h10,ld_agg ag26 cs26 cG,Int.toNat_natCast,Nat.zero_add,hcu,SS,eq_self,reduceIte,reduceCtorEq,Nat.reduceEqDiff,Nat.reduceAdd]
  refine CallH.by (l9Next_c n v u es b sl H' hrH hlen hru hg hbd) ?_
  rintro _ G ⟨r,M,rfl,hL,hM,pG⟩
  have hGl := pG.length_le
  simp (maxSteps := 1000000) (disch := omega) only [h2,h3,h7,h9,h10,SS,eq_self,reduceIte,reduceCtorEq,Nat.reduceEqDiff,Nat.reduceAdd]
  have hnb := nxt_le hg hlen sl b
  generalize hNx : nxt es sl b = N2 at *
  have hNb : ∀ c ∈ N2,Bd n c := fun c hc => hnx b hbd c (by rw [hNx]; exact hc)
  have hAl : A.length < H'.length := at_lt hS
  have hoql : oq < H'.length := by obtain ⟨zs,g1,_⟩ := hQ'; exact at_lt g1
  refine LoopH.by (fun m' s' H2 => ∃ (i : Nat) (st' : List (List Int × Int)) (oq' : Nat),m' + i = N2.length ∧ s' 2 = .bool sl ∧ s' 3 = .pointer (some ⟨H.length,0,none⟩) ∧ s' 7 = .slice (some ⟨A.length,0,none⟩) j j ∧ s' 9 = .slice (some ⟨oq',0,none⟩) st'.length st'.length ∧ s' 10 = .int .i64 ((k : Nat) : Int) ∧ s' 11 = r ∧ s' 13 = .int .i64 ((i : Nat) : Int) ∧
    bdIn (d0 + 1) (N2.drop i) st' = bdIn (d0 + 1) N2 st ∧ st <+: st' ∧ (∀ e ∈ st',Bd n e.1) ∧ (∀ e ∈ st',0 ≤ e.2) ∧ (st'.map (·.1)).Nodup ∧ st'.length ≤ 720 ∧
    H2[A.length]? = some (.cells (ints (spL j st')) 3 false) ∧ QA H2 A.length oq' st'.length (st'.map (·.1)) ∧ (oq' = oq ∨ G.length ≤ oq') ∧ InL H'.length G.length 27 3 H2 r N2 ∧ G.length ≤ H2.length ∧ A <+: H2) N2.length ?_ ?_
  · refine ⟨0,st,oq,by simp,?_⟩
    simp (maxSteps := 1000000) (disch := omega) only [h2,h3,h7,h9,h10,SS,eq_self,reduceIte,reduceCtorEq,Nat.reduceEqDiff,Nat.reduceAdd]
    have f1 := hQ'.pre pG
    have f2 := pre_at pG hS
    have f4 := hpA.trans pG
    have f5 := hI.ok
    have f6 := hI.nd
    have f9 : ∀ e ∈ st,0 ≤ e.2 := fun e he => (hI.rng e he).1
    have f7 : bdIn (d0 + 1) (N2.drop 0) st = bdIn (d0 + 1) N2 st := rfl
    have f8 : st <+: st := List.prefix_refl _
    (repeat' first | exact f1 | exact f2 | exact f4 | exact f5 | exact f6 | exact f7 | exact f8 | exact f9 | exact hL | apply And.intro) <;> first | (simp only [Value.int.injEq,true_and]; omega) | omega | rfl | assumption | (simp; done) | (simp; omega)
  rintro m' s' H2 ⟨i,st',oq',hm',k2,k3,k7,k9,k10,k11,k13,hIn,hsp,hok,hnn,hnd,hsl',hS2,hQ2,hoq2,hL2,hGl2,hpA2⟩
  obtain ⟨us2,hus2,hul2,heach⟩ := hL2.parts
  simp (maxSteps := 1000000) (disch := omega) only [k2,k3,k7,k9,k10,k11,k13,hus2.len Tryz.underlying43,hul2,SS,eq_self,reduceIte,reduceCtorEq,Nat.reduceEqDiff,Nat.reduceAdd]
  refine brD.intro (fun q => ?_) (fun q => ?_)
  rotate_left
  · have hj : N2.length ≤ i := by omega
    rw [List.drop_of_length_le hj] at hIn
    have hIn' : st' = bdIn (d0 + 1) N2 st := hIn
    rw [← hIn'] at hF hstep
    have f1 : A.length < oq' := by omega
    simp (maxSteps := 1000000) (disch := omega) only [k2,k3,k7,k9,k10,wrap64,SS,eq_self,reduceIte,reduceCtorEq,Nat.reduceEqDiff,Nat.reduceAdd]
    refine ⟨f,by omega,st',k + 1,oq',?_⟩
    (repeat' first | exact hF | exact hstep | exact hS2 | exact hQ2 | exact hpA2 | exact f1 | apply And.intro) <;> first | (simp only [Value.int.injEq,true_and]; omega) | omega | rfl | assumption | (simp; done) | (simp; omega)
  have hi : i < N2.length := by omega
  have hrowI := heach i hi
  have hrow := hrowI.row.1
  have hcell := hus2.cell (show i < us2.length by omega)
  have hcm : N2.getD i [] ∈ N2 := by simp [hi]
  have hcb := hNb _ hcm
  rw [bdIn_drop (d0 + 1) N2 i hi] at hIn
  generalize hc : N2.getD i [] = c2 at *
  generalize hx2 : us2.getD i undef = x at *
  have hcbl := hcb.2
  obtain ⟨zc,hzc,hzcl⟩ := cod_nat hn hcb
  have hat := spL_at hn hcb hok
  rw [hzc,Int.toNat_natCast,← hN] at hat
  have hlsp := spL_len j st'
  have hcz : cellA H2 A.length zc = some (.int .i64 ((bdD st' c2).getD (-1))) := by
    rw [cell_of hS2,ints_at _ (by rw [hlsp]; omega),hat]
  simp (maxSteps := 1000000) (disch := omega) only [k2,k3,k7,k9,k10,k11,k13,hus2.ix Tryz.underlying43 cs27,hcell,Int.toNat_natCast,SS,eq_self,reduceIte,reduceCtorEq,Nat.reduceEqDiff,Nat.reduceAdd]
  refine CallH.by (l9Code_c x c2 H2 hrow (by omega)) ?_
  rintro _ _ ⟨rfl,rfl⟩
  rw [hzc]
  simp (maxSteps := 1000000) (disch := omega) only [k2,k3,k7,k9,k10,k11,k13,Int.toNat_natCast,Nat.zero_add,hcz,SS,eq_self,reduceIte,reduceCtorEq,Nat.reduceEqDiff,Nat.reduceAdd]
  have hsome : ((bdD st' c2).getD (-1) < 0) ↔ c2 ∉ st'.map (·.1) := by
    constructor
    · intro h hm2
      obtain ⟨e,he1,he2⟩ := List.mem_map.1 hm2
      have h5 := bdD_some hnd he1
      rw [he2] at h5
      rw [h5] at h
      simp only [Option.getD_some] at h
      have := hnn e he1
      omega
    · intro h
      rw [bdD_none h]; decide
  refine brD.intro (fun e => ?_) (fun e => ?_)
  rotate_left
  · rw [hsome] at e
    rw [if_pos (Decidable.not_not.1 e)] at hIn
    simp (maxSteps := 1000000) (disch := omega) only [k2,k3,k7,k9,k10,k11,k13,wrap64,SS,eq_self,reduceIte,reduceCtorEq,Nat.reduceEqDiff,Nat.reduceAdd]
    refine ⟨m' - 1,by omega,i + 1,st',oq',?_⟩
    (repeat' first | exact hIn | exact hsp | exact hok | exact hnn | exact hnd | exact hS2 | exact hQ2 | exact hoq2 | exact hL2 | exact hpA2 | apply And.intro) <;> first | (simp only [Value.int.injEq,true_and]; omega) | omega | rfl | assumption | (simp; done) | (simp; omega)
  have e' := hsome.1 e
  rw [if_neg e'] at hIn
  have hbm : (b,d0) ∈ st' := hsp.subset hum
  have hdb : bdD st' b = some d0 := bdD_some hnd hbm
  have hbl : b.length = n := hbd.2
  have hkl : k < st'.length := by have := hsp.length_le; omega
  obtain ⟨u2,hcu2,hru2⟩ := hQ2.at_ hkl
  have hstk : (st'.map (·.1)).getD k [] = b := by
    obtain ⟨t,ht⟩ := hsp
    rw [← ht,List.map_append,List.getD_eq_getElem?_getD,List.getElem?_append_left (by simpa using hk),List.getElem?_map,hst0]; rfl
  rw [hstk] at hru2
  obtain ⟨zb,hzb,hzbl⟩ := cod_nat hn hbd
  have hatb := spL_at hn hbd hok
  rw [hzb,Int.toNat_natCast,← hN,hdb] at hatb
  have hcb2 : cellA H2 A.length zb = some (.int .i64 d0) := by
    rw [cell_of hS2,ints_at _ (by rw [hlsp]; omega),hatb]; rfl
  have hst2 := st_ints (P := Tryz.prog) (t := 3) (x := d0 + 1) cs3 hS2 (show zc < (spL j st').length by rw [hlsp]; omega)
  have hsn := spL_snoc hn hcb hok e' (d0 + 1)
  rw [hzc,Int.toNat_natCast,← hN] at hsn
  rw [hsn] at hst2
  have hbnd : d0 < 720 := by have : d0 < (st.length : Int) := hur.2; omega
  have hbn0 : 0 ≤ d0 := hur.1
  simp (maxSteps := 1000000) (disch := omega) only [e,k2,k3,k7,k9,k10,k11,k13,hus2.ix Tryz.underlying43 cs27,hcell,Int.toNat_natCast,Nat.zero_add,hcu2,SS,eq_self,reduceIte,reduceCtorEq,Nat.reduceEqDiff,Nat.reduceAdd]
  refine CallH.by (l9Code_c x c2 H2 hrow (by omega)) ?_
  rintro _ _ ⟨rfl,rfl⟩
  simp (maxSteps := 1000000) (disch := omega) only [e,k2,k3,k7,k9,k10,k11,k13,Nat.zero_add,hcu2,SS,eq_self,reduceIte,reduceCtorEq,Nat.reduceEqDiff,Nat.reduceAdd]
  refine CallH.by (l9Code_c u2 b H2 hru2 (by omega)) ?_
  rintro _ _ ⟨rfl,rfl⟩
  rw [hzb,hzc]
  simp (maxSteps := 1000000) (disch := omega) only [e,k2,k3,k7,k9,k10,k11,k13,Int.toNat_natCast,Nat.zero_add,hcb2,wrap64,hst2,SS,eq_self,reduceIte,reduceCtorEq,Nat.reduceEqDiff,Nat.reduceAdd]
  generalize hH3 : H2.set A.length (.cells (ints (spL j (st' ++ [(c2,d0 + 1)]))) 3 false) = H3
  have l3 : H3.length = H2.length := by rw [← hH3]; simp
  have k3' : ∀ (j : Nat) (y : AObj),j ≠ A.length → H2[j]? = some y → H3[j]? = some y := fun j y hj hy => by rw [← hH3,List.getElem?_set_ne (fun e => hj e.symm)]; exact hy
  have m3 : H3[A.length]? = some (.cells (ints (spL j (st' ++ [(c2,d0 + 1)]))) 3 false) := by rw [← hH3]; exact at_set hS2
  have hoH : oq' ≠ A.length := by omega
  have hQ3 := hQ2.set hoH k3'
  have hxs : x = .slice none 0 0 ∨ rowO x ≠ A.length := by
    rcases hrowI.at_ with q1 | q1
    · exact .inl q1
    · exact .inr (by omega)
  have hrow3 : Row 3 H3 x c2 := by
    rcases hxs with q1 | q1
    · exact .inl ⟨q1,hrow.nilv q1⟩
    · exact hrow.mono fun y hy => k3' _ _ q1 hy
  have hL3 := hL2.frameQ (q := A.length) (.inl hAl) k3'
  have p3 : A <+: H3 := by rw [← hH3]; exact pre_set hpA2 (Nat.le_refl _) _
  obtain ⟨us3,hus3,hul3,heach3⟩ := hL3.parts
  have hcell3 := hus3.cell (show i < us3.length by omega)
  have hst'' : ∀ e ∈ st' ++ [(c2,d0 + 1)],Bd n e.1 := fun e he => by
    rcases List.mem_append.1 he with he | he
    · exact hok e he
    · simp only [List.mem_cons,List.not_mem_nil,or_false] at he
      rw [he]; exact hcb
  have hnn'' : ∀ e ∈ st' ++ [(c2,d0 + 1)],0 ≤ e.2 := fun e he => by
    rcases List.mem_append.1 he with he | he
    · exact hnn e he
    · simp only [List.mem_cons,List.not_mem_nil,or_false] at he
      rw [he]; show 0 ≤ d0 + 1; omega
  have hnd'' : ((st' ++ [(c2,d0 + 1)]).map (·.1)).Nodup := by
    rw [List.map_append,List.Nodup,List.pairwise_append]
    refine ⟨hnd,by simp,fun y hy z hz q => ?_⟩
    simp only [List.map_cons,List.map_nil,List.mem_cons,List.not_mem_nil,or_false] at hz
    subst hz; subst q; exact e' hy
  have hlen'' := bds_len hn hst'' hnd''
  have hrow3' := (heach3 i hi).row.1
  rw [hc] at hrow3'
  obtain ⟨H4,j1,j2,j3,j4⟩ := hQ3.push hrow3' (by
    rcases (heach3 i hi).at_ with q1 | q1
    · exact .inl q1
    · exact .inr (by omega)) (by omega)
  have hlm : (st' ++ [(c2,d0 + 1)]).length = st'.length + 1 := by simp
  have hmm : (st' ++ [(c2,d0 + 1)]).map (·.1) = st'.map (·.1) ++ [c2] := by simp
  rw [← hmm] at j2
  rw [← hlm] at j1 j2
  have f1 := j4 _ _ (fun h => hoH h.symm) m3
  have f3 := hL3.frameQ (q := oq') (by omega) j4
  have f4 : st <+: st' ++ [(c2,d0 + 1)] := hsp.trans (List.prefix_append _ _)
  have f6 : H3.length + 1 = oq ∨ G.length ≤ H3.length + 1 := .inr (by omega)
  have f7 : A <+: H4 := prefix_of fun i y hy => j4 i y (by have := at_lt hy; omega) (pre_at p3 hy)
  simp (maxSteps := 1000000) (disch := omega) only [k2,k3,k7,k9,k10,k11,k13,hus3.ix Tryz.underlying43 cs27,hcell3,Int.toNat_natCast,bsRowQ hrow3',j1,wrap64,SS,eq_self,reduceIte,reduceCtorEq,Nat.reduceEqDiff,Nat.reduceAdd]
  refine ⟨m' - 1,by omega,i + 1,st' ++ [(c2,d0 + 1)],H3.length + 1,?_⟩
  (repeat' first | exact hIn | exact f4 | exact hst'' | exact hnn'' | exact hnd'' | exact hlen'' | exact f1 | exact j2 | exact f6 | exact f3 | exact f7 | apply And.intro) <;> first | (simp only [Value.int.injEq,true_and]; omega) | omega | rfl | assumption | (simp; done) | (simp; omega)
theorem l9Told_c (d : Int) (H : AH) : ACalls Tryz.prog 47 [.int .i64 d] H fun r H' => r = .tuple (List.toArray [.int .i64 (if 0 < d then d else 0),.bool (decide (0 ≤ d))]) ∧ H = H' := by
  refine in47 rfl ?_
  intro Q hQ
  simp (maxSteps := 1000000) (disch := omega) only [cd47,SS,eq_self,reduceIte,reduceCtorEq,Nat.reduceEqDiff,Nat.reduceAdd]
  refine CallH.by (l1MostK_c d 0 H) ?_
  rintro _ _ ⟨rfl,rfl⟩
  simp (maxSteps := 1000000) (disch := omega) only [SS,eq_self,reduceIte,reduceCtorEq,Nat.reduceEqDiff,Nat.reduceAdd]
  refine hQ _ _ _ ?_
  simp (maxSteps := 1000000) (disch := omega) only [SS,eq_self,reduceIte,reduceCtorEq,Nat.reduceEqDiff,Nat.reduceAdd]
def ords105 : List (Nat × List (Nat × Bool)) := []
def cd105 : Cd := (.seq (.reg [⟨⟨some 2,Op.alloc 26,none⟩,[]⟩]) (.seq (.reg [⟨⟨some 3,Op.move (Operand.tmp 0),none⟩,[]⟩,
  ⟨⟨some 4,Op.call { callee := (Callee.value (Operand.func 123)),args := #[(Operand.tmp 3),(Operand.const (Value.int IntKind.i64 6))],argTypes := #[68,3] },none⟩,[]⟩,
  ⟨⟨none,Op.store 26 (Operand.tmp 2) (Operand.tmp 4),none⟩,[]⟩]) .ret))
theorem sl105 : slim Tryz.f105.ntmps ords105 (Tryz.f105.body.getD .skip) = some cd105 := by kernel_rfl
set_option maxRecDepth 20000 in
theorem in105 {args : List Value} {H : AH} {R : Value → AH → Prop} (hl : args.length = 1) (h : ∀ (Q : Exit → Sl → AH → Prop),(∀ e s H,endA Tryz.prog [ResultVar.cell 2 26] R e s H → Q e s H) → wpC Tryz.prog cd105 Q (enterA args) H) : ACalls Tryz.prog 105 args H R :=
  ACalls.intro (by kernel_rfl) Tryz.func105 rfl (by kernel_rfl) sl105 hl (of_decide_eq_true (by kernel_rfl)) (by kernel_rfl) h
end Go.Proofs.YtelafbennmclfaaGreat.Ai
namespace Go.Proofs.YtelafbennmclfaaGreat.Ai
open Go Go.RowKit
theorem GSt.putc {H : AH} {o gp : Nat} {v : Value} {us : List Value} {N0 : Nat} (h : Cur H o v us N0) (ho : o < H.length) (hgp : H.length < gp) {N1 L1 : Nat} {K1 : AH} (a b : Int) (hG : GSt H o gp v us N1 L1 K1) (hL : L1 ≤ 500) (hab : (-1 ≤ a ∧ a ≤ 9) ∧ -1 ≤ b ∧ b ≤ 9) :
    ∃ n' w',cellA K1 gp 1 = some w' ∧ K1[gp]? = some (.cells [.int .i64 n',w'] 26 false) ∧ ACalls Tryz.prog 95 [w',.agg (List.toArray [.int .i64 a,.int .i64 b])] K1 fun r K2 => ∃ K3,storeA Tryz.prog 24 (.pointer (some ⟨gp,1,none⟩)) r K2 = some K3 ∧ isTup r = false ∧ GSt H o gp v us N1 (L1 + 1) K3 ∧ K3[gp]? = some (.cells [.int .i64 n',r] 26 false) := by
  obtain ⟨n',w',ps,q1,q2,q3,q4,q5,q6,q7,q8,q9,q10⟩ := hG
  refine ⟨n',w',cell_of q2 1,q2,(l2PutPair_c w' ps a b q3 (by have := q10.1; omega) (by omega)).mono fun r K2 hr => ?_⟩
  obtain ⟨qs,r1,r2,r3,r4,r5⟩ := hr
  have lgp := at_lt q2
  have r6 : rowO r ≠ gp := by
    rcases r4 with e | e
    · rw [e]; exact q4
    · omega
  have r7 : rowO r ≠ H.length ∨ r = .slice none 0 0 := by
    rcases r4 with e | e
    · rw [e]; exact q5
    · exact .inl (by omega)
  obtain ⟨q,hq⟩ := r1.row.shape
  have t2 : r.cells.toList = [r] := by rw [hq]; rfl
  have hst := st_at (P := Tryz.prog) (t := 24) (i := 1) (y := r) cs24 (pre_at r5 q2) (by show 1 < 2; decide) r1.row.tup t2
  exact ⟨_,hst,r1.row.tup,GSt.put h ho hgp q1 q2 q3 q4 q5 (fun j y _ hy => pre_at r5 hy) r5.length_le r1 r6 r7 q6 (by omega : qs.length ≤ L1 + 1) (fun y hy => by
    rcases r3 y hy with e | e
    · exact q8 y e
    · rw [e]; exact hab) q9 q10,List.getElem?_set_self (at_lt (pre_at r5 q2))⟩
theorem GSt.cr {H : AH} {o gp : Nat} {v : Value} {us : List Value} {N L : Nat} {H' : AH} (h : GSt H o gp v us N L H') : Cur H' o v us N := by
  obtain ⟨_,_,_,_,_,_,_,_,_,_,_,q,_⟩ := h
  exact q
theorem graph_c {H : AH} {o : Nat} {v : Value} {us : List Value} {N : Nat} (h : Cur H o v us N) (hN : N ≤ 100000000) :
    ACalls Tryz.prog 105 [.pointer (some ⟨o,0,none⟩)] H fun r H' => ∃ (n : Int) (w : Value) (ps : List (Int × Int)),r = .agg (List.toArray [.int .i64 n,w]) ∧ MineP 53 H H' w ps ∧ I64 n ∧ ps.length ≤ 200 ∧ Sml ps ∧ Cur H' o v us (N + 1000) ∧ Keeps o H H' := by
  have ho : o < H.length := by
    obtain ⟨_,_,g,_⟩ := h.cur
    exact at_lt g
  refine in105 rfl ?_
  intro Q hQ
  simp (maxSteps := 1000000) (disch := omega) only [cd105,alloc_G,SS,eq_self,reduceIte,reduceCtorEq,Nat.reduceEqDiff,Nat.reduceAdd]
  generalize hA : H ++ [AObj.cells [.int .i64 0,.slice none 0 0] 26 false] = A
  have pA : H <+: A := by rw [← hA]; exact List.prefix_append _ _
  have cA : A[H.length]? = some (.cells [.int .i64 0,.slice none 0 0] 26 false) := by rw [← hA]; exact at_new ..
  have lA : A.length = H.length + 1 := by rw [← hA]; simp
  refine CallH.by (someGraph_c (h.pre pA) hN 6 (by omega)) ?_
  rintro _ K ⟨n,w,ps,rfl,hm,hn,hl,hs,hC,hK⟩
  have c1 := hK.2 _ _ (by omega) cA
  have hst := st_G hm.row c1 rfl n
  simp (maxSteps := 1000000) (disch := omega) only [hst,SS,eq_self,reduceIte,reduceCtorEq,Nat.reduceEqDiff,Nat.reduceAdd]
  have d4 := at_set (d := .cells [.int .i64 n,w] 26 false) c1
  have at_ : ∀ {j : Nat} {y : AObj},j ≠ H.length → K[j]? = some y → (K.set H.length (.cells [.int .i64 n,w] 26 false))[j]? = some y := fun hj hy => by rw [List.getElem?_set_ne (fun e => hj e.symm)]; exact hy
  obtain ⟨a,sd,c1',c2,c3⟩ := hC.cur
  refine hQ _ _ _ (end_cell _ _ _ _ _ _ (.agg (List.toArray [.int .i64 n,w])) ?_ rfl ⟨n,w,ps,rfl,?_,hn,hl,hs,⟨⟨a,sd,at_ (by omega) c1',c2,c3⟩,hC.row.mono fun y hy => at_ ?_ hy,hC.byt,hC.ap,hC.le⟩,⟨by have := hK.1; simp; omega,fun j y hj hy => at_ (by have := at_lt hy; omega) (hK.2 j y hj (pre_at pA hy))⟩⟩)
  · simp (maxSteps := 1000000) (disch := omega) only [ld_agg ag26 cs26 d4,SS,eq_self,reduceIte,reduceCtorEq,Nat.reduceEqDiff,Nat.reduceAdd]
  · rcases hm with z | ⟨q,zs,z1,z2,z3,z4⟩
    · exact .inl z
    · exact .inr ⟨q,zs,z1,by omega,at_ (by omega) z3,z4⟩
  · rcases h.row with q | ⟨o',k',vs',ro',e1,g2,_⟩
    · rw [q.1]
      show (0 : Nat) ≠ H.length
      omega
    · rw [e1]
      have := at_lt g2
      show o' ≠ H.length
      omega
def ords49 : List (Nat × List (Nat × Bool)) := [(6,[(0,false),(1,false),(2,false),(4,false),(5,false),(7,false),(8,false),(9,false),(3,true),(6,true),(10,true),(11,true)])]
def cd49 : Cd := (.seq (.reg [⟨⟨some 4,Op.assign (Operand.const (Value.slice none 0 0)),none⟩,[]⟩]) (.seq (.reg [⟨⟨some 8,Op.buildSlice 27 0 #[],none⟩,[]⟩,
  ⟨⟨some 5,Op.assign (Operand.tmp 8),none⟩,[]⟩]) (.seq (.seq (.reg [⟨⟨some 6,Op.assign (Operand.const (Value.int IntKind.i64 0)),none⟩,[]⟩]) (.block 0 (.loop (.seq (.seq (.reg [⟨⟨some 9,Op.move (Operand.tmp 6),none⟩,[]⟩,
  ⟨⟨some 10,Op.move (Operand.tmp 1),none⟩,[]⟩,
  ⟨⟨some 11,Op.binOp BinOp.lss 3 (Operand.tmp 9) (Operand.tmp 10) 3,none⟩,[]⟩,
  ⟨⟨some 12,Op.move (Operand.tmp 11),none⟩,[]⟩,
  ⟨⟨some 13,Op.move (Operand.tmp 6),some (12,true)⟩,[]⟩,
  ⟨⟨some 14,Op.binOp BinOp.lss 3 (Operand.tmp 13) (Operand.const (Value.int IntKind.i64 10)) 3,some (12,true)⟩,[]⟩,
  ⟨⟨some 15,Op.pick (Operand.tmp 12) (Operand.tmp 14) (Operand.const (Value.bool false)),none⟩,[]⟩]) (.cond (Operand.tmp 15) .skip (.exit 0))) (.seq (.block 1 (.seq (.reg [⟨⟨some 18,Op.move (Operand.tmp 0),none⟩,[]⟩,
  ⟨⟨some 19,Op.move (Operand.tmp 5),none⟩,[]⟩,
  ⟨⟨some 20,Op.call { callee := (Callee.builtin Builtin.len),args := #[(Operand.tmp 19)],argTypes := #[27] },none⟩,[]⟩,
  ⟨⟨some 21,Op.binOp BinOp.add 3 (Operand.tmp 20) (Operand.const (Value.int IntKind.i64 1)) 3,none⟩,[]⟩,
  ⟨⟨some 22,Op.call { callee := (Callee.value (Operand.func 51)),args := #[(Operand.tmp 18),(Operand.tmp 21)],argTypes := #[68,3] },none⟩,[]⟩,
  ⟨⟨some 7,Op.assign (Operand.tmp 22),none⟩,[]⟩]) (.reg [⟨⟨some 23,Op.move (Operand.tmp 5),none⟩,[]⟩,
  ⟨⟨some 24,Op.move (Operand.tmp 7),none⟩,[]⟩,
  ⟨⟨some 25,Op.slice 27 (Operand.tmp 23) none (some (Operand.tmp 24)) none,none⟩,[]⟩,
  ⟨⟨some 27,Op.move (Operand.tmp 6),none⟩,[]⟩,
  ⟨⟨some 28,Op.buildSlice 27 1 #[(0,(Operand.tmp 27))],none⟩,[]⟩,
  ⟨⟨some 30,Op.move (Operand.tmp 5),none⟩,[]⟩,
  ⟨⟨some 31,Op.move (Operand.tmp 7),none⟩,[]⟩,
  ⟨⟨some 32,Op.slice 27 (Operand.tmp 30) (some (Operand.tmp 31)) none none,none⟩,[]⟩,
  ⟨⟨some 26,Op.call { callee := (Callee.value (Operand.func 57)),args := #[(Operand.tmp 25)],argTypes := #[27] },none⟩,[⟨some 32,Op.slice 27 (Operand.tmp 30) (some (Operand.tmp 31)) none none,none⟩,⟨some 28,Op.buildSlice 27 1 #[(0,(Operand.tmp 27))],none⟩]⟩,
  ⟨⟨some 29,Op.call { callee := (Callee.builtin Builtin.append),args := #[(Operand.tmp 26),(Operand.tmp 28)],argTypes := #[27,27] },none⟩,[⟨some 32,Op.slice 27 (Operand.tmp 30) (some (Operand.tmp 31)) none none,none⟩]⟩,
  ⟨⟨some 33,Op.call { callee := (Callee.builtin Builtin.append),args := #[(Operand.tmp 29),(Operand.tmp 32)],argTypes := #[27,27] },none⟩,[]⟩,
  ⟨⟨some 5,Op.assign (Operand.tmp 33),none⟩,[]⟩]))) (.reg [⟨⟨some 16,Op.move (Operand.tmp 6),none⟩,[]⟩,
  ⟨⟨some 17,Op.binOp BinOp.add 3 (Operand.tmp 16) (Operand.const (Value.int IntKind.i64 1)) 3,none⟩,[]⟩,
  ⟨⟨some 6,Op.assign (Operand.tmp 17),none⟩,[]⟩])))))) (.seq (.seq (.reg [⟨⟨some 34,Op.move (Operand.tmp 0),none⟩,[]⟩,
  ⟨⟨some 35,Op.call { callee := (Callee.value (Operand.func 53)),args := #[(Operand.tmp 34),(Operand.const (Value.int IntKind.i64 20))],argTypes := #[68,3] },none⟩,[]⟩]) (.cond (Operand.tmp 35) (.reg [⟨⟨some 36,Op.move (Operand.tmp 5),none⟩,[]⟩,
  ⟨⟨some 37,Op.move (Operand.tmp 0),none⟩,[]⟩,
  ⟨⟨some 38,Op.buildSlice 27 3 #[(0,(Operand.const (Value.int IntKind.i64 0))),(1,(Operand.const (Value.int IntKind.i64 (-1)))),(2,(Operand.const (Value.int IntKind.i64 9)))],none⟩,[]⟩,
  ⟨⟨some 39,Op.call { callee := (Callee.value (Operand.func 96)),args := #[(Operand.tmp 37),(Operand.tmp 38)],argTypes := #[68,27] },none⟩,[]⟩,
  ⟨⟨some 40,Op.buildSlice 27 1 #[(0,(Operand.tmp 39))],none⟩,[]⟩,
  ⟨⟨some 41,Op.call { callee := (Callee.builtin Builtin.append),args := #[(Operand.tmp 36),(Operand.tmp 40)],argTypes := #[27,27] },none⟩,[]⟩,
  ⟨⟨some 5,Op.assign (Operand.tmp 41),none⟩,[]⟩]) .skip)) (.seq (.reg [⟨⟨some 42,Op.move (Operand.tmp 5),none⟩,[]⟩,
  ⟨⟨some 4,Op.assign (Operand.tmp 42),none⟩,[]⟩]) .ret)))))
theorem sl49 : slim Tryz.f49.ntmps ords49 (Tryz.f49.body.getD .skip) = some cd49 := by kernel_rfl
theorem in49 {args : List Value} {H : AH} {R : Value → AH → Prop} (hl : args.length = 2) (h : ∀ (Q : Exit → Sl → AH → Prop),(∀ e s H,endA Tryz.prog [ResultVar.tmp 4] R e s H → Q e s H) → wpC Tryz.prog cd49 Q (enterA args) H) : ACalls Tryz.prog 49 args H R :=
  ACalls.intro (by kernel_rfl) Tryz.func49 rfl (by kernel_rfl) sl49 hl (of_decide_eq_true (by kernel_rfl)) (by kernel_rfl) h
end Go.Proofs.YtelafbennmclfaaGreat.Ai
namespace Go.Proofs.YtelafbennmclfaaGreat.Ai
open Go Go.RowKit
set_option maxRecDepth 20000 in
set_option maxHeartbeats 4000000 in
theorem perm9_c {H : AH} {o : Nat} {v : Value} {us : List Value} {N : Nat} (h : Cur H o v us N) (hN : N ≤ 100000000) (n : Int) (hn : n ≤ 9) :
    ACalls Tryz.prog 49 [.pointer (some ⟨o,0,none⟩),.int .i64 (n : Int)] H fun r H' => ∃ p : List Int,Own 3 H H' r p ∧ (n ≤ (p.length : Int) ∧ p.length ≤ 10) ∧ (∀ y ∈ p,-1 ≤ y ∧ y ≤ 9) ∧ Cur H' o v us (N + 20) ∧ Keeps o H H' := by
  have hoH : o < H.length := by
    obtain ⟨_,_,g,_⟩ := h.cur
    exact at_lt g
  refine in49 rfl ?_
  intro Q hQ
  simp (maxSteps := 1000000) (disch := omega) only [cd49,SS,eq_self,reduceIte,reduceCtorEq,Nat.reduceEqDiff,Nat.reduceAdd]
  generalize hA : H ++ [AObj.cells [] 3 false] = A
  have pA : H <+: A := by rw [← hA]; exact List.prefix_append _ _
  have cA : A[H.length]? = some (.cells (ints []) 3 false) := by rw [← hA]; exact at_new ..
  have own0 : Own 3 H A (.slice (some ⟨H.length,0,none⟩) 0 0) [] := .inr ⟨H.length,rfl,Nat.le_refl _,cA⟩
  have hC0 := (h.pre pA).more (show N ≤ N + 0 by omega)
  have hK0 : Keeps o H A := .of_pre pA
  refine LoopH.by (fun m s H' => ∃ (i : Nat) (xs : List Int),m + i = n.toNat ∧ s 0 = .pointer (some ⟨o,0,none⟩) ∧ s 1 = .int .i64 (n : Int) ∧ s 6 = .int .i64 ((i : Nat) : Int) ∧ xs.length = i ∧ (∀ y ∈ xs,-1 ≤ y ∧ y ≤ 9) ∧ Own 3 H H' (s 5) xs ∧ Cur H' o v us (N + i) ∧ Keeps o H H') n.toNat ?_ ?_
  · refine ⟨0,[],?_⟩
    simp (maxSteps := 1000000) (disch := omega) only [SS,eq_self,reduceIte,reduceCtorEq,Nat.reduceEqDiff,Nat.reduceAdd]
    (repeat' first | exact own0 | exact hC0 | exact hK0 | apply And.intro) <;> first | (simp only [Value.int.injEq,true_and]; omega) | omega | rfl | assumption | (simp; done) | (simp; omega)
  rintro m s H' ⟨i,xs,hm,h0,h1,h6,hxl,hxr,hO,hC,hK⟩
  generalize hU : s 5 = U at *
  have hUrow := hO.row
  simp (maxSteps := 1000000) (disch := omega) only [h0,h1,h6,hU,SS,eq_self,reduceIte,reduceCtorEq,Nat.reduceEqDiff,Nat.reduceAdd]
  by_cases g : (i : Int) < (n : Int)
  · have g2 : (i : Int) < 10 := by omega
    simp (maxSteps := 1000000) (disch := omega) only [decide_eq_true g,decide_eq_true g2,h0,h1,h6,hU,hUrow.len Tryz.underlying27,wrap64,SS,eq_self,reduceIte,reduceCtorEq,Nat.reduceEqDiff,Nat.reduceAdd]
    refine CallH.by (pick_c hC (by omega) _ (by omega)) ?_
    rintro _ K ⟨⟨k,rfl,hk⟩,hCK,oK⟩
    have hkl : k ≤ xs.length := by omega
    have hOK := hO.keeps oK.keeps hoH
    have hrK := hOK.row
    have hKl : H.length ≤ K.length := by rw [oK.1]; exact hK.1
    obtain ⟨a1,a2,a3⟩ := hrK.slice (P := Tryz.prog) (t := 27) Tryz.underlying27 cs3 lo_none (bound_some (k := .i64) (i := (k : Int)) (by omega) xs.length) (Nat.zero_le _) (by rw [Int.toNat_natCast]; exact hkl)
    rw [Int.toNat_natCast] at a1 a2 a3
    rw [List.drop_zero,Nat.sub_zero] at a2
    generalize hK1 : K ++ [AObj.cells [.int .i64 (i : Int)] 3 false] = K1
    have pK1 : K <+: K1 := by rw [← hK1]; exact List.prefix_append _ _
    have at1 : K1[K.length]? = some (.cells [.int .i64 (i : Int)] 3 false) := by rw [← hK1]; exact at_new ..
    have sl2 : ∀ {G : AH},Row 3 G U xs → _ := fun {G} q => q.slice (P := Tryz.prog) (t := 27) Tryz.underlying27 cs3 (bound_some (k := .i64) (i := (k : Int)) (by omega) 0) (hi_none xs.length) (by rw [Int.toNat_natCast]; exact hkl) (Nat.le_refl _)
    have hr1 := hrK.pre pK1
    have b1 := (sl2 hr1).1
    rw [Int.toNat_natCast] at b1
    simp (maxSteps := 1000000) (disch := omega) only [h0,h1,h6,hU,a1,hK1,b1,SS,eq_self,reduceIte,reduceCtorEq,Nat.reduceEqDiff,Nat.reduceAdd]
    refine CallH.by (l1Own_c _ _ K1 (a2.pre pK1) (by simp; omega)) ?_
    rintro w1 L ⟨hw1,pL⟩
    have hkeq : L[K.length]? = K1[K.length]? := by rw [pre_at pL at1,at1]
    have hx1 : Row 3 L (.slice (some ⟨K.length,0,none⟩) 1 1) [(i : Int)] := .inr ⟨K.length,0,[.int .i64 (i : Int)],false,rfl,pre_at pL at1,by simp,rfl⟩
    obtain ⟨w2,L2,j1,j2,j3,j4,j5⟩ := hw1.app (P := Tryz.prog) (t := 27) Tryz.underlying27 cs3 (by rw [by3]; decide) zk3 hx1 pL (by simp; omega)
    have hrL := hr1.pre pL
    have b2 := (sl2 hrL).1
    have hrL2 := hr1.pre j3
    have b3 := (sl2 hrL2).1
    have b4 := (sl2 hrL2).2.1
    rw [Int.toNat_natCast] at b2 b3 b4
    have b5 : (xs.drop k).take (xs.length - k) = xs.drop k := List.take_of_length_le (by simp)
    rw [b5] at b4
    obtain ⟨w3,L3,q1,q2,q3,q4,q5⟩ := j2.app (P := Tryz.prog) (t := 27) Tryz.underlying27 cs3 (by rw [by3]; decide) zk3 b4 j3 (by simp; omega)
    have f1 : Own 3 H L3 w3 (xs.take k ++ [(i : Int)] ++ xs.drop k) := ownB q2 (by have := pK1.length_le; omega)
    have f2 : (xs.take k ++ [(i : Int)] ++ xs.drop k).length = i + 1 := by simp; omega
    have f3 : ∀ y ∈ xs.take k ++ [(i : Int)] ++ xs.drop k,-1 ≤ y ∧ y ≤ 9 := fun y hy => by
      simp only [List.mem_append,List.mem_singleton] at hy
      rcases hy with (hy | hy) | hy
      · exact hxr y (List.mem_of_mem_take hy)
      · omega
      · exact hxr y (List.mem_of_mem_drop hy)
    have f4 : Cur L3 o v us (N + (i + 1)) := hCK.pre (pK1.trans q3)
    have f5 : Keeps o H L3 := hK.trans (oK.keeps.trans (.of_pre (pK1.trans q3)))
    simp (maxSteps := 1000000) (disch := omega) only [h0,h1,h6,hU,hkeq,b2,b3,j1,q1,wrap64,SS,eq_self,reduceIte,reduceCtorEq,Nat.reduceEqDiff,Nat.reduceAdd]
    refine ⟨m - 1,by omega,i + 1,xs.take k ++ [(i : Int)] ++ xs.drop k,?_⟩
    (repeat' first | exact f2 | exact f3 | exact f1 | exact f4 | exact f5 | apply And.intro) <;> first | (simp only [Value.int.injEq,true_and]; omega) | omega | rfl | assumption | (simp; done) | (simp; omega)
  · have hin : n ≤ (i : Int) := by omega
    simp (maxSteps := 1000000) (disch := omega) only [decide_eq_false g,h0,hU,SS,eq_self,reduceIte,reduceCtorEq,Nat.reduceEqDiff,Nat.reduceAdd]
    refine CallH.by (one_c hC (by omega) 20 (by omega)) ?_
    rintro _ K ⟨⟨b,rfl⟩,hCK,oK⟩
    have hOK := hO.keeps oK.keeps hoH
    have hKl : H.length ≤ K.length := by rw [oK.1]; exact hK.1
    simp (maxSteps := 1000000) (disch := omega) only [SS,eq_self,reduceIte,reduceCtorEq,Nat.reduceEqDiff,Nat.reduceAdd]
    cases b with
    | false =>
      refine brH.intro (fun q => by cases q) (fun _ => ?_)
      simp (maxSteps := 1000000) (disch := omega) only [hU,SS,eq_self,reduceIte,reduceCtorEq,Nat.reduceEqDiff,Nat.reduceAdd]
      refine hQ _ _ _ ?_
      simp (maxSteps := 1000000) (disch := omega) only [hOK.row.tup,SS,eq_self,reduceIte,reduceCtorEq,Nat.reduceEqDiff,Nat.reduceAdd]
      exact ⟨xs,hOK,by omega,hxr,hCK.more (by omega),hK.trans oK.keeps⟩
    | true =>
      refine brH.intro (fun _ => ?_) (fun q => by cases q)
      simp (maxSteps := 1000000) (disch := omega) only [h0,hU,SS,eq_self,reduceIte,reduceCtorEq,Nat.reduceEqDiff,Nat.reduceAdd]
      generalize hK1 : K ++ [AObj.cells [.int .i64 0,.int .i64 (-1),.int .i64 9] 3 false] = K1
      have pK1 : K <+: K1 := by rw [← hK1]; exact List.prefix_append _ _
      have at1 : K1[K.length]? = some (.cells [.int .i64 0,.int .i64 (-1),.int .i64 9] 3 false) := by rw [← hK1]; exact at_new ..
      have hw : Row 3 K1 (.slice (some ⟨K.length,0,none⟩) 3 3) [0,-1,9] := .inr ⟨K.length,0,_,false,rfl,at1,by simp,rfl⟩
      refine CallH.by (among_c (hCK.pre pK1) (by omega) hw (by show K.length ≠ o; omega) (by simp)) ?_
      rintro _ L ⟨⟨x,rfl,hx⟩,hCL,oL⟩
      have hOL := (hOK.row.pre pK1)
      have hOL2 : Own 3 H L U xs := by
        have q : Own 3 H K1 U xs := by
          rcases hOK with q | ⟨oo,q1,q2,q3⟩
          · exact .inl q
          · exact .inr ⟨oo,q1,q2,pre_at pK1 q3⟩
        exact q.keeps oL.keeps hoH
      have hLl : H.length ≤ L.length := by rw [oL.1]; have := pK1.length_le; omega
      have hl0 : (L.take H.length).length = H.length := by simp; omega
      have ox : Own 3 (L.take H.length) L U xs := ownB hOL2 (by omega)
      obtain ⟨w2,L2,j1,j2,j3,j4,j5,j6⟩ := own1_27 ox (List.take_prefix _ _) (by omega) x
      have hle : L.length ≤ L2.length := by
        rcases j2 with ⟨_,q⟩ | ⟨oo,q1,q2,q3⟩
        · simp at q
        · have := at_lt q3
          rw [q1] at j5
          have : L.length ≤ oo := j5
          omega
      have hoU : U = .slice none 0 0 ∨ (H.length ≤ rowO U ∧ rowO U < L.length) := by
        rcases hOL2 with q | ⟨oo,q1,q2,q3⟩
        · exact .inl q.1
        · right; rw [q1]; exact ⟨q2,at_lt q3⟩
      have kp : ∀ (j : Nat) (y : AObj),j < H.length → L[j]? = some y → L2[j]? = some y := fun j y hj hy => j4 j y (hoU.imp id fun q => by omega) hy
      simp (maxSteps := 1000000) (disch := omega) only [hU,j1,SS,eq_self,reduceIte,reduceCtorEq,Nat.reduceEqDiff,Nat.reduceAdd]
      refine hQ _ _ _ ?_
      simp (maxSteps := 1000000) (disch := omega) only [j6,SS,eq_self,reduceIte,reduceCtorEq,Nat.reduceEqDiff,Nat.reduceAdd]
      obtain ⟨ca,cs,c1,c2,c3⟩ := hCL.cur
      have hx' : -1 ≤ x ∧ x ≤ 9 := by simp at hx; omega
      refine ⟨xs ++ [x],ownB j2 (by omega),by simp; omega,fun y hy => ?_,⟨⟨ca,cs,kp _ _ hoH c1,by omega,c3⟩,?_,hCL.byt,hCL.ap,hCL.le⟩,⟨by have := hK.1; omega,fun j y hj hy => ?_⟩⟩
      · rcases List.mem_append.1 hy with q | q
        · exact hxr y q
        · rw [List.mem_singleton] at q; omega
      · have hvl : v = .slice none 0 0 ∨ rowO v < H.length := by
          rcases h.row with q | ⟨o',k',vs',ro',e1,g2',_⟩
          · exact .inl q.1
          · right; rw [e1]; exact at_lt g2'
        rcases hCL.row with q | q
        · exact .inl q
        · refine RowV.mono (.inr q) fun y hy => ?_
          rcases hvl with g | g
          · obtain ⟨o',k',_,_,g1,_⟩ := q
            rw [g] at g1; cases g1
          · exact kp _ _ g hy
      · exact kp j y (at_lt hy) (oL.2 j y hj (pre_at pK1 (oK.2 j y hj (hK.2 j y hj hy))))
def ords72 : List (Nat × List (Nat × Bool)) := [(8,[(0,false),(1,false),(2,false),(3,false),(5,false),(4,true),(6,false),(7,true),(8,false),(9,true)]),(13,[(0,false),(1,false),(2,false),(3,false),(5,false),(4,true),(6,false),(7,true),(8,false),(9,true)])]
def cd72 : Cd := (.seq (.reg [⟨⟨some 2,Op.alloc 26,none⟩,[]⟩]) (.seq (.seq (.reg [⟨⟨some 7,Op.move (Operand.tmp 0),none⟩,[]⟩,
  ⟨⟨some 8,Op.call { callee := (Callee.value (Operand.func 53)),args := #[(Operand.tmp 7),(Operand.const (Value.int IntKind.i64 12))],argTypes := #[68,3] },none⟩,[]⟩]) (.cond (Operand.tmp 8) (.seq (.reg [⟨⟨some 9,Op.move (Operand.tmp 0),none⟩,[]⟩,
  ⟨⟨some 10,Op.call { callee := (Callee.value (Operand.func 105)),args := #[(Operand.tmp 9)],argTypes := #[68] },none⟩,[]⟩,
  ⟨⟨none,Op.store 26 (Operand.tmp 2) (Operand.tmp 10),none⟩,[]⟩]) .ret) .skip)) (.seq (.reg [⟨⟨some 11,Op.move (Operand.tmp 0),none⟩,[]⟩,
  ⟨⟨some 12,Op.buildSlice 27 7 #[(0,(Operand.const (Value.int IntKind.i64 4))),(1,(Operand.const (Value.int IntKind.i64 3))),(2,(Operand.const (Value.int IntKind.i64 5))),(3,(Operand.const (Value.int IntKind.i64 4))),(4,(Operand.const (Value.int IntKind.i64 2))),(5,(Operand.const (Value.int IntKind.i64 1))),(6,(Operand.const (Value.int IntKind.i64 0)))],none⟩,[]⟩,
  ⟨⟨some 13,Op.call { callee := (Callee.value (Operand.func 96)),args := #[(Operand.tmp 11),(Operand.tmp 12)],argTypes := #[68,27] },none⟩,[]⟩,
  ⟨⟨some 14,Op.buildSlice 24 0 #[],none⟩,[]⟩,
  ⟨⟨some 15,Op.build 26 #[(0,(Operand.tmp 13)),(1,(Operand.tmp 14))],none⟩,[]⟩,
  ⟨⟨some 3,Op.alloc 26,none⟩,[]⟩,
  ⟨⟨none,Op.store 26 (Operand.tmp 3) (Operand.tmp 15),none⟩,[]⟩]) (.seq (.seq (.reg [⟨⟨some 4,Op.assign (Operand.const (Value.int IntKind.i64 1)),none⟩,[]⟩]) (.block 0 (.loop (.seq (.seq (.reg [⟨⟨some 16,Op.move (Operand.tmp 4),none⟩,[]⟩,
  ⟨⟨some 17,Op.fieldAddr 26 (Operand.tmp 3) 0,none⟩,[]⟩,
  ⟨⟨some 18,Op.load 3 (Operand.tmp 17),none⟩,[]⟩,
  ⟨⟨some 19,Op.binOp BinOp.lss 3 (Operand.tmp 16) (Operand.tmp 18) 3,none⟩,[]⟩]) (.cond (Operand.tmp 19) .skip (.exit 0))) (.seq (.block 1 (.seq (.reg [⟨⟨some 22,Op.move (Operand.tmp 0),none⟩,[]⟩,
  ⟨⟨some 23,Op.call { callee := (Callee.value (Operand.func 53)),args := #[(Operand.tmp 22),(Operand.const (Value.int IntKind.i64 16))],argTypes := #[68,3] },none⟩,[]⟩,
  ⟨⟨some 24,Op.unOp UnOp.not 4 (Operand.tmp 23),none⟩,[]⟩]) (.cond (Operand.tmp 24) (.reg [⟨⟨some 25,Op.fieldAddr 26 (Operand.tmp 3) 1,none⟩,[]⟩,
  ⟨⟨some 26,Op.load 24 (Operand.tmp 25),none⟩,[]⟩,
  ⟨⟨some 27,Op.move (Operand.tmp 0),none⟩,[]⟩,
  ⟨⟨some 28,Op.move (Operand.tmp 4),none⟩,[]⟩,
  ⟨⟨some 30,Op.move (Operand.tmp 4),none⟩,[]⟩,
  ⟨⟨some 29,Op.call { callee := (Callee.value (Operand.func 51)),args := #[(Operand.tmp 27),(Operand.tmp 28)],argTypes := #[68,3] },none⟩,[⟨some 26,Op.load 24 (Operand.tmp 25),none⟩]⟩,
  ⟨⟨some 31,Op.build 53 #[(0,(Operand.tmp 29)),(1,(Operand.tmp 30))],none⟩,[]⟩,
  ⟨⟨some 32,Op.call { callee := (Callee.value (Operand.func 95)),args := #[(Operand.tmp 26),(Operand.tmp 31)],argTypes := #[24,53] },none⟩,[]⟩,
  ⟨⟨some 33,Op.fieldAddr 26 (Operand.tmp 3) 1,none⟩,[]⟩,
  ⟨⟨none,Op.store 24 (Operand.tmp 33) (Operand.tmp 32),none⟩,[]⟩]) .skip))) (.reg [⟨⟨some 20,Op.move (Operand.tmp 4),none⟩,[]⟩,
  ⟨⟨some 21,Op.binOp BinOp.add 3 (Operand.tmp 20) (Operand.const (Value.int IntKind.i64 1)) 3,none⟩,[]⟩,
  ⟨⟨some 4,Op.assign (Operand.tmp 21),none⟩,[]⟩])))))) (.seq (.seq (.reg [⟨⟨some 34,Op.move (Operand.tmp 0),none⟩,[]⟩,
  ⟨⟨some 35,Op.call { callee := (Callee.value (Operand.func 51)),args := #[(Operand.tmp 34),(Operand.const (Value.int IntKind.i64 4))],argTypes := #[68,3] },none⟩,[]⟩,
  ⟨⟨some 5,Op.assign (Operand.tmp 35),none⟩,[]⟩]) (.block 2 (.loop (.seq (.seq (.reg [⟨⟨some 36,Op.move (Operand.tmp 5),none⟩,[]⟩,
  ⟨⟨some 37,Op.binOp BinOp.gtr 3 (Operand.tmp 36) (Operand.const (Value.int IntKind.i64 0)) 3,none⟩,[]⟩,
  ⟨⟨some 38,Op.move (Operand.tmp 37),none⟩,[]⟩,
  ⟨⟨some 39,Op.fieldAddr 26 (Operand.tmp 3) 0,some (38,true)⟩,[]⟩,
  ⟨⟨some 40,Op.load 3 (Operand.tmp 39),some (38,true)⟩,[]⟩,
  ⟨⟨some 41,Op.binOp BinOp.gtr 3 (Operand.tmp 40) (Operand.const (Value.int IntKind.i64 2)) 3,some (38,true)⟩,[]⟩,
  ⟨⟨some 42,Op.pick (Operand.tmp 38) (Operand.tmp 41) (Operand.const (Value.bool false)),none⟩,[]⟩]) (.cond (Operand.tmp 42) .skip (.exit 2))) (.seq (.block 3 (.seq (.reg [⟨⟨some 45,Op.move (Operand.tmp 0),none⟩,[]⟩,
  ⟨⟨some 46,Op.fieldAddr 26 (Operand.tmp 3) 0,none⟩,[]⟩,
  ⟨⟨some 47,Op.load 3 (Operand.tmp 46),none⟩,[]⟩,
  ⟨⟨some 48,Op.binOp BinOp.sub 3 (Operand.tmp 47) (Operand.const (Value.int IntKind.i64 1)) 3,none⟩,[]⟩,
  ⟨⟨some 49,Op.call { callee := (Callee.value (Operand.func 51)),args := #[(Operand.tmp 45),(Operand.tmp 48)],argTypes := #[68,3] },none⟩,[]⟩,
  ⟨⟨some 50,Op.binOp BinOp.add 3 (Operand.const (Value.int IntKind.i64 1)) (Operand.tmp 49) 3,none⟩,[]⟩,
  ⟨⟨some 6,Op.assign (Operand.tmp 50),none⟩,[]⟩]) (.reg [⟨⟨some 51,Op.fieldAddr 26 (Operand.tmp 3) 1,none⟩,[]⟩,
  ⟨⟨some 52,Op.load 24 (Operand.tmp 51),none⟩,[]⟩,
  ⟨⟨some 53,Op.move (Operand.tmp 0),none⟩,[]⟩,
  ⟨⟨some 54,Op.move (Operand.tmp 6),none⟩,[]⟩,
  ⟨⟨some 56,Op.move (Operand.tmp 6),none⟩,[]⟩,
  ⟨⟨some 55,Op.call { callee := (Callee.value (Operand.func 51)),args := #[(Operand.tmp 53),(Operand.tmp 54)],argTypes := #[68,3] },none⟩,[⟨some 52,Op.load 24 (Operand.tmp 51),none⟩]⟩,
  ⟨⟨some 57,Op.build 53 #[(0,(Operand.tmp 55)),(1,(Operand.tmp 56))],none⟩,[]⟩,
  ⟨⟨some 58,Op.call { callee := (Callee.value (Operand.func 95)),args := #[(Operand.tmp 52),(Operand.tmp 57)],argTypes := #[24,53] },none⟩,[]⟩,
  ⟨⟨some 59,Op.fieldAddr 26 (Operand.tmp 3) 1,none⟩,[]⟩,
  ⟨⟨none,Op.store 24 (Operand.tmp 59) (Operand.tmp 58),none⟩,[]⟩]))) (.reg [⟨⟨some 43,Op.move (Operand.tmp 5),none⟩,[]⟩,
  ⟨⟨some 44,Op.binOp BinOp.sub 3 (Operand.tmp 43) (Operand.const (Value.int IntKind.i64 1)) 3,none⟩,[]⟩,
  ⟨⟨some 5,Op.assign (Operand.tmp 44),none⟩,[]⟩])))))) (.seq (.reg [⟨⟨some 60,Op.load 26 (Operand.tmp 3),none⟩,[]⟩,
  ⟨⟨none,Op.store 26 (Operand.tmp 2) (Operand.tmp 60),none⟩,[]⟩]) .ret))))))
theorem sl72 : slim Tryz.f72.ntmps ords72 (Tryz.f72.body.getD .skip) = some cd72 := by kernel_rfl
set_option maxRecDepth 20000 in
theorem in72 {args : List Value} {H : AH} {R : Value → AH → Prop} (hl : args.length = 1) (h : ∀ (Q : Exit → Sl → AH → Prop),(∀ e s H,endA Tryz.prog [ResultVar.cell 2 26] R e s H → Q e s H) → wpC Tryz.prog cd72 Q (enterA args) H) : ACalls Tryz.prog 72 args H R :=
  ACalls.intro (by kernel_rfl) Tryz.func72 rfl (by kernel_rfl) sl72 hl (of_decide_eq_true (by kernel_rfl)) (by kernel_rfl) h
def ords48 : List (Nat × List (Nat × Bool)) := []
def cd48 : Cd := (.seq (.reg [⟨⟨some 2,Op.alloc 26,none⟩,[]⟩]) (.seq (.reg [⟨⟨some 8,Op.move (Operand.tmp 0),none⟩,[]⟩,
  ⟨⟨some 9,Op.call { callee := (Callee.value (Operand.func 51)),args := #[(Operand.tmp 8),(Operand.const (Value.int IntKind.i64 3))],argTypes := #[68,3] },none⟩,[]⟩,
  ⟨⟨some 10,Op.binOp BinOp.add 3 (Operand.const (Value.int IntKind.i64 3)) (Operand.tmp 9) 3,none⟩,[]⟩,
  ⟨⟨some 11,Op.buildSlice 24 0 #[],none⟩,[]⟩,
  ⟨⟨some 12,Op.build 26 #[(0,(Operand.tmp 10)),(1,(Operand.tmp 11))],none⟩,[]⟩,
  ⟨⟨some 3,Op.alloc 26,none⟩,[]⟩,
  ⟨⟨none,Op.store 26 (Operand.tmp 3) (Operand.tmp 12),none⟩,[]⟩]) (.seq (.reg [⟨⟨some 13,Op.move (Operand.tmp 0),none⟩,[]⟩,
  ⟨⟨some 14,Op.call { callee := (Callee.value (Operand.func 51)),args := #[(Operand.tmp 13),(Operand.const (Value.int IntKind.i64 6))],argTypes := #[68,3] },none⟩,[]⟩,
  ⟨⟨some 4,Op.assign (Operand.tmp 14),none⟩,[]⟩]) (.seq (.seq (.reg [⟨⟨some 15,Op.move (Operand.tmp 4),none⟩,[]⟩,
  ⟨⟨some 16,Op.binOp BinOp.gtr 3 (Operand.tmp 15) (Operand.const (Value.int IntKind.i64 3)) 3,none⟩,[]⟩]) (.cond (Operand.tmp 16) (.seq (.reg [⟨⟨some 17,Op.move (Operand.tmp 0),none⟩,[]⟩,
  ⟨⟨some 18,Op.call { callee := (Callee.value (Operand.func 72)),args := #[(Operand.tmp 17)],argTypes := #[68] },none⟩,[]⟩,
  ⟨⟨none,Op.store 26 (Operand.tmp 2) (Operand.tmp 18),none⟩,[]⟩]) .ret) .skip)) (.seq (.seq (.reg [⟨⟨some 5,Op.assign (Operand.const (Value.int IntKind.i64 1)),none⟩,[]⟩]) (.block 0 (.loop (.seq (.seq (.reg [⟨⟨some 19,Op.move (Operand.tmp 5),none⟩,[]⟩,
  ⟨⟨some 20,Op.fieldAddr 26 (Operand.tmp 3) 0,none⟩,[]⟩,
  ⟨⟨some 21,Op.load 3 (Operand.tmp 20),none⟩,[]⟩,
  ⟨⟨some 22,Op.binOp BinOp.lss 3 (Operand.tmp 19) (Operand.tmp 21) 3,none⟩,[]⟩]) (.cond (Operand.tmp 22) .skip (.exit 0))) (.seq (.block 1 (.seq (.reg [⟨⟨some 6,Op.assign (Operand.const (Value.int IntKind.i64 0)),none⟩,[]⟩]) (.block 2 (.loop (.seq (.seq (.reg [⟨⟨some 25,Op.move (Operand.tmp 6),none⟩,[]⟩,
  ⟨⟨some 26,Op.move (Operand.tmp 5),none⟩,[]⟩,
  ⟨⟨some 27,Op.binOp BinOp.lss 3 (Operand.tmp 25) (Operand.tmp 26) 3,none⟩,[]⟩]) (.cond (Operand.tmp 27) .skip (.exit 2))) (.seq (.block 3 (.seq (.reg [⟨⟨some 30,Op.move (Operand.tmp 6),none⟩,[]⟩,
  ⟨⟨some 31,Op.binOp BinOp.add 3 (Operand.tmp 30) (Operand.const (Value.int IntKind.i64 1)) 3,none⟩,[]⟩,
  ⟨⟨some 32,Op.move (Operand.tmp 5),none⟩,[]⟩,
  ⟨⟨some 33,Op.binOp BinOp.eql 3 (Operand.tmp 31) (Operand.tmp 32) 3,none⟩,[]⟩,
  ⟨⟨some 34,Op.move (Operand.tmp 33),none⟩,[]⟩,
  ⟨⟨some 35,Op.move (Operand.tmp 4),some (34,false)⟩,[]⟩,
  ⟨⟨some 36,Op.binOp BinOp.eql 3 (Operand.tmp 35) (Operand.const (Value.int IntKind.i64 1)) 3,some (34,false)⟩,[]⟩,
  ⟨⟨some 37,Op.move (Operand.tmp 36),some (34,false)⟩,[]⟩,
  ⟨⟨some 38,Op.move (Operand.tmp 6),some (37,true)⟩,[]⟩,
  ⟨⟨some 39,Op.binOp BinOp.eql 3 (Operand.tmp 38) (Operand.const (Value.int IntKind.i64 0)) 3,some (37,true)⟩,[]⟩,
  ⟨⟨some 40,Op.pick (Operand.tmp 37) (Operand.tmp 39) (Operand.const (Value.bool false)),some (34,false)⟩,[]⟩,
  ⟨⟨some 41,Op.move (Operand.tmp 40),some (34,false)⟩,[]⟩,
  ⟨⟨some 42,Op.move (Operand.tmp 5),some (41,true)⟩,[]⟩,
  ⟨⟨some 43,Op.binOp BinOp.add 3 (Operand.tmp 42) (Operand.const (Value.int IntKind.i64 1)) 3,some (41,true)⟩,[]⟩,
  ⟨⟨some 44,Op.fieldAddr 26 (Operand.tmp 3) 0,some (41,true)⟩,[]⟩,
  ⟨⟨some 45,Op.load 3 (Operand.tmp 44),some (41,true)⟩,[]⟩,
  ⟨⟨some 46,Op.binOp BinOp.eql 3 (Operand.tmp 43) (Operand.tmp 45) 3,some (41,true)⟩,[]⟩,
  ⟨⟨some 47,Op.pick (Operand.tmp 41) (Operand.tmp 46) (Operand.const (Value.bool false)),some (34,false)⟩,[]⟩,
  ⟨⟨some 48,Op.pick (Operand.tmp 34) (Operand.const (Value.bool true)) (Operand.tmp 47),none⟩,[]⟩,
  ⟨⟨some 7,Op.assign (Operand.tmp 48),none⟩,[]⟩]) (.seq (.reg [⟨⟨some 49,Op.move (Operand.tmp 4),none⟩,[]⟩,
  ⟨⟨some 50,Op.binOp BinOp.eql 3 (Operand.tmp 49) (Operand.const (Value.int IntKind.i64 0)) 3,none⟩,[]⟩,
  ⟨⟨some 51,Op.move (Operand.tmp 50),none⟩,[]⟩,
  ⟨⟨some 52,Op.move (Operand.tmp 4),some (51,false)⟩,[]⟩,
  ⟨⟨some 53,Op.binOp BinOp.lss 3 (Operand.tmp 52) (Operand.const (Value.int IntKind.i64 3)) 3,some (51,false)⟩,[]⟩,
  ⟨⟨some 54,Op.move (Operand.tmp 53),some (51,false)⟩,[]⟩,
  ⟨⟨some 55,Op.move (Operand.tmp 7),some (54,true)⟩,[]⟩,
  ⟨⟨some 56,Op.pick (Operand.tmp 54) (Operand.tmp 55) (Operand.const (Value.bool false)),some (51,false)⟩,[]⟩,
  ⟨⟨some 57,Op.pick (Operand.tmp 51) (Operand.const (Value.bool true)) (Operand.tmp 56),none⟩,[]⟩,
  ⟨⟨some 58,Op.move (Operand.tmp 57),none⟩,[]⟩,
  ⟨⟨some 59,Op.move (Operand.tmp 4),some (58,false)⟩,[]⟩,
  ⟨⟨some 60,Op.binOp BinOp.eql 3 (Operand.tmp 59) (Operand.const (Value.int IntKind.i64 3)) 3,some (58,false)⟩,[]⟩,
  ⟨⟨some 61,Op.move (Operand.tmp 60),some (58,false)⟩,[]⟩,
  ⟨⟨some 62,Op.move (Operand.tmp 6),some (61,true)⟩,[]⟩,
  ⟨⟨some 63,Op.binOp BinOp.eql 3 (Operand.tmp 62) (Operand.const (Value.int IntKind.i64 0)) 3,some (61,true)⟩,[]⟩,
  ⟨⟨some 64,Op.pick (Operand.tmp 61) (Operand.tmp 63) (Operand.const (Value.bool false)),some (58,false)⟩,[]⟩,
  ⟨⟨some 65,Op.pick (Operand.tmp 58) (Operand.const (Value.bool true)) (Operand.tmp 64),none⟩,[]⟩]) (.cond (Operand.tmp 65) (.reg [⟨⟨some 66,Op.fieldAddr 26 (Operand.tmp 3) 1,none⟩,[]⟩,
  ⟨⟨some 67,Op.load 24 (Operand.tmp 66),none⟩,[]⟩,
  ⟨⟨some 68,Op.move (Operand.tmp 6),none⟩,[]⟩,
  ⟨⟨some 69,Op.move (Operand.tmp 5),none⟩,[]⟩,
  ⟨⟨some 70,Op.build 53 #[(0,(Operand.tmp 68)),(1,(Operand.tmp 69))],none⟩,[]⟩,
  ⟨⟨some 71,Op.call { callee := (Callee.value (Operand.func 95)),args := #[(Operand.tmp 67),(Operand.tmp 70)],argTypes := #[24,53] },none⟩,[]⟩,
  ⟨⟨some 72,Op.fieldAddr 26 (Operand.tmp 3) 1,none⟩,[]⟩,
  ⟨⟨none,Op.store 24 (Operand.tmp 72) (Operand.tmp 71),none⟩,[]⟩]) .skip)))) (.reg [⟨⟨some 28,Op.move (Operand.tmp 6),none⟩,[]⟩,
  ⟨⟨some 29,Op.binOp BinOp.add 3 (Operand.tmp 28) (Operand.const (Value.int IntKind.i64 1)) 3,none⟩,[]⟩,
  ⟨⟨some 6,Op.assign (Operand.tmp 29),none⟩,[]⟩]))))))) (.reg [⟨⟨some 23,Op.move (Operand.tmp 5),none⟩,[]⟩,
  ⟨⟨some 24,Op.binOp BinOp.add 3 (Operand.tmp 23) (Operand.const (Value.int IntKind.i64 1)) 3,none⟩,[]⟩,
  ⟨⟨some 5,Op.assign (Operand.tmp 24),none⟩,[]⟩])))))) (.seq (.reg [⟨⟨some 73,Op.load 26 (Operand.tmp 3),none⟩,[]⟩,
  ⟨⟨none,Op.store 26 (Operand.tmp 2) (Operand.tmp 73),none⟩,[]⟩]) .ret))))))
theorem sl48 : slim Tryz.f48.ntmps ords48 (Tryz.f48.body.getD .skip) = some cd48 := by kernel_rfl
set_option maxRecDepth 20000 in
theorem in48 {args : List Value} {H : AH} {R : Value → AH → Prop} (hl : args.length = 1) (h : ∀ (Q : Exit → Sl → AH → Prop),(∀ e s H,endA Tryz.prog [ResultVar.cell 2 26] R e s H → Q e s H) → wpC Tryz.prog cd48 Q (enterA args) H) : ACalls Tryz.prog 48 args H R :=
  ACalls.intro (by kernel_rfl) Tryz.func48 rfl (by kernel_rfl) sl48 hl (of_decide_eq_true (by kernel_rfl)) (by kernel_rfl) h
end Go.Proofs.YtelafbennmclfaaGreat.Ai
namespace Go.Proofs.YtelafbennmclfaaGreat.Ai
open Go Go.RowKit
theorem retG9 {H K : AH} {o : Nat} {v : Value} {us : List Value} {N M : Nat} (h : Cur H o v us N) {n : Int} {w : Value} {ps : List (Int × Int)} (q1 : K[H.length]? = some (.cells [.int .i64 0,.slice none 0 0] 26 false)) (q3 : MineP 53 H K w ps) (q5 : rowO w ≠ H.length ∨ w = .slice none 0 0) (q9 : Cur K o v us M) (q10 : Keeps o H K) :
    (K.set H.length (.cells [.int .i64 n,w] 26 false))[H.length]? = some (.cells [.int .i64 n,w] 26 false) ∧ MineP 53 H (K.set H.length (.cells [.int .i64 n,w] 26 false)) w ps ∧ Cur (K.set H.length (.cells [.int .i64 n,w] 26 false)) o v us M ∧ Keeps o H (K.set H.length (.cells [.int .i64 n,w] 26 false)) := by
  have ho : o < H.length := by
    obtain ⟨_,_,g,_⟩ := h.cur
    exact at_lt g
  have at_ : ∀ {j : Nat} {y : AObj},j ≠ H.length → K[j]? = some y → (K.set H.length (.cells [.int .i64 n,w] 26 false))[j]? = some y := fun hj hy => by rw [List.getElem?_set_ne (fun e => hj e.symm)]; exact hy
  obtain ⟨a,sd,c1,c2,c3⟩ := q9.cur
  refine ⟨at_set q1,?_,⟨⟨a,sd,at_ (by omega) c1,c2,c3⟩,q9.row.mono fun y hy => at_ ?_ hy,q9.byt,q9.ap,q9.le⟩,⟨by have := q10.1; simp; omega,fun j y hj hy => at_ (by have := at_lt hy; omega) (q10.2 j y hj hy)⟩⟩
  · rcases q5 with e | e
    · exact q3.keep fun y hy => at_ e hy
    · rcases q3 with z | ⟨_,_,z,_⟩
      · exact .inl z
      · rw [z] at e; cases e
  · rcases h.row with q | ⟨o',k',vs',ro',e1,g2,_⟩
    · rw [q.1]
      show (0 : Nat) ≠ H.length
      omega
    · rw [e1]
      have := at_lt g2
      show o' ≠ H.length
      omega
theorem GSt.pickPut {H : AH} {o gp : Nat} {v : Value} {us : List Value} {N0 : Nat} (h : Cur H o v us N0) (ho : o < H.length) (hgp : H.length < gp) {n : Int} {N1 L1 : Nat} {K1 : AH} {w1 : Value} (x : Nat) (hG : GSt H o gp v us N1 L1 K1) (hc : K1[gp]? = some (.cells [.int .i64 n,w1] 26 false)) (hL : L1 ≤ 500) (hN1 : N1 ≤ 95000000) (hx : x ≤ 8) :
    ACalls Tryz.prog 51 [.pointer (some ⟨o,0,none⟩),.int .i64 (x : Int)] K1 fun r K2 => ∃ k : Nat,r = .int .i64 (k : Int) ∧ k ≤ 8 ∧ K2[gp]? = some (.cells [.int .i64 n,w1] 26 false) ∧ ACalls Tryz.prog 95 [w1,.agg (List.toArray [.int .i64 (k : Int),.int .i64 (x : Int)])] K2 fun r K3 => ∃ K4,storeA Tryz.prog 24 (.pointer (some ⟨gp,1,none⟩)) r K3 = some K4 ∧ isTup r = false ∧ GSt H o gp v us (N1 + 1) (L1 + 1) K4 ∧ ∃ w2,K4[gp]? = some (.cells [.int .i64 n,w2] 26 false) := by
  refine (pick_c hG.cr (by omega) (x : Int) (by omega)).mono fun r K2 hr => ?_
  obtain ⟨⟨k,rfl,hk⟩,hC2,oK⟩ := hr
  have c2 := oK.2 gp _ (by omega) hc
  obtain ⟨n',w',e1,e2,hput⟩ := (hG.cur ho (by omega) oK hC2).putc h ho hgp (k : Int) (x : Int) hL (by omega)
  have e0 := c2.symm.trans e2
  simp only [Option.some.injEq,AObj.cells.injEq,List.cons.injEq,Value.int.injEq,true_and,and_true] at e0
  obtain ⟨e3,e4⟩ := e0
  subst e3
  subst e4
  refine ⟨k,rfl,by omega,c2,hput.mono fun r K3 hr => ?_⟩
  obtain ⟨K4,t1,t2,t3,t4⟩ := hr
  exact ⟨K4,t1,t2,t3,_,t4⟩
set_option maxRecDepth 20000 in
set_option maxHeartbeats 8000000 in
theorem small9_c {H : AH} {o : Nat} {v : Value} {us : List Value} {N : Nat} (h : Cur H o v us N) (hN : N ≤ 90000000) :
    ACalls Tryz.prog 72 [.pointer (some ⟨o,0,none⟩)] H fun r H' => ∃ (n : Int) (w : Value) (ps : List (Int × Int)),r = .agg (List.toArray [.int .i64 n,w]) ∧ MineP 53 H H' w ps ∧ I64 n ∧ ps.length ≤ 200 ∧ Sml ps ∧ Cur H' o v us (N + 1010) ∧ Keeps o H H' := by
  have ho : o < H.length := by
    obtain ⟨_,_,g,_⟩ := h.cur
    exact at_lt g
  refine in72 rfl ?_
  intro Q hQ
  rw [cd72]
  generalize hA : H ++ [AObj.cells [.int .i64 0,.slice none 0 0] 26 false] = A
  have pA : H <+: A := by rw [← hA]; exact List.prefix_append _ _
  have cA : A[H.length]? = some (.cells [.int .i64 0,.slice none 0 0] 26 false) := by rw [← hA]; exact at_new ..
  have lA : A.length = H.length + 1 := by rw [← hA]; simp
  have al := alloc_G H
  rw [hA] at al
  refine cutC (fun s K => A = K ∧ s 0 = .pointer (some ⟨o,0,none⟩) ∧ s 2 = .pointer (some ⟨H.length,0,none⟩)) (fun c hc => ?_) ?_
  · simp (maxSteps := 1000000) (disch := omega) only [al,SS,eq_self,reduceIte,reduceCtorEq,Nat.reduceEqDiff,Nat.reduceAdd]
    exact hc _ _ ⟨rfl,rfl,rfl⟩
  rintro s _ ⟨rfl,s0,s2⟩
  refine cutC (fun s K => s 0 = .pointer (some ⟨o,0,none⟩) ∧ s 2 = .pointer (some ⟨H.length,0,none⟩) ∧ Cur K o v us (N + 1) ∧ Keeps o A K) (fun c hc => ?_) ?_
  · simp (maxSteps := 1000000) (disch := omega) only [s0,s2,SS,eq_self,reduceIte,reduceCtorEq,Nat.reduceEqDiff,Nat.reduceAdd]
    refine CallH.by (one_c (h.pre pA) (by omega) 12 (by omega)) ?_
    rintro _ B ⟨⟨b,rfl⟩,hCB,oB⟩
    simp (maxSteps := 1000000) (disch := omega) only [SS,eq_self,reduceIte,reduceCtorEq,Nat.reduceEqDiff,Nat.reduceAdd]
    cases b with
    | false =>
      refine brH.intro (fun q => by cases q) (fun _ => ?_)
      simp (maxSteps := 1000000) (disch := omega) only [SS,eq_self,reduceIte,reduceCtorEq,Nat.reduceEqDiff,Nat.reduceAdd]
      exact hc _ _ ⟨s0,s2,hCB,oB.keeps⟩
    | true =>
      refine brH.intro (fun _ => ?_) (fun q => by cases q)
      simp (maxSteps := 1000000) (disch := omega) only [s0,s2,SS,eq_self,reduceIte,reduceCtorEq,Nat.reduceEqDiff,Nat.reduceAdd]
      refine CallH.by (graph_c hCB (by omega)) ?_
      rintro _ K ⟨n,w,ps,rfl,hm,hn,hl,hs,hC,hK⟩
      have lB := oB.1
      have c1 := hK.2 _ _ (by omega) (oB.2 _ _ (by omega) cA)
      have hm' : MineP 53 H K w ps := by
        rcases hm with z | ⟨q,zs,z1,z2,z3,z4⟩
        · exact .inl z
        · exact .inr ⟨q,zs,z1,by omega,z3,z4⟩
      have q5 : rowO w ≠ H.length ∨ w = .slice none 0 0 := by
        rcases hm with z | ⟨q,zs,z1,z2,_⟩
        · exact .inr z.1
        · left; rw [z1]; show q ≠ H.length; omega
      have hst := st_G hm.row c1 rfl n
      obtain ⟨d4,t1,t2,t3⟩ := retG9 h (n := n) c1 hm' q5 hC ((Keeps.of_pre pA).trans (oB.keeps.trans hK))
      simp (maxSteps := 1000000) (disch := omega) only [s2,hst,SS,eq_self,reduceIte,reduceCtorEq,Nat.reduceEqDiff,Nat.reduceAdd]
      refine hQ _ _ _ (end_cell _ _ _ _ _ _ (.agg (List.toArray [.int .i64 n,w])) ?_ rfl ⟨n,w,ps,rfl,t1,hn,hl,hs,t2.more (by omega),t3⟩)
      simp (maxSteps := 1000000) (disch := omega) only [s2,ld_agg ag26 cs26 d4,SS,eq_self,reduceIte,reduceCtorEq,Nat.reduceEqDiff,Nat.reduceAdd]
  clear s0 s2 s
  rintro s B ⟨s0,s2,hCB,kB⟩
  have lB := kB.1
  have cB := kB.2 _ _ (by omega) cA
  have kHB : Keeps o H B := (Keeps.of_pre pA).trans kB
  have blK2 : ∀ H0 : AH,buildSliceA Tryz.prog 27 7 [(0,.int .i64 4),(1,.int .i64 3),(2,.int .i64 5),(3,.int .i64 4),(4,.int .i64 2),(5,.int .i64 1),(6,.int .i64 0)] H0 = some (.slice (some ⟨H0.length,0,none⟩) 7 7,H0 ++ [.cells [.int .i64 4,.int .i64 3,.int .i64 5,.int .i64 4,.int .i64 2,.int .i64 1,.int .i64 0] 3 false]) := fun H0 => by kernel_rfl
  have blG : ∀ (n : Int) (p : Option Addr) (k c : Nat),buildA Tryz.prog 26 [(0,.int .i64 n),(1,.slice p k c)] = some (.agg (List.toArray [.int .i64 n,.slice p k c])) := fun _ _ _ _ => by kernel_rfl
  refine cutC (fun s K => s 0 = .pointer (some ⟨o,0,none⟩) ∧ s 2 = .pointer (some ⟨H.length,0,none⟩) ∧ ∃ (gp n : Nat) (w : Value),s 3 = .pointer (some ⟨gp,0,none⟩) ∧ n ≤ 5 ∧ H.length < gp ∧ GSt H o gp v us (N + 2) 0 K ∧ K[gp]? = some (.cells [.int .i64 (n : Int),w] 26 false)) (fun c hc => ?_) ?_
  · generalize hD : B ++ [AObj.cells [.int .i64 4,.int .i64 3,.int .i64 5,.int .i64 4,.int .i64 2,.int .i64 1,.int .i64 0] 3 false] = D
    have pD : B <+: D := by rw [← hD]; exact List.prefix_append _ _
    have aD : D[B.length]? = some (.cells [.int .i64 4,.int .i64 3,.int .i64 5,.int .i64 4,.int .i64 2,.int .i64 1,.int .i64 0] 3 false) := by rw [← hD]; exact at_new ..
    have wD : Row 3 D (.slice (some ⟨B.length,0,none⟩) 7 7) [4,3,5,4,2,1,0] := .inr ⟨B.length,0,_,false,rfl,aD,by simp,rfl⟩
    have lD : D.length = B.length + 1 := by rw [← hD]; simp
    simp (maxSteps := 1000000) (disch := omega) only [s0,s2,blK2,hD,SS,eq_self,reduceIte,reduceCtorEq,Nat.reduceEqDiff,Nat.reduceAdd]
    refine CallH.by (among_c (hCB.pre pD) (by omega) wD (by show B.length ≠ o; omega) (by simp)) ?_
    rintro _ E ⟨⟨d,rfl,hd⟩,hCE,oE⟩
    obtain ⟨n,rfl,hn⟩ : ∃ n : Nat,d = n ∧ n ≤ 5 := ⟨d.toNat,by simp at hd; omega,by simp at hd; omega⟩
    have lE := oE.1
    generalize hF : E ++ [AObj.cells [] 53 false] = F
    have pF : E <+: F := by rw [← hF]; exact List.prefix_append _ _
    have lF : F.length = E.length + 1 := by rw [← hF]; simp
    have mF : MineP 53 H F (.slice (some ⟨E.length,0,none⟩) 0 0) [] := by rw [← hF]; exact MineP.nil0 (P := Tryz.prog) H E (by omega)
    have st1 := st_G mF.row (at_new F (.cells [.int .i64 0,.slice none 0 0] 26 false)) rfl (n : Int)
    rw [set_new] at st1
    simp (maxSteps := 1000000) (disch := omega) only [s0,s2,hF,blG,alloc_G,st1,SS,eq_self,reduceIte,reduceCtorEq,Nat.reduceEqDiff,Nat.reduceAdd]
    have pG : F <+: F ++ [AObj.cells [.int .i64 (n : Int),.slice (some ⟨E.length,0,none⟩) 0 0] 26 false] := List.prefix_append _ _
    have kBE : Keeps o B E := (Keeps.of_pre pD).trans oE.keeps
    refine hc _ _ ⟨s0,s2,F.length,n,.slice (some ⟨E.length,0,none⟩) 0 0,rfl,hn,by omega,⟨(n : Int),.slice (some ⟨E.length,0,none⟩) 0 0,[],?_,at_new ..,mF.pre pG,?_,.inl ?_,⟨by omega,by omega⟩,Nat.le_refl _,fun y hy => by simp at hy,(hCE.pre pF).pre pG,kHB.trans (kBE.trans (.of_pre (pF.trans pG)))⟩,at_new ..⟩
    · exact pre_at pG (pre_at pF (kBE.2 _ _ (by omega) cB))
    · show E.length ≠ F.length; omega
    · show E.length ≠ H.length; omega
  clear s0 s2 cB kHB lB hCB kB s B
  rintro s K ⟨s0,s2,gp,n,w1,s3,hn,hgp,hG,cg⟩
  refine cutC (fun s K => s 0 = .pointer (some ⟨o,0,none⟩) ∧ s 2 = .pointer (some ⟨H.length,0,none⟩) ∧ s 3 = .pointer (some ⟨gp,0,none⟩) ∧ GSt H o gp v us (N + 30) 30 K ∧ ∃ w,K[gp]? = some (.cells [.int .i64 (n : Int),w] 26 false)) (fun c hc => ?_) ?_
  · simp (maxSteps := 1000000) (disch := omega) only [s0,s2,s3,SS,eq_self,reduceIte,reduceCtorEq,Nat.reduceEqDiff,Nat.reduceAdd]
    refine LoopH.by (fun m s K => ∃ (x : Nat) (w : Value),n - x = m ∧ 1 ≤ x ∧ x ≤ 6 ∧ s 0 = .pointer (some ⟨o,0,none⟩) ∧ s 2 = .pointer (some ⟨H.length,0,none⟩) ∧ s 3 = .pointer (some ⟨gp,0,none⟩) ∧ s 4 = .int .i64 (x : Int) ∧ GSt H o gp v us (N + 2 + 2 * x) x K ∧ K[gp]? = some (.cells [.int .i64 (n : Int),w] 26 false)) (n - 1) ?_ ?_
    · have f1 := hG.more (show N + 2 ≤ N + 2 + 2 * 1 by omega) (show 0 ≤ 1 by omega)
      refine ⟨1,w1,rfl,?_⟩
      simp (maxSteps := 1000000) (disch := omega) only [s0,s2,s3,SS,eq_self,reduceIte,reduceCtorEq,Nat.reduceEqDiff,Nat.reduceAdd]
      (repeat' first | exact f1 | exact cg | apply And.intro) <;> first | (simp only [Value.int.injEq,true_and]; omega) | omega | rfl | assumption | (simp; done) | (simp; omega)
    clear s0 s2 s3 hG cg w1 s K
    rintro m s K ⟨x,w1,hm,hx,hx6,s0,s2,s3,s4,hG,cg⟩
    simp (maxSteps := 1000000) (disch := omega) only [s0,s2,s3,s4,cell_of cg,SS,eq_self,reduceIte,reduceCtorEq,Nat.reduceEqDiff,Nat.reduceAdd]
    refine brD.intro (fun g => ?_) (fun g => ?_)
    rotate_left
    · simp (maxSteps := 1000000) (disch := omega) only [s0,s2,s3,SS,eq_self,reduceIte,reduceCtorEq,Nat.reduceEqDiff,Nat.reduceAdd]
      exact hc _ _ ⟨s0,s2,s3,hG.more (by omega) (by omega),w1,cg⟩
    simp (maxSteps := 1000000) (disch := omega) only [s0,s2,s3,s4,SS,eq_self,reduceIte,reduceCtorEq,Nat.reduceEqDiff,Nat.reduceAdd]
    refine CallH.by (one_c hG.cr (by omega) 16 (by omega)) ?_
    rintro _ L ⟨⟨b,rfl⟩,hCL,oL⟩
    have hGL := hG.cur ho (by omega) oL hCL
    have cL := oL.2 gp _ (by omega) cg
    cases b with
    | true =>
      simp (maxSteps := 1000000) (disch := omega) only [s0,s2,s3,s4,wrap64,SS,eq_self,reduceIte,reduceCtorEq,Nat.reduceEqDiff,Nat.reduceAdd]
      have f1 := hGL.more (show N + 2 + 2 * x + 1 ≤ N + 2 + 2 * (x + 1) by omega) (show x ≤ x + 1 by omega)
      refine ⟨m - 1,by omega,x + 1,w1,?_⟩
      (repeat' first | exact f1 | exact cL | apply And.intro) <;> first | (simp only [Value.int.injEq,true_and]; omega) | omega | rfl | assumption | (simp; done) | (simp; omega)
    | false =>
      simp (maxSteps := 1000000) (disch := omega) only [s0,s2,s3,s4,cell_of cL,SS,eq_self,reduceIte,reduceCtorEq,Nat.reduceEqDiff,Nat.reduceAdd]
      refine CallH.by (hGL.pickPut h ho hgp x cL (by omega) (by omega) (by omega)) ?_
      rintro _ P ⟨k,rfl,hk,cP,hput⟩
      simp (maxSteps := 1000000) (disch := omega) only [s0,s2,s3,s4,cell_of cP,build_a2,SS,eq_self,reduceIte,reduceCtorEq,Nat.reduceEqDiff,Nat.reduceAdd]
      refine CallH.by hput ?_
      rintro r R ⟨K4,t1,t2,t3,w2,t4⟩
      simp (maxSteps := 1000000) (disch := omega) only [s0,s2,s3,s4,t1,wrap64,SS,eq_self,reduceIte,reduceCtorEq,Nat.reduceEqDiff,Nat.reduceAdd]
      have f1 := t3.more (show N + 2 + 2 * x + 1 + 1 ≤ N + 2 + 2 * (x + 1) by omega) (Nat.le_refl (x + 1))
      refine ⟨m - 1,by omega,x + 1,w2,?_⟩
      (repeat' first | exact f1 | exact t4 | apply And.intro) <;> first | (simp only [Value.int.injEq,true_and]; omega) | omega | rfl | assumption | (simp; done) | (simp; omega)
  clear s0 s2 s3 hG cg w1 s K
  rintro s K ⟨s0,s2,s3,hG,w1,cg⟩
  refine cutC (fun s K => s 2 = .pointer (some ⟨H.length,0,none⟩) ∧ s 3 = .pointer (some ⟨gp,0,none⟩) ∧ GSt H o gp v us (N + 60) 60 K) (fun c hc => ?_) ?_
  · simp (maxSteps := 1000000) (disch := omega) only [s0,s2,s3,SS,eq_self,reduceIte,reduceCtorEq,Nat.reduceEqDiff,Nat.reduceAdd]
    refine CallH.by (pick_c hG.cr (by omega) 4 (by omega)) ?_
    rintro _ L ⟨⟨k0,rfl,hk0⟩,hCL,oL⟩
    have hGL := hG.cur ho (by omega) oL hCL
    have cL := oL.2 gp _ (by omega) cg
    simp (maxSteps := 1000000) (disch := omega) only [s0,s2,s3,SS,eq_self,reduceIte,reduceCtorEq,Nat.reduceEqDiff,Nat.reduceAdd]
    refine LoopH.by (fun m s K => ∃ (j : Nat) (w : Value),m + j = k0 ∧ s 0 = .pointer (some ⟨o,0,none⟩) ∧ s 2 = .pointer (some ⟨H.length,0,none⟩) ∧ s 3 = .pointer (some ⟨gp,0,none⟩) ∧ s 5 = .int .i64 (m : Int) ∧ GSt H o gp v us (N + 30 + 1 + j * 2) (30 + j) K ∧ K[gp]? = some (.cells [.int .i64 (n : Int),w] 26 false)) k0 ?_ ?_
    · refine ⟨0,w1,by omega,?_⟩
      simp (maxSteps := 1000000) (disch := omega) only [s0,s2,s3,SS,eq_self,reduceIte,reduceCtorEq,Nat.reduceEqDiff,Nat.reduceAdd]
      (repeat' first | exact hGL | exact cL | apply And.intro) <;> first | (simp only [Value.int.injEq,true_and]; omega) | omega | rfl | assumption | (simp; done) | (simp; omega)
    clear s0 s2 s3 hG cg hGL cL hCL oL w1 s K L
    rintro m s K ⟨j,w1,hm,s0,s2,s3,s5,hG,cg⟩
    simp (maxSteps := 1000000) (disch := omega) only [s0,s2,s3,s5,SS,eq_self,reduceIte,reduceCtorEq,Nat.reduceEqDiff,Nat.reduceAdd]
    by_cases g : (0 : Int) < (m : Int)
    rotate_left
    · simp (maxSteps := 1000000) (disch := omega) only [decide_eq_false g,SS,eq_self,reduceIte,reduceCtorEq,Nat.reduceEqDiff,Nat.reduceAdd]
      exact hc _ _ ⟨s2,s3,hG.more (by omega) (by omega)⟩
    simp (maxSteps := 1000000) (disch := omega) only [decide_eq_true g,s3,cell_of cg,SS,eq_self,reduceIte,reduceCtorEq,Nat.reduceEqDiff,Nat.reduceAdd]
    by_cases g2 : (2 : Int) < (n : Int)
    rotate_left
    · simp (maxSteps := 1000000) (disch := omega) only [decide_eq_false g2,SS,eq_self,reduceIte,reduceCtorEq,Nat.reduceEqDiff,Nat.reduceAdd]
      exact hc _ _ ⟨s2,s3,hG.more (by omega) (by omega)⟩
    have hw1 : IntKind.i64.wrap ((n : Int) - 1) = ((n - 1 : Nat) : Int) := by rw [wrap64 (by omega) (by omega)]; omega
    simp (maxSteps := 1000000) (disch := omega) only [decide_eq_true g2,s0,s2,s3,s5,cell_of cg,hw1,SS,eq_self,reduceIte,reduceCtorEq,Nat.reduceEqDiff,Nat.reduceAdd]
    refine CallH.by (pick_c hG.cr (by omega) ((n - 1 : Nat) : Int) (by omega)) ?_
    rintro _ L ⟨⟨k,rfl,hk⟩,hCL,oL⟩
    have hGL := hG.cur ho (by omega) oL hCL
    have cL := oL.2 gp _ (by omega) cg
    have hw2 : IntKind.i64.wrap (1 + (k : Int)) = ((1 + k : Nat) : Int) := by rw [wrap64 (by omega) (by omega)]; omega
    simp (maxSteps := 1000000) (disch := omega) only [s0,s2,s3,s5,hw2,cell_of cL,SS,eq_self,reduceIte,reduceCtorEq,Nat.reduceEqDiff,Nat.reduceAdd]
    refine CallH.by (hGL.pickPut h ho hgp (1 + k) cL (by omega) (by omega) (by omega)) ?_
    rintro _ P ⟨k2,rfl,hk2,cP,hput⟩
    simp (maxSteps := 1000000) (disch := omega) only [s0,s2,s3,s5,cell_of cP,build_a2,SS,eq_self,reduceIte,reduceCtorEq,Nat.reduceEqDiff,Nat.reduceAdd]
    refine CallH.by hput ?_
    rintro r R ⟨K4,t1,t2,t3,w2,t4⟩
    have hw3 : IntKind.i64.wrap ((m : Int) - 1) = ((m - 1 : Nat) : Int) := by rw [wrap64 (by omega) (by omega)]; omega
    simp (maxSteps := 1000000) (disch := omega) only [s0,s2,s3,s5,t1,hw3,SS,eq_self,reduceIte,reduceCtorEq,Nat.reduceEqDiff,Nat.reduceAdd]
    have f1 := t3.more (show N + 30 + 1 + j * 2 + 1 + 1 ≤ N + 30 + 1 + (j + 1) * 2 by omega) (show 30 + j + 1 ≤ 30 + (j + 1) by omega)
    refine ⟨m - 1,by omega,j + 1,w2,?_⟩
    (repeat' first | exact f1 | exact t4 | apply And.intro) <;> first | (simp only [Value.int.injEq,true_and]; omega) | omega | rfl | assumption | (simp; done) | (simp; omega)
  clear s0 s2 s3 hG cg w1 s K
  rintro s K ⟨s2,s3,n1,w,ps,q1,q2,q3,q4,q5,q6,q7,q8,q9,q10⟩
  have hst := st_G q3.row q1 rfl n1
  obtain ⟨d4,t1,t2,t3⟩ := retG9 h (n := n1) q1 q3 q5 q9 q10
  simp (maxSteps := 1000000) (disch := omega) only [s2,s3,ld_agg ag26 cs26 q2,hst,SS,eq_self,reduceIte,reduceCtorEq,Nat.reduceEqDiff,Nat.reduceAdd]
  refine hQ _ _ _ (end_cell _ _ _ _ _ _ (.agg (List.toArray [.int .i64 n1,w])) ?_ rfl ⟨n1,w,ps,rfl,t1,q6,by omega,q8,t2.more (by omega),t3⟩)
  simp (maxSteps := 1000000) (disch := omega) only [s2,ld_agg ag26 cs26 d4,SS,eq_self,reduceIte,reduceCtorEq,Nat.reduceEqDiff,Nat.reduceAdd]
theorem GSt.justPut {H : AH} {o gp : Nat} {v : Value} {us : List Value} {N0 : Nat} (h : Cur H o v us N0) (ho : o < H.length) (hgp : H.length < gp) {n : Int} {N1 L1 : Nat} {K1 : AH} {w1 : Value} (a b : Int) (hG : GSt H o gp v us N1 L1 K1) (hc : K1[gp]? = some (.cells [.int .i64 n,w1] 26 false)) (hL : L1 ≤ 500) (hab : (-1 ≤ a ∧ a ≤ 9) ∧ -1 ≤ b ∧ b ≤ 9) :
    ACalls Tryz.prog 95 [w1,.agg (List.toArray [.int .i64 a,.int .i64 b])] K1 fun r K3 => ∃ K4,storeA Tryz.prog 24 (.pointer (some ⟨gp,1,none⟩)) r K3 = some K4 ∧ isTup r = false ∧ GSt H o gp v us N1 (L1 + 1) K4 ∧ ∃ w2,K4[gp]? = some (.cells [.int .i64 n,w2] 26 false) := by
  obtain ⟨n',w',e1,e2,hput⟩ := hG.putc h ho hgp a b hL hab
  have e0 := hc.symm.trans e2
  simp only [Option.some.injEq,AObj.cells.injEq,List.cons.injEq,Value.int.injEq,true_and,and_true] at e0
  obtain ⟨e3,e4⟩ := e0
  subst e3
  subst e4
  refine hput.mono fun r K3 hr => ?_
  obtain ⟨K4,t1,t2,t3,t4⟩ := hr
  exact ⟨K4,t1,t2,t3,_,t4⟩
set_option maxRecDepth 20000 in
set_option maxHeartbeats 16000000 in
theorem special9_c {H : AH} {o : Nat} {v : Value} {us : List Value} {N : Nat} (h : Cur H o v us N) (hN : N ≤ 80000000) :
    ACalls Tryz.prog 48 [.pointer (some ⟨o,0,none⟩)] H fun r H' => ∃ (n : Int) (w : Value) (ps : List (Int × Int)),r = .agg (List.toArray [.int .i64 n,w]) ∧ MineP 53 H H' w ps ∧ I64 n ∧ ps.length ≤ 200 ∧ Sml ps ∧ Cur H' o v us (N + 1020) ∧ Keeps o H H' := by
  have ho : o < H.length := by
    obtain ⟨_,_,g,_⟩ := h.cur
    exact at_lt g
  refine in48 rfl ?_
  intro Q hQ
  rw [cd48]
  generalize hA : H ++ [AObj.cells [.int .i64 0,.slice none 0 0] 26 false] = A
  have pA : H <+: A := by rw [← hA]; exact List.prefix_append _ _
  have cA : A[H.length]? = some (.cells [.int .i64 0,.slice none 0 0] 26 false) := by rw [← hA]; exact at_new ..
  have lA : A.length = H.length + 1 := by rw [← hA]; simp
  have al := alloc_G H
  rw [hA] at al
  have blG : ∀ (n : Int) (p : Option Addr) (k c : Nat),buildA Tryz.prog 26 [(0,.int .i64 n),(1,.slice p k c)] = some (.agg (List.toArray [.int .i64 n,.slice p k c])) := fun _ _ _ _ => by kernel_rfl
  refine cutC (fun s K => A = K ∧ s 0 = .pointer (some ⟨o,0,none⟩) ∧ s 2 = .pointer (some ⟨H.length,0,none⟩)) (fun c hc => ?_) ?_
  · simp (maxSteps := 1000000) (disch := omega) only [al,SS,eq_self,reduceIte,reduceCtorEq,Nat.reduceEqDiff,Nat.reduceAdd]
    exact hc _ _ ⟨rfl,rfl,rfl⟩
  rintro s _ ⟨rfl,s0,s2⟩
  refine cutC (fun s K => s 0 = .pointer (some ⟨o,0,none⟩) ∧ s 2 = .pointer (some ⟨H.length,0,none⟩) ∧ ∃ (gp n : Nat) (w : Value),s 3 = .pointer (some ⟨gp,0,none⟩) ∧ (3 ≤ n ∧ n ≤ 5) ∧ H.length < gp ∧ GSt H o gp v us (N + 1) 0 K ∧ K[gp]? = some (.cells [.int .i64 (n : Int),w] 26 false)) (fun c hc => ?_) ?_
  · simp (maxSteps := 1000000) (disch := omega) only [s0,s2,SS,eq_self,reduceIte,reduceCtorEq,Nat.reduceEqDiff,Nat.reduceAdd]
    refine CallH.by (pick_c (h.pre pA) (by omega) 3 (by omega)) ?_
    rintro _ E ⟨⟨d,rfl,hd⟩,hCE,oE⟩
    have lE := oE.1
    have cE := oE.2 _ _ (by omega) cA
    have hw1 : IntKind.i64.wrap (3 + (d : Int)) = ((3 + d : Nat) : Int) := by rw [wrap64 (by omega) (by omega)]; omega
    generalize hF : E ++ [AObj.cells [] 53 false] = F
    have pF : E <+: F := by rw [← hF]; exact List.prefix_append _ _
    have lF : F.length = E.length + 1 := by rw [← hF]; simp
    have mF : MineP 53 H F (.slice (some ⟨E.length,0,none⟩) 0 0) [] := by rw [← hF]; exact MineP.nil0 (P := Tryz.prog) H E (by omega)
    have st1 := st_G mF.row (at_new F (.cells [.int .i64 0,.slice none 0 0] 26 false)) rfl ((3 + d : Nat) : Int)
    rw [set_new] at st1
    simp (maxSteps := 1000000) (disch := omega) only [s0,s2,hw1,hF,blG,alloc_G,st1,SS,eq_self,reduceIte,reduceCtorEq,Nat.reduceEqDiff,Nat.reduceAdd]
    have pG : F <+: F ++ [AObj.cells [.int .i64 ((3 + d : Nat) : Int),.slice (some ⟨E.length,0,none⟩) 0 0] 26 false] := List.prefix_append _ _
    refine hc _ _ ⟨s0,s2,F.length,3 + d,.slice (some ⟨E.length,0,none⟩) 0 0,rfl,by omega,by omega,⟨((3 + d : Nat) : Int),.slice (some ⟨E.length,0,none⟩) 0 0,[],?_,at_new ..,mF.pre pG,?_,.inl ?_,⟨by omega,by omega⟩,Nat.le_refl _,fun y hy => by simp at hy,(hCE.pre pF).pre pG,(Keeps.of_pre pA).trans (oE.keeps.trans (.of_pre (pF.trans pG)))⟩,at_new ..⟩
    · exact pre_at pG (pre_at pF cE)
    · show E.length ≠ F.length; omega
    · show E.length ≠ H.length; omega
  clear s0 s2 s
  rintro s K ⟨s0,s2,gp,n,w1,s3,hn,hgp,hG,cg⟩
  refine cutC (fun s K => s 0 = .pointer (some ⟨o,0,none⟩) ∧ s 2 = .pointer (some ⟨H.length,0,none⟩) ∧ s 3 = .pointer (some ⟨gp,0,none⟩) ∧ (∃ kd : Nat,s 4 = .int .i64 (kd : Int) ∧ kd < 6) ∧ GSt H o gp v us (N + 2) 0 K ∧ K[gp]? = some (.cells [.int .i64 (n : Int),w1] 26 false)) (fun c hc => ?_) ?_
  · simp (maxSteps := 1000000) (disch := omega) only [s0,s2,s3,SS,eq_self,reduceIte,reduceCtorEq,Nat.reduceEqDiff,Nat.reduceAdd]
    refine CallH.by (pick_c hG.cr (by omega) 6 (by omega)) ?_
    rintro _ L ⟨⟨k,rfl,hk⟩,hCL,oL⟩
    simp (maxSteps := 1000000) (disch := omega) only [s0,s2,s3,SS,eq_self,reduceIte,reduceCtorEq,Nat.reduceEqDiff,Nat.reduceAdd]
    exact hc _ _ ⟨s0,s2,s3,⟨k,rfl,by omega⟩,hG.cur ho (by omega) oL hCL,oL.2 gp _ (by omega) cg⟩
  clear s0 s2 s3 hG cg s K
  rintro s K ⟨s0,s2,s3,⟨kd,s4,hkd⟩,hG,cg⟩
  refine cutC (fun s K' => s 0 = .pointer (some ⟨o,0,none⟩) ∧ s 2 = .pointer (some ⟨H.length,0,none⟩) ∧ s 3 = .pointer (some ⟨gp,0,none⟩) ∧ s 4 = .int .i64 (kd : Int) ∧ kd ≤ 3 ∧ K = K') (fun c hc => ?_) ?_
  · simp (maxSteps := 1000000) (disch := omega) only [s0,s2,s3,s4,SS,eq_self,reduceIte,reduceCtorEq,Nat.reduceEqDiff,Nat.reduceAdd]
    refine brD.intro (fun g => ?_) (fun g => ?_)
    rotate_left
    · simp (maxSteps := 1000000) (disch := omega) only [SS,eq_self,reduceIte,reduceCtorEq,Nat.reduceEqDiff,Nat.reduceAdd]
      exact hc _ _ ⟨s0,s2,s3,s4,by omega,rfl⟩
    simp (maxSteps := 1000000) (disch := omega) only [s0,s2,SS,eq_self,reduceIte,reduceCtorEq,Nat.reduceEqDiff,Nat.reduceAdd]
    refine CallH.by (small9_c hG.cr (by omega)) ?_
    rintro _ P ⟨n2,w,ps,rfl,hm,hn2,hl,hs,hC,hK⟩
    obtain ⟨_,_,_,q1,q2,_,_,_,_,_,_,_,q10⟩ := hG
    have lK := q10.1
    have c1 := hK.2 _ _ (by omega) q1
    have lq := at_lt q2
    have hm' : MineP 53 H P w ps := by
      rcases hm with z | ⟨q,zs,z1,z2,z3,z4⟩
      · exact .inl z
      · exact .inr ⟨q,zs,z1,by omega,z3,z4⟩
    have q5 : rowO w ≠ H.length ∨ w = .slice none 0 0 := by
      rcases hm with z | ⟨q,zs,z1,z2,_⟩
      · exact .inr z.1
      · left; rw [z1]; show q ≠ H.length; omega
    have hst := st_G hm.row c1 rfl n2
    obtain ⟨d4,t1,t2,t3⟩ := retG9 h (n := n2) c1 hm' q5 hC (q10.trans hK)
    simp (maxSteps := 1000000) (disch := omega) only [s2,hst,SS,eq_self,reduceIte,reduceCtorEq,Nat.reduceEqDiff,Nat.reduceAdd]
    refine hQ _ _ _ (end_cell _ _ _ _ _ _ (.agg (List.toArray [.int .i64 n2,w])) ?_ rfl ⟨n2,w,ps,rfl,t1,hn2,hl,hs,t2.more (by omega),t3⟩)
    simp (maxSteps := 1000000) (disch := omega) only [s2,ld_agg ag26 cs26 d4,SS,eq_self,reduceIte,reduceCtorEq,Nat.reduceEqDiff,Nat.reduceAdd]
  clear s0 s2 s3 s4 hkd s
  rintro s _ ⟨s0,s2,s3,s4,hkd,rfl⟩
  refine cutC (fun s K => s 2 = .pointer (some ⟨H.length,0,none⟩) ∧ s 3 = .pointer (some ⟨gp,0,none⟩) ∧ GSt H o gp v us (N + 60) 60 K) (fun c hc => ?_) ?_
  · simp (maxSteps := 1000000) (disch := omega) only [s0,s2,s3,s4,SS,eq_self,reduceIte,reduceCtorEq,Nat.reduceEqDiff,Nat.reduceAdd]
    refine LoopH.by (fun m s K => ∃ (x : Nat) (w : Value),n - x = m ∧ 1 ≤ x ∧ x ≤ n ∧ s 0 = .pointer (some ⟨o,0,none⟩) ∧ s 2 = .pointer (some ⟨H.length,0,none⟩) ∧ s 3 = .pointer (some ⟨gp,0,none⟩) ∧ s 4 = .int .i64 (kd : Int) ∧ s 5 = .int .i64 (x : Int) ∧ GSt H o gp v us (N + 2) (x * 8) K ∧ K[gp]? = some (.cells [.int .i64 (n : Int),w] 26 false)) (n - 1) ?_ ?_
    · have f1 := hG.more (Nat.le_refl (N + 2)) (show 0 ≤ 1 * 8 by omega)
      refine ⟨1,w1,rfl,?_⟩
      simp (maxSteps := 1000000) (disch := omega) only [s0,s2,s3,s4,SS,eq_self,reduceIte,reduceCtorEq,Nat.reduceEqDiff,Nat.reduceAdd]
      (repeat' first | exact f1 | exact cg | apply And.intro) <;> first | (simp only [Value.int.injEq,true_and]; omega) | omega | rfl | assumption | (simp; done) | (simp; omega)
    clear s0 s2 s3 s4 hG cg w1 s K
    rintro m s K ⟨x,w1,hm,hx,hxn,s0,s2,s3,s4,s5,hG,cg⟩
    simp (maxSteps := 1000000) (disch := omega) only [s0,s2,s3,s4,s5,cell_of cg,SS,eq_self,reduceIte,reduceCtorEq,Nat.reduceEqDiff,Nat.reduceAdd]
    refine brD.intro (fun g => ?_) (fun g => ?_)
    rotate_left
    · simp (maxSteps := 1000000) (disch := omega) only [s2,s3,SS,eq_self,reduceIte,reduceCtorEq,Nat.reduceEqDiff,Nat.reduceAdd]
      exact hc _ _ ⟨s2,s3,hG.more (by omega) (by omega)⟩
    simp (maxSteps := 1000000) (disch := omega) only [s0,s2,s3,s4,s5,SS,eq_self,reduceIte,reduceCtorEq,Nat.reduceEqDiff,Nat.reduceAdd]
    refine LoopH.by (fun m' s K => ∃ (y : Nat) (w : Value),m' + y = x ∧ s 0 = .pointer (some ⟨o,0,none⟩) ∧ s 2 = .pointer (some ⟨H.length,0,none⟩) ∧ s 3 = .pointer (some ⟨gp,0,none⟩) ∧ s 4 = .int .i64 (kd : Int) ∧ s 5 = .int .i64 (x : Int) ∧ s 6 = .int .i64 (y : Int) ∧ GSt H o gp v us (N + 2) (x * 8 + y) K ∧ K[gp]? = some (.cells [.int .i64 (n : Int),w] 26 false)) x ?_ ?_
    · refine ⟨0,w1,by omega,?_⟩
      simp (maxSteps := 1000000) (disch := omega) only [s0,s2,s3,s4,s5,SS,eq_self,reduceIte,reduceCtorEq,Nat.reduceEqDiff,Nat.reduceAdd]
      (repeat' first | exact hG | exact cg | apply And.intro) <;> first | (simp only [Value.int.injEq,true_and]; omega) | omega | rfl | assumption | (simp; done) | (simp; omega)
    clear s0 s2 s3 s4 s5 hG cg w1 s K
    rintro m' s K ⟨y,w1,hm',s0,s2,s3,s4,s5,s6,hG,cg⟩
    simp (maxSteps := 1000000) (disch := omega) only [s0,s2,s3,s4,s5,s6,SS,eq_self,reduceIte,reduceCtorEq,Nat.reduceEqDiff,Nat.reduceAdd]
    refine brD.intro (fun g2 => ?_) (fun g2 => ?_)
    rotate_left
    · have f1 := hG.more (Nat.le_refl (N + 2)) (show x * 8 + y ≤ (x + 1) * 8 by omega)
      simp (maxSteps := 1000000) (disch := omega) only [s0,s2,s3,s4,s5,s6,wrap64,SS,eq_self,reduceIte,reduceCtorEq,Nat.reduceEqDiff,Nat.reduceAdd]
      refine ⟨m - 1,by omega,x + 1,w1,?_⟩
      (repeat' first | exact f1 | exact cg | apply And.intro) <;> first | (simp only [Value.int.injEq,true_and]; omega) | omega | rfl | assumption | (simp; done) | (simp; omega)
    have f0 := hG.more (Nat.le_refl (N + 2)) (show x * 8 + y ≤ x * 8 + (y + 1) by omega)
    have hput := hG.justPut h ho hgp (y : Int) (x : Int) cg (by omega) (by omega)
    simp (maxSteps := 1000000) (disch := omega) only [s0,s2,s3,s4,s5,s6,cell_of cg,wrap64,SS,eq_self,reduceIte,reduceCtorEq,Nat.reduceEqDiff,Nat.reduceAdd]
    repeat' (refine brD.intro (fun q => have e := decide_eq_true q; ?_) (fun q => have e := decide_eq_false q; ?_) <;> simp (maxSteps := 1000000) (disch := omega) only [e,s0,s2,s3,s4,s5,s6,cell_of cg,build_a2,wrap64,SS,eq_self,reduceIte,reduceCtorEq,Nat.reduceEqDiff,Nat.reduceAdd])
    all_goals first
      | (refine ⟨m' - 1,by omega,y + 1,w1,?_⟩
         (repeat' first | exact f0 | exact cg | apply And.intro) <;> first | (simp only [Value.int.injEq,true_and]; omega) | omega | rfl | assumption | (simp; done) | (simp; omega))
      | (refine CallH.by hput ?_
         rintro r R ⟨K4,t1,t2,t3,w2,t4⟩
         simp (maxSteps := 1000000) (disch := omega) only [s0,s2,s3,s4,s5,s6,t1,wrap64,SS,eq_self,reduceIte,reduceCtorEq,Nat.reduceEqDiff,Nat.reduceAdd]
         refine ⟨m' - 1,by omega,y + 1,w2,?_⟩
         (repeat' first | exact t3 | exact t4 | apply And.intro) <;> first | (simp only [Value.int.injEq,true_and]; omega) | omega | rfl | assumption | (simp; done) | (simp; omega))
  clear s0 s2 s3 s4 hG cg w1 s K
  rintro s K ⟨s2,s3,n1,w,ps,q1,q2,q3,q4,q5,q6,q7,q8,q9,q10⟩
  have hst := st_G q3.row q1 rfl n1
  obtain ⟨d4,t1,t2,t3⟩ := retG9 h (n := n1) q1 q3 q5 q9 q10
  simp (maxSteps := 1000000) (disch := omega) only [s2,s3,ld_agg ag26 cs26 q2,hst,SS,eq_self,reduceIte,reduceCtorEq,Nat.reduceEqDiff,Nat.reduceAdd]
  refine hQ _ _ _ (end_cell _ _ _ _ _ _ (.agg (List.toArray [.int .i64 n1,w])) ?_ rfl ⟨n1,w,ps,rfl,t1,q6,by omega,q8,t2.more (by omega),t3⟩)
  simp (maxSteps := 1000000) (disch := omega) only [s2,ld_agg ag26 cs26 d4,SS,eq_self,reduceIte,reduceCtorEq,Nat.reduceEqDiff,Nat.reduceAdd]
def ords117 : List (Nat × List (Nat × Bool)) := []
def cd117 : Cd := (.seq (.reg [⟨⟨some 3,Op.box 53 (Operand.tmp 1),none⟩,[]⟩,
  ⟨⟨some 4,Op.assign (Operand.const (Value.int IntKind.i64 0)),none⟩,[]⟩]) (.seq (.seq (.reg [⟨⟨some 5,Op.move (Operand.tmp 0),none⟩,[]⟩,
  ⟨⟨some 6,Op.indexAddr 53 (Operand.tmp 3) (Operand.const (Value.int IntKind.i64 0)),none⟩,[]⟩,
  ⟨⟨some 7,Op.load 3 (Operand.tmp 6),none⟩,[]⟩,
  ⟨⟨some 8,Op.indexAddr 27 (Operand.tmp 5) (Operand.tmp 7),none⟩,[]⟩,
  ⟨⟨some 9,Op.load 3 (Operand.tmp 8),none⟩,[]⟩,
  ⟨⟨some 10,Op.binOp BinOp.eql 3 (Operand.tmp 9) (Operand.const (Value.int IntKind.i64 0)) 3,none⟩,[]⟩]) (.cond (Operand.tmp 10) (.seq (.reg [⟨⟨some 11,Op.indexAddr 53 (Operand.tmp 3) (Operand.const (Value.int IntKind.i64 1)),none⟩,[]⟩,
  ⟨⟨some 12,Op.load 3 (Operand.tmp 11),none⟩,[]⟩,
  ⟨⟨some 4,Op.assign (Operand.tmp 12),none⟩,[]⟩]) .ret) .skip)) (.seq (.reg [⟨⟨some 13,Op.indexAddr 53 (Operand.tmp 3) (Operand.const (Value.int IntKind.i64 0)),none⟩,[]⟩,
  ⟨⟨some 14,Op.load 3 (Operand.tmp 13),none⟩,[]⟩,
  ⟨⟨some 4,Op.assign (Operand.tmp 14),none⟩,[]⟩]) .ret)))
theorem sl117 : slim Tryz.f117.ntmps ords117 (Tryz.f117.body.getD .skip) = some cd117 := by kernel_rfl
theorem in117 {args : List Value} {H : AH} {R : Value → AH → Prop} (hl : args.length = 2) (h : ∀ (Q : Exit → Sl → AH → Prop),(∀ e s H,endA Tryz.prog [ResultVar.tmp 4] R e s H → Q e s H) → wpC Tryz.prog cd117 Q (enterA args) H) : ACalls Tryz.prog 117 args H R :=
  ACalls.intro (by kernel_rfl) Tryz.func117 rfl (by kernel_rfl) sl117 hl (of_decide_eq_true (by kernel_rfl)) (by kernel_rfl) h
def ords93 : List (Nat × List (Nat × Bool)) := [(2,[(0,false),(1,false),(3,false),(4,false),(2,true),(5,true),(6,false),(7,false)])]
def cd93 : Cd := (.seq (.reg [⟨⟨some 5,Op.box 53 (Operand.tmp 1),none⟩,[]⟩,
  ⟨⟨some 6,Op.box 53 (Operand.tmp 2),none⟩,[]⟩,
  ⟨⟨some 8,Op.assign (Operand.const (Value.bool false)),none⟩,[]⟩]) (.seq (.seq (.reg [⟨⟨some 9,Op.move (Operand.tmp 3),none⟩,[]⟩]) (.cond (Operand.tmp 9) (.seq (.reg [⟨⟨some 10,Op.move (Operand.tmp 0),none⟩,[]⟩,
  ⟨⟨some 11,Op.load 53 (Operand.tmp 5),none⟩,[]⟩,
  ⟨⟨some 13,Op.move (Operand.tmp 0),none⟩,[]⟩,
  ⟨⟨some 14,Op.load 53 (Operand.tmp 6),none⟩,[]⟩,
  ⟨⟨some 12,Op.call { callee := (Callee.value (Operand.func 117)),args := #[(Operand.tmp 10),(Operand.tmp 11)],argTypes := #[27,53] },none⟩,[⟨some 14,Op.load 53 (Operand.tmp 6),none⟩]⟩,
  ⟨⟨some 15,Op.call { callee := (Callee.value (Operand.func 117)),args := #[(Operand.tmp 13),(Operand.tmp 14)],argTypes := #[27,53] },none⟩,[]⟩,
  ⟨⟨some 16,Op.binOp BinOp.lss 3 (Operand.tmp 12) (Operand.tmp 15) 3,none⟩,[]⟩,
  ⟨⟨some 8,Op.assign (Operand.tmp 16),none⟩,[]⟩]) .ret) .skip)) (.seq (.reg [⟨⟨some 17,Op.indexAddr 53 (Operand.tmp 5) (Operand.const (Value.int IntKind.i64 0)),none⟩,[]⟩,
  ⟨⟨some 18,Op.load 3 (Operand.tmp 17),none⟩,[]⟩,
  ⟨⟨some 19,Op.indexAddr 53 (Operand.tmp 6) (Operand.const (Value.int IntKind.i64 0)),none⟩,[]⟩,
  ⟨⟨some 20,Op.load 3 (Operand.tmp 19),none⟩,[]⟩,
  ⟨⟨some 21,Op.binOp BinOp.lss 3 (Operand.tmp 18) (Operand.tmp 20) 3,none⟩,[]⟩,
  ⟨⟨some 22,Op.move (Operand.tmp 21),none⟩,[]⟩,
  ⟨⟨some 23,Op.indexAddr 53 (Operand.tmp 5) (Operand.const (Value.int IntKind.i64 0)),some (22,false)⟩,[]⟩,
  ⟨⟨some 24,Op.load 3 (Operand.tmp 23),some (22,false)⟩,[]⟩,
  ⟨⟨some 25,Op.indexAddr 53 (Operand.tmp 6) (Operand.const (Value.int IntKind.i64 0)),some (22,false)⟩,[]⟩,
  ⟨⟨some 26,Op.load 3 (Operand.tmp 25),some (22,false)⟩,[]⟩,
  ⟨⟨some 27,Op.binOp BinOp.eql 3 (Operand.tmp 24) (Operand.tmp 26) 3,some (22,false)⟩,[]⟩,
  ⟨⟨some 28,Op.move (Operand.tmp 27),some (22,false)⟩,[]⟩,
  ⟨⟨some 29,Op.indexAddr 53 (Operand.tmp 5) (Operand.const (Value.int IntKind.i64 1)),some (28,true)⟩,[]⟩,
  ⟨⟨some 30,Op.load 3 (Operand.tmp 29),some (28,true)⟩,[]⟩,
  ⟨⟨some 31,Op.indexAddr 53 (Operand.tmp 6) (Operand.const (Value.int IntKind.i64 1)),some (28,true)⟩,[]⟩,
  ⟨⟨some 32,Op.load 3 (Operand.tmp 31),some (28,true)⟩,[]⟩,
  ⟨⟨some 33,Op.binOp BinOp.lss 3 (Operand.tmp 30) (Operand.tmp 32) 3,some (28,true)⟩,[]⟩,
  ⟨⟨some 34,Op.pick (Operand.tmp 28) (Operand.tmp 33) (Operand.const (Value.bool false)),some (22,false)⟩,[]⟩,
  ⟨⟨some 35,Op.pick (Operand.tmp 22) (Operand.const (Value.bool true)) (Operand.tmp 34),none⟩,[]⟩,
  ⟨⟨some 8,Op.assign (Operand.tmp 35),none⟩,[]⟩]) .ret)))
theorem sl93 : slim Tryz.f93.ntmps ords93 (Tryz.f93.body.getD .skip) = some cd93 := by kernel_rfl
theorem in93 {args : List Value} {H : AH} {R : Value → AH → Prop} (hl : args.length = 4) (h : ∀ (Q : Exit → Sl → AH → Prop),(∀ e s H,endA Tryz.prog [ResultVar.tmp 8] R e s H → Q e s H) → wpC Tryz.prog cd93 Q (enterA args) H) : ACalls Tryz.prog 93 args H R :=
  ACalls.intro (by kernel_rfl) Tryz.func93 rfl (by kernel_rfl) sl93 hl (of_decide_eq_true (by kernel_rfl)) (by kernel_rfl) h
def ords45 : List (Nat × List (Nat × Bool)) := [(8,[(0,false),(1,false),(2,false),(3,false),(4,false),(8,false),(9,false),(5,true),(6,false),(7,false),(10,true),(11,false),(12,false),(13,false),(14,false),(15,false),(16,false),(17,false),(18,false),(19,false),(20,false),(21,false),(22,false),(23,false),(24,false),(25,false),(26,false),(27,false),(28,false),(29,true),(30,false),(31,false)])]
def cd45 : Cd := (.seq (.reg [⟨⟨some 4,Op.box 26 (Operand.tmp 0),none⟩,[]⟩,
  ⟨⟨some 8,Op.assign (Operand.const (Value.slice none 0 0)),none⟩,[]⟩]) (.seq (.reg [⟨⟨some 14,Op.buildSlice 24 0 #[],none⟩,[]⟩,
  ⟨⟨some 9,Op.assign (Operand.tmp 14),none⟩,[]⟩]) (.seq (.block 0 (.loop (.seq (.seq (.reg [⟨⟨some 15,Op.move (Operand.tmp 1),none⟩,[]⟩,
  ⟨⟨some 16,Op.move (Operand.tmp 2),none⟩,[]⟩,
  ⟨⟨some 17,Op.call { callee := (Callee.value (Operand.func 44)),args := #[(Operand.tmp 16)],argTypes := #[27] },none⟩,[]⟩,
  ⟨⟨some 18,Op.indexAddr 27 (Operand.tmp 15) (Operand.tmp 17),none⟩,[]⟩,
  ⟨⟨some 19,Op.load 3 (Operand.tmp 18),none⟩,[]⟩,
  ⟨⟨some 20,Op.binOp BinOp.gtr 3 (Operand.tmp 19) (Operand.const (Value.int IntKind.i64 0)) 3,none⟩,[]⟩]) (.cond (Operand.tmp 20) .skip (.exit 0))) (.block 1 (.seq (.reg [⟨⟨some 22,Op.load 26 (Operand.tmp 4),none⟩,[]⟩,
  ⟨⟨some 23,Op.move (Operand.tmp 2),none⟩,[]⟩,
  ⟨⟨some 24,Op.move (Operand.tmp 3),none⟩,[]⟩,
  ⟨⟨some 25,Op.call { callee := (Callee.value (Operand.func 89)),args := #[(Operand.tmp 22),(Operand.tmp 23),(Operand.tmp 24)],argTypes := #[26,27,4] },none⟩,[]⟩,
  ⟨⟨some 21,Op.move (Operand.tmp 25),none⟩,[]⟩,
  ⟨⟨some 26,Op.extract (Operand.tmp 21) 0,none⟩,[]⟩,
  ⟨⟨some 27,Op.extract (Operand.tmp 21) 1,none⟩,[]⟩,
  ⟨⟨some 10,Op.assign (Operand.tmp 26),none⟩,[]⟩,
  ⟨⟨some 11,Op.assign (Operand.tmp 27),none⟩,[]⟩]) (.seq (.reg [⟨⟨some 12,Op.assign (Operand.const (Value.int IntKind.i64 (-1))),none⟩,[]⟩]) (.seq (.seq (.reg [⟨⟨some 13,Op.assign (Operand.const (Value.int IntKind.i64 0)),none⟩,[]⟩]) (.block 2 (.loop (.seq (.seq (.reg [⟨⟨some 28,Op.move (Operand.tmp 13),none⟩,[]⟩,
  ⟨⟨some 29,Op.move (Operand.tmp 10),none⟩,[]⟩,
  ⟨⟨some 30,Op.call { callee := (Callee.builtin Builtin.len),args := #[(Operand.tmp 29)],argTypes := #[43] },none⟩,[]⟩,
  ⟨⟨some 31,Op.binOp BinOp.lss 3 (Operand.tmp 28) (Operand.tmp 30) 3,none⟩,[]⟩]) (.cond (Operand.tmp 31) .skip (.exit 2))) (.seq (.block 3 (.seq (.reg [⟨⟨some 34,Op.move (Operand.tmp 1),none⟩,[]⟩,
  ⟨⟨some 35,Op.move (Operand.tmp 10),none⟩,[]⟩,
  ⟨⟨some 36,Op.move (Operand.tmp 13),none⟩,[]⟩,
  ⟨⟨some 37,Op.indexAddr 43 (Operand.tmp 35) (Operand.tmp 36),none⟩,[]⟩,
  ⟨⟨some 38,Op.load 27 (Operand.tmp 37),none⟩,[]⟩,
  ⟨⟨some 42,Op.move (Operand.tmp 1),none⟩,[]⟩,
  ⟨⟨some 43,Op.move (Operand.tmp 2),none⟩,[]⟩,
  ⟨⟨some 39,Op.call { callee := (Callee.value (Operand.func 44)),args := #[(Operand.tmp 38)],argTypes := #[27] },none⟩,[]⟩,
  ⟨⟨some 40,Op.indexAddr 27 (Operand.tmp 34) (Operand.tmp 39),none⟩,[]⟩,
  ⟨⟨some 41,Op.load 3 (Operand.tmp 40),none⟩,[]⟩,
  ⟨⟨some 44,Op.call { callee := (Callee.value (Operand.func 44)),args := #[(Operand.tmp 43)],argTypes := #[27] },none⟩,[⟨some 41,Op.load 3 (Operand.tmp 40),none⟩]⟩,
  ⟨⟨some 45,Op.indexAddr 27 (Operand.tmp 42) (Operand.tmp 44),none⟩,[]⟩,
  ⟨⟨some 46,Op.load 3 (Operand.tmp 45),none⟩,[]⟩,
  ⟨⟨some 47,Op.binOp BinOp.sub 3 (Operand.tmp 46) (Operand.const (Value.int IntKind.i64 1)) 3,none⟩,[]⟩,
  ⟨⟨some 48,Op.binOp BinOp.eql 3 (Operand.tmp 41) (Operand.tmp 47) 3,none⟩,[]⟩,
  ⟨⟨some 49,Op.move (Operand.tmp 48),none⟩,[]⟩,
  ⟨⟨some 50,Op.move (Operand.tmp 12),some (49,true)⟩,[]⟩,
  ⟨⟨some 51,Op.binOp BinOp.lss 3 (Operand.tmp 50) (Operand.const (Value.int IntKind.i64 0)) 3,some (49,true)⟩,[]⟩,
  ⟨⟨some 52,Op.move (Operand.tmp 51),some (49,true)⟩,[]⟩,
  ⟨⟨some 53,Op.move (Operand.tmp 2),some (52,false)⟩,[]⟩,
  ⟨⟨some 54,Op.move (Operand.tmp 11),some (52,false)⟩,[]⟩,
  ⟨⟨some 55,Op.move (Operand.tmp 13),some (52,false)⟩,[]⟩,
  ⟨⟨some 56,Op.indexAddr 24 (Operand.tmp 54) (Operand.tmp 55),some (52,false)⟩,[]⟩,
  ⟨⟨some 57,Op.load 53 (Operand.tmp 56),some (52,false)⟩,[]⟩,
  ⟨⟨some 58,Op.move (Operand.tmp 11),some (52,false)⟩,[]⟩,
  ⟨⟨some 59,Op.move (Operand.tmp 12),some (52,false)⟩,[]⟩,
  ⟨⟨some 60,Op.indexAddr 24 (Operand.tmp 58) (Operand.tmp 59),some (52,false)⟩,[]⟩,
  ⟨⟨some 61,Op.load 53 (Operand.tmp 60),some (52,false)⟩,[]⟩,
  ⟨⟨some 62,Op.move (Operand.tmp 3),some (52,false)⟩,[]⟩,
  ⟨⟨some 63,Op.call { callee := (Callee.value (Operand.func 93)),args := #[(Operand.tmp 53),(Operand.tmp 57),(Operand.tmp 61),(Operand.tmp 62)],argTypes := #[27,53,53,4] },some (52,false)⟩,[]⟩,
  ⟨⟨some 64,Op.pick (Operand.tmp 52) (Operand.const (Value.bool true)) (Operand.tmp 63),some (49,true)⟩,[]⟩,
  ⟨⟨some 65,Op.pick (Operand.tmp 49) (Operand.tmp 64) (Operand.const (Value.bool false)),none⟩,[]⟩]) (.cond (Operand.tmp 65) (.reg [⟨⟨some 66,Op.move (Operand.tmp 13),none⟩,[]⟩,
  ⟨⟨some 12,Op.assign (Operand.tmp 66),none⟩,[]⟩]) .skip))) (.reg [⟨⟨some 32,Op.move (Operand.tmp 13),none⟩,[]⟩,
  ⟨⟨some 33,Op.binOp BinOp.add 3 (Operand.tmp 32) (Operand.const (Value.int IntKind.i64 1)) 3,none⟩,[]⟩,
  ⟨⟨some 13,Op.assign (Operand.tmp 33),none⟩,[]⟩])))))) (.seq (.reg [⟨⟨some 67,Op.move (Operand.tmp 9),none⟩,[]⟩,
  ⟨⟨some 68,Op.move (Operand.tmp 11),none⟩,[]⟩,
  ⟨⟨some 69,Op.move (Operand.tmp 12),none⟩,[]⟩,
  ⟨⟨some 70,Op.indexAddr 24 (Operand.tmp 68) (Operand.tmp 69),none⟩,[]⟩,
  ⟨⟨some 71,Op.load 53 (Operand.tmp 70),none⟩,[]⟩,
  ⟨⟨some 72,Op.buildSlice 24 1 #[(0,(Operand.tmp 71))],none⟩,[]⟩,
  ⟨⟨some 73,Op.call { callee := (Callee.builtin Builtin.append),args := #[(Operand.tmp 67),(Operand.tmp 72)],argTypes := #[24,24] },none⟩,[]⟩,
  ⟨⟨some 9,Op.assign (Operand.tmp 73),none⟩,[]⟩]) (.reg [⟨⟨some 74,Op.move (Operand.tmp 10),none⟩,[]⟩,
  ⟨⟨some 75,Op.move (Operand.tmp 12),none⟩,[]⟩,
  ⟨⟨some 76,Op.indexAddr 43 (Operand.tmp 74) (Operand.tmp 75),none⟩,[]⟩,
  ⟨⟨some 77,Op.load 27 (Operand.tmp 76),none⟩,[]⟩,
  ⟨⟨some 2,Op.assign (Operand.tmp 77),none⟩,[]⟩]))))))))) (.seq (.reg [⟨⟨some 78,Op.move (Operand.tmp 9),none⟩,[]⟩,
  ⟨⟨some 8,Op.assign (Operand.tmp 78),none⟩,[]⟩]) .ret))))
theorem sl45 : slim Tryz.f45.ntmps ords45 (Tryz.f45.body.getD .skip) = some cd45 := by kernel_rfl
theorem in45 {args : List Value} {H : AH} {R : Value → AH → Prop} (hl : args.length = 4) (h : ∀ (Q : Exit → Sl → AH → Prop),(∀ e s H,endA Tryz.prog [ResultVar.tmp 8] R e s H → Q e s H) → wpC Tryz.prog cd45 Q (enterA args) H) : ACalls Tryz.prog 45 args H R :=
  ACalls.intro (by kernel_rfl) Tryz.func45 rfl (by kernel_rfl) sl45 hl (of_decide_eq_true (by kernel_rfl)) (by kernel_rfl) h
end Go.Proofs.YtelafbennmclfaaGreat.Ai
namespace Go.Proofs.YtelafbennmclfaaGreat.Ai
open Go Go.RowKit
theorem noInt_pr (vs : List Value) (ro : Bool) : NoInt (.cells vs 53 ro) := fun ws r h => by
  simp only [AObj.cells.injEq] at h
  exact absurd h.2.1 (by decide)
theorem Row.keptPr {H0 H H' : AH} {x v : Value} {xs : List Int} {ps : List (Int × Int)} (h : Row 3 H x xs) (hm : MineP 53 H0 H v ps) (hk : Kept v H H') : Row 3 H' x xs := by
  rcases hm with g | ⟨oo,zs,g1,g2,g3,g4⟩
  · exact h.mono fun y hy => hk _ _ (.inl g.1) hy
  · exact h.but g3 (noInt_pr _ _) fun j y hj hy => hk j y (.inr (by rw [g1]; exact hj)) hy
set_option maxRecDepth 20000 in
set_option maxHeartbeats 1000000 in
theorem l9Other_c (w : Value) (p : List Int) (a b : Nat) (H : AH) (hx : Row 3 H w p) (ha : a < p.length) :
    ACalls Tryz.prog 117 [w,.agg (List.toArray [.int .i64 (a : Int),.int .i64 (b : Int)])] H fun r H' => r = .int .i64 (othB p ((a : Int),(b : Int))) ∧ H <+: H' := by
  refine in117 rfl ?_
  intro Q hQ
  simp (maxSteps := 1000000) (disch := omega) only [cd117,box_a2,SS,eq_self,reduceIte,reduceCtorEq,Nat.reduceEqDiff,Nat.reduceAdd]
  generalize hA : H ++ [AObj.cells [.int .i64 (a : Int),.int .i64 (b : Int)] 53 false] = A
  have pA : H <+: A := by rw [← hA]; exact List.prefix_append _ _
  have cA : A[H.length]? = some (.cells [.int .i64 (a : Int),.int .i64 (b : Int)] 53 false) := by rw [← hA]; exact at_new ..
  have hxA := hx.pre pA
  have ho : othB p ((a : Int),(b : Int)) = if p.getD a 0 = 0 then (b : Int) else (a : Int) := by unfold othB; simp only [Int.toNat_natCast]
  simp (maxSteps := 1000000) (disch := omega) only [cell_of cA,hxA.ix Tryz.underlying27 cs3,hxA.cell,Int.toNat_natCast,SS,eq_self,reduceIte,reduceCtorEq,Nat.reduceEqDiff,Nat.reduceAdd]
  refine brD.intro (fun e => ?_) (fun e => ?_) <;> simp (maxSteps := 1000000) (disch := omega) only [cell_of cA,SS,eq_self,reduceIte,reduceCtorEq,Nat.reduceEqDiff,Nat.reduceAdd] <;> refine hQ _ _ _ ?_ <;> simp (maxSteps := 1000000) (disch := omega) only [SS,eq_self,reduceIte,reduceCtorEq,Nat.reduceEqDiff,Nat.reduceAdd]
  · rw [ho,if_pos e]; exact ⟨rfl,pA⟩
  · rw [ho,if_neg e]; exact ⟨rfl,pA⟩
def fstB (sl : Bool) (p : List Int) (x y : Int × Int) : Bool := if sl = true then decide (othB p x < othB p y) else decide (pairLt x y)
set_option maxRecDepth 20000 in
set_option maxHeartbeats 4000000 in
theorem l9First_c (sl : Bool) (w : Value) (p : List Int) (a b c d : Nat) (H : AH) (hx : Row 3 H w p) (ha : a < p.length) (hc : c < p.length) :
    ACalls Tryz.prog 93 [w,.agg (List.toArray [.int .i64 (a : Int),.int .i64 (b : Int)]),.agg (List.toArray [.int .i64 (c : Int),.int .i64 (d : Int)]),.bool sl] H fun r H' => r = .bool (fstB sl p ((a : Int),(b : Int)) ((c : Int),(d : Int))) ∧ H <+: H' := by
  refine in93 rfl ?_
  intro Q hQ
  simp (maxSteps := 1000000) (disch := omega) only [cd93,box_a2,SS,eq_self,reduceIte,reduceCtorEq,Nat.reduceEqDiff,Nat.reduceAdd]
  generalize hA : H ++ [AObj.cells [.int .i64 (a : Int),.int .i64 (b : Int)] 53 false] = A
  have pA : H <+: A := by rw [← hA]; exact List.prefix_append _ _
  have cA : A[H.length]? = some (.cells [.int .i64 (a : Int),.int .i64 (b : Int)] 53 false) := by rw [← hA]; exact at_new ..
  generalize hB : A ++ [AObj.cells [.int .i64 (c : Int),.int .i64 (d : Int)] 53 false] = B
  have pB : A <+: B := by rw [← hB]; exact List.prefix_append _ _
  have cB : B[A.length]? = some (.cells [.int .i64 (c : Int),.int .i64 (d : Int)] 53 false) := by rw [← hB]; exact at_new ..
  have cBA := pre_at pB cA
  have hxB := (hx.pre pA).pre pB
  cases sl with
  | true =>
    simp (maxSteps := 1000000) (disch := omega) only [ld_a2 cBA,ld_a2 cB,SS,eq_self,reduceIte,reduceCtorEq,Nat.reduceEqDiff,Nat.reduceAdd]
    refine CallH.by (l9Other_c w p a b B hxB ha) ?_
    rintro _ C ⟨rfl,pC⟩
    simp (maxSteps := 1000000) (disch := omega) only [ld_a2 (pre_at pC cB),SS,eq_self,reduceIte,reduceCtorEq,Nat.reduceEqDiff,Nat.reduceAdd]
    refine CallH.by (l9Other_c w p c d C (hxB.pre pC) hc) ?_
    rintro _ D ⟨rfl,pD⟩
    simp (maxSteps := 1000000) (disch := omega) only [SS,eq_self,reduceIte,reduceCtorEq,Nat.reduceEqDiff,Nat.reduceAdd]
    refine hQ _ _ _ ?_
    simp (maxSteps := 1000000) (disch := omega) only [SS,eq_self,reduceIte,reduceCtorEq,Nat.reduceEqDiff,Nat.reduceAdd]
    exact ⟨rfl,pA.trans (pB.trans (pC.trans pD))⟩
  | false =>
    have hp : fstB false p ((a : Int),(b : Int)) ((c : Int),(d : Int)) = decide ((a : Int) < c ∨ (a : Int) = c ∧ (b : Int) < d) := rfl
    rw [hp] at hQ
    simp (maxSteps := 1000000) (disch := omega) only [cell_of cBA,cell_of cB,SS,eq_self,reduceIte,reduceCtorEq,Nat.reduceEqDiff,Nat.reduceAdd]
    refine brD.intro (fun e1 => ?_) (fun e1 => ?_)
    · simp (maxSteps := 1000000) (disch := omega) only [e1,SS,eq_self,reduceIte,reduceCtorEq,Nat.reduceEqDiff,Nat.reduceAdd]
      refine hQ _ _ _ ?_
      simp (maxSteps := 1000000) (disch := omega) only [SS,eq_self,reduceIte,reduceCtorEq,Nat.reduceEqDiff,Nat.reduceAdd]
      exact ⟨by rw [decide_eq_true (.inl e1)],pA.trans pB⟩
    simp (maxSteps := 1000000) (disch := omega) only [e1,cell_of cBA,cell_of cB,SS,eq_self,reduceIte,reduceCtorEq,Nat.reduceEqDiff,Nat.reduceAdd]
    refine brD.intro (fun e2 => ?_) (fun e2 => ?_)
    · simp (maxSteps := 1000000) (disch := omega) only [e1,e2,cell_of cBA,cell_of cB,SS,eq_self,reduceIte,reduceCtorEq,Nat.reduceEqDiff,Nat.reduceAdd]
      refine hQ _ _ _ ?_
      simp (maxSteps := 1000000) (disch := omega) only [SS,eq_self,reduceIte,reduceCtorEq,Nat.reduceEqDiff,Nat.reduceAdd]
      refine ⟨?_,pA.trans pB⟩
      rw [Value.bool.injEq,decide_eq_decide]
      omega
    · simp (maxSteps := 1000000) (disch := omega) only [e1,e2,SS,eq_self,reduceIte,reduceCtorEq,Nat.reduceEqDiff,Nat.reduceAdd]
      refine hQ _ _ _ ?_
      simp (maxSteps := 1000000) (disch := omega) only [SS,eq_self,reduceIte,reduceCtorEq,Nat.reduceEqDiff,Nat.reduceAdd]
      refine ⟨?_,pA.trans pB⟩
      rw [Value.bool.injEq,eq_comm,decide_eq_false_iff_not]
      omega
theorem fstB_no {n : Nat} {es : List (Int × Int)} (hg : Grd (n : Int) es) {sl : Bool} (hsl : sl = true → 1 ≤ n) {q : List Int} (hq : Bd n q) {i j : Nat} (hij : i < j) (hj : j < (mvs es sl q).length) : fstB sl q ((mvs es sl q).getD j (0,0)) ((mvs es sl q).getD i (0,0)) = false := by
  have hi : i < (mvs es sl q).length := by omega
  have e1 : (mvs es sl q).getD j (0,0) = (mvs es sl q)[j] := by simp [hj]
  have e2 : (mvs es sl q).getD i (0,0) = (mvs es sl q)[i] := by simp [hi]
  rw [e1,e2]
  unfold fstB
  cases sl with
  | true =>
    obtain ⟨h,h1,h2,h3⟩ := hole_of hq (hsl rfl)
    have := (oth_srt hg hq h1 h3).1
    rw [List.pairwise_map,List.pairwise_iff_getElem] at this
    have := this i j hi hj hij
    rw [if_pos rfl,decide_eq_false_iff_not]
    omega
  | false =>
    have hp : (mvs es false q).Pairwise pairLt := (grd_pw hg).filter _
    rw [List.pairwise_iff_getElem] at hp
    have := hp i j hi hj hij
    rw [if_neg (by decide),decide_eq_false_iff_not]
    unfold pairLt at *
    omega
set_option maxRecDepth 20000 in
set_option maxHeartbeats 8000000 in
theorem l9Steps_c (n : Nat) (v fv w : Value) (es : List (Int × Int)) (p0 p : List Int) (sl : Bool) (d : Nat) (H : AH) (hr : RowP 53 H v es) (hlen : es.length ≤ 1000000) (hx : Row 3 H w p) (hg : Grd (n : Int) es) (hp0 : Bd n p0) (hp : Bd n p) (hn : n ≤ 6) (hsl : sl = true → 1 ≤ n)
    (hfv : Row 3 H fv (spL (mny n) (bdR es sl p0))) (hd : bdD (bdR es sl p0) p = some (d : Int)) (hd7 : d ≤ 720) :
    ACalls Tryz.prog 45 [.agg (List.toArray [.int .i64 (n : Int),v]),fv,w,.bool sl] H fun r H' => MineP 53 H H' r ((pthL (bdR es sl p0) es sl d p).map (·.1)) ∧ H <+: H' := by
  have hI := bdR_I hn hg sl hp0
  have hmn := mny_le hn
  have hslen := spL_len (mny n) (bdR es sl p0)
  have hat : ∀ b,Bd n b → ∀ x,bdD (bdR es sl p0) b = some x → ∃ z : Nat,cod b = (z : Int) ∧ z < (spL (mny n) (bdR es sl p0)).length ∧ (spL (mny n) (bdR es sl p0)).getD z 0 = x := by
    intro b hb x hx
    obtain ⟨z,hz,hzl⟩ := cod_nat hn hb
    have := spL_at hn hb hI.ok
    rw [hz,Int.toNat_natCast,hx] at this
    exact ⟨z,hz,by rw [hslen]; exact hzl,this⟩
  refine in45 rfl ?_
  intro Q hQ
  simp (maxSteps := 1000000) (disch := omega) only [cd45,hr.boxG,SS,eq_self,reduceIte,reduceCtorEq,Nat.reduceEqDiff,Nat.reduceAdd]
  generalize hA : H ++ [AObj.cells [.int .i64 ↑n,v] 26 false] = A
  have pA : H <+: A := by rw [← hA]; exact List.prefix_append _ _
  have cA : A[H.length]? = some (.cells [.int .i64 ↑n,v] 26 false) := by rw [← hA]; exact at_new ..
  have rA := hr.pre pA
  try simp (maxSteps := 1000000) (disch := omega) only [SS,eq_self,reduceIte,reduceCtorEq,Nat.reduceEqDiff,Nat.reduceAdd]
  generalize hB : A ++ [AObj.cells [] 53 false] = B
  have pB : A <+: B := by rw [← hB]; exact List.prefix_append _ _
  have lA : A.length = H.length + 1 := by rw [← hA]; simp
  have hm0 : MineP 53 A B (.slice (some ⟨A.length,0,none⟩) 0 0) [] := by rw [← hB]; exact MineP.nil0 (P := Tryz.prog) A A (Nat.le_refl _)
  generalize hS : bdR es sl p0 = S0 at *
  generalize hF : spL (mny n) S0 = F at *
  refine LoopH.by (fun m s H' => ∃ (q : List Int) (out : List (Int × Int)),s 1 = fv ∧ s 3 = .bool sl ∧ s 4 = .pointer (some ⟨H.length,0,none⟩) ∧ Row 3 H' (s 2) q ∧ Bd n q ∧ bdD S0 q = some ((m : Nat) : Int) ∧ m ≤ 720 ∧ out.length + m = d ∧ out ++ (pthL S0 es sl m q).map (·.1) = (pthL S0 es sl d p).map (·.1) ∧ MineP 53 A H' (s 9) out ∧ A <+: H') d ?_ ?_
  · refine ⟨p,[],?_⟩
    have f1 := (hx.pre pA).pre pB
    simp (maxSteps := 1000000) (disch := omega) only [SS,eq_self,reduceIte,reduceCtorEq,Nat.reduceEqDiff,Nat.reduceAdd]
    (repeat' first | exact f1 | exact hp | exact hd | exact hm0 | exact pB | apply And.intro) <;> first | (simp only [Value.int.injEq,true_and]; omega) | omega | rfl | assumption | (simp; done) | (simp; omega)
  rintro m s H' ⟨q,out,h1,h3,h4,hrq,hbq,hdq,hm7,hol,hout,hmo,hpA⟩
  generalize hU : s 9 = U at *
  generalize hW : s 2 = W at *
  have hrH := hr.pre (pA.trans hpA)
  have cH := pre_at hpA cA
  have hfH := hfv.pre (pA.trans hpA)
  obtain ⟨zq,hzq,hzql,hzqv⟩ := hat q hbq _ hdq
  have hcq := hfH.cell hzql
  rw [hzqv] at hcq
  have hql := hbq.2
  simp (maxSteps := 1000000) (disch := omega) only [h1,h3,h4,hU,hW,SS,eq_self,reduceIte,reduceCtorEq,Nat.reduceEqDiff,Nat.reduceAdd]
  refine CallH.by (l9Code_c W q H' hrq (by omega)) ?_
  rintro _ _ ⟨rfl,rfl⟩
  rw [hzq]
  simp (maxSteps := 1000000) (disch := omega) only [h1,h3,h4,hU,hW,hfH.ix Tryz.underlying27 cs3,Int.toNat_natCast,hcq,SS,eq_self,reduceIte,reduceCtorEq,Nat.reduceEqDiff,Nat.reduceAdd]
  refine brD.intro (fun g => ?_) (fun g => ?_)
  rotate_left
  · have hm0 : m = 0 := by omega
    subst hm0
    simp (maxSteps := 1000000) (disch := omega) only [hU,SS,eq_self,reduceIte,reduceCtorEq,Nat.reduceEqDiff,Nat.reduceAdd]
    refine hQ _ _ _ ?_
    simp (maxSteps := 1000000) (disch := omega) only [hU,hmo.row.tup,SS,eq_self,reduceIte,reduceCtorEq,Nat.reduceEqDiff,Nat.reduceAdd]
    have hout' : out = (pthL S0 es sl d p).map (·.1) := by rw [← hout]; simp [pthL]
    rw [← hout']
    exact ⟨hmo.base pA,pA.trans hpA⟩
  obtain ⟨m1,rfl⟩ : ∃ m1,m = m1 + 1 := ⟨m - 1,by omega⟩
  have hf0 := fst1_some hn hg sl hp0 (b := q) (d := m1) (by rw [hS]; exact hdq)
  rw [hS] at hf0
  obtain ⟨e1,hf1,hf2,hf3⟩ := hf0
  have hpth : (pthL S0 es sl (m1 + 1) q).map (·.1) = e1 :: (pthL S0 es sl m1 (swp q e1.1.toNat e1.2.toNat)).map (·.1) := by
    simp only [pthL,hf1,List.map_cons]
  rw [hpth] at hout
  have hidx : ∃ i1,i1 < (mvs es sl q).length ∧ (mvs es sl q).getD i1 (0,0) = e1 ∧ ∀ j,j < i1 → bdD S0 (swp q ((mvs es sl q).getD j (0,0)).1.toNat ((mvs es sl q).getD j (0,0)).2.toNat) ≠ some (m1 : Int) := by
    have hf1' : (mvs es sl q).find? (fun e => decide (bdD S0 (swp q e.1.toNat e.2.toNat) = some (m1 : Int))) = some e1 := hf1
    rw [List.find?_eq_some_iff_getElem] at hf1'
    obtain ⟨_,i1,hi1,he1,hb1⟩ := hf1'
    refine ⟨i1,hi1,by simp [hi1,he1],fun j hj => ?_⟩
    have := hb1 j hj
    have hjl : j < (mvs es sl q).length := by omega
    have eg : (mvs es sl q).getD j (0,0) = (mvs es sl q)[j] := by simp [hjl]
    rw [eg]
    simpa using this
  obtain ⟨i1,hi1,he1,hbef⟩ := hidx
  simp (maxSteps := 1000000) (disch := omega) only [h1,h3,h4,hU,hW,ld_agg ag26 cs26 cH,SS,eq_self,reduceIte,reduceCtorEq,Nat.reduceEqDiff,Nat.reduceAdd]
  refine CallH.by (l9Next_c n v W es q sl H' hrH hlen hrq hg hbq) ?_
  rintro _ G ⟨L,M,rfl,hL,hM,pG⟩
  obtain ⟨us,hus,hul,heach⟩ := hL.parts
  have hnl := nxt_len es sl q
  have hml := mvs_len es sl q
  have hrM := hM.row
  have hfG := hfH.pre pG
  have hrqG := hrq.pre pG
  have cGG := pre_at pG cH
  have hNat : ∀ i,i < (mvs es sl q).length → (nxt es sl q).getD i [] = swp q ((mvs es sl q).getD i (0,0)).1.toNat ((mvs es sl q).getD i (0,0)).2.toNat := by
    intro i hi
    unfold nxt
    rw [List.getD_eq_getElem?_getD,List.getElem?_map,List.getElem?_eq_getElem hi]
    simp [hi]
  have hknown : ∀ i,i < (mvs es sl q).length → Bd n ((nxt es sl q).getD i []) ∧ ∃ x,bdD S0 ((nxt es sl q).getD i []) = some x := by
    intro i hi
    have hm : (nxt es sl q).getD i [] ∈ nxt es sl q := by
      have : i < (nxt es sl q).length := by omega
      simp [this]
    have hk := bdR_known hn hg sl hp0 (b := q) (d := ((m1 + 1 : Nat) : Int)) (by rw [hS]; exact hdq) hm
    rw [hS] at hk
    obtain ⟨x,hx,_⟩ := hk
    exact ⟨nxt_bd hg sl hbq _ hm,x,hx⟩
  have hends : ∀ i,i < (mvs es sl q).length → ∃ a b : Nat,(mvs es sl q).getD i (0,0) = ((a : Int),(b : Int)) ∧ a < q.length := by
    intro i hi
    have hm : (mvs es sl q).getD i (0,0) ∈ mvs es sl q := by simp [hi]
    obtain ⟨q1,q2,q3⟩ := grd_mem hg (mvs_mem hm).1
    generalize (mvs es sl q).getD i (0,0) = e at *
    obtain ⟨x,y⟩ := e
    refine ⟨x.toNat,y.toNat,?_,?_⟩
    · simp only at q1 q2; rw [Int.toNat_of_nonneg q1,Int.toNat_of_nonneg (by omega)]
    · simp only at q1 q2 q3; omega
  simp (maxSteps := 1000000) (disch := omega) only [h1,h3,h4,hU,hW,SS,eq_self,reduceIte,reduceCtorEq,Nat.reduceEqDiff,Nat.reduceAdd]
  refine LoopH.by (fun m' s' H2 => ∃ i : Nat,m' + i = (mvs es sl q).length ∧ s' 1 = fv ∧ s' 2 = W ∧ s' 3 = .bool sl ∧ s' 4 = .pointer (some ⟨H.length,0,none⟩) ∧ s' 9 = U ∧ s' 10 = L ∧ s' 11 = M ∧ s' 12 = .int .i64 (if i ≤ i1 then -1 else (i1 : Int)) ∧ s' 13 = .int .i64 ((i : Nat) : Int) ∧ G <+: H2) (mvs es sl q).length ?_ ?_
  · refine ⟨0,by simp,?_⟩
    simp (maxSteps := 1000000) (disch := omega) only [h1,h3,h4,hU,hW,SS,eq_self,reduceIte,reduceCtorEq,Nat.reduceEqDiff,Nat.reduceAdd]
    rw [if_pos (Nat.zero_le i1)]
    (repeat' first | exact List.prefix_refl _ | apply And.intro) <;> first | (simp only [Value.int.injEq,true_and]; omega) | omega | rfl | assumption | (simp; done) | (simp; omega)
  · rintro m' s' H2 ⟨i,hm',k1,k2,k3,k4,k9,k10,k11,k12,k13,pH2⟩
    have hus2 := hus.pre pH2
    have hf2' := hfG.pre pH2
    have hq2 := hrqG.pre pH2
    have hrM2 := hrM.pre pH2
    simp (maxSteps := 1000000) (disch := omega) only [k1,k2,k3,k4,k9,k10,k11,k12,k13,hus2.len Tryz.underlying43,hul,hnl,SS,eq_self,reduceIte,reduceCtorEq,Nat.reduceEqDiff,Nat.reduceAdd]
    refine brD.intro (fun g1 => ?_) (fun g1 => ?_)
    · have hi : i < (mvs es sl q).length := by omega
      have hiN : i < (nxt es sl q).length := by omega
      have hrow := ((heach i hiN).row.1).pre pH2
      have hcell := hus2.cell (show i < us.length by omega)
      obtain ⟨hcb,x,hcx⟩ := hknown i hi
      have hni := hNat i hi
      obtain ⟨a,b,hab,hal⟩ := hends i hi
      obtain ⟨a1,b1,hab1,hal1⟩ := hends i1 hi1
      have hno := fun hij => fstB_no hg hsl hbq (i := i1) (j := i) hij hi
      rw [hab,hab1] at hno
      have hldi := hrM2.ld (P := Tryz.prog) ag53 cs53 hi
      have hld1 := hrM2.ld (P := Tryz.prog) ag53 cs53 hi1
      rw [hab] at hldi
      rw [hab1] at hld1
      have hbi := hbef i
      rw [← hni,hcx] at hbi
      have hx1 : i = i1 → x = (m1 : Int) := fun e => by
        rw [e] at hcx hni
        rw [hni,he1,hf3] at hcx
        simpa using hcx.symm
      obtain ⟨zc,hzc,hzcl,hzcv⟩ := hat _ hcb x hcx
      have hcc := hf2'.cell hzcl
      rw [hzcv] at hcc
      have hcq2 := hf2'.cell hzql
      rw [hzqv] at hcq2
      generalize hc : (nxt es sl q).getD i [] = c at *
      have hcl := hcb.2
      have hm11 : ((m1 + 1 : Nat) : Int) - 1 = (m1 : Int) := by omega
      simp (maxSteps := 1000000) (disch := omega) only [k1,k2,k3,k4,k9,k10,k11,k12,k13,hus2.ix Tryz.underlying43 cs27,hcell,Int.toNat_natCast,SS,eq_self,reduceIte,reduceCtorEq,Nat.reduceEqDiff,Nat.reduceAdd]
      refine CallH.by (l9Code_c _ c H2 hrow (by omega)) ?_
      rintro _ _ ⟨rfl,rfl⟩
      rw [hzc]
      simp (maxSteps := 1000000) (disch := omega) only [k1,k2,k3,k4,k9,k10,k11,k12,k13,hf2'.ix Tryz.underlying27 cs3,Int.toNat_natCast,hcc,SS,eq_self,reduceIte,reduceCtorEq,Nat.reduceEqDiff,Nat.reduceAdd]
      refine CallH.by (l9Code_c W q H2 hq2 (by omega)) ?_
      rintro _ _ ⟨rfl,rfl⟩
      rw [hzq]
      simp (maxSteps := 1000000) (disch := omega) only [k1,k2,k3,k4,k9,k10,k11,k12,k13,hf2'.ix Tryz.underlying27 cs3,Int.toNat_natCast,hcc,hcq2,hm11,wrap64,SS,eq_self,reduceIte,reduceCtorEq,Nat.reduceEqDiff,Nat.reduceAdd]
      by_cases e : x = (m1 : Int)
      · simp (maxSteps := 1000000) (disch := omega) only [decide_eq_true e,k1,k2,k3,k4,k9,k10,k11,k12,k13,SS,eq_self,reduceIte,reduceCtorEq,Nat.reduceEqDiff,Nat.reduceAdd]
        have hge : ¬ i < i1 := fun h => hbi h (by rw [e])
        by_cases e2 : i = i1
        · have hif : (if i ≤ i1 then (-1 : Int) else (i1 : Int)) = -1 := if_pos (by omega)
          have hlt : ((-1 : Int) < 0) := by decide
          simp (maxSteps := 1000000) (disch := omega) only [hif,decide_eq_true hlt,k1,k2,k3,k4,k9,k10,k11,k12,k13,wrap64,SS,eq_self,reduceIte,reduceCtorEq,Nat.reduceEqDiff,Nat.reduceAdd]
          refine ⟨m' - 1,by omega,i + 1,?_⟩
          have hif2 : (if i + 1 ≤ i1 then (-1 : Int) else (i1 : Int)) = (i : Int) := by rw [if_neg (by omega)]; omega
          rw [hif2]
          (repeat' first | exact pH2 | apply And.intro) <;> first | (simp only [Value.int.injEq,true_and]; omega) | omega | rfl | assumption | (simp; done) | (simp; omega)
        · have hif : (if i ≤ i1 then (-1 : Int) else (i1 : Int)) = (i1 : Int) := if_neg (by omega)
          have hlt : ¬ ((i1 : Int) < 0) := by omega
          simp (maxSteps := 1000000) (disch := omega) only [hif,decide_eq_false hlt,k1,k2,k3,k4,k9,k10,k11,k12,k13,hrM2.ix Tryz.underlying24 cs53,Int.toNat_natCast,hldi,hld1,SS,eq_self,reduceIte,reduceCtorEq,Nat.reduceEqDiff,Nat.reduceAdd]
          refine CallH.by (l9First_c sl W q a b a1 b1 H2 hq2 hal hal1) ?_
          rintro _ H3 ⟨rfl,p3⟩
          rw [hno (by omega)]
          have f1 := pH2.trans p3
          simp (maxSteps := 1000000) (disch := omega) only [hif,decide_eq_false hlt,k1,k2,k3,k4,k9,k10,k11,k12,k13,wrap64,SS,eq_self,reduceIte,reduceCtorEq,Nat.reduceEqDiff,Nat.reduceAdd]
          refine ⟨m' - 1,by omega,i + 1,?_⟩
          have hif2 : (if i + 1 ≤ i1 then (-1 : Int) else (i1 : Int)) = (i1 : Int) := if_neg (by omega)
          rw [hif2]
          (repeat' first | exact f1 | apply And.intro) <;> first | (simp only [Value.int.injEq,true_and]; omega) | omega | rfl | assumption | (simp; done) | (simp; omega)
      · have hne : i ≠ i1 := fun h => e (hx1 h)
        simp (maxSteps := 1000000) (disch := omega) only [decide_eq_false e,k1,k2,k3,k4,k9,k10,k11,k12,k13,wrap64,SS,eq_self,reduceIte,reduceCtorEq,Nat.reduceEqDiff,Nat.reduceAdd]
        refine ⟨m' - 1,by omega,i + 1,?_⟩
        have hif2 : (if i + 1 ≤ i1 then (-1 : Int) else (i1 : Int)) = (if i ≤ i1 then (-1 : Int) else (i1 : Int)) := by
          by_cases h : i ≤ i1
          · rw [if_pos (by omega),if_pos h]
          · rw [if_neg (by omega),if_neg h]
        rw [hif2]
        (repeat' first | exact pH2 | apply And.intro) <;> first | (simp only [Value.int.injEq,true_and]; omega) | omega | rfl | assumption | (simp; done) | (simp; omega)
    · have hi : i = (mvs es sl q).length := by omega
      have hif : (if i ≤ i1 then (-1 : Int) else (i1 : Int)) = (i1 : Int) := if_neg (by omega)
      rw [hif] at k12
      have hld1 := hrM2.ld (P := Tryz.prog) ag53 cs53 hi1
      rw [he1] at hld1
      have hi1N : i1 < (nxt es sl q).length := by omega
      have hcell0 := hus2.cell (show i1 < us.length by omega)
      have hrow0 := ((heach i1 hi1N).row.1).pre pH2
      have hni := hNat i1 hi1
      rw [he1] at hni
      rw [hni] at hrow0
      have hcb0 := (hknown i1 hi1).1
      rw [hni] at hcb0
      have hmo2 := hmo.pre (pG.trans pH2)
      have hpA2 := hpA.trans (pG.trans pH2)
      obtain ⟨U',H4,j1,j2,j3,j4,j5,j6⟩ := own1_24 hmo2 hpA2 (by omega) e1.1 e1.2
      have hL4 := heach i1 hi1N
      have hus4 : RowV 27 H4 L us := by
        rcases hmo2 with g5 | ⟨oo,zs,g5,g6,g7,g8⟩
        · exact hus2.mono fun y hy => j4 _ _ (.inl g5.1) hy
        · refine hus2.mono fun y hy => j4 _ _ (.inr ?_) hy
          rw [g5]
          show rowO L ≠ oo
          intro e
          rcases hus2 with h5 | ⟨o5,k5,vs5,ro5,h5,h6,_⟩
          · have : (nxt es sl q).length = 0 := by rw [← hul,h5.2]; rfl
            omega
          · rw [h5] at e
            have e' : o5 = oo := e
            rw [e',g7] at h6
            simp only [Option.some.injEq,AObj.cells.injEq] at h6
            exact absurd h6.2.1 (by decide)
      have hcell4 := hus4.cell (show i1 < us.length by omega)
      have f1 := hrow0.keptPr hmo2 j4
      have f3 : out ++ [e1] ++ (pthL S0 es sl m1 (swp q e1.1.toNat e1.2.toNat)).map (·.1) = (pthL S0 es sl d p).map (·.1) := by
        rw [← hout,List.append_assoc]; rfl
      have f4 : (out ++ [e1]).length + m1 = d := by rw [List.length_append]; simp; omega
      simp (maxSteps := 1000000) (disch := omega) only [k1,k2,k3,k4,k9,k10,k11,k12,k13,hrM2.ix Tryz.underlying24 cs53,Int.toNat_natCast,hld1,j1,hus4.ix Tryz.underlying43 cs27,hcell4,SS,eq_self,reduceIte,reduceCtorEq,Nat.reduceEqDiff,Nat.reduceAdd]
      refine ⟨m1,by omega,swp q e1.1.toNat e1.2.toNat,out ++ [e1],?_⟩
      (repeat' first | exact f1 | exact hcb0 | exact hf3 | exact f4 | exact f3 | exact j2 | exact j3 | apply And.intro) <;> first | (simp only [Value.int.injEq,true_and]; omega) | omega | rfl | assumption | (simp; done) | (simp; omega)
def ords41 : List (Nat × List (Nat × Bool)) := [(1,[(0,false),(1,false),(4,false),(5,false),(2,true),(3,true),(6,false),(7,false)])]
def cd41 : Cd := (.seq (.reg [⟨⟨some 4,Op.assign (Operand.const (Value.bool false)),none⟩,[]⟩]) (.seq (.reg [⟨⟨some 5,Op.load 56 (Operand.tmp 1),none⟩,[]⟩,
  ⟨⟨some 6,Op.move (Operand.tmp 0),none⟩,[]⟩,
  ⟨⟨some 9,Op.load 3 (Operand.tmp 2),none⟩,[]⟩,
  ⟨⟨some 10,Op.binOp BinOp.sub 3 (Operand.tmp 9) (Operand.const (Value.int IntKind.i64 1)) 3,none⟩,[]⟩,
  ⟨⟨some 7,Op.call { callee := (Callee.value (Operand.func 38)),args := #[(Operand.tmp 6)],argTypes := #[27] },none⟩,[⟨some 9,Op.load 3 (Operand.tmp 2),none⟩,⟨some 5,Op.load 56 (Operand.tmp 1),none⟩]⟩,
  ⟨⟨some 8,Op.lookup 56 (Operand.tmp 5) (Operand.tmp 7) false,none⟩,[⟨some 9,Op.load 3 (Operand.tmp 2),none⟩]⟩,
  ⟨⟨some 11,Op.binOp BinOp.eql 3 (Operand.tmp 8) (Operand.tmp 10) 3,none⟩,[]⟩,
  ⟨⟨some 4,Op.assign (Operand.tmp 11),none⟩,[]⟩]) .ret))
theorem sl41 : slim Tryz.f41.ntmps ords41 (Tryz.f41.body.getD .skip) = some cd41 := by kernel_rfl
theorem in41 {args : List Value} {H : AH} {R : Value → AH → Prop} (hl : args.length = 3) (h : ∀ (Q : Exit → Sl → AH → Prop),(∀ e s H,endA Tryz.prog [ResultVar.tmp 4] R e s H → Q e s H) → wpC Tryz.prog cd41 Q (enterA args) H) : ACalls Tryz.prog 41 args H R :=
  ACalls.intro (by kernel_rfl) Tryz.func41 rfl (by kernel_rfl) sl41 hl (of_decide_eq_true (by kernel_rfl)) (by kernel_rfl) h
def ords7 : List (Nat × List (Nat × Bool)) := [(4,[(0,false),(1,false),(7,false),(2,true),(3,true),(4,false),(5,false),(6,false),(8,true),(9,false)]),(13,[(0,false),(1,false),(2,false),(3,false),(4,false),(5,false),(7,false),(8,false),(9,false),(10,false),(6,true),(11,true),(12,false)])]
def cd7 : Cd := (.seq (.reg [⟨⟨some 3,Op.box 26 (Operand.tmp 0),none⟩,[]⟩,
  ⟨⟨some 6,Op.assign (Operand.const (Value.slice none 0 0)),none⟩,[]⟩,
  ⟨⟨some 7,Op.assign (Operand.const (Value.bool false)),none⟩,[]⟩]) (.seq (.seq (.reg [⟨⟨some 16,Op.load 26 (Operand.tmp 3),none⟩,[]⟩,
  ⟨⟨some 17,Op.move (Operand.tmp 1),none⟩,[]⟩,
  ⟨⟨some 18,Op.call { callee := (Callee.value (Operand.func 35)),args := #[(Operand.tmp 16),(Operand.tmp 17)],argTypes := #[26,27] },none⟩,[]⟩,
  ⟨⟨some 19,Op.unOp UnOp.not 4 (Operand.tmp 18),none⟩,[]⟩,
  ⟨⟨some 20,Op.move (Operand.tmp 19),none⟩,[]⟩,
  ⟨⟨some 21,Op.load 26 (Operand.tmp 3),some (20,false)⟩,[]⟩,
  ⟨⟨some 22,Op.move (Operand.tmp 2),some (20,false)⟩,[]⟩,
  ⟨⟨some 23,Op.call { callee := (Callee.value (Operand.func 35)),args := #[(Operand.tmp 21),(Operand.tmp 22)],argTypes := #[26,27] },some (20,false)⟩,[]⟩,
  ⟨⟨some 24,Op.unOp UnOp.not 4 (Operand.tmp 23),some (20,false)⟩,[]⟩,
  ⟨⟨some 25,Op.pick (Operand.tmp 20) (Operand.const (Value.bool true)) (Operand.tmp 24),none⟩,[]⟩]) (.cond (Operand.tmp 25) (.seq (.reg [⟨⟨some 6,Op.assign (Operand.const (Value.slice none 0 0)),none⟩,[]⟩,
  ⟨⟨some 7,Op.assign (Operand.const (Value.bool false)),none⟩,[]⟩]) .ret) .skip)) (.seq (.reg [⟨⟨some 26,Op.move (Operand.tmp 2),none⟩,[]⟩,
  ⟨⟨some 27,Op.load 26 (Operand.tmp 3),none⟩,[]⟩,
  ⟨⟨some 28,Op.makeFunc (Fn.func 37) #[(Operand.tmp 27)] #[],none⟩,[]⟩,
  ⟨⟨some 29,Op.call { callee := (Callee.value (Operand.func 36)),args := #[(Operand.tmp 26),(Operand.tmp 28)],argTypes := #[27,58] },none⟩,[]⟩,
  ⟨⟨some 8,Op.alloc 56,none⟩,[]⟩,
  ⟨⟨none,Op.store 56 (Operand.tmp 8) (Operand.tmp 29),none⟩,[]⟩]) (.seq (.reg [⟨⟨some 31,Op.load 56 (Operand.tmp 8),none⟩,[]⟩,
  ⟨⟨some 32,Op.move (Operand.tmp 1),none⟩,[]⟩,
  ⟨⟨some 9,Op.alloc 3,none⟩,[]⟩,
  ⟨⟨some 33,Op.call { callee := (Callee.value (Operand.func 38)),args := #[(Operand.tmp 32)],argTypes := #[27] },none⟩,[⟨some 9,Op.alloc 3,none⟩,⟨some 31,Op.load 56 (Operand.tmp 8),none⟩]⟩,
  ⟨⟨some 34,Op.lookup 56 (Operand.tmp 31) (Operand.tmp 33) true,none⟩,[⟨some 9,Op.alloc 3,none⟩]⟩,
  ⟨⟨some 30,Op.move (Operand.tmp 34),none⟩,[]⟩,
  ⟨⟨some 35,Op.extract (Operand.tmp 30) 0,none⟩,[]⟩,
  ⟨⟨some 36,Op.extract (Operand.tmp 30) 1,none⟩,[]⟩,
  ⟨⟨none,Op.store 3 (Operand.tmp 9) (Operand.tmp 35),none⟩,[]⟩,
  ⟨⟨some 10,Op.assign (Operand.tmp 36),none⟩,[]⟩]) (.seq (.seq (.reg [⟨⟨some 37,Op.move (Operand.tmp 10),none⟩,[]⟩,
  ⟨⟨some 38,Op.unOp UnOp.not 4 (Operand.tmp 37),none⟩,[]⟩]) (.cond (Operand.tmp 38) (.seq (.reg [⟨⟨some 6,Op.assign (Operand.const (Value.slice none 0 0)),none⟩,[]⟩,
  ⟨⟨some 7,Op.assign (Operand.const (Value.bool false)),none⟩,[]⟩]) .ret) .skip)) (.seq (.reg [⟨⟨some 39,Op.buildSlice 27 0 #[],none⟩,[]⟩,
  ⟨⟨some 11,Op.assign (Operand.tmp 39),none⟩,[]⟩]) (.seq (.seq (.reg [⟨⟨some 40,Op.move (Operand.tmp 1),none⟩,[]⟩,
  ⟨⟨some 12,Op.assign (Operand.tmp 40),none⟩,[]⟩]) (.block 0 (.loop (.seq (.seq (.reg [⟨⟨some 41,Op.load 3 (Operand.tmp 9),none⟩,[]⟩,
  ⟨⟨some 42,Op.binOp BinOp.gtr 3 (Operand.tmp 41) (Operand.const (Value.int IntKind.i64 0)) 3,none⟩,[]⟩]) (.cond (Operand.tmp 42) .skip (.exit 0))) (.seq (.block 1 (.seq (.reg [⟨⟨some 46,Op.load 26 (Operand.tmp 3),none⟩,[]⟩,
  ⟨⟨some 47,Op.move (Operand.tmp 12),none⟩,[]⟩,
  ⟨⟨some 48,Op.call { callee := (Callee.value (Operand.func 39)),args := #[(Operand.tmp 46),(Operand.tmp 47)],argTypes := #[26,27] },none⟩,[]⟩,
  ⟨⟨some 45,Op.move (Operand.tmp 48),none⟩,[]⟩,
  ⟨⟨some 49,Op.extract (Operand.tmp 45) 0,none⟩,[]⟩,
  ⟨⟨some 50,Op.extract (Operand.tmp 45) 1,none⟩,[]⟩,
  ⟨⟨some 13,Op.assign (Operand.tmp 49),none⟩,[]⟩,
  ⟨⟨some 14,Op.assign (Operand.tmp 50),none⟩,[]⟩]) (.seq (.reg [⟨⟨some 51,Op.move (Operand.tmp 13),none⟩,[]⟩,
  ⟨⟨some 52,Op.makeFunc (Fn.func 41) #[] #[(Operand.tmp 8),(Operand.tmp 9)],none⟩,[]⟩,
  ⟨⟨some 53,Op.call { callee := (Callee.value (Operand.func 40)),args := #[(Operand.tmp 51),(Operand.tmp 52)],argTypes := #[43,63] },none⟩,[]⟩,
  ⟨⟨some 15,Op.assign (Operand.tmp 53),none⟩,[]⟩]) (.reg [⟨⟨some 54,Op.move (Operand.tmp 11),none⟩,[]⟩,
  ⟨⟨some 55,Op.move (Operand.tmp 14),none⟩,[]⟩,
  ⟨⟨some 56,Op.move (Operand.tmp 15),none⟩,[]⟩,
  ⟨⟨some 57,Op.indexAddr 27 (Operand.tmp 55) (Operand.tmp 56),none⟩,[]⟩,
  ⟨⟨some 58,Op.load 3 (Operand.tmp 57),none⟩,[]⟩,
  ⟨⟨some 59,Op.buildSlice 27 1 #[(0,(Operand.tmp 58))],none⟩,[]⟩,
  ⟨⟨some 61,Op.move (Operand.tmp 13),none⟩,[]⟩,
  ⟨⟨some 62,Op.move (Operand.tmp 15),none⟩,[]⟩,
  ⟨⟨some 63,Op.indexAddr 43 (Operand.tmp 61) (Operand.tmp 62),none⟩,[]⟩,
  ⟨⟨some 64,Op.load 27 (Operand.tmp 63),none⟩,[]⟩,
  ⟨⟨some 60,Op.call { callee := (Callee.builtin Builtin.append),args := #[(Operand.tmp 54),(Operand.tmp 59)],argTypes := #[27,27] },none⟩,[⟨some 64,Op.load 27 (Operand.tmp 63),none⟩]⟩,
  ⟨⟨some 11,Op.assign (Operand.tmp 60),none⟩,[⟨some 64,Op.load 27 (Operand.tmp 63),none⟩]⟩,
  ⟨⟨some 12,Op.assign (Operand.tmp 64),none⟩,[]⟩])))) (.reg [⟨⟨some 43,Op.load 3 (Operand.tmp 9),none⟩,[]⟩,
  ⟨⟨some 44,Op.binOp BinOp.sub 3 (Operand.tmp 43) (Operand.const (Value.int IntKind.i64 1)) 3,none⟩,[]⟩,
  ⟨⟨none,Op.store 3 (Operand.tmp 9) (Operand.tmp 44),none⟩,[]⟩])))))) (.seq (.reg [⟨⟨some 65,Op.move (Operand.tmp 11),none⟩,[]⟩,
  ⟨⟨some 6,Op.assign (Operand.tmp 65),none⟩,[]⟩,
  ⟨⟨some 7,Op.assign (Operand.const (Value.bool true)),none⟩,[]⟩]) .ret))))))))
theorem sl7 : slim Tryz.f7.ntmps ords7 (Tryz.f7.body.getD .skip) = some cd7 := by kernel_rfl
theorem in7 {args : List Value} {H : AH} {R : Value → AH → Prop} (hl : args.length = 3) (h : ∀ (Q : Exit → Sl → AH → Prop),(∀ e s H,endA Tryz.prog [ResultVar.tmp 6,ResultVar.tmp 7] R e s H → Q e s H) → wpC Tryz.prog cd7 Q (enterA args) H) : ACalls Tryz.prog 7 args H R :=
  ACalls.intro (by kernel_rfl) Tryz.func7 rfl (by kernel_rfl) sl7 hl (of_decide_eq_true (by kernel_rfl)) (by kernel_rfl) h
def ords9 : List (Nat × List (Nat × Bool)) := []
def cd9 : Cd := (.seq (.reg [⟨⟨some 3,Op.box 26 (Operand.tmp 0),none⟩,[]⟩,
  ⟨⟨some 6,Op.assign (Operand.const (Value.int IntKind.i64 0)),none⟩,[]⟩,
  ⟨⟨some 7,Op.assign (Operand.const (Value.bool false)),none⟩,[]⟩]) (.seq (.reg [⟨⟨some 11,Op.load 26 (Operand.tmp 3),none⟩,[]⟩,
  ⟨⟨some 12,Op.move (Operand.tmp 1),none⟩,[]⟩,
  ⟨⟨some 13,Op.move (Operand.tmp 2),none⟩,[]⟩,
  ⟨⟨some 14,Op.call { callee := (Callee.value (Operand.func 7)),args := #[(Operand.tmp 11),(Operand.tmp 12),(Operand.tmp 13)],argTypes := #[26,27,27] },none⟩,[]⟩,
  ⟨⟨some 10,Op.move (Operand.tmp 14),none⟩,[]⟩,
  ⟨⟨some 15,Op.extract (Operand.tmp 10) 0,none⟩,[]⟩,
  ⟨⟨some 16,Op.extract (Operand.tmp 10) 1,none⟩,[]⟩,
  ⟨⟨some 8,Op.assign (Operand.tmp 15),none⟩,[]⟩,
  ⟨⟨some 9,Op.assign (Operand.tmp 16),none⟩,[]⟩]) (.seq (.reg [⟨⟨some 17,Op.move (Operand.tmp 8),none⟩,[]⟩,
  ⟨⟨some 18,Op.call { callee := (Callee.builtin Builtin.len),args := #[(Operand.tmp 17)],argTypes := #[27] },none⟩,[]⟩,
  ⟨⟨some 19,Op.move (Operand.tmp 9),none⟩,[]⟩,
  ⟨⟨some 6,Op.assign (Operand.tmp 18),none⟩,[]⟩,
  ⟨⟨some 7,Op.assign (Operand.tmp 19),none⟩,[]⟩]) .ret)))
theorem sl9 : slim Tryz.f9.ntmps ords9 (Tryz.f9.body.getD .skip) = some cd9 := by kernel_rfl
theorem in9 {args : List Value} {H : AH} {R : Value → AH → Prop} (hl : args.length = 3) (h : ∀ (Q : Exit → Sl → AH → Prop),(∀ e s H,endA Tryz.prog [ResultVar.tmp 6,ResultVar.tmp 7] R e s H → Q e s H) → wpC Tryz.prog cd9 Q (enterA args) H) : ACalls Tryz.prog 9 args H R :=
  ACalls.intro (by kernel_rfl) Tryz.func9 rfl (by kernel_rfl) sl9 hl (of_decide_eq_true (by kernel_rfl)) (by kernel_rfl) h
end Go.Proofs.YtelafbennmclfaaGreat.Ai
namespace Go.Proofs.YtelafbennmclfaaGreat.Ai
open Go Go.RowKit
theorem brd_bdS {n : Int} {es : List (Int × Int)} {p : List Int} (h : Brd n es p) : ∃ k : Nat,n = k ∧ Grd (k : Int) es ∧ Bd k p ∧ 1 ≤ k ∧ k ≤ 6 := by
  obtain ⟨⟨⟨h1,h2⟩,h3⟩,h4,h5⟩ := h
  exact ⟨p.length,h3.symm,by rw [h3]; exact h1,⟨h2,rfl⟩,by omega,by omega⟩
def slD (n : Int) (es : List (Int × Int)) (a b : List Int) : Option Int := if Brd n es a ∧ Brd n es b then bdD (bdR es true b) a else none
def slP (n : Int) (es : List (Int × Int)) (a b : List Int) : List Int := match slD n es a b with | some d => (pthL (bdR es true b) es true d.toNat a).map (fun t => othB t.2 t.1) | none => []
theorem slD_rng {n : Int} {es : List (Int × Int)} {a b : List Int} {d : Int} (h : slD n es a b = some d) : 0 ≤ d ∧ d < 720 := by
  unfold slD at h
  split at h
  · rename_i e
    obtain ⟨k,rfl,hg,hb,h1,h6⟩ := brd_bdS e.2
    have hI := bdR_I h6 hg true hb
    have hm := bdD_mem h
    have := hI.rng _ hm
    have := hI.len_le h6
    have := mny_le h6
    simp only at *
    omega
  · cases h
theorem slP_len (n : Int) (es : List (Int × Int)) (a b : List Int) : (slP n es a b).length = (match slD n es a b with | some d => d.toNat | none => 0) := by
  unfold slP
  cases h : slD n es a b with
  | none => rfl
  | some d =>
    have hr := slD_rng h
    unfold slD at h
    split at h
    · rename_i e
      obtain ⟨k,rfl,hg,hb,h1,h6⟩ := brd_bdS e.2
      simp only
      rw [List.length_map]
      exact pthL_len h6 hg true hb d.toNat a (by rw [Int.toNat_of_nonneg hr.1]; exact h)
    · cases h
theorem alloc_mp (H : AH) : allocA Tryz.prog 56 H = some (.pointer (some ⟨H.length,0,none⟩),H ++ [.cells [.map none] 56 false]) := by kernel_rfl
theorem alloc_iS (H : AH) : allocA Tryz.prog 3 H = some (.pointer (some ⟨H.length,0,none⟩),H ++ [.cells [.int .i64 0] 3 false]) := by kernel_rfl
theorem mkf_2S (f : Fn) (p q : Option Addr) : makeFuncA f [] [.pointer p,.pointer q] = some (.func f #[] (List.toArray [.pointer p,.pointer q])) := rfl
set_option maxRecDepth 20000 in
set_option maxHeartbeats 1000000 in
theorem slClos_c {n : Nat} (x : Value) (c : List Int) (pm pd o : Nat) (m : Int) (S0 : List (List Int × Int)) (H : AH) (hok : ∀ e ∈ S0,Bd n e.1) (hx : Row 3 H x c) (hc : Bd n c) (h1 : H[pm]? = some (.cells [.map (some o)] 56 false)) (h2 : H[pd]? = some (.cells [.int .i64 m] 3 false)) (h3 : H[o]? = some (.mp (mpI (mpB S0)))) (hm : 0 ≤ m ∧ m ≤ 1000) {dx : Int} (hdx : bdD S0 c = some dx) :
    ACalls Tryz.prog 41 [x,.pointer (some ⟨pm,0,none⟩),.pointer (some ⟨pd,0,none⟩)] H fun r H' => r = .bool (decide (dx = m - 1)) ∧ H <+: H' := by
  refine in41 rfl ?_
  intro Q hQ
  have hlk := lookI1 h3 (keyL c)
  rw [getI_bd hc _ hok,hdx] at hlk
  have hlk' : lookupA Tryz.prog 56 (.map (some o)) (.int .i64 (keyL c)) false H = some (.int .i64 dx) := hlk
  simp (maxSteps := 1000000) (disch := omega) only [cd41,cell_of h1,cell_of h2,wrap64,SS,eq_self,reduceIte,reduceCtorEq,Nat.reduceEqDiff,Nat.reduceAdd]
  refine CallH.by (key_c x c H hx hc.1) ?_
  rintro _ _ ⟨rfl,rfl⟩
  simp (maxSteps := 1000000) (disch := omega) only [cell_of h1,cell_of h2,hlk',SS,eq_self,reduceIte,reduceCtorEq,Nat.reduceEqDiff,Nat.reduceAdd]
  refine hQ _ _ _ ?_
  simp (maxSteps := 1000000) (disch := omega) only [SS,eq_self,reduceIte,reduceCtorEq,Nat.reduceEqDiff,Nat.reduceAdd]
  exact List.prefix_refl _
set_option maxRecDepth 20000 in
set_option maxHeartbeats 8000000 in
theorem SlI_c (n : Int) (v w u : Value) (es : List (Int × Int)) (a b : List Int) (H : AH) (hr : RowP 53 H v es) (hlen : es.length ≤ 1099511627776) (hes : ∀ y ∈ es,I64 y.1 ∧ I64 y.2) (ha : Row 3 H w a) (hla : a.length ≤ 1099511627776) (hxa : ∀ y ∈ a,I64 y) (hb : Row 3 H u b) (hlb : b.length ≤ 1099511627776) (hxb : ∀ y ∈ b,I64 y) (hn : I64 n) :
    ACalls Tryz.prog 7 [.agg (List.toArray [.int .i64 n,v]),w,u] H fun r H' => ∃ g,r = .tuple (List.toArray [g,.bool (slD n es a b).isSome]) ∧ Mine 3 H H' g (slP n es a b) ∧ H <+: H' := by
  refine in7 rfl ?_
  intro Q hQ
  simp (maxSteps := 1000000) (disch := omega) only [cd7,hr.boxG,SS,eq_self,reduceIte,reduceCtorEq,Nat.reduceEqDiff,Nat.reduceAdd]
  generalize hA : H ++ [AObj.cells [.int .i64 n,v] 26 false] = A
  have pA : H <+: A := by rw [← hA]; exact List.prefix_append _ _
  have cA : A[H.length]? = some (.cells [.int .i64 n,v] 26 false) := by rw [← hA]; exact at_new ..
  have rA := hr.pre pA
  simp (maxSteps := 1000000) (disch := omega) only [ld_agg ag26 cs26 cA,SS,eq_self,reduceIte,reduceCtorEq,Nat.reduceEqDiff,Nat.reduceAdd]
  refine CallH.by (isBoard_c n v w es a A rA hlen (ha.pre pA) hla hxa) ?_
  rintro _ B ⟨rfl,pB⟩
  have cB := pre_at pB cA
  have pHB := pA.trans pB
  have rB := rA.pre pB
  have no : slD n es a b = none → ∀ K : AH,∃ g,(Value.tuple (List.toArray [.slice none 0 0,.bool false])) = .tuple (List.toArray [g,.bool (slD n es a b).isSome]) ∧ Mine 3 H K g (slP n es a b) := fun h K => ⟨.slice none 0 0,by rw [h]; rfl,.inl ⟨rfl,by unfold slP; rw [h]⟩⟩
  simp (maxSteps := 1000000) (disch := omega) only [SS,eq_self,reduceIte,reduceCtorEq,Nat.reduceEqDiff,Nat.reduceAdd]
  refine brD.intro (fun e => ?_) (fun e => ?_) <;> simp (maxSteps := 1000000) (disch := omega) only [e,SS,eq_self,reduceIte,reduceCtorEq,Nat.reduceEqDiff,Nat.reduceAdd]
  rotate_left
  · refine hQ _ _ _ ?_
    simp (maxSteps := 1000000) (disch := omega) only [SS,eq_self,reduceIte,reduceCtorEq,Nat.reduceEqDiff,Nat.reduceAdd]
    obtain ⟨g,h1,h2⟩ := no (by unfold slD; rw [if_neg (fun h => e h.1)]) B
    exact ⟨g,h1,h2,pHB⟩
  simp (maxSteps := 1000000) (disch := omega) only [e,ld_agg ag26 cs26 cB,SS,eq_self,reduceIte,reduceCtorEq,Nat.reduceEqDiff,Nat.reduceAdd]
  refine CallH.by (isBoard_c n v u es b B rB hlen (hb.pre pHB) hlb hxb) ?_
  rintro _ C ⟨rfl,pC⟩
  have cC := pre_at pC cB
  have pHC := pHB.trans pC
  have rC := rB.pre pC
  simp (maxSteps := 1000000) (disch := omega) only [e,SS,eq_self,reduceIte,reduceCtorEq,Nat.reduceEqDiff,Nat.reduceAdd]
  refine brD.intro (fun e2 => ?_) (fun e2 => ?_) <;> simp (maxSteps := 1000000) (disch := omega) only [e,e2,SS,eq_self,reduceIte,reduceCtorEq,Nat.reduceEqDiff,Nat.reduceAdd]
  rotate_left
  · refine hQ _ _ _ ?_
    simp (maxSteps := 1000000) (disch := omega) only [SS,eq_self,reduceIte,reduceCtorEq,Nat.reduceEqDiff,Nat.reduceAdd]
    obtain ⟨g,h1,h2⟩ := no (by unfold slD; rw [if_neg (fun h => e2 h.2)]) C
    exact ⟨g,h1,h2,pHC⟩
  have hD0 : slD n es a b = bdD (bdR es true b) a := by unfold slD; rw [if_pos ⟨e,e2⟩]
  obtain ⟨k,hk,hg,hbb,h1,h6⟩ := brd_bdS e2
  subst hk
  have hba : Bd k a := by
    obtain ⟨k',hk',_,hb',_,_⟩ := brd_bdS e
    have : k = k' := by omega
    rw [this]; exact hb'
  have hl := grd_few hg
  simp (maxSteps := 1000000) (disch := omega) only [ld_agg ag26 cs26 cC,mkf_G hr,SS,eq_self,reduceIte,reduceCtorEq,Nat.reduceEqDiff,Nat.reduceAdd]
  refine CallH.by (reached_c (HB := C) h6 (hb.pre pHC) hbb 37 [.agg (List.toArray [.int .i64 (k : Int),v])] [] (nxt es true) (boards_mv rC hlen hg h1) (fun b hb => nxt_bd hg true hb) (nxt_le hg (by omega) true) (List.prefix_refl _)) ?_
  rintro _ D ⟨⟨o,rfl,ho,hol⟩,pD⟩
  have pHD := pHC.trans pD
  have cD := pre_at pD cC
  have hI := bdR_I h6 hg true hbb
  have hS : bdA (nxt es true) b = bdR es true b := rfl
  rw [hS] at ho
  have st1 := st_at (P := Tryz.prog) (t := 56) (i := 0) (y := .map (some o)) cs56 (at_new D (.cells [.map none] 56 false)) (by show 0 < 1; decide) rfl rfl
  rw [set_new,List.set_cons_zero] at st1
  simp (maxSteps := 1000000) (disch := omega) only [alloc_mp,st1,SS,eq_self,reduceIte,reduceCtorEq,Nat.reduceEqDiff,Nat.reduceAdd]
  generalize hE : D ++ [AObj.cells [.map (some o)] 56 false] = E
  have pE : D <+: E := by rw [← hE]; exact List.prefix_append _ _
  have cE : E[D.length]? = some (.cells [.map (some o)] 56 false) := by rw [← hE]; exact at_new ..
  have lE : E.length = D.length + 1 := by rw [← hE]; simp
  have pHE := pHD.trans pE
  have hoE := pre_at pE ho
  simp (maxSteps := 1000000) (disch := omega) only [cell_of cE,alloc_iS,SS,eq_self,reduceIte,reduceCtorEq,Nat.reduceEqDiff,Nat.reduceAdd]
  generalize hF0 : E ++ [AObj.cells [.int .i64 0] 3 false] = F0
  have pF0 : E <+: F0 := by rw [← hF0]; exact List.prefix_append _ _
  have cF0 : F0[E.length]? = some (.cells [.int .i64 0] 3 false) := by rw [← hF0]; exact at_new ..
  have aF0 := ha.pre (pHE.trans pF0)
  refine CallH.by (key_c w a F0 aF0 hba.1) ?_
  rintro _ _ ⟨rfl,rfl⟩
  have hlk := lookI (pre_at pF0 hoE) (keyL a)
  rw [getI_bd hba _ hI.ok,← hD0] at hlk
  have hdi : ∃ x,(slD (k : Int) es a b).getD 0 = x ∧ (0 ≤ x ∧ x < 720) := by
    cases h : slD (k : Int) es a b with
    | none => exact ⟨0,rfl,by decide⟩
    | some d => exact ⟨d,rfl,slD_rng h⟩
  obtain ⟨x0,hx0,hx7⟩ := hdi
  rw [hx0] at hlk
  have st2 := st_at (P := Tryz.prog) (t := 3) (i := 0) (y := .int .i64 x0) cs3 cF0 (by show 0 < 1; decide) rfl rfl
  rw [List.set_cons_zero] at st2
  simp (maxSteps := 1000000) (disch := omega) only [cell_of cE,cell_of (pre_at pF0 cE),cF0,hlk,st2,SS,eq_self,reduceIte,reduceCtorEq,Nat.reduceEqDiff,Nat.reduceAdd]
  have hF1 : F0.set E.length (.cells [.int .i64 x0] 3 false) = E ++ [AObj.cells [.int .i64 x0] 3 false] := by rw [← hF0,set_new]
  rw [hF1]
  generalize hF : E ++ [AObj.cells [.int .i64 x0] 3 false] = F
  have pF : E <+: F := by rw [← hF]; exact List.prefix_append _ _
  have cF : F[E.length]? = some (.cells [.int .i64 x0] 3 false) := by rw [← hF]; exact at_new ..
  have lF : F.length = E.length + 1 := by rw [← hF]; simp
  clear hF0 pF0 cF0 aF0 st2 hF1 hlk
  cases hd : slD (k : Int) es a b with
  | none =>
    rw [hd] at no
    simp (maxSteps := 1000000) (disch := omega) only [Option.isSome_none,SS,eq_self,reduceIte,reduceCtorEq,Nat.reduceEqDiff,Nat.reduceAdd]
    refine hQ _ _ _ ?_
    simp (maxSteps := 1000000) (disch := omega) only [SS,eq_self,reduceIte,reduceCtorEq,Nat.reduceEqDiff,Nat.reduceAdd]
    obtain ⟨g,h1,h2⟩ := no rfl F
    rw [hd]
    exact ⟨g,h1,h2,pHE.trans pF⟩
  | some d =>
  obtain ⟨hd0,hd7⟩ := slD_rng hd
  have hxd : x0 = d := by rw [← hx0,hd]; rfl
  subst hxd
  have hK : slP (k : Int) es a b = (pthL (bdR es true b) es true x0.toNat a).map (fun t => othB t.2 t.1) := by unfold slP; rw [hd]
  rw [hd,hK] at hQ
  rw [hd] at hD0
  simp (maxSteps := 1000000) (disch := omega) only [Option.isSome_some,SS,eq_self,reduceIte,reduceCtorEq,Nat.reduceEqDiff,Nat.reduceAdd]
  generalize hG : F ++ [AObj.cells [] 3 false] = G
  have pG : F <+: G := by rw [← hG]; exact List.prefix_append _ _
  have cG : G[F.length]? = some (.cells (ints []) 3 false) := by rw [← hG]; exact at_new ..
  have lG : G.length = F.length + 1 := by rw [← hG]; simp
  have hlow : ∀ {y : Value} {ys : List Int},Row 3 H y ys → (y = .slice none 0 0 ∨ rowO y ≠ E.length) := fun h => by
    rcases h.nil with q | q
    · exact .inl q.1
    · have := pHE.length_le; exact .inr (by omega)
  refine LoopH.by (fun m s H' => ∃ (q : List Int) (out : List Int),s 3 = .pointer (some ⟨H.length,0,none⟩) ∧ s 8 = .pointer (some ⟨D.length,0,none⟩) ∧ s 9 = .pointer (some ⟨E.length,0,none⟩) ∧ H'[E.length]? = some (.cells [.int .i64 ((m : Nat) : Int)] 3 false) ∧ Row 3 H' (s 12) q ∧ (s 12 = .slice none 0 0 ∨ rowO (s 12) ≠ E.length) ∧ Bd k q ∧ bdD (bdR es true b) q = some ((m : Nat) : Int) ∧ m ≤ 720 ∧ out.length + m = x0.toNat ∧
    out ++ (pthL (bdR es true b) es true m q).map (fun t => othB t.2 t.1) = (pthL (bdR es true b) es true x0.toNat a).map (fun t => othB t.2 t.1) ∧ Own 3 E H' (s 11) out ∧ E.length < rowO (s 11) ∧ E <+: H') x0.toNat ?_ ?_
  · refine ⟨a,[],?_⟩
    have f0 : ((x0.toNat : Nat) : Int) = x0 := by omega
    have f1 := ha.pre (pHE.trans (pF.trans pG))
    have f2 : bdD (bdR es true b) a = some x0 := hD0.symm
    have f3 := pre_at pG cF
    have f4 := hlow ha
    have f5 : Own 3 E G (.slice (some ⟨F.length,0,none⟩) 0 0) [] := .inr ⟨F.length,rfl,by omega,cG⟩
    have f6 : E.length < rowO (.slice (some ⟨F.length,0,none⟩) 0 0) := by show E.length < F.length; omega
    have f7 : E <+: G := pF.trans pG
    simp (maxSteps := 1000000) (disch := omega) only [SS,eq_self,reduceIte,reduceCtorEq,Nat.reduceEqDiff,Nat.reduceAdd]
    rw [f0]
    (repeat' first | exact f3 | exact f1 | exact f4 | exact hba | exact f2 | exact f5 | exact f6 | exact f7 | apply And.intro) <;> first | (simp only [Value.int.injEq,true_and]; omega) | omega | rfl | assumption | (simp; done) | (simp; omega)
  rintro m s H' ⟨q,out,h3,h8,h9,hpd,hrq,hWs,hbq,hdq,hm7,hol2,hout,hmo,hUo,hpE⟩
  generalize hU : s 11 = U at *
  generalize hW : s 12 = W at *
  simp (maxSteps := 1000000) (disch := omega) only [h3,h8,h9,hU,hW,cell_of hpd,SS,eq_self,reduceIte,reduceCtorEq,Nat.reduceEqDiff,Nat.reduceAdd]
  refine brD.intro (fun g => ?_) (fun g => ?_)
  rotate_left
  · have hm0 : m = 0 := by omega
    subst hm0
    simp (maxSteps := 1000000) (disch := omega) only [hU,SS,eq_self,reduceIte,reduceCtorEq,Nat.reduceEqDiff,Nat.reduceAdd]
    refine hQ _ _ _ ?_
    simp (maxSteps := 1000000) (disch := omega) only [hU,hmo.row.tup,SS,eq_self,reduceIte,reduceCtorEq,Nat.reduceEqDiff,Nat.reduceAdd]
    have hout' : out = (pthL (bdR es true b) es true x0.toNat a).map (fun t => othB t.2 t.1) := by rw [← hout]; simp [pthL]
    rw [← hout']
    exact ⟨U,rfl,(hmo.base pHE).mine,pHE.trans hpE⟩
  obtain ⟨m1,rfl⟩ : ∃ m1,m = m1 + 1 := ⟨m - 1,by omega⟩
  obtain ⟨e1,hf1,hf2,hf3⟩ := fst1_some h6 hg true hbb hdq
  have hpth : (pthL (bdR es true b) es true (m1 + 1) q).map (fun t => othB t.2 t.1) = othB q e1 :: (pthL (bdR es true b) es true m1 (swp q e1.1.toNat e1.2.toNat)).map (fun t => othB t.2 t.1) := by
    simp only [pthL,hf1,List.map_cons]
  rw [hpth] at hout
  obtain ⟨i1,hi1,he1,hbef⟩ : ∃ i1,i1 < (mvs es true q).length ∧ (mvs es true q).getD i1 (0,0) = e1 ∧ ∀ j,j < i1 → bdD (bdR es true b) (swp q ((mvs es true q).getD j (0,0)).1.toNat ((mvs es true q).getD j (0,0)).2.toNat) ≠ some (m1 : Int) := by
    have hf1' : (mvs es true q).find? (fun e => decide (bdD (bdR es true b) (swp q e.1.toNat e.2.toNat) = some (m1 : Int))) = some e1 := hf1
    rw [List.find?_eq_some_iff_getElem] at hf1'
    obtain ⟨_,i1,hi1,he1,hb1⟩ := hf1'
    refine ⟨i1,hi1,by simp [hi1,he1],fun j hj => ?_⟩
    have := hb1 j hj
    have hjl : j < (mvs es true q).length := by omega
    have eg : (mvs es true q).getD j (0,0) = (mvs es true q)[j] := by simp [hjl]
    rw [eg]
    simpa using this
  obtain ⟨h,hh1,hh2,hh3⟩ := hole_of hbq h1
  have rH := hr.pre (pHE.trans hpE)
  have cH := pre_at (pE.trans hpE) cD
  have cHm := pre_at hpE cE
  have hoH := pre_at hpE hoE
  simp (maxSteps := 1000000) (disch := omega) only [h3,h8,h9,hU,hW,ld_agg ag26 cs26 cH,SS,eq_self,reduceIte,reduceCtorEq,Nat.reduceEqDiff,Nat.reduceAdd]
  refine CallH.by (slides_c k v W es q H' rH hlen hrq hg (by rw [hbq.2]) h hh2 (by rw [hbq.2]; exact hh1)) ?_
  rintro _ K ⟨L,nd,rfl,hL,hnd,pK⟩
  rw [Int.toNat_natCast] at hL hnd
  have hbr : brds q (nbsU es (h : Int) k) h = nxt es true q := brds_nxt hg hbq hh1 hh3
  rw [hbr] at hL
  rw [← oth_nbs hg hbq hh1 hh3] at hnd
  have hnl := nxt_len es true q
  have hNat : ∀ i,i < (mvs es true q).length → (nxt es true q).getD i [] = swp q ((mvs es true q).getD i (0,0)).1.toNat ((mvs es true q).getD i (0,0)).2.toNat := by
    intro i hi
    unfold nxt
    rw [List.getD_eq_getElem?_getD,List.getElem?_map,List.getElem?_eq_getElem hi]
    simp [hi]
  have hknown : ∀ i,i < (mvs es true q).length → Bd k ((nxt es true q).getD i []) ∧ ∃ x,bdD (bdR es true b) ((nxt es true q).getD i []) = some x := by
    intro i hi
    have hm : (nxt es true q).getD i [] ∈ nxt es true q := by
      have : i < (nxt es true q).length := by omega
      simp [this]
    obtain ⟨x,hx,_⟩ := bdR_known h6 hg true hbb hdq hm
    exact ⟨nxt_bd hg true hbq _ hm,x,hx⟩
  obtain ⟨us,hus,hul,heach⟩ := hL.parts
  have cKm := pre_at pK cHm
  have hoK := pre_at pK hoH
  have hpdK := pre_at pK hpd
  have hm11 : ((m1 + 1 : Nat) : Int) - 1 = (m1 : Int) := by omega
  generalize hbs : (nxt es true q).map (fun c => decide (bdD (bdR es true b) c = some (m1 : Int))) = bs
  have hbsl : bs.length = us.length := by rw [← hbs]; simp [hul]
  have hbsat : ∀ i,i < us.length → bs.getD i false = decide (bdD (bdR es true b) ((nxt es true q).getD i []) = some (m1 : Int)) := by
    intro i hi
    have hi' : i < (nxt es true q).length := by omega
    rw [← hbs,List.getD_eq_getElem?_getD,List.getElem?_map,List.getElem?_eq_getElem hi']
    simp [hi']
  simp (maxSteps := 1000000) (disch := omega) only [h3,h8,h9,hU,hW,mkf_2S,SS,eq_self,reduceIte,reduceCtorEq,Nat.reduceEqDiff,Nat.reduceAdd]
  have hmle := mvs_len es true q
  refine CallH.by (IndexFuncL_c L us bs 41 [.pointer (some ⟨D.length,0,none⟩),.pointer (some ⟨E.length,0,none⟩)] K hus (by omega) hbsl (fun i hi H1 hp1 => by
    obtain ⟨hcb,x,hcx⟩ := hknown i (by omega)
    have := slClos_c (us.getD i undef) _ D.length E.length o ((m1 + 1 : Nat) : Int) (bdR es true b) H1 hI.ok ((heach i (by omega)).row.1.pre hp1) hcb (pre_at hp1 cKm) (pre_at hp1 hpdK) (pre_at hp1 hoK) (by omega) hcx
    rw [hbsat i hi,hcx]
    rw [hm11] at this
    refine this.mono fun r H' hr' => ⟨?_,hr'.2⟩
    rw [hr'.1]
    simp)) ?_
  rintro _ M ⟨rfl,pM⟩
  have hix : idxB bs 0 = (i1 : Int) := by
    have key : ∀ j,j ≤ i1 → idxB bs 0 = idxB (bs.drop j) j := by
      intro j
      induction j with
      | zero => intro _; rfl
      | succ j ih =>
        intro hj
        have hju : j < us.length := by omega
        rw [ih (by omega),idxB_step bs j (by omega),hbsat j hju,hNat j (by omega),if_neg (by simpa using hbef j (by omega))]
    have hiu : i1 < us.length := by omega
    rw [key i1 (Nat.le_refl _),idxB_step bs i1 (by omega),hbsat i1 hiu,hNat i1 hi1,he1,hf3,if_pos (by simp)]
  rw [hix]
  have hus2 := hus.pre pM
  have hnd2 := hnd.pre pM
  have hcell := hus2.cell (show i1 < us.length by omega)
  have hcn := hnd2.cell (show i1 < ((mvs es true q).map (othB q)).length by simpa using hi1)
  have hothi : ((mvs es true q).map (othB q)).getD i1 0 = othB q e1 := by
    rw [List.getD_eq_getElem?_getD,List.getElem?_map,List.getElem?_eq_getElem hi1]
    have : (mvs es true q)[i1] = e1 := by rw [← he1]; simp [hi1]
    rw [this]; rfl
  rw [hothi] at hcn
  have hml : ((mvs es true q).map (othB q)).length = (mvs es true q).length := by simp
  have hni := hNat i1 hi1
  rw [he1] at hni
  have hrow := (heach i1 (by omega))
  rw [hni] at hrow
  have hrowM := (hrow.row.1).pre pM
  have hcb0 := (hknown i1 hi1).1
  rw [hni] at hcb0
  have hmoM := hmo.pre (pK.trans pM)
  have hpEM := hpE.trans (pK.trans pM)
  obtain ⟨U',H4,j1,j2,j3,j4,j5,j6⟩ := own1_27 hmoM hpEM (by omega) (othB q e1)
  have lK := pK.length_le
  have lM := pM.length_le
  have lH' := hpE.length_le
  have hUlt : rowO U < H'.length := by
    rcases hmo with g5 | ⟨oo,g5,g6,g7⟩
    · rw [g5.1] at hUo
      have : rowO (Value.slice none 0 0) = 0 := rfl
      omega
    · rw [g5]; exact at_lt g7
  have keep4 : ∀ (j : Nat) (y : AObj),j ≠ rowO U → M[j]? = some y → H4[j]? = some y := fun j y hj hy => j4 j y (.inr hj) hy
  have hus4 : RowV 27 H4 L us := by
    rcases hL with g5 | ⟨oo,us',g5,g6,g7,g8,_⟩
    · have : (nxt es true q).length = 0 := by rw [g5.2]; rfl
      omega
    · refine hus2.mono fun y hy => keep4 _ _ ?_ hy
      rw [g5]
      show oo ≠ rowO U
      omega
  have hcell4 := hus4.cell (show i1 < us.length by omega)
  have hWs' : us.getD i1 undef = .slice none 0 0 ∨ H'.length ≤ rowO (us.getD i1 undef) := hrow.at_.imp id fun q => q.1
  have hrow4 : Row 3 H4 (us.getD i1 undef) (swp q e1.1.toNat e1.2.toNat) := by
    rcases hWs' with g5 | g5
    · exact .inl ⟨g5,hrowM.nilv g5⟩
    · exact hrowM.mono fun y hy => keep4 _ _ (by omega) hy
  have hpd4 : H4[E.length]? = some (.cells [.int .i64 ((m1 + 1 : Nat) : Int)] 3 false) := keep4 _ _ (by omega) (pre_at pM hpdK)
  have hElt := at_lt hpd
  have st3 := st_at (P := Tryz.prog) (t := 3) (i := 0) (y := .int .i64 (m1 : Int)) cs3 hpd4 (by show 0 < 1; decide) rfl rfl
  rw [List.set_cons_zero] at st3
  have hcellM := (hus2.pre (List.prefix_append M [AObj.cells [.int .i64 (othB q e1)] 3 false])).cell (show i1 < us.length by omega)
  simp (maxSteps := 1000000) (disch := omega) only [h3,h8,h9,hU,hW,hnd2.ix Tryz.underlying27 cs3,hcn,Int.toNat_natCast,hus2.ix Tryz.underlying43 cs27,hcell,hcellM,j1,hcell4,cell_of hpd4,hm11,wrap64,st3,SS,eq_self,reduceIte,reduceCtorEq,Nat.reduceEqDiff,Nat.reduceAdd]
  have f1 : (H4.set E.length (.cells [.int .i64 (m1 : Int)] 3 false))[E.length]? = some (.cells [.int .i64 (m1 : Int)] 3 false) := at_set hpd4
  have keep5 : ∀ (j : Nat) (y : AObj),j ≠ E.length → H4[j]? = some y → (H4.set E.length (.cells [.int .i64 (m1 : Int)] 3 false))[j]? = some y := fun j y hj hy => by
    rw [List.getElem?_set_ne (fun e => hj e.symm)]; exact hy
  have f2 : Row 3 (H4.set E.length (.cells [.int .i64 (m1 : Int)] 3 false)) (us.getD i1 undef) (swp q e1.1.toNat e1.2.toNat) := by
    rcases hWs' with g5 | g5
    · exact .inl ⟨g5,hrow4.nilv g5⟩
    · exact hrow4.mono fun y hy => keep5 _ _ (by omega) hy
  have f3 : us.getD i1 undef = .slice none 0 0 ∨ rowO (us.getD i1 undef) ≠ E.length := hWs'.imp id fun q => by omega
  have f4 : out ++ [othB q e1] ++ (pthL (bdR es true b) es true m1 (swp q e1.1.toNat e1.2.toNat)).map (fun t => othB t.2 t.1) = (pthL (bdR es true b) es true x0.toNat a).map (fun t => othB t.2 t.1) := by
    rw [← hout,List.append_assoc]; rfl
  have f5 : (out ++ [othB q e1]).length + m1 = x0.toNat := by rw [List.length_append]; simp; omega
  have f6 : Own 3 E (H4.set E.length (.cells [.int .i64 (m1 : Int)] 3 false)) U' (out ++ [othB q e1]) := j2.keep fun y hy => keep5 _ _ (by omega) hy
  have f7 : E.length < rowO U' := by omega
  have f8 : E <+: H4.set E.length (.cells [.int .i64 (m1 : Int)] 3 false) := pre_set j3 (Nat.le_refl _) _
  refine ⟨m1,by omega,swp q e1.1.toNat e1.2.toNat,out ++ [othB q e1],?_⟩
  (repeat' first | exact f1 | exact f2 | exact f3 | exact hcb0 | exact hf3 | exact f5 | exact f4 | exact f6 | exact f7 | exact f8 | apply And.intro) <;> first | (simp only [Value.int.injEq,true_and]; omega) | omega | rfl | assumption | (simp; done) | (simp; omega)
theorem SlDI_c (n : Int) (v w u : Value) (es : List (Int × Int)) (a b : List Int) (H : AH) (hr : RowP 53 H v es) (hlen : es.length ≤ 1099511627776) (hes : ∀ y ∈ es,I64 y.1 ∧ I64 y.2) (ha : Row 3 H w a) (hla : a.length ≤ 1099511627776) (hxa : ∀ y ∈ a,I64 y) (hb : Row 3 H u b) (hlb : b.length ≤ 1099511627776) (hxb : ∀ y ∈ b,I64 y) (hn : I64 n) :
    ACalls Tryz.prog 9 [.agg (List.toArray [.int .i64 n,v]),w,u] H fun r H' => r = .tuple (List.toArray [.int .i64 ((slD n es a b).getD 0),.bool (slD n es a b).isSome]) ∧ H <+: H' := by
  refine in9 rfl ?_
  intro Q hQ
  simp (maxSteps := 1000000) (disch := omega) only [cd9,hr.boxG,SS,eq_self,reduceIte,reduceCtorEq,Nat.reduceEqDiff,Nat.reduceAdd]
  generalize hA : H ++ [AObj.cells [.int .i64 n,v] 26 false] = A
  have pA : H <+: A := by rw [← hA]; exact List.prefix_append _ _
  have cA : A[H.length]? = some (.cells [.int .i64 n,v] 26 false) := by rw [← hA]; exact at_new ..
  have rA := hr.pre pA
  simp (maxSteps := 1000000) (disch := omega) only [ld_agg ag26 cs26 cA,SS,eq_self,reduceIte,reduceCtorEq,Nat.reduceEqDiff,Nat.reduceAdd]
  refine CallH.by (SlI_c n v w u es a b A rA hlen hes (ha.pre pA) hla hxa (hb.pre pA) hlb hxb hn) ?_
  rintro _ B ⟨g,rfl,hg,pB⟩
  simp (maxSteps := 1000000) (disch := omega) only [hg.row.len Tryz.underlying27,SS,eq_self,reduceIte,reduceCtorEq,Nat.reduceEqDiff,Nat.reduceAdd]
  refine hQ _ _ _ ?_
  simp (maxSteps := 1000000) (disch := omega) only [SS,eq_self,reduceIte,reduceCtorEq,Nat.reduceEqDiff,Nat.reduceAdd]
  refine ⟨?_,pA.trans pB⟩
  have hl := slP_len n es a b
  cases hd : slD n es a b with
  | none => rw [hd] at hl; rw [hl]; rfl
  | some d =>
    rw [hd] at hl
    have := slD_rng hd
    have e : ((slP n es a b).length : Int) = d := by rw [hl]; simp only; omega
    rw [e]; rfl
end Go.Proofs.YtelafbennmclfaaGreat.Ai
