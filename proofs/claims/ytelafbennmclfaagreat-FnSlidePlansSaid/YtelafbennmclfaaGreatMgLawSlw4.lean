/- Texts of this claim, joined: Drh, Bits, PmE, BrdP, Pair, Near, MvP, MapK, Key, Rep, AppL, Rch, Index, Seq, Coll, Perm. -/
import Derived.Test.YtelafbennmclfaaGreatProg
import Derived.KernelRfl
import Derived.RangeFuncBox
import Derived.RangeFuncLeaves
import Derived.Shelf.Abstract
import Derived.WalkKit
import Derived.OwnWalkIn
import Derived.TacticsInMore
import Derived.LoopNIn
import Derived.LoopIn
import Derived.Maps.AppendAt
import Derived.Test.YtelafbennmclfaaGreatMgLawSlw3
set_option linter.unusedVariables false
set_option linter.unusedSimpArgs false
namespace Go.Proofs.YtelafbennmclfaaGreat.Ai
open Go
def ords123 : List (Nat × List (Nat × Bool)) := [(15,[(0,false),(1,false),(2,false),(3,false),(5,false),(4,true),(6,false),(7,true),(8,false),(9,true)]),(20,[(0,false),(1,false),(2,false),(4,false),(3,true),(5,true),(6,false),(7,false),(8,false),(9,true),(10,false),(11,true)]),(23,[(0,false),(1,false),(2,false),(3,false),(4,false),(5,false),(6,false),(7,false),(8,true),(9,false),(10,false),(11,false),(12,true),(13,false),(14,true)])]
def cd123 : Cd := (.seq (.reg [⟨⟨some 4,Op.alloc 26,none⟩,[]⟩]) (.seq (.reg [⟨⟨some 11,Op.move (Operand.tmp 0),none⟩,[]⟩,
  ⟨⟨some 12,Op.buildSlice 27 7 #[(0,(Operand.const (Value.int IntKind.i64 4))),(1,(Operand.const (Value.int IntKind.i64 5))),(2,(Operand.const (Value.int IntKind.i64 3))),(3,(Operand.const (Value.int IntKind.i64 6))),(4,(Operand.const (Value.int IntKind.i64 2))),(5,(Operand.const (Value.int IntKind.i64 1))),(6,(Operand.const (Value.int IntKind.i64 0)))],none⟩,[]⟩,
  ⟨⟨some 13,Op.call { callee := (Callee.value (Operand.func 96)),args := #[(Operand.tmp 11),(Operand.tmp 12)],argTypes := #[68,27] },none⟩,[]⟩,
  ⟨⟨some 5,Op.assign (Operand.tmp 13),none⟩,[]⟩]) (.seq (.seq (.reg [⟨⟨some 14,Op.move (Operand.tmp 1),none⟩,[]⟩,
  ⟨⟨some 15,Op.binOp BinOp.gtr 3 (Operand.tmp 14) (Operand.const (Value.int IntKind.i64 6)) 3,none⟩,[]⟩,
  ⟨⟨some 16,Op.move (Operand.tmp 15),none⟩,[]⟩,
  ⟨⟨some 17,Op.move (Operand.tmp 0),some (16,true)⟩,[]⟩,
  ⟨⟨some 18,Op.call { callee := (Callee.value (Operand.func 53)),args := #[(Operand.tmp 17),(Operand.const (Value.int IntKind.i64 4))],argTypes := #[68,3] },some (16,true)⟩,[]⟩,
  ⟨⟨some 19,Op.pick (Operand.tmp 16) (Operand.tmp 18) (Operand.const (Value.bool false)),none⟩,[]⟩]) (.cond (Operand.tmp 19) (.reg [⟨⟨some 20,Op.move (Operand.tmp 0),none⟩,[]⟩,
  ⟨⟨some 21,Op.call { callee := (Callee.value (Operand.func 51)),args := #[(Operand.tmp 20),(Operand.const (Value.int IntKind.i64 2))],argTypes := #[68,3] },none⟩,[]⟩,
  ⟨⟨some 22,Op.binOp BinOp.add 3 (Operand.const (Value.int IntKind.i64 7)) (Operand.tmp 21) 3,none⟩,[]⟩,
  ⟨⟨some 5,Op.assign (Operand.tmp 22),none⟩,[]⟩]) .skip)) (.seq (.reg [⟨⟨some 23,Op.move (Operand.tmp 5),none⟩,[]⟩,
  ⟨⟨some 24,Op.move (Operand.tmp 1),none⟩,[]⟩,
  ⟨⟨some 25,Op.call { callee := (Callee.value (Operand.func 50)),args := #[(Operand.tmp 23),(Operand.tmp 24)],argTypes := #[3,3] },none⟩,[]⟩,
  ⟨⟨some 5,Op.assign (Operand.tmp 25),none⟩,[]⟩]) (.seq (.reg [⟨⟨some 26,Op.move (Operand.tmp 5),none⟩,[]⟩,
  ⟨⟨some 27,Op.buildSlice 24 0 #[],none⟩,[]⟩,
  ⟨⟨some 28,Op.build 26 #[(0,(Operand.tmp 26)),(1,(Operand.tmp 27))],none⟩,[]⟩,
  ⟨⟨some 29,Op.move (Operand.tmp 0),none⟩,[]⟩,
  ⟨⟨some 30,Op.buildSlice 27 4 #[(0,(Operand.const (Value.int IntKind.i64 1))),(1,(Operand.const (Value.int IntKind.i64 3))),(2,(Operand.const (Value.int IntKind.i64 4))),(3,(Operand.const (Value.int IntKind.i64 6)))],none⟩,[]⟩,
  ⟨⟨some 31,Op.call { callee := (Callee.value (Operand.func 96)),args := #[(Operand.tmp 29),(Operand.tmp 30)],argTypes := #[68,27] },none⟩,[]⟩,
  ⟨⟨some 32,Op.move (Operand.tmp 0),none⟩,[]⟩,
  ⟨⟨some 33,Op.call { callee := (Callee.value (Operand.func 53)),args := #[(Operand.tmp 32),(Operand.const (Value.int IntKind.i64 5))],argTypes := #[68,3] },none⟩,[]⟩,
  ⟨⟨some 6,Op.alloc 26,none⟩,[]⟩,
  ⟨⟨none,Op.store 26 (Operand.tmp 6) (Operand.tmp 28),none⟩,[]⟩,
  ⟨⟨some 7,Op.assign (Operand.tmp 31),none⟩,[]⟩,
  ⟨⟨some 8,Op.assign (Operand.tmp 33),none⟩,[]⟩]) (.seq (.seq (.reg [⟨⟨some 9,Op.assign (Operand.const (Value.int IntKind.i64 0)),none⟩,[]⟩]) (.block 0 (.loop (.seq (.seq (.reg [⟨⟨some 34,Op.move (Operand.tmp 9),none⟩,[]⟩,
  ⟨⟨some 35,Op.move (Operand.tmp 5),none⟩,[]⟩,
  ⟨⟨some 36,Op.binOp BinOp.lss 3 (Operand.tmp 34) (Operand.tmp 35) 3,none⟩,[]⟩]) (.cond (Operand.tmp 36) .skip (.exit 0))) (.seq (.block 1 (.seq (.seq (.reg [⟨⟨some 39,Op.move (Operand.tmp 9),none⟩,[]⟩,
  ⟨⟨some 40,Op.binOp BinOp.add 3 (Operand.tmp 39) (Operand.const (Value.int IntKind.i64 1)) 3,none⟩,[]⟩,
  ⟨⟨some 10,Op.assign (Operand.tmp 40),none⟩,[]⟩]) (.block 2 (.loop (.seq (.seq (.reg [⟨⟨some 41,Op.move (Operand.tmp 10),none⟩,[]⟩,
  ⟨⟨some 42,Op.move (Operand.tmp 5),none⟩,[]⟩,
  ⟨⟨some 43,Op.binOp BinOp.lss 3 (Operand.tmp 41) (Operand.tmp 42) 3,none⟩,[]⟩]) (.cond (Operand.tmp 43) .skip (.exit 2))) (.seq (.block 3 (.seq (.reg [⟨⟨some 46,Op.move (Operand.tmp 0),none⟩,[]⟩,
  ⟨⟨some 47,Op.move (Operand.tmp 7),none⟩,[]⟩,
  ⟨⟨some 48,Op.call { callee := (Callee.value (Operand.func 51)),args := #[(Operand.tmp 46),(Operand.tmp 47)],argTypes := #[68,3] },none⟩,[]⟩,
  ⟨⟨some 49,Op.binOp BinOp.eql 3 (Operand.tmp 48) (Operand.const (Value.int IntKind.i64 0)) 3,none⟩,[]⟩]) (.cond (Operand.tmp 49) (.reg [⟨⟨some 50,Op.fieldAddr 26 (Operand.tmp 6) 1,none⟩,[]⟩,
  ⟨⟨some 51,Op.load 24 (Operand.tmp 50),none⟩,[]⟩,
  ⟨⟨some 52,Op.move (Operand.tmp 9),none⟩,[]⟩,
  ⟨⟨some 53,Op.move (Operand.tmp 10),none⟩,[]⟩,
  ⟨⟨some 54,Op.build 53 #[(0,(Operand.tmp 52)),(1,(Operand.tmp 53))],none⟩,[]⟩,
  ⟨⟨some 55,Op.call { callee := (Callee.value (Operand.func 95)),args := #[(Operand.tmp 51),(Operand.tmp 54)],argTypes := #[24,53] },none⟩,[]⟩,
  ⟨⟨some 56,Op.fieldAddr 26 (Operand.tmp 6) 1,none⟩,[]⟩,
  ⟨⟨none,Op.store 24 (Operand.tmp 56) (Operand.tmp 55),none⟩,[]⟩]) .skip))) (.reg [⟨⟨some 44,Op.move (Operand.tmp 10),none⟩,[]⟩,
  ⟨⟨some 45,Op.binOp BinOp.add 3 (Operand.tmp 44) (Operand.const (Value.int IntKind.i64 1)) 3,none⟩,[]⟩,
  ⟨⟨some 10,Op.assign (Operand.tmp 45),none⟩,[]⟩])))))) (.seq (.reg [⟨⟨some 57,Op.move (Operand.tmp 9),none⟩,[]⟩,
  ⟨⟨some 58,Op.binOp BinOp.gtr 3 (Operand.tmp 57) (Operand.const (Value.int IntKind.i64 0)) 3,none⟩,[]⟩,
  ⟨⟨some 59,Op.move (Operand.tmp 58),none⟩,[]⟩,
  ⟨⟨some 60,Op.move (Operand.tmp 8),some (59,true)⟩,[]⟩,
  ⟨⟨some 61,Op.unOp UnOp.not 4 (Operand.tmp 60),some (59,true)⟩,[]⟩,
  ⟨⟨some 62,Op.pick (Operand.tmp 59) (Operand.tmp 61) (Operand.const (Value.bool false)),none⟩,[]⟩]) (.cond (Operand.tmp 62) (.reg [⟨⟨some 63,Op.fieldAddr 26 (Operand.tmp 6) 1,none⟩,[]⟩,
  ⟨⟨some 64,Op.load 24 (Operand.tmp 63),none⟩,[]⟩,
  ⟨⟨some 65,Op.move (Operand.tmp 0),none⟩,[]⟩,
  ⟨⟨some 66,Op.move (Operand.tmp 9),none⟩,[]⟩,
  ⟨⟨some 68,Op.move (Operand.tmp 9),none⟩,[]⟩,
  ⟨⟨some 67,Op.call { callee := (Callee.value (Operand.func 51)),args := #[(Operand.tmp 65),(Operand.tmp 66)],argTypes := #[68,3] },none⟩,[⟨some 64,Op.load 24 (Operand.tmp 63),none⟩]⟩,
  ⟨⟨some 69,Op.build 53 #[(0,(Operand.tmp 67)),(1,(Operand.tmp 68))],none⟩,[]⟩,
  ⟨⟨some 70,Op.call { callee := (Callee.value (Operand.func 95)),args := #[(Operand.tmp 64),(Operand.tmp 69)],argTypes := #[24,53] },none⟩,[]⟩,
  ⟨⟨some 71,Op.fieldAddr 26 (Operand.tmp 6) 1,none⟩,[]⟩,
  ⟨⟨none,Op.store 24 (Operand.tmp 71) (Operand.tmp 70),none⟩,[]⟩]) .skip)))) (.reg [⟨⟨some 37,Op.move (Operand.tmp 9),none⟩,[]⟩,
  ⟨⟨some 38,Op.binOp BinOp.add 3 (Operand.tmp 37) (Operand.const (Value.int IntKind.i64 1)) 3,none⟩,[]⟩,
  ⟨⟨some 9,Op.assign (Operand.tmp 38),none⟩,[]⟩])))))) (.seq (.seq (.reg [⟨⟨some 72,Op.move (Operand.tmp 0),none⟩,[]⟩,
  ⟨⟨some 73,Op.call { callee := (Callee.value (Operand.func 51)),args := #[(Operand.tmp 72),(Operand.const (Value.int IntKind.i64 50))],argTypes := #[68,3] },none⟩,[]⟩]) (.block 4 (.seq (.reg [⟨⟨some 75,Op.binOp BinOp.eql 3 (Operand.tmp 73) (Operand.const (Value.int IntKind.i64 0)) 3,none⟩,[]⟩,
  ⟨⟨some 74,Op.assign (Operand.tmp 75),none⟩,[]⟩]) (.cond (Operand.tmp 74) (.reg [⟨⟨some 76,Op.move (Operand.tmp 0),none⟩,[]⟩,
  ⟨⟨some 77,Op.buildSlice 27 5 #[(0,(Operand.const (Value.int IntKind.i64 (-1)))),(1,(Operand.const (Value.int IntKind.i64 8))),(2,(Operand.const (Value.int IntKind.i64 9))),(3,(Operand.const (Value.int IntKind.i64 0))),(4,(Operand.const (Value.int IntKind.i64 4611686018427387904)))],none⟩,[]⟩,
  ⟨⟨some 78,Op.call { callee := (Callee.value (Operand.func 96)),args := #[(Operand.tmp 76),(Operand.tmp 77)],argTypes := #[68,27] },none⟩,[]⟩,
  ⟨⟨some 79,Op.fieldAddr 26 (Operand.tmp 6) 0,none⟩,[]⟩,
  ⟨⟨none,Op.store 3 (Operand.tmp 79) (Operand.tmp 78),none⟩,[]⟩]) (.seq (.reg [⟨⟨some 81,Op.binOp BinOp.eql 3 (Operand.tmp 73) (Operand.const (Value.int IntKind.i64 1)) 3,none⟩,[]⟩,
  ⟨⟨some 80,Op.assign (Operand.tmp 81),none⟩,[]⟩]) (.cond (Operand.tmp 80) (.reg [⟨⟨some 82,Op.fieldAddr 26 (Operand.tmp 6) 1,none⟩,[]⟩,
  ⟨⟨some 83,Op.load 24 (Operand.tmp 82),none⟩,[]⟩,
  ⟨⟨some 84,Op.move (Operand.tmp 0),none⟩,[]⟩,
  ⟨⟨some 86,Op.move (Operand.tmp 0),none⟩,[]⟩,
  ⟨⟨some 85,Op.call { callee := (Callee.value (Operand.func 51)),args := #[(Operand.tmp 84),(Operand.const (Value.int IntKind.i64 4))],argTypes := #[68,3] },none⟩,[⟨some 83,Op.load 24 (Operand.tmp 82),none⟩]⟩,
  ⟨⟨some 87,Op.call { callee := (Callee.value (Operand.func 51)),args := #[(Operand.tmp 86),(Operand.const (Value.int IntKind.i64 9))],argTypes := #[68,3] },none⟩,[⟨some 83,Op.load 24 (Operand.tmp 82),none⟩]⟩,
  ⟨⟨some 88,Op.binOp BinOp.sub 3 (Operand.tmp 87) (Operand.const (Value.int IntKind.i64 1)) 3,none⟩,[]⟩,
  ⟨⟨some 89,Op.build 53 #[(0,(Operand.tmp 85)),(1,(Operand.tmp 88))],none⟩,[]⟩,
  ⟨⟨some 90,Op.buildSlice 24 1 #[(0,(Operand.tmp 89))],none⟩,[]⟩,
  ⟨⟨some 91,Op.call { callee := (Callee.builtin Builtin.append),args := #[(Operand.tmp 83),(Operand.tmp 90)],argTypes := #[24,24] },none⟩,[]⟩,
  ⟨⟨some 92,Op.fieldAddr 26 (Operand.tmp 6) 1,none⟩,[]⟩,
  ⟨⟨none,Op.store 24 (Operand.tmp 92) (Operand.tmp 91),none⟩,[]⟩]) (.seq (.reg [⟨⟨some 94,Op.binOp BinOp.eql 3 (Operand.tmp 73) (Operand.const (Value.int IntKind.i64 2)) 3,none⟩,[]⟩,
  ⟨⟨some 93,Op.assign (Operand.tmp 94),none⟩,[]⟩]) (.cond (Operand.tmp 93) (.seq (.reg [⟨⟨some 95,Op.fieldAddr 26 (Operand.tmp 6) 1,none⟩,[]⟩,
  ⟨⟨some 96,Op.load 24 (Operand.tmp 95),none⟩,[]⟩,
  ⟨⟨some 97,Op.call { callee := (Callee.builtin Builtin.len),args := #[(Operand.tmp 96)],argTypes := #[24] },none⟩,[]⟩,
  ⟨⟨some 98,Op.binOp BinOp.gtr 3 (Operand.tmp 97) (Operand.const (Value.int IntKind.i64 0)) 3,none⟩,[]⟩]) (.cond (Operand.tmp 98) (.reg [⟨⟨some 99,Op.fieldAddr 26 (Operand.tmp 6) 1,none⟩,[]⟩,
  ⟨⟨some 100,Op.load 24 (Operand.tmp 99),none⟩,[]⟩,
  ⟨⟨some 101,Op.fieldAddr 26 (Operand.tmp 6) 1,none⟩,[]⟩,
  ⟨⟨some 102,Op.load 24 (Operand.tmp 101),none⟩,[]⟩,
  ⟨⟨some 103,Op.move (Operand.tmp 0),none⟩,[]⟩,
  ⟨⟨some 104,Op.fieldAddr 26 (Operand.tmp 6) 1,none⟩,[]⟩,
  ⟨⟨some 105,Op.load 24 (Operand.tmp 104),none⟩,[]⟩,
  ⟨⟨some 106,Op.call { callee := (Callee.builtin Builtin.len),args := #[(Operand.tmp 105)],argTypes := #[24] },none⟩,[]⟩,
  ⟨⟨some 107,Op.call { callee := (Callee.value (Operand.func 51)),args := #[(Operand.tmp 103),(Operand.tmp 106)],argTypes := #[68,3] },none⟩,[⟨some 102,Op.load 24 (Operand.tmp 101),none⟩,⟨some 100,Op.load 24 (Operand.tmp 99),none⟩]⟩,
  ⟨⟨some 108,Op.indexAddr 24 (Operand.tmp 102) (Operand.tmp 107),none⟩,[]⟩,
  ⟨⟨some 109,Op.load 53 (Operand.tmp 108),none⟩,[]⟩,
  ⟨⟨some 110,Op.buildSlice 24 1 #[(0,(Operand.tmp 109))],none⟩,[]⟩,
  ⟨⟨some 111,Op.call { callee := (Callee.builtin Builtin.append),args := #[(Operand.tmp 100),(Operand.tmp 110)],argTypes := #[24,24] },none⟩,[]⟩,
  ⟨⟨some 112,Op.fieldAddr 26 (Operand.tmp 6) 1,none⟩,[]⟩,
  ⟨⟨none,Op.store 24 (Operand.tmp 112) (Operand.tmp 111),none⟩,[]⟩]) .skip)) .skip)))))))) (.seq (.reg [⟨⟨some 113,Op.load 26 (Operand.tmp 6),none⟩,[]⟩,
  ⟨⟨none,Op.store 26 (Operand.tmp 4) (Operand.tmp 113),none⟩,[]⟩]) .ret))))))))
theorem sl123 : slim Tryz.f123.ntmps ords123 (Tryz.f123.body.getD .skip) = some cd123 := by kernel_rfl
set_option maxRecDepth 20000 in
theorem in123 {args : List Value} {H : AH} {R : Value → AH → Prop} (hl : args.length = 2) (h : ∀ (Q : Exit → Sl → AH → Prop),(∀ e s H,endA Tryz.prog [ResultVar.cell 4 26] R e s H → Q e s H) → wpC Tryz.prog cd123 Q (enterA args) H) : ACalls Tryz.prog 123 args H R :=
  ACalls.intro (by kernel_rfl) Tryz.func123 rfl (by kernel_rfl) sl123 hl (of_decide_eq_true (by kernel_rfl)) (by kernel_rfl) h
end Go.Proofs.YtelafbennmclfaaGreat.Ai
namespace Go.Proofs.YtelafbennmclfaaGreat.Ai
open Go Go.RowKit
def Sml (ps : List (Int × Int)) : Prop := ∀ y ∈ ps,(-1 ≤ y.1 ∧ y.1 ≤ 9) ∧ -1 ≤ y.2 ∧ y.2 ≤ 9
def GSt (H : AH) (o gp : Nat) (v : Value) (us : List Value) (N L : Nat) (H' : AH) : Prop :=
  ∃ (n : Int) (w : Value) (ps : List (Int × Int)),H'[H.length]? = some (.cells [.int .i64 0,.slice none 0 0] 26 false) ∧ H'[gp]? = some (.cells [.int .i64 n,w] 26 false) ∧ MineP 53 H H' w ps ∧ rowO w ≠ gp ∧ (rowO w ≠ H.length ∨ w = .slice none 0 0) ∧ I64 n ∧ ps.length ≤ L ∧ Sml ps ∧ Cur H' o v us N ∧ Keeps o H H'
theorem MineP.onlyP {e : TypeId} {H0 H H' : AH} {o : Nat} {v : Value} {ps : List (Int × Int)} (h : MineP e H0 H v ps) (hk : OnlyO o H H') (ho : o < H0.length) : MineP e H0 H' v ps := h.keepsP hk.keeps ho
theorem GSt.cur {H : AH} {o gp : Nat} {v : Value} {us : List Value} {N M L : Nat} {H' K : AH} (h : GSt H o gp v us N L H') (ho : o < H.length) (hg : o ≠ gp) (hk : OnlyO o H' K) (hc : Cur K o v us M) : GSt H o gp v us M L K := by
  obtain ⟨n,w,ps,h1,h2,h3,h4,h5,h6,h7,h8,h9,h10⟩ := h
  exact ⟨n,w,ps,hk.2 _ _ (by omega) h1,hk.2 _ _ (fun e => hg e.symm) h2,h3.onlyP hk ho,h4,h5,h6,h7,h8,hc,h10.trans hk.keeps⟩
theorem GSt.pre {H : AH} {o gp : Nat} {v : Value} {us : List Value} {N L : Nat} {H' K : AH} (h : GSt H o gp v us N L H') (hp : H' <+: K) : GSt H o gp v us N L K := by
  obtain ⟨n,w,ps,h1,h2,h3,h4,h5,h6,h7,h8,h9,h10⟩ := h
  exact ⟨n,w,ps,pre_at hp h1,pre_at hp h2,h3.pre hp,h4,h5,h6,h7,h8,h9.pre hp,h10.trans (.of_pre hp)⟩
theorem GSt.more {H : AH} {o gp : Nat} {v : Value} {us : List Value} {N L N' L' : Nat} {H' : AH} (h : GSt H o gp v us N L H') (hN : N ≤ N') (hL : L ≤ L') : GSt H o gp v us N' L' H' := by
  obtain ⟨n,w,ps,h1,h2,h3,h4,h5,h6,h7,h8,h9,h10⟩ := h
  exact ⟨n,w,ps,h1,h2,h3,h4,h5,h6,by omega,h8,h9.more hN,h10⟩
theorem MineP.low {e : TypeId} {H0 H : AH} {v : Value} {ps : List (Int × Int)} (h : MineP e H0 H v ps) : v = .slice none 0 0 ∨ H0.length ≤ rowO v := by
  rcases h with h | ⟨o,zs,h1,h2,_⟩
  · exact .inl h.1
  · exact .inr (by rw [h1]; exact h2)
theorem GSt.put {H : AH} {o gp : Nat} {v : Value} {us : List Value} {N M : Nat} {H' K : AH} {n z : Int} {w w2 : Value} {ps qs : List (Int × Int)} {N0 : Nat} (hv : Cur H o v us N0) (ho : o < H.length) (hg : H.length < gp)
    (h1 : H'[H.length]? = some (.cells [.int .i64 0,.slice none 0 0] 26 false)) (h2 : H'[gp]? = some (.cells [.int .i64 n,w] 26 false)) (h3 : MineP 53 H H' w ps) (h3g : rowO w ≠ gp) (h3r : rowO w ≠ H.length ∨ w = .slice none 0 0) (hk : Kept w H' K) (hl : H'.length ≤ K.length)
    (h4 : MineP 53 H K w2 qs) (h5 : rowO w2 ≠ gp) (h5b : rowO w2 ≠ H.length ∨ w2 = .slice none 0 0) (h6 : I64 z) (h7 : qs.length ≤ M) (h8 : Sml qs) (h9 : Cur H' o v us N) (h10 : Keeps o H H') :
    GSt H o gp v us N M (K.set gp (.cells [.int .i64 z,w2] 26 false)) := by
  have low := h3.low
  have hk' : ∀ {j : Nat} {y : AObj},(w = .slice none 0 0 ∨ j ≠ rowO w) → H'[j]? = some y → K[j]? = some y := fun hj hy => hk _ _ hj hy
  have kg := hk' (j := gp) (.inr fun e => h3g e.symm) h2
  have hgl := at_lt kg
  have at_ : ∀ {j : Nat} {y : AObj},j ≠ gp → K[j]? = some y → (K.set gp (.cells [.int .i64 z,w2] 26 false))[j]? = some y := fun hj hy => by rw [List.getElem?_set_ne (fun e => hj e.symm)]; exact hy
  have old : ∀ {j : Nat} {y : AObj},j < H.length → H'[j]? = some y → (K.set gp (.cells [.int .i64 z,w2] 26 false))[j]? = some y := fun {j y} hj hy => at_ (by omega) (hk' (by
    rcases low with e | e
    · exact .inl e
    · exact .inr (by omega)) hy)
  obtain ⟨a,sd,c1,c2,c3⟩ := h9.cur
  refine ⟨z,w2,qs,at_ (by omega) (hk' (by
    rcases h3r with e | e
    · exact .inr fun q => e q.symm
    · exact .inl e) h1),List.getElem?_set_self hgl,h4.keep fun y hy => at_ h5 hy,h5,h5b,h6,h7,h8,⟨⟨a,sd,old ho c1,c2,c3⟩,h9.row.mono fun y hy => old ?_ hy,h9.byt,h9.ap,h9.le⟩,⟨by have := h10.1; simp; omega,fun j y hj hy => old (at_lt hy) (h10.2 j y hj hy)⟩⟩
  rcases hv.row with q | ⟨o',k',vs',ro',e1,g2,_⟩
  · rw [q.1]
    show (0 : Nat) < H.length
    omega
  · rw [e1]
    exact at_lt g2
set_option maxRecDepth 20000 in
set_option maxHeartbeats 16000000 in
theorem someGraph_c {H : AH} {o : Nat} {v : Value} {us : List Value} {N : Nat} (h : Cur H o v us N) (hN : N ≤ 100000000) (most : Int) (hmost : 0 ≤ most ∧ most ≤ 8) :
    ACalls Tryz.prog 123 [.pointer (some ⟨o,0,none⟩),.int .i64 most] H fun r H' => ∃ (n : Int) (w : Value) (ps : List (Int × Int)),r = .agg (List.toArray [.int .i64 n,w]) ∧ MineP 53 H H' w ps ∧ I64 n ∧ ps.length ≤ 200 ∧ Sml ps ∧ Cur H' o v us (N + 1000) ∧ Keeps o H H' := by
  have ho : o < H.length := by
    obtain ⟨_,_,g,_⟩ := h.cur
    exact at_lt g
  refine in123 rfl ?_
  intro Q hQ
  rw [cd123]
  generalize hA : H ++ [AObj.cells [.int .i64 0,.slice none 0 0] 26 false] = A
  have pA : H <+: A := by rw [← hA]; exact List.prefix_append _ _
  have cA : A[H.length]? = some (.cells [.int .i64 0,.slice none 0 0] 26 false) := by rw [← hA]; exact at_new ..
  have lA : A.length = H.length + 1 := by rw [← hA]; simp
  have al := alloc_G H
  rw [hA] at al
  refine cutC (fun s K => A = K ∧ s 0 = .pointer (some ⟨o,0,none⟩) ∧ s 1 = .int .i64 most ∧ s 4 = .pointer (some ⟨H.length,0,none⟩)) (fun c hc => ?_) ?_
  · simp (maxSteps := 1000000) (disch := omega) only [al,SS,eq_self,reduceIte,reduceCtorEq,Nat.reduceEqDiff,Nat.reduceAdd]
    exact hc _ _ ⟨rfl,rfl,rfl,rfl⟩
  rintro s _ ⟨rfl,s0,s1,s4⟩
  have hCA := h.pre pA
  have blK1 : ∀ H0 : AH,buildSliceA Tryz.prog 27 7 [(0,.int .i64 4),(1,.int .i64 5),(2,.int .i64 3),(3,.int .i64 6),(4,.int .i64 2),(5,.int .i64 1),(6,.int .i64 0)] H0 = some (.slice (some ⟨H0.length,0,none⟩) 7 7,H0 ++ [.cells [.int .i64 4,.int .i64 5,.int .i64 3,.int .i64 6,.int .i64 2,.int .i64 1,.int .i64 0] 3 false]) := fun H0 => by kernel_rfl
  refine cutC (fun s K => s 0 = .pointer (some ⟨o,0,none⟩) ∧ s 1 = .int .i64 most ∧ s 4 = .pointer (some ⟨H.length,0,none⟩) ∧ (∃ n : Int,s 5 = .int .i64 n ∧ 0 ≤ n ∧ n ≤ 8) ∧ Cur K o v us (N + 1) ∧ Keeps o A K) (fun c hc => ?_) ?_
  · simp (maxSteps := 1000000) (disch := omega) only [s0,s1,s4,blK1,SS,eq_self,reduceIte,reduceCtorEq,Nat.reduceEqDiff,Nat.reduceAdd]
    generalize hK1 : A ++ [AObj.cells [.int .i64 4,.int .i64 5,.int .i64 3,.int .i64 6,.int .i64 2,.int .i64 1,.int .i64 0] 3 false] = K1
    have pK1 : A <+: K1 := by rw [← hK1]; exact List.prefix_append _ _
    have aK1 : K1[A.length]? = some (.cells [.int .i64 4,.int .i64 5,.int .i64 3,.int .i64 6,.int .i64 2,.int .i64 1,.int .i64 0] 3 false) := by rw [← hK1]; exact at_new ..
    have wK1 : Row 3 K1 (.slice (some ⟨A.length,0,none⟩) 7 7) [4,5,3,6,2,1,0] := .inr ⟨A.length,0,_,false,rfl,aK1,by simp,rfl⟩
    refine CallH.by (among_c (hCA.pre pK1) (by omega) wK1 (by show A.length ≠ o; omega) (by simp)) ?_
    rintro _ L ⟨⟨x,rfl,hx⟩,hCL,oL⟩
    simp (maxSteps := 1000000) (disch := omega) only [s0,s1,s4,SS,eq_self,reduceIte,reduceCtorEq,Nat.reduceEqDiff,Nat.reduceAdd]
    exact hc _ _ ⟨s0,s1,s4,⟨x,rfl,by simp at hx; omega⟩,hCL,(Keeps.of_pre pK1).trans oL.keeps⟩
  clear s0 s1 s4 hCA s
  rintro s B ⟨s0,s1,s4,⟨n0,s5,hn0⟩,hCB,kB⟩
  refine cutC (fun s K => s 0 = .pointer (some ⟨o,0,none⟩) ∧ s 1 = .int .i64 most ∧ s 4 = .pointer (some ⟨H.length,0,none⟩) ∧ (∃ n : Int,s 5 = .int .i64 n ∧ 0 ≤ n ∧ n ≤ 8) ∧ Cur K o v us (N + 3) ∧ Keeps o A K) (fun c hc => ?_) ?_
  · simp (maxSteps := 1000000) (disch := omega) only [s0,s1,s4,s5,SS,eq_self,reduceIte,reduceCtorEq,Nat.reduceEqDiff,Nat.reduceAdd]
    by_cases g : (6 : Int) < most
    · simp (maxSteps := 1000000) (disch := omega) only [decide_eq_true g,s0,SS,eq_self,reduceIte,reduceCtorEq,Nat.reduceEqDiff,Nat.reduceAdd]
      refine CallH.by (one_c hCB (by omega) 4 (by omega)) ?_
      rintro _ K ⟨⟨b,rfl⟩,hCK,oK⟩
      simp (maxSteps := 1000000) (disch := omega) only [SS,eq_self,reduceIte,reduceCtorEq,Nat.reduceEqDiff,Nat.reduceAdd]
      cases b with
      | true =>
        refine brH.intro (fun _ => ?_) (fun q => by cases q)
        simp (maxSteps := 1000000) (disch := omega) only [s0,SS,eq_self,reduceIte,reduceCtorEq,Nat.reduceEqDiff,Nat.reduceAdd]
        refine CallH.by (pick_c hCK (by omega) 2 (by omega)) ?_
        rintro _ L ⟨⟨k,rfl,hk⟩,hCL,oL⟩
        simp (maxSteps := 1000000) (disch := omega) only [wrap64,SS,eq_self,reduceIte,reduceCtorEq,Nat.reduceEqDiff,Nat.reduceAdd]
        exact hc _ _ ⟨s0,s1,s4,⟨7 + (k : Int),rfl,by omega⟩,hCL,kB.trans (oK.keeps.trans oL.keeps)⟩
      | false =>
        refine brH.intro (fun q => by cases q) (fun _ => ?_)
        simp (maxSteps := 1000000) (disch := omega) only [SS,eq_self,reduceIte,reduceCtorEq,Nat.reduceEqDiff,Nat.reduceAdd]
        exact hc _ _ ⟨s0,s1,s4,⟨n0,s5,hn0⟩,hCK.more (by omega),kB.trans oK.keeps⟩
    · simp (maxSteps := 1000000) (disch := omega) only [decide_eq_false g,SS,eq_self,reduceIte,reduceCtorEq,Nat.reduceEqDiff,Nat.reduceAdd]
      exact hc _ _ ⟨s0,s1,s4,⟨n0,s5,hn0⟩,hCB.more (by omega),kB⟩
  clear s0 s1 s4 s5 hCB kB s B hn0 n0
  rintro s B ⟨s0,s1,s4,⟨n0,s5,hn0⟩,hCB,kB⟩
  refine cutC (fun s K => B = K ∧ s 0 = .pointer (some ⟨o,0,none⟩) ∧ s 4 = .pointer (some ⟨H.length,0,none⟩) ∧ (∃ n : Nat,s 5 = .int .i64 (n : Int) ∧ n ≤ 8)) (fun c hc => ?_) ?_
  · simp (maxSteps := 1000000) (disch := omega) only [s0,s1,s4,s5,SS,eq_self,reduceIte,reduceCtorEq,Nat.reduceEqDiff,Nat.reduceAdd]
    refine CallH.by (l1Least_c n0 most B) ?_
    rintro _ _ ⟨rfl,rfl⟩
    obtain ⟨m,hm,hm8⟩ : ∃ m : Nat,(if n0 < most then n0 else most) = (m : Int) ∧ m ≤ 8 := by
      split
      · exact ⟨n0.toNat,by omega,by omega⟩
      · exact ⟨most.toNat,by omega,by omega⟩
    rw [hm]
    simp (maxSteps := 1000000) (disch := omega) only [s0,s4,SS,eq_self,reduceIte,reduceCtorEq,Nat.reduceEqDiff,Nat.reduceAdd]
    exact hc _ _ ⟨rfl,s0,s4,m,rfl,hm8⟩
  clear s0 s1 s4 s5 hn0 n0 s
  rintro s _ ⟨rfl,s0,s4,⟨n,s5,hn⟩⟩
  have hAB := kB.1
  have cB := kB.2 _ _ (by omega) cA
  have kHB : Keeps o H B := (Keeps.of_pre pA).trans kB
  have blK2 : ∀ H0 : AH,buildSliceA Tryz.prog 27 4 [(0,.int .i64 1),(1,.int .i64 3),(2,.int .i64 4),(3,.int .i64 6)] H0 = some (.slice (some ⟨H0.length,0,none⟩) 4 4,H0 ++ [.cells [.int .i64 1,.int .i64 3,.int .i64 4,.int .i64 6] 3 false]) := fun H0 => by kernel_rfl
  have blG : ∀ (n : Int) (p : Option Addr) (k c : Nat),buildA Tryz.prog 26 [(0,.int .i64 n),(1,.slice p k c)] = some (.agg (List.toArray [.int .i64 n,.slice p k c])) := fun _ _ _ _ => by kernel_rfl
  refine cutC (fun s K => s 0 = .pointer (some ⟨o,0,none⟩) ∧ s 4 = .pointer (some ⟨H.length,0,none⟩) ∧ s 5 = .int .i64 (n : Int) ∧ (∃ gp : Nat,s 6 = .pointer (some ⟨gp,0,none⟩) ∧ H.length < gp ∧ GSt H o gp v us (N + 5) 0 K) ∧ (∃ d : Int,s 7 = .int .i64 d ∧ 1 ≤ d ∧ d ≤ 6) ∧ ∃ b : Bool,s 8 = .bool b) (fun c hc => ?_) ?_
  · generalize hC : B ++ [AObj.cells [] 53 false] = C
    have pC : B <+: C := by rw [← hC]; exact List.prefix_append _ _
    have lC : C.length = B.length + 1 := by rw [← hC]; simp
    have m0 : MineP 53 H C (.slice (some ⟨B.length,0,none⟩) 0 0) [] := by rw [← hC]; exact MineP.nil0 (P := Tryz.prog) H B (by omega)
    generalize hD : C ++ [AObj.cells [.int .i64 1,.int .i64 3,.int .i64 4,.int .i64 6] 3 false] = D
    have pD : C <+: D := by rw [← hD]; exact List.prefix_append _ _
    have aD : D[C.length]? = some (.cells [.int .i64 1,.int .i64 3,.int .i64 4,.int .i64 6] 3 false) := by rw [← hD]; exact at_new ..
    have wD : Row 3 D (.slice (some ⟨C.length,0,none⟩) 4 4) [1,3,4,6] := .inr ⟨C.length,0,_,false,rfl,aD,by simp,rfl⟩
    simp (maxSteps := 1000000) (disch := omega) only [s0,s4,s5,hC,blG,blK2,hD,SS,eq_self,reduceIte,reduceCtorEq,Nat.reduceEqDiff,Nat.reduceAdd]
    refine CallH.by (among_c (hCB.pre (pC.trans pD)) (by omega) wD (by show C.length ≠ o; omega) (by simp)) ?_
    rintro _ E ⟨⟨d,rfl,hd⟩,hCE,oE⟩
    simp (maxSteps := 1000000) (disch := omega) only [s0,s4,s5,SS,eq_self,reduceIte,reduceCtorEq,Nat.reduceEqDiff,Nat.reduceAdd]
    refine CallH.by (one_c hCE (by omega) 5 (by omega)) ?_
    rintro _ F ⟨⟨b,rfl⟩,hCF,oF⟩
    have kBF : Keeps o B F := (Keeps.of_pre (pC.trans pD)).trans (oE.keeps.trans oF.keeps)
    have mF : MineP 53 H F (.slice (some ⟨B.length,0,none⟩) 0 0) [] := ((m0.pre pD).onlyP oE ho).onlyP oF ho
    have st1 := st_G mF.row (at_new F (.cells [.int .i64 0,.slice none 0 0] 26 false)) rfl (n : Int)
    rw [set_new] at st1
    simp (maxSteps := 1000000) (disch := omega) only [s0,s4,s5,alloc_G,st1,SS,eq_self,reduceIte,reduceCtorEq,Nat.reduceEqDiff,Nat.reduceAdd]
    have pG : F <+: F ++ [AObj.cells [.int .i64 (n : Int),.slice (some ⟨B.length,0,none⟩) 0 0] 26 false] := List.prefix_append _ _
    have lF := kBF.1
    have lD : D.length = C.length + 1 := by rw [← hD]; simp
    have lEF : F.length = D.length := by rw [oF.1,oE.1]
    refine hc _ _ ⟨s0,s4,s5,⟨F.length,rfl,by omega,n,.slice (some ⟨B.length,0,none⟩) 0 0,[],?_,at_new ..,mF.pre pG,?_,.inl ?_,⟨by omega,by omega⟩,Nat.le_refl _,fun y hy => by simp at hy,(hCF.more (by omega)).pre pG,kHB.trans (kBF.trans (.of_pre pG))⟩,⟨d,rfl,by simp at hd; omega⟩,b,rfl⟩
    · exact pre_at pG (kBF.2 _ _ (by omega) cB)
    · show B.length ≠ F.length; omega
    · show B.length ≠ H.length; omega
  clear s0 s4 s5 cB kHB hAB hCB kB s
  rintro s K ⟨s0,s4,s5,⟨gp,s6,hgp,hG⟩,⟨d,s7,hd⟩,lb,s8⟩
  clear B
  have put : ∀ {N1 L1 : Nat} {K1 : AH} (a b : Int),GSt H o gp v us N1 L1 K1 → L1 ≤ 500 → ((-1 ≤ a ∧ a ≤ 9) ∧ -1 ≤ b ∧ b ≤ 9) → ∃ n' w',cellA K1 gp 1 = some w' ∧ K1[gp]? = some (.cells [.int .i64 n',w'] 26 false) ∧ ACalls Tryz.prog 95 [w',.agg (List.toArray [.int .i64 a,.int .i64 b])] K1 fun r K2 => ∃ K3,storeA Tryz.prog 24 (.pointer (some ⟨gp,1,none⟩)) r K2 = some K3 ∧ isTup r = false ∧ GSt H o gp v us N1 (L1 + 1) K3 := by
    rintro N1 L1 K1 a b ⟨n',w',ps,q1,q2,q3,q4,q5,q6,q7,q8,q9,q10⟩ hL hab
    refine ⟨n',w',cell_of q2 1,q2,(l2PutPair_c w' ps a b q3 (by have := q10.1; omega) (by omega)).mono fun r K2 hr => ?_⟩
    obtain ⟨qs,r1,r2,r3,r4,r5⟩ := hr
    have lgp := at_lt q2
    have r6 : rowO r ≠ gp := by
      rcases r4 with e | e
      · rw [e]; exact q4
      · omega
    have r7 : rowO r ≠ H.length ∨ r = .slice none 0 0 := by
      rcases r4 with e | e
      · rw [e]; exact q5
      · exact .inl (by omega)
    obtain ⟨q,hq⟩ := r1.row.shape
    have t2 : r.cells.toList = [r] := by rw [hq]; rfl
    have hst := st_at (P := Tryz.prog) (t := 24) (i := 1) (y := r) cs24 (pre_at r5 q2) (by show 1 < 2; decide) r1.row.tup t2
    exact ⟨_,hst,r1.row.tup,GSt.put h ho hgp q1 q2 q3 q4 q5 (fun j y _ hy => pre_at r5 hy) r5.length_le r1 r6 r7 q6 (by omega : qs.length ≤ L1 + 1) (fun y hy => by
      rcases r3 y hy with e | e
      · exact q8 y e
      · rw [e]; exact hab) q9 q10⟩
  refine cutC (fun s K => s 0 = .pointer (some ⟨o,0,none⟩) ∧ s 4 = .pointer (some ⟨H.length,0,none⟩) ∧ s 6 = .pointer (some ⟨gp,0,none⟩) ∧ GSt H o gp v us (N + 200) 100 K) (fun c hc => ?_) ?_
  · simp (maxSteps := 1000000) (disch := omega) only [s0,s4,s5,s6,s7,s8,SS,eq_self,reduceIte,reduceCtorEq,Nat.reduceEqDiff,Nat.reduceAdd]
    refine LoopH.by (fun m s K => ∃ x : Nat,m + x = n ∧ s 0 = .pointer (some ⟨o,0,none⟩) ∧ s 4 = .pointer (some ⟨H.length,0,none⟩) ∧ s 5 = .int .i64 (n : Int) ∧ s 6 = .pointer (some ⟨gp,0,none⟩) ∧ s 7 = .int .i64 d ∧ s 8 = .bool lb ∧ s 9 = .int .i64 (x : Int) ∧ GSt H o gp v us (N + 5 + x * 10) (x * 10) K) n ?_ ?_
    · refine ⟨0,by omega,?_⟩
      simp (maxSteps := 1000000) (disch := omega) only [s0,s4,s5,s6,s7,s8,SS,eq_self,reduceIte,reduceCtorEq,Nat.reduceEqDiff,Nat.reduceAdd]
      have f1 := hG.more (show N + 5 ≤ N + 5 + 0 * 10 by omega) (show 0 ≤ 0 * 10 by omega)
      (repeat' first | exact f1 | apply And.intro) <;> first | (simp only [Value.int.injEq,true_and]; omega) | omega | rfl | assumption | (simp; done) | (simp; omega)
    clear s0 s4 s5 s6 s7 s8 hG s K
    rintro m s K ⟨x,hm,s0,s4,s5,s6,s7,s8,s9,hG⟩
    simp (maxSteps := 1000000) (disch := omega) only [s0,s4,s5,s6,s7,s8,s9,SS,eq_self,reduceIte,reduceCtorEq,Nat.reduceEqDiff,Nat.reduceAdd]
    refine brD.intro (fun g => ?_) (fun g => ?_)
    rotate_left
    · simp (maxSteps := 1000000) (disch := omega) only [s0,s4,s6,SS,eq_self,reduceIte,reduceCtorEq,Nat.reduceEqDiff,Nat.reduceAdd]
      exact hc _ _ ⟨s0,s4,s6,hG.more (by omega) (by omega)⟩
    have hx : x < n := by omega
    simp (maxSteps := 1000000) (disch := omega) only [s0,s4,s5,s6,s7,s8,s9,wrap64,SS,eq_self,reduceIte,reduceCtorEq,Nat.reduceEqDiff,Nat.reduceAdd]
    refine LoopH.by (fun m' s K => ∃ j : Nat,m' + j = n - (x + 1) ∧ s 0 = .pointer (some ⟨o,0,none⟩) ∧ s 4 = .pointer (some ⟨H.length,0,none⟩) ∧ s 5 = .int .i64 (n : Int) ∧ s 6 = .pointer (some ⟨gp,0,none⟩) ∧ s 7 = .int .i64 d ∧ s 8 = .bool lb ∧ s 9 = .int .i64 (x : Int) ∧ s 10 = .int .i64 ((x + 1 + j : Nat) : Int) ∧ GSt H o gp v us (N + 5 + x * 10 + j) (x * 10 + j) K) (n - (x + 1)) ?_ ?_
    · refine ⟨0,by omega,?_⟩
      simp (maxSteps := 1000000) (disch := omega) only [s0,s4,s5,s6,s7,s8,s9,SS,eq_self,reduceIte,reduceCtorEq,Nat.reduceEqDiff,Nat.reduceAdd]
      (repeat' first | exact hG | apply And.intro) <;> first | (simp only [Value.int.injEq,true_and]; omega) | omega | rfl | assumption | (simp; done) | (simp; omega)
    clear s0 s4 s5 s6 s7 s8 s9 hG s K
    rintro m' s K ⟨j,hm',s0,s4,s5,s6,s7,s8,s9,s10,hG⟩
    simp (maxSteps := 1000000) (disch := omega) only [s0,s4,s5,s6,s7,s8,s9,s10,SS,eq_self,reduceIte,reduceCtorEq,Nat.reduceEqDiff,Nat.reduceAdd]
    refine brD.intro (fun g2 => ?_) (fun g2 => ?_)
    · have hC : ∃ a,Cur K o v us a ∧ a = N + 5 + x * 10 + j := by
        obtain ⟨_,_,_,_,_,_,_,_,_,_,_,q,_⟩ := hG
        exact ⟨_,q,rfl⟩
      obtain ⟨_,hC,rfl⟩ := hC
      simp (maxSteps := 1000000) (disch := omega) only [s0,s7,SS,eq_self,reduceIte,reduceCtorEq,Nat.reduceEqDiff,Nat.reduceAdd]
      refine CallH.by (pick_c hC (by omega) d (by omega)) ?_
      rintro _ L ⟨⟨k,rfl,_⟩,hCL,oL⟩
      have hGL := hG.cur ho (by omega) oL hCL
      simp (maxSteps := 1000000) (disch := omega) only [SS,eq_self,reduceIte,reduceCtorEq,Nat.reduceEqDiff,Nat.reduceAdd]
      refine brD.intro (fun z => ?_) (fun z => ?_)
      · obtain ⟨n',w',c1,c2,hput⟩ := put (x : Int) ((x + 1 + j : Nat) : Int) hGL (by omega) (by omega)
        simp (maxSteps := 1000000) (disch := omega) only [s6,c1,s9,s10,build_a2,SS,eq_self,reduceIte,reduceCtorEq,Nat.reduceEqDiff,Nat.reduceAdd]
        refine CallH.by hput ?_
        rintro r K2 ⟨K3,e2,e1,e3⟩
        simp (maxSteps := 1000000) (disch := omega) only [s6,e2,s0,s4,s5,s7,s8,s9,s10,wrap64,SS,eq_self,reduceIte,reduceCtorEq,Nat.reduceEqDiff,Nat.reduceAdd]
        have f1 := e3.more (show N + 5 + x * 10 + j + 1 ≤ N + 5 + x * 10 + (j + 1) by omega) (show x * 10 + j + 1 ≤ x * 10 + (j + 1) by omega)
        refine ⟨m' - 1,by omega,j + 1,?_⟩
        (repeat' first | exact f1 | apply And.intro) <;> first | (simp only [Value.int.injEq,true_and]; omega) | omega | rfl | assumption | (simp; done) | (simp; omega)
      · simp (maxSteps := 1000000) (disch := omega) only [s6,s0,s4,s5,s7,s8,s9,s10,wrap64,SS,eq_self,reduceIte,reduceCtorEq,Nat.reduceEqDiff,Nat.reduceAdd]
        have f1 := hGL.more (show N + 5 + x * 10 + j + 1 ≤ N + 5 + x * 10 + (j + 1) by omega) (show x * 10 + j ≤ x * 10 + (j + 1) by omega)
        refine ⟨m' - 1,by omega,j + 1,?_⟩
        (repeat' first | exact f1 | apply And.intro) <;> first | (simp only [Value.int.injEq,true_and]; omega) | omega | rfl | assumption | (simp; done) | (simp; omega)
    have hjn : j ≤ 8 := by omega
    have next : ∀ {K3 : AH},GSt H o gp v us (N + 5 + x * 10 + 9) (x * 10 + 9) K3 → GSt H o gp v us (N + 5 + (x + 1) * 10) ((x + 1) * 10) K3 := fun q => q.more (by omega) (by omega)
    have hG9 := hG.more (show N + 5 + x * 10 + j ≤ N + 5 + x * 10 + 8 by omega) (show x * 10 + j ≤ x * 10 + 8 by omega)
    simp (maxSteps := 1000000) (disch := omega) only [s0,s4,s5,s6,s7,s8,s9,SS,eq_self,reduceIte,reduceCtorEq,Nat.reduceEqDiff,Nat.reduceAdd]
    by_cases z : (0 : Int) < (x : Int)
    · cases lb with
      | false =>
        have hC : ∃ a,Cur K o v us a ∧ a = N + 5 + x * 10 + 8 := by
          obtain ⟨_,_,_,_,_,_,_,_,_,_,_,q,_⟩ := hG9
          exact ⟨_,q,rfl⟩
        obtain ⟨_,hC,rfl⟩ := hC
        have hG9' := hG9
        obtain ⟨n0,w0,_,g1,g2,_⟩ := hG9'
        have g3 := cell_of g2 1
        simp (maxSteps := 1000000) (disch := omega) only [decide_eq_true z,s8,s0,s6,s9,g3,SS,eq_self,reduceIte,reduceCtorEq,Nat.reduceEqDiff,Nat.reduceAdd]
        refine CallH.by (pick_c hC (by omega) (x : Int) (by omega)) ?_
        rintro _ L ⟨⟨k,rfl,hk⟩,hCL,oL⟩
        have hGL := hG9.cur ho (by omega) oL hCL
        obtain ⟨n',w',c1,c2,hput⟩ := put (k : Int) (x : Int) hGL (by omega) (by omega)
        have e0 : w0 = w' := by
          have := (oL.2 gp _ (by omega) g2).symm.trans c2
          simp only [Option.some.injEq,AObj.cells.injEq,List.cons.injEq] at this
          exact this.1.2.1
        subst e0
        simp (maxSteps := 1000000) (disch := omega) only [s6,s9,c1,build_a2,SS,eq_self,reduceIte,reduceCtorEq,Nat.reduceEqDiff,Nat.reduceAdd]
        refine CallH.by hput ?_
        rintro r K2 ⟨K3,e2,e1,e3⟩
        simp (maxSteps := 1000000) (disch := omega) only [s6,e2,s0,s4,s5,s7,s8,s9,wrap64,SS,eq_self,reduceIte,reduceCtorEq,Nat.reduceEqDiff,Nat.reduceAdd]
        have f1 := next (e3.more (by omega) (by omega))
        refine ⟨m - 1,by omega,x + 1,?_⟩
        (repeat' first | exact f1 | apply And.intro) <;> first | (simp only [Value.int.injEq,true_and]; omega) | omega | rfl | assumption | (simp; done) | (simp; omega)
      | true =>
        simp (maxSteps := 1000000) (disch := omega) only [decide_eq_true z,s0,s4,s5,s6,s7,s8,s9,wrap64,SS,eq_self,reduceIte,reduceCtorEq,Nat.reduceEqDiff,Nat.reduceAdd]
        have f1 := next (hG9.more (by omega) (by omega))
        refine ⟨m - 1,by omega,x + 1,?_⟩
        (repeat' first | exact f1 | apply And.intro) <;> first | (simp only [Value.int.injEq,true_and]; omega) | omega | rfl | assumption | (simp; done) | (simp; omega)
    · simp (maxSteps := 1000000) (disch := omega) only [decide_eq_false z,s0,s4,s5,s6,s7,s8,s9,wrap64,SS,eq_self,reduceIte,reduceCtorEq,Nat.reduceEqDiff,Nat.reduceAdd]
      have f1 := next (hG9.more (by omega) (by omega))
      refine ⟨m - 1,by omega,x + 1,?_⟩
      (repeat' first | exact f1 | apply And.intro) <;> first | (simp only [Value.int.injEq,true_and]; omega) | omega | rfl | assumption | (simp; done) | (simp; omega)
  clear s0 s4 s5 s6 s7 s8 hG s K put
  rintro s K ⟨s0,s4,s6,hG⟩
  refine cutC (fun s K => s 4 = .pointer (some ⟨H.length,0,none⟩) ∧ s 6 = .pointer (some ⟨gp,0,none⟩) ∧ GSt H o gp v us (N + 250) 150 K) (fun c hc => ?_) ?_
  · have hG' := hG
    obtain ⟨n1,w,ps,q1,q2,q3,q4,q5,q6,q7,q8,q9,q10⟩ := hG'
    simp (maxSteps := 1000000) (disch := omega) only [s0,SS,eq_self,reduceIte,reduceCtorEq,Nat.reduceEqDiff,Nat.reduceAdd]
    refine CallH.by (pick_c q9 (by omega) 50 (by omega)) ?_
    rintro _ L ⟨⟨k,rfl,_⟩,hCL,oL⟩
    have hGL := hG.cur ho (by omega) oL hCL
    clear hG q1 q2 q3 q4 q5 q6 q7 q8 q9 q10 w ps n1
    have hGL' := hGL
    obtain ⟨n1,w,ps,q1,q2,q3,q4,q5,q6,q7,q8,q9,q10⟩ := hGL'
    have lgp := at_lt q2
    have lHL := q10.1
    simp (maxSteps := 1000000) (disch := omega) only [s0,s4,s6,SS,eq_self,reduceIte,reduceCtorEq,Nat.reduceEqDiff,Nat.reduceAdd]
    by_cases z0 : (k : Int) = 0
    · simp (maxSteps := 1000000) (disch := omega) only [decide_eq_true z0,s0,s4,s6,SS,eq_self,reduceIte,reduceCtorEq,Nat.reduceEqDiff,Nat.reduceAdd]
      have blK3 : ∀ H0 : AH,buildSliceA Tryz.prog 27 5 [(0,.int .i64 (-1)),(1,.int .i64 8),(2,.int .i64 9),(3,.int .i64 0),(4,.int .i64 4611686018427387904)] H0 = some (.slice (some ⟨H0.length,0,none⟩) 5 5,H0 ++ [.cells [.int .i64 (-1),.int .i64 8,.int .i64 9,.int .i64 0,.int .i64 4611686018427387904] 3 false]) := fun H0 => by kernel_rfl
      simp (maxSteps := 1000000) (disch := omega) only [blK3,SS,eq_self,reduceIte,reduceCtorEq,Nat.reduceEqDiff,Nat.reduceAdd]
      generalize hK1 : L ++ [AObj.cells [.int .i64 (-1),.int .i64 8,.int .i64 9,.int .i64 0,.int .i64 4611686018427387904] 3 false] = K1
      have pK1 : L <+: K1 := by rw [← hK1]; exact List.prefix_append _ _
      have aK1 : K1[L.length]? = some (.cells [.int .i64 (-1),.int .i64 8,.int .i64 9,.int .i64 0,.int .i64 4611686018427387904] 3 false) := by rw [← hK1]; exact at_new ..
      have wK1 : Row 3 K1 (.slice (some ⟨L.length,0,none⟩) 5 5) [-1,8,9,0,4611686018427387904] := .inr ⟨L.length,0,_,false,rfl,aK1,by simp,rfl⟩
      refine CallH.by (among_c (q9.pre pK1) (by omega) wK1 (by show L.length ≠ o; omega) (by simp)) ?_
      rintro _ M ⟨⟨y,rfl,hy⟩,hCM,oM⟩
      have hGM := (hGL.pre pK1).cur ho (by omega) oM hCM
      obtain ⟨n2,w2,ps2,t1,t2,t3,t4,t5,t6,t7,t8,t9,t10⟩ := hGM
      have hst := st_at (P := Tryz.prog) (t := 3) (i := 0) (y := .int .i64 y) cs3 t2 (by show 0 < 2; decide) rfl rfl
      have hy64 : I64 y := by simp at hy; exact ⟨by omega,by omega⟩
      simp (maxSteps := 1000000) (disch := omega) only [s6,hst,SS,eq_self,reduceIte,reduceCtorEq,Nat.reduceEqDiff,Nat.reduceAdd]
      exact hc _ _ ⟨s4,s6,(GSt.put h ho hgp t1 t2 t3 t4 t5 (fun j y _ hy => hy) (Nat.le_refl _) t3 t4 t5 hy64 t7 t8 t9 t10).more (by omega) (by omega)⟩
    by_cases z1 : (k : Int) = 1
    · have hz0 : ¬ (k : Int) = 0 := z0
      simp (maxSteps := 1000000) (disch := omega) only [decide_eq_false hz0,decide_eq_true z1,s0,s4,s6,cell_of q2,SS,eq_self,reduceIte,reduceCtorEq,Nat.reduceEqDiff,Nat.reduceAdd]
      refine CallH.by (pick_c q9 (by omega) 4 (by omega)) ?_
      rintro _ M ⟨⟨a,rfl,ha⟩,hCM,oM⟩
      have c2 := oM.2 gp _ (by omega) q2
      simp (maxSteps := 1000000) (disch := omega) only [s0,s6,cell_of c2,SS,eq_self,reduceIte,reduceCtorEq,Nat.reduceEqDiff,Nat.reduceAdd]
      refine CallH.by (pick_c hCM (by omega) 9 (by omega)) ?_
      rintro _ P ⟨⟨b,rfl,hb⟩,hCP,oP⟩
      have hGP := (hGL.cur ho (by omega) oM hCM).cur ho (by omega) oP hCP
      obtain ⟨n2,w2,ps2,t1,t2,t3,t4,t5,t6,t7,t8,t9,t10⟩ := hGP
      have e0 : w = w2 := by
        have := (oP.2 gp _ (by omega) c2).symm.trans t2
        simp only [Option.some.injEq,AObj.cells.injEq,List.cons.injEq] at this
        exact this.1.2.1
      subst e0
      obtain ⟨H0,hp0,hb0⟩ : ∃ H0 : AH,H0 <+: P ∧ H0.length = H.length := ⟨P.take H.length,List.take_prefix _ _,by have := t10.1; simp; omega⟩
      have hw1 : IntKind.i64.wrap ((b : Int) - 1) = (b : Int) - 1 := wrap64 (by omega) (by omega)
      obtain ⟨w3,K3,k1,k2,k3,k4,k5,k6⟩ := own1_24 (t3.rebase hb0) hp0 (by omega) (a : Int) ((b : Int) - 1)
      obtain ⟨q,hq⟩ := k2.row.shape
      have tt : w3.cells.toList = [w3] := by rw [hq]; rfl
      have lP := at_lt t2
      have kg := k4 gp _ (.inr fun e => t4 e.symm) t2
      have hst := st_at (P := Tryz.prog) (t := 24) (i := 1) (y := w3) cs24 kg (by show 1 < 2; decide) k6 tt
      simp (maxSteps := 1000000) (disch := omega) only [s6,cell_of t2,hw1,build_a2,k1,hst,SS,eq_self,reduceIte,reduceCtorEq,Nat.reduceEqDiff,Nat.reduceAdd]
      have l3 : P.length ≤ K3.length := by
        obtain ⟨o3,z3,e1,e2,e3,_⟩ : ∃ o3 zs,w3 = .slice (some ⟨o3,0,none⟩) (ps2 ++ [((a : Int),(b : Int) - 1)]).length (ps2 ++ [((a : Int),(b : Int) - 1)]).length ∧ H0.length ≤ o3 ∧ K3[o3]? = some (.cells (ints zs) 53 false) ∧ True := by
          rcases k2 with ⟨_,e⟩ | ⟨o3,zs,e1,e2,e3,_⟩
          · simp at e
          · exact ⟨o3,zs,e1,e2,e3,trivial⟩
        have := at_lt e3
        rw [e1] at k5
        have k5' : P.length ≤ o3 := k5
        omega
      exact hc _ _ ⟨s4,s6,(GSt.put (M := 200 - 50) h ho hgp t1 t2 t3 t4 t5 k4 l3 (k2.rebase hb0.symm) (by omega) (.inl (by omega)) t6 (by simp; omega) (fun y hy => by
        rcases List.mem_append.1 hy with e | e
        · exact t8 y e
        · rw [List.mem_singleton] at e; rw [e]; simp only; omega) t9 t10).more (by omega) (by omega)⟩
    by_cases z2 : (k : Int) = 2
    · have hz0 : ¬ (k : Int) = 0 := z0
      have hz1 : ¬ (k : Int) = 1 := z1
      simp (maxSteps := 1000000) (disch := omega) only [decide_eq_false hz0,decide_eq_false hz1,decide_eq_true z2,s0,s4,s6,cell_of q2,q3.row.len Tryz.underlying24,SS,eq_self,reduceIte,reduceCtorEq,Nat.reduceEqDiff,Nat.reduceAdd]
      by_cases z3 : (0 : Int) < (ps.length : Int)
      rotate_left
      · simp (maxSteps := 1000000) (disch := omega) only [decide_eq_false z3,SS,eq_self,reduceIte,reduceCtorEq,Nat.reduceEqDiff,Nat.reduceAdd]
        exact hc _ _ ⟨s4,s6,hGL.more (by omega) (by omega)⟩
      simp (maxSteps := 1000000) (disch := omega) only [decide_eq_true z3,s0,s4,s6,cell_of q2,q3.row.len Tryz.underlying24,SS,eq_self,reduceIte,reduceCtorEq,Nat.reduceEqDiff,Nat.reduceAdd]
      refine CallH.by (pick_c q9 (by omega) (ps.length : Int) (by omega)) ?_
      rintro _ P ⟨⟨a,rfl,ha⟩,hCP,oP⟩
      have hal : a < ps.length := by omega
      have t2 := oP.2 gp _ (by omega) q2
      have t3 := q3.onlyP oP ho
      have t1 := oP.2 H.length _ (by omega) q1
      have t10 := q10.trans oP.keeps
      obtain ⟨H0,hp0,hb0⟩ : ∃ H0 : AH,H0 <+: P ∧ H0.length = H.length := ⟨P.take H.length,List.take_prefix _ _,by have := t10.1; simp; omega⟩
      have hm := q8 (ps.getD a (0,0)) (by simp [hal])
      obtain ⟨w3,K3,k1,k2,k3,k4,k5,k6⟩ := own1_24 (t3.rebase hb0) hp0 (by omega) (ps.getD a (0,0)).1 (ps.getD a (0,0)).2
      obtain ⟨q,hq⟩ := k2.row.shape
      have tt : w3.cells.toList = [w3] := by rw [hq]; rfl
      have lP := at_lt t2
      have kg := k4 gp _ (.inr fun e => q4 e.symm) t2
      have hst := st_at (P := Tryz.prog) (t := 24) (i := 1) (y := w3) cs24 kg (by show 1 < 2; decide) k6 tt
      simp (maxSteps := 1000000) (disch := omega) only [s6,cell_of t2,t3.row.ix Tryz.underlying24 cs53,Int.toNat_natCast,t3.row.ld ag53 cs53 hal,k1,hst,SS,eq_self,reduceIte,reduceCtorEq,Nat.reduceEqDiff,Nat.reduceAdd]
      have l3 : P.length ≤ K3.length := by
        obtain ⟨o3,z3,e1,e2,e3,_⟩ : ∃ o3 zs,w3 = .slice (some ⟨o3,0,none⟩) (ps ++ [((ps.getD a (0,0)).1,(ps.getD a (0,0)).2)]).length (ps ++ [((ps.getD a (0,0)).1,(ps.getD a (0,0)).2)]).length ∧ H0.length ≤ o3 ∧ K3[o3]? = some (.cells (ints zs) 53 false) ∧ True := by
          rcases k2 with ⟨_,e⟩ | ⟨o3,zs,e1,e2,e3,_⟩
          · simp at e
          · exact ⟨o3,zs,e1,e2,e3,trivial⟩
        have := at_lt e3
        rw [e1] at k5
        have k5' : P.length ≤ o3 := k5
        omega
      exact hc _ _ ⟨s4,s6,(GSt.put (M := 200 - 50) h ho hgp t1 t2 t3 q4 q5 k4 l3 (k2.rebase hb0.symm) (by omega) (.inl (by omega)) q6 (by simp; omega) (fun y hy => by
        rcases List.mem_append.1 hy with e | e
        · exact q8 y e
        · rw [List.mem_singleton] at e; rw [e]; exact hm) hCP t10).more (by omega) (by omega)⟩
    · have hz0 : ¬ (k : Int) = 0 := z0
      have hz1 : ¬ (k : Int) = 1 := z1
      have hz2 : ¬ (k : Int) = 2 := z2
      simp (maxSteps := 1000000) (disch := omega) only [decide_eq_false hz0,decide_eq_false hz1,decide_eq_false hz2,s0,s4,s6,SS,eq_self,reduceIte,reduceCtorEq,Nat.reduceEqDiff,Nat.reduceAdd]
      exact hc _ _ ⟨s4,s6,hGL.more (by omega) (by omega)⟩
  clear s0 s4 s6 hG s K
  rintro s K ⟨s4,s6,n1,w,ps,q1,q2,q3,q4,q5,q6,q7,q8,q9,q10⟩
  have hst := st_G q3.row q1 rfl n1
  simp (maxSteps := 1000000) (disch := omega) only [s4,s6,ld_agg ag26 cs26 q2,hst,SS,eq_self,reduceIte,reduceCtorEq,Nat.reduceEqDiff,Nat.reduceAdd]
  have d4 := at_set (d := .cells [.int .i64 n1,w] 26 false) q1
  have at_ : ∀ {j : Nat} {y : AObj},j ≠ H.length → K[j]? = some y → (K.set H.length (.cells [.int .i64 n1,w] 26 false))[j]? = some y := fun hj hy => by rw [List.getElem?_set_ne (fun e => hj e.symm)]; exact hy
  obtain ⟨a,sd,c1,c2,c3⟩ := q9.cur
  refine hQ _ _ _ (end_cell _ _ _ _ _ _ (.agg (List.toArray [.int .i64 n1,w])) ?_ rfl ⟨n1,w,ps,rfl,?_,q6,by omega,q8,⟨⟨a,sd,at_ (by omega) c1,by omega,c3⟩,q9.row.mono fun y hy => at_ ?_ hy,q9.byt,q9.ap,q9.le⟩,⟨by have := q10.1; simp; omega,fun j y hj hy => at_ (by have := at_lt hy; omega) (q10.2 j y hj hy)⟩⟩)
  · simp (maxSteps := 1000000) (disch := omega) only [s4,ld_agg ag26 cs26 d4,SS,eq_self,reduceIte,reduceCtorEq,Nat.reduceEqDiff,Nat.reduceAdd]
  · rcases q5 with e | e
    · exact q3.keep fun y hy => at_ e hy
    · rcases q3 with z | ⟨_,_,z,_⟩
      · exact .inl z
      · rw [z] at e; cases e
  · rcases h.row with q | ⟨o',k',vs',ro',e1,g2,_⟩
    · rw [q.1]
      show (0 : Nat) ≠ H.length
      omega
    · rw [e1]
      have := at_lt g2
      show o' ≠ H.length
      omega
end Go.Proofs.YtelafbennmclfaaGreat.Ai
namespace Go.Proofs.YtelafbennmclfaaGreat.Ai
open Go Go.RowKit
def alls (n : Nat) : List Int := (List.range n).map fun z : Nat => (z : Int)
theorem alls_len (n : Nat) : (alls n).length = n := by simp [alls]
theorem alls_mem (n : Nat) (z : Int) : z ∈ alls n ↔ 0 ≤ z ∧ z < n := by
  unfold alls
  rw [List.mem_map]
  constructor
  · rintro ⟨a,ha,rfl⟩
    have := List.mem_range.1 ha
    omega
  · rintro ⟨h1,h2⟩
    exact ⟨z.toNat,List.mem_range.2 (by omega),by omega⟩
theorem alls_srt (n : Nat) : (alls n).Pairwise (· < ·) := by
  unfold alls
  refine List.Pairwise.map _ ?_ List.pairwise_lt_range
  intro a b hab
  omega
def pmT (rec : List Int → List (List Int)) (b : List Int) : Nat → Nat → List (List Int)
  | 0,_ => []
  | d + 1,c => (if (c : Int) ∈ b then [] else rec (b ++ [(c : Int)])) ++ pmT rec b d (c + 1)
def pmG (n : Nat) : Nat → List Int → List (List Int)
  | 0 => fun b => [b]
  | f + 1 => fun b => pmT (pmG n f) b n 0
def pms (n : Nat) : List (List Int) := pmG n n []
theorem pmT_mem {rec : List Int → List (List Int)} {b q : List Int} {x : Nat} (hx : (x : Int) ∉ b) (hq : q ∈ rec (b ++ [(x : Int)])) : ∀ d c,c ≤ x → x < c + d → q ∈ pmT rec b d c
  | 0,c,h1,h2 => by omega
  | d + 1,c,h1,h2 => by
    simp only [pmT,List.mem_append]
    by_cases e : c = x
    · subst e; left; rw [if_neg hx]; exact hq
    · right; exact pmT_mem hx hq d (c + 1) (by omega) (by omega)
theorem pmG_mem (n : Nat) : ∀ (r b : List Int),(∀ x ∈ r,0 ≤ x ∧ x < n) → (b ++ r).Nodup → b ++ r ∈ pmG n r.length b
  | [],b,_,_ => by simp [pmG]
  | x :: r,b,hr,hn => by
    have hx := hr x (by simp)
    obtain ⟨k,rfl⟩ : ∃ k : Nat,x = k := ⟨x.toNat,by omega⟩
    have hp := List.pairwise_append.1 hn
    have hxb : (k : Int) ∉ b := fun h => hp.2.2 _ h _ (by simp) rfl
    have e : b ++ (k : Int) :: r = (b ++ [(k : Int)]) ++ r := by simp
    rw [e] at hn ⊢
    show _ ∈ pmT (pmG n r.length) b n 0
    exact pmT_mem hxb (pmG_mem n r (b ++ [(k : Int)]) (fun y hy => hr y (by simp [hy])) hn) n 0 (by omega) (by omega)
theorem allIn_le : ∀ (m : Nat) (l : List Int),(∀ z : Nat,z < m → (z : Int) ∈ l) → m ≤ l.length
  | 0,_,_ => Nat.zero_le _
  | m + 1,l,h => by
    have hm := h m (by omega)
    have := allIn_le m (l.erase (m : Int)) (fun z hz => (List.mem_erase_of_ne (by omega)).2 (h z (by omega)))
    rw [List.length_erase_of_mem hm] at this
    have : 0 < l.length := List.length_pos_of_mem hm
    omega
theorem erase_all {p : List Int} {m : Nat} (h : ∀ z : Nat,z < m → (z : Int) ∈ p) (hl : p.length = m) {j : Nat} (hj : j < p.length) (hd : ∀ z : Nat,z < m → (z : Int) = p[j] → (z : Int) ∈ p.take j ++ p.drop (j + 1)) : False := by
  have := allIn_le m (p.take j ++ p.drop (j + 1)) (fun z hz => by
    have hm := h z hz
    by_cases e : (z : Int) = p[j]
    · exact hd z hz e
    · have e2 : p = p.take j ++ p[j] :: p.drop (j + 1) := by rw [List.getElem_cons_drop]; exact (List.take_append_drop j p).symm
      rw [e2] at hm
      simp only [List.mem_append,List.mem_cons] at hm ⊢
      rcases hm with hm | hm | hm
      · exact .inl hm
      · exact absurd hm e
      · exact .inr hm)
  simp only [List.length_append,List.length_take,List.length_drop] at this
  omega
theorem prm_nodup {p : List Int} (h : Prm p) : p.Nodup := by
  rw [List.Nodup,List.pairwise_iff_getElem]
  intro i j hi hj hij e
  refine erase_all h.2 rfl hj (fun z hz ez => ?_)
  rw [ez,← e]
  refine List.mem_append.2 (.inl ?_)
  have : (p.take j)[i]'(by simp; omega) = p[i] := by simp
  rw [← this]; exact List.getElem_mem _
theorem prm_rng {p : List Int} (h : Prm p) : ∀ x ∈ p,0 ≤ x ∧ x < p.length := by
  intro x hx
  apply Decidable.byContradiction
  intro hn
  obtain ⟨j,hj,e⟩ := List.getElem_of_mem hx
  refine erase_all h.2 rfl hj (fun z hz ez => ?_)
  rw [e] at ez
  exact absurd ⟨by omega,by omega⟩ hn
theorem pms_mem {p : List Int} (h : Prm p) : p ∈ pms p.length := pmG_mem p.length p [] (prm_rng h) (by simpa using prm_nodup h)
def cdF : Int → List Int → Int
  | c,[] => c
  | c,x :: r => cdF (c * ((r.length : Int) + 1) + ((r.countP fun y => decide (y < x) : Nat) : Int)) r
def cod (p : List Int) : Int := cdF 0 p
def mny : Nat → Nat
  | 0 => 1
  | n + 1 => mny n * (n + 1)
def codOk (n : Nat) : Bool := decide ((pms n).map cod = (List.range (mny n)).map fun z : Nat => (z : Int))
theorem cod0 : codOk 0 = true := by decide +kernel
theorem cod1 : codOk 1 = true := by decide +kernel
theorem cod2 : codOk 2 = true := by decide +kernel
theorem cod3 : codOk 3 = true := by decide +kernel
theorem cod4 : codOk 4 = true := by decide +kernel
set_option maxRecDepth 20000 in
theorem cod5 : codOk 5 = true := by decide +kernel
set_option maxRecDepth 20000 in
theorem cod6 : codOk 6 = true := by decide +kernel
theorem cod_all {n : Nat} (hn : n ≤ 6) : (pms n).map cod = (List.range (mny n)).map fun z : Nat => (z : Int) := by
  have h : codOk n = true := by
    have : n = 0 ∨ n = 1 ∨ n = 2 ∨ n = 3 ∨ n = 4 ∨ n = 5 ∨ n = 6 := by omega
    rcases this with rfl | rfl | rfl | rfl | rfl | rfl | rfl
    · exact cod0
    · exact cod1
    · exact cod2
    · exact cod3
    · exact cod4
    · exact cod5
    · exact cod6
  exact of_decide_eq_true h
theorem mny_le {n : Nat} (hn : n ≤ 6) : 1 ≤ mny n ∧ mny n ≤ 720 := by
  have : n = 0 ∨ n = 1 ∨ n = 2 ∨ n = 3 ∨ n = 4 ∨ n = 5 ∨ n = 6 := by omega
  rcases this with rfl | rfl | rfl | rfl | rfl | rfl | rfl <;> decide
theorem inj_nd {α β : Type} {L : List α} {f : α → β} (h : (L.map f).Nodup) {a b : α} (ha : a ∈ L) (hb : b ∈ L) (e : f a = f b) : a = b := by
  obtain ⟨i,hi,ei⟩ := List.getElem_of_mem ha
  obtain ⟨j,hj,ej⟩ := List.getElem_of_mem hb
  rw [List.Nodup,List.pairwise_iff_getElem] at h
  rcases Nat.lt_trichotomy i j with hij | hij | hij
  · have := h i j (by simpa using hi) (by simpa using hj) hij
    simp only [List.getElem_map,ei,ej] at this
    exact absurd e this
  · subst hij; rw [← ei,← ej]
  · have := h j i (by simpa using hj) (by simpa using hi) hij
    simp only [List.getElem_map,ei,ej] at this
    exact absurd e.symm this
theorem range_nd (m : Nat) : ((List.range m).map fun z : Nat => (z : Int)).Nodup := by
  rw [List.Nodup,List.pairwise_map]
  exact List.nodup_range.imp fun h e => h (by omega)
theorem cod_rng {p : List Int} (h : Prm p) (hl : p.length ≤ 6) : 0 ≤ cod p ∧ cod p < mny p.length := by
  have hm : cod p ∈ (pms p.length).map cod := List.mem_map.2 ⟨p,pms_mem h,rfl⟩
  rw [cod_all hl,List.mem_map] at hm
  obtain ⟨z,hz,e⟩ := hm
  have := List.mem_range.1 hz
  omega
theorem cod_inj {p q : List Int} (hp : Prm p) (hq : Prm q) (hl : p.length ≤ 6) (e : p.length = q.length) (hc : cod p = cod q) : p = q := by
  refine inj_nd (L := pms p.length) (f := cod) ?_ (pms_mem hp) (by rw [e]; exact pms_mem hq) hc
  rw [cod_all hl]; exact range_nd _
def keyF : Int → List Int → Int
  | a,[] => a
  | a,x :: r => keyF (10 * a + x) r
def keyL (p : List Int) : Int := keyF 1 p
theorem keyF_inj : ∀ (p q : List Int) (a b : Int),p.length = q.length → (∀ x ∈ p,0 ≤ x ∧ x < 10) → (∀ x ∈ q,0 ≤ x ∧ x < 10) → keyF a p = keyF b q → a = b ∧ p = q
  | [],[],a,b,_,_,_,h => ⟨h,rfl⟩
  | x :: p,y :: q,a,b,hl,hp,hq,h => by
    have hx := hp x (by simp)
    have hy := hq y (by simp)
    obtain ⟨h1,h2⟩ := keyF_inj p q (10 * a + x) (10 * b + y) (by simpa using hl) (fun z hz => hp z (by simp [hz])) (fun z hz => hq z (by simp [hz])) h
    have : a = b ∧ x = y := by omega
    exact ⟨this.1,by rw [this.2,h2]⟩
theorem key_inj {p q : List Int} (hp : Prm p) (hq : Prm q) (e : p.length = q.length) (hk : keyL p = keyL q) : p = q := by
  have h1 := hp.1
  have h2 := hq.1
  exact (keyF_inj p q 1 1 e (fun x hx => by have := prm_rng hp x hx; omega) (fun x hx => by have := prm_rng hq x hx; omega) hk).2
def bdIn (d : Int) : List (List Int) → List (List Int × Int) → List (List Int × Int)
  | [],st => st
  | b :: r,st => bdIn d r (if b ∈ st.map (·.1) then st else st ++ [(b,d)])
def bdF (nx : List Int → List (List Int)) : Nat → List (List Int × Int) → Nat → List (List Int × Int)
  | 0,st,_ => st
  | f + 1,st,k => if k < st.length then bdF nx f (bdIn ((st.getD k ([],0)).2 + 1) (nx (st.getD k ([],0)).1) st) (k + 1) else st
def bdA (nx : List Int → List (List Int)) (p : List Int) : List (List Int × Int) := bdF nx 721 [(p,0)] 0
def Bd (n : Nat) (p : List Int) : Prop := Prm p ∧ p.length = n
structure BdI (n : Nat) (nx : List Int → List (List Int)) (p : List Int) (st : List (List Int × Int)) (k : Nat) : Prop where
  ok : ∀ e ∈ st,Bd n e.1
  nd : (st.map (·.1)).Nodup
  rng : ∀ e ∈ st,0 ≤ e.2 ∧ e.2 < st.length
  src : ∀ e ∈ st,e = (p,0) ∨ ∃ u ∈ st,e.1 ∈ nx u.1 ∧ e.2 = u.2 + 1
  cl : ∀ j,j < k → ∀ b ∈ nx (st.getD j ([],0)).1,b ∈ st.map (·.1)
  le : k ≤ st.length
  start : st.getD 0 ([],0) = (p,0) ∧ 0 < st.length
theorem nodupI_le : ∀ (n : Nat) (l : List Int),l.Nodup → (∀ x ∈ l,0 ≤ x ∧ x < n) → l.length ≤ n
  | 0,l,_,h => by
    cases l with
    | nil => simp
    | cons a l => have := h a (by simp); omega
  | n + 1,l,hn,h => by
    have := nodupI_le n (l.erase (n : Int)) (hn.erase _) (fun x hx => by
      have h1 := h x (List.mem_of_mem_erase hx)
      have h2 : x ≠ n := fun e => by subst e; exact (hn.not_mem_erase) hx
      omega)
    have h3 : l.length ≤ (l.erase (n : Int)).length + 1 := by rw [List.length_erase]; split <;> omega
    omega
theorem BdI.len_le {n : Nat} (hn : n ≤ 6) {nx : List Int → List (List Int)} {p : List Int} {st : List (List Int × Int)} {k : Nat} (h : BdI n nx p st k) : st.length ≤ mny n := by
  have := nodupI_le (mny n) ((st.map (·.1)).map cod) (by
    rw [List.Nodup,List.pairwise_map]
    refine List.Pairwise.imp_of_mem ?_ h.nd
    intro a b ha hb hab e
    obtain ⟨u,hu,rfl⟩ := List.mem_map.1 ha
    obtain ⟨v,hv,rfl⟩ := List.mem_map.1 hb
    have h1 := h.ok u hu
    have h2 := h.ok v hv
    exact hab (cod_inj h1.1 h2.1 (by rw [h1.2]; exact hn) (by rw [h1.2,h2.2]) e)) (fun x hx => by
    obtain ⟨a,ha,rfl⟩ := List.mem_map.1 hx
    obtain ⟨u,hu,rfl⟩ := List.mem_map.1 ha
    have h1 := h.ok u hu
    have := cod_rng h1.1 (by rw [h1.2]; exact hn)
    rw [h1.2] at this; exact this)
  simpa using this
theorem bdIn_pre (d : Int) : ∀ (l : List (List Int)) (st : List (List Int × Int)),st <+: bdIn d l st
  | [],st => List.prefix_refl _
  | b :: r,st => by
    simp only [bdIn]
    split
    · exact bdIn_pre d r st
    · exact (List.prefix_append _ _).trans (bdIn_pre d r _)
theorem bdIn_mem (d : Int) : ∀ (l : List (List Int)) (st : List (List Int × Int)) (e : List Int × Int),e ∈ bdIn d l st → e ∈ st ∨ (e.2 = d ∧ e.1 ∈ l)
  | [],st,e,h => .inl h
  | b :: r,st,e,h => by
    simp only [bdIn] at h
    rcases bdIn_mem d r _ e h with h1 | ⟨h1,h2⟩
    · split at h1
      · exact .inl h1
      · rcases List.mem_append.1 h1 with h1 | h1
        · exact .inl h1
        · simp only [List.mem_cons,List.not_mem_nil,or_false] at h1
          subst h1; exact .inr ⟨rfl,by simp⟩
    · exact .inr ⟨h1,by simp [h2]⟩
theorem bdIn_get (d : Int) : ∀ (l : List (List Int)) (st : List (List Int × Int)),∀ b ∈ l,b ∈ (bdIn d l st).map (·.1)
  | [],st,b,h => by simp at h
  | c :: r,st,b,h => by
    simp only [bdIn]
    rcases List.mem_cons.1 h with rfl | h
    · obtain ⟨t,ht⟩ := bdIn_pre d r (if b ∈ st.map (·.1) then st else st ++ [(b,d)])
      rw [← ht,List.map_append]
      refine List.mem_append.2 (.inl ?_)
      split
      · assumption
      · simp
    · exact bdIn_get d r _ b h
theorem bdIn_nd (d : Int) : ∀ (l : List (List Int)) (st : List (List Int × Int)),(st.map (·.1)).Nodup → ((bdIn d l st).map (·.1)).Nodup
  | [],st,h => h
  | b :: r,st,h => by
    simp only [bdIn]
    refine bdIn_nd d r _ ?_
    split
    · exact h
    · rename_i hb
      rw [List.map_append,List.Nodup,List.pairwise_append]
      refine ⟨h,by simp,fun x hx y hy e => ?_⟩
      simp only [List.map_cons,List.map_nil,List.mem_cons,List.not_mem_nil,or_false] at hy
      subst hy; subst e; exact hb hx
theorem BdI.step {n : Nat} {nx : List Int → List (List Int)} (hnx : ∀ b,Bd n b → ∀ c ∈ nx b,Bd n c) {p : List Int} {st : List (List Int × Int)} {k : Nat} (h : BdI n nx p st k) (hk : k < st.length) :
    BdI n nx p (bdIn ((st.getD k ([],0)).2 + 1) (nx (st.getD k ([],0)).1) st) (k + 1) := by
  have hm : st.getD k ([],0) ∈ st := by simp [hk]
  generalize hu : st.getD k ([],0) = u at *
  have hpre := bdIn_pre (u.2 + 1) (nx u.1) st
  have hle := hpre.length_le
  have keep : ∀ j,j < st.length → (bdIn (u.2 + 1) (nx u.1) st).getD j ([],0) = st.getD j ([],0) := by
    intro j hj
    obtain ⟨t,ht⟩ := hpre
    rw [← ht,List.getD_eq_getElem?_getD,List.getElem?_append_left hj,← List.getD_eq_getElem?_getD]
  have hku := h.rng u hm
  have hgrow : ∀ e ∈ bdIn (u.2 + 1) (nx u.1) st,e ∉ st → st.length < (bdIn (u.2 + 1) (nx u.1) st).length := by
    intro e he hn
    obtain ⟨t,ht⟩ := hpre
    rw [← ht] at he ⊢
    rcases List.mem_append.1 he with h1 | h1
    · exact absurd h1 hn
    · rw [List.length_append]
      have := List.length_pos_of_mem h1
      omega
  refine ⟨?_,bdIn_nd _ _ _ h.nd,?_,?_,?_,by omega,?_⟩
  · intro e he
    rcases bdIn_mem _ _ _ e he with h1 | ⟨_,h2⟩
    · exact h.ok e h1
    · exact hnx u.1 (h.ok u hm) _ h2
  · intro e he
    by_cases h1 : e ∈ st
    · have := h.rng e h1; omega
    · have := hgrow e he h1
      rcases bdIn_mem _ _ _ e he with h3 | ⟨h3,_⟩
      · exact absurd h3 h1
      · omega
  · intro e he
    rcases bdIn_mem _ _ _ e he with h1 | ⟨h1,h2⟩
    · rcases h.src e h1 with h3 | ⟨v,h3,h4⟩
      · exact .inl h3
      · exact .inr ⟨v,hpre.subset h3,h4⟩
    · exact .inr ⟨u,hpre.subset hm,h2,h1⟩
  · intro j hj b hb
    rw [keep j (by omega)] at hb
    by_cases e : j = k
    · subst e; rw [hu] at hb
      exact bdIn_get _ _ _ b hb
    · have := h.cl j (by omega) b hb
      obtain ⟨e,h1,h2⟩ := List.mem_map.1 this
      exact List.mem_map.2 ⟨e,hpre.subset h1,h2⟩
  · exact ⟨by rw [keep 0 h.start.2]; exact h.start.1,by have := h.start.2; omega⟩
theorem BdI.zero {n : Nat} {nx : List Int → List (List Int)} {p : List Int} (hp : Bd n p) : BdI n nx p [(p,0)] 0 := by
  refine ⟨fun e he => ?_,by simp,fun e he => ?_,fun e he => .inl (by simpa using he),fun j hj => absurd hj (Nat.not_lt_zero j),Nat.zero_le _,⟨rfl,by simp⟩⟩
  · simp only [List.mem_cons,List.not_mem_nil,or_false] at he
    subst he; exact hp
  · simp only [List.mem_cons,List.not_mem_nil,or_false] at he
    subst he; simp
theorem bdF_run {n : Nat} (hn : n ≤ 6) {nx : List Int → List (List Int)} (hnx : ∀ b,Bd n b → ∀ c ∈ nx b,Bd n c) {p : List Int} : ∀ (f : Nat) (st : List (List Int × Int)) (k : Nat),mny n < f + k → BdI n nx p st k → BdI n nx p (bdF nx f st k) (bdF nx f st k).length
  | 0,st,k,hf,h => by have := h.len_le hn; have := h.le; omega
  | f + 1,st,k,hf,h => by
    simp only [bdF]
    split
    · rename_i hk
      exact bdF_run hn hnx f _ _ (by omega) (h.step hnx hk)
    · have e : k = st.length := by have := h.le; omega
      rw [← e]; exact h
theorem bdA_I {n : Nat} (hn : n ≤ 6) {nx : List Int → List (List Int)} (hnx : ∀ b,Bd n b → ∀ c ∈ nx b,Bd n c) {p : List Int} (hp : Bd n p) : BdI n nx p (bdA nx p) (bdA nx p).length :=
  bdF_run hn hnx 721 _ 0 (by have := mny_le hn; omega) (BdI.zero hp)
theorem bdF_done (nx : List Int → List (List Int)) (f : Nat) (st : List (List Int × Int)) (k : Nat) (h : st.length ≤ k) : bdF nx f st k = st := by
  cases f with
  | zero => rfl
  | succ f => simp only [bdF]; rw [if_neg (by omega)]
theorem bdF_step (nx : List Int → List (List Int)) (f : Nat) (st : List (List Int × Int)) (k : Nat) (h : k < st.length) : bdF nx (f + 1) st k = bdF nx f (bdIn ((st.getD k ([],0)).2 + 1) (nx (st.getD k ([],0)).1) st) (k + 1) := by
  simp only [bdF]; rw [if_pos h]
theorem bdIn_drop (d : Int) (l : List (List Int)) (j : Nat) (hj : j < l.length) (st : List (List Int × Int)) : bdIn d (l.drop j) st = bdIn d (l.drop (j + 1)) (if l.getD j [] ∈ st.map (·.1) then st else st ++ [(l.getD j [],d)]) := by
  have e : l.getD j [] = l[j] := by simp [hj]
  rw [List.drop_eq_getElem_cons hj,e]
  rfl
def bdD (st : List (List Int × Int)) (b : List Int) : Option Int := (st.find? fun e => decide (e.1 = b)).map (·.2)
theorem bdD_some {st : List (List Int × Int)} (hn : (st.map (·.1)).Nodup) {e : List Int × Int} (he : e ∈ st) : bdD st e.1 = some e.2 := by
  unfold bdD
  induction st with
  | nil => simp at he
  | cons x st ih =>
    rw [List.find?_cons]
    have hx := List.pairwise_cons.1 (by simpa using hn : (x.1 :: st.map (·.1)).Nodup)
    rcases List.mem_cons.1 he with rfl | he
    · simp
    · have : ¬ x.1 = e.1 := hx.1 e.1 (List.mem_map.2 ⟨e,he,rfl⟩)
      rw [decide_eq_false this]
      exact ih hx.2 he
theorem bdD_none {st : List (List Int × Int)} {b : List Int} (h : b ∉ st.map (·.1)) : bdD st b = none := by
  unfold bdD
  have : st.find? (fun e => decide (e.1 = b)) = none := by
    rw [List.find?_eq_none]
    intro e he
    simp only [decide_eq_true_eq]
    exact fun g => h (List.mem_map.2 ⟨e,he,g⟩)
  rw [this]; rfl
theorem bdD_mem {st : List (List Int × Int)} {b : List Int} {d : Int} (h : bdD st b = some d) : (b,d) ∈ st := by
  unfold bdD at h
  cases hf : st.find? (fun e => decide (e.1 = b)) with
  | none => rw [hf] at h; cases h
  | some e =>
    rw [hf] at h
    have h1 := List.find?_some hf
    have h2 := List.mem_of_find?_eq_some hf
    simp only [decide_eq_true_eq] at h1
    simp only [Option.map_some,Option.some.injEq] at h
    rw [← h1,← h]; exact h2
def ords112 : List (Nat × List (Nat × Bool)) := []
def cd112 : Cd := (.seq (.reg [⟨⟨some 4,Op.alloc 53,none⟩,[]⟩]) (.seq (.reg [⟨⟨some 5,Op.move (Operand.tmp 0),none⟩,[]⟩,
  ⟨⟨some 6,Op.move (Operand.tmp 1),none⟩,[]⟩,
  ⟨⟨some 7,Op.call { callee := (Callee.builtin Builtin.min),args := #[(Operand.tmp 5),(Operand.tmp 6)],argTypes := #[3,3] },none⟩,[]⟩,
  ⟨⟨some 8,Op.move (Operand.tmp 0),none⟩,[]⟩,
  ⟨⟨some 9,Op.move (Operand.tmp 1),none⟩,[]⟩,
  ⟨⟨some 10,Op.call { callee := (Callee.builtin Builtin.max),args := #[(Operand.tmp 8),(Operand.tmp 9)],argTypes := #[3,3] },none⟩,[]⟩,
  ⟨⟨some 11,Op.build 53 #[(0,(Operand.tmp 7)),(1,(Operand.tmp 10))],none⟩,[]⟩,
  ⟨⟨none,Op.store 53 (Operand.tmp 4) (Operand.tmp 11),none⟩,[]⟩]) .ret))
theorem sl112 : slim Tryz.f112.ntmps ords112 (Tryz.f112.body.getD .skip) = some cd112 := by kernel_rfl
set_option maxRecDepth 20000 in
theorem in112 {args : List Value} {H : AH} {R : Value → AH → Prop} (hl : args.length = 2) (h : ∀ (Q : Exit → Sl → AH → Prop),(∀ e s H,endA Tryz.prog [ResultVar.cell 4 53] R e s H → Q e s H) → wpC Tryz.prog cd112 Q (enterA args) H) : ACalls Tryz.prog 112 args H R :=
  ACalls.intro (by kernel_rfl) Tryz.func112 rfl (by kernel_rfl) sl112 hl (of_decide_eq_true (by kernel_rfl)) (by kernel_rfl) h
end Go.Proofs.YtelafbennmclfaaGreat.Ai
namespace Go.Proofs.YtelafbennmclfaaGreat.Ai
open Go Go.RowKit
theorem pair_c (a b : Int) (H : AH) : ACalls Tryz.prog 112 [.int .i64 a,.int .i64 b] H fun r H' => r = .agg (List.toArray [.int .i64 (minI a b),.int .i64 (maxI a b)]) ∧ H <+: H' := by
  refine in112 rfl ?_
  intro Q hQ
  have st := store_a2 H [.int .i64 0,.int .i64 0] rfl
  simp (maxSteps := 1000000) (disch := omega) only [cd112,alloc_a2,build_a2,st,SS,eq_self,reduceIte,reduceCtorEq,Nat.reduceEqDiff,Nat.reduceAdd]
  refine hQ _ _ _ (end_cell _ _ _ _ _ _ (.agg (List.toArray [.int .i64 (minI a b),.int .i64 (maxI a b)])) ?_ rfl ⟨rfl,List.prefix_append _ _⟩)
  simp only [SS,eq_self,reduceIte,reduceCtorEq,Nat.reduceEqDiff,Nat.reduceAdd]
  exact load_a2 ..
def ords128 : List (Nat × List (Nat × Bool)) := [(4,[(0,false),(1,false),(2,false),(3,false),(4,false),(5,false)])]
def cd128 : Cd := (.seq (.reg [⟨⟨some 3,Op.box 53 (Operand.tmp 1),none⟩,[]⟩,
  ⟨⟨some 4,Op.assign (Operand.const (Value.int IntKind.i64 0)),none⟩,[]⟩]) (.seq (.seq (.reg [⟨⟨some 6,Op.move (Operand.tmp 0),none⟩,[]⟩,
  ⟨⟨some 7,Op.call { callee := (Callee.builtin Builtin.len),args := #[(Operand.tmp 6)],argTypes := #[24] },none⟩,[]⟩,
  ⟨⟨some 8,Op.move (Operand.const (Value.int IntKind.i64 0)),none⟩,[]⟩]) (.block 0 (.loop (.seq (.reg [⟨⟨some 9,Op.binOp BinOp.lss 3 (Operand.tmp 8) (Operand.tmp 7) 3,none⟩,[]⟩]) (.seq (.cond (Operand.tmp 9) .skip (.exit 0)) (.seq (.block 1 (.seq (.reg [⟨⟨some 10,Op.move (Operand.tmp 8),none⟩,[]⟩,
  ⟨⟨some 5,Op.assign (Operand.tmp 10),none⟩,[]⟩]) (.seq (.reg [⟨⟨some 11,Op.load 53 (Operand.tmp 3),none⟩,[]⟩,
  ⟨⟨some 12,Op.move (Operand.tmp 0),none⟩,[]⟩,
  ⟨⟨some 13,Op.move (Operand.tmp 5),none⟩,[]⟩,
  ⟨⟨some 14,Op.indexAddr 24 (Operand.tmp 12) (Operand.tmp 13),none⟩,[]⟩,
  ⟨⟨some 15,Op.load 53 (Operand.tmp 14),none⟩,[]⟩,
  ⟨⟨some 16,Op.binOp BinOp.eql 53 (Operand.tmp 11) (Operand.tmp 15) 53,none⟩,[]⟩]) (.cond (Operand.tmp 16) (.seq (.reg [⟨⟨some 17,Op.move (Operand.tmp 5),none⟩,[]⟩,
  ⟨⟨some 4,Op.assign (Operand.tmp 17),none⟩,[]⟩]) .ret) .skip)))) (.reg [⟨⟨some 18,Op.binOp BinOp.add 3 (Operand.tmp 8) (Operand.const (Value.int IntKind.i64 1)) 3,none⟩,[]⟩,
  ⟨⟨some 8,Op.move (Operand.tmp 18),none⟩,[]⟩]))))))) (.seq (.reg [⟨⟨some 4,Op.assign (Operand.const (Value.int IntKind.i64 (-1))),none⟩,[]⟩]) .ret)))
theorem sl128 : slim Tryz.f128.ntmps ords128 (Tryz.f128.body.getD .skip) = some cd128 := by kernel_rfl
theorem in128 {args : List Value} {H : AH} {R : Value → AH → Prop} (hl : args.length = 2) (h : ∀ (Q : Exit → Sl → AH → Prop),(∀ e s H,endA Tryz.prog [ResultVar.tmp 4] R e s H → Q e s H) → wpC Tryz.prog cd128 Q (enterA args) H) : ACalls Tryz.prog 128 args H R :=
  ACalls.intro (by kernel_rfl) Tryz.func128 rfl (by kernel_rfl) sl128 hl (of_decide_eq_true (by kernel_rfl)) (by kernel_rfl) h
def ords111 : List (Nat × List (Nat × Bool)) := []
def cd111 : Cd := (.seq (.reg [⟨⟨some 3,Op.box 53 (Operand.tmp 1),none⟩,[]⟩,
  ⟨⟨some 4,Op.assign (Operand.const (Value.bool false)),none⟩,[]⟩]) (.seq (.reg [⟨⟨some 5,Op.move (Operand.tmp 0),none⟩,[]⟩,
  ⟨⟨some 6,Op.load 53 (Operand.tmp 3),none⟩,[]⟩,
  ⟨⟨some 7,Op.call { callee := (Callee.value (Operand.func 128)),args := #[(Operand.tmp 5),(Operand.tmp 6)],argTypes := #[24,53] },none⟩,[]⟩,
  ⟨⟨some 8,Op.binOp BinOp.geq 3 (Operand.tmp 7) (Operand.const (Value.int IntKind.i64 0)) 3,none⟩,[]⟩,
  ⟨⟨some 4,Op.assign (Operand.tmp 8),none⟩,[]⟩]) .ret))
theorem sl111 : slim Tryz.f111.ntmps ords111 (Tryz.f111.body.getD .skip) = some cd111 := by kernel_rfl
theorem in111 {args : List Value} {H : AH} {R : Value → AH → Prop} (hl : args.length = 2) (h : ∀ (Q : Exit → Sl → AH → Prop),(∀ e s H,endA Tryz.prog [ResultVar.tmp 4] R e s H → Q e s H) → wpC Tryz.prog cd111 Q (enterA args) H) : ACalls Tryz.prog 111 args H R :=
  ACalls.intro (by kernel_rfl) Tryz.func111 rfl (by kernel_rfl) sl111 hl (of_decide_eq_true (by kernel_rfl)) (by kernel_rfl) h
def ords79 : List (Nat × List (Nat × Bool)) := [(1,[(0,false),(1,false),(2,false),(3,false),(4,true),(5,true),(6,false)])]
def cd79 : Cd := (.seq (.reg [⟨⟨some 3,Op.box 26 (Operand.tmp 0),none⟩,[]⟩,
  ⟨⟨some 6,Op.assign (Operand.const (Value.bool false)),none⟩,[]⟩]) (.seq (.reg [⟨⟨some 7,Op.fieldAddr 26 (Operand.tmp 3) 1,none⟩,[]⟩,
  ⟨⟨some 8,Op.load 24 (Operand.tmp 7),none⟩,[]⟩,
  ⟨⟨some 9,Op.move (Operand.tmp 1),none⟩,[]⟩,
  ⟨⟨some 10,Op.move (Operand.tmp 2),none⟩,[]⟩,
  ⟨⟨some 11,Op.call { callee := (Callee.value (Operand.func 112)),args := #[(Operand.tmp 9),(Operand.tmp 10)],argTypes := #[3,3] },none⟩,[⟨some 8,Op.load 24 (Operand.tmp 7),none⟩]⟩,
  ⟨⟨some 12,Op.call { callee := (Callee.value (Operand.func 111)),args := #[(Operand.tmp 8),(Operand.tmp 11)],argTypes := #[24,53] },none⟩,[]⟩,
  ⟨⟨some 6,Op.assign (Operand.tmp 12),none⟩,[]⟩]) .ret))
theorem sl79 : slim Tryz.f79.ntmps ords79 (Tryz.f79.body.getD .skip) = some cd79 := by kernel_rfl
theorem in79 {args : List Value} {H : AH} {R : Value → AH → Prop} (hl : args.length = 3) (h : ∀ (Q : Exit → Sl → AH → Prop),(∀ e s H,endA Tryz.prog [ResultVar.tmp 6] R e s H → Q e s H) → wpC Tryz.prog cd79 Q (enterA args) H) : ACalls Tryz.prog 79 args H R :=
  ACalls.intro (by kernel_rfl) Tryz.func79 rfl (by kernel_rfl) sl79 hl (of_decide_eq_true (by kernel_rfl)) (by kernel_rfl) h
def ords58 : List (Nat × List (Nat × Bool)) := []
def cd58 : Cd := (.seq (.reg [⟨⟨some 3,Op.box 26 (Operand.tmp 0),none⟩,[]⟩,
  ⟨⟨some 6,Op.assign (Operand.const (Value.bool false)),none⟩,[]⟩]) (.seq (.seq (.reg [⟨⟨some 7,Op.assign (Operand.const (Value.int IntKind.i64 0)),none⟩,[]⟩]) (.block 0 (.loop (.seq (.seq (.reg [⟨⟨some 9,Op.move (Operand.tmp 7),none⟩,[]⟩,
  ⟨⟨some 10,Op.fieldAddr 26 (Operand.tmp 3) 1,none⟩,[]⟩,
  ⟨⟨some 11,Op.load 24 (Operand.tmp 10),none⟩,[]⟩,
  ⟨⟨some 12,Op.call { callee := (Callee.builtin Builtin.len),args := #[(Operand.tmp 11)],argTypes := #[24] },none⟩,[]⟩,
  ⟨⟨some 13,Op.binOp BinOp.lss 3 (Operand.tmp 9) (Operand.tmp 12) 3,none⟩,[]⟩]) (.cond (Operand.tmp 13) .skip (.exit 0))) (.seq (.block 1 (.seq (.reg [⟨⟨some 16,Op.fieldAddr 26 (Operand.tmp 3) 1,none⟩,[]⟩,
  ⟨⟨some 17,Op.load 24 (Operand.tmp 16),none⟩,[]⟩,
  ⟨⟨some 18,Op.move (Operand.tmp 7),none⟩,[]⟩,
  ⟨⟨some 19,Op.indexAddr 24 (Operand.tmp 17) (Operand.tmp 18),none⟩,[]⟩,
  ⟨⟨some 20,Op.load 53 (Operand.tmp 19),none⟩,[]⟩,
  ⟨⟨some 8,Op.alloc 53,none⟩,[]⟩,
  ⟨⟨none,Op.store 53 (Operand.tmp 8) (Operand.tmp 20),none⟩,[]⟩]) (.seq (.reg [⟨⟨some 21,Op.indexAddr 53 (Operand.tmp 8) (Operand.const (Value.int IntKind.i64 0)),none⟩,[]⟩,
  ⟨⟨some 22,Op.load 3 (Operand.tmp 21),none⟩,[]⟩,
  ⟨⟨some 23,Op.move (Operand.tmp 1),none⟩,[]⟩,
  ⟨⟨some 24,Op.binOp BinOp.eql 3 (Operand.tmp 22) (Operand.tmp 23) 3,none⟩,[]⟩,
  ⟨⟨some 25,Op.move (Operand.tmp 24),none⟩,[]⟩,
  ⟨⟨some 26,Op.indexAddr 53 (Operand.tmp 8) (Operand.const (Value.int IntKind.i64 1)),some (25,true)⟩,[]⟩,
  ⟨⟨some 27,Op.load 3 (Operand.tmp 26),some (25,true)⟩,[]⟩,
  ⟨⟨some 28,Op.move (Operand.tmp 2),some (25,true)⟩,[]⟩,
  ⟨⟨some 29,Op.binOp BinOp.eql 3 (Operand.tmp 27) (Operand.tmp 28) 3,some (25,true)⟩,[]⟩,
  ⟨⟨some 30,Op.pick (Operand.tmp 25) (Operand.tmp 29) (Operand.const (Value.bool false)),none⟩,[]⟩,
  ⟨⟨some 31,Op.move (Operand.tmp 30),none⟩,[]⟩,
  ⟨⟨some 32,Op.indexAddr 53 (Operand.tmp 8) (Operand.const (Value.int IntKind.i64 0)),some (31,false)⟩,[]⟩,
  ⟨⟨some 33,Op.load 3 (Operand.tmp 32),some (31,false)⟩,[]⟩,
  ⟨⟨some 34,Op.move (Operand.tmp 2),some (31,false)⟩,[]⟩,
  ⟨⟨some 35,Op.binOp BinOp.eql 3 (Operand.tmp 33) (Operand.tmp 34) 3,some (31,false)⟩,[]⟩,
  ⟨⟨some 36,Op.move (Operand.tmp 35),some (31,false)⟩,[]⟩,
  ⟨⟨some 37,Op.indexAddr 53 (Operand.tmp 8) (Operand.const (Value.int IntKind.i64 1)),some (36,true)⟩,[]⟩,
  ⟨⟨some 38,Op.load 3 (Operand.tmp 37),some (36,true)⟩,[]⟩,
  ⟨⟨some 39,Op.move (Operand.tmp 1),some (36,true)⟩,[]⟩,
  ⟨⟨some 40,Op.binOp BinOp.eql 3 (Operand.tmp 38) (Operand.tmp 39) 3,some (36,true)⟩,[]⟩,
  ⟨⟨some 41,Op.pick (Operand.tmp 36) (Operand.tmp 40) (Operand.const (Value.bool false)),some (31,false)⟩,[]⟩,
  ⟨⟨some 42,Op.pick (Operand.tmp 31) (Operand.const (Value.bool true)) (Operand.tmp 41),none⟩,[]⟩]) (.cond (Operand.tmp 42) (.seq (.reg [⟨⟨some 6,Op.assign (Operand.const (Value.bool true)),none⟩,[]⟩]) .ret) .skip)))) (.reg [⟨⟨some 14,Op.move (Operand.tmp 7),none⟩,[]⟩,
  ⟨⟨some 15,Op.binOp BinOp.add 3 (Operand.tmp 14) (Operand.const (Value.int IntKind.i64 1)) 3,none⟩,[]⟩,
  ⟨⟨some 7,Op.assign (Operand.tmp 15),none⟩,[]⟩])))))) (.seq (.reg [⟨⟨some 6,Op.assign (Operand.const (Value.bool false)),none⟩,[]⟩]) .ret)))
theorem sl58 : slim Tryz.f58.ntmps ords58 (Tryz.f58.body.getD .skip) = some cd58 := by kernel_rfl
theorem in58 {args : List Value} {H : AH} {R : Value → AH → Prop} (hl : args.length = 3) (h : ∀ (Q : Exit → Sl → AH → Prop),(∀ e s H,endA Tryz.prog [ResultVar.tmp 6] R e s H → Q e s H) → wpC Tryz.prog cd58 Q (enterA args) H) : ACalls Tryz.prog 58 args H R :=
  ACalls.intro (by kernel_rfl) Tryz.func58 rfl (by kernel_rfl) sl58 hl (of_decide_eq_true (by kernel_rfl)) (by kernel_rfl) h
def ords91 : List (Nat × List (Nat × Bool)) := []
def cd91 : Cd := (.seq (.reg [⟨⟨some 2,Op.box 26 (Operand.tmp 0),none⟩,[]⟩,
  ⟨⟨some 4,Op.assign (Operand.const (Value.slice none 0 0)),none⟩,[]⟩]) (.seq (.reg [⟨⟨some 7,Op.buildSlice 27 0 #[],none⟩,[]⟩,
  ⟨⟨some 5,Op.assign (Operand.tmp 7),none⟩,[]⟩]) (.seq (.seq (.reg [⟨⟨some 8,Op.fieldAddr 26 (Operand.tmp 2) 0,none⟩,[]⟩,
  ⟨⟨some 9,Op.load 3 (Operand.tmp 8),none⟩,[]⟩,
  ⟨⟨some 10,Op.move (Operand.const (Value.int IntKind.i64 0)),none⟩,[]⟩]) (.block 0 (.loop (.seq (.reg [⟨⟨some 11,Op.binOp BinOp.lss 3 (Operand.tmp 10) (Operand.tmp 9) 3,none⟩,[]⟩]) (.seq (.cond (Operand.tmp 11) .skip (.exit 0)) (.seq (.block 1 (.seq (.reg [⟨⟨some 12,Op.move (Operand.tmp 10),none⟩,[]⟩,
  ⟨⟨some 6,Op.assign (Operand.tmp 12),none⟩,[]⟩]) (.seq (.reg [⟨⟨some 13,Op.move (Operand.tmp 6),none⟩,[]⟩,
  ⟨⟨some 14,Op.move (Operand.tmp 1),none⟩,[]⟩,
  ⟨⟨some 15,Op.binOp BinOp.neq 3 (Operand.tmp 13) (Operand.tmp 14) 3,none⟩,[]⟩,
  ⟨⟨some 16,Op.move (Operand.tmp 15),none⟩,[]⟩,
  ⟨⟨some 17,Op.load 26 (Operand.tmp 2),some (16,true)⟩,[]⟩,
  ⟨⟨some 18,Op.move (Operand.tmp 1),some (16,true)⟩,[]⟩,
  ⟨⟨some 19,Op.move (Operand.tmp 6),some (16,true)⟩,[]⟩,
  ⟨⟨some 20,Op.call { callee := (Callee.value (Operand.func 79)),args := #[(Operand.tmp 17),(Operand.tmp 18),(Operand.tmp 19)],argTypes := #[26,3,3] },some (16,true)⟩,[]⟩,
  ⟨⟨some 21,Op.pick (Operand.tmp 16) (Operand.tmp 20) (Operand.const (Value.bool false)),none⟩,[]⟩]) (.cond (Operand.tmp 21) (.reg [⟨⟨some 22,Op.move (Operand.tmp 5),none⟩,[]⟩,
  ⟨⟨some 23,Op.move (Operand.tmp 6),none⟩,[]⟩,
  ⟨⟨some 24,Op.buildSlice 27 1 #[(0,(Operand.tmp 23))],none⟩,[]⟩,
  ⟨⟨some 25,Op.call { callee := (Callee.builtin Builtin.append),args := #[(Operand.tmp 22),(Operand.tmp 24)],argTypes := #[27,27] },none⟩,[]⟩,
  ⟨⟨some 5,Op.assign (Operand.tmp 25),none⟩,[]⟩]) .skip)))) (.reg [⟨⟨some 26,Op.binOp BinOp.add 3 (Operand.tmp 10) (Operand.const (Value.int IntKind.i64 1)) 3,none⟩,[]⟩,
  ⟨⟨some 10,Op.move (Operand.tmp 26),none⟩,[]⟩]))))))) (.seq (.reg [⟨⟨some 27,Op.move (Operand.tmp 5),none⟩,[]⟩,
  ⟨⟨some 4,Op.assign (Operand.tmp 27),none⟩,[]⟩]) .ret))))
theorem sl91 : slim Tryz.f91.ntmps ords91 (Tryz.f91.body.getD .skip) = some cd91 := by kernel_rfl
theorem in91 {args : List Value} {H : AH} {R : Value → AH → Prop} (hl : args.length = 2) (h : ∀ (Q : Exit → Sl → AH → Prop),(∀ e s H,endA Tryz.prog [ResultVar.tmp 4] R e s H → Q e s H) → wpC Tryz.prog cd91 Q (enterA args) H) : ACalls Tryz.prog 91 args H R :=
  ACalls.intro (by kernel_rfl) Tryz.func91 rfl (by kernel_rfl) sl91 hl (of_decide_eq_true (by kernel_rfl)) (by kernel_rfl) h
end Go.Proofs.YtelafbennmclfaaGreat.Ai
namespace Go.Proofs.YtelafbennmclfaaGreat.Ai
open Go Go.RowKit
def hitB (a b : Int) (e : Int × Int) : Bool := decide (e.1 = a ∧ e.2 = b ∨ e.1 = b ∧ e.2 = a)
def nearB (es : List (Int × Int)) (a b : Int) : Bool := es.any (hitB a b)
theorem any_step {α : Type} (p : α → Bool) (xs : List α) (d : α) (i : Nat) (hi : i < xs.length) : (xs.drop i).any p = (p (xs.getD i d) || (xs.drop (i + 1)).any p) := by
  have : xs.getD i d = xs[i] := by simp [hi]
  rw [List.drop_eq_getElem_cons hi,List.any_cons,this]
theorem nearB_comm (es : List (Int × Int)) (a b : Int) : nearB es a b = nearB es b a := by
  have : hitB a b = hitB b a := by
    funext e
    unfold hitB
    rw [decide_eq_decide]
    exact ⟨fun h => h.elim .inr .inl,fun h => h.elim .inr .inl⟩
  unfold nearB
  rw [this]
theorem nearB_iff (es : List (Int × Int)) (a b : Int) : nearB es a b = true ↔ ((a,b) ∈ es ∨ (b,a) ∈ es) := by
  unfold nearB hitB
  rw [List.any_eq_true]
  constructor
  · rintro ⟨⟨x,y⟩,hm,h⟩
    rcases of_decide_eq_true h with h | h
    · obtain ⟨h1,h2⟩ := h
      simp only at h1 h2
      subst h1; subst h2; exact .inl hm
    · obtain ⟨h1,h2⟩ := h
      simp only at h1 h2
      subst h1; subst h2; exact .inr hm
  · rintro (h | h)
    · exact ⟨_,h,by simp⟩
    · exact ⟨_,h,by simp⟩
theorem grd_mem {n : Int} {es : List (Int × Int)} (hg : Grd n es) {e : Int × Int} (he : e ∈ es) : 0 ≤ e.1 ∧ e.1 < e.2 ∧ e.2 < n := by
  obtain ⟨i,hi,rfl⟩ := List.mem_iff_getElem.1 he
  obtain ⟨h1,h2,h3,_⟩ := hg.2 i hi
  have : es.getD i (0,0) = es[i] := by simp [hi]
  rw [this] at h1 h2 h3
  exact ⟨h1,h2,h3⟩
theorem near_rng {n : Int} {es : List (Int × Int)} (hg : Grd n es) {a b : Int} (h : nearB es a b = true) : (0 ≤ a ∧ a < n) ∧ (0 ≤ b ∧ b < n) ∧ a ≠ b := by
  rcases (nearB_iff es a b).1 h with h | h <;> have := grd_mem hg h <;> simp only at this <;> omega
theorem near_has {n : Int} {es : List (Int × Int)} (hg : Grd n es) (a b : Int) (hab : b ≠ a) : decide ((minI a b,maxI a b) ∈ es) = nearB es a b := by
  rw [Bool.eq_iff_iff,decide_eq_true_iff,nearB_iff]
  by_cases h : a ≤ b
  · have e1 : minI a b = a := by unfold minI; split <;> omega
    have e2 : maxI a b = b := by unfold maxI; split <;> omega
    rw [e1,e2]
    exact ⟨.inl,fun h' => h'.resolve_right fun h'' => by have := grd_mem hg h''; simp only at this; omega⟩
  · have e1 : minI a b = b := by unfold minI; split <;> omega
    have e2 : maxI a b = a := by unfold maxI; split <;> omega
    rw [e1,e2]
    exact ⟨.inr,fun h' => h'.resolve_left fun h'' => by have := grd_mem hg h''; simp only at this; omega⟩
def nbsU (es : List (Int × Int)) (x : Int) : Nat → List Int
  | 0 => []
  | k + 1 => nbsU es x k ++ if nearB es x k = true then [(k : Int)] else []
theorem nbsU_len (es : List (Int × Int)) (x : Int) (k : Nat) : (nbsU es x k).length ≤ k := by
  induction k with
  | zero => simp [nbsU]
  | succ k ih => simp only [nbsU,List.length_append]; split <;> simp <;> omega
theorem nbsU_mem (es : List (Int × Int)) (x : Int) (k : Nat) (y : Int) : y ∈ nbsU es x k ↔ (0 ≤ y ∧ y < k) ∧ nearB es x y = true := by
  induction k with
  | zero => simp [nbsU]; intro h1 h2; omega
  | succ k ih =>
    simp only [nbsU,List.mem_append,ih]
    constructor
    · rintro (⟨h1,h2⟩ | h)
      · exact ⟨by omega,h2⟩
      · split at h
        · rename_i hn
          simp only [List.mem_cons,List.not_mem_nil,or_false] at h
          subst h; exact ⟨by omega,hn⟩
        · simp at h
    · rintro ⟨h1,h2⟩
      by_cases h : y < k
      · exact .inl ⟨by omega,h2⟩
      · obtain rfl : y = k := by omega
        right; rw [if_pos h2]; simp
theorem eq_a2 (a b c d : Int) : binA Tryz.prog .eql 53 (.agg (List.toArray [.int .i64 a,.int .i64 b])) (.agg (List.toArray [.int .i64 c,.int .i64 d])) = some (.bool (decide ((a,b) = (c,d)))) := by
  have h : binA Tryz.prog .eql 53 (.agg (List.toArray [.int .i64 a,.int .i64 b])) (.agg (List.toArray [.int .i64 c,.int .i64 d])) = some (.bool (a == c && b == d)) := by kernel_rfl
  have h2 : (a == c && b == d) = decide ((a,b) = (c,d)) := by
    rw [Bool.eq_iff_iff]
    simp
  rw [h,h2]
set_option maxRecDepth 20000 in
theorem IndexP_c (v : Value) (ps : List (Int × Int)) (p : Int × Int) (H : AH) (hr : RowP 53 H v ps) (hlen : ps.length ≤ 1099511627776) :
    ACalls Tryz.prog 128 [v,.agg (List.toArray [.int .i64 p.1,.int .i64 p.2])] H fun r H' => (∃ k : Int,r = .int .i64 k ∧ (0 ≤ k ↔ p ∈ ps)) ∧ H <+: H' := by
  refine in128 rfl ?_
  intro Q hQ
  simp (maxSteps := 1000000) (disch := omega) only [cd128,box_a2,hr.len Tryz.underlying24,SS,eq_self,reduceIte,reduceCtorEq,Nat.reduceEqDiff,Nat.reduceAdd]
  generalize hA : H ++ [AObj.cells [.int .i64 p.1,.int .i64 p.2] 53 false] = A
  have pA : H <+: A := by rw [← hA]; exact List.prefix_append _ _
  have cA : A[H.length]? = some (.cells [.int .i64 p.1,.int .i64 p.2] 53 false) := by rw [← hA]; exact at_new ..
  have rA := hr.pre pA
  refine LoopH.by (fun m s H' => ∃ i,m + i = ps.length ∧ s 0 = v ∧ s 3 = .pointer (some ⟨H.length,0,none⟩) ∧ s 7 = .int .i64 (ps.length : Int) ∧ s 8 = .int .i64 ((i : Nat) : Int) ∧ A = H' ∧ ∀ j,j < i → ps.getD j (0,0) ≠ p) ps.length ?_ ?_
  · exact ⟨0,by simp,rfl,rfl,rfl,rfl,rfl,fun j hj => absurd hj (Nat.not_lt_zero j)⟩
  · rintro m s H' ⟨i,hm,h0,h3,h7,h8,rfl,hn⟩
    simp (maxSteps := 1000000) (disch := omega) only [h0,h3,h7,h8,SS,eq_self,reduceIte,reduceCtorEq,Nat.reduceEqDiff,Nat.reduceAdd]
    refine brD.intro (fun g => ?_) (fun g => ?_)
    · have hi : i < ps.length := by omega
      simp (maxSteps := 1000000) (disch := omega) only [h0,h3,h7,h8,ld_a2 cA,rA.ix Tryz.underlying24 cs53,Int.toNat_natCast,rA.ld ag53 cs53 hi,eq_a2,SS,eq_self,reduceIte,reduceCtorEq,Nat.reduceEqDiff,Nat.reduceAdd]
      refine brD.intro (fun e => ?_) (fun e => ?_) <;> simp (maxSteps := 1000000) (disch := omega) only [h0,h3,h7,h8,wrap64,SS,eq_self,reduceIte,reduceCtorEq,Nat.reduceEqDiff,Nat.reduceAdd]
      · refine hQ _ _ _ ?_
        simp (maxSteps := 1000000) (disch := omega) only [SS,eq_self,reduceIte,reduceCtorEq,Nat.reduceEqDiff,Nat.reduceAdd]
        have e' : p = ps.getD i (0,0) := e
        have hm : p ∈ ps := by rw [e']; simp [hi]
        exact ⟨⟨i,rfl,⟨fun _ => hm,fun _ => by omega⟩⟩,pA⟩
      · have f1 : ∀ j,j < i + 1 → ps.getD j (0,0) ≠ p := by
          intro j hj
          rcases Nat.lt_succ_iff_lt_or_eq.1 hj with h | h
          · exact hn j h
          · rw [h]; intro h'; exact e h'.symm
        refine ⟨m - 1,by omega,i + 1,?_⟩
        (repeat' apply And.intro) <;> first | exact f1 | (simp only [Value.int.injEq,true_and]; omega) | omega | rfl | assumption | (simp; done) | (simp; omega)
    · simp (maxSteps := 1000000) (disch := omega) only [SS,eq_self,reduceIte,reduceCtorEq,Nat.reduceEqDiff,Nat.reduceAdd]
      refine hQ _ _ _ ?_
      simp (maxSteps := 1000000) (disch := omega) only [SS,eq_self,reduceIte,reduceCtorEq,Nat.reduceEqDiff,Nat.reduceAdd]
      refine ⟨⟨-1,rfl,⟨fun h => absurd h (by omega),fun h => ?_⟩⟩,pA⟩
      obtain ⟨j,hj,e⟩ := List.mem_iff_getElem.1 h
      exact absurd (by simp [hj,e]) (hn j (by omega))
theorem ContainsP_c (v : Value) (ps : List (Int × Int)) (p : Int × Int) (H : AH) (hr : RowP 53 H v ps) (hlen : ps.length ≤ 1099511627776) :
    ACalls Tryz.prog 111 [v,.agg (List.toArray [.int .i64 p.1,.int .i64 p.2])] H fun r H' => r = .bool (decide (p ∈ ps)) ∧ H <+: H' := by
  refine in111 rfl ?_
  intro Q hQ
  simp (maxSteps := 1000000) (disch := omega) only [cd111,box_a2,SS,eq_self,reduceIte,reduceCtorEq,Nat.reduceEqDiff,Nat.reduceAdd]
  generalize hA : H ++ [AObj.cells [.int .i64 p.1,.int .i64 p.2] 53 false] = A
  have pA : H <+: A := by rw [← hA]; exact List.prefix_append _ _
  have cA : A[H.length]? = some (.cells [.int .i64 p.1,.int .i64 p.2] 53 false) := by rw [← hA]; exact at_new ..
  simp (maxSteps := 1000000) (disch := omega) only [ld_a2 cA,SS,eq_self,reduceIte,reduceCtorEq,Nat.reduceEqDiff,Nat.reduceAdd]
  refine CallH.by (IndexP_c v ps p A (hr.pre pA) hlen) ?_
  rintro _ B ⟨⟨k,rfl,hk⟩,pB⟩
  simp (maxSteps := 1000000) (disch := omega) only [SS,eq_self,reduceIte,reduceCtorEq,Nat.reduceEqDiff,Nat.reduceAdd]
  refine hQ _ _ _ ?_
  simp (maxSteps := 1000000) (disch := omega) only [SS,eq_self,reduceIte,reduceCtorEq,Nat.reduceEqDiff,Nat.reduceAdd]
  refine ⟨?_,pA.trans pB⟩
  rw [Value.bool.injEq,decide_eq_decide]; exact hk
theorem has_G (n : Int) (v : Value) (es : List (Int × Int)) (a b : Int) (H : AH) (hr : RowP 53 H v es) (hlen : es.length ≤ 1099511627776) :
    ACalls Tryz.prog 79 [.agg (List.toArray [.int .i64 n,v]),.int .i64 a,.int .i64 b] H fun r H' => r = .bool (decide ((minI a b,maxI a b) ∈ es)) ∧ H <+: H' := by
  refine in79 rfl ?_
  intro Q hQ
  simp (maxSteps := 1000000) (disch := omega) only [cd79,hr.boxG,SS,eq_self,reduceIte,reduceCtorEq,Nat.reduceEqDiff,Nat.reduceAdd]
  generalize hA : H ++ [AObj.cells [.int .i64 n,v] 26 false] = A
  have pA : H <+: A := by rw [← hA]; exact List.prefix_append _ _
  have cA : A[H.length]? = some (.cells [.int .i64 n,v] 26 false) := by rw [← hA]; exact at_new ..
  have rA := hr.pre pA
  simp (maxSteps := 1000000) (disch := omega) only [cell_of cA,SS,eq_self,reduceIte,reduceCtorEq,Nat.reduceEqDiff,Nat.reduceAdd]
  refine CallH.by (pair_c a b A) ?_
  rintro _ B ⟨rfl,pB⟩
  have cB := pre_at pB cA
  simp (maxSteps := 1000000) (disch := omega) only [cell_of cB,SS,eq_self,reduceIte,reduceCtorEq,Nat.reduceEqDiff,Nat.reduceAdd]
  refine CallH.by (ContainsP_c v es (minI a b,maxI a b) B (rA.pre pB) hlen) ?_
  rintro _ C ⟨rfl,pC⟩
  simp (maxSteps := 1000000) (disch := omega) only [SS,eq_self,reduceIte,reduceCtorEq,Nat.reduceEqDiff,Nat.reduceAdd]
  refine hQ _ _ _ ?_
  simp (maxSteps := 1000000) (disch := omega) only [SS,eq_self,reduceIte,reduceCtorEq,Nat.reduceEqDiff,Nat.reduceAdd]
  exact pA.trans (pB.trans pC)
set_option maxRecDepth 20000 in
set_option maxHeartbeats 1000000 in
theorem l2Near_c (n : Int) (v : Value) (es : List (Int × Int)) (a b : Int) (H : AH) (hr : RowP 53 H v es) (hlen : es.length ≤ 1099511627776) :
    ACalls Tryz.prog 58 [.agg (List.toArray [.int .i64 n,v]),.int .i64 a,.int .i64 b] H fun r H' => r = .bool (nearB es a b) ∧ H <+: H' := by
  refine in58 rfl ?_
  intro Q hQ
  simp (maxSteps := 1000000) (disch := omega) only [cd58,hr.boxG,SS,eq_self,reduceIte,reduceCtorEq,Nat.reduceEqDiff,Nat.reduceAdd]
  generalize hA : H ++ [AObj.cells [.int .i64 n,v] 26 false] = A
  have pA : H <+: A := by rw [← hA]; exact List.prefix_append _ _
  have cA : A[H.length]? = some (.cells [.int .i64 n,v] 26 false) := by rw [← hA]; exact at_new ..
  have rA := hr.pre pA
  try simp (maxSteps := 1000000) (disch := omega) only [SS,eq_self,reduceIte,reduceCtorEq,Nat.reduceEqDiff,Nat.reduceAdd]
  refine LoopH.by (fun m s H' => ∃ i,m + i = es.length ∧ s 1 = .int .i64 a ∧ s 2 = .int .i64 b ∧ s 3 = .pointer (some ⟨H.length,0,none⟩) ∧ s 7 = .int .i64 ((i : Nat) : Int) ∧ nearB es a b = (es.drop i).any (hitB a b) ∧ A <+: H') es.length ?_ ?_
  · exact ⟨0,by simp,rfl,rfl,rfl,rfl,by rw [List.drop_zero]; rfl,List.prefix_refl _⟩
  · rintro m s H' ⟨i,hm,h1,h2,h3,h7,hn,hp⟩
    have hr' := rA.pre hp
    have cH := pre_at hp cA
    have hpp := pA.trans hp
    simp (maxSteps := 1000000) (disch := omega) only [h1,h2,h3,h7,cell_of cH,hr'.len Tryz.underlying24,SS,eq_self,reduceIte,reduceCtorEq,Nat.reduceEqDiff,Nat.reduceAdd]
    refine brD.intro (fun g => ?_) (fun g => ?_)
    · have hi : i < es.length := by omega
      have hst0 := store_a2 H' [.int .i64 0,.int .i64 0] rfl
      rw [any_step _ es (0,0) i hi] at hn
      simp (maxSteps := 1000000) (disch := omega) only [h1,h2,h3,h7,cell_of cH,hr'.ix Tryz.underlying24 cs53,Int.toNat_natCast,hr'.ld ag53 cs53 hi,alloc_a2,hst0,cell_new,wrap64,SS,eq_self,reduceIte,reduceCtorEq,Nat.reduceEqDiff,Nat.reduceAdd]
      generalize hx : es.getD i (0,0) = x at *
      have pB : A <+: H' ++ [AObj.cells [.int .i64 x.1,.int .i64 x.2] 53 false] := pre_app hp _
      have yes : hitB a b x = true → nearB es a b = true := fun h => by rw [hn,h]; rfl
      have no : hitB a b x = false → nearB es a b = (es.drop (i + 1)).any (hitB a b) := fun h => by rw [hn,h]; rfl
      unfold hitB at yes no
      rw [decide_eq_true_iff] at yes
      rw [decide_eq_false_iff_not] at no
      have second : ¬ (x.1 = a ∧ x.2 = b) → True := fun _ => trivial
      refine brD.intro (fun e1 => ?_) (fun e1 => ?_) <;> (first | have de1 := decide_eq_false e1 | have de1 := decide_eq_true e1) <;> simp (maxSteps := 1000000) (disch := omega) only [de1,h1,h2,h3,h7,cell_new,wrap64,SS,eq_self,reduceIte,reduceCtorEq,Nat.reduceEqDiff,Nat.reduceAdd]
      · refine brD.intro (fun e2 => ?_) (fun e2 => ?_) <;> (first | have de2 := decide_eq_false e2 | have de2 := decide_eq_true e2) <;> simp (maxSteps := 1000000) (disch := omega) only [de1,de2,h1,h2,h3,h7,cell_new,wrap64,SS,eq_self,reduceIte,reduceCtorEq,Nat.reduceEqDiff,Nat.reduceAdd]
        · refine hQ _ _ _ ?_
          simp (maxSteps := 1000000) (disch := omega) only [SS,eq_self,reduceIte,reduceCtorEq,Nat.reduceEqDiff,Nat.reduceAdd]
          exact ⟨by rw [yes (by omega)],pA.trans pB⟩
        · refine brD.intro (fun e3 => ?_) (fun e3 => ?_) <;> (first | have de3 := decide_eq_false e3 | have de3 := decide_eq_true e3) <;> simp (maxSteps := 1000000) (disch := omega) only [de1,de2,de3,h1,h2,h3,h7,cell_new,wrap64,SS,eq_self,reduceIte,reduceCtorEq,Nat.reduceEqDiff,Nat.reduceAdd]
          · refine brD.intro (fun e4 => ?_) (fun e4 => ?_) <;> (first | have de4 := decide_eq_false e4 | have de4 := decide_eq_true e4) <;> simp (maxSteps := 1000000) (disch := omega) only [de1,de2,de3,de4,h1,h2,h3,h7,cell_new,wrap64,SS,eq_self,reduceIte,reduceCtorEq,Nat.reduceEqDiff,Nat.reduceAdd]
            · refine hQ _ _ _ ?_
              simp (maxSteps := 1000000) (disch := omega) only [SS,eq_self,reduceIte,reduceCtorEq,Nat.reduceEqDiff,Nat.reduceAdd]
              exact ⟨by rw [yes (by omega)],pA.trans pB⟩
            · have f1 := no (by omega)
              refine ⟨m - 1,by omega,i + 1,?_⟩
              (repeat' first | exact f1 | exact pB | apply And.intro) <;> first | (simp only [Value.int.injEq,true_and]; omega) | omega | rfl | assumption | (simp; done) | (simp; omega)
          · have f1 := no (by omega)
            refine ⟨m - 1,by omega,i + 1,?_⟩
            (repeat' first | exact f1 | exact pB | apply And.intro) <;> first | (simp only [Value.int.injEq,true_and]; omega) | omega | rfl | assumption | (simp; done) | (simp; omega)
      · refine brD.intro (fun e3 => ?_) (fun e3 => ?_) <;> (first | have de3 := decide_eq_false e3 | have de3 := decide_eq_true e3) <;> simp (maxSteps := 1000000) (disch := omega) only [de1,de3,h1,h2,h3,h7,cell_new,wrap64,SS,eq_self,reduceIte,reduceCtorEq,Nat.reduceEqDiff,Nat.reduceAdd]
        · refine brD.intro (fun e4 => ?_) (fun e4 => ?_) <;> (first | have de4 := decide_eq_false e4 | have de4 := decide_eq_true e4) <;> simp (maxSteps := 1000000) (disch := omega) only [de1,de3,de4,h1,h2,h3,h7,cell_new,wrap64,SS,eq_self,reduceIte,reduceCtorEq,Nat.reduceEqDiff,Nat.reduceAdd]
          · refine hQ _ _ _ ?_
            simp (maxSteps := 1000000) (disch := omega) only [SS,eq_self,reduceIte,reduceCtorEq,Nat.reduceEqDiff,Nat.reduceAdd]
            exact ⟨by rw [yes (by omega)],pA.trans pB⟩
          · have f1 := no (by omega)
            refine ⟨m - 1,by omega,i + 1,?_⟩
            (repeat' first | exact f1 | exact pB | apply And.intro) <;> first | (simp only [Value.int.injEq,true_and]; omega) | omega | rfl | assumption | (simp; done) | (simp; omega)
        · have f1 := no (by omega)
          refine ⟨m - 1,by omega,i + 1,?_⟩
          (repeat' first | exact f1 | exact pB | apply And.intro) <;> first | (simp only [Value.int.injEq,true_and]; omega) | omega | rfl | assumption | (simp; done) | (simp; omega)
    · simp (maxSteps := 1000000) (disch := omega) only [h1,h2,h3,h7,SS,eq_self,reduceIte,reduceCtorEq,Nat.reduceEqDiff,Nat.reduceAdd]
      refine hQ _ _ _ ?_
      simp (maxSteps := 1000000) (disch := omega) only [SS,eq_self,reduceIte,reduceCtorEq,Nat.reduceEqDiff,Nat.reduceAdd]
      rw [hn,List.drop_of_length_le (by omega)]
      exact ⟨rfl,hpp⟩
set_option maxRecDepth 20000 in
set_option maxHeartbeats 1000000 in
theorem neighbors_c (n : Int) (v : Value) (es : List (Int × Int)) (x : Int) (H : AH) (hr : RowP 53 H v es) (hlen : es.length ≤ 1099511627776) (hg : Grd n es) :
    ACalls Tryz.prog 91 [.agg (List.toArray [.int .i64 n,v]),.int .i64 x] H fun r H' => Own 3 H H' r (nbsU es x n.toNat) ∧ H <+: H' := by
  have hn := hg.1
  refine in91 rfl ?_
  intro Q hQ
  simp (maxSteps := 1000000) (disch := omega) only [cd91,hr.boxG,SS,eq_self,reduceIte,reduceCtorEq,Nat.reduceEqDiff,Nat.reduceAdd]
  generalize hA : H ++ [AObj.cells [.int .i64 n,v] 26 false] = A
  have pA : H <+: A := by rw [← hA]; exact List.prefix_append _ _
  have cA : A[H.length]? = some (.cells [.int .i64 n,v] 26 false) := by rw [← hA]; exact at_new ..
  have rA := hr.pre pA
  simp (maxSteps := 1000000) (disch := omega) only [cell_of (at_app cA _),SS,eq_self,reduceIte,reduceCtorEq,Nat.reduceEqDiff,Nat.reduceAdd]
  refine LoopH.by (fun m s H' => ∃ i,m + i = n.toNat ∧ s 1 = .int .i64 x ∧ s 2 = .pointer (some ⟨H.length,0,none⟩) ∧ s 9 = .int .i64 n ∧ s 10 = .int .i64 ((i : Nat) : Int) ∧ Own 3 A H' (s 5) (nbsU es x i) ∧ A <+: H') n.toNat ?_ ?_
  · exact ⟨0,by simp,rfl,rfl,rfl,rfl,.inr ⟨A.length,rfl,Nat.le_refl _,at_new ..⟩,List.prefix_append _ _⟩
  · rintro m s H' ⟨i,hm,h1,h2,h9,h10,ho,hp⟩
    have hr' := rA.pre hp
    have cH := pre_at hp cA
    have hl := nbsU_len es x i
    have hst : nbsU es x (i + 1) = nbsU es x i ++ if nearB es x i = true then [(i : Int)] else [] := rfl
    generalize hw : s 5 = w at *
    simp (maxSteps := 1000000) (disch := omega) only [h1,h2,h9,h10,hw,SS,eq_self,reduceIte,reduceCtorEq,Nat.reduceEqDiff,Nat.reduceAdd]
    refine brD.intro (fun g => ?_) (fun g => ?_)
    · simp (maxSteps := 1000000) (disch := omega) only [h1,h2,h9,h10,hw,SS,eq_self,reduceIte,reduceCtorEq,Nat.reduceEqDiff,Nat.reduceAdd]
      refine brD.intro (fun e1 => ?_) (fun e1 => ?_) <;> simp (maxSteps := 1000000) (disch := omega) only [e1,h1,h2,h9,h10,hw,ld_agg ag26 cs26 cH,wrap64,SS,eq_self,reduceIte,reduceCtorEq,Nat.reduceEqDiff,Nat.reduceAdd]
      · refine CallH.by (has_G n v es x i H' hr' hlen) ?_
        rintro _ B ⟨rfl,pB⟩
        rw [near_has hg x i (by omega)]
        have hoB := ho.pre pB
        have hpB := hp.trans pB
        simp (maxSteps := 1000000) (disch := omega) only [e1,SS,eq_self,reduceIte,reduceCtorEq,Nat.reduceEqDiff,Nat.reduceAdd]
        refine brH.intro (fun e2 => ?_) (fun e2 => ?_)
        · obtain ⟨w',H2,k1,k2,k3,k4,k5,k6⟩ := own1_27 hoB hpB (by omega) (i : Int)
          simp (maxSteps := 1000000) (disch := omega) only [e1,e2,h1,h2,h9,h10,hw,k1,wrap64,SS,eq_self,reduceIte,reduceCtorEq,Nat.reduceEqDiff,Nat.reduceAdd]
          rw [if_pos e2] at hst
          rw [← hst] at k2
          refine ⟨m - 1,by omega,i + 1,?_⟩
          (repeat' first | exact k2 | exact k3 | apply And.intro) <;> first | (simp only [Value.int.injEq,true_and]; omega) | omega | rfl | assumption | (simp; done) | (simp; omega)
        · simp (maxSteps := 1000000) (disch := omega) only [e1,e2,h1,h2,h9,h10,hw,wrap64,SS,eq_self,reduceIte,reduceCtorEq,Nat.reduceEqDiff,Nat.reduceAdd]
          rw [if_neg (by simpa using e2),List.append_nil] at hst
          rw [← hst] at hoB
          refine ⟨m - 1,by omega,i + 1,?_⟩
          (repeat' first | exact hoB | exact hpB | apply And.intro) <;> first | (simp only [Value.int.injEq,true_and]; omega) | omega | rfl | assumption | (simp; done) | (simp; omega)
      · have e2 : nearB es x i ≠ true := by
          intro h
          have := (near_rng hg h).2.2
          omega
        rw [if_neg e2,List.append_nil] at hst
        rw [← hst] at ho
        refine ⟨m - 1,by omega,i + 1,?_⟩
        (repeat' first | exact ho | exact hp | apply And.intro) <;> first | (simp only [Value.int.injEq,true_and]; omega) | omega | rfl | assumption | (simp; done) | (simp; omega)
    · simp (maxSteps := 1000000) (disch := omega) only [hw,SS,eq_self,reduceIte,reduceCtorEq,Nat.reduceEqDiff,Nat.reduceAdd]
      refine hQ _ _ _ ?_
      simp (maxSteps := 1000000) (disch := omega) only [hw,ho.row.tup,SS,eq_self,reduceIte,reduceCtorEq,Nat.reduceEqDiff,Nat.reduceAdd]
      have : i = n.toNat := by omega
      subst this
      exact ⟨ho.base pA,pA.trans hp⟩
def holeB (p : List Int) (e : Int × Int) : Bool := decide (p.getD e.1.toNat 0 = 0) || decide (p.getD e.2.toNat 0 = 0)
def mvs (es : List (Int × Int)) (sl : Bool) (p : List Int) : List (Int × Int) := es.filter fun e => !sl || holeB p e
def nxt (es : List (Int × Int)) (sl : Bool) (p : List Int) : List (List Int) := (mvs es sl p).map fun e => swp p e.1.toNat e.2.toNat
theorem mvs_mem {es : List (Int × Int)} {sl : Bool} {p : List Int} {e : Int × Int} (h : e ∈ mvs es sl p) : e ∈ es ∧ (sl = true → holeB p e = true) := by
  unfold mvs at h
  have := List.mem_filter.1 h
  refine ⟨this.1,fun hs => ?_⟩
  have h2 := this.2
  rw [hs] at h2
  simpa using h2
theorem mvs_len (es : List (Int × Int)) (sl : Bool) (p : List Int) : (mvs es sl p).length ≤ es.length := List.length_filter_le _ _
theorem nxt_len (es : List (Int × Int)) (sl : Bool) (p : List Int) : (nxt es sl p).length = (mvs es sl p).length := by simp [nxt]
theorem nxt_bd {n : Nat} {es : List (Int × Int)} (hg : Grd (n : Int) es) (sl : Bool) {b : List Int} (hb : Bd n b) : ∀ c ∈ nxt es sl b,Bd n c := by
  intro c hc
  obtain ⟨e,he,rfl⟩ := List.mem_map.1 hc
  obtain ⟨h1,h2,h3⟩ := grd_mem hg (mvs_mem he).1
  exact ⟨swp_prm hb.1 (by rw [hb.2]; omega) (by rw [hb.2]; omega),by rw [swp_len]; exact hb.2⟩
theorem swp_inv {p : List Int} {a b : Nat} (ha : a < p.length) (hb : b < p.length) : swp (swp p a b) a b = p := by
  apply List.ext_getElem?
  intro i
  by_cases hi : i < p.length
  · have h1 := swp_at (swp p a b) a b i (by rw [swp_len]; exact ha) (by rw [swp_len]; exact hb) (by rw [swp_len]; exact hi)
    have h2 := swp_at p a b a ha hb ha
    have h3 := swp_at p a b b ha hb hb
    have h4 := swp_at p a b i ha hb hi
    have key : (swp (swp p a b) a b).getD i 0 = p.getD i 0 := by
      rw [h1,h2,h3,h4]
      by_cases e1 : i = b
      · subst e1
        rw [if_pos rfl]
        by_cases e2 : a = i
        · rw [if_pos e2,e2]
        · rw [if_neg e2,if_pos rfl]
      · rw [if_neg e1]
        by_cases e2 : i = a
        · subst e2; rw [if_pos rfl,if_pos rfl]
        · rw [if_neg e2,if_neg e1,if_neg e2]
    rw [List.getElem?_eq_getElem (by rw [swp_len,swp_len]; exact hi),List.getElem?_eq_getElem hi]
    simp only [List.getD_eq_getElem?_getD] at key
    rw [List.getElem?_eq_getElem (by rw [swp_len,swp_len]; exact hi),List.getElem?_eq_getElem hi] at key
    simpa using key
  · rw [List.getElem?_eq_none (by rw [swp_len,swp_len]; omega),List.getElem?_eq_none (by omega)]
theorem nxt_back {n : Nat} {es : List (Int × Int)} (hg : Grd (n : Int) es) (sl : Bool) {b c : List Int} (hb : Bd n b) (hc : c ∈ nxt es sl b) : b ∈ nxt es sl c := by
  obtain ⟨e,he,rfl⟩ := List.mem_map.1 hc
  obtain ⟨h0,hs⟩ := mvs_mem he
  obtain ⟨h1,h2,h3⟩ := grd_mem hg h0
  have l1 : e.1.toNat < b.length := by rw [hb.2]; omega
  have l2 : e.2.toNat < b.length := by rw [hb.2]; omega
  refine List.mem_map.2 ⟨e,?_,swp_inv l1 l2⟩
  unfold mvs
  refine List.mem_filter.2 ⟨h0,?_⟩
  cases sl with
  | false => rfl
  | true =>
    have hh := hs rfl
    unfold holeB at hh ⊢
    have e1 := swp_at b e.1.toNat e.2.toNat e.1.toNat l1 l2 l1
    have e2 := swp_at b e.1.toNat e.2.toNat e.2.toNat l1 l2 l2
    rw [if_neg (by omega),if_pos rfl] at e1
    rw [if_pos rfl] at e2
    rw [e1,e2]
    simp only [Bool.not_true,Bool.false_or]
    rw [Bool.or_comm]; exact hh
def bdR (es : List (Int × Int)) (sl : Bool) (p : List Int) : List (List Int × Int) := bdA (nxt es sl) p
theorem bdR_I {n : Nat} (hn : n ≤ 6) {es : List (Int × Int)} (hg : Grd (n : Int) es) (sl : Bool) {p : List Int} (hp : Bd n p) : BdI n (nxt es sl) p (bdR es sl p) (bdR es sl p).length :=
  bdA_I hn (fun b hb => nxt_bd hg sl hb) hp
theorem bdR_down {n : Nat} (hn : n ≤ 6) {es : List (Int × Int)} (hg : Grd (n : Int) es) (sl : Bool) {p b : List Int} (hp : Bd n p) {d : Int} (hd : bdD (bdR es sl p) b = some d) (h0 : 0 < d) :
    ∃ e ∈ mvs es sl b,bdD (bdR es sl p) (swp b e.1.toNat e.2.toNat) = some (d - 1) := by
  have hI := bdR_I hn hg sl hp
  have hm := bdD_mem hd
  have hb := hI.ok _ hm
  rcases hI.src _ hm with h | ⟨u,h1,h2,h3⟩
  · simp only [Prod.mk.injEq] at h; omega
  · have hub := nxt_back hg sl (hI.ok u h1) h2
    obtain ⟨e,he,hq⟩ := List.mem_map.1 hub
    refine ⟨e,he,?_⟩
    have hu := bdD_some hI.nd h1
    rw [hq,hu]
    have h3' : d = u.2 + 1 := h3
    rw [h3']; congr 1; omega
theorem bdR_known {n : Nat} (hn : n ≤ 6) {es : List (Int × Int)} (hg : Grd (n : Int) es) (sl : Bool) {p b : List Int} (hp : Bd n p) {d : Int} (hd : bdD (bdR es sl p) b = some d) {c : List Int} (hc : c ∈ nxt es sl b) :
    ∃ x,bdD (bdR es sl p) c = some x ∧ 0 ≤ x := by
  have hI := bdR_I hn hg sl hp
  have hm := bdD_mem hd
  obtain ⟨j,hj,e⟩ := List.mem_iff_getElem.1 hm
  have hcl := hI.cl j hj c (by
    have : (bdR es sl p).getD j ([],0) = (b,d) := by simp [hj,e]
    rw [this]; exact hc)
  obtain ⟨e,h1,h2⟩ := List.mem_map.1 hcl
  have := hI.rng e h1
  exact ⟨e.2,by rw [← h2]; exact bdD_some hI.nd h1,this.1⟩
def fst1 (S : List (List Int × Int)) (es : List (Int × Int)) (sl : Bool) (d : Int) (b : List Int) : Option (Int × Int) := (mvs es sl b).find? fun e => decide (bdD S (swp b e.1.toNat e.2.toNat) = some d)
def pthL (S : List (List Int × Int)) (es : List (Int × Int)) (sl : Bool) : Nat → List Int → List ((Int × Int) × List Int)
  | 0,_ => []
  | d + 1,b => match fst1 S es sl (d : Int) b with
    | some e => (e,b) :: pthL S es sl d (swp b e.1.toNat e.2.toNat)
    | none => []
theorem fst1_some {n : Nat} (hn : n ≤ 6) {es : List (Int × Int)} (hg : Grd (n : Int) es) (sl : Bool) {p b : List Int} (hp : Bd n p) {d : Nat} (hd : bdD (bdR es sl p) b = some ((d + 1 : Nat) : Int)) :
    ∃ e,fst1 (bdR es sl p) es sl (d : Int) b = some e ∧ e ∈ mvs es sl b ∧ bdD (bdR es sl p) (swp b e.1.toNat e.2.toNat) = some (d : Int) := by
  obtain ⟨e,h1,h2⟩ := bdR_down hn hg sl hp hd (by omega)
  have e1 : ((d + 1 : Nat) : Int) - 1 = (d : Int) := by omega
  rw [e1] at h2
  cases hf : fst1 (bdR es sl p) es sl (d : Int) b with
  | none =>
    unfold fst1 at hf
    rw [List.find?_eq_none] at hf
    exact absurd (decide_eq_true h2) (hf e h1)
  | some x =>
    refine ⟨x,rfl,List.mem_of_find?_eq_some hf,?_⟩
    have := List.find?_some hf
    simpa using this
theorem pthL_len {n : Nat} (hn : n ≤ 6) {es : List (Int × Int)} (hg : Grd (n : Int) es) (sl : Bool) {p : List Int} (hp : Bd n p) : ∀ (d : Nat) (b : List Int),bdD (bdR es sl p) b = some (d : Int) → (pthL (bdR es sl p) es sl d b).length = d
  | 0,b,_ => rfl
  | d + 1,b,h => by
    obtain ⟨e,h1,h2,h3⟩ := fst1_some hn hg sl hp h
    simp only [pthL,h1,List.length_cons]
    rw [pthL_len hn hg sl hp d _ h3]
def othB (b : List Int) (e : Int × Int) : Int := if b.getD e.1.toNat 0 = 0 then e.2 else e.1
theorem srt_extM {a b : List Int} (ha : a.Pairwise (· < ·)) (hb : b.Pairwise (· < ·)) (h : ∀ z,z ∈ a ↔ z ∈ b) : a = b := by
  induction a generalizing b with
  | nil =>
    cases b with
    | nil => rfl
    | cons y b => exact absurd ((h y).2 (by simp)) (by simp)
  | cons x a ih =>
    cases b with
    | nil => exact absurd ((h x).1 (by simp)) (by simp)
    | cons y b =>
      have ha' := List.pairwise_cons.1 ha
      have hb' := List.pairwise_cons.1 hb
      have hxy : x = y := by
        rcases List.mem_cons.1 ((h x).1 (by simp)) with e | e
        · exact e
        · rcases List.mem_cons.1 ((h y).2 (by simp)) with e2 | e2
          · exact e2.symm
          · have := hb'.1 x e
            have := ha'.1 y e2
            omega
      subst hxy
      rw [ih ha'.2 hb'.2 fun z => ?_]
      constructor
      · intro hz
        rcases List.mem_cons.1 ((h z).1 (by simp [hz])) with e | e
        · have := ha'.1 z hz; omega
        · exact e
      · intro hz
        rcases List.mem_cons.1 ((h z).2 (by simp [hz])) with e | e
        · have := hb'.1 z hz; omega
        · exact e
theorem grd_pw {n : Int} {es : List (Int × Int)} (hg : Grd n es) : es.Pairwise pairLt := by
  rw [List.pairwise_iff_getElem]
  have at_ : ∀ i (h : i < es.length),es.getD i (0,0) = es[i] := fun i h => by simp [h]
  have key : ∀ (k i : Nat),i + k + 1 < es.length → pairLt (es.getD i (0,0)) (es.getD (i + k + 1) (0,0)) := by
    intro k
    induction k with
    | zero =>
      intro i hi
      have := (hg.2 (i + 1) hi).2.2.2 (by omega)
      simpa using this
    | succ k ih =>
      intro i hi
      have h1 := ih i (by omega)
      have h2 := (hg.2 (i + (k + 1) + 1) hi).2.2.2 (by omega)
      have e : i + (k + 1) + 1 - 1 = i + k + 1 := by omega
      rw [e] at h2
      unfold pairLt at *
      omega
  intro i j hi hj hij
  have := key (j - i - 1) i (by omega)
  rw [show i + (j - i - 1) + 1 = j by omega,at_ i hi,at_ j hj] at this
  exact this
theorem grd_few {n : Int} {es : List (Int × Int)} (hg : Grd n es) : es.length ≤ 64 := by
  have hp := grd_pw hg
  have hn := hg.1
  have h8 : ∀ e ∈ es,0 ≤ e.1 ∧ e.1 < 8 ∧ 0 ≤ e.2 ∧ e.2 < 8 := fun e he => by
    have := grd_mem hg he; omega
  have := nodupI_le 64 (es.map fun e => 8 * e.1 + e.2) (by
    rw [List.Nodup,List.pairwise_map]
    refine List.Pairwise.imp_of_mem ?_ hp
    intro a b ha hb hab e
    have h1 := h8 a ha
    have h2 := h8 b hb
    unfold pairLt at hab
    omega) (fun x hx => by
    obtain ⟨e,he,rfl⟩ := List.mem_map.1 hx
    have := h8 e he
    omega)
  simpa using this
theorem oth_srt {n : Nat} {es : List (Int × Int)} (hg : Grd (n : Int) es) {b : List Int} (hb : Bd n b) {h : Nat} (hh : h < n) (h0 : b.getD h 0 = 0) :
    ((mvs es true b).map (othB b)).Pairwise (· < ·) ∧ ∀ e ∈ mvs es true b,othB b e ≠ (h : Int) ∧ (e = ((h : Int),othB b e) ∨ e = (othB b e,(h : Int))) ∧ swp b e.1.toNat e.2.toNat = swp b (othB b e).toNat h := by
  have uniq : ∀ i : Nat,i < n → b.getD i 0 = 0 → i = h := by
    intro i hi e
    have hnd := prm_nodup hb.1
    rw [List.Nodup,List.pairwise_iff_getElem] at hnd
    have l1 : i < b.length := by rw [hb.2]; exact hi
    have l2 : h < b.length := by rw [hb.2]; exact hh
    have e1 : b[i] = 0 := by have := e; simpa [l1] using this
    have e2 : b[h] = 0 := by have := h0; simpa [l2] using this
    rcases Nat.lt_trichotomy i h with g | g | g
    · exact absurd (e1.trans e2.symm) (hnd i h l1 l2 g)
    · exact g
    · exact absurd (e2.trans e1.symm) (hnd h i l2 l1 g)
  have shape : ∀ e ∈ mvs es true b,(e.1 = (h : Int) ∧ othB b e = e.2 ∧ e.1 < e.2) ∨ (e.2 = (h : Int) ∧ othB b e = e.1 ∧ e.1 < e.2) := by
    intro e he
    obtain ⟨g0,gs⟩ := mvs_mem he
    obtain ⟨g1,g2,g3⟩ := grd_mem hg g0
    have hh' := gs rfl
    unfold holeB at hh'
    simp only [Bool.or_eq_true,decide_eq_true_eq] at hh'
    unfold othB
    by_cases q : b.getD e.1.toNat 0 = 0
    · rw [if_pos q]
      have := uniq e.1.toNat (by omega) q
      exact .inl ⟨by omega,rfl,g2⟩
    · rw [if_neg q]
      have := uniq e.2.toNat (by omega) (hh'.resolve_left q)
      exact .inr ⟨by omega,rfl,g2⟩
  refine ⟨?_,fun e he => ?_⟩
  · rw [List.pairwise_map]
    have hp : (mvs es true b).Pairwise pairLt := (grd_pw hg).filter _
    refine List.Pairwise.imp_of_mem ?_ hp
    intro x y hx hy hxy
    have hx' := shape x hx
    have hy' := shape y hy
    unfold pairLt at hxy
    omega
  · obtain ⟨g1,g2,g3⟩ := grd_mem hg (mvs_mem he).1
    rcases shape e he with ⟨q1,q2,q3⟩ | ⟨q1,q2,q3⟩
    · refine ⟨by omega,.inl ?_,?_⟩
      · rw [q2,← q1]
      · rw [q2,q1,Int.toNat_natCast]
        unfold swp
        rw [List.set_comm _ _ (by omega)]
    · refine ⟨by omega,.inr ?_,?_⟩
      · rw [q2,← q1]
      · rw [q2,q1,Int.toNat_natCast]
theorem oth_nbs {n : Nat} {es : List (Int × Int)} (hg : Grd (n : Int) es) {b : List Int} (hb : Bd n b) {h : Nat} (hh : h < n) (h0 : b.getD h 0 = 0) : (mvs es true b).map (othB b) = nbsU es (h : Int) n := by
  obtain ⟨h1,h2⟩ := oth_srt hg hb hh h0
  have nb_srt : ∀ k,(nbsU es (h : Int) k).Pairwise (· < ·) := by
    intro k
    induction k with
    | zero => exact List.Pairwise.nil
    | succ k ih =>
      simp only [nbsU]
      rw [List.pairwise_append]
      refine ⟨ih,by split <;> simp,fun x hx y hy => ?_⟩
      have := (nbsU_mem es (h : Int) k x).1 hx
      split at hy
      · simp at hy; omega
      · simp at hy
  refine srt_extM h1 (nb_srt n) fun z => ?_
  rw [nbsU_mem,List.mem_map]
  constructor
  · rintro ⟨e,he,rfl⟩
    obtain ⟨q0,q1,q2⟩ := h2 e he
    obtain ⟨g1,g2,g3⟩ := grd_mem hg (mvs_mem he).1
    refine ⟨?_,(nearB_iff es _ _).2 ?_⟩
    · rcases q1 with q | q <;> rw [q] at g1 g2 g3 <;> simp only at g1 g2 g3 <;> omega
    · rcases q1 with q | q
      · left; rw [← q]; exact (mvs_mem he).1
      · right; rw [← q]; exact (mvs_mem he).1
  · rintro ⟨hz,hn⟩
    have l2 : h < b.length := by rw [hb.2]; exact hh
    rcases (nearB_iff es _ _).1 hn with hm | hm
    · have hmv : ((h : Int),z) ∈ mvs es true b := by
        unfold mvs
        refine List.mem_filter.2 ⟨hm,?_⟩
        unfold holeB
        simp only [Int.toNat_natCast,h0]
        simp
      refine ⟨_,hmv,?_⟩
      unfold othB
      simp only [Int.toNat_natCast,h0]
      rw [if_pos trivial]
    · have hmv : (z,(h : Int)) ∈ mvs es true b := by
        unfold mvs
        refine List.mem_filter.2 ⟨hm,?_⟩
        unfold holeB
        simp only [Int.toNat_natCast,h0]
        simp
      refine ⟨_,hmv,?_⟩
      obtain ⟨q0,q1,_⟩ := h2 _ hmv
      rcases q1 with q | q
      · have e1 := congrArg Prod.fst q
        have e2 := congrArg Prod.snd q
        simp only at e1 e2
        exact absurd e2.symm q0
      · exact (congrArg Prod.fst q).symm
theorem brds_nxt {n : Nat} {es : List (Int × Int)} (hg : Grd (n : Int) es) {b : List Int} (hb : Bd n b) {h : Nat} (hh : h < n) (h0 : b.getD h 0 = 0) : ((nbsU es (h : Int) n).map fun x => swp b x.toNat h) = nxt es true b := by
  rw [← oth_nbs hg hb hh h0,List.map_map]
  unfold nxt
  refine List.map_congr_left fun e he => ?_
  exact ((oth_srt hg hb hh h0).2 e he).2.2.symm
end Go.Proofs.YtelafbennmclfaaGreat.Ai
namespace Go.Proofs.YtelafbennmclfaaGreat.Ai
open Go Go.RowKit
def mpI (l : List (Int × Int)) : List (Value × Value) := l.map fun e => (.int .i64 e.1,.int .i64 e.2)
def getI (l : List (Int × Int)) (k : Int) : Option Int := (l.find? fun e => decide (e.1 = k)).map (·.2)
theorem findA_none (k : Int) : ∀ (l : List (Int × Int)) (i : Nat),k ∉ l.map (·.1) → findA (.int .i64 k) (mpI l) i = some none
  | [],i,_ => rfl
  | e :: l,i,h => by
    have h1 : ¬ k = e.1 := fun q => h (by simp [q])
    have h2 : k ∉ l.map (·.1) := fun q => h (by simp only [List.map_cons,List.mem_cons]; exact .inr q)
    show (if IntKind.i64 = IntKind.i64 then (if k = e.1 then some (some (i,Value.int .i64 e.2)) else findA (.int .i64 k) (mpI l) (i + 1)) else none) = _
    rw [if_pos rfl,if_neg h1]
    exact findA_none k l (i + 1) h2
theorem findA_some (k d : Int) : ∀ (l : List (Int × Int)) (i : Nat),getI l k = some d → ∃ j,findA (.int .i64 k) (mpI l) i = some (some (j,.int .i64 d))
  | [],i,h => by simp [getI] at h
  | e :: l,i,h => by
    by_cases h1 : k = e.1
    · refine ⟨i,?_⟩
      show (if IntKind.i64 = IntKind.i64 then (if k = e.1 then some (some (i,Value.int .i64 e.2)) else findA (.int .i64 k) (mpI l) (i + 1)) else none) = _
      rw [if_pos rfl,if_pos h1]
      have : e.2 = d := by simpa [getI,h1] using h
      rw [this]
    · have hg : getI l k = some d := by
        have h1' : ¬ e.1 = k := fun q => h1 q.symm
        unfold getI at h ⊢
        rw [List.find?_cons] at h
        rw [decide_eq_false h1'] at h
        exact h
      obtain ⟨j,hj⟩ := findA_some k d l (i + 1) hg
      refine ⟨j,?_⟩
      show (if IntKind.i64 = IntKind.i64 then (if k = e.1 then some (some (i,Value.int .i64 e.2)) else findA (.int .i64 k) (mpI l) (i + 1)) else none) = _
      rw [if_pos rfl,if_neg h1]
      exact hj
theorem getI_none {l : List (Int × Int)} {k : Int} (h : getI l k = none) : k ∉ l.map (·.1) := by
  unfold getI at h
  rw [Option.map_eq_none_iff,List.find?_eq_none] at h
  intro hm
  obtain ⟨e,h1,h2⟩ := List.mem_map.1 hm
  have := h e h1
  simp only [decide_eq_true_eq] at this
  exact this h2
theorem lookI {H : AH} {o : Nat} {l : List (Int × Int)} (ho : H[o]? = some (.mp (mpI l))) (k : Int) :
    lookupA Tryz.prog 56 (.map (some o)) (.int .i64 k) true H = some (.tuple (List.toArray [.int .i64 ((getI l k).getD 0),.bool (getI l k).isSome])) := by
  cases h : getI l k with
  | none =>
    have := findA_none k l 0 (getI_none h)
    simp only [lookupA,Tryz.underlying56,Tryz.underlying3,ho,this,ze3]
    rfl
  | some d =>
    obtain ⟨j,hj⟩ := findA_some k d l 0 h
    simp only [lookupA,Tryz.underlying56,Tryz.underlying3,ho,hj]
    rfl
theorem lookI1 {H : AH} {o : Nat} {l : List (Int × Int)} (ho : H[o]? = some (.mp (mpI l))) (k : Int) :
    lookupA Tryz.prog 56 (.map (some o)) (.int .i64 k) false H = some (.int .i64 ((getI l k).getD 0)) := by
  cases h : getI l k with
  | none =>
    have := findA_none k l 0 (getI_none h)
    simp only [lookupA,Tryz.underlying56,Tryz.underlying3,ho,this,ze3]
    rfl
  | some d =>
    obtain ⟨j,hj⟩ := findA_some k d l 0 h
    simp only [lookupA,Tryz.underlying56,Tryz.underlying3,ho,hj]
    rfl
theorem updI {H : AH} {o : Nat} {l : List (Int × Int)} (ho : H[o]? = some (.mp (mpI l))) {k : Int} (hk : k ∉ l.map (·.1)) (d : Int) :
    updA Tryz.prog 56 (.map (some o)) (.int .i64 k) (.int .i64 d) H = some (H.set o (.mp (mpI (l ++ [(k,d)])))) := by
  have := findA_none k l 0 hk
  simp only [updA,Tryz.underlying56,Tryz.underlying3,ho,this]
  rw [if_pos (by rfl)]
  simp [mpI]
end Go.Proofs.YtelafbennmclfaaGreat.Ai
namespace Go.Proofs.YtelafbennmclfaaGreat.Ai
open Go
def ords38 : List (Nat × List (Nat × Bool)) := []
def cd38 : Cd := (.seq (.reg [⟨⟨some 2,Op.assign (Operand.const (Value.int IntKind.i64 0)),none⟩,[]⟩]) (.seq (.reg [⟨⟨some 3,Op.assign (Operand.const (Value.int IntKind.i64 1)),none⟩,[]⟩]) (.seq (.seq (.reg [⟨⟨some 6,Op.move (Operand.tmp 0),none⟩,[]⟩,
  ⟨⟨some 7,Op.call { callee := (Callee.builtin Builtin.len),args := #[(Operand.tmp 6)],argTypes := #[27] },none⟩,[]⟩,
  ⟨⟨some 8,Op.move (Operand.const (Value.int IntKind.i64 0)),none⟩,[]⟩]) (.block 0 (.loop (.seq (.reg [⟨⟨some 9,Op.binOp BinOp.lss 3 (Operand.tmp 8) (Operand.tmp 7) 3,none⟩,[]⟩]) (.seq (.cond (Operand.tmp 9) .skip (.exit 0)) (.seq (.block 1 (.seq (.reg [⟨⟨some 10,Op.indexAddr 27 (Operand.tmp 6) (Operand.tmp 8),none⟩,[]⟩,
  ⟨⟨some 11,Op.load 3 (Operand.tmp 10),none⟩,[]⟩,
  ⟨⟨some 5,Op.assign (Operand.tmp 11),none⟩,[]⟩]) (.reg [⟨⟨some 12,Op.move (Operand.tmp 3),none⟩,[]⟩,
  ⟨⟨some 13,Op.binOp BinOp.mul 3 (Operand.const (Value.int IntKind.i64 10)) (Operand.tmp 12) 3,none⟩,[]⟩,
  ⟨⟨some 14,Op.move (Operand.tmp 5),none⟩,[]⟩,
  ⟨⟨some 15,Op.binOp BinOp.add 3 (Operand.tmp 13) (Operand.tmp 14) 3,none⟩,[]⟩,
  ⟨⟨some 3,Op.assign (Operand.tmp 15),none⟩,[]⟩]))) (.reg [⟨⟨some 16,Op.binOp BinOp.add 3 (Operand.tmp 8) (Operand.const (Value.int IntKind.i64 1)) 3,none⟩,[]⟩,
  ⟨⟨some 8,Op.move (Operand.tmp 16),none⟩,[]⟩]))))))) (.seq (.reg [⟨⟨some 17,Op.move (Operand.tmp 3),none⟩,[]⟩,
  ⟨⟨some 2,Op.assign (Operand.tmp 17),none⟩,[]⟩]) .ret))))
theorem sl38 : slim Tryz.f38.ntmps ords38 (Tryz.f38.body.getD .skip) = some cd38 := by kernel_rfl
theorem in38 {args : List Value} {H : AH} {R : Value → AH → Prop} (hl : args.length = 1) (h : ∀ (Q : Exit → Sl → AH → Prop),(∀ e s H,endA Tryz.prog [ResultVar.tmp 2] R e s H → Q e s H) → wpC Tryz.prog cd38 Q (enterA args) H) : ACalls Tryz.prog 38 args H R :=
  ACalls.intro (by kernel_rfl) Tryz.func38 rfl (by kernel_rfl) sl38 hl (of_decide_eq_true (by kernel_rfl)) (by kernel_rfl) h
def ords44 : List (Nat × List (Nat × Bool)) := [(9,[(0,false),(1,false),(2,false),(3,false),(4,false),(5,false),(6,false),(7,false),(8,false)])]
def cd44 : Cd := (.seq (.reg [⟨⟨some 2,Op.assign (Operand.const (Value.int IntKind.i64 0)),none⟩,[]⟩]) (.seq (.reg [⟨⟨some 3,Op.assign (Operand.const (Value.int IntKind.i64 0)),none⟩,[]⟩]) (.seq (.seq (.reg [⟨⟨some 4,Op.assign (Operand.const (Value.int IntKind.i64 0)),none⟩,[]⟩]) (.block 0 (.loop (.seq (.seq (.reg [⟨⟨some 7,Op.move (Operand.tmp 4),none⟩,[]⟩,
  ⟨⟨some 8,Op.move (Operand.tmp 0),none⟩,[]⟩,
  ⟨⟨some 9,Op.call { callee := (Callee.builtin Builtin.len),args := #[(Operand.tmp 8)],argTypes := #[27] },none⟩,[]⟩,
  ⟨⟨some 10,Op.binOp BinOp.lss 3 (Operand.tmp 7) (Operand.tmp 9) 3,none⟩,[]⟩]) (.cond (Operand.tmp 10) .skip (.exit 0))) (.seq (.block 1 (.seq (.reg [⟨⟨some 5,Op.assign (Operand.const (Value.int IntKind.i64 0)),none⟩,[]⟩]) (.seq (.seq (.reg [⟨⟨some 13,Op.move (Operand.tmp 4),none⟩,[]⟩,
  ⟨⟨some 14,Op.binOp BinOp.add 3 (Operand.tmp 13) (Operand.const (Value.int IntKind.i64 1)) 3,none⟩,[]⟩,
  ⟨⟨some 6,Op.assign (Operand.tmp 14),none⟩,[]⟩]) (.block 2 (.loop (.seq (.seq (.reg [⟨⟨some 15,Op.move (Operand.tmp 6),none⟩,[]⟩,
  ⟨⟨some 16,Op.move (Operand.tmp 0),none⟩,[]⟩,
  ⟨⟨some 17,Op.call { callee := (Callee.builtin Builtin.len),args := #[(Operand.tmp 16)],argTypes := #[27] },none⟩,[]⟩,
  ⟨⟨some 18,Op.binOp BinOp.lss 3 (Operand.tmp 15) (Operand.tmp 17) 3,none⟩,[]⟩]) (.cond (Operand.tmp 18) .skip (.exit 2))) (.seq (.block 3 (.seq (.reg [⟨⟨some 21,Op.move (Operand.tmp 0),none⟩,[]⟩,
  ⟨⟨some 22,Op.move (Operand.tmp 6),none⟩,[]⟩,
  ⟨⟨some 23,Op.indexAddr 27 (Operand.tmp 21) (Operand.tmp 22),none⟩,[]⟩,
  ⟨⟨some 24,Op.load 3 (Operand.tmp 23),none⟩,[]⟩,
  ⟨⟨some 25,Op.move (Operand.tmp 0),none⟩,[]⟩,
  ⟨⟨some 26,Op.move (Operand.tmp 4),none⟩,[]⟩,
  ⟨⟨some 27,Op.indexAddr 27 (Operand.tmp 25) (Operand.tmp 26),none⟩,[]⟩,
  ⟨⟨some 28,Op.load 3 (Operand.tmp 27),none⟩,[]⟩,
  ⟨⟨some 29,Op.binOp BinOp.lss 3 (Operand.tmp 24) (Operand.tmp 28) 3,none⟩,[]⟩]) (.cond (Operand.tmp 29) (.reg [⟨⟨some 30,Op.move (Operand.tmp 5),none⟩,[]⟩,
  ⟨⟨some 31,Op.binOp BinOp.add 3 (Operand.tmp 30) (Operand.const (Value.int IntKind.i64 1)) 3,none⟩,[]⟩,
  ⟨⟨some 5,Op.assign (Operand.tmp 31),none⟩,[]⟩]) .skip))) (.reg [⟨⟨some 19,Op.move (Operand.tmp 6),none⟩,[]⟩,
  ⟨⟨some 20,Op.binOp BinOp.add 3 (Operand.tmp 19) (Operand.const (Value.int IntKind.i64 1)) 3,none⟩,[]⟩,
  ⟨⟨some 6,Op.assign (Operand.tmp 20),none⟩,[]⟩])))))) (.reg [⟨⟨some 32,Op.move (Operand.tmp 3),none⟩,[]⟩,
  ⟨⟨some 33,Op.move (Operand.tmp 0),none⟩,[]⟩,
  ⟨⟨some 34,Op.call { callee := (Callee.builtin Builtin.len),args := #[(Operand.tmp 33)],argTypes := #[27] },none⟩,[]⟩,
  ⟨⟨some 35,Op.move (Operand.tmp 4),none⟩,[]⟩,
  ⟨⟨some 36,Op.binOp BinOp.sub 3 (Operand.tmp 34) (Operand.tmp 35) 3,none⟩,[]⟩,
  ⟨⟨some 37,Op.binOp BinOp.mul 3 (Operand.tmp 32) (Operand.tmp 36) 3,none⟩,[]⟩,
  ⟨⟨some 38,Op.move (Operand.tmp 5),none⟩,[]⟩,
  ⟨⟨some 39,Op.binOp BinOp.add 3 (Operand.tmp 37) (Operand.tmp 38) 3,none⟩,[]⟩,
  ⟨⟨some 3,Op.assign (Operand.tmp 39),none⟩,[]⟩])))) (.reg [⟨⟨some 11,Op.move (Operand.tmp 4),none⟩,[]⟩,
  ⟨⟨some 12,Op.binOp BinOp.add 3 (Operand.tmp 11) (Operand.const (Value.int IntKind.i64 1)) 3,none⟩,[]⟩,
  ⟨⟨some 4,Op.assign (Operand.tmp 12),none⟩,[]⟩])))))) (.seq (.reg [⟨⟨some 40,Op.move (Operand.tmp 3),none⟩,[]⟩,
  ⟨⟨some 2,Op.assign (Operand.tmp 40),none⟩,[]⟩]) .ret))))
theorem sl44 : slim Tryz.f44.ntmps ords44 (Tryz.f44.body.getD .skip) = some cd44 := by kernel_rfl
theorem in44 {args : List Value} {H : AH} {R : Value → AH → Prop} (hl : args.length = 1) (h : ∀ (Q : Exit → Sl → AH → Prop),(∀ e s H,endA Tryz.prog [ResultVar.tmp 2] R e s H → Q e s H) → wpC Tryz.prog cd44 Q (enterA args) H) : ACalls Tryz.prog 44 args H R :=
  ACalls.intro (by kernel_rfl) Tryz.func44 rfl (by kernel_rfl) sl44 hl (of_decide_eq_true (by kernel_rfl)) (by kernel_rfl) h
def ords92 : List (Nat × List (Nat × Bool)) := []
def cd92 : Cd := (.seq (.reg [⟨⟨some 2,Op.assign (Operand.const (Value.int IntKind.i64 0)),none⟩,[]⟩]) (.seq (.reg [⟨⟨some 3,Op.assign (Operand.const (Value.int IntKind.i64 1)),none⟩,[]⟩]) (.seq (.seq (.reg [⟨⟨some 4,Op.assign (Operand.const (Value.int IntKind.i64 2)),none⟩,[]⟩]) (.block 0 (.loop (.seq (.seq (.reg [⟨⟨some 5,Op.move (Operand.tmp 4),none⟩,[]⟩,
  ⟨⟨some 6,Op.move (Operand.tmp 0),none⟩,[]⟩,
  ⟨⟨some 7,Op.binOp BinOp.leq 3 (Operand.tmp 5) (Operand.tmp 6) 3,none⟩,[]⟩]) (.cond (Operand.tmp 7) .skip (.exit 0))) (.seq (.block 1 (.reg [⟨⟨some 10,Op.move (Operand.tmp 3),none⟩,[]⟩,
  ⟨⟨some 11,Op.move (Operand.tmp 4),none⟩,[]⟩,
  ⟨⟨some 12,Op.binOp BinOp.mul 3 (Operand.tmp 10) (Operand.tmp 11) 3,none⟩,[]⟩,
  ⟨⟨some 3,Op.assign (Operand.tmp 12),none⟩,[]⟩])) (.reg [⟨⟨some 8,Op.move (Operand.tmp 4),none⟩,[]⟩,
  ⟨⟨some 9,Op.binOp BinOp.add 3 (Operand.tmp 8) (Operand.const (Value.int IntKind.i64 1)) 3,none⟩,[]⟩,
  ⟨⟨some 4,Op.assign (Operand.tmp 9),none⟩,[]⟩])))))) (.seq (.reg [⟨⟨some 13,Op.move (Operand.tmp 3),none⟩,[]⟩,
  ⟨⟨some 2,Op.assign (Operand.tmp 13),none⟩,[]⟩]) .ret))))
theorem sl92 : slim Tryz.f92.ntmps ords92 (Tryz.f92.body.getD .skip) = some cd92 := by kernel_rfl
theorem in92 {args : List Value} {H : AH} {R : Value → AH → Prop} (hl : args.length = 1) (h : ∀ (Q : Exit → Sl → AH → Prop),(∀ e s H,endA Tryz.prog [ResultVar.tmp 2] R e s H → Q e s H) → wpC Tryz.prog cd92 Q (enterA args) H) : ACalls Tryz.prog 92 args H R :=
  ACalls.intro (by kernel_rfl) Tryz.func92 rfl (by kernel_rfl) sl92 hl (of_decide_eq_true (by kernel_rfl)) (by kernel_rfl) h
end Go.Proofs.YtelafbennmclfaaGreat.Ai
namespace Go.Proofs.YtelafbennmclfaaGreat.Ai
open Go Go.RowKit
theorem keyF_step (p : List Int) (i : Nat) (hi : i < p.length) (a : Int) : keyF a (p.drop i) = keyF (10 * a + p.getD i 0) (p.drop (i + 1)) := by
  rw [List.drop_eq_getElem_cons hi]
  have : p.getD i 0 = p[i] := by simp [hi]
  rw [this]; rfl
theorem ten_le {i : Nat} (h : i ≤ 8) : (10 : Int) ^ i ≤ 100000000 := by
  have : i = 0 ∨ i = 1 ∨ i = 2 ∨ i = 3 ∨ i = 4 ∨ i = 5 ∨ i = 6 ∨ i = 7 ∨ i = 8 := by omega
  rcases this with rfl | rfl | rfl | rfl | rfl | rfl | rfl | rfl | rfl <;> decide
set_option maxHeartbeats 1000000 in
theorem key_c (v : Value) (p : List Int) (H : AH) (hr : Row 3 H v p) (hp : Prm p) : ACalls Tryz.prog 38 [v] H fun r H' => r = .int .i64 (keyL p) ∧ H = H' := by
  have h8 := hp.1
  have hrg := prm_rng hp
  refine in38 rfl ?_
  intro Q hQ
  simp (maxSteps := 1000000) (disch := omega) only [cd38,hr.len Tryz.underlying27,SS,eq_self,reduceIte,reduceCtorEq,Nat.reduceEqDiff,Nat.reduceAdd]
  refine LoopH.by (fun m s H' => ∃ (i : Nat) (a : Int),m + i = p.length ∧ s 6 = v ∧ s 3 = .int .i64 a ∧ s 7 = .int .i64 (p.length : Int) ∧ s 8 = .int .i64 ((i : Nat) : Int) ∧ keyF a (p.drop i) = keyL p ∧ 0 ≤ a ∧ a < 2 * 10 ^ i ∧ H = H') p.length ?_ ?_
  · exact ⟨0,1,by simp,rfl,rfl,rfl,rfl,rfl,by decide,by decide,rfl⟩
  rintro m s H' ⟨i,a,hm,h0,h3,h7,h8',hk,ha,hb,rfl⟩
  simp (maxSteps := 1000000) (disch := omega) only [h0,h3,h7,h8',SS,eq_self,reduceIte,reduceCtorEq,Nat.reduceEqDiff,Nat.reduceAdd]
  refine brD.intro (fun g => ?_) (fun g => ?_)
  · have hi : i < p.length := by omega
    have hx := hrg (p.getD i 0) (by simp [hi])
    rw [keyF_step p i hi] at hk
    have ht := ten_le (i := i) (by omega)
    have hpw : (10 : Int) ^ (i + 1) = 10 * 10 ^ i := by rw [Int.pow_succ]; omega
    have f2 : 10 * a + p.getD i 0 < 2 * 10 ^ (i + 1) := by omega
    simp (maxSteps := 1000000) (disch := omega) only [h0,h3,h7,h8',hr.ix Tryz.underlying27 cs3,hr.cell,Int.toNat_natCast,wrap64,SS,eq_self,reduceIte,reduceCtorEq,Nat.reduceEqDiff,Nat.reduceAdd]
    refine ⟨m - 1,by omega,i + 1,10 * a + p.getD i 0,?_⟩
    (repeat' apply And.intro) <;> first | exact hk | exact f2 | (simp only [Value.int.injEq,true_and]; omega) | omega | rfl | assumption | (simp; done) | (simp; omega)
  · simp (maxSteps := 1000000) (disch := omega) only [h3,SS,eq_self,reduceIte,reduceCtorEq,Nat.reduceEqDiff,Nat.reduceAdd]
    refine hQ _ _ _ ?_
    simp (maxSteps := 1000000) (disch := omega) only [h3,SS,eq_self,reduceIte,reduceCtorEq,Nat.reduceEqDiff,Nat.reduceAdd]
    rw [List.drop_of_length_le (by omega)] at hk
    rw [← hk]; rfl
theorem nine_le {i : Nat} (h : i ≤ 8) : (9 : Int) ^ i ≤ 43046721 := by
  have : i = 0 ∨ i = 1 ∨ i = 2 ∨ i = 3 ∨ i = 4 ∨ i = 5 ∨ i = 6 ∨ i = 7 ∨ i = 8 := by omega
  rcases this with rfl | rfl | rfl | rfl | rfl | rfl | rfl | rfl | rfl <;> decide
theorem cdF_step (p : List Int) (i : Nat) (hi : i < p.length) (c : Int) : cdF c (p.drop i) = cdF (c * ((p.length : Int) - (i : Int)) + (((p.drop (i + 1)).countP fun y => decide (y < p.getD i 0) : Nat) : Int)) (p.drop (i + 1)) := by
  rw [List.drop_eq_getElem_cons hi]
  have e1 : p.getD i 0 = p[i] := by simp [hi]
  have e2 : (((p.drop (i + 1)).length : Nat) : Int) + 1 = (p.length : Int) - (i : Int) := by simp; omega
  rw [e1,← e2]; rfl
theorem countP_take (q : Int → Bool) (l : List Int) (j : Nat) (hj : j < l.length) : (l.take (j + 1)).countP q = (l.take j).countP q + if q (l.getD j 0) = true then 1 else 0 := by
  rw [List.take_add_one,List.getElem?_eq_getElem hj,List.countP_append]
  have : l.getD j 0 = l[j] := by simp [hj]
  rw [this]
  simp [List.countP_cons]
set_option maxHeartbeats 2000000 in
theorem l9Code_c (v : Value) (p : List Int) (H : AH) (hr : Row 3 H v p) (hl : p.length ≤ 8) : ACalls Tryz.prog 44 [v] H fun r H' => r = .int .i64 (cod p) ∧ H = H' := by
  refine in44 rfl ?_
  intro Q hQ
  simp (maxSteps := 1000000) (disch := omega) only [cd44,SS,eq_self,reduceIte,reduceCtorEq,Nat.reduceEqDiff,Nat.reduceAdd]
  refine LoopH.by (fun m s H' => ∃ (i : Nat) (c : Int),m + i = p.length ∧ s 0 = v ∧ s 3 = .int .i64 c ∧ s 4 = .int .i64 ((i : Nat) : Int) ∧ cdF c (p.drop i) = cod p ∧ 0 ≤ c ∧ c < 9 ^ i ∧ H = H') p.length ?_ ?_
  · exact ⟨0,0,by simp,rfl,rfl,rfl,rfl,by decide,by decide,rfl⟩
  rintro m s H' ⟨i,c,hm,h0,h3,h4,hk,ha,hb,rfl⟩
  simp (maxSteps := 1000000) (disch := omega) only [h0,h3,h4,hr.len Tryz.underlying27,SS,eq_self,reduceIte,reduceCtorEq,Nat.reduceEqDiff,Nat.reduceAdd]
  refine brD.intro (fun g => ?_) (fun g => ?_)
  rotate_left
  · simp (maxSteps := 1000000) (disch := omega) only [h3,SS,eq_self,reduceIte,reduceCtorEq,Nat.reduceEqDiff,Nat.reduceAdd]
    refine hQ _ _ _ ?_
    simp (maxSteps := 1000000) (disch := omega) only [h3,SS,eq_self,reduceIte,reduceCtorEq,Nat.reduceEqDiff,Nat.reduceAdd]
    rw [List.drop_of_length_le (by omega)] at hk
    rw [← hk]; rfl
  have hi : i < p.length := by omega
  rw [cdF_step p i hi] at hk
  have ht := nine_le (i := i) (by omega)
  have hpw : (9 : Int) ^ (i + 1) = 9 * 9 ^ i := by rw [Int.pow_succ]; omega
  have hdl : (p.drop (i + 1)).length = p.length - (i + 1) := by simp
  simp (maxSteps := 1000000) (disch := omega) only [h0,h3,h4,wrap64,SS,eq_self,reduceIte,reduceCtorEq,Nat.reduceEqDiff,Nat.reduceAdd]
  refine LoopH.by (fun m' s' H' => ∃ j : Nat,m' + j = p.length - (i + 1) ∧ s' 0 = v ∧ s' 3 = .int .i64 c ∧ s' 4 = .int .i64 ((i : Nat) : Int) ∧ s' 5 = .int .i64 (((((p.drop (i + 1)).take j).countP fun y => decide (y < p.getD i 0) : Nat)) : Int) ∧ s' 6 = .int .i64 ((i + 1 + j : Nat) : Int) ∧ H = H') (p.length - (i + 1)) ?_ ?_
  · refine ⟨0,by omega,?_⟩
    simp (maxSteps := 1000000) (disch := omega) only [h0,h3,h4,SS,eq_self,reduceIte,reduceCtorEq,Nat.reduceEqDiff,Nat.reduceAdd]
    (repeat' apply And.intro) <;> first | (simp only [Value.int.injEq,true_and]; omega) | omega | rfl | assumption | (simp; done) | (simp; omega)
  rintro m' s' H' ⟨j,hm',k0,k3,k4,k5,k6,rfl⟩
  have hcl : ((p.drop (i + 1)).take j).countP (fun y => decide (y < p.getD i 0)) ≤ j := Nat.le_trans List.countP_le_length (by simp; omega)
  simp (maxSteps := 1000000) (disch := omega) only [k0,k3,k4,k5,k6,hr.len Tryz.underlying27,SS,eq_self,reduceIte,reduceCtorEq,Nat.reduceEqDiff,Nat.reduceAdd]
  refine brD.intro (fun q => ?_) (fun q => ?_)
  · have hj : j < (p.drop (i + 1)).length := by omega
    have hst := countP_take (fun y => decide (y < p.getD i 0)) (p.drop (i + 1)) j hj
    have hge : (p.drop (i + 1)).getD j 0 = p.getD (i + 1 + j) 0 := by
      rw [List.getD_eq_getElem?_getD,List.getElem?_drop,← List.getD_eq_getElem?_getD]
    rw [hge] at hst
    simp (maxSteps := 1000000) (disch := omega) only [k0,k3,k4,k5,k6,hr.ix Tryz.underlying27 cs3,hr.cell,Int.toNat_natCast,SS,eq_self,reduceIte,reduceCtorEq,Nat.reduceEqDiff,Nat.reduceAdd]
    have e6 : ((i + 1 + j : Nat) : Int) + 1 = ((i + 1 + (j + 1) : Nat) : Int) := by omega
    refine brD.intro (fun e => ?_) (fun e => ?_)
    · rw [if_pos (decide_eq_true e)] at hst
      simp (maxSteps := 1000000) (disch := omega) only [k0,k3,k4,k5,k6,wrap64,SS,eq_self,reduceIte,reduceCtorEq,Nat.reduceEqDiff,Nat.reduceAdd]
      refine ⟨m' - 1,by omega,j + 1,?_⟩
      rw [hst]
      (repeat' apply And.intro) <;> first | (simp only [Value.int.injEq,true_and]; omega) | omega | rfl | assumption | (simp; done) | (simp; omega)
    · rw [if_neg (by simpa using e)] at hst
      simp (maxSteps := 1000000) (disch := omega) only [k0,k3,k4,k5,k6,wrap64,SS,eq_self,reduceIte,reduceCtorEq,Nat.reduceEqDiff,Nat.reduceAdd]
      refine ⟨m' - 1,by omega,j + 1,?_⟩
      rw [hst]
      (repeat' apply And.intro) <;> first | (simp only [Value.int.injEq,true_and]; omega) | omega | rfl | assumption | (simp; done) | (simp; omega)
  · have hj : j = p.length - (i + 1) := by omega
    subst hj
    rw [List.take_of_length_le (by simp)] at k5 hcl
    generalize hct : (p.drop (i + 1)).countP (fun y => decide (y < p.getD i 0)) = ct at *
    have hm1 : c * ((p.length : Int) - (i : Int)) ≤ c * 8 := Int.mul_le_mul_of_nonneg_left (by omega) ha
    have hm0 : 0 ≤ c * ((p.length : Int) - (i : Int)) := Int.mul_nonneg ha (by omega)
    generalize hcm : c * ((p.length : Int) - (i : Int)) = cm at *
    have e1 : IntKind.i64.wrap ((p.length : Int) - (i : Int)) = (p.length : Int) - (i : Int) := wrap64 (by omega) (by omega)
    simp (maxSteps := 1000000) (disch := omega) only [k0,k3,k4,k5,k6,hr.len Tryz.underlying27,e1,hcm,wrap64,SS,eq_self,reduceIte,reduceCtorEq,Nat.reduceEqDiff,Nat.reduceAdd]
    have f2 : cm + (ct : Int) < 9 ^ (i + 1) := by omega
    refine ⟨m - 1,by omega,i + 1,cm + ct,?_⟩
    (repeat' apply And.intro) <;> first | exact hk | exact f2 | (simp only [Value.int.injEq,true_and]; omega) | omega | rfl | assumption | (simp; done) | (simp; omega)
theorem mny_le8 {n : Nat} (hn : n ≤ 8) : 1 ≤ mny n ∧ mny n ≤ 40320 := by
  have : n = 0 ∨ n = 1 ∨ n = 2 ∨ n = 3 ∨ n = 4 ∨ n = 5 ∨ n = 6 ∨ n = 7 ∨ n = 8 := by omega
  rcases this with rfl | rfl | rfl | rfl | rfl | rfl | rfl | rfl | rfl <;> decide
set_option maxHeartbeats 1000000 in
theorem l9Many_c (n : Nat) (H : AH) (hn : n ≤ 8) : ACalls Tryz.prog 92 [.int .i64 (n : Int)] H fun r H' => r = .int .i64 (mny n : Int) ∧ H = H' := by
  refine in92 rfl ?_
  intro Q hQ
  simp (maxSteps := 1000000) (disch := omega) only [cd92,SS,eq_self,reduceIte,reduceCtorEq,Nat.reduceEqDiff,Nat.reduceAdd]
  refine LoopH.by (fun m s H' => ∃ i,m + i = n + 1 ∧ s 0 = .int .i64 (n : Int) ∧ s 3 = .int .i64 (mny i : Int) ∧ s 4 = .int .i64 ((i : Nat) + 1 : Int) ∧ 1 ≤ i ∧ (i ≤ n ∨ (i = 1 ∧ n = 0)) ∧ H = H') n ?_ ?_
  · exact ⟨1,by omega,rfl,rfl,rfl,by omega,by omega,rfl⟩
  rintro m s H' ⟨i,hm,h0,h3,h4,h1,hi,rfl⟩
  simp (maxSteps := 1000000) (disch := omega) only [h0,h3,h4,SS,eq_self,reduceIte,reduceCtorEq,Nat.reduceEqDiff,Nat.reduceAdd]
  refine brD.intro (fun g => ?_) (fun g => ?_)
  · have hb := mny_le8 (n := i) (by omega)
    have hb2 := mny_le8 (n := i + 1) (by omega)
    have e : (mny i : Int) * ((i : Int) + 1) = ((mny (i + 1) : Nat) : Int) := by
      show _ = ((mny i * (i + 1) : Nat) : Int)
      rw [Int.natCast_mul]; rfl
    simp (maxSteps := 1000000) (disch := omega) only [h0,h3,h4,e,wrap64,SS,eq_self,reduceIte,reduceCtorEq,Nat.reduceEqDiff,Nat.reduceAdd]
    refine ⟨m - 1,by omega,i + 1,?_⟩
    (repeat' apply And.intro) <;> first | (simp only [Value.int.injEq,true_and]; omega) | omega | rfl | assumption | (simp; done) | (simp; omega)
  · simp (maxSteps := 1000000) (disch := omega) only [h3,SS,eq_self,reduceIte,reduceCtorEq,Nat.reduceEqDiff,Nat.reduceAdd]
    refine hQ _ _ _ ?_
    simp (maxSteps := 1000000) (disch := omega) only [h3,SS,eq_self,reduceIte,reduceCtorEq,Nat.reduceEqDiff,Nat.reduceAdd]
    rcases hi with hi | ⟨rfl,rfl⟩
    · have : i = n := by omega
      rw [this]
    · rfl
def ords137 : List (Nat × List (Nat × Bool)) := []
def cd137 : Cd := (.seq (.reg [⟨⟨some 4,Op.assign (Operand.const (Value.int IntKind.u64 0)),none⟩,[]⟩,
  ⟨⟨some 5,Op.assign (Operand.const (Value.int IntKind.u64 0)),none⟩,[]⟩]) (.seq (.reg [⟨⟨some 14,Op.move (Operand.tmp 0),none⟩,[]⟩,
  ⟨⟨some 15,Op.binOp BinOp.and 69 (Operand.tmp 14) (Operand.const (Value.int IntKind.u64 4294967295)) 69,none⟩,[]⟩,
  ⟨⟨some 6,Op.assign (Operand.tmp 15),none⟩,[]⟩]) (.seq (.reg [⟨⟨some 16,Op.move (Operand.tmp 0),none⟩,[]⟩,
  ⟨⟨some 17,Op.binOp BinOp.shr 69 (Operand.tmp 16) (Operand.const (Value.int IntKind.u64 32)) 110,none⟩,[]⟩,
  ⟨⟨some 7,Op.assign (Operand.tmp 17),none⟩,[]⟩]) (.seq (.reg [⟨⟨some 18,Op.move (Operand.tmp 1),none⟩,[]⟩,
  ⟨⟨some 19,Op.binOp BinOp.and 69 (Operand.tmp 18) (Operand.const (Value.int IntKind.u64 4294967295)) 69,none⟩,[]⟩,
  ⟨⟨some 8,Op.assign (Operand.tmp 19),none⟩,[]⟩]) (.seq (.reg [⟨⟨some 20,Op.move (Operand.tmp 1),none⟩,[]⟩,
  ⟨⟨some 21,Op.binOp BinOp.shr 69 (Operand.tmp 20) (Operand.const (Value.int IntKind.u64 32)) 110,none⟩,[]⟩,
  ⟨⟨some 9,Op.assign (Operand.tmp 21),none⟩,[]⟩]) (.seq (.reg [⟨⟨some 22,Op.move (Operand.tmp 6),none⟩,[]⟩,
  ⟨⟨some 23,Op.move (Operand.tmp 8),none⟩,[]⟩,
  ⟨⟨some 24,Op.binOp BinOp.mul 69 (Operand.tmp 22) (Operand.tmp 23) 69,none⟩,[]⟩,
  ⟨⟨some 10,Op.assign (Operand.tmp 24),none⟩,[]⟩]) (.seq (.reg [⟨⟨some 25,Op.move (Operand.tmp 7),none⟩,[]⟩,
  ⟨⟨some 26,Op.move (Operand.tmp 8),none⟩,[]⟩,
  ⟨⟨some 27,Op.binOp BinOp.mul 69 (Operand.tmp 25) (Operand.tmp 26) 69,none⟩,[]⟩,
  ⟨⟨some 28,Op.move (Operand.tmp 10),none⟩,[]⟩,
  ⟨⟨some 29,Op.binOp BinOp.shr 69 (Operand.tmp 28) (Operand.const (Value.int IntKind.u64 32)) 110,none⟩,[]⟩,
  ⟨⟨some 30,Op.binOp BinOp.add 69 (Operand.tmp 27) (Operand.tmp 29) 69,none⟩,[]⟩,
  ⟨⟨some 11,Op.assign (Operand.tmp 30),none⟩,[]⟩]) (.seq (.reg [⟨⟨some 31,Op.move (Operand.tmp 11),none⟩,[]⟩,
  ⟨⟨some 32,Op.binOp BinOp.and 69 (Operand.tmp 31) (Operand.const (Value.int IntKind.u64 4294967295)) 69,none⟩,[]⟩,
  ⟨⟨some 12,Op.assign (Operand.tmp 32),none⟩,[]⟩]) (.seq (.reg [⟨⟨some 33,Op.move (Operand.tmp 11),none⟩,[]⟩,
  ⟨⟨some 34,Op.binOp BinOp.shr 69 (Operand.tmp 33) (Operand.const (Value.int IntKind.u64 32)) 110,none⟩,[]⟩,
  ⟨⟨some 13,Op.assign (Operand.tmp 34),none⟩,[]⟩]) (.seq (.reg [⟨⟨some 35,Op.move (Operand.tmp 12),none⟩,[]⟩,
  ⟨⟨some 36,Op.move (Operand.tmp 6),none⟩,[]⟩,
  ⟨⟨some 37,Op.move (Operand.tmp 9),none⟩,[]⟩,
  ⟨⟨some 38,Op.binOp BinOp.mul 69 (Operand.tmp 36) (Operand.tmp 37) 69,none⟩,[]⟩,
  ⟨⟨some 39,Op.binOp BinOp.add 69 (Operand.tmp 35) (Operand.tmp 38) 69,none⟩,[]⟩,
  ⟨⟨some 12,Op.assign (Operand.tmp 39),none⟩,[]⟩]) (.seq (.reg [⟨⟨some 40,Op.move (Operand.tmp 7),none⟩,[]⟩,
  ⟨⟨some 41,Op.move (Operand.tmp 9),none⟩,[]⟩,
  ⟨⟨some 42,Op.binOp BinOp.mul 69 (Operand.tmp 40) (Operand.tmp 41) 69,none⟩,[]⟩,
  ⟨⟨some 43,Op.move (Operand.tmp 13),none⟩,[]⟩,
  ⟨⟨some 44,Op.binOp BinOp.add 69 (Operand.tmp 42) (Operand.tmp 43) 69,none⟩,[]⟩,
  ⟨⟨some 45,Op.move (Operand.tmp 12),none⟩,[]⟩,
  ⟨⟨some 46,Op.binOp BinOp.shr 69 (Operand.tmp 45) (Operand.const (Value.int IntKind.u64 32)) 110,none⟩,[]⟩,
  ⟨⟨some 47,Op.binOp BinOp.add 69 (Operand.tmp 44) (Operand.tmp 46) 69,none⟩,[]⟩,
  ⟨⟨some 4,Op.assign (Operand.tmp 47),none⟩,[]⟩]) (.seq (.reg [⟨⟨some 48,Op.move (Operand.tmp 0),none⟩,[]⟩,
  ⟨⟨some 49,Op.move (Operand.tmp 1),none⟩,[]⟩,
  ⟨⟨some 50,Op.binOp BinOp.mul 69 (Operand.tmp 48) (Operand.tmp 49) 69,none⟩,[]⟩,
  ⟨⟨some 5,Op.assign (Operand.tmp 50),none⟩,[]⟩]) .ret))))))))))))
theorem sl137 : slim Tryz.f137.ntmps ords137 (Tryz.f137.body.getD .skip) = some cd137 := by kernel_rfl
theorem in137 {args : List Value} {H : AH} {R : Value → AH → Prop} (hl : args.length = 2) (h : ∀ (Q : Exit → Sl → AH → Prop),(∀ e s H,endA Tryz.prog [ResultVar.tmp 4,ResultVar.tmp 5] R e s H → Q e s H) → wpC Tryz.prog cd137 Q (enterA args) H) : ACalls Tryz.prog 137 args H R :=
  ACalls.intro (by kernel_rfl) Tryz.func137 rfl (by kernel_rfl) sl137 hl (of_decide_eq_true (by kernel_rfl)) (by kernel_rfl) h
def ords122 : List (Nat × List (Nat × Bool)) := []
def cd122 : Cd := (.seq (.reg [⟨⟨some 4,Op.assign (Operand.const (Value.int IntKind.u64 0)),none⟩,[]⟩,
  ⟨⟨some 5,Op.assign (Operand.const (Value.int IntKind.u64 0)),none⟩,[]⟩]) (.seq (.cond (Operand.const (Value.bool false)) (.seq (.reg [⟨⟨some 11,Op.move (Operand.tmp 0),none⟩,[]⟩,
  ⟨⟨some 12,Op.convert 110 132 (Operand.tmp 11),none⟩,[]⟩,
  ⟨⟨some 13,Op.move (Operand.tmp 1),none⟩,[]⟩,
  ⟨⟨some 14,Op.convert 110 132 (Operand.tmp 13),none⟩,[]⟩,
  ⟨⟨some 15,Op.call { callee := (Callee.value (Operand.func 136)),args := #[(Operand.tmp 12),(Operand.tmp 14)],argTypes := #[132,132] },none⟩,[]⟩,
  ⟨⟨some 10,Op.move (Operand.tmp 15),none⟩,[]⟩,
  ⟨⟨some 16,Op.extract (Operand.tmp 10) 0,none⟩,[]⟩,
  ⟨⟨some 17,Op.extract (Operand.tmp 10) 1,none⟩,[]⟩,
  ⟨⟨some 6,Op.assign (Operand.tmp 16),none⟩,[]⟩,
  ⟨⟨some 7,Op.assign (Operand.tmp 17),none⟩,[]⟩]) (.seq (.reg [⟨⟨some 18,Op.move (Operand.tmp 6),none⟩,[]⟩,
  ⟨⟨some 19,Op.convert 132 110 (Operand.tmp 18),none⟩,[]⟩,
  ⟨⟨some 20,Op.move (Operand.tmp 7),none⟩,[]⟩,
  ⟨⟨some 21,Op.convert 132 110 (Operand.tmp 20),none⟩,[]⟩,
  ⟨⟨some 4,Op.assign (Operand.tmp 19),none⟩,[]⟩,
  ⟨⟨some 5,Op.assign (Operand.tmp 21),none⟩,[]⟩]) .ret)) .skip) (.seq (.reg [⟨⟨some 23,Op.move (Operand.tmp 0),none⟩,[]⟩,
  ⟨⟨some 24,Op.move (Operand.tmp 1),none⟩,[]⟩,
  ⟨⟨some 25,Op.call { callee := (Callee.value (Operand.func 137)),args := #[(Operand.tmp 23),(Operand.tmp 24)],argTypes := #[69,69] },none⟩,[]⟩,
  ⟨⟨some 22,Op.move (Operand.tmp 25),none⟩,[]⟩,
  ⟨⟨some 26,Op.extract (Operand.tmp 22) 0,none⟩,[]⟩,
  ⟨⟨some 27,Op.extract (Operand.tmp 22) 1,none⟩,[]⟩,
  ⟨⟨some 8,Op.assign (Operand.tmp 26),none⟩,[]⟩,
  ⟨⟨some 9,Op.assign (Operand.tmp 27),none⟩,[]⟩]) (.seq (.reg [⟨⟨some 28,Op.move (Operand.tmp 8),none⟩,[]⟩,
  ⟨⟨some 29,Op.move (Operand.tmp 9),none⟩,[]⟩,
  ⟨⟨some 4,Op.assign (Operand.tmp 28),none⟩,[]⟩,
  ⟨⟨some 5,Op.assign (Operand.tmp 29),none⟩,[]⟩]) .ret))))
theorem sl122 : slim Tryz.f122.ntmps ords122 (Tryz.f122.body.getD .skip) = some cd122 := by kernel_rfl
theorem in122 {args : List Value} {H : AH} {R : Value → AH → Prop} (hl : args.length = 2) (h : ∀ (Q : Exit → Sl → AH → Prop),(∀ e s H,endA Tryz.prog [ResultVar.tmp 4,ResultVar.tmp 5] R e s H → Q e s H) → wpC Tryz.prog cd122 Q (enterA args) H) : ACalls Tryz.prog 122 args H R :=
  ACalls.intro (by kernel_rfl) Tryz.func122 rfl (by kernel_rfl) sl122 hl (of_decide_eq_true (by kernel_rfl)) (by kernel_rfl) h
def ords100 : List (Nat × List (Nat × Bool)) := [(9,[(0,false),(1,false),(2,false),(3,false),(4,false),(5,false),(6,false),(7,true),(8,false),(9,true)])]
def cd100 : Cd := (.seq (.reg [⟨⟨some 4,Op.assign (Operand.const (Value.slice none 0 0)),none⟩,[]⟩]) (.seq (.seq (.reg [⟨⟨some 9,Op.move (Operand.tmp 1),none⟩,[]⟩,
  ⟨⟨some 10,Op.binOp BinOp.lss 3 (Operand.tmp 9) (Operand.const (Value.int IntKind.i64 0)) 3,none⟩,[]⟩]) (.cond (Operand.tmp 10) (.reg [⟨⟨some 11,Op.makeInterface 9 (Operand.const (Value.string { data := #[99,97,110,110,111,116,32,98,101,32,110,101,103,97,116,105,118,101] })),none⟩,[]⟩,
  ⟨⟨none,Op.panic (Operand.tmp 11),none⟩,[]⟩]) .skip)) (.seq (.reg [⟨⟨some 13,Op.move (Operand.tmp 0),none⟩,[]⟩,
  ⟨⟨some 14,Op.call { callee := (Callee.builtin Builtin.len),args := #[(Operand.tmp 13)],argTypes := #[27] },none⟩,[]⟩,
  ⟨⟨some 15,Op.convert 3 110 (Operand.tmp 14),none⟩,[]⟩,
  ⟨⟨some 16,Op.move (Operand.tmp 1),none⟩,[]⟩,
  ⟨⟨some 17,Op.convert 3 110 (Operand.tmp 16),none⟩,[]⟩,
  ⟨⟨some 18,Op.call { callee := (Callee.value (Operand.func 122)),args := #[(Operand.tmp 15),(Operand.tmp 17)],argTypes := #[110,110] },none⟩,[]⟩,
  ⟨⟨some 12,Op.move (Operand.tmp 18),none⟩,[]⟩,
  ⟨⟨some 19,Op.extract (Operand.tmp 12) 0,none⟩,[]⟩,
  ⟨⟨some 20,Op.extract (Operand.tmp 12) 1,none⟩,[]⟩,
  ⟨⟨some 5,Op.assign (Operand.tmp 19),none⟩,[]⟩,
  ⟨⟨some 6,Op.assign (Operand.tmp 20),none⟩,[]⟩]) (.seq (.seq (.reg [⟨⟨some 21,Op.move (Operand.tmp 5),none⟩,[]⟩,
  ⟨⟨some 22,Op.binOp BinOp.gtr 110 (Operand.tmp 21) (Operand.const (Value.int IntKind.u64 0)) 110,none⟩,[]⟩,
  ⟨⟨some 23,Op.move (Operand.tmp 22),none⟩,[]⟩,
  ⟨⟨some 24,Op.move (Operand.tmp 6),some (23,false)⟩,[]⟩,
  ⟨⟨some 25,Op.binOp BinOp.gtr 110 (Operand.tmp 24) (Operand.const (Value.int IntKind.u64 9223372036854775807)) 110,some (23,false)⟩,[]⟩,
  ⟨⟨some 26,Op.pick (Operand.tmp 23) (Operand.const (Value.bool true)) (Operand.tmp 25),none⟩,[]⟩]) (.cond (Operand.tmp 26) (.reg [⟨⟨some 27,Op.makeInterface 9 (Operand.const (Value.string { data := #[116,104,101,32,114,101,115,117,108,116,32,111,102,32,40,108,101,110,40,120,41,32,42,32,99,111,117,110,116,41,32,111,118,101,114,102,108,111,119,115] })),none⟩,[]⟩,
  ⟨⟨none,Op.panic (Operand.tmp 27),none⟩,[]⟩]) .skip)) (.seq (.reg [⟨⟨some 28,Op.move (Operand.tmp 6),none⟩,[]⟩,
  ⟨⟨some 29,Op.convert 110 3 (Operand.tmp 28),none⟩,[]⟩,
  ⟨⟨some 30,Op.makeSlice 27 (Operand.tmp 29) (Operand.tmp 29),none⟩,[]⟩,
  ⟨⟨some 7,Op.assign (Operand.tmp 30),none⟩,[]⟩]) (.seq (.reg [⟨⟨some 31,Op.move (Operand.tmp 7),none⟩,[]⟩,
  ⟨⟨some 32,Op.move (Operand.tmp 0),none⟩,[]⟩,
  ⟨⟨some 33,Op.call { callee := (Callee.builtin Builtin.copy),args := #[(Operand.tmp 31),(Operand.tmp 32)],argTypes := #[27,27] },none⟩,[]⟩,
  ⟨⟨some 8,Op.assign (Operand.tmp 33),none⟩,[]⟩]) (.seq (.block 0 (.loop (.seq (.seq (.reg [⟨⟨some 34,Op.move (Operand.tmp 8),none⟩,[]⟩,
  ⟨⟨some 35,Op.move (Operand.tmp 7),none⟩,[]⟩,
  ⟨⟨some 36,Op.call { callee := (Callee.builtin Builtin.len),args := #[(Operand.tmp 35)],argTypes := #[27] },none⟩,[]⟩,
  ⟨⟨some 37,Op.binOp BinOp.lss 3 (Operand.tmp 34) (Operand.tmp 36) 3,none⟩,[]⟩]) (.cond (Operand.tmp 37) .skip (.exit 0))) (.block 1 (.reg [⟨⟨some 38,Op.move (Operand.tmp 8),none⟩,[]⟩,
  ⟨⟨some 39,Op.move (Operand.tmp 7),none⟩,[]⟩,
  ⟨⟨some 40,Op.move (Operand.tmp 8),none⟩,[]⟩,
  ⟨⟨some 41,Op.slice 27 (Operand.tmp 39) (some (Operand.tmp 40)) none none,none⟩,[]⟩,
  ⟨⟨some 42,Op.move (Operand.tmp 7),none⟩,[]⟩,
  ⟨⟨some 43,Op.move (Operand.tmp 8),none⟩,[]⟩,
  ⟨⟨some 44,Op.slice 27 (Operand.tmp 42) none (some (Operand.tmp 43)) none,none⟩,[]⟩,
  ⟨⟨some 45,Op.call { callee := (Callee.builtin Builtin.copy),args := #[(Operand.tmp 41),(Operand.tmp 44)],argTypes := #[27,27] },none⟩,[]⟩,
  ⟨⟨some 46,Op.binOp BinOp.add 3 (Operand.tmp 38) (Operand.tmp 45) 3,none⟩,[]⟩,
  ⟨⟨some 8,Op.assign (Operand.tmp 46),none⟩,[]⟩]))))) (.seq (.reg [⟨⟨some 47,Op.move (Operand.tmp 7),none⟩,[]⟩,
  ⟨⟨some 4,Op.assign (Operand.tmp 47),none⟩,[]⟩]) .ret))))))))
theorem sl100 : slim Tryz.f100.ntmps ords100 (Tryz.f100.body.getD .skip) = some cd100 := by kernel_rfl
theorem in100 {args : List Value} {H : AH} {R : Value → AH → Prop} (hl : args.length = 2) (h : ∀ (Q : Exit → Sl → AH → Prop),(∀ e s H,endA Tryz.prog [ResultVar.tmp 4] R e s H → Q e s H) → wpC Tryz.prog cd100 Q (enterA args) H) : ACalls Tryz.prog 100 args H R :=
  ACalls.intro (by kernel_rfl) Tryz.func100 rfl (by kernel_rfl) sl100 hl (of_decide_eq_true (by kernel_rfl)) (by kernel_rfl) h
end Go.Proofs.YtelafbennmclfaaGreat.Ai
namespace Go.Proofs.YtelafbennmclfaaGreat.Ai
open Go Go.RowKit
theorem sl_own {P : Program} {t e : TypeId} (hu : P.underlying t = some (.slice e)) (hc : P.cellsOf e = 1) {H : AH} {o k n c : Nat} {vs : List Value} {ro : Bool} (ho : H[o]? = some (.cells vs e ro)) {lo hi : Option Value} {l r : Nat} (h1 : boundA lo 0 = some l) (h2 : boundA hi n = some r) (hl : l ≤ r) (hr : r ≤ n) :
    sliceA P t (.slice (some ⟨o,k,none⟩) n c) lo hi none H = some (.slice (some ⟨o,k + l,none⟩) (r - l) (r - l)) := by
  simp only [sliceA,hu,h1,h2,ho,hc,Nat.mul_one]
  rw [if_pos ⟨hl,hr,trivial,Nat.one_pos⟩]
theorem cp_ints {P : Program} {t e : TypeId} (hu : P.underlying t = some (.slice e)) (hc : P.cellsOf e = 1) {H : AH} {o k n c : Nat} {xs ys : List Int} {x : Value} (ho : H[o]? = some (.cells (ints xs) e false)) (hr : Row e H x ys) (hm : 0 < ys.length) (hn : 0 < n) (hb : k + n ≤ xs.length) :
    copyA P t (.slice (some ⟨o,k,none⟩) n c) x H = some (.int .i64 ((min ys.length n : Nat) : Int),H.set o (.cells (ints (xs.take k ++ ys.take (min ys.length n) ++ xs.drop (k + min ys.length n))) e false)) := by
  have hs := hr.cells (P := P) hc
  simp only [copyA,hu,ho,hs,hc,Nat.mul_one]
  rw [if_pos ⟨trivial,Nat.one_pos,hm,hn,by rw [ints_len]; exact hb⟩]
  have : putAt (ints xs) k ((ints ys).take (min ys.length n)) = ints (xs.take k ++ ys.take (min ys.length n) ++ xs.drop (k + min ys.length n)) := by
    unfold putAt
    have e1 : ((ints ys).take (min ys.length n)).length = min ys.length n := by rw [List.length_take,ints_len]; omega
    rw [e1]
    simp [ints,List.map_take,List.map_drop]
  rw [this]
theorem mul_one_u (P : Program) (t : TypeId) (n : Nat) (h : n < 18446744073709551616) : binA P .mul t (.int .u64 1) (.int .u64 (n : Int)) = some (.int .u64 (n : Int)) := by
  simp only [binA,intA,Int.one_mul,IntKind.wrap_u64]
  simp
  omega
theorem mul_zero_u (P : Program) (t : TypeId) (n : Nat) : binA P .mul t (.int .u64 0) (.int .u64 (n : Int)) = some (.int .u64 0) := by
  simp only [binA,intA,Int.zero_mul,IntKind.wrap_u64]
  simp
theorem shr32 (P : Program) (t : TypeId) (n : Nat) (h : n < 4294967296) : binA P .shr t (.int .u64 (n : Int)) (.int .u64 32) = some (.int .u64 0) := by
  simp only [binA,shiftA]
  rw [if_pos (.inr trivial),if_neg (by decide)]
  congr 2
  have : (2 ^ min (32 : Int).toNat IntKind.u64.bits : Int) = 4294967296 := by decide
  rw [this,Int.fdiv_eq_ediv_of_nonneg _ (by decide)]
  omega
theorem and32 (P : Program) (t : TypeId) (n : Nat) (h : n < 4294967296) : binA P .and t (.int .u64 (n : Int)) (.int .u64 4294967295) = some (.int .u64 (n : Int)) := by
  have := bin_and P t n 4294967295 (by omega) (by decide)
  have e : n &&& 4294967295 = n := by
    rw [show 4294967295 = 2 ^ 32 - 1 from rfl,Nat.and_two_pow_sub_one_eq_mod]
    exact Nat.mod_eq_of_lt h
  rw [e] at this
  exact this
set_option maxRecDepth 20000 in
theorem Mul64_c (n : Nat) (H : AH) (hn : n < 4294967296) : ACalls Tryz.prog 137 [.int .u64 1,.int .u64 (n : Int)] H fun r H' => r = .tuple (List.toArray [.int .u64 0,.int .u64 (n : Int)]) ∧ H = H' := by
  refine in137 rfl ?_
  intro Q hQ
  have k1 : binA Tryz.prog .and 69 (.int .u64 1) (.int .u64 4294967295) = some (.int .u64 1) := by kernel_rfl
  have k2 : binA Tryz.prog .shr 69 (.int .u64 1) (.int .u64 32) = some (.int .u64 0) := by kernel_rfl
  have k3 := and32 Tryz.prog 69 n hn
  have k4 := shr32 Tryz.prog 69 n hn
  have k5 := mul_one_u Tryz.prog 69 n (by omega)
  have k6 := mul_zero_u Tryz.prog 69 n
  have k7 : binA Tryz.prog .add 69 (.int .u64 0) (.int .u64 0) = some (.int .u64 0) := by kernel_rfl
  have k8 : binA Tryz.prog .and 69 (.int .u64 0) (.int .u64 4294967295) = some (.int .u64 0) := by kernel_rfl
  have k9 : binA Tryz.prog .shr 69 (.int .u64 0) (.int .u64 32) = some (.int .u64 0) := by kernel_rfl
  have k10 : binA Tryz.prog .mul 69 (.int .u64 1) (.int .u64 0) = some (.int .u64 0) := by kernel_rfl
  have k11 : binA Tryz.prog .mul 69 (.int .u64 0) (.int .u64 0) = some (.int .u64 0) := by kernel_rfl
  simp (maxSteps := 1000000) (disch := omega) only [cd137,k1,k2,k3,k4,k5,k6,k7,k8,k9,k10,k11,SS,eq_self,reduceIte,reduceCtorEq,Nat.reduceEqDiff,Nat.reduceAdd]
  refine hQ _ _ _ ?_
  simp (maxSteps := 1000000) (disch := omega) only [SS,eq_self,reduceIte,reduceCtorEq,Nat.reduceEqDiff,Nat.reduceAdd]
theorem Mul_c (n : Nat) (H : AH) (hn : n < 4294967296) : ACalls Tryz.prog 122 [.int .u64 1,.int .u64 (n : Int)] H fun r H' => r = .tuple (List.toArray [.int .u64 0,.int .u64 (n : Int)]) ∧ H = H' := by
  refine in122 rfl ?_
  intro Q hQ
  simp (maxSteps := 1000000) (disch := omega) only [cd122,SS,eq_self,reduceIte,reduceCtorEq,Nat.reduceEqDiff,Nat.reduceAdd]
  refine CallH.by (Mul64_c n H hn) ?_
  rintro _ _ ⟨rfl,rfl⟩
  simp (maxSteps := 1000000) (disch := omega) only [SS,eq_self,reduceIte,reduceCtorEq,Nat.reduceEqDiff,Nat.reduceAdd]
  refine hQ _ _ _ ?_
  simp (maxSteps := 1000000) (disch := omega) only [SS,eq_self,reduceIte,reduceCtorEq,Nat.reduceEqDiff,Nat.reduceAdd]
def rpN (N k : Nat) : List Int := List.replicate k (-1) ++ List.replicate (N - k) 0
theorem rpN_step (N k : Nat) (hk : k ≤ N) : (rpN N k).take k ++ (List.replicate k (-1 : Int)).take (min k (N - k)) ++ (rpN N k).drop (k + min k (N - k)) = rpN N (k + min k (N - k)) := by
  unfold rpN
  rw [List.take_left' (by simp),List.take_replicate,← List.drop_drop,List.drop_left' (by simp),List.drop_replicate,List.replicate_append_replicate]
  congr 2 <;> omega
theorem rpN_take (N k : Nat) : (rpN N k).take k = List.replicate k (-1) := by
  unfold rpN
  rw [List.take_left' (by simp)]
theorem rpN_len (N k : Nat) (h : k ≤ N) : (rpN N k).length = N := by simp [rpN]; omega
set_option maxRecDepth 20000 in
set_option maxHeartbeats 1000000 in
theorem Repeat_c (v : Value) (N : Nat) (H : AH) (hr : Row 3 H v [-1]) (hN : 1 ≤ N ∧ N ≤ 1000000000) : ACalls Tryz.prog 100 [v,.int .i64 (N : Int)] H fun r H' => Own 3 H H' r (List.replicate N (-1)) ∧ H <+: H' := by
  refine in100 rfl ?_
  intro Q hQ
  have hU : IntKind.u64.wrap (N : Int) = (N : Int) := by rw [IntKind.wrap_u64]; omega
  have hU1 : IntKind.u64.wrap 1 = 1 := by decide
  simp (maxSteps := 1000000) (disch := omega) only [cd100,hr.len Tryz.underlying27,SS,eq_self,reduceIte,reduceCtorEq,Nat.reduceEqDiff,Nat.reduceAdd]
  refine brD.intro (fun g => absurd g (by omega)) (fun g => ?_)
  have hl1 : (([-1] : List Int).length : Int) = 1 := rfl
  simp (maxSteps := 1000000) (disch := omega) only [hr.len Tryz.underlying27,hU,hl1,hU1,SS,eq_self,reduceIte,reduceCtorEq,Nat.reduceEqDiff,Nat.reduceAdd]
  refine CallH.by (Mul_c N H (by omega)) ?_
  rintro _ _ ⟨rfl,rfl⟩
  have d0 : ¬ ((0 : Int) > 0) := by decide
  simp (maxSteps := 1000000) (disch := omega) only [d0,SS,eq_self,reduceIte,reduceCtorEq,Nat.reduceEqDiff,Nat.reduceAdd]
  refine brD.intro (fun g => absurd g (by omega)) (fun g2 => ?_)
  simp (maxSteps := 1000000) (disch := omega) only [wrap64,mks27,Int.toNat_natCast,SS,eq_self,reduceIte,reduceCtorEq,Nat.reduceEqDiff,Nat.reduceAdd]
  generalize hz : H ++ [AObj.cells (ints (List.replicate N 0)) 3 false] = Z
  have pZ : H <+: Z := by rw [← hz]; exact List.prefix_append _ _
  have cZ : Z[H.length]? = some (.cells (ints (List.replicate N 0)) 3 false) := by rw [← hz]; exact at_new ..
  have c1 := cp_ints (P := Tryz.prog) (t := 27) (k := 0) (n := N) (c := N) Tryz.underlying27 cs3 cZ (hr.pre pZ) (by decide) (by omega) (by simp)
  have e1 : min ([-1] : List Int).length N = 1 := by simp; omega
  have e2 : (List.replicate N (0 : Int)).take 0 ++ ([-1] : List Int).take 1 ++ (List.replicate N (0 : Int)).drop (0 + 1) = rpN N 1 := by simp [rpN,List.drop_replicate]
  rw [e1,e2] at c1
  simp (maxSteps := 1000000) (disch := omega) only [c1,SS,eq_self,reduceIte,reduceCtorEq,Nat.reduceEqDiff,Nat.reduceAdd]
  refine LoopH.by (fun m s H' => ∃ k,m + k = N ∧ 1 ≤ k ∧ s 7 = .slice (some ⟨H.length,0,none⟩) N N ∧ s 8 = .int .i64 ((k : Nat) : Int) ∧ H' = Z.set H.length (.cells (ints (rpN N k)) 3 false)) (N - 1) ?_ ?_
  · exact ⟨1,by omega,by omega,rfl,rfl,rfl⟩
  · rintro m s H' ⟨k,hm,hk1,h7,h8,rfl⟩
    have cK : (Z.set H.length (.cells (ints (rpN N k)) 3 false))[H.length]? = some (.cells (ints (rpN N k)) 3 false) := at_set cZ
    simp (maxSteps := 1000000) (disch := omega) only [h7,h8,SS,eq_self,reduceIte,reduceCtorEq,Nat.reduceEqDiff,Nat.reduceAdd]
    refine brD.intro (fun g => ?_) (fun g => ?_)
    · have hk : k < N := by omega
      have s1 := sl_own (P := Tryz.prog) (t := 27) (k := 0) (n := N) (c := N) Tryz.underlying27 cs3 cK (bound_some (k := .i64) (i := (k : Int)) (by omega) 0) (hi_none N) (show ((k : Int)).toNat ≤ N by omega) (Nat.le_refl _)
      have s2 := sl_own (P := Tryz.prog) (t := 27) (k := 0) (n := N) (c := N) Tryz.underlying27 cs3 cK lo_none (bound_some (k := .i64) (i := (k : Int)) (by omega) N) (Nat.zero_le _) (show ((k : Int)).toNat ≤ N by omega)
      simp only [Int.toNat_natCast,Nat.zero_add,Nat.sub_zero] at s1 s2
      have hrk : Row 3 (Z.set H.length (.cells (ints (rpN N k)) 3 false)) (.slice (some ⟨H.length,0,none⟩) k k) (List.replicate k (-1)) := by
        refine .inr ⟨H.length,0,ints (rpN N k),false,by simp,cK,by rw [ints_len,rpN_len N k (by omega)]; simp; omega,?_⟩
        rw [List.length_replicate,List.drop_zero]
        have : (ints (rpN N k)).take k = ints ((rpN N k).take k) := by simp [ints,List.map_take]
        rw [this,rpN_take]
      have c2 := cp_ints (P := Tryz.prog) (t := 27) (k := k) (n := N - k) (c := N - k) Tryz.underlying27 cs3 cK hrk (by simp; omega) (by omega) (by rw [rpN_len N k (by omega)]; omega)
      rw [List.length_replicate,rpN_step N k (by omega),List.set_set] at c2
      simp (maxSteps := 1000000) (disch := omega) only [h7,h8,s1,s2,c2,wrap64,SS,eq_self,reduceIte,reduceCtorEq,Nat.reduceEqDiff,Nat.reduceAdd]
      refine ⟨m - min k (N - k),by omega,k + min k (N - k),?_⟩
      (repeat' apply And.intro) <;> first | (simp only [Value.int.injEq,true_and]; omega) | omega | rfl | assumption | (simp; done) | (simp; omega)
    · simp (maxSteps := 1000000) (disch := omega) only [h7,SS,eq_self,reduceIte,reduceCtorEq,Nat.reduceEqDiff,Nat.reduceAdd]
      refine hQ _ _ _ ?_
      simp (maxSteps := 1000000) (disch := omega) only [h7,SS,eq_self,reduceIte,reduceCtorEq,Nat.reduceEqDiff,Nat.reduceAdd]
      have : k = N := by omega
      subst this
      have e3 : rpN k k = List.replicate k (-1) := by simp [rpN]
      rw [e3]
      have hZ := at_set (d := .cells (ints (List.replicate k (-1))) 3 false) cZ
      exact ⟨.inr ⟨H.length,by rw [List.length_replicate],Nat.le_refl _,hZ⟩,pre_set pZ (Nat.le_refl _) _⟩
theorem rpN_set (N j : Nat) (hj : j < N) : (rpN N j).set j (-1) = rpN N (j + 1) := by
  unfold rpN
  rw [List.set_append_right _ _ (by simp)]
  obtain ⟨n,hn⟩ : ∃ n,N - j = n + 1 := ⟨N - j - 1,by omega⟩
  rw [hn,List.length_replicate,Nat.sub_self,List.replicate_succ,List.set_cons_zero,List.replicate_succ',List.append_assoc]
  have : N - (j + 1) = n := by omega
  rw [this]; rfl
end Go.Proofs.YtelafbennmclfaaGreat.Ai
namespace Go.Proofs.YtelafbennmclfaaGreat.Ai
open Go Go.RowKit
theorem InL.parts {lo hi : Nat} {e2 e : TypeId} {H : AH} {v : Value} {ls : List (List Int)} (h : InL lo hi e2 e H v ls) : ∃ us : List Value,RowV e2 H v us ∧ us.length = ls.length ∧ ∀ i,i < ls.length → InI lo hi e H (us.getD i undef) (ls.getD i []) := by
  rcases h with ⟨h1,h2⟩ | ⟨o,us,h0,h1,h2,h3,h4,h5,h6⟩
  · subst h1; subst h2; exact ⟨[],.inl ⟨rfl,rfl⟩,rfl,fun i hi => absurd hi (by simp)⟩
  · refine ⟨us.take ls.length,.inr ⟨o,0,us,false,by simp [h0,Nat.min_eq_left h4],h3,by simp; omega,by simp [Nat.min_eq_left h4]⟩,by simp; omega,fun i hi => ?_⟩
    have : (us.take ls.length).getD i undef = us.getD i undef := by
      rw [List.getD_eq_getElem?_getD,List.getD_eq_getElem?_getD,List.getElem?_take,if_pos hi]
    rw [this]
    exact (h5 i hi).1
end Go.Proofs.YtelafbennmclfaaGreat.Ai
namespace Go.Proofs.YtelafbennmclfaaGreat.Ai
open Go
def ords36 : List (Nat × List (Nat × Bool)) := []
def cd36 : Cd := (.seq (.reg [⟨⟨some 4,Op.assign (Operand.const (Value.map none)),none⟩,[]⟩]) (.seq (.reg [⟨⟨some 12,Op.makeMap 56 none,none⟩,[]⟩,
  ⟨⟨some 13,Op.move (Operand.tmp 0),none⟩,[]⟩,
  ⟨⟨some 14,Op.call { callee := (Callee.value (Operand.func 38)),args := #[(Operand.tmp 13)],argTypes := #[27] },none⟩,[]⟩,
  ⟨⟨none,Op.insert 56 (Operand.tmp 12) (Operand.tmp 14) (Operand.const (Value.int IntKind.i64 0)),none⟩,[]⟩,
  ⟨⟨some 15,Op.move (Operand.tmp 12),none⟩,[]⟩,
  ⟨⟨some 16,Op.move (Operand.tmp 0),none⟩,[]⟩,
  ⟨⟨some 17,Op.buildSlice 43 1 #[(0,(Operand.tmp 16))],none⟩,[]⟩,
  ⟨⟨some 5,Op.assign (Operand.tmp 15),none⟩,[]⟩,
  ⟨⟨some 6,Op.assign (Operand.tmp 17),none⟩,[]⟩]) (.seq (.block 0 (.loop (.seq (.seq (.reg [⟨⟨some 18,Op.move (Operand.tmp 6),none⟩,[]⟩,
  ⟨⟨some 19,Op.call { callee := (Callee.builtin Builtin.len),args := #[(Operand.tmp 18)],argTypes := #[43] },none⟩,[]⟩,
  ⟨⟨some 20,Op.binOp BinOp.gtr 3 (Operand.tmp 19) (Operand.const (Value.int IntKind.i64 0)) 3,none⟩,[]⟩]) (.cond (Operand.tmp 20) .skip (.exit 0))) (.block 1 (.seq (.reg [⟨⟨some 21,Op.move (Operand.tmp 6),none⟩,[]⟩,
  ⟨⟨some 22,Op.indexAddr 43 (Operand.tmp 21) (Operand.const (Value.int IntKind.i64 0)),none⟩,[]⟩,
  ⟨⟨some 23,Op.load 27 (Operand.tmp 22),none⟩,[]⟩,
  ⟨⟨some 7,Op.assign (Operand.tmp 23),none⟩,[]⟩]) (.seq (.reg [⟨⟨some 24,Op.move (Operand.tmp 6),none⟩,[]⟩,
  ⟨⟨some 25,Op.slice 43 (Operand.tmp 24) (some (Operand.const (Value.int IntKind.i64 1))) none none,none⟩,[]⟩,
  ⟨⟨some 6,Op.assign (Operand.tmp 25),none⟩,[]⟩]) (.seq (.reg [⟨⟨some 26,Op.move (Operand.tmp 1),none⟩,[]⟩,
  ⟨⟨some 27,Op.move (Operand.tmp 7),none⟩,[]⟩,
  ⟨⟨some 28,Op.call { callee := (Callee.value (Operand.tmp 26)),args := #[(Operand.tmp 27)],argTypes := #[27] },none⟩,[]⟩,
  ⟨⟨some 29,Op.call { callee := (Callee.builtin Builtin.len),args := #[(Operand.tmp 28)],argTypes := #[43] },none⟩,[]⟩,
  ⟨⟨some 30,Op.move (Operand.const (Value.int IntKind.i64 0)),none⟩,[]⟩]) (.block 2 (.loop (.seq (.reg [⟨⟨some 31,Op.binOp BinOp.lss 3 (Operand.tmp 30) (Operand.tmp 29) 3,none⟩,[]⟩]) (.seq (.cond (Operand.tmp 31) .skip (.exit 2)) (.seq (.block 3 (.seq (.reg [⟨⟨some 32,Op.indexAddr 43 (Operand.tmp 28) (Operand.tmp 30),none⟩,[]⟩,
  ⟨⟨some 33,Op.load 27 (Operand.tmp 32),none⟩,[]⟩,
  ⟨⟨some 9,Op.assign (Operand.tmp 33),none⟩,[]⟩]) (.seq (.reg [⟨⟨some 35,Op.move (Operand.tmp 5),none⟩,[]⟩,
  ⟨⟨some 36,Op.move (Operand.tmp 9),none⟩,[]⟩,
  ⟨⟨some 37,Op.call { callee := (Callee.value (Operand.func 38)),args := #[(Operand.tmp 36)],argTypes := #[27] },none⟩,[]⟩,
  ⟨⟨some 38,Op.lookup 56 (Operand.tmp 35) (Operand.tmp 37) true,none⟩,[]⟩,
  ⟨⟨some 34,Op.move (Operand.tmp 38),none⟩,[]⟩,
  ⟨⟨some 39,Op.extract (Operand.tmp 34) 0,none⟩,[]⟩,
  ⟨⟨some 40,Op.extract (Operand.tmp 34) 1,none⟩,[]⟩,
  ⟨⟨some 10,Op.assign (Operand.tmp 39),none⟩,[]⟩,
  ⟨⟨some 11,Op.assign (Operand.tmp 40),none⟩,[]⟩]) (.seq (.reg [⟨⟨some 41,Op.move (Operand.tmp 11),none⟩,[]⟩,
  ⟨⟨some 42,Op.unOp UnOp.not 4 (Operand.tmp 41),none⟩,[]⟩]) (.cond (Operand.tmp 42) (.seq (.reg [⟨⟨some 43,Op.move (Operand.tmp 5),none⟩,[]⟩,
  ⟨⟨some 44,Op.move (Operand.tmp 9),none⟩,[]⟩,
  ⟨⟨some 45,Op.call { callee := (Callee.value (Operand.func 38)),args := #[(Operand.tmp 44)],argTypes := #[27] },none⟩,[]⟩,
  ⟨⟨some 46,Op.move (Operand.tmp 5),none⟩,[]⟩,
  ⟨⟨some 47,Op.move (Operand.tmp 7),none⟩,[]⟩,
  ⟨⟨some 48,Op.call { callee := (Callee.value (Operand.func 38)),args := #[(Operand.tmp 47)],argTypes := #[27] },none⟩,[]⟩,
  ⟨⟨some 49,Op.lookup 56 (Operand.tmp 46) (Operand.tmp 48) false,none⟩,[]⟩,
  ⟨⟨some 50,Op.binOp BinOp.add 3 (Operand.tmp 49) (Operand.const (Value.int IntKind.i64 1)) 3,none⟩,[]⟩,
  ⟨⟨none,Op.mapUpdate 56 (Operand.tmp 43) (Operand.tmp 45) (Operand.tmp 50),none⟩,[]⟩]) (.reg [⟨⟨some 51,Op.move (Operand.tmp 6),none⟩,[]⟩,
  ⟨⟨some 52,Op.move (Operand.tmp 9),none⟩,[]⟩,
  ⟨⟨some 53,Op.buildSlice 43 1 #[(0,(Operand.tmp 52))],none⟩,[]⟩,
  ⟨⟨some 54,Op.call { callee := (Callee.builtin Builtin.append),args := #[(Operand.tmp 51),(Operand.tmp 53)],argTypes := #[43,43] },none⟩,[]⟩,
  ⟨⟨some 6,Op.assign (Operand.tmp 54),none⟩,[]⟩])) .skip))))) (.reg [⟨⟨some 55,Op.binOp BinOp.add 3 (Operand.tmp 30) (Operand.const (Value.int IntKind.i64 1)) 3,none⟩,[]⟩,
  ⟨⟨some 30,Op.move (Operand.tmp 55),none⟩,[]⟩]))))))))))))) (.seq (.reg [⟨⟨some 56,Op.move (Operand.tmp 5),none⟩,[]⟩,
  ⟨⟨some 4,Op.assign (Operand.tmp 56),none⟩,[]⟩]) .ret))))
theorem sl36 : slim Tryz.f36.ntmps ords36 (Tryz.f36.body.getD .skip) = some cd36 := by kernel_rfl
theorem in36 {args : List Value} {H : AH} {R : Value → AH → Prop} (hl : args.length = 2) (h : ∀ (Q : Exit → Sl → AH → Prop),(∀ e s H,endA Tryz.prog [ResultVar.tmp 4] R e s H → Q e s H) → wpC Tryz.prog cd36 Q (enterA args) H) : ACalls Tryz.prog 36 args H R :=
  ACalls.intro (by kernel_rfl) Tryz.func36 rfl (by kernel_rfl) sl36 hl (of_decide_eq_true (by kernel_rfl)) (by kernel_rfl) h
end Go.Proofs.YtelafbennmclfaaGreat.Ai
namespace Go.Proofs.YtelafbennmclfaaGreat.Ai
open Go Go.RowKit
def NoInt (x : AObj) : Prop := ∀ vs ro,x ≠ .cells vs 3 ro
theorem Row.ne {H : AH} {v : Value} {xs : List Int} (h : Row 3 H v xs) {o : Nat} {x : AObj} (ho : H[o]? = some x) (hx : NoInt x) : v = .slice none 0 0 ∨ rowO v ≠ o := by
  rcases h with h | ⟨o',k,vs,ro,h1,h2,_⟩
  · exact .inl h.1
  · refine .inr fun e => ?_
    rw [h1] at e
    have e' : o' = o := e
    rw [e',ho] at h2
    exact hx vs ro (by simpa using h2)
theorem Row.but {H H' : AH} {v : Value} {xs : List Int} (h : Row 3 H v xs) {o : Nat} {x : AObj} (ho : H[o]? = some x) (hx : NoInt x) (hk : ∀ (j : Nat) (y : AObj),j ≠ o → H[j]? = some y → H'[j]? = some y) : Row 3 H' v xs := by
  rcases h.ne ho hx with g | g
  · exact .inl ⟨g,h.nilv g⟩
  · exact h.mono fun y hy => hk _ _ g hy
theorem noInt_mp (l : List (Value × Value)) : NoInt (.mp l) := fun vs ro h => by cases h
theorem noInt_ll (vs : List Value) (ro : Bool) : NoInt (.cells vs 27 ro) := fun ws r h => by
  simp only [AObj.cells.injEq] at h
  exact absurd h.2.1 (by decide)
theorem bsRowQ {H0 : AH} {v : Value} {xs : List Int} (h : Row 3 H0 v xs) (K : AH) : buildSliceA Tryz.prog 43 1 [(0,v)] K = some (.slice (some ⟨K.length,0,none⟩) 1 1,K ++ [.cells [v] 27 false]) := by
  obtain ⟨q,eq⟩ := h.shape
  rw [eq]
  exact bs1 Tryz.underlying43 cs27 ze27 ⟨by kernel_rfl,by kernel_rfl⟩ K rfl
theorem app_qV {P : Program} {t e : TypeId} (hu : P.underlying t = some (.slice e)) (hc : P.cellsOf e = 1) (hby : P.bytesOf e ≤ 64) (hz : zeroOk P e = true) {H : AH} {o k n c : Nat} {zs : List Value} {x : Value} (ho : H[o]? = some (.cells zs e false)) (hn : k + n ≤ zs.length) (hb : n ≤ 1099511627775) :
    appendA P t t (.slice (some ⟨o,k,none⟩) n c) (.slice (some ⟨H.length,0,none⟩) 1 1) (H ++ [.cells [x] e false]) = some (.slice (some ⟨H.length + 1,0,none⟩) (n + 1) (n + 1),H.set o .dead ++ [.cells [x] e false,.cells ((zs.drop k).take n ++ [x]) e false]) := by
  have hlt : o < H.length := at_lt ho
  have hb2 : (n + 1) * P.bytesOf e ≤ 140737488355328 := by
    refine Nat.le_trans (Nat.mul_le_mul_left _ hby) ?_
    omega
  have ho2 : (H ++ [AObj.cells [x] e false])[o]? = some (.cells zs e false) := at_app ho _
  have hsc : sliceCells P e (.slice (some ⟨H.length,0,none⟩) 1 1) (H ++ [.cells [x] e false]) = some (1,[x]) := by
    simp only [sliceCells,at_new,hc]; simp
  simp only [appendA,hu,hc,hsc,ho2,hz]
  rw [if_pos (by simp),if_neg (by simp),if_pos ⟨trivial,by omega,hb2,by omega,trivial⟩]
  rw [Nat.mul_one,List.length_append,List.set_append_left _ _ hlt]
  simp
def QV (H : AH) (oq kq nq : Nat) (bs : List (List Int)) : Prop :=
  ∃ zs,H[oq]? = some (.cells zs 27 false) ∧ kq + nq ≤ zs.length ∧ nq = bs.length ∧ ∀ j,j < nq → Row 3 H (zs.getD (kq + j) undef) (bs.getD j [])
theorem QV.tail {H : AH} {oq kq nq : Nat} {b : List Int} {bs : List (List Int)} (h : QV H oq kq nq (b :: bs)) : QV H oq (kq + 1) (nq - 1) bs ∧ 0 < nq ∧ ∃ u,cellA H oq kq = some u ∧ Row 3 H u b := by
  obtain ⟨zs,h1,h2,h3,h4⟩ := h
  rw [List.length_cons] at h3
  refine ⟨⟨zs,h1,by omega,by omega,fun j hj => ?_⟩,by omega,zs.getD kq undef,?_,?_⟩
  · have := h4 (j + 1) (by omega)
    rw [show kq + (j + 1) = kq + 1 + j by omega] at this
    simpa using this
  · rw [cell_of h1]
    have : kq < zs.length := by omega
    simp [this]
  · have := h4 0 (by omega)
    simpa using this
theorem QV.but {H H' : AH} {oq kq nq : Nat} {bs : List (List Int)} (h : QV H oq kq nq bs) {o : Nat} {x : AObj} (ho : H[o]? = some x) (hx : NoInt x) (hq : oq ≠ o) (hk : ∀ (j : Nat) (y : AObj),j ≠ o → H[j]? = some y → H'[j]? = some y) : QV H' oq kq nq bs := by
  obtain ⟨zs,h1,h2,h3,h4⟩ := h
  exact ⟨zs,hk _ _ hq h1,h2,h3,fun j hj => (h4 j hj).but ho hx hk⟩
theorem QV.pre {H H' : AH} {oq kq nq : Nat} {bs : List (List Int)} (h : QV H oq kq nq bs) (hp : H <+: H') : QV H' oq kq nq bs := by
  obtain ⟨zs,h1,h2,h3,h4⟩ := h
  exact ⟨zs,pre_at hp h1,h2,h3,fun j hj => (h4 j hj).pre hp⟩
theorem QV.push {H : AH} {oq kq nq : Nat} {bs : List (List Int)} (h : QV H oq kq nq bs) {x : Value} {b : List Int} (hx : Row 3 H x b) (hb : nq ≤ 1099511627775) :
    ∃ H2,appendA Tryz.prog 43 43 (.slice (some ⟨oq,kq,none⟩) nq nq) (.slice (some ⟨H.length,0,none⟩) 1 1) (H ++ [.cells [x] 27 false]) = some (.slice (some ⟨H.length + 1,0,none⟩) (nq + 1) (nq + 1),H2) ∧
      QV H2 (H.length + 1) 0 (nq + 1) (bs ++ [b]) ∧ H2.length = H.length + 2 ∧ (∀ (j : Nat) (y : AObj),j ≠ oq → H[j]? = some y → H2[j]? = some y) := by
  obtain ⟨zs,h1,h2,h3,h4⟩ := h
  have k1 := app_qV (P := Tryz.prog) (t := 43) (k := kq) (n := nq) (c := nq) (x := x) Tryz.underlying43 cs27 (by rw [by27]; decide) zk27 h1 h2 hb
  have keep : ∀ (j : Nat) (y : AObj),j ≠ oq → H[j]? = some y → (H.set oq .dead ++ [AObj.cells [x] 27 false,.cells ((zs.drop kq).take nq ++ [x]) 27 false])[j]? = some y := fun j y hj hy => at_old hy (fun e => hj e.symm) _
  refine ⟨_,k1,⟨(zs.drop kq).take nq ++ [x],at_new1 ..,by simp; omega,by simp; omega,fun j hj => ?_⟩,by simp,keep⟩
  have hl : ((zs.drop kq).take nq).length = nq := by simp; omega
  rw [Nat.zero_add,List.getD_eq_getElem?_getD,List.getElem?_append,hl]
  by_cases hj2 : j < nq
  · have := h4 j hj2
    rw [if_pos hj2,List.getElem?_take,if_pos hj2,List.getElem?_drop,← List.getD_eq_getElem?_getD]
    have e : (bs ++ [b]).getD j [] = bs.getD j [] := by
      rw [List.getD_eq_getElem?_getD,List.getElem?_append_left (by omega),← List.getD_eq_getElem?_getD]
    rw [e]
    exact this.but h1 (noInt_ll _ _) keep
  · have e : (bs ++ [b]).getD j [] = b := by
      rw [List.getD_eq_getElem?_getD,List.getElem?_append_right (by omega),show j - bs.length = 0 by omega]; rfl
    rw [if_neg hj2,e,show j - nq = 0 by omega]
    exact hx.but h1 (noInt_ll _ _) keep
def mpB (st : List (List Int × Int)) : List (Int × Int) := st.map fun e => (keyL e.1,e.2)
theorem mpB_snoc (st : List (List Int × Int)) (b : List Int) (d : Int) : mpB (st ++ [(b,d)]) = mpB st ++ [(keyL b,d)] := by simp [mpB]
theorem getI_bd {n : Nat} {b : List Int} (hb : Bd n b) : ∀ (st : List (List Int × Int)),(∀ e ∈ st,Bd n e.1) → getI (mpB st) (keyL b) = bdD st b
  | [],_ => rfl
  | e :: st,h => by
    have ih := getI_bd hb st (fun x hx => h x (by simp [hx]))
    have he := h e (by simp)
    unfold getI bdD mpB at *
    rw [List.map_cons,List.find?_cons,List.find?_cons]
    by_cases g : e.1 = b
    · rw [decide_eq_true (show keyL e.1 = keyL b by rw [g]),decide_eq_true g]; rfl
    · rw [decide_eq_false (fun q => g (key_inj he.1 hb.1 (by rw [he.2,hb.2]) q)),decide_eq_false g]
      exact ih
theorem keys_bd {n : Nat} {b : List Int} (hb : Bd n b) {st : List (List Int × Int)} (h : ∀ e ∈ st,Bd n e.1) : keyL b ∈ (mpB st).map (·.1) ↔ b ∈ st.map (·.1) := by
  unfold mpB
  rw [List.map_map,List.mem_map,List.mem_map]
  constructor
  · rintro ⟨e,he,q⟩
    have h1 := h e he
    exact ⟨e,he,key_inj h1.1 hb.1 (by rw [h1.2,hb.2]) q⟩
  · rintro ⟨e,he,q⟩
    exact ⟨e,he,by rw [← q]; rfl⟩
theorem bdD_isSome {st : List (List Int × Int)} {b : List Int} : (bdD st b).isSome = decide (b ∈ st.map (·.1)) := by
  by_cases h : b ∈ st.map (·.1)
  · rw [decide_eq_true h]
    cases hd : bdD st b with
    | some d => rfl
    | none =>
      exfalso
      unfold bdD at hd
      rw [Option.map_eq_none_iff,List.find?_eq_none] at hd
      obtain ⟨e,h1,h2⟩ := List.mem_map.1 h
      have := hd e h1
      simp only [decide_eq_true_eq] at this
      exact this h2
  · rw [decide_eq_false h,bdD_none h]; rfl
def MvFn (HB : AH) (n : Nat) (fM : FuncId) (fs caps : List Value) (nx : List Int → List (List Int)) : Prop :=
  ∀ (w : Value) (b : List Int) (H : AH),HB <+: H → Row 3 H w b → Bd n b → ACalls Tryz.prog fM (fs ++ (w :: caps)) H fun r H' => InL H.length H'.length 27 3 H' r (nx b) ∧ H <+: H'
theorem InL.frameQ {lo hi q : Nat} {e2 e : TypeId} {H H' : AH} {v : Value} {ls : List (List Int)} (h : InL lo hi e2 e H v ls) (hq : q < lo ∨ hi ≤ q) (hh : ∀ (j : Nat) (y : AObj),j ≠ q → H[j]? = some y → H'[j]? = some y) : InL lo hi e2 e H' v ls := by
  rcases h with h | ⟨o,us,h1,h2⟩
  · exact .inl h
  · exact .inr ⟨o,us,h1,h2.moveq (h2.away hq) hh⟩
set_option maxRecDepth 20000 in
set_option maxHeartbeats 8000000 in
theorem reached_c {HB H : AH} {n : Nat} (hn : n ≤ 6) {v : Value} {p : List Int} (hr : Row 3 H v p) (hp : Bd n p) (fM : FuncId) (fs caps : List Value) (nx : List Int → List (List Int)) (hM : MvFn HB n fM fs caps nx)
    (hnx : ∀ b,Bd n b → ∀ c ∈ nx b,Bd n c) (hnl : ∀ b,(nx b).length ≤ 1000000) (hB : HB <+: H) :
    ACalls Tryz.prog 36 [v,.func (.func fM) (List.toArray fs) (List.toArray caps)] H fun r H' => (∃ o,r = .map (some o) ∧ H'[o]? = some (.mp (mpI (mpB (bdA nx p)))) ∧ H.length ≤ o) ∧ H <+: H' := by
  refine in36 rfl ?_
  intro Q hQ
  simp (maxSteps := 1000000) (disch := omega) only [cd36,makeMapA,SS,eq_self,reduceIte,reduceCtorEq,Nat.reduceEqDiff,Nat.reduceAdd]
  generalize hA : H ++ [AObj.mp []] = A
  have pA : H <+: A := by rw [← hA]; exact List.prefix_append _ _
  have cA : A[H.length]? = some (.mp (mpI [])) := by rw [← hA]; exact at_new ..
  have lA : A.length = H.length + 1 := by rw [← hA]; simp
  refine CallH.by (key_c v p A (hr.pre pA) hp.1) ?_
  rintro _ _ ⟨rfl,rfl⟩
  have hu0 := updI cA (k := keyL p) (by simp) 0
  rw [List.nil_append] at hu0
  simp (maxSteps := 1000000) (disch := omega) only [hu0,SS,eq_self,reduceIte,reduceCtorEq,Nat.reduceEqDiff,Nat.reduceAdd]
  generalize hB1 : A.set H.length (.mp (mpI [(keyL p,0)])) = B
  have pB : H <+: B := by rw [← hB1]; exact pre_set pA (Nat.le_refl _) _
  have cB : B[H.length]? = some (.mp (mpI (mpB [(p,0)]))) := by rw [← hB1,List.getElem?_set_self (by omega)]; rfl
  have lB : B.length = A.length := by rw [← hB1]; simp
  have rB := hr.pre pB
  simp (maxSteps := 1000000) (disch := omega) only [bsRowQ rB,SS,eq_self,reduceIte,reduceCtorEq,Nat.reduceEqDiff,Nat.reduceAdd]
  generalize hC : B ++ [AObj.cells [v] 27 false] = C
  have pC : B <+: C := by rw [← hC]; exact List.prefix_append _ _
  have cC : C[B.length]? = some (.cells [v] 27 false) := by rw [← hC]; exact at_new ..
  have rC := rB.pre pC
  have q0 : QV C B.length 0 1 [p] := ⟨[v],cC,by simp,rfl,fun j hj => by
    obtain rfl : j = 0 := by omega
    exact rC⟩
  refine LoopH.by (fun m s H' => ∃ (st : List (List Int × Int)) (k oq kq nq : Nat),m + k = 721 ∧ s 1 = .func (.func fM) (List.toArray fs) (List.toArray caps) ∧ s 5 = .map (some H.length) ∧ s 6 = .slice (some ⟨oq,kq,none⟩) nq nq ∧ BdI n nx p st k ∧ bdF nx m st k = bdA nx p ∧
    H'[H.length]? = some (.mp (mpI (mpB st))) ∧ QV H' oq kq nq ((st.drop k).map (·.1)) ∧ H.length < oq ∧ H <+: H') 721 ?_ ?_
  · exact ⟨[(p,0)],0,B.length,0,1,rfl,rfl,rfl,rfl,BdI.zero hp,rfl,pre_at pC cB,q0,by omega,pB.trans pC⟩
  rintro m s H' ⟨st,k,oq,kq,nq,hm,h1,h5,h6,hI,hF,hMap,hQ',hoq,hpp⟩
  have hle := hI.len_le hn
  have hmn := mny_le hn
  have hnq : nq = st.length - k := by
    obtain ⟨zs,_,_,h3,_⟩ := hQ'
    rw [h3]; simp
  simp (maxSteps := 1000000) (disch := omega) only [h1,h5,h6,SS,eq_self,reduceIte,reduceCtorEq,Nat.reduceEqDiff,Nat.reduceAdd]
  refine brD.intro (fun g => ?_) (fun g => ?_)
  rotate_left
  · simp (maxSteps := 1000000) (disch := omega) only [h5,SS,eq_self,reduceIte,reduceCtorEq,Nat.reduceEqDiff,Nat.reduceAdd]
    refine hQ _ _ _ ?_
    simp (maxSteps := 1000000) (disch := omega) only [h5,SS,eq_self,reduceIte,reduceCtorEq,Nat.reduceEqDiff,Nat.reduceAdd]
    rw [bdF_done nx m st k (by omega)] at hF
    rw [← hF]
    exact ⟨rfl,⟨H.length,rfl,hMap,Nat.le_refl _⟩,hpp⟩
  have hk : k < st.length := by omega
  obtain ⟨f,rfl⟩ : ∃ f,m = f + 1 := ⟨m - 1,by omega⟩
  rw [bdF_step nx f st k hk] at hF
  have hum : st.getD k ([],0) ∈ st := by simp [hk]
  have hstep := hI.step hnx hk
  have hur := hI.rng _ hum
  rw [List.drop_eq_getElem_cons hk,List.map_cons] at hQ'
  have hge : st[k] = st.getD k ([],0) := by simp [hk]
  rw [hge] at hQ'
  have hbd := hI.ok _ hum
  generalize hu : st.getD k ([],0) = e0 at *
  obtain ⟨b,d0⟩ := e0
  obtain ⟨hQt,hnq0,u,hcu,hru⟩ := hQ'.tail
  have hqo : ∃ zs,H'[oq]? = some (.cells zs 27 false) := by obtain ⟨zs,g1,_⟩ := hQ'; exact ⟨zs,g1⟩
  obtain ⟨zs0,hqo⟩ := hqo
  have hsl := sl_own (P := Tryz.prog) (t := 43) (k := kq) (n := nq) (c := nq) Tryz.underlying43 cs27 hqo (bound_some (k := .i64) (i := 1) (by decide) 0) (hi_none nq) (show (1 : Int).toNat ≤ nq from hnq0) (Nat.le_refl _)
  have h11 : (1 : Int).toNat = 1 := rfl
  rw [h11] at hsl
  have z0 : (0 : Int).toNat = 0 := rfl
  simp (maxSteps := 1000000) (disch := omega) only [h1,h5,h6,z0,hcu,hsl,SS,eq_self,reduceIte,reduceCtorEq,Nat.reduceEqDiff,Nat.reduceAdd]
  refine CallH.by (hM u b H' (hB.trans hpp) hru hbd) ?_
  rintro r G ⟨hL,pG⟩
  have hGl := pG.length_le
  obtain ⟨us,hus,hul,_⟩ := hL.parts
  have hnlb := hnl b
  simp (maxSteps := 1000000) (disch := omega) only [h1,h5,h6,hus.len Tryz.underlying43,hul,SS,eq_self,reduceIte,reduceCtorEq,Nat.reduceEqDiff,Nat.reduceAdd]
  have hbm : ∀ st',st <+: st' → (b,d0) ∈ st' := fun st' hp' => hp'.subset hum
  generalize hN : nx b = N at *
  have hNb : ∀ c ∈ N,Bd n c := fun c hc => hnx b hbd c (by rw [hN]; exact hc)
  have hoql : oq < H'.length := at_lt hqo
  have hll : H.length < H'.length := at_lt hMap
  refine LoopH.by (fun m' s' H2 => ∃ (j : Nat) (st' : List (List Int × Int)) (oq' kq' nq' : Nat),m' + j = N.length ∧ s' 1 = .func (.func fM) (List.toArray fs) (List.toArray caps) ∧ s' 5 = .map (some H.length) ∧ s' 6 = .slice (some ⟨oq',kq',none⟩) nq' nq' ∧ s' 7 = u ∧ s' 28 = r ∧ s' 29 = .int .i64 (N.length : Int) ∧ s' 30 = .int .i64 ((j : Nat) : Int) ∧
    bdIn (d0 + 1) (N.drop j) st' = bdIn (d0 + 1) N st ∧ st <+: st' ∧ (∀ e ∈ st',Bd n e.1) ∧ (st'.map (·.1)).Nodup ∧ st'.length ≤ 720 ∧
    H2[H.length]? = some (.mp (mpI (mpB st'))) ∧ QV H2 oq' kq' nq' ((st'.drop (k + 1)).map (·.1)) ∧ (oq' = oq ∨ G.length ≤ oq') ∧ Row 3 H2 u b ∧ InL H'.length G.length 27 3 H2 r N ∧ G.length ≤ H2.length ∧ H <+: H2) N.length ?_ ?_
  · refine ⟨0,st,oq,kq + 1,nq - 1,by simp,?_⟩
    simp (maxSteps := 1000000) (disch := omega) only [h1,h5,h6,SS,eq_self,reduceIte,reduceCtorEq,Nat.reduceEqDiff,Nat.reduceAdd]
    have f1 := hQt.pre pG
    have f2 := pre_at pG hMap
    have f3 := hru.pre pG
    have f4 := hpp.trans pG
    have f5 := hI.ok
    have f6 := hI.nd
    have f7 : bdIn (d0 + 1) (N.drop 0) st = bdIn (d0 + 1) N st := rfl
    have f8 : st <+: st := List.prefix_refl _
    have e1 : ((nq - 1 : Nat)) = nq - 1 := rfl
    (repeat' first | exact f1 | exact f2 | exact f3 | exact f4 | exact f5 | exact f6 | exact f7 | exact f8 | exact hL | apply And.intro) <;> first | (simp only [Value.int.injEq,true_and]; omega) | omega | rfl | assumption | (simp; done) | (simp; omega)
  rintro m' s' H2 ⟨j,st',oq',kq',nq',hm',k1,k5,k6,k7,k28,k29,k30,hIn,hsp,hok,hnd,hsl',hMap2,hQ2,hoq2,hru2,hL2,hGl2,hpp2⟩
  simp (maxSteps := 1000000) (disch := omega) only [k1,k5,k6,k7,k28,k29,k30,SS,eq_self,reduceIte,reduceCtorEq,Nat.reduceEqDiff,Nat.reduceAdd]
  refine brD.intro (fun q => ?_) (fun q => ?_)
  rotate_left
  · have hj : N.length ≤ j := by omega
    rw [List.drop_of_length_le hj] at hIn
    have hIn' : st' = bdIn (d0 + 1) N st := hIn
    rw [← hIn'] at hF hstep
    have f1 : H.length < oq' := by omega
    simp (maxSteps := 1000000) (disch := omega) only [k1,k5,k6,SS,eq_self,reduceIte,reduceCtorEq,Nat.reduceEqDiff,Nat.reduceAdd]
    refine ⟨f,by omega,st',k + 1,oq',kq',nq',?_⟩
    (repeat' first | exact hF | exact hstep | exact hMap2 | exact hQ2 | exact hpp2 | exact f1 | apply And.intro) <;> first | (simp only [Value.int.injEq,true_and]; omega) | omega | rfl | assumption | (simp; done) | (simp; omega)
  have hj : j < N.length := by omega
  obtain ⟨us2,hus2,hul2,heach⟩ := hL2.parts
  have hrow := (heach j hj).row.1
  have hcell := hus2.cell (show j < us2.length by omega)
  have hcm : N.getD j [] ∈ N := by simp [hj]
  have hcb := hNb _ hcm
  rw [bdIn_drop (d0 + 1) N j hj] at hIn
  generalize hc : N.getD j [] = c at *
  generalize hx : us2.getD j undef = x at *
  simp (maxSteps := 1000000) (disch := omega) only [k1,k5,k6,k7,k28,k29,k30,hus2.ix Tryz.underlying43 cs27,hcell,Int.toNat_natCast,SS,eq_self,reduceIte,reduceCtorEq,Nat.reduceEqDiff,Nat.reduceAdd]
  refine CallH.by (key_c x c H2 hrow hcb.1) ?_
  rintro _ _ ⟨rfl,rfl⟩
  have hlk := lookI hMap2 (keyL c)
  rw [getI_bd hcb st' hok,bdD_isSome] at hlk
  simp (maxSteps := 1000000) (disch := omega) only [k1,k5,k6,k7,k28,k29,k30,hlk,SS,eq_self,reduceIte,reduceCtorEq,Nat.reduceEqDiff,Nat.reduceAdd]
  refine brD.intro (fun e => ?_) (fun e => ?_)
  · rw [if_pos e] at hIn
    simp (maxSteps := 1000000) (disch := omega) only [e,k1,k5,k6,k7,k28,k29,k30,wrap64,SS,eq_self,reduceIte,reduceCtorEq,Nat.reduceEqDiff,Nat.reduceAdd]
    refine ⟨m' - 1,by omega,j + 1,st',oq',kq',nq',?_⟩
    (repeat' first | exact hIn | exact hsp | exact hok | exact hnd | exact hMap2 | exact hQ2 | exact hoq2 | exact hru2 | exact hL2 | exact hpp2 | apply And.intro) <;> first | (simp only [Value.int.injEq,true_and]; omega) | omega | rfl | assumption | (simp; done) | (simp; omega)
  rw [if_neg e] at hIn
  have hkn : keyL c ∉ (mpB st').map (·.1) := fun h => e ((keys_bd hcb hok).1 h)
  have hdb : bdD st' b = some d0 := bdD_some hnd (hbm st' hsp)
  have hlb := lookI1 hMap2 (keyL b)
  rw [getI_bd hbd st' hok,hdb] at hlb
  have hlb' : lookupA Tryz.prog 56 (.map (some H.length)) (.int .i64 (keyL b)) false H2 = some (.int .i64 d0) := hlb
  have hup := updI hMap2 hkn (d0 + 1)
  rw [← mpB_snoc] at hup
  simp (maxSteps := 1000000) (disch := omega) only [e,k1,k5,k6,k7,k28,k29,k30,SS,eq_self,reduceIte,reduceCtorEq,Nat.reduceEqDiff,Nat.reduceAdd]
  refine CallH.by (key_c x c H2 hrow hcb.1) ?_
  rintro _ _ ⟨rfl,rfl⟩
  simp (maxSteps := 1000000) (disch := omega) only [e,k1,k5,k6,k7,k28,k29,k30,SS,eq_self,reduceIte,reduceCtorEq,Nat.reduceEqDiff,Nat.reduceAdd]
  refine CallH.by (key_c u b H2 hru2 hbd.1) ?_
  rintro _ _ ⟨rfl,rfl⟩
  simp (maxSteps := 1000000) (disch := omega) only [e,k1,k5,k6,k7,k28,k29,k30,hlb',wrap64,hup,SS,eq_self,reduceIte,reduceCtorEq,Nat.reduceEqDiff,Nat.reduceAdd]
  generalize hH3 : H2.set H.length (.mp (mpI (mpB (st' ++ [(c,d0 + 1)])))) = H3
  have l3 : H3.length = H2.length := by rw [← hH3]; simp
  have k3 : ∀ (j : Nat) (y : AObj),j ≠ H.length → H2[j]? = some y → H3[j]? = some y := fun j y hj hy => by rw [← hH3,List.getElem?_set_ne (fun e => hj e.symm)]; exact hy
  have m3 : H3[H.length]? = some (.mp (mpI (mpB (st' ++ [(c,d0 + 1)])))) := by rw [← hH3]; exact at_set hMap2
  have hoH : oq' ≠ H.length := by omega
  have hQ3 := hQ2.but hMap2 (noInt_mp _) hoH k3
  have hrow3 := hrow.but hMap2 (noInt_mp _) k3
  have hru3 := hru2.but hMap2 (noInt_mp _) k3
  have hL3 := hL2.frameQ (q := H.length) (.inl hll) k3
  have p3 : H <+: H3 := by rw [← hH3]; exact pre_set hpp2 (Nat.le_refl _) _
  have hst'' : ∀ e ∈ st' ++ [(c,d0 + 1)],Bd n e.1 := fun e he => by
    rcases List.mem_append.1 he with he | he
    · exact hok e he
    · simp only [List.mem_cons,List.not_mem_nil,or_false] at he
      rw [he]; exact hcb
  have hnd'' : ((st' ++ [(c,d0 + 1)]).map (·.1)).Nodup := by
    rw [List.map_append,List.Nodup,List.pairwise_append]
    refine ⟨hnd,by simp,fun y hy z hz q => ?_⟩
    simp only [List.map_cons,List.map_nil,List.mem_cons,List.not_mem_nil,or_false] at hz
    subst hz; subst q; exact e hy
  have hlen'' : (st' ++ [(c,d0 + 1)]).length ≤ 720 := by
    have := nodupI_le (mny n) (((st' ++ [(c,d0 + 1)]).map (·.1)).map cod) (by
      rw [List.Nodup,List.pairwise_map]
      refine List.Pairwise.imp_of_mem ?_ hnd''
      intro x y hx hy hxy q
      obtain ⟨s1,hs1,rfl⟩ := List.mem_map.1 hx
      obtain ⟨s2,hs2,rfl⟩ := List.mem_map.1 hy
      have g1 := hst'' s1 hs1
      have g2 := hst'' s2 hs2
      exact hxy (cod_inj g1.1 g2.1 (by rw [g1.2]; exact hn) (by rw [g1.2,g2.2]) q)) (fun y hy => by
      obtain ⟨z,hz,rfl⟩ := List.mem_map.1 hy
      obtain ⟨s1,hs1,rfl⟩ := List.mem_map.1 hz
      have g1 := hst'' s1 hs1
      have := cod_rng g1.1 (by rw [g1.2]; exact hn)
      rw [g1.2] at this; exact this)
    simp only [List.length_map] at this
    omega
  have hnq2 : nq' ≤ 720 := by
    obtain ⟨zs,_,_,g3,_⟩ := hQ2
    rw [g3]; simp; omega
  obtain ⟨H4,j1,j2,j3,j4⟩ := hQ3.push hrow3 (by omega)
  have hdr : ((st' ++ [(c,d0 + 1)]).drop (k + 1)).map (·.1) = (st'.drop (k + 1)).map (·.1) ++ [c] := by
    have : k + 1 ≤ st'.length := by have := hsp.length_le; omega
    rw [List.drop_append_of_le_length this,List.map_append]; rfl
  rw [← hdr] at j2
  have hqo3 : ∃ zs,H3[oq']? = some (.cells zs 27 false) := by obtain ⟨zs,g1,_⟩ := hQ3; exact ⟨zs,g1⟩
  obtain ⟨zs3,hqo3⟩ := hqo3
  have f1 := j4 _ _ (fun h => hoH h.symm) m3
  have f2 := hru3.but hqo3 (noInt_ll _ _) j4
  have f3 := hL3.frameQ (q := oq') (by omega) j4
  have f4 : st <+: st' ++ [(c,d0 + 1)] := hsp.trans (List.prefix_append _ _)
  have f6 : H3.length + 1 = oq ∨ G.length ≤ H3.length + 1 := .inr (by omega)
  have f7 : H <+: H4 := prefix_of fun i y hy => j4 i y (by have := at_lt hy; omega) (pre_at p3 hy)
  simp (maxSteps := 1000000) (disch := omega) only [k1,k5,k6,k7,k28,k29,k30,bsRowQ hrow3,j1,wrap64,SS,eq_self,reduceIte,reduceCtorEq,Nat.reduceEqDiff,Nat.reduceAdd]
  refine ⟨m' - 1,by omega,j + 1,st' ++ [(c,d0 + 1)],H3.length + 1,0,nq' + 1,?_⟩
  (repeat' first | exact hIn | exact f4 | exact hst'' | exact hnd'' | exact hlen'' | exact f1 | exact j2 | exact f6 | exact f2 | exact f3 | exact f7 | apply And.intro) <;> first | (simp only [Value.int.injEq,true_and]; omega) | omega | rfl | assumption | (simp; done) | (simp; omega)
def ords56 : List (Nat × List (Nat × Bool)) := []
def cd56 : Cd := (.seq (.reg [⟨⟨some 4,Op.assign (Operand.const (Value.int IntKind.i64 0)),none⟩,[]⟩]) (.seq (.seq (.reg [⟨⟨some 6,Op.move (Operand.tmp 0),none⟩,[]⟩,
  ⟨⟨some 7,Op.call { callee := (Callee.builtin Builtin.len),args := #[(Operand.tmp 6)],argTypes := #[27] },none⟩,[]⟩,
  ⟨⟨some 8,Op.move (Operand.const (Value.int IntKind.i64 0)),none⟩,[]⟩]) (.block 0 (.loop (.seq (.reg [⟨⟨some 9,Op.binOp BinOp.lss 3 (Operand.tmp 8) (Operand.tmp 7) 3,none⟩,[]⟩]) (.seq (.cond (Operand.tmp 9) .skip (.exit 0)) (.seq (.block 1 (.seq (.reg [⟨⟨some 10,Op.move (Operand.tmp 8),none⟩,[]⟩,
  ⟨⟨some 5,Op.assign (Operand.tmp 10),none⟩,[]⟩]) (.seq (.reg [⟨⟨some 11,Op.move (Operand.tmp 1),none⟩,[]⟩,
  ⟨⟨some 12,Op.move (Operand.tmp 0),none⟩,[]⟩,
  ⟨⟨some 13,Op.move (Operand.tmp 5),none⟩,[]⟩,
  ⟨⟨some 14,Op.indexAddr 27 (Operand.tmp 12) (Operand.tmp 13),none⟩,[]⟩,
  ⟨⟨some 15,Op.load 3 (Operand.tmp 14),none⟩,[]⟩,
  ⟨⟨some 16,Op.binOp BinOp.eql 3 (Operand.tmp 11) (Operand.tmp 15) 3,none⟩,[]⟩]) (.cond (Operand.tmp 16) (.seq (.reg [⟨⟨some 17,Op.move (Operand.tmp 5),none⟩,[]⟩,
  ⟨⟨some 4,Op.assign (Operand.tmp 17),none⟩,[]⟩]) .ret) .skip)))) (.reg [⟨⟨some 18,Op.binOp BinOp.add 3 (Operand.tmp 8) (Operand.const (Value.int IntKind.i64 1)) 3,none⟩,[]⟩,
  ⟨⟨some 8,Op.move (Operand.tmp 18),none⟩,[]⟩]))))))) (.seq (.reg [⟨⟨some 4,Op.assign (Operand.const (Value.int IntKind.i64 (-1))),none⟩,[]⟩]) .ret)))
theorem sl56 : slim Tryz.f56.ntmps ords56 (Tryz.f56.body.getD .skip) = some cd56 := by kernel_rfl
theorem in56 {args : List Value} {H : AH} {R : Value → AH → Prop} (hl : args.length = 2) (h : ∀ (Q : Exit → Sl → AH → Prop),(∀ e s H,endA Tryz.prog [ResultVar.tmp 4] R e s H → Q e s H) → wpC Tryz.prog cd56 Q (enterA args) H) : ACalls Tryz.prog 56 args H R :=
  ACalls.intro (by kernel_rfl) Tryz.func56 rfl (by kernel_rfl) sl56 hl (of_decide_eq_true (by kernel_rfl)) (by kernel_rfl) h
end Go.Proofs.YtelafbennmclfaaGreat.Ai
namespace Go.Proofs.YtelafbennmclfaaGreat.Ai
open Go Go.RowKit
theorem Index_c (v : Value) (xs : List Int) (x : Int) (H : AH) (hr : Row 3 H v xs) (hlen : xs.length ≤ 1099511627776) :
    ACalls Tryz.prog 56 [v,.int .i64 x] H fun r H' => r = .int .i64 (idxP (fun y => decide (x = y)) xs 0) ∧ H = H' := by
  refine in56 rfl ?_
  intro Q hQ
  simp (maxSteps := 1000000) (disch := omega) only [cd56,hr.len Tryz.underlying27,SS,eq_self,reduceIte,reduceCtorEq,Nat.reduceEqDiff,Nat.reduceAdd]
  refine LoopH.by (fun m s H' => ∃ i,m + i = xs.length ∧ s 0 = v ∧ s 1 = .int .i64 x ∧ s 7 = .int .i64 (xs.length : Int) ∧ s 8 = .int .i64 ((i : Nat) : Int) ∧ H = H' ∧ idxP (fun y => decide (x = y)) xs 0 = idxP (fun y => decide (x = y)) (xs.drop i) i) xs.length ?_ ?_
  · exact ⟨0,by simp,rfl,rfl,rfl,rfl,rfl,by simp⟩
  · rintro m s H' ⟨i,hm,h0,h1,h7,h8,rfl,hn⟩
    simp (maxSteps := 1000000) (disch := omega) only [h0,h1,h7,h8,SS,eq_self,reduceIte,reduceCtorEq,Nat.reduceEqDiff,Nat.reduceAdd]
    refine brD.intro (fun g => ?_) (fun g => ?_) <;> simp (maxSteps := 1000000) (disch := omega) only [h0,h1,h8,h7,hr.ix Tryz.underlying27 cs3,hr.cell,Int.toNat_natCast,SS,eq_self,reduceIte,reduceCtorEq,Nat.reduceEqDiff,Nat.reduceAdd]
    · have hi : i < xs.length := by omega
      rw [idxP_step _ xs i hi] at hn
      refine brD.intro (fun e => ?_) (fun e => ?_) <;> simp (maxSteps := 1000000) (disch := omega) only [h0,h1,h7,h8,wrap64,SS,eq_self,reduceIte,reduceCtorEq,Nat.reduceEqDiff,Nat.reduceAdd]
      · refine hQ _ _ _ ?_
        simp (maxSteps := 1000000) (disch := omega) only [SS,eq_self,reduceIte,reduceCtorEq,Nat.reduceEqDiff,Nat.reduceAdd]
        rw [hn,if_pos (by simpa using e)]
      · rw [if_neg (by simpa using e)] at hn
        refine ⟨m - 1,by omega,i + 1,by omega,?_⟩
        (repeat' apply And.intro) <;> first | exact hn | (simp only [Value.int.injEq,true_and]; omega) | omega | rfl | assumption | (simp; done) | (simp; omega)
    · refine hQ _ _ _ ?_
      simp (maxSteps := 1000000) (disch := omega) only [SS,eq_self,reduceIte,reduceCtorEq,Nat.reduceEqDiff,Nat.reduceAdd]
      rw [hn,List.drop_of_length_le (by omega)]; rfl
end Go.Proofs.YtelafbennmclfaaGreat.Ai
namespace Go.Proofs.YtelafbennmclfaaGreat.Ai
open Go Go.RowKit Go.Shelf
attribute [local go_sem] Oper.semAt_some
def uptoF {α : Type} (f : Nat → α) (k : Nat) : List α := (List.range k).map f
theorem uptoF_succ {α : Type} (f : Nat → α) (k : Nat) : uptoF f (k + 1) = uptoF f k ++ [f k] := by simp [uptoF,List.range_succ]
theorem uptoF_length {α : Type} (f : Nat → α) (k : Nat) : (uptoF f k).length = k := by simp [uptoF]
theorem uptoF_all (zs : List Int) : uptoF (fun j => zs[j]?.getD 0) zs.length = zs := by
  apply List.ext_getElem
  · simp [uptoF]
  · intro i h1 h2
    simp [uptoF,h2]
theorem uptoF_take (zs : List Int) {k : Nat} (hk : k ≤ zs.length) : uptoF (fun j => zs[j]?.getD 0) k = zs.take k := by
  apply List.ext_getElem
  · simp [uptoF,hk]
  · intro i h1 h2
    have : i < zs.length := by simp [uptoF] at h1; omega
    simp [uptoF,this]
set_option maxRecDepth 100000 in
set_option maxHeartbeats 2000000 in
theorem values1_in (F : Fence) (n : Nat) (h7 : F.fn 161) (hro : F.round = none) (hn : 1 ≤ n) (l Bs kk n₀ b off len cap : Nat) (zs : List Int) (hreach : len * 8 ≤ 140737488351232) (hb : b < n₀) (J Jx : List Int → World → Prop)
    (hY : ∀ pre x W,J pre W → pre.length < len → YieldAt F (n - 1) Tryz.prog l #[.int .i64 x] W fun e W' =>
      (e = .returned (.bool true) ∧ J (pre ++ [x]) W' ∧ Below n₀ W W') ∨ (e = .returned (.bool false) ∧ Jx (pre ++ [x]) W'))
    (W : World) (hBs : W.cell? ⟨Bs,kk,none⟩ = some (.slice (some ⟨b,off,none⟩) len cap)) (hc : ∀ j,j < len → W.cell? ⟨b,off + j,none⟩ = some (.int .i64 (zs[j]?.getD 0))) (h0 : J [] W) :
    CallsIn F n Tryz.prog 161 #[.func (.yield l) #[] #[],.pointer (some ⟨Bs,kk,none⟩)] W fun e W' => (∃ v,e = .returned v) ∧
      ((∃ ys,ys = uptoF (fun j => zs[j]?.getD 0) len ∧ J ys W') ∨ (∃ pre,(∃ k,k ≤ len ∧ pre = uptoF (fun j => zs[j]?.getD 0) k) ∧ Jx pre W')) := by
  refine callsIn_of_wp Tryz.func161 rfl h7 ?_ hro
  simp only [Tryz.ntmps161,List.size_toArray,List.length_cons,List.length_nil,Nat.reduceAdd,Nat.reduceSub,Array.replicate_succ,Array.replicate_zero,List.push_toArray,List.append_toArray,List.nil_append,List.cons_append]
  gi_wp2
  gi_loopw [7] (fun i wr => ∃ k : Nat,k ≤ len ∧ i = .int .i64 k ∧ J (uptoF (fun j => zs[j]?.getD 0) k) wr ∧ Below n₀ W wr)
    (fun i _ => len - (intOf i).toNat)
  case atStart => exact ⟨0,Nat.zero_le _,rfl,h0,Below.refl _ _⟩
  case round =>
    obtain ⟨k,hk,rfl,hJs,hnx⟩ := hrel
    have hcx : k < len → wr.cell? ⟨b,off + k,none⟩ = some (.int .i64 (zs[k]?.getD 0)) := fun h => (hnx.cell (p := ⟨b,off + k,none⟩) hb).trans (hc k h)
    by_cases hlt : k < len
    · obtain ⟨fn,tmps,assign,body,hy,hR⟩ := hY _ (zs[k]?.getD 0) wr hJs (by rw [uptoF_length]; exact hlt)
      have hcx' := hcx hlt
      gi_wp2
      refine hR.mono ?_
      rintro e W3 (⟨rfl,hJ3,hk3⟩ | ⟨rfl,hJx3⟩)
      · gi_wp2
        go_roundw
        case rel => exact ⟨k + 1,by omega,by simp,by rw [uptoF_succ]; exact hJ3,hnx.trans hk3⟩
        case measure => simp [intOf]; omega
      · gi_wp2
        refine bodyPost_ret (results_none rfl _ _ _) rfl ?_
        exact ⟨⟨_,rfl⟩,.inr ⟨_,⟨k + 1,by omega,(uptoF_succ _ _).symm⟩,hJx3⟩⟩
    · obtain rfl : k = len := by omega
      gi_wp2
      go_end0
      exact ⟨⟨_,rfl⟩,.inl ⟨_,rfl,hJs⟩⟩
def SlInts (n₀ : Nat) (W : World) (sv : Value) (zs : List Int) : Prop :=
  (∃ a c,sv = .slice a 0 c ∧ zs = []) ∨ ∃ b off cap,sv = .slice (some ⟨b,off,none⟩) zs.length cap ∧ b < n₀ ∧ ∀ j,j < zs.length → W.cell? ⟨b,off + j,none⟩ = some (.int .i64 (zs[j]?.getD 0))
theorem SlInts.below {n₀ : Nat} {A B : World} (h : Below n₀ A B) {sv : Value} {zs : List Int} : SlInts n₀ A sv zs → SlInts n₀ B sv zs
  | .inl e => .inl e
  | .inr ⟨b,off,cap,e,hb,hc⟩ => .inr ⟨b,off,cap,e,hb,fun j hj => (h.cell (p := ⟨b,off + j,none⟩) hb).trans (hc j hj)⟩
set_option maxRecDepth 100000 in
set_option maxHeartbeats 1000000 in
theorem values1_nil_in (F : Fence) (n : Nat) (h7 : F.fn 161) (hro : F.round = none) (l Bs kk : Nat) (J : List Int → World → Prop) (W : World) (a0 : Option Addr) (c0 : Nat) (hBs : W.cell? ⟨Bs,kk,none⟩ = some (.slice a0 0 c0)) (h0 : J [] W) :
    CallsIn F n Tryz.prog 161 #[.func (.yield l) #[] #[],.pointer (some ⟨Bs,kk,none⟩)] W fun e W' => (∃ v,e = .returned v) ∧ J [] W' := by
  refine callsIn_of_wp Tryz.func161 rfl h7 ?_ hro
  simp only [Tryz.ntmps161,List.size_toArray,List.length_cons,List.length_nil,Nat.reduceAdd,Nat.reduceSub,Array.replicate_succ,Array.replicate_zero,List.push_toArray,List.append_toArray,List.nil_append,List.cons_append]
  gi_wp2
  gi_loopw [7] (fun i wr => i = .int .i64 0 ∧ J [] wr) (fun _ _ => 0)
  case atStart => exact ⟨rfl,h0⟩
  case round =>
    obtain ⟨rfl,hJs⟩ := hrel
    gi_wp2
    go_end0
    exact ⟨⟨_,rfl⟩,hJs⟩
theorem values_stops (F : Fence) (n : Nat) (h7 : F.fn 161) (hro : F.round = none) (hn : 1 ≤ n) (Bs kk n₀ : Nat) (sv : Value) (zs : List Int) (hreach : zs.length * 8 ≤ 140737488351232) (w : World) (hBs : Bs < w.heap.size) (hn₀ : n₀ ≤ w.heap.size)
    (hc : w.cell? ⟨Bs,kk,none⟩ = some sv) (hI : SlInts n₀ w sv zs) :
    SeqStopsK F n Tryz.prog 161 #[.pointer (some ⟨Bs,kk,none⟩)] (fun x : Int => #[Value.int .i64 x]) (Below n₀) (fun ys => ys = zs) (fun pre => pre <+: zs) zs.length w := fun l J Jx W hW _ _ hY h0 => by
  have hc' := (hW.cell (p := ⟨Bs,kk,none⟩) hBs).trans hc
  rcases hI.below (hW.mono hn₀) with ⟨a0,c0,rfl,rfl⟩ | ⟨b,off,cap,rfl,hb,hcs⟩
  · exact (values1_nil_in F n h7 hro l Bs kk J W a0 c0 hc' h0).mono fun e W' ⟨he,hj⟩ => ⟨he,.inl ⟨_,rfl,hj⟩⟩
  · refine (values1_in F n h7 hro hn l Bs kk n₀ b off zs.length cap zs hreach hb J Jx hY W hc' hcs h0).mono ?_
    rintro e W' ⟨he,⟨ys,rfl,hj⟩ | ⟨pre,⟨k,hk,rfl⟩,hj⟩⟩
    · exact ⟨he,.inl ⟨_,uptoF_all zs,hj⟩⟩
    · exact ⟨he,.inr ⟨_,by rw [uptoF_take zs hk]; exact List.take_prefix _ _,hj⟩⟩
theorem infoInt : (Tryz.prog.info? 3).map (fun i => (i.zero,i.size,i.bytes)) = some (some (.int .i64 0),1,8) := by kernel_rfl
set_option maxRecDepth 100000 in
set_option maxHeartbeats 2000000 in
theorem appendSeq_in (F : Fence) (n : Nat) (h3 : F.fn 170) (h5 : F.fn 161) (hro : F.round = none) (hn : 3 ≤ n) (Bs kk : Nat) (sv : Value) (zs : List Int) (hlen : zs.length ≤ maxLen) (hbytes : zs.length * 8 ≤ 140737488351232) (w : World)
    (hBs : Bs < w.heap.size) (hcs : w.cell? ⟨Bs,kk,none⟩ = some sv) (hI : SlInts w.heap.size w sv zs) :
    CallsIn F n Tryz.prog 170 #[.slice none 0 0,.func (.func 161) #[] #[.pointer (some ⟨Bs,kk,none⟩)]] w fun e W' => ∃ v,e = .returned v ∧ W'.ownsRow w.heap.size 3 1 v zs.length (zs.map (Value.int .i64)) ∧ (v = .slice none 0 0 ↔ zs = []) ∧ Below w.heap.size w W' := by
  have h1 : 1 ≤ n := by omega
  obtain ⟨i0,hi,hz0,hz1,hz2⟩ := info_parts infoInt
  refine callsIn_of_wp_marks Tryz.func170 rfl h3 ?_ hro
  simp only [Tryz.ntmps170,List.size_toArray,List.length_cons,List.length_nil,Nat.reduceAdd,Nat.reduceSub,Array.replicate_succ,Array.replicate_zero,List.push_toArray,List.append_toArray,List.nil_append,List.cons_append]
  gi_wp2
  have bO := Boxed.new w 27 (.slice none 0 0)
  have hB0 : Below w.heap.size w (w.alloc (.cells #[.slice none 0 0] 27)) := (Below.refl _ w).alloc (Nat.le_refl _) _
  refine wpIn_rangeFunc_ownG hro h1 (gf := 161) (lb := #[.pointer (some ⟨Bs,kk,none⟩)]) rfl h5 (enters_of Tryz.func161 (by kernel_rfl) rfl)
    (values_stops F (n - 1) h5 hro (by omega) Bs kk w.heap.size sv zs hbytes (w.alloc (.cells #[.slice none 0 0] 27)) (by simp; omega) (by simp) ((hB0.cell (p := ⟨Bs,kk,none⟩) hBs).trans hcs) (hI.below hB0)) belowK_t (belowK_b (by simp)) (Below.refl _ _) (fun _ => rfl)
    (fun pre W => (∃ v,Boxed W w.heap.size 27 v ∧ W.ownsRow w.heap.size 3 1 v pre.length (pre.map (Value.int .i64)) ∧ (v = .slice none 0 0 ↔ pre = [])) ∧ Below w.heap.size w W)
    (fun _ _ _ => False)
    (OwnFrom.and (Own.from (holdsRow_own w.heap.size w.heap.size 27 3 1 (fun pre : List Int => pre.length) (fun pre => pre.map (Value.int .i64)) (fun pre v => v = .slice none 0 0 ↔ pre = [])) _) (ownFrom_below (Nat.le_refl _) (by simp)))
    (fun _ _ _ _ _ hs _ _ => hs)
    ⟨⟨_,bO,World.ownsRow_nil _ _ _ _,by simp⟩,hB0⟩
    (fun x => { tmps := #[.slice none 0 0,.func (.func 161) #[] #[.pointer (some ⟨Bs,kk,none⟩)],.pointer (some ⟨w.heap.size,0,none⟩),undef,.slice none 0 0,.int .i64 x,.func (.func 161) #[] #[.pointer (some ⟨Bs,kk,none⟩)],.int .i64 x,undef,undef,undef,undef,undef],defers := [] }) ?assign ?body ?done ?stop
  case assign =>
    intro l x W K hK
    gi_wp2
    exact hK
  case body =>
    rintro l pre x W ⟨⟨v,hv,hrow,hnil⟩,hB⟩ hlt
    have hc := hv.cell
    gi_wp2_with (gi_at_builtin; refine wpListIn_append_own _ rfl _ _ 27 rfl w.heap.size 3 i0 (.int .i64 0) 1 8 Tryz.underlying27 hi hz0 hz1 hz2 rfl (by decide) _ _ _ rfl (hrow.alloc _) ⟨W.heap.size,0,none⟩ 1 1 [.int .i64 x] rfl rfl (cell_one_new _ _ _) (by simp [Value.oneCell']) (by omega) (by omega) (by have := hB.size; simp; omega) ?_; intro v' w1 hown' hgrow _; obtain ⟨g',cap',rfl⟩ := ownsRow_succ hown'; obtain ⟨hv1,hv2,hr2,hk2,hb2⟩ := hv.appended (by decide) hrow hB.size (Nat.le_refl _) hown' hgrow; have hc1 := hv1.cell; have hf1 := hv1.frozen)
    exact ⟨hk2.from _,hb2,⟨_,hv2,by simpa using hr2,by simp⟩,hB.trans hb2⟩
  case done =>
    rintro D ys W hD rfl ⟨⟨v,hv,hrow,hnil⟩,hB⟩ hK
    have hc := hv.cell
    gi_wp2
    refine ⟨by simp,.inl ⟨_,_,rfl,run_takeDeferred hK,?_⟩⟩
    exact ⟨_,results_tmp rfl _ _ _,v,rfl,ownsRow_putObj hrow _ hK rfl,hnil,hB.trans (belowK_b (w := w) (Nat.le_refl _) W D _ _ (by simp at hD; omega) hK rfl rfl)⟩
  case stop =>
    rintro D c pre W _ _ h _
    exact h.elim
theorem appendSeq_calls (Bs kk : Nat) (sv : Value) (zs : List Int) (hlen : zs.length ≤ 1099511627776) (w : World) (hBs : Bs < w.heap.size) (hcs : w.cell? ⟨Bs,kk,none⟩ = some sv) (hI : SlInts w.heap.size w sv zs) :
    Calls Tryz.prog 170 #[.slice none 0 0,.func (.func 161) #[] #[.pointer (some ⟨Bs,kk,none⟩)]] w fun e W' => ∃ v,e = .returned v ∧ W'.ownsRow w.heap.size 3 1 v zs.length (zs.map (Value.int .i64)) ∧ (v = .slice none 0 0 ↔ zs = []) ∧ Below w.heap.size w W' :=
  (callsIn_wide (n := 5)).1 (appendSeq_in Fence.wide 5 trivial trivial rfl (by omega) Bs kk sv zs (Nat.le_trans hlen (by decide)) (by omega) w hBs hcs hI)
end Go.Proofs.YtelafbennmclfaaGreat.Ai
namespace Go.Proofs.YtelafbennmclfaaGreat.Ai
open Go
def ords160 : List (Nat × List (Nat × Bool)) := []
def cd160 : Cd := (.seq (.reg [⟨⟨some 2,Op.assign (Operand.const (Value.slice none 0 0)),none⟩,[]⟩]) (.seq (.reg [⟨⟨some 3,Op.move (Operand.tmp 0),none⟩,[]⟩,
  ⟨⟨some 4,Op.call { callee := (Callee.value (Operand.func 170)),args := #[(Operand.const (Value.slice none 0 0)),(Operand.tmp 3)],argTypes := #[27,128] },none⟩,[]⟩,
  ⟨⟨some 2,Op.assign (Operand.tmp 4),none⟩,[]⟩]) .ret))
theorem sl160 : slim Tryz.f160.ntmps ords160 (Tryz.f160.body.getD .skip) = some cd160 := by kernel_rfl
theorem in160 {args : List Value} {H : AH} {R : Value → AH → Prop} (hl : args.length = 1) (h : ∀ (Q : Exit → Sl → AH → Prop),(∀ e s H,endA Tryz.prog [ResultVar.tmp 2] R e s H → Q e s H) → wpC Tryz.prog cd160 Q (enterA args) H) : ACalls Tryz.prog 160 args H R :=
  ACalls.intro (by kernel_rfl) Tryz.func160 rfl (by kernel_rfl) sl160 hl (of_decide_eq_true (by kernel_rfl)) (by kernel_rfl) h
def ords134 : List (Nat × List (Nat × Bool)) := []
def cd134 : Cd := (.seq (.reg [⟨⟨some 1,Op.box 27 (Operand.tmp 0),none⟩,[]⟩,
  ⟨⟨some 2,Op.assign (Operand.const Value.nilFunc),none⟩,[]⟩]) (.seq (.reg [⟨⟨some 3,Op.makeFunc (Fn.func 161) #[] #[(Operand.tmp 1)],none⟩,[]⟩,
  ⟨⟨some 2,Op.assign (Operand.tmp 3),none⟩,[]⟩]) .ret))
theorem sl134 : slim Tryz.f134.ntmps ords134 (Tryz.f134.body.getD .skip) = some cd134 := by kernel_rfl
theorem in134 {args : List Value} {H : AH} {R : Value → AH → Prop} (hl : args.length = 1) (h : ∀ (Q : Exit → Sl → AH → Prop),(∀ e s H,endA Tryz.prog [ResultVar.tmp 2] R e s H → Q e s H) → wpC Tryz.prog cd134 Q (enterA args) H) : ACalls Tryz.prog 134 args H R :=
  ACalls.intro (by kernel_rfl) Tryz.func134 rfl (by kernel_rfl) sl134 hl (of_decide_eq_true (by kernel_rfl)) (by kernel_rfl) h
def ords133 : List (Nat × List (Nat × Bool)) := []
def cd133 : Cd := (.seq (.reg [⟨⟨some 2,Op.assign (Operand.const (Value.slice none 0 0)),none⟩,[]⟩]) (.seq (.reg [⟨⟨some 4,Op.move (Operand.tmp 0),none⟩,[]⟩,
  ⟨⟨some 5,Op.call { callee := (Callee.value (Operand.func 160)),args := #[(Operand.tmp 4)],argTypes := #[128] },none⟩,[]⟩,
  ⟨⟨some 3,Op.assign (Operand.tmp 5),none⟩,[]⟩]) (.seq (.reg [⟨⟨some 6,Op.move (Operand.tmp 3),none⟩,[]⟩,
  ⟨⟨some 7,Op.call { callee := (Callee.value (Operand.func 114)),args := #[(Operand.tmp 6)],argTypes := #[27] },none⟩,[]⟩]) (.seq (.reg [⟨⟨some 8,Op.move (Operand.tmp 3),none⟩,[]⟩,
  ⟨⟨some 2,Op.assign (Operand.tmp 8),none⟩,[]⟩]) .ret))))
theorem sl133 : slim Tryz.f133.ntmps ords133 (Tryz.f133.body.getD .skip) = some cd133 := by kernel_rfl
theorem in133 {args : List Value} {H : AH} {R : Value → AH → Prop} (hl : args.length = 1) (h : ∀ (Q : Exit → Sl → AH → Prop),(∀ e s H,endA Tryz.prog [ResultVar.tmp 2] R e s H → Q e s H) → wpC Tryz.prog cd133 Q (enterA args) H) : ACalls Tryz.prog 133 args H R :=
  ACalls.intro (by kernel_rfl) Tryz.func133 rfl (by kernel_rfl) sl133 hl (of_decide_eq_true (by kernel_rfl)) (by kernel_rfl) h
end Go.Proofs.YtelafbennmclfaaGreat.Ai
namespace Go.Proofs.YtelafbennmclfaaGreat.Ai
open Go Go.RowKit
theorem AppendSeq_c (o k : Nat) (v : Value) (xs : List Int) (H : AH) (ho : cellA H o k = some v) (hr : Row 3 H v xs) (hlen : xs.length ≤ 1099511627776) :
    ACalls Tryz.prog 170 [.slice none 0 0,.func (.func 161) #[] (List.toArray [.pointer (some ⟨o,k,none⟩)])] H fun r H' => Own 3 H H' r xs ∧ H <+: H' := by
  refine ⟨⟨_,Tryz.func170,rfl,by kernel_rfl⟩,?_⟩
  intro μ w cargs hH hall
  obtain ⟨c0,c1,e0⟩ : ∃ c0 c1,cargs = #[c0,c1] := by
    match hcs : cargs.toList,hall with
    | [c0,c1],_ => exact ⟨c0,c1,by rw [← Array.toArray_toList (xs := cargs),hcs]⟩
  subst e0
  obtain ⟨h0,h1,_⟩ := hall
  obtain ⟨_,_,e0⟩ := h0
  subst e0
  obtain ⟨es0,ds,e1,hes0,hds⟩ := h1
  have ees : es0 = #[] := by
    match hcs : es0.toList,hes0 with
    | [],_ => rw [← Array.toArray_toList (xs := es0),hcs]
  subst ees
  subst e1
  obtain ⟨d,ed⟩ : ∃ d,ds = #[d] := by
    match hcs : ds.toList,hds with
    | [d],_ => exact ⟨d,by rw [← Array.toArray_toList (xs := ds),hcs]⟩
  subst ed
  obtain ⟨⟨_,L,hL,e2⟩,_⟩ := hds
  subst e2
  unfold cellA at ho
  split at ho
  case h_2 => cases ho
  rename_i vs t ro hobj
  obtain ⟨f1,f2,f3,f4,f5,f6⟩ := hH.cells_ o vs t ro L hobj hL
  obtain ⟨cv,g1,g2⟩ := f5 k v ho
  have hI : SlInts w.heap.size w cv xs := by
    rcases hr with ⟨rfl,rfl⟩ | ⟨o',k',us,ro',rfl,hu,hk,he⟩
    · obtain ⟨_,_,e⟩ := g2
      exact .inl ⟨_,_,e,rfl⟩
    · obtain ⟨_,_,a,m,e,hm,hor⟩ := g2
      by_cases hz : xs.length = 0
      · have : xs = [] := List.eq_nil_of_length_eq_zero hz
        subst this
        exact .inl ⟨_,_,e,rfl⟩
      · rcases hor with hor | ⟨L',hL',ea,hx⟩
        · omega
        · subst ea
          obtain ⟨q1,q2,q3,q4,q5,q6⟩ := hH.cells_ o' us _ ro' L' hu hL'
          refine .inr ⟨L'.blk,L'.base + k',m,e,q1,?_⟩
          intro j hj
          have hat : us[k' + j]? = some (.int .i64 (xs.getD j 0)) := by
            have := congrArg (·[j]?) he
            simp only [List.getElem?_take,List.getElem?_drop,if_pos hj] at this
            rw [this,ints_at xs hj]
          obtain ⟨cv2,p1,p2⟩ := q5 _ _ hat
          have : cv2 = .int .i64 (xs.getD j 0) := p2
          rw [Nat.add_assoc,p1,this,List.getD_eq_getElem?_getD]
  refine (appendSeq_calls L.blk (L.base + k) cv xs hlen w f1 g1 hI).mono ?_
  rintro e w' ⟨v',rfl,hrow,hnil,hb⟩
  rcases hrow with ⟨_,⟨hv,hz⟩ | ⟨g,cap,cur,hv,hg,hcell,hn,hcap,hsz,hcur⟩⟩
  · have : xs = [] := List.eq_nil_of_length_eq_zero hz
    subst this
    exact ⟨μ,.slice none 0 0,H,v',rfl,by rw [hv]; exact ⟨rfl,rfl,rfl⟩,hH.below hb,Evo.below' hH hb,.inl ⟨rfl,rfl⟩,List.prefix_refl _⟩
  · have hc1 : Tryz.prog.cellsOf 3 = 1 := cs3
    have hcs : ∀ (i : Nat) (x : Value),(ints xs)[i]? = some x → ∃ cv,cur[i]? = some cv ∧ CRel μ x cv := by
      intro i x hx
      have hi : i < xs.length := by have := (List.getElem?_eq_some_iff.1 hx).1; rwa [ints_len] at this
      have := congrArg (·[i]?) hcur
      simp only [Nat.mul_one,List.getElem?_take,if_pos hi,Array.getElem?_toList] at this
      have e : (xs.map (Value.int .i64))[i]? = (ints xs)[i]? := rfl
      rw [e,hx] at this
      refine ⟨x,this,?_⟩
      rw [ints_at xs hi] at hx
      cases hx
      rfl
    have ad := hH.adopt hb (vs := ints xs) (ext := cap) hg hcell (by rw [hc1]; decide) (by rw [ints_len]; exact hn) (by omega) hcs
    refine ⟨_,.slice (some ⟨H.length,0,none⟩) xs.length xs.length,_,v',rfl,?_,ad.1,ad.2,.inr ⟨H.length,rfl,Nat.le_refl _,at_new ..⟩,List.prefix_append _ _⟩
    rw [hv]
    exact ⟨rfl,rfl,_,cap,rfl,hn,.inr ⟨_,Mu.put_same _ _ _,rfl,by rw [hc1]; simp⟩⟩
theorem Collect_c (o k : Nat) (v : Value) (xs : List Int) (H : AH) (ho : cellA H o k = some v) (hr : Row 3 H v xs) (hlen : xs.length ≤ 1099511627776) :
    ACalls Tryz.prog 160 [.func (.func 161) #[] (List.toArray [.pointer (some ⟨o,k,none⟩)])] H fun r H' => Own 3 H H' r xs ∧ H <+: H' := by
  refine in160 rfl ?_
  intro Q hQ
  simp (maxSteps := 1000000) (disch := omega) only [cd160,SS,eq_self,reduceIte,reduceCtorEq,Nat.reduceEqDiff,Nat.reduceAdd]
  refine CallH.by (AppendSeq_c o k v xs H ho hr hlen) ?_
  rintro r H1 ⟨hown,hp⟩
  simp (maxSteps := 1000000) (disch := omega) only [hown.row.tup,SS,eq_self,reduceIte,reduceCtorEq,Nat.reduceEqDiff,Nat.reduceAdd]
  refine hQ _ _ _ ?_
  simp (maxSteps := 1000000) (disch := omega) only [hown.row.tup,SS,eq_self,reduceIte,reduceCtorEq,Nat.reduceEqDiff,Nat.reduceAdd]
  exact ⟨hown,hp⟩
theorem Values_c (v : Value) (xs : List Int) (H : AH) (hr : Row 3 H v xs) :
    ACalls Tryz.prog 134 [v] H fun r H' => r = .func (.func 161) #[] (List.toArray [.pointer (some ⟨H.length,0,none⟩)]) ∧ H' = H ++ [.cells [v] 27 false] := by
  refine in134 rfl ?_
  intro Q hQ
  obtain ⟨p,e⟩ := hr.shape
  have hb : boxA Tryz.prog 27 v H = some (.pointer (some ⟨H.length,0,none⟩),H ++ [.cells [v] 27 false]) := by
    subst e
    simp only [boxA,cs27]
    rfl
  have hm : ∀ p : Addr,makeFuncA (.func 161) [] [.pointer (some p)] = some (.func (.func 161) #[] (List.toArray [.pointer (some p)])) := fun _ => rfl
  have ht : ∀ f fs cs,isTup (.func f fs cs) = false := fun _ _ _ => rfl
  simp (maxSteps := 1000000) (disch := omega) only [cd134,hb,hm,ht,SS,eq_self,reduceIte,reduceCtorEq,Nat.reduceEqDiff,Nat.reduceAdd]
  refine hQ _ _ _ ?_
  simp (maxSteps := 1000000) (disch := omega) only [ht,SS,eq_self,reduceIte,reduceCtorEq,Nat.reduceEqDiff,Nat.reduceAdd]
theorem SortedV_c (o : Nat) (v : Value) (xs : List Int) (H : AH) (ho : cellA H o 0 = some v) (hr : Row 3 H v xs) (hlen : xs.length ≤ 12) :
    ACalls Tryz.prog 133 [.func (.func 161) #[] (List.toArray [.pointer (some ⟨o,0,none⟩)])] H fun r H' => ∃ ys,Own 3 H H' r ys ∧ ys.Perm xs ∧ Asc ys ∧ H <+: H' := by
  refine in133 rfl ?_
  intro Q hQ
  simp (maxSteps := 1000000) (disch := omega) only [cd133,SS,eq_self,reduceIte,reduceCtorEq,Nat.reduceEqDiff,Nat.reduceAdd]
  refine CallH.by (Collect_c o 0 v xs H ho hr (by omega)) ?_
  rintro u H1 ⟨hown,hp⟩
  simp (maxSteps := 1000000) (disch := omega) only [SS,eq_self,reduceIte,reduceCtorEq,Nat.reduceEqDiff,Nat.reduceAdd]
  refine CallH.by (Sort_c u xs H H1 hown hlen) ?_
  rintro _ H2 ⟨ys,hown2,hperm,hasc,hel⟩
  simp (maxSteps := 1000000) (disch := omega) only [hown2.row.tup,SS,eq_self,reduceIte,reduceCtorEq,Nat.reduceEqDiff,Nat.reduceAdd]
  refine hQ _ _ _ ?_
  simp (maxSteps := 1000000) (disch := omega) only [hown2.row.tup,SS,eq_self,reduceIte,reduceCtorEq,Nat.reduceEqDiff,Nat.reduceAdd]
  exact ⟨ys,hown2,hperm,hasc,hown.else_pre hp hel⟩
def ords132 : List (Nat × List (Nat × Bool)) := []
def cd132 : Cd := (.seq (.reg [⟨⟨some 4,Op.assign (Operand.const (Value.bool false)),none⟩,[]⟩]) (.seq (.seq (.reg [⟨⟨some 7,Op.move (Operand.tmp 0),none⟩,[]⟩,
  ⟨⟨some 8,Op.call { callee := (Callee.builtin Builtin.len),args := #[(Operand.tmp 7)],argTypes := #[27] },none⟩,[]⟩,
  ⟨⟨some 9,Op.move (Operand.const (Value.int IntKind.i64 0)),none⟩,[]⟩]) (.block 0 (.loop (.seq (.reg [⟨⟨some 10,Op.binOp BinOp.lss 3 (Operand.tmp 9) (Operand.tmp 8) 3,none⟩,[]⟩]) (.seq (.cond (Operand.tmp 10) .skip (.exit 0)) (.seq (.block 1 (.seq (.reg [⟨⟨some 11,Op.move (Operand.tmp 9),none⟩,[]⟩,
  ⟨⟨some 12,Op.indexAddr 27 (Operand.tmp 7) (Operand.tmp 9),none⟩,[]⟩,
  ⟨⟨some 13,Op.load 3 (Operand.tmp 12),none⟩,[]⟩,
  ⟨⟨some 5,Op.assign (Operand.tmp 11),none⟩,[]⟩,
  ⟨⟨some 6,Op.assign (Operand.tmp 13),none⟩,[]⟩]) (.seq (.reg [⟨⟨some 14,Op.move (Operand.tmp 6),none⟩,[]⟩,
  ⟨⟨some 15,Op.move (Operand.tmp 1),none⟩,[]⟩,
  ⟨⟨some 16,Op.binOp BinOp.sub 3 (Operand.tmp 15) (Operand.const (Value.int IntKind.i64 1)) 3,none⟩,[]⟩,
  ⟨⟨some 17,Op.call { callee := (Callee.value (Operand.func 90)),args := #[(Operand.tmp 14),(Operand.const (Value.int IntKind.i64 0)),(Operand.tmp 16)],argTypes := #[3,3,3] },none⟩,[]⟩,
  ⟨⟨some 18,Op.unOp UnOp.not 4 (Operand.tmp 17),none⟩,[]⟩,
  ⟨⟨some 19,Op.move (Operand.tmp 18),none⟩,[]⟩,
  ⟨⟨some 20,Op.move (Operand.tmp 5),some (19,false)⟩,[]⟩,
  ⟨⟨some 21,Op.binOp BinOp.gtr 3 (Operand.tmp 20) (Operand.const (Value.int IntKind.i64 0)) 3,some (19,false)⟩,[]⟩,
  ⟨⟨some 22,Op.move (Operand.tmp 21),some (19,false)⟩,[]⟩,
  ⟨⟨some 23,Op.move (Operand.tmp 6),some (22,true)⟩,[]⟩,
  ⟨⟨some 24,Op.move (Operand.tmp 0),some (22,true)⟩,[]⟩,
  ⟨⟨some 25,Op.move (Operand.tmp 5),some (22,true)⟩,[]⟩,
  ⟨⟨some 26,Op.binOp BinOp.sub 3 (Operand.tmp 25) (Operand.const (Value.int IntKind.i64 1)) 3,some (22,true)⟩,[]⟩,
  ⟨⟨some 27,Op.indexAddr 27 (Operand.tmp 24) (Operand.tmp 26),some (22,true)⟩,[]⟩,
  ⟨⟨some 28,Op.load 3 (Operand.tmp 27),some (22,true)⟩,[]⟩,
  ⟨⟨some 29,Op.binOp BinOp.leq 3 (Operand.tmp 23) (Operand.tmp 28) 3,some (22,true)⟩,[]⟩,
  ⟨⟨some 30,Op.pick (Operand.tmp 22) (Operand.tmp 29) (Operand.const (Value.bool false)),some (19,false)⟩,[]⟩,
  ⟨⟨some 31,Op.pick (Operand.tmp 19) (Operand.const (Value.bool true)) (Operand.tmp 30),none⟩,[]⟩]) (.cond (Operand.tmp 31) (.seq (.reg [⟨⟨some 4,Op.assign (Operand.const (Value.bool false)),none⟩,[]⟩]) .ret) .skip)))) (.reg [⟨⟨some 32,Op.binOp BinOp.add 3 (Operand.tmp 9) (Operand.const (Value.int IntKind.i64 1)) 3,none⟩,[]⟩,
  ⟨⟨some 9,Op.move (Operand.tmp 32),none⟩,[]⟩]))))))) (.seq (.reg [⟨⟨some 4,Op.assign (Operand.const (Value.bool true)),none⟩,[]⟩]) .ret)))
theorem sl132 : slim Tryz.f132.ntmps ords132 (Tryz.f132.body.getD .skip) = some cd132 := by kernel_rfl
theorem in132 {args : List Value} {H : AH} {R : Value → AH → Prop} (hl : args.length = 2) (h : ∀ (Q : Exit → Sl → AH → Prop),(∀ e s H,endA Tryz.prog [ResultVar.tmp 4] R e s H → Q e s H) → wpC Tryz.prog cd132 Q (enterA args) H) : ACalls Tryz.prog 132 args H R :=
  ACalls.intro (by kernel_rfl) Tryz.func132 rfl (by kernel_rfl) sl132 hl (of_decide_eq_true (by kernel_rfl)) (by kernel_rfl) h
def ords115 : List (Nat × List (Nat × Bool)) := []
def cd115 : Cd := (.seq (.reg [⟨⟨some 4,Op.assign (Operand.const (Value.bool false)),none⟩,[]⟩]) (.seq (.reg [⟨⟨some 5,Op.move (Operand.tmp 0),none⟩,[]⟩,
  ⟨⟨some 6,Op.call { callee := (Callee.builtin Builtin.len),args := #[(Operand.tmp 5)],argTypes := #[27] },none⟩,[]⟩,
  ⟨⟨some 7,Op.move (Operand.tmp 1),none⟩,[]⟩,
  ⟨⟨some 8,Op.binOp BinOp.eql 3 (Operand.tmp 6) (Operand.tmp 7) 3,none⟩,[]⟩,
  ⟨⟨some 9,Op.move (Operand.tmp 8),none⟩,[]⟩,
  ⟨⟨some 10,Op.move (Operand.tmp 0),some (9,true)⟩,[]⟩,
  ⟨⟨some 11,Op.call { callee := (Callee.value (Operand.func 134)),args := #[(Operand.tmp 10)],argTypes := #[27] },some (9,true)⟩,[]⟩,
  ⟨⟨some 12,Op.call { callee := (Callee.value (Operand.func 133)),args := #[(Operand.tmp 11)],argTypes := #[128] },some (9,true)⟩,[]⟩,
  ⟨⟨some 13,Op.move (Operand.tmp 1),some (9,true)⟩,[]⟩,
  ⟨⟨some 14,Op.call { callee := (Callee.value (Operand.func 132)),args := #[(Operand.tmp 12),(Operand.tmp 13)],argTypes := #[27,3] },some (9,true)⟩,[]⟩,
  ⟨⟨some 15,Op.pick (Operand.tmp 9) (Operand.tmp 14) (Operand.const (Value.bool false)),none⟩,[]⟩,
  ⟨⟨some 4,Op.assign (Operand.tmp 15),none⟩,[]⟩]) .ret))
theorem sl115 : slim Tryz.f115.ntmps ords115 (Tryz.f115.body.getD .skip) = some cd115 := by kernel_rfl
theorem in115 {args : List Value} {H : AH} {R : Value → AH → Prop} (hl : args.length = 2) (h : ∀ (Q : Exit → Sl → AH → Prop),(∀ e s H,endA Tryz.prog [ResultVar.tmp 4] R e s H → Q e s H) → wpC Tryz.prog cd115 Q (enterA args) H) : ACalls Tryz.prog 115 args H R :=
  ACalls.intro (by kernel_rfl) Tryz.func115 rfl (by kernel_rfl) sl115 hl (of_decide_eq_true (by kernel_rfl)) (by kernel_rfl) h
def ords86 : List (Nat × List (Nat × Bool)) := []
def cd86 : Cd := (.seq (.reg [⟨⟨some 2,Op.assign (Operand.const (Value.bool false)),none⟩,[]⟩]) (.seq (.reg [⟨⟨some 3,Op.move (Operand.tmp 0),none⟩,[]⟩,
  ⟨⟨some 4,Op.call { callee := (Callee.builtin Builtin.len),args := #[(Operand.tmp 3)],argTypes := #[27] },none⟩,[]⟩,
  ⟨⟨some 5,Op.binOp BinOp.leq 3 (Operand.tmp 4) (Operand.const (Value.int IntKind.i64 8)) 3,none⟩,[]⟩,
  ⟨⟨some 6,Op.move (Operand.tmp 5),none⟩,[]⟩,
  ⟨⟨some 7,Op.move (Operand.tmp 0),some (6,true)⟩,[]⟩,
  ⟨⟨some 8,Op.move (Operand.tmp 0),some (6,true)⟩,[]⟩,
  ⟨⟨some 9,Op.call { callee := (Callee.builtin Builtin.len),args := #[(Operand.tmp 8)],argTypes := #[27] },some (6,true)⟩,[]⟩,
  ⟨⟨some 10,Op.call { callee := (Callee.value (Operand.func 115)),args := #[(Operand.tmp 7),(Operand.tmp 9)],argTypes := #[27,3] },some (6,true)⟩,[]⟩,
  ⟨⟨some 11,Op.pick (Operand.tmp 6) (Operand.tmp 10) (Operand.const (Value.bool false)),none⟩,[]⟩,
  ⟨⟨some 2,Op.assign (Operand.tmp 11),none⟩,[]⟩]) .ret))
theorem sl86 : slim Tryz.f86.ntmps ords86 (Tryz.f86.body.getD .skip) = some cd86 := by kernel_rfl
theorem in86 {args : List Value} {H : AH} {R : Value → AH → Prop} (hl : args.length = 1) (h : ∀ (Q : Exit → Sl → AH → Prop),(∀ e s H,endA Tryz.prog [ResultVar.tmp 2] R e s H → Q e s H) → wpC Tryz.prog cd86 Q (enterA args) H) : ACalls Tryz.prog 86 args H R :=
  ACalls.intro (by kernel_rfl) Tryz.func86 rfl (by kernel_rfl) sl86 hl (of_decide_eq_true (by kernel_rfl)) (by kernel_rfl) h
def ords70 : List (Nat × List (Nat × Bool)) := []
def cd70 : Cd := (.seq (.reg [⟨⟨some 2,Op.assign (Operand.const (Value.bool false)),none⟩,[]⟩]) (.seq (.seq (.reg [⟨⟨some 3,Op.assign (Operand.const (Value.int IntKind.i64 0)),none⟩,[]⟩]) (.block 0 (.loop (.seq (.seq (.reg [⟨⟨some 4,Op.move (Operand.tmp 3),none⟩,[]⟩,
  ⟨⟨some 5,Op.move (Operand.tmp 0),none⟩,[]⟩,
  ⟨⟨some 6,Op.call { callee := (Callee.builtin Builtin.len),args := #[(Operand.tmp 5)],argTypes := #[27] },none⟩,[]⟩,
  ⟨⟨some 7,Op.binOp BinOp.lss 3 (Operand.tmp 4) (Operand.tmp 6) 3,none⟩,[]⟩,
  ⟨⟨some 8,Op.move (Operand.tmp 7),none⟩,[]⟩,
  ⟨⟨some 9,Op.move (Operand.tmp 0),some (8,true)⟩,[]⟩,
  ⟨⟨some 10,Op.call { callee := (Callee.builtin Builtin.len),args := #[(Operand.tmp 9)],argTypes := #[27] },some (8,true)⟩,[]⟩,
  ⟨⟨some 11,Op.binOp BinOp.leq 3 (Operand.tmp 10) (Operand.const (Value.int IntKind.i64 8)) 3,some (8,true)⟩,[]⟩,
  ⟨⟨some 12,Op.pick (Operand.tmp 8) (Operand.tmp 11) (Operand.const (Value.bool false)),none⟩,[]⟩]) (.cond (Operand.tmp 12) .skip (.exit 0))) (.seq (.block 1 (.seq (.reg [⟨⟨some 15,Op.move (Operand.tmp 0),none⟩,[]⟩,
  ⟨⟨some 16,Op.move (Operand.tmp 3),none⟩,[]⟩,
  ⟨⟨some 17,Op.call { callee := (Callee.value (Operand.func 103)),args := #[(Operand.tmp 15),(Operand.tmp 16)],argTypes := #[27,3] },none⟩,[]⟩,
  ⟨⟨some 18,Op.unOp UnOp.not 4 (Operand.tmp 17),none⟩,[]⟩]) (.cond (Operand.tmp 18) (.seq (.reg [⟨⟨some 2,Op.assign (Operand.const (Value.bool false)),none⟩,[]⟩]) .ret) .skip))) (.reg [⟨⟨some 13,Op.move (Operand.tmp 3),none⟩,[]⟩,
  ⟨⟨some 14,Op.binOp BinOp.add 3 (Operand.tmp 13) (Operand.const (Value.int IntKind.i64 1)) 3,none⟩,[]⟩,
  ⟨⟨some 3,Op.assign (Operand.tmp 14),none⟩,[]⟩])))))) (.seq (.reg [⟨⟨some 19,Op.move (Operand.tmp 0),none⟩,[]⟩,
  ⟨⟨some 20,Op.call { callee := (Callee.builtin Builtin.len),args := #[(Operand.tmp 19)],argTypes := #[27] },none⟩,[]⟩,
  ⟨⟨some 21,Op.binOp BinOp.leq 3 (Operand.tmp 20) (Operand.const (Value.int IntKind.i64 8)) 3,none⟩,[]⟩,
  ⟨⟨some 2,Op.assign (Operand.tmp 21),none⟩,[]⟩]) .ret)))
theorem sl70 : slim Tryz.f70.ntmps ords70 (Tryz.f70.body.getD .skip) = some cd70 := by kernel_rfl
theorem in70 {args : List Value} {H : AH} {R : Value → AH → Prop} (hl : args.length = 1) (h : ∀ (Q : Exit → Sl → AH → Prop),(∀ e s H,endA Tryz.prog [ResultVar.tmp 2] R e s H → Q e s H) → wpC Tryz.prog cd70 Q (enterA args) H) : ACalls Tryz.prog 70 args H R :=
  ACalls.intro (by kernel_rfl) Tryz.func70 rfl (by kernel_rfl) sl70 hl (of_decide_eq_true (by kernel_rfl)) (by kernel_rfl) h
end Go.Proofs.YtelafbennmclfaaGreat.Ai
namespace Go.Proofs.YtelafbennmclfaaGreat.Ai
open Go Go.RowKit
instance (n : Int) (ys : List Int) : Decidable (Rsg n ys) := by unfold Rsg; infer_instance
theorem isRising_c (v : Value) (ys : List Int) (n : Int) (H : AH) (hn : 0 ≤ n ∧ n ≤ 1099511627776) (hr : Row 3 H v ys) (hlen : ys.length ≤ 1099511627776) :
    ACalls Tryz.prog 132 [v,.int .i64 n] H fun r H' => r = .bool (decide (Rsg n ys)) ∧ H = H' := by
  refine in132 rfl ?_
  intro Q hQ
  simp (maxSteps := 1000000) (disch := omega) only [cd132,hr.len Tryz.underlying27,SS,eq_self,reduceIte,reduceCtorEq,Nat.reduceEqDiff,Nat.reduceAdd]
  refine LoopH.by (fun m s H' => ∃ i,m + i = ys.length ∧ s 0 = v ∧ s 1 = .int .i64 n ∧ s 7 = v ∧ s 8 = .int .i64 (ys.length : Int) ∧ s 9 = .int .i64 ((i : Nat) : Int) ∧ H = H' ∧ ∀ j,j < i → (0 ≤ ys.getD j 0 ∧ ys.getD j 0 ≤ n - 1) ∧ (0 < j → ys.getD (j - 1) 0 < ys.getD j 0)) ys.length ?_ ?_
  · exact ⟨0,by simp,rfl,rfl,rfl,rfl,rfl,rfl,by omega⟩
  · rintro m s H' ⟨i,hm,h0,h1,h7,h8,h9,rfl,hj⟩
    simp (maxSteps := 1000000) (disch := omega) only [h0,h1,h7,h8,h9,SS,eq_self,reduceIte,reduceCtorEq,Nat.reduceEqDiff,Nat.reduceAdd]
    refine brD.intro (fun g => ?_) (fun g => ?_)
    · have hi : i < ys.length := by omega
      have hp : ((i : Int) - 1).toNat = i - 1 := by omega
      have bad : ¬ ((0 ≤ ys.getD i 0 ∧ ys.getD i 0 ≤ n - 1) ∧ (0 < i → ys.getD (i - 1) 0 < ys.getD i 0)) → decide (Rsg n ys) = false := fun h => decide_eq_false fun hh => h (hh i hi)
      have nxt : ((0 ≤ ys.getD i 0 ∧ ys.getD i 0 ≤ n - 1) ∧ (0 < i → ys.getD (i - 1) 0 < ys.getD i 0)) → ∀ j,j < i + 1 → (0 ≤ ys.getD j 0 ∧ ys.getD j 0 ≤ n - 1) ∧ (0 < j → ys.getD (j - 1) 0 < ys.getD j 0) := by
        intro h j hjj
        by_cases e : j = i
        · subst e; exact h
        · exact hj j (by omega)
      simp (maxSteps := 1000000) (disch := omega) only [h0,h1,h7,h8,h9,hr.ix Tryz.underlying27 cs3,hr.cell,Int.toNat_natCast,wrap64,SS,eq_self,reduceIte,reduceCtorEq,Nat.reduceEqDiff,Nat.reduceAdd]
      refine CallH.by (between_c ..) ?_
      rintro _ _ ⟨rfl,rfl⟩
      simp (maxSteps := 1000000) (disch := omega) only [SS,eq_self,reduceIte,reduceCtorEq,Nat.reduceEqDiff,Nat.reduceAdd]
      refine brD.intro (fun e => ?_) (fun e => ?_) <;> simp (maxSteps := 1000000) (disch := omega) only [e,h0,h1,h7,h8,h9,wrap64,SS,eq_self,reduceIte,reduceCtorEq,Nat.reduceEqDiff,Nat.reduceAdd]
      · refine brD.intro (fun q => ?_) (fun q => ?_) <;> simp (maxSteps := 1000000) (disch := omega) only [e,q,h0,h1,h7,h8,h9,hr.ix Tryz.underlying27 cs3,hr.cell,hp,wrap64,SS,eq_self,reduceIte,reduceCtorEq,Nat.reduceEqDiff,Nat.reduceAdd]
        · refine brD.intro (fun z => ?_) (fun z => ?_) <;> simp (maxSteps := 1000000) (disch := omega) only [e,q,z,h0,h1,h7,h8,h9,wrap64,SS,eq_self,reduceIte,reduceCtorEq,Nat.reduceEqDiff,Nat.reduceAdd]
          · refine hQ _ _ _ ?_
            simp (maxSteps := 1000000) (disch := omega) only [SS,eq_self,reduceIte,reduceCtorEq,Nat.reduceEqDiff,Nat.reduceAdd]
            rw [bad (fun h => by have := h.2 (by omega); omega)]
          · have fx := nxt ⟨e,fun _ => by omega⟩
            refine ⟨m - 1,by omega,i + 1,?_⟩
            (repeat' apply And.intro) <;> first | exact fx | (simp only [Value.int.injEq,true_and]; omega) | omega | rfl | assumption | (simp; done) | (simp; omega)
        · have fx := nxt ⟨e,fun _ => by omega⟩
          refine ⟨m - 1,by omega,i + 1,?_⟩
          (repeat' apply And.intro) <;> first | exact fx | (simp only [Value.int.injEq,true_and]; omega) | omega | rfl | assumption | (simp; done) | (simp; omega)
      · refine hQ _ _ _ ?_
        simp (maxSteps := 1000000) (disch := omega) only [SS,eq_self,reduceIte,reduceCtorEq,Nat.reduceEqDiff,Nat.reduceAdd]
        rw [bad (fun h => e h.1)]
    · simp (maxSteps := 1000000) (disch := omega) only [h0,h1,h7,h8,h9,SS,eq_self,reduceIte,reduceCtorEq,Nat.reduceEqDiff,Nat.reduceAdd]
      refine hQ _ _ _ ?_
      simp (maxSteps := 1000000) (disch := omega) only [SS,eq_self,reduceIte,reduceCtorEq,Nat.reduceEqDiff,Nat.reduceAdd]
      have : Rsg n ys := fun j hjj => hj j (by omega)
      simp [this]
theorem isOrder_c (v : Value) (xs : List Int) (H : AH) (hr : Row 3 H v xs) (hlen : xs.length ≤ 12) :
    ACalls Tryz.prog 115 [v,.int .i64 (xs.length : Int)] H fun r H' => r = .bool (decide (∀ x,x < xs.length → (x : Int) ∈ xs)) ∧ H <+: H' := by
  refine in115 rfl ?_
  intro Q hQ
  simp (maxSteps := 1000000) (disch := omega) only [cd115,hr.len Tryz.underlying27,SS,eq_self,reduceIte,reduceCtorEq,Nat.reduceEqDiff,Nat.reduceAdd]
  refine CallH.by (Values_c v xs H hr) ?_
  rintro _ _ ⟨rfl,rfl⟩
  have hp := List.prefix_append H [AObj.cells [v] 27 false]
  simp (maxSteps := 1000000) (disch := omega) only [SS,eq_self,reduceIte,reduceCtorEq,Nat.reduceEqDiff,Nat.reduceAdd]
  have hc : cellA (H ++ [AObj.cells [v] 27 false]) H.length 0 = some v := by rw [cell_of (at_new ..)]; rfl
  refine CallH.by (SortedV_c H.length v xs _ hc (hr.pre hp) hlen) ?_
  rintro u H1 ⟨ys,hown,hperm,hasc,hp1⟩
  simp (maxSteps := 1000000) (disch := omega) only [SS,eq_self,reduceIte,reduceCtorEq,Nat.reduceEqDiff,Nat.reduceAdd]
  have hl := hperm.length_eq
  refine CallH.by (isRising_c u ys _ H1 (by omega) hown.row (by omega)) ?_
  rintro _ _ ⟨rfl,rfl⟩
  simp (maxSteps := 1000000) (disch := omega) only [SS,eq_self,reduceIte,reduceCtorEq,Nat.reduceEqDiff,Nat.reduceAdd]
  refine hQ _ _ _ ?_
  simp (maxSteps := 1000000) (disch := omega) only [SS,eq_self,reduceIte,reduceCtorEq,Nat.reduceEqDiff,Nat.reduceAdd]
  refine ⟨?_,hp.trans hp1⟩
  have := rsg_iff hperm hasc
  simp only [this]
theorem PermI_c (v : Value) (xs : List Int) (H : AH) (hr : Row 3 H v xs) (hlen : xs.length ≤ 1099511627776) (hxs : ∀ y ∈ xs,I64 y) :
    ACalls Tryz.prog 86 [v] H fun r H' => r = .bool (decide (Prm xs)) ∧ H <+: H' := by
  refine in86 rfl ?_
  intro Q hQ
  simp (maxSteps := 1000000) (disch := omega) only [cd86,hr.len Tryz.underlying27,SS,eq_self,reduceIte,reduceCtorEq,Nat.reduceEqDiff,Nat.reduceAdd]
  refine brD.intro (fun h => ?_) (fun h => ?_) <;> simp (maxSteps := 1000000) (disch := omega) only [h,hr.len Tryz.underlying27,SS,eq_self,reduceIte,reduceCtorEq,Nat.reduceEqDiff,Nat.reduceAdd]
  · refine CallH.by (isOrder_c v xs H hr (by omega)) ?_
    rintro _ H1 ⟨rfl,hp⟩
    simp (maxSteps := 1000000) (disch := omega) only [h,SS,eq_self,reduceIte,reduceCtorEq,Nat.reduceEqDiff,Nat.reduceAdd]
    refine hQ _ _ _ ?_
    simp (maxSteps := 1000000) (disch := omega) only [SS,eq_self,reduceIte,reduceCtorEq,Nat.reduceEqDiff,Nat.reduceAdd]
    refine ⟨?_,hp⟩
    have h8 : xs.length ≤ 8 := by omega
    unfold Prm
    simp [h8]
  · refine hQ _ _ _ ?_
    simp (maxSteps := 1000000) (disch := omega) only [SS,eq_self,reduceIte,reduceCtorEq,Nat.reduceEqDiff,Nat.reduceAdd]
    have h8 : ¬ xs.length ≤ 8 := by omega
    unfold Prm
    simp [h8,List.prefix_refl]
theorem l9Perm_c (v : Value) (xs : List Int) (H : AH) (hr : Row 3 H v xs) (hlen : xs.length ≤ 1099511627776) :
    ACalls Tryz.prog 70 [v] H fun r H' => r = .bool (decide (Prm xs)) ∧ H = H' := by
  refine in70 rfl ?_
  intro Q hQ
  simp (maxSteps := 1000000) (disch := omega) only [cd70,SS,eq_self,reduceIte,reduceCtorEq,Nat.reduceEqDiff,Nat.reduceAdd]
  refine LoopH.by (fun m s H' => ∃ i,m + i = xs.length ∧ s 0 = v ∧ s 3 = .int .i64 ((i : Nat) : Int) ∧ H = H' ∧ ∀ j,j < i → (j : Int) ∈ xs) xs.length ?_ ?_
  · exact ⟨0,by simp,rfl,rfl,rfl,by omega⟩
  · rintro m s H' ⟨i,hm,h0,h3,rfl,hj⟩
    have fin : decide (xs.length ≤ 8) = decide (Prm xs) → True := fun _ => trivial
    simp (maxSteps := 1000000) (disch := omega) only [h0,h3,hr.len Tryz.underlying27,SS,eq_self,reduceIte,reduceCtorEq,Nat.reduceEqDiff,Nat.reduceAdd]
    refine brD.intro (fun g => ?_) (fun g => ?_) <;> simp (maxSteps := 1000000) (disch := omega) only [g,h0,h3,hr.len Tryz.underlying27,SS,eq_self,reduceIte,reduceCtorEq,Nat.reduceEqDiff,Nat.reduceAdd]
    · refine brD.intro (fun q => ?_) (fun q => ?_) <;> simp (maxSteps := 1000000) (disch := omega) only [g,q,h0,h3,hr.len Tryz.underlying27,SS,eq_self,reduceIte,reduceCtorEq,Nat.reduceEqDiff,Nat.reduceAdd]
      · refine CallH.by (l1Has_c v xs _ H hr hlen) ?_
        rintro _ _ ⟨rfl,rfl⟩
        simp (maxSteps := 1000000) (disch := omega) only [SS,eq_self,reduceIte,reduceCtorEq,Nat.reduceEqDiff,Nat.reduceAdd]
        refine brD.intro (fun e => ?_) (fun e => ?_) <;> simp (maxSteps := 1000000) (disch := omega) only [g,q,e,h0,h3,wrap64,SS,eq_self,reduceIte,reduceCtorEq,Nat.reduceEqDiff,Nat.reduceAdd]
        · have fx : ∀ j,j < i + 1 → (j : Int) ∈ xs := by
            intro j hjj
            by_cases ej : j = i
            · subst ej; exact e
            · exact hj j (by omega)
          refine ⟨m - 1,by omega,i + 1,?_⟩
          (repeat' apply And.intro) <;> first | exact fx | (simp only [Value.int.injEq,true_and]; omega) | omega | rfl | assumption | (simp; done) | (simp; omega)
        · refine hQ _ _ _ ?_
          simp (maxSteps := 1000000) (disch := omega) only [SS,eq_self,reduceIte,reduceCtorEq,Nat.reduceEqDiff,Nat.reduceAdd]
          have : ¬ Prm xs := fun h => e (h.2 i (by omega))
          simp [this]
      · refine hQ _ _ _ ?_
        simp (maxSteps := 1000000) (disch := omega) only [SS,eq_self,reduceIte,reduceCtorEq,Nat.reduceEqDiff,Nat.reduceAdd]
        have : ¬ Prm xs := fun h => by have := h.1; omega
        simp [this]
    · refine hQ _ _ _ ?_
      simp (maxSteps := 1000000) (disch := omega) only [SS,eq_self,reduceIte,reduceCtorEq,Nat.reduceEqDiff,Nat.reduceAdd]
      have e : ((xs.length : Int) ≤ 8) ↔ Prm xs := ⟨fun h => ⟨by omega,fun x hx => hj x (by omega)⟩,fun h => by have := h.1; omega⟩
      simp only [e]
end Go.Proofs.YtelafbennmclfaaGreat.Ai
