/- Texts of this claim, joined: SrtL, TrgP, Drt, Dfd, SrtF, AppL, Spc, MarkS, Ree, BfsP, BfsQ, SpP, Pair, AdjP, Adj, SpR. -/
import Derived.Test.YtjnefjchconebaaGreatProg
import Derived.KernelRfl
import Derived.Test.YtjnefjchconebaaGreatMgLawFdw3
set_option linter.unusedVariables false
set_option linter.unusedSimpArgs false
set_option maxHeartbeats 8000000
set_option maxRecDepth 20000
namespace Go.Proofs.YtjnefjchconebaaGreat.Ai
open Go Go.RowKit
def cd166:Cd:=(.seq (.reg [⟨⟨some 4,.assign (.const (.int .i64 0)),none⟩,[]⟩]) (.seq (.seq (.reg [⟨⟨some 9,.move (.tmp 0),none⟩,[]⟩,⟨⟨some 10,.call ⟨(.builtin .len),#[.tmp 9],#[27]⟩,none⟩,[]⟩,⟨⟨some 11,.move (.const (.int .i64 0)),none⟩,[]⟩]) (.block 0 (.loop (.seq (.reg [⟨⟨some 12,.binOp .lss 3 (.tmp 11) (.tmp 10) 3,none⟩,[]⟩]) (.seq (.cond (.tmp 12) .skip (.exit 0)) (.seq (.block 1 (.seq (.reg [⟨⟨some 13,.move (.tmp 11),none⟩,[]⟩,⟨⟨some 14,.indexAddr 27 (.tmp 9) (.tmp 11),none⟩,[]⟩,⟨⟨some 15,.load 3 (.tmp 14),none⟩,[]⟩,⟨⟨some 5,.assign (.tmp 13),none⟩,[]⟩,⟨⟨some 6,.assign (.tmp 15),none⟩,[]⟩]) (.seq (.seq (.reg [⟨⟨some 16,.move (.tmp 5),none⟩,[]⟩,⟨⟨some 17,.move (.tmp 1),none⟩,[]⟩,⟨⟨some 18,.call ⟨(.builtin .len),#[.tmp 17],#[27]⟩,none⟩,[]⟩,⟨⟨some 19,.binOp .geq 3 (.tmp 16) (.tmp 18) 3,none⟩,[]⟩]) (.cond (.tmp 19) (.seq (.reg [⟨⟨some 4,.assign (.const (.int .i64 1)),none⟩,[]⟩]) .ret) .skip)) (.seq (.reg [⟨⟨some 20,.move (.tmp 1),none⟩,[]⟩,⟨⟨some 21,.move (.tmp 5),none⟩,[]⟩,⟨⟨some 22,.indexAddr 27 (.tmp 20) (.tmp 21),none⟩,[]⟩,
 ⟨⟨some 23,.load 3 (.tmp 22),none⟩,[]⟩,
  ⟨⟨some 7,.assign (.tmp 23),none⟩,[]⟩]) (.seq (.reg [⟨⟨some 24,.move (.tmp 6),none⟩,[]⟩,
  ⟨⟨some 25,.move (.tmp 7),none⟩,[]⟩,
  ⟨⟨some 26,.call ⟨(.value (.func 206)),#[.tmp 24,.tmp 25],#[3,3]⟩,none⟩,[]⟩,
  ⟨⟨some 8,.assign (.tmp 26),none⟩,[]⟩]) (.seq (.reg [⟨⟨some 27,.move (.tmp 8),none⟩,[]⟩,
  ⟨⟨some 28,.binOp .neq 3 (.tmp 27) (.const (.int .i64 0)) 3,none⟩,[]⟩]) (.cond (.tmp 28) (.seq (.reg [⟨⟨some 29,.move (.tmp 8),none⟩,[]⟩,
  ⟨⟨some 4,.assign (.tmp 29),none⟩,[]⟩]) .ret) .skip))))))) (.reg [⟨⟨some 30,.binOp .add 3 (.tmp 11) (.const (.int .i64 1)) 3,none⟩,[]⟩,
  ⟨⟨some 11,.move (.tmp 30),none⟩,[]⟩]))))))) (.seq (.seq (.reg [⟨⟨some 31,.move (.tmp 0),none⟩,[]⟩,
  ⟨⟨some 32,.call ⟨(.builtin .len),#[.tmp 31],#[27]⟩,none⟩,[]⟩,
  ⟨⟨some 33,.move (.tmp 1),none⟩,[]⟩,
  ⟨⟨some 34,.call ⟨(.builtin .len),#[.tmp 33],#[27]⟩,none⟩,[]⟩,
  ⟨⟨some 35,.binOp .lss 3 (.tmp 32) (.tmp 34) 3,none⟩,[]⟩]) (.cond (.tmp 35) (.seq (.reg [⟨⟨some 4,.assign (.const (.int .i64 (-1))),none⟩,[]⟩]) .ret) .skip)) (.seq (.reg [⟨⟨some 4,.assign (.const (.int .i64 0)),none⟩,[]⟩]) .ret))))
theorem in166:InT Tryz.prog 166 2 [.tmp 4] cd166:=InT.mk (by kernel_rfl) [] Tryz.func166 rfl (by kernel_rfl) (by kernel_rfl) (of_decide_eq_true (by kernel_rfl)) (by kernel_rfl)
def cd251:Cd:=(.seq (.reg [⟨⟨some 10,.assign (.const (.int .i64 0)),none⟩,[]⟩,⟨⟨some 11,.assign (.const (.int .i64 0)),none⟩,[]⟩]) (.seq (.seq (.reg [⟨⟨some 12,.move (.tmp 4),none⟩,[]⟩,⟨⟨some 13,.move (.tmp 0),none⟩,[]⟩,⟨⟨some 14,.move (.tmp 2),none⟩,[]⟩,⟨⟨some 15,.indexAddr 36 (.tmp 13) (.tmp 14),none⟩,[]⟩,⟨⟨some 16,.load 27 (.tmp 15),none⟩,[]⟩,⟨⟨some 17,.move (.tmp 0),none⟩,[]⟩,⟨⟨some 18,.move (.tmp 1),none⟩,[]⟩,⟨⟨some 19,.indexAddr 36 (.tmp 17) (.tmp 18),none⟩,[]⟩,⟨⟨some 20,.load 27 (.tmp 19),none⟩,[]⟩,⟨⟨some 21,.call ⟨(.value (.tmp 12)),#[.tmp 16,.tmp 20],#[27,27]⟩,none⟩,[]⟩,⟨⟨some 22,.binOp .lss 3 (.tmp 21) (.const (.int .i64 0)) 3,none⟩,[]⟩]) (.cond (.tmp 22) (.seq (.reg [⟨⟨some 23,.move (.tmp 3),none⟩,[]⟩,
 ⟨⟨some 24,.nilCheck (.tmp 23),none⟩,[]⟩,
  ⟨⟨some 25,.load 3 (.tmp 24),none⟩,[]⟩,
  ⟨⟨some 26,.binOp .add 3 (.tmp 25) (.const (.int .i64 1)) 3,none⟩,[]⟩,
  ⟨⟨some 27,.nilCheck (.tmp 23),none⟩,[]⟩,
  ⟨⟨none,.store 3 (.tmp 27) (.tmp 26),none⟩,[]⟩]) (.seq (.reg [⟨⟨some 28,.move (.tmp 2),none⟩,[]⟩,
  ⟨⟨some 29,.move (.tmp 1),none⟩,[]⟩,
  ⟨⟨some 10,.assign (.tmp 28),none⟩,[]⟩,
  ⟨⟨some 11,.assign (.tmp 29),none⟩,[]⟩]) .ret)) .skip)) (.seq (.reg [⟨⟨some 30,.move (.tmp 1),none⟩,[]⟩,
  ⟨⟨some 31,.move (.tmp 2),none⟩,[]⟩,
  ⟨⟨some 10,.assign (.tmp 30),none⟩,[]⟩,
  ⟨⟨some 11,.assign (.tmp 31),none⟩,[]⟩]) .ret)))
theorem in251:InT Tryz.prog 251 5 [.tmp 10,.tmp 11] cd251:=InT.mk (by kernel_rfl) [(1,[(0,false),(1,false),(2,false),(3,false),(4,false),(5,false),(6,false),(7,false),(8,false),(9,true),(10,false)])] Tryz.func251 rfl (by kernel_rfl) (by kernel_rfl) (of_decide_eq_true (by kernel_rfl)) (by kernel_rfl)
def cd248:Cd:=(.seq (.reg [⟨⟨some 12,.assign (.const (.int .i64 0)),none⟩,[]⟩]) (.seq (.reg [⟨⟨some 14,.move (.tmp 0),none⟩,[]⟩,⟨⟨some 15,.move (.tmp 1),none⟩,[]⟩,⟨⟨some 16,.move (.tmp 2),none⟩,[]⟩,⟨⟨some 17,.move (.tmp 4),none⟩,[]⟩,⟨⟨some 18,.move (.tmp 5),none⟩,[]⟩,⟨⟨some 19,.call ⟨(.value (.func 251)),#[.tmp 14,.tmp 15,.tmp 16,.tmp 17,.tmp 18],#[36,3,3,188,136]⟩,none⟩,[]⟩,⟨⟨some 13,.move (.tmp 19),none⟩,[]⟩,⟨⟨some 20,.extract (.tmp 13) 0,none⟩,[]⟩,⟨⟨some 21,.extract (.tmp 13) 1,none⟩,[]⟩,⟨⟨some 1,.assign (.tmp 20),none⟩,[]⟩,⟨⟨some 2,.assign (.tmp 21),none⟩,[]⟩]) (.seq (.reg [⟨⟨some 23,.move (.tmp 0),none⟩,[]⟩,⟨⟨some 24,.move (.tmp 2),none⟩,[]⟩,
 ⟨⟨some 25,.move (.tmp 3),none⟩,[]⟩,⟨⟨some 26,.move (.tmp 4),none⟩,[]⟩,⟨⟨some 27,.move (.tmp 5),none⟩,[]⟩,⟨⟨some 28,.call ⟨(.value (.func 251)),#[.tmp 23,.tmp 24,.tmp 25,.tmp 26,.tmp 27],#[36,3,3,188,136]⟩,none⟩,[]⟩,⟨⟨some 22,.move (.tmp 28),none⟩,[]⟩,⟨⟨some 29,.extract (.tmp 22) 0,none⟩,[]⟩,⟨⟨some 30,.extract (.tmp 22) 1,none⟩,[]⟩,⟨⟨some 2,.assign (.tmp 29),none⟩,[]⟩,⟨⟨some 3,.assign (.tmp 30),none⟩,[]⟩]) (.seq (.reg [⟨⟨some 32,.move (.tmp 0),none⟩,[]⟩,⟨⟨some 33,.move (.tmp 1),none⟩,[]⟩,⟨⟨some 34,.move (.tmp 2),none⟩,[]⟩,⟨⟨some 35,.move (.tmp 4),none⟩,[]⟩,
 ⟨⟨some 36,.move (.tmp 5),none⟩,[]⟩,
  ⟨⟨some 37,.call ⟨(.value (.func 251)),#[.tmp 32,.tmp 33,.tmp 34,.tmp 35,.tmp 36],#[36,3,3,188,136]⟩,none⟩,[]⟩,
  ⟨⟨some 31,.move (.tmp 37),none⟩,[]⟩,
  ⟨⟨some 38,.extract (.tmp 31) 0,none⟩,[]⟩,
  ⟨⟨some 39,.extract (.tmp 31) 1,none⟩,[]⟩,
  ⟨⟨some 1,.assign (.tmp 38),none⟩,[]⟩,
  ⟨⟨some 2,.assign (.tmp 39),none⟩,[]⟩]) (.seq (.reg [⟨⟨some 40,.move (.tmp 2),none⟩,[]⟩,
  ⟨⟨some 12,.assign (.tmp 40),none⟩,[]⟩]) .ret)))))
theorem in248:InT Tryz.prog 248 6 [.tmp 12] cd248:=InT.mk (by kernel_rfl) [] Tryz.func248 rfl (by kernel_rfl) (by kernel_rfl) (of_decide_eq_true (by kernel_rfl)) (by kernel_rfl)
def cd247:Cd:=(.seq (.reg [⟨⟨some 8,.assign (.const (.int .i64 0)),none⟩,[]⟩]) (.seq (.reg [⟨⟨some 9,.move (.tmp 0),none⟩,[]⟩,
  ⟨⟨some 10,.move (.tmp 1),none⟩,[]⟩,
  ⟨⟨some 11,.binOp .sub 3 (.tmp 10) (.const (.int .i64 1)) 3,none⟩,[]⟩,
  ⟨⟨some 12,.move (.tmp 1),none⟩,[]⟩,
  ⟨⟨some 13,.move (.tmp 1),none⟩,[]⟩,
  ⟨⟨some 14,.binOp .add 3 (.tmp 13) (.const (.int .i64 1)) 3,none⟩,[]⟩,
  ⟨⟨some 15,.move (.tmp 2),none⟩,[]⟩,
  ⟨⟨some 16,.move (.tmp 3),none⟩,[]⟩,
  ⟨⟨some 17,.call ⟨(.value (.func 248)),#[.tmp 9,.tmp 11,.tmp 12,.tmp 14,.tmp 15,.tmp 16],#[36,3,3,3,188,136]⟩,none⟩,[]⟩,
  ⟨⟨some 8,.assign (.tmp 17),none⟩,[]⟩]) .ret))
theorem in247:InT Tryz.prog 247 4 [.tmp 8] cd247:=InT.mk (by kernel_rfl) [] Tryz.func247 rfl (by kernel_rfl) (by kernel_rfl) (of_decide_eq_true (by kernel_rfl)) (by kernel_rfl)
def cd234:Cd:=(.seq (.reg [⟨⟨some 8,.assign (.const (.bool false)),none⟩,[]⟩]) (.seq (.reg [⟨⟨some 13,.move (.tmp 1),none⟩,[]⟩,⟨⟨some 14,.binOp .add 3 (.tmp 13) (.const (.int .i64 1)) 3,none⟩,[]⟩,⟨⟨some 9,.assign (.tmp 14),none⟩,[]⟩]) (.seq (.seq (.reg [⟨⟨some 10,.assign (.const (.int .i64 0)),none⟩,[]⟩]) (.block 0 (.loop (.seq (.seq (.reg [⟨⟨some 15,.move (.tmp 10),none⟩,[]⟩,⟨⟨some 16,.binOp .lss 3 (.tmp 15) (.const (.int .i64 5)) 3,none⟩,[]⟩]) (.cond (.tmp 16) .skip (.exit 0))) (.seq (.block 1 (.seq (.block 2 (.loop (.seq (.seq (.reg [⟨⟨some 19,.move (.tmp 9),none⟩,[]⟩,⟨⟨some 20,.move (.tmp 2),none⟩,[]⟩,⟨⟨some 21,.binOp .lss 3 (.tmp 19) (.tmp 20) 3,none⟩,[]⟩,⟨⟨some 22,.move (.tmp 21),none⟩,[]⟩,⟨⟨some 23,.move (.tmp 3),some (22,true)⟩,[]⟩,⟨⟨some 24,.move (.tmp 0),some (22,true)⟩,[]⟩,⟨⟨some 25,.move (.tmp 9),some (22,true)⟩,[]⟩,⟨⟨some 26,.indexAddr 36 (.tmp 24) (.tmp 25),some (22,true)⟩,[]⟩,⟨⟨some 27,.load 27 (.tmp 26),some (22,true)⟩,[]⟩,
 ⟨⟨some 28,.move (.tmp 0),some (22,true)⟩,[]⟩,⟨⟨some 29,.move (.tmp 9),some (22,true)⟩,[]⟩,⟨⟨some 30,.binOp .sub 3 (.tmp 29) (.const (.int .i64 1)) 3,some (22,true)⟩,[]⟩,⟨⟨some 31,.indexAddr 36 (.tmp 28) (.tmp 30),some (22,true)⟩,[]⟩,⟨⟨some 32,.load 27 (.tmp 31),some (22,true)⟩,[]⟩,⟨⟨some 33,.call ⟨(.value (.tmp 23)),#[.tmp 27,.tmp 32],#[27,27]⟩,some (22,true)⟩,[]⟩,⟨⟨some 34,.binOp .lss 3 (.tmp 33) (.const (.int .i64 0)) 3,some (22,true)⟩,[]⟩,⟨⟨some 35,.unOp .not 4 (.tmp 34),some (22,true)⟩,[]⟩,⟨⟨some 36,.pick (.tmp 22) (.tmp 35) (.const (.bool false)),none⟩,[]⟩]) (.cond (.tmp 36) .skip (.exit 2))) (.block 3 (.reg [⟨⟨some 37,.move (.tmp 9),none⟩,[]⟩,⟨⟨some 38,.binOp .add 3 (.tmp 37) (.const (.int .i64 1)) 3,none⟩,[]⟩,⟨⟨some 9,.assign (.tmp 38),none⟩,[]⟩]))))) (.seq (.seq (.reg [⟨⟨some 39,.move (.tmp 9),none⟩,[]⟩,⟨⟨some 40,.move (.tmp 2),none⟩,[]⟩,
 ⟨⟨some 41,.binOp .eql 3 (.tmp 39) (.tmp 40) 3,none⟩,[]⟩]) (.cond (.tmp 41) (.seq (.reg [⟨⟨some 8,.assign (.const (.bool true)),none⟩,[]⟩]) .ret) .skip)) (.seq (.seq (.reg [⟨⟨some 42,.move (.tmp 2),none⟩,[]⟩,⟨⟨some 43,.move (.tmp 1),none⟩,[]⟩,⟨⟨some 44,.binOp .sub 3 (.tmp 42) (.tmp 43) 3,none⟩,[]⟩,⟨⟨some 45,.binOp .lss 3 (.tmp 44) (.const (.int .i64 50)) 3,none⟩,[]⟩]) (.cond (.tmp 45) (.seq (.reg [⟨⟨some 8,.assign (.const (.bool false)),none⟩,[]⟩]) .ret) .skip)) (.seq (.reg [⟨⟨some 46,.move (.tmp 0),none⟩,[]⟩,⟨⟨some 47,.move (.tmp 9),none⟩,[]⟩,⟨⟨some 48,.move (.tmp 0),none⟩,[]⟩,⟨⟨some 49,.move (.tmp 9),none⟩,[]⟩,⟨⟨some 50,.binOp .sub 3 (.tmp 49) (.const (.int .i64 1)) 3,none⟩,[]⟩,⟨⟨some 51,.move (.tmp 0),none⟩,[]⟩,⟨⟨some 52,.move (.tmp 9),none⟩,[]⟩,⟨⟨some 53,.binOp .sub 3 (.tmp 52) (.const (.int .i64 1)) 3,none⟩,[]⟩,⟨⟨some 54,.indexAddr 36 (.tmp 51) (.tmp 53),none⟩,[]⟩,
 ⟨⟨some 55,.load 27 (.tmp 54),none⟩,[]⟩,⟨⟨some 56,.move (.tmp 0),none⟩,[]⟩,⟨⟨some 57,.move (.tmp 9),none⟩,[]⟩,⟨⟨some 58,.indexAddr 36 (.tmp 56) (.tmp 57),none⟩,[]⟩,⟨⟨some 59,.load 27 (.tmp 58),none⟩,[]⟩,⟨⟨some 60,.indexAddr 36 (.tmp 46) (.tmp 47),none⟩,[]⟩,⟨⟨none,.store 27 (.tmp 60) (.tmp 55),none⟩,[]⟩,⟨⟨some 61,.indexAddr 36 (.tmp 48) (.tmp 50),none⟩,[]⟩,⟨⟨none,.store 27 (.tmp 61) (.tmp 59),none⟩,[]⟩]) (.seq (.seq (.reg [⟨⟨some 62,.move (.tmp 9),none⟩,[]⟩,⟨⟨some 63,.move (.tmp 1),none⟩,[]⟩,⟨⟨some 64,.binOp .sub 3 (.tmp 62) (.tmp 63) 3,none⟩,[]⟩,⟨⟨some 65,.binOp .geq 3 (.tmp 64) (.const (.int .i64 2)) 3,none⟩,[]⟩]) (.cond (.tmp 65) (.seq (.reg [⟨⟨some 66,.move (.tmp 9),none⟩,[]⟩,
 ⟨⟨some 67,.binOp .sub 3 (.tmp 66) (.const (.int .i64 1)) 3,none⟩,[]⟩,⟨⟨some 11,.assign (.tmp 67),none⟩,[]⟩]) (.block 4 (.loop (.seq (.seq (.reg [⟨⟨some 68,.move (.tmp 11),none⟩,[]⟩,⟨⟨some 69,.binOp .geq 3 (.tmp 68) (.const (.int .i64 1)) 3,none⟩,[]⟩]) (.cond (.tmp 69) .skip (.exit 4))) (.seq (.block 5 (.seq (.seq (.reg [⟨⟨some 72,.move (.tmp 3),none⟩,[]⟩,⟨⟨some 73,.move (.tmp 0),none⟩,[]⟩,⟨⟨some 74,.move (.tmp 11),none⟩,[]⟩,⟨⟨some 75,.indexAddr 36 (.tmp 73) (.tmp 74),none⟩,[]⟩,⟨⟨some 76,.load 27 (.tmp 75),none⟩,[]⟩,⟨⟨some 77,.move (.tmp 0),none⟩,[]⟩,⟨⟨some 78,.move (.tmp 11),none⟩,[]⟩,⟨⟨some 79,.binOp .sub 3 (.tmp 78) (.const (.int .i64 1)) 3,none⟩,[]⟩,⟨⟨some 80,.indexAddr 36 (.tmp 77) (.tmp 79),none⟩,[]⟩,⟨⟨some 81,.load 27 (.tmp 80),none⟩,[]⟩,
 ⟨⟨some 82,.call ⟨(.value (.tmp 72)),#[.tmp 76,.tmp 81],#[27,27]⟩,none⟩,[]⟩,⟨⟨some 83,.binOp .lss 3 (.tmp 82) (.const (.int .i64 0)) 3,none⟩,[]⟩,⟨⟨some 84,.unOp .not 4 (.tmp 83),none⟩,[]⟩]) (.cond (.tmp 84) (.exit 4) .skip)) (.reg [⟨⟨some 85,.move (.tmp 0),none⟩,[]⟩,⟨⟨some 86,.move (.tmp 11),none⟩,[]⟩,⟨⟨some 87,.move (.tmp 0),none⟩,[]⟩,⟨⟨some 88,.move (.tmp 11),none⟩,[]⟩,⟨⟨some 89,.binOp .sub 3 (.tmp 88) (.const (.int .i64 1)) 3,none⟩,[]⟩,⟨⟨some 90,.move (.tmp 0),none⟩,[]⟩,⟨⟨some 91,.move (.tmp 11),none⟩,[]⟩,⟨⟨some 92,.binOp .sub 3 (.tmp 91) (.const (.int .i64 1)) 3,none⟩,[]⟩,⟨⟨some 93,.indexAddr 36 (.tmp 90) (.tmp 92),none⟩,[]⟩,⟨⟨some 94,.load 27 (.tmp 93),none⟩,[]⟩,
 ⟨⟨some 95,.move (.tmp 0),none⟩,[]⟩,⟨⟨some 96,.move (.tmp 11),none⟩,[]⟩,⟨⟨some 97,.indexAddr 36 (.tmp 95) (.tmp 96),none⟩,[]⟩,⟨⟨some 98,.load 27 (.tmp 97),none⟩,[]⟩,⟨⟨some 99,.indexAddr 36 (.tmp 85) (.tmp 86),none⟩,[]⟩,⟨⟨none,.store 27 (.tmp 99) (.tmp 94),none⟩,[]⟩,⟨⟨some 100,.indexAddr 36 (.tmp 87) (.tmp 89),none⟩,[]⟩,⟨⟨none,.store 27 (.tmp 100) (.tmp 98),none⟩,[]⟩]))) (.reg [⟨⟨some 70,.move (.tmp 11),none⟩,[]⟩,⟨⟨some 71,.binOp .sub 3 (.tmp 70) (.const (.int .i64 1)) 3,none⟩,[]⟩,⟨⟨some 11,.assign (.tmp 71),none⟩,[]⟩])))))) .skip)) (.seq (.reg [⟨⟨some 101,.move (.tmp 2),none⟩,[]⟩,⟨⟨some 102,.move (.tmp 9),none⟩,[]⟩,⟨⟨some 103,.binOp .sub 3 (.tmp 101) (.tmp 102) 3,none⟩,[]⟩,
 ⟨⟨some 104,.binOp .geq 3 (.tmp 103) (.const (.int .i64 2)) 3,none⟩,[]⟩]) (.cond (.tmp 104) (.seq (.reg [⟨⟨some 105,.move (.tmp 9),none⟩,[]⟩,⟨⟨some 106,.binOp .add 3 (.tmp 105) (.const (.int .i64 1)) 3,none⟩,[]⟩,⟨⟨some 12,.assign (.tmp 106),none⟩,[]⟩]) (.block 6 (.loop (.seq (.seq (.reg [⟨⟨some 107,.move (.tmp 12),none⟩,[]⟩,⟨⟨some 108,.move (.tmp 2),none⟩,[]⟩,⟨⟨some 109,.binOp .lss 3 (.tmp 107) (.tmp 108) 3,none⟩,[]⟩]) (.cond (.tmp 109) .skip (.exit 6))) (.seq (.block 7 (.seq (.seq (.reg [⟨⟨some 112,.move (.tmp 3),none⟩,[]⟩,⟨⟨some 113,.move (.tmp 0),none⟩,[]⟩,⟨⟨some 114,.move (.tmp 12),none⟩,[]⟩,⟨⟨some 115,.indexAddr 36 (.tmp 113) (.tmp 114),none⟩,[]⟩,⟨⟨some 116,.load 27 (.tmp 115),none⟩,[]⟩,⟨⟨some 117,.move (.tmp 0),none⟩,[]⟩,⟨⟨some 118,.move (.tmp 12),none⟩,[]⟩,⟨⟨some 119,.binOp .sub 3 (.tmp 118) (.const (.int .i64 1)) 3,none⟩,[]⟩,
 ⟨⟨some 120,.indexAddr 36 (.tmp 117) (.tmp 119),none⟩,[]⟩,⟨⟨some 121,.load 27 (.tmp 120),none⟩,[]⟩,⟨⟨some 122,.call ⟨(.value (.tmp 112)),#[.tmp 116,.tmp 121],#[27,27]⟩,none⟩,[]⟩,⟨⟨some 123,.binOp .lss 3 (.tmp 122) (.const (.int .i64 0)) 3,none⟩,[]⟩,⟨⟨some 124,.unOp .not 4 (.tmp 123),none⟩,[]⟩]) (.cond (.tmp 124) (.exit 6) .skip)) (.reg [⟨⟨some 125,.move (.tmp 0),none⟩,[]⟩,⟨⟨some 126,.move (.tmp 12),none⟩,[]⟩,⟨⟨some 127,.move (.tmp 0),none⟩,[]⟩,⟨⟨some 128,.move (.tmp 12),none⟩,[]⟩,⟨⟨some 129,.binOp .sub 3 (.tmp 128) (.const (.int .i64 1)) 3,none⟩,[]⟩,⟨⟨some 130,.move (.tmp 0),none⟩,[]⟩,⟨⟨some 131,.move (.tmp 12),none⟩,[]⟩,⟨⟨some 132,.binOp .sub 3 (.tmp 131) (.const (.int .i64 1)) 3,none⟩,[]⟩,
 ⟨⟨some 133,.indexAddr 36 (.tmp 130) (.tmp 132),none⟩,[]⟩,⟨⟨some 134,.load 27 (.tmp 133),none⟩,[]⟩,⟨⟨some 135,.move (.tmp 0),none⟩,[]⟩,⟨⟨some 136,.move (.tmp 12),none⟩,[]⟩,⟨⟨some 137,.indexAddr 36 (.tmp 135) (.tmp 136),none⟩,[]⟩,⟨⟨some 138,.load 27 (.tmp 137),none⟩,[]⟩,⟨⟨some 139,.indexAddr 36 (.tmp 125) (.tmp 126),none⟩,[]⟩,⟨⟨none,.store 27 (.tmp 139) (.tmp 134),none⟩,[]⟩,⟨⟨some 140,.indexAddr 36 (.tmp 127) (.tmp 129),none⟩,[]⟩,⟨⟨none,.store 27 (.tmp 140) (.tmp 138),none⟩,[]⟩]))) (.reg [⟨⟨some 110,.move (.tmp 12),none⟩,[]⟩,⟨⟨some 111,.binOp .add 3 (.tmp 110) (.const (.int .i64 1)) 3,none⟩,[]⟩,⟨⟨some 12,.assign (.tmp 111),none⟩,[]⟩])))))) .skip)))))))) (.reg [⟨⟨some 17,.move (.tmp 10),none⟩,[]⟩,
 ⟨⟨some 18,.binOp .add 3 (.tmp 17) (.const (.int .i64 1)) 3,none⟩,[]⟩,
  ⟨⟨some 10,.assign (.tmp 18),none⟩,[]⟩])))))) (.seq (.reg [⟨⟨some 8,.assign (.const (.bool false)),none⟩,[]⟩]) .ret))))
theorem in234:InT Tryz.prog 234 4 [.tmp 8] cd234:=InT.mk (by kernel_rfl) [(5,[(0,false),(1,false),(2,false),(3,false),(4,false),(5,false),(6,false),(7,false),(8,false),(9,false),(10,false),(11,false),(12,false),(13,false),(14,true),(15,false),(16,false),(17,false)]),(11,[(0,false),(1,false),(2,false),(3,false),(4,false),(5,false),(6,false),(7,false),(8,false),(9,false),(10,false),(11,false),(12,false),(13,false),(14,false),(15,true),(16,false),(17,true)]),(16,[(0,false),(1,false),(2,false),(3,false),(4,false),(5,false),(6,false),(7,false),(8,false),(9,false),(10,true),(11,false),(12,false)]),(17,[(0,false),(1,false),(2,false),(3,false),(4,false),(5,false),(6,false),(7,false),(8,false),(9,false),(10,false),(11,false),(12,false),(13,false),(14,false),(15,true),(16,false),(17,true)]),(22,[(0,false),(1,false),(2,false),(3,false),(4,false),(5,false),(6,false),(7,false),(8,false),(9,false),(10,true),(11,false),(12,false)]),(23,[(0,false),(1,false),(2,false),(3,false),(4,false),(5,false),(6,false),(7,false),(8,false),(9,false),(10,false),(11,false),(12,false),(13,false),(14,false),(15,true),(16,false),(17,true)])] Tryz.func234 rfl (by kernel_rfl) (by kernel_rfl) (of_decide_eq_true (by kernel_rfl)) (by kernel_rfl)
def cd229:Cd:=(.seq (.reg [⟨⟨some 10,.move (.tmp 1),none⟩,[]⟩,⟨⟨some 11,.binOp .add 3 (.tmp 10) (.const (.int .i64 1)) 3,none⟩,[]⟩,⟨⟨some 8,.assign (.tmp 11),none⟩,[]⟩]) (.block 0 (.loop (.seq (.seq (.reg [⟨⟨some 12,.move (.tmp 8),none⟩,[]⟩,⟨⟨some 13,.move (.tmp 2),none⟩,[]⟩,⟨⟨some 14,.binOp .lss 3 (.tmp 12) (.tmp 13) 3,none⟩,[]⟩]) (.cond (.tmp 14) .skip (.exit 0))) (.seq (.block 1 (.seq (.reg [⟨⟨some 17,.move (.tmp 8),none⟩,[]⟩,⟨⟨some 9,.assign (.tmp 17),none⟩,[]⟩]) (.block 2 (.loop (.seq (.seq (.reg [⟨⟨some 18,.move (.tmp 9),none⟩,[]⟩,⟨⟨some 19,.move (.tmp 1),none⟩,[]⟩,⟨⟨some 20,.binOp .gtr 3 (.tmp 18) (.tmp 19) 3,none⟩,[]⟩,⟨⟨some 21,.move (.tmp 20),none⟩,[]⟩,⟨⟨some 22,.move (.tmp 3),some (21,true)⟩,[]⟩,⟨⟨some 23,.move (.tmp 0),some (21,true)⟩,[]⟩,⟨⟨some 24,.move (.tmp 9),some (21,true)⟩,[]⟩,
 ⟨⟨some 25,.indexAddr 36 (.tmp 23) (.tmp 24),some (21,true)⟩,[]⟩,⟨⟨some 26,.load 27 (.tmp 25),some (21,true)⟩,[]⟩,⟨⟨some 27,.move (.tmp 0),some (21,true)⟩,[]⟩,⟨⟨some 28,.move (.tmp 9),some (21,true)⟩,[]⟩,⟨⟨some 29,.binOp .sub 3 (.tmp 28) (.const (.int .i64 1)) 3,some (21,true)⟩,[]⟩,⟨⟨some 30,.indexAddr 36 (.tmp 27) (.tmp 29),some (21,true)⟩,[]⟩,⟨⟨some 31,.load 27 (.tmp 30),some (21,true)⟩,[]⟩,⟨⟨some 32,.call ⟨(.value (.tmp 22)),#[.tmp 26,.tmp 31],#[27,27]⟩,some (21,true)⟩,[]⟩,⟨⟨some 33,.binOp .lss 3 (.tmp 32) (.const (.int .i64 0)) 3,some (21,true)⟩,[]⟩,⟨⟨some 34,.pick (.tmp 21) (.tmp 33) (.const (.bool false)),none⟩,[]⟩]) (.cond (.tmp 34) .skip (.exit 2))) (.seq (.block 3 (.reg [⟨⟨some 37,.move (.tmp 0),none⟩,[]⟩,⟨⟨some 38,.move (.tmp 9),none⟩,[]⟩,⟨⟨some 39,.move (.tmp 0),none⟩,[]⟩,
 ⟨⟨some 40,.move (.tmp 9),none⟩,[]⟩,⟨⟨some 41,.binOp .sub 3 (.tmp 40) (.const (.int .i64 1)) 3,none⟩,[]⟩,⟨⟨some 42,.move (.tmp 0),none⟩,[]⟩,⟨⟨some 43,.move (.tmp 9),none⟩,[]⟩,⟨⟨some 44,.binOp .sub 3 (.tmp 43) (.const (.int .i64 1)) 3,none⟩,[]⟩,⟨⟨some 45,.indexAddr 36 (.tmp 42) (.tmp 44),none⟩,[]⟩,⟨⟨some 46,.load 27 (.tmp 45),none⟩,[]⟩,⟨⟨some 47,.move (.tmp 0),none⟩,[]⟩,⟨⟨some 48,.move (.tmp 9),none⟩,[]⟩,⟨⟨some 49,.indexAddr 36 (.tmp 47) (.tmp 48),none⟩,[]⟩,⟨⟨some 50,.load 27 (.tmp 49),none⟩,[]⟩,⟨⟨some 51,.indexAddr 36 (.tmp 37) (.tmp 38),none⟩,[]⟩,
 ⟨⟨none,.store 27 (.tmp 51) (.tmp 46),none⟩,[]⟩,
  ⟨⟨some 52,.indexAddr 36 (.tmp 39) (.tmp 41),none⟩,[]⟩,
  ⟨⟨none,.store 27 (.tmp 52) (.tmp 50),none⟩,[]⟩])) (.reg [⟨⟨some 35,.move (.tmp 9),none⟩,[]⟩,
  ⟨⟨some 36,.binOp .sub 3 (.tmp 35) (.const (.int .i64 1)) 3,none⟩,[]⟩,
  ⟨⟨some 9,.assign (.tmp 36),none⟩,[]⟩]))))))) (.reg [⟨⟨some 15,.move (.tmp 8),none⟩,[]⟩,
  ⟨⟨some 16,.binOp .add 3 (.tmp 15) (.const (.int .i64 1)) 3,none⟩,[]⟩,
  ⟨⟨some 8,.assign (.tmp 16),none⟩,[]⟩]))))))
theorem in229:InT Tryz.prog 229 4 [] cd229:=InT.mk (by kernel_rfl) [(4,[(0,false),(1,false),(2,false),(3,false),(4,false),(5,false),(6,false),(7,false),(8,false),(9,false),(10,false),(11,false),(12,false),(13,false),(14,true),(15,false),(16,false)]),(6,[(0,false),(1,false),(2,false),(3,false),(4,false),(5,false),(6,false),(7,false),(8,false),(9,false),(10,false),(11,false),(12,false),(13,false),(14,false),(15,true),(16,false),(17,true)])] Tryz.func229 rfl (by kernel_rfl) (by kernel_rfl) (of_decide_eq_true (by kernel_rfl)) (by kernel_rfl)
def cd232:Cd:=(.seq (.reg [⟨⟨some 8,.assign (.const (.int .i64 0)),none⟩,[]⟩,⟨⟨some 9,.assign (.const (.int .i64 0)),none⟩,[]⟩]) (.seq (.reg [⟨⟨some 15,.move (.tmp 2),none⟩,[]⟩,⟨⟨some 16,.move (.tmp 1),none⟩,[]⟩,⟨⟨some 17,.binOp .sub 3 (.tmp 15) (.tmp 16) 3,none⟩,[]⟩,⟨⟨some 10,.assign (.tmp 17),none⟩,[]⟩]) (.seq (.reg [⟨⟨some 11,.alloc 3,none⟩,[]⟩]) (.seq (.reg [⟨⟨some 18,.move (.tmp 1),none⟩,[]⟩,⟨⟨some 19,.move (.tmp 10),none⟩,[]⟩,⟨⟨some 20,.binOp .quo 3 (.tmp 19) (.const (.int .i64 4)) 3,none⟩,[]⟩,⟨⟨some 21,.binOp .mul 3 (.tmp 20) (.const (.int .i64 1)) 3,none⟩,[]⟩,⟨⟨some 22,.binOp .add 3 (.tmp 18) (.tmp 21) 3,none⟩,[]⟩,⟨⟨some 12,.assign (.tmp 22),none⟩,[]⟩]) (.seq (.reg [⟨⟨some 23,.move (.tmp 1),none⟩,[]⟩,⟨⟨some 24,.move (.tmp 10),none⟩,[]⟩,⟨⟨some 25,.binOp .quo 3 (.tmp 24) (.const (.int .i64 4)) 3,none⟩,[]⟩,
 ⟨⟨some 26,.binOp .mul 3 (.tmp 25) (.const (.int .i64 2)) 3,none⟩,[]⟩,⟨⟨some 27,.binOp .add 3 (.tmp 23) (.tmp 26) 3,none⟩,[]⟩,⟨⟨some 13,.assign (.tmp 27),none⟩,[]⟩]) (.seq (.reg [⟨⟨some 28,.move (.tmp 1),none⟩,[]⟩,⟨⟨some 29,.move (.tmp 10),none⟩,[]⟩,⟨⟨some 30,.binOp .quo 3 (.tmp 29) (.const (.int .i64 4)) 3,none⟩,[]⟩,⟨⟨some 31,.binOp .mul 3 (.tmp 30) (.const (.int .i64 3)) 3,none⟩,[]⟩,⟨⟨some 32,.binOp .add 3 (.tmp 28) (.tmp 31) 3,none⟩,[]⟩,⟨⟨some 14,.assign (.tmp 32),none⟩,[]⟩]) (.seq (.seq (.reg [⟨⟨some 33,.move (.tmp 10),none⟩,[]⟩,⟨⟨some 34,.binOp .geq 3 (.tmp 33) (.const (.int .i64 8)) 3,none⟩,[]⟩]) (.cond (.tmp 34) (.seq (.seq (.reg [⟨⟨some 35,.move (.tmp 10),none⟩,[]⟩,⟨⟨some 36,.binOp .geq 3 (.tmp 35) (.const (.int .i64 50)) 3,none⟩,[]⟩]) (.cond (.tmp 36) (.seq (.reg [⟨⟨some 37,.move (.tmp 0),none⟩,[]⟩,⟨⟨some 38,.move (.tmp 12),none⟩,[]⟩,⟨⟨some 39,.move (.tmp 3),none⟩,[]⟩,
 ⟨⟨some 40,.call ⟨(.value (.func 247)),#[.tmp 37,.tmp 38,.tmp 11,.tmp 39],#[36,3,188,136]⟩,none⟩,[]⟩,⟨⟨some 12,.assign (.tmp 40),none⟩,[]⟩]) (.seq (.reg [⟨⟨some 41,.move (.tmp 0),none⟩,[]⟩,⟨⟨some 42,.move (.tmp 13),none⟩,[]⟩,⟨⟨some 43,.move (.tmp 3),none⟩,[]⟩,⟨⟨some 44,.call ⟨(.value (.func 247)),#[.tmp 41,.tmp 42,.tmp 11,.tmp 43],#[36,3,188,136]⟩,none⟩,[]⟩,⟨⟨some 13,.assign (.tmp 44),none⟩,[]⟩]) (.reg [⟨⟨some 45,.move (.tmp 0),none⟩,[]⟩,⟨⟨some 46,.move (.tmp 14),none⟩,[]⟩,⟨⟨some 47,.move (.tmp 3),none⟩,[]⟩,⟨⟨some 48,.call ⟨(.value (.func 247)),#[.tmp 45,.tmp 46,.tmp 11,.tmp 47],#[36,3,188,136]⟩,none⟩,[]⟩,⟨⟨some 14,.assign (.tmp 48),none⟩,[]⟩]))) .skip)) (.reg [⟨⟨some 49,.move (.tmp 0),none⟩,[]⟩,⟨⟨some 50,.move (.tmp 12),none⟩,[]⟩,⟨⟨some 51,.move (.tmp 13),none⟩,[]⟩,
 ⟨⟨some 52,.move (.tmp 14),none⟩,[]⟩,
  ⟨⟨some 53,.move (.tmp 3),none⟩,[]⟩,
  ⟨⟨some 54,.call ⟨(.value (.func 248)),#[.tmp 49,.tmp 50,.tmp 51,.tmp 52,.tmp 11,.tmp 53],#[36,3,3,3,188,136]⟩,none⟩,[]⟩,
  ⟨⟨some 13,.assign (.tmp 54),none⟩,[]⟩])) .skip)) (.seq (.reg [⟨⟨some 55,.load 3 (.tmp 11),none⟩,[]⟩]) (.block 0 (.seq (.reg [⟨⟨some 58,.binOp .eql 3 (.tmp 55) (.const (.int .i64 0)) 3,none⟩,[]⟩,
  ⟨⟨some 57,.assign (.tmp 58),none⟩,[]⟩]) (.cond (.tmp 57) (.seq (.reg [⟨⟨some 59,.move (.tmp 13),none⟩,[]⟩,
  ⟨⟨some 8,.assign (.tmp 59),none⟩,[]⟩,
  ⟨⟨some 9,.assign (.const (.int .i64 1)),none⟩,[]⟩]) .ret) (.seq (.reg [⟨⟨some 61,.binOp .eql 3 (.tmp 55) (.const (.int .i64 12)) 3,none⟩,[]⟩,
  ⟨⟨some 60,.assign (.tmp 61),none⟩,[]⟩]) (.cond (.tmp 60) (.seq (.reg [⟨⟨some 62,.move (.tmp 13),none⟩,[]⟩,
  ⟨⟨some 8,.assign (.tmp 62),none⟩,[]⟩,
  ⟨⟨some 9,.assign (.const (.int .i64 2)),none⟩,[]⟩]) .ret) (.seq (.reg [⟨⟨some 56,.move (.tmp 13),none⟩,[]⟩,
  ⟨⟨some 8,.assign (.tmp 56),none⟩,[]⟩,
  ⟨⟨some 9,.assign (.const (.int .i64 0)),none⟩,[]⟩]) .ret))))))))))))))
theorem in232:InT Tryz.prog 232 4 [.tmp 8,.tmp 9] cd232:=InT.mk (by kernel_rfl) [] Tryz.func232 rfl (by kernel_rfl) (by kernel_rfl) (of_decide_eq_true (by kernel_rfl)) (by kernel_rfl)
def cd205:Cd:=(.seq (.reg [⟨⟨some 10,.assign (.const (.bool true)),none⟩,[]⟩]) (.seq (.reg [⟨⟨some 11,.assign (.const (.bool true)),none⟩,[]⟩]) (.block 0 (.loop (.block 1 (.seq (.reg [⟨⟨some 21,.move (.tmp 2),none⟩,[]⟩,⟨⟨some 22,.move (.tmp 1),none⟩,[]⟩,⟨⟨some 23,.binOp .sub 3 (.tmp 21) (.tmp 22) 3,none⟩,[]⟩,⟨⟨some 12,.assign (.tmp 23),none⟩,[]⟩]) (.seq (.seq (.reg [⟨⟨some 24,.move (.tmp 12),none⟩,[]⟩,⟨⟨some 25,.binOp .leq 3 (.tmp 24) (.const (.int .i64 12)) 3,none⟩,[]⟩]) (.cond (.tmp 25) (.seq (.reg [⟨⟨some 26,.move (.tmp 0),none⟩,[]⟩,⟨⟨some 27,.move (.tmp 1),none⟩,[]⟩,⟨⟨some 28,.move (.tmp 2),none⟩,[]⟩,⟨⟨some 29,.move (.tmp 4),none⟩,[]⟩,⟨⟨some 30,.call ⟨(.value (.func 229)),#[.tmp 26,.tmp 27,.tmp 28,.tmp 29],#[36,3,3,136]⟩,none⟩,[]⟩]) .ret) .skip)) (.seq (.seq (.reg [⟨⟨some 31,.move (.tmp 3),none⟩,[]⟩,⟨⟨some 32,.binOp .eql 3 (.tmp 31) (.const (.int .i64 0)) 3,none⟩,[]⟩]) (.cond (.tmp 32) (.seq (.reg [⟨⟨some 33,.move (.tmp 0),none⟩,[]⟩,⟨⟨some 34,.move (.tmp 1),none⟩,[]⟩,⟨⟨some 35,.move (.tmp 2),none⟩,[]⟩,
 ⟨⟨some 36,.move (.tmp 4),none⟩,[]⟩,⟨⟨some 37,.call ⟨(.value (.func 230)),#[.tmp 33,.tmp 34,.tmp 35,.tmp 36],#[36,3,3,136]⟩,none⟩,[]⟩]) .ret) .skip)) (.seq (.seq (.reg [⟨⟨some 38,.move (.tmp 10),none⟩,[]⟩,⟨⟨some 39,.unOp .not 4 (.tmp 38),none⟩,[]⟩]) (.cond (.tmp 39) (.seq (.reg [⟨⟨some 40,.move (.tmp 0),none⟩,[]⟩,⟨⟨some 41,.move (.tmp 1),none⟩,[]⟩,⟨⟨some 42,.move (.tmp 2),none⟩,[]⟩,⟨⟨some 43,.move (.tmp 4),none⟩,[]⟩,⟨⟨some 44,.call ⟨(.value (.func 231)),#[.tmp 40,.tmp 41,.tmp 42,.tmp 43],#[36,3,3,136]⟩,none⟩,[]⟩]) (.reg [⟨⟨some 45,.move (.tmp 3),none⟩,[]⟩,⟨⟨some 46,.binOp .sub 3 (.tmp 45) (.const (.int .i64 1)) 3,none⟩,[]⟩,⟨⟨some 3,.assign (.tmp 46),none⟩,[]⟩])) .skip)) (.seq (.reg [⟨⟨some 48,.move (.tmp 0),none⟩,[]⟩,⟨⟨some 49,.move (.tmp 1),none⟩,[]⟩,⟨⟨some 50,.move (.tmp 2),none⟩,[]⟩,⟨⟨some 51,.move (.tmp 4),none⟩,[]⟩,
 ⟨⟨some 52,.call ⟨(.value (.func 232)),#[.tmp 48,.tmp 49,.tmp 50,.tmp 51],#[36,3,3,136]⟩,none⟩,[]⟩,⟨⟨some 47,.move (.tmp 52),none⟩,[]⟩,⟨⟨some 53,.extract (.tmp 47) 0,none⟩,[]⟩,⟨⟨some 54,.extract (.tmp 47) 1,none⟩,[]⟩,⟨⟨some 13,.assign (.tmp 53),none⟩,[]⟩,⟨⟨some 14,.assign (.tmp 54),none⟩,[]⟩]) (.seq (.seq (.reg [⟨⟨some 55,.move (.tmp 14),none⟩,[]⟩,⟨⟨some 56,.binOp .eql 165 (.tmp 55) (.const (.int .i64 2)) 165,none⟩,[]⟩]) (.cond (.tmp 56) (.seq (.reg [⟨⟨some 57,.move (.tmp 0),none⟩,[]⟩,⟨⟨some 58,.move (.tmp 1),none⟩,[]⟩,⟨⟨some 59,.move (.tmp 2),none⟩,[]⟩,⟨⟨some 60,.move (.tmp 4),none⟩,[]⟩,⟨⟨some 61,.call ⟨(.value (.func 233)),#[.tmp 57,.tmp 58,.tmp 59,.tmp 60],#[36,3,3,136]⟩,none⟩,[]⟩]) (.seq (.reg [⟨⟨some 62,.move (.tmp 2),none⟩,[]⟩,⟨⟨some 63,.binOp .sub 3 (.tmp 62) (.const (.int .i64 1)) 3,none⟩,[]⟩,
 ⟨⟨some 64,.move (.tmp 13),none⟩,[]⟩,⟨⟨some 65,.move (.tmp 1),none⟩,[]⟩,⟨⟨some 66,.binOp .sub 3 (.tmp 64) (.tmp 65) 3,none⟩,[]⟩,⟨⟨some 67,.binOp .sub 3 (.tmp 63) (.tmp 66) 3,none⟩,[]⟩,⟨⟨some 13,.assign (.tmp 67),none⟩,[]⟩]) (.reg [⟨⟨some 14,.assign (.const (.int .i64 1)),none⟩,[]⟩]))) .skip)) (.seq (.seq (.reg [⟨⟨some 68,.move (.tmp 10),none⟩,[]⟩,⟨⟨some 69,.move (.tmp 68),none⟩,[]⟩,⟨⟨some 70,.move (.tmp 11),some (69,true)⟩,[]⟩,⟨⟨some 71,.pick (.tmp 69) (.tmp 70) (.const (.bool false)),none⟩,[]⟩,⟨⟨some 72,.move (.tmp 71),none⟩,[]⟩,⟨⟨some 73,.move (.tmp 14),some (72,true)⟩,[]⟩,⟨⟨some 74,.binOp .eql 165 (.tmp 73) (.const (.int .i64 1)) 165,some (72,true)⟩,[]⟩,⟨⟨some 75,.pick (.tmp 72) (.tmp 74) (.const (.bool false)),none⟩,[]⟩]) (.cond (.tmp 75) (.seq (.reg [⟨⟨some 76,.move (.tmp 0),none⟩,[]⟩,
 ⟨⟨some 77,.move (.tmp 1),none⟩,[]⟩,⟨⟨some 78,.move (.tmp 2),none⟩,[]⟩,⟨⟨some 79,.move (.tmp 4),none⟩,[]⟩,⟨⟨some 80,.call ⟨(.value (.func 234)),#[.tmp 76,.tmp 77,.tmp 78,.tmp 79],#[36,3,3,136]⟩,none⟩,[]⟩]) (.cond (.tmp 80) .ret .skip)) .skip)) (.seq (.seq (.reg [⟨⟨some 81,.move (.tmp 1),none⟩,[]⟩,⟨⟨some 82,.binOp .gtr 3 (.tmp 81) (.const (.int .i64 0)) 3,none⟩,[]⟩,⟨⟨some 83,.move (.tmp 82),none⟩,[]⟩,⟨⟨some 84,.move (.tmp 4),some (83,true)⟩,[]⟩,⟨⟨some 85,.move (.tmp 0),some (83,true)⟩,[]⟩,⟨⟨some 86,.move (.tmp 1),some (83,true)⟩,[]⟩,⟨⟨some 87,.binOp .sub 3 (.tmp 86) (.const (.int .i64 1)) 3,some (83,true)⟩,[]⟩,⟨⟨some 88,.indexAddr 36 (.tmp 85) (.tmp 87),some (83,true)⟩,[]⟩,⟨⟨some 89,.load 27 (.tmp 88),some (83,true)⟩,[]⟩,
 ⟨⟨some 90,.move (.tmp 0),some (83,true)⟩,[]⟩,⟨⟨some 91,.move (.tmp 13),some (83,true)⟩,[]⟩,⟨⟨some 92,.indexAddr 36 (.tmp 90) (.tmp 91),some (83,true)⟩,[]⟩,⟨⟨some 93,.load 27 (.tmp 92),some (83,true)⟩,[]⟩,⟨⟨some 94,.call ⟨(.value (.tmp 84)),#[.tmp 89,.tmp 93],#[27,27]⟩,some (83,true)⟩,[]⟩,⟨⟨some 95,.binOp .lss 3 (.tmp 94) (.const (.int .i64 0)) 3,some (83,true)⟩,[]⟩,⟨⟨some 96,.unOp .not 4 (.tmp 95),some (83,true)⟩,[]⟩,⟨⟨some 97,.pick (.tmp 83) (.tmp 96) (.const (.bool false)),none⟩,[]⟩]) (.cond (.tmp 97) (.seq (.reg [⟨⟨some 98,.move (.tmp 0),none⟩,[]⟩,⟨⟨some 99,.move (.tmp 1),none⟩,[]⟩,⟨⟨some 100,.move (.tmp 2),none⟩,[]⟩,⟨⟨some 101,.move (.tmp 13),none⟩,[]⟩,⟨⟨some 102,.move (.tmp 4),none⟩,[]⟩,
 ⟨⟨some 103,.call ⟨(.value (.func 235)),#[.tmp 98,.tmp 99,.tmp 100,.tmp 101,.tmp 102],#[36,3,3,3,136]⟩,none⟩,[]⟩,⟨⟨some 15,.assign (.tmp 103),none⟩,[]⟩]) (.seq (.reg [⟨⟨some 104,.move (.tmp 15),none⟩,[]⟩,⟨⟨some 1,.assign (.tmp 104),none⟩,[]⟩]) (.exit 1))) .skip)) (.seq (.reg [⟨⟨some 106,.move (.tmp 0),none⟩,[]⟩,⟨⟨some 107,.move (.tmp 1),none⟩,[]⟩,⟨⟨some 108,.move (.tmp 2),none⟩,[]⟩,⟨⟨some 109,.move (.tmp 13),none⟩,[]⟩,⟨⟨some 110,.move (.tmp 4),none⟩,[]⟩,⟨⟨some 111,.call ⟨(.value (.func 236)),#[.tmp 106,.tmp 107,.tmp 108,.tmp 109,.tmp 110],#[36,3,3,3,136]⟩,none⟩,[]⟩,⟨⟨some 105,.move (.tmp 111),none⟩,[]⟩,⟨⟨some 112,.extract (.tmp 105) 0,none⟩,[]⟩,⟨⟨some 113,.extract (.tmp 105) 1,none⟩,[]⟩,⟨⟨some 16,.assign (.tmp 112),none⟩,[]⟩,
 ⟨⟨some 17,.assign (.tmp 113),none⟩,[]⟩]) (.seq (.reg [⟨⟨some 114,.move (.tmp 17),none⟩,[]⟩,⟨⟨some 11,.assign (.tmp 114),none⟩,[]⟩]) (.seq (.reg [⟨⟨some 115,.move (.tmp 16),none⟩,[]⟩,⟨⟨some 116,.move (.tmp 1),none⟩,[]⟩,⟨⟨some 117,.binOp .sub 3 (.tmp 115) (.tmp 116) 3,none⟩,[]⟩,⟨⟨some 118,.move (.tmp 2),none⟩,[]⟩,⟨⟨some 119,.move (.tmp 16),none⟩,[]⟩,⟨⟨some 120,.binOp .sub 3 (.tmp 118) (.tmp 119) 3,none⟩,[]⟩,⟨⟨some 18,.assign (.tmp 117),none⟩,[]⟩,⟨⟨some 19,.assign (.tmp 120),none⟩,[]⟩]) (.seq (.reg [⟨⟨some 121,.move (.tmp 12),none⟩,[]⟩,⟨⟨some 122,.binOp .quo 3 (.tmp 121) (.const (.int .i64 8)) 3,none⟩,[]⟩,⟨⟨some 20,.assign (.tmp 122),none⟩,[]⟩]) (.seq (.reg [⟨⟨some 123,.move (.tmp 18),none⟩,[]⟩,⟨⟨some 124,.move (.tmp 19),none⟩,[]⟩,
 ⟨⟨some 125,.binOp .lss 3 (.tmp 123) (.tmp 124) 3,none⟩,[]⟩]) (.cond (.tmp 125) (.seq (.reg [⟨⟨some 126,.move (.tmp 18),none⟩,[]⟩,⟨⟨some 127,.move (.tmp 20),none⟩,[]⟩,⟨⟨some 128,.binOp .geq 3 (.tmp 126) (.tmp 127) 3,none⟩,[]⟩,⟨⟨some 10,.assign (.tmp 128),none⟩,[]⟩]) (.seq (.reg [⟨⟨some 129,.move (.tmp 0),none⟩,[]⟩,⟨⟨some 130,.move (.tmp 1),none⟩,[]⟩,⟨⟨some 131,.move (.tmp 16),none⟩,[]⟩,⟨⟨some 132,.move (.tmp 3),none⟩,[]⟩,⟨⟨some 133,.move (.tmp 4),none⟩,[]⟩,⟨⟨some 134,.call ⟨(.value (.func 205)),#[.tmp 129,.tmp 130,.tmp 131,.tmp 132,.tmp 133],#[36,3,3,3,136]⟩,none⟩,[]⟩]) (.reg [⟨⟨some 135,.move (.tmp 16),none⟩,[]⟩,⟨⟨some 136,.binOp .add 3 (.tmp 135) (.const (.int .i64 1)) 3,none⟩,[]⟩,⟨⟨some 1,.assign (.tmp 136),none⟩,[]⟩]))) (.seq (.reg [⟨⟨some 137,.move (.tmp 19),none⟩,[]⟩,⟨⟨some 138,.move (.tmp 20),none⟩,[]⟩,
 ⟨⟨some 139,.binOp .geq 3 (.tmp 137) (.tmp 138) 3,none⟩,[]⟩,
  ⟨⟨some 10,.assign (.tmp 139),none⟩,[]⟩]) (.seq (.reg [⟨⟨some 140,.move (.tmp 0),none⟩,[]⟩,
  ⟨⟨some 141,.move (.tmp 16),none⟩,[]⟩,
  ⟨⟨some 142,.binOp .add 3 (.tmp 141) (.const (.int .i64 1)) 3,none⟩,[]⟩,
  ⟨⟨some 143,.move (.tmp 2),none⟩,[]⟩,
  ⟨⟨some 144,.move (.tmp 3),none⟩,[]⟩,
  ⟨⟨some 145,.move (.tmp 4),none⟩,[]⟩,
  ⟨⟨some 146,.call ⟨(.value (.func 205)),#[.tmp 140,.tmp 142,.tmp 143,.tmp 144,.tmp 145],#[36,3,3,3,136]⟩,none⟩,[]⟩]) (.reg [⟨⟨some 147,.move (.tmp 16),none⟩,[]⟩,
  ⟨⟨some 2,.assign (.tmp 147),none⟩,[]⟩]))))))))))))))))))))))
theorem in205:InT Tryz.prog 205 5 [] cd205:=InT.mk (by kernel_rfl) [(17,[(0,false),(1,false),(2,false),(3,false),(4,false),(5,false),(6,false),(7,false),(8,false),(9,false),(10,false),(11,false),(12,false),(13,true),(14,false),(15,false),(16,false)])] Tryz.func205 rfl (by kernel_rfl) (by kernel_rfl) (of_decide_eq_true (by kernel_rfl)) (by kernel_rfl)
end Go.Proofs.YtjnefjchconebaaGreat.Ai
namespace Go.Proofs.YtjnefjchconebaaGreat.Ai
open Go Go.RowKit
def cmpL:List Int->List Int->Int
  | [],[]=>0
  | [],_ :: _ => -1
  | _ :: _,[]=>1
  | a :: xs,b :: ys=>if cmpI a b ≠ 0 then cmpI a b else cmpL xs ys
theorem cmpL_nil (ys:List Int):cmpL [] ys=if 0<ys.length then -1 else 0:=by
  cases ys with
  | nil=>rfl
  | cons b bs=>simp [cmpL]
theorem cmpL_step (xs ys:List Int)(i:Nat)(hi:i<xs.length):cmpL (xs.drop i) (ys.drop i)=if ys.length<=i then 1 else if cmpI (xs.getD i 0) (ys.getD i 0) ≠ 0 then cmpI (xs.getD i 0) (ys.getD i 0) else cmpL (xs.drop (i+1)) (ys.drop (i+1)):=by
  have hx:xs.getD i 0=xs[i]:=by simp [hi]
  rw [List.drop_eq_getElem_cons hi]
  by_cases hj:ys.length<=i
  . rw [if_pos hj,List.drop_of_length_le hj];rfl
  . have hj':i<ys.length:=by omega
    have hy:ys.getD i 0=ys[i]:=by simp [hj']
    rw [if_neg hj,List.drop_eq_getElem_cons hj',hx,hy];rfl
abbrev fnCmp:Value:=.func (.func 166) #[] (List.toArray [])
theorem CmpL_c (v w:Value)(xs ys:List Int)(H:AH)(hr:Row 3 H v xs)(hr2:Row 3 H w ys)(hlen:xs.length<=1099511627776)(hlen2:ys.length<=1099511627776) :
    ACalls Tryz.prog 166 [v,w] H fun r H'=>r=.int .i64 (cmpL xs ys)/\H=H':=by
  refine in166 rfl ?_
  intro Q hQ
  simp (maxSteps:=1000000) (disch:=omega) only [cd166,hr.len Tryz.underlying27,SS,eq_self,reduceIte,reduceCtorEq,Nat.reduceEqDiff,Nat.reduceAdd]
  refine LoopH.by (fun m s H'=>∃ i,m+i=xs.length/\s 0=v/\s 1=w/\s 9=v/\s 10=.int .i64 (xs.length:Int)/\s 11=.int .i64 ((i:Nat):Int)/\H=H'/\cmpL xs ys=cmpL (xs.drop i) (ys.drop i)/\(i<=ys.length∨i=0)) xs.length ?_ ?_
  . exact ⟨0,by simp,rfl,rfl,rfl,rfl,rfl,rfl,by simp,.inr rfl⟩
  . rintro m s H' ⟨i,hm,h0,h1,h9,h10,h11,rfl,hc,hy⟩
    simp (maxSteps:=1000000) (disch:=omega) only [h0,h1,h9,h10,h11,SS,eq_self,reduceIte,reduceCtorEq,Nat.reduceEqDiff,Nat.reduceAdd]
    refine brD.intro (fun g=>?_) (fun g=>?_)
    . have hi:i<xs.length:=by omega
      rw [cmpL_step xs ys i hi] at hc
      simp (maxSteps:=1000000) (disch:=omega) only [h0,h1,h9,h10,h11,hr.ix Tryz.underlying27 cs3,hr.cell,Int.toNat_natCast,hr2.len Tryz.underlying27,SS,eq_self,reduceIte,reduceCtorEq,Nat.reduceEqDiff,Nat.reduceAdd]
      refine brD.intro (fun e=>?_) (fun e=>?_)
      . simp (maxSteps:=1000000) (disch:=omega) only [SS,eq_self,reduceIte,reduceCtorEq,Nat.reduceEqDiff,Nat.reduceAdd]
        refine hQ _ _ _ ?_
        simp (maxSteps:=1000000) (disch:=omega) only [SS,eq_self,reduceIte,reduceCtorEq,Nat.reduceEqDiff,Nat.reduceAdd]
        rw [hc,if_pos (by omega)]
      . have hj:i<ys.length:=by omega
        rw [if_neg (by omega)] at hc
        simp (maxSteps:=1000000) (disch:=omega) only [h0,h1,h9,h10,h11,hr2.ix Tryz.underlying27 cs3,hr2.cell,Int.toNat_natCast,SS,eq_self,reduceIte,reduceCtorEq,Nat.reduceEqDiff,Nat.reduceAdd]
        refine CallH.by (Compare_c _ _ H) ?_
        rintro _ _ ⟨rfl,rfl⟩
        simp (maxSteps:=1000000) (disch:=omega) only [SS,eq_self,reduceIte,reduceCtorEq,Nat.reduceEqDiff,Nat.reduceAdd]
        refine brD.intro (fun e2=>?_) (fun e2=>?_) <;> simp (maxSteps:=1000000) (disch:=omega) only [h0,h1,h9,h10,h11,wrap64,SS,eq_self,reduceIte,reduceCtorEq,Nat.reduceEqDiff,Nat.reduceAdd]
        . refine hQ _ _ _ ?_
          simp (maxSteps:=1000000) (disch:=omega) only [SS,eq_self,reduceIte,reduceCtorEq,Nat.reduceEqDiff,Nat.reduceAdd]
          rw [hc,if_pos e2]
        . rw [if_neg e2] at hc
          have f1:i+1<=ys.length∨i+1=0:=.inl hj
          refine ⟨m - 1,by omega,i+1,?_⟩
          (repeat' first | exact hc | exact f1 | apply And.intro) <;> first | (simp only [Value.int.injEq,true_and];omega) | omega | rfl | assumption | (simp;done) | (simp;omega)
    . have hxe:i=xs.length:=by omega
      rw [hxe,List.drop_length,cmpL_nil] at hc
      simp (maxSteps:=1000000) (disch:=omega) only [h0,h1,hr.len Tryz.underlying27,hr2.len Tryz.underlying27,SS,eq_self,reduceIte,reduceCtorEq,Nat.reduceEqDiff,Nat.reduceAdd]
      refine brD.intro (fun e=>?_) (fun e=>?_) <;> simp (maxSteps:=1000000) (disch:=omega) only [SS,eq_self,reduceIte,reduceCtorEq,Nat.reduceEqDiff,Nat.reduceAdd]
      . refine hQ _ _ _ ?_
        simp (maxSteps:=1000000) (disch:=omega) only [SS,eq_self,reduceIte,reduceCtorEq,Nat.reduceEqDiff,Nat.reduceAdd]
        rw [hc,if_pos (by simp;omega)]
      . refine hQ _ _ _ ?_
        simp (maxSteps:=1000000) (disch:=omega) only [SS,eq_self,reduceIte,reduceCtorEq,Nat.reduceEqDiff,Nat.reduceAdd]
        rw [hc,if_neg (by simp;omega)]
def SrtL (ls:List (List Int)):Prop:=∀ i j,i<j->j<ls.length->0<cmpL (ls.getD j []) (ls.getD i [])
structure Sts (H:AH) (v:Value) (us:List Value) (ls:List (List Int)):Prop where
  row:RowV 27 H v us
  len:us.length=ls.length
  each:∀ i,i<ls.length->Row 3 H (us.getD i undef) (ls.getD i [])
  small:∀ i,i<ls.length->(ls.getD i []).length<=1099511627776
  bnd:ls.length<=60000
  srt:SrtL ls
theorem Sts.pre {H H':AH}{v:Value}{us:List Value}{ls:List (List Int)}(h:Sts H v us ls)(hp:H<+:H'):Sts H' v us ls:=⟨h.row.pre hp,h.len,fun i hi=>(h.each i hi).pre hp,h.small,h.bnd,h.srt⟩
theorem cmpL_self:∀ xs:List Int,cmpL xs xs=0
  | []=>rfl
  | a :: xs=>by
    have:cmpI a a=0:=by unfold cmpI;rw [if_neg (by omega),if_neg (by omega)]
    rw [cmpL,if_neg (by rw [this];decide)];exact cmpL_self xs
theorem Sts.le {H:AH}{v:Value}{us:List Value}{ls:List (List Int)}(h:Sts H v us ls){i j:Nat}(hij:i<=j)(hj:j<ls.length):¬ cmpL (ls.getD j []) (ls.getD i [])<0:=by
  by_cases e:i=j
  . subst e;rw [cmpL_self];omega
  . have:=h.srt i j (by omega) hj;omega
section
variable {v:Value} {us:List Value} {ls:List (List Int)} {H:AH}
theorem Sts.cell (h:Sts H v us ls){i:Nat}(hi:i<ls.length):cellA H (rowO v) (rowK v+i)=some (us.getD i undef):=h.row.cell (by have:=h.len;omega)
theorem Sts.cmp (h:Sts H v us ls){i j:Nat}(hi:i<ls.length)(hj:j<ls.length) :
    ACalls Tryz.prog 166 [us.getD i undef,us.getD j undef] H fun r H'=>r=.int .i64 (cmpL (ls.getD i []) (ls.getD j []))/\H=H':=CmpL_c _ _ _ _ H (h.each i hi) (h.each j hj) (h.small i hi) (h.small j hj)
theorem order2_c (h:Sts H v us ls)(a b:Nat)(p:Value)(hab:a<=b)(hb:b<ls.length) :
    ACalls Tryz.prog 251 [v,.int .i64 (a:Int),.int .i64 (b:Int),p,fnCmp] H fun r H'=>r=.tuple (List.toArray [.int .i64 (a:Int),.int .i64 (b:Int)])/\H=H':=by
  refine in251 rfl ?_
  intro Q hQ
  have hl:=h.len
  have hca:=h.cell (show a<ls.length by omega)
  have hcb:=h.cell hb
  simp (maxSteps:=1000000) (disch:=omega) only [cd251,h.row.ix Tryz.underlying36 cs27,Int.toNat_natCast,hca,hcb,SS,eq_self,reduceIte,reduceCtorEq,Nat.reduceEqDiff,Nat.reduceAdd]
  refine CallH.by (h.cmp hb (show a<ls.length by omega)) ?_
  rintro _ _ ⟨rfl,rfl⟩
  simp (maxSteps:=1000000) (disch:=omega) only [SS,eq_self,reduceIte,reduceCtorEq,Nat.reduceEqDiff,Nat.reduceAdd]
  refine brD.intro (fun e=>absurd e (h.le hab hb)) (fun e=>?_)
  simp (maxSteps:=1000000) (disch:=omega) only [SS,eq_self,reduceIte,reduceCtorEq,Nat.reduceEqDiff,Nat.reduceAdd]
  refine hQ _ _ _ ?_
  simp (maxSteps:=1000000) (disch:=omega) only [SS,eq_self,reduceIte,reduceCtorEq,Nat.reduceEqDiff,Nat.reduceAdd]
theorem median_c (h:Sts H v us ls)(a b c:Nat)(p:Value)(hab:a<=b)(hbc:b<=c)(hc:c<ls.length) :
    ACalls Tryz.prog 248 [v,.int .i64 (a:Int),.int .i64 (b:Int),.int .i64 (c:Int),p,fnCmp] H fun r H'=>r=.int .i64 (b:Int)/\H=H':=by
  refine in248 rfl ?_
  intro Q hQ
  simp (maxSteps:=1000000) (disch:=omega) only [cd248,SS,eq_self,reduceIte,reduceCtorEq,Nat.reduceEqDiff,Nat.reduceAdd]
  refine CallH.by (order2_c h a b p hab (by omega)) ?_
  rintro _ _ ⟨rfl,rfl⟩
  simp (maxSteps:=1000000) (disch:=omega) only [SS,eq_self,reduceIte,reduceCtorEq,Nat.reduceEqDiff,Nat.reduceAdd]
  refine CallH.by (order2_c h b c p hbc hc) ?_
  rintro _ _ ⟨rfl,rfl⟩
  simp (maxSteps:=1000000) (disch:=omega) only [SS,eq_self,reduceIte,reduceCtorEq,Nat.reduceEqDiff,Nat.reduceAdd]
  refine CallH.by (order2_c h a b p hab (by omega)) ?_
  rintro _ _ ⟨rfl,rfl⟩
  simp (maxSteps:=1000000) (disch:=omega) only [SS,eq_self,reduceIte,reduceCtorEq,Nat.reduceEqDiff,Nat.reduceAdd]
  refine hQ _ _ _ ?_
  simp (maxSteps:=1000000) (disch:=omega) only [SS,eq_self,reduceIte,reduceCtorEq,Nat.reduceEqDiff,Nat.reduceAdd]
theorem medianAdj_c (h:Sts H v us ls)(a:Nat)(p:Value)(ha:1<=a)(hc:a+1<ls.length) :
    ACalls Tryz.prog 247 [v,.int .i64 (a:Int),p,fnCmp] H fun r H'=>r=.int .i64 (a:Int)/\H=H':=by
  refine in247 rfl ?_
  intro Q hQ
  have hb:=h.bnd
  have e1:(a:Int) - 1=((a - 1:Nat):Int):=by omega
  have e2:(a:Int)+1=((a+1:Nat):Int):=by omega
  simp (maxSteps:=1000000) (disch:=omega) only [cd247,wrap64,e1,e2,SS,eq_self,reduceIte,reduceCtorEq,Nat.reduceEqDiff,Nat.reduceAdd]
  refine CallH.by (median_c h (a - 1) a (a+1) p (by omega) (by omega) hc) ?_
  rintro _ _ ⟨rfl,rfl⟩
  simp (maxSteps:=1000000) (disch:=omega) only [SS,eq_self,reduceIte,reduceCtorEq,Nat.reduceEqDiff,Nat.reduceAdd]
  refine hQ _ _ _ ?_
  simp (maxSteps:=1000000) (disch:=omega) only [SS,eq_self,reduceIte,reduceCtorEq,Nat.reduceEqDiff,Nat.reduceAdd]
theorem partialIns_c (h:Sts H v us ls)(h1:1<=ls.length) :
    ACalls Tryz.prog 234 [v,.int .i64 0,.int .i64 (ls.length:Int),fnCmp] H fun r H'=>r=.bool true/\H=H':=by
  refine in234 rfl ?_
  intro Q hQ
  have hb:=h.bnd
  have hl:=h.len
  simp (maxSteps:=1000000) (disch:=omega) only [cd234,wrap64,SS,eq_self,reduceIte,reduceCtorEq,Nat.reduceEqDiff,Nat.reduceAdd]
  refine LoopH.by (fun m s H'=>s 0=v/\s 2=.int .i64 (ls.length:Int)/\s 3=fnCmp/\s 9=.int .i64 1/\s 10=.int .i64 0/\H=H') 0 ?_ ?_
  . exact ⟨rfl,rfl,rfl,rfl,rfl,rfl⟩
  . rintro m s H' ⟨h0,h2,h3,h9,h10,rfl⟩
    simp (maxSteps:=1000000) (disch:=omega) only [h0,h2,h3,h9,h10,SS,eq_self,reduceIte,reduceCtorEq,Nat.reduceEqDiff,Nat.reduceAdd]
    refine brD.intro (fun _=>?_) (fun g=>absurd (by decide) g)
    simp (maxSteps:=1000000) (disch:=omega) only [h0,h2,h3,h9,h10,SS,eq_self,reduceIte,reduceCtorEq,Nat.reduceEqDiff,Nat.reduceAdd]
    refine LoopH.by (fun m' s' H'=>∃ i,m'+i=ls.length/\1<=i/\s' 0=v/\s' 2=.int .i64 (ls.length:Int)/\s' 3=fnCmp/\s' 9=.int .i64 ((i:Nat):Int)/\H=H') (ls.length - 1) ?_ ?_
    . exact ⟨1,by omega,by omega,by simp [SS,eq_self,reduceIte,reduceCtorEq,Nat.reduceEqDiff,Nat.reduceAdd,h0],by simp [SS,eq_self,reduceIte,reduceCtorEq,Nat.reduceEqDiff,Nat.reduceAdd,h2],by simp [SS,eq_self,reduceIte,reduceCtorEq,Nat.reduceEqDiff,Nat.reduceAdd,h3],by simp [SS,eq_self,reduceIte,reduceCtorEq,Nat.reduceEqDiff,Nat.reduceAdd,h9],rfl⟩
    . rintro m' s' H' ⟨i,hm,hi1,g0,g2,g3,g9,rfl⟩
      have e1:(i:Int) - 1=((i - 1:Nat):Int):=by omega
      simp (maxSteps:=1000000) (disch:=omega) only [g0,g2,g3,g9,SS,eq_self,reduceIte,reduceCtorEq,Nat.reduceEqDiff,Nat.reduceAdd]
      refine brD.intro (fun g=>?_) (fun g=>?_)
      . have hi:i<ls.length:=by omega
        have hc1:=h.cell hi
        have hc2:=h.cell (show i - 1<ls.length by omega)
        simp (maxSteps:=1000000) (disch:=omega) only [g,g0,g2,g3,g9,wrap64,e1,h.row.ix Tryz.underlying36 cs27,Int.toNat_natCast,hc1,hc2,SS,eq_self,reduceIte,reduceCtorEq,Nat.reduceEqDiff,Nat.reduceAdd]
        refine CallH.by (h.cmp hi (show i - 1<ls.length by omega)) ?_
        rintro _ _ ⟨rfl,rfl⟩
        simp (maxSteps:=1000000) (disch:=omega) only [g,SS,eq_self,reduceIte,reduceCtorEq,Nat.reduceEqDiff,Nat.reduceAdd]
        refine brD.intro (fun e=>absurd e (h.le (by omega) hi)) (fun e=>?_)
        simp (maxSteps:=1000000) (disch:=omega) only [g,e,g0,g2,g3,g9,wrap64,SS,eq_self,reduceIte,reduceCtorEq,Nat.reduceEqDiff,Nat.reduceAdd]
        refine ⟨m' - 1,by omega,i+1,?_⟩
        (repeat' apply And.intro) <;> first | (simp only [Value.int.injEq,true_and];omega) | omega | rfl | assumption | (simp;done) | (simp;omega)
      . have hi:i=ls.length:=by omega
        subst hi
        simp (maxSteps:=1000000) (disch:=omega) only [g,g0,g2,g3,g9,SS,eq_self,reduceIte,reduceCtorEq,Nat.reduceEqDiff,Nat.reduceAdd]
        refine hQ _ _ _ ?_
        simp (maxSteps:=1000000) (disch:=omega) only [SS,eq_self,reduceIte,reduceCtorEq,Nat.reduceEqDiff,Nat.reduceAdd]
theorem insCmp_c (h:Sts H v us ls) :
    ACalls Tryz.prog 229 [v,.int .i64 0,.int .i64 (ls.length:Int),fnCmp] H fun r H'=>H=H':=by
  refine in229 rfl ?_
  intro Q hQ
  have hb:=h.bnd
  have hl:=h.len
  simp (maxSteps:=1000000) (disch:=omega) only [cd229,wrap64,SS,eq_self,reduceIte,reduceCtorEq,Nat.reduceEqDiff,Nat.reduceAdd]
  refine LoopH.by (fun m s H'=>∃ i,m+i=ls.length+1/\1<=i/\s 0=v/\s 1=.int .i64 0/\s 2=.int .i64 (ls.length:Int)/\s 3=fnCmp/\s 8=.int .i64 ((i:Nat):Int)/\H=H') ls.length ?_ ?_
  . exact ⟨1,by omega,by omega,rfl,rfl,rfl,rfl,rfl,rfl⟩
  . rintro m s H' ⟨i,hm,hi1,h0,h1,h2,h3,h8,rfl⟩
    simp (maxSteps:=1000000) (disch:=omega) only [h0,h1,h2,h3,h8,SS,eq_self,reduceIte,reduceCtorEq,Nat.reduceEqDiff,Nat.reduceAdd]
    refine brD.intro (fun g=>?_) (fun g=>?_)
    . have hi:i<ls.length:=by omega
      have e1:(i:Int) - 1=((i - 1:Nat):Int):=by omega
      have hc1:=h.cell hi
      have hc2:=h.cell (show i - 1<ls.length by omega)
      simp (maxSteps:=1000000) (disch:=omega) only [h0,h1,h2,h3,h8,SS,eq_self,reduceIte,reduceCtorEq,Nat.reduceEqDiff,Nat.reduceAdd]
      refine LoopH.by (fun m' s' H'=>s' 0=v/\s' 1=.int .i64 0/\s' 2=.int .i64 (ls.length:Int)/\s' 3=fnCmp/\s' 8=.int .i64 ((i:Nat):Int)/\s' 9=.int .i64 ((i:Nat):Int)/\H=H') 0 ?_ ?_
      . simp only [SS,eq_self,reduceIte,reduceCtorEq,Nat.reduceEqDiff,Nat.reduceAdd,h0,h1,h2,h3,h8]
      . rintro m' s' H' ⟨g0,g1,g2,g3,g8,g9,rfl⟩
        have hgt:(i:Int) > 0:=by omega
        simp (maxSteps:=1000000) (disch:=omega) only [g0,g1,g2,g3,g8,g9,SS,eq_self,reduceIte,reduceCtorEq,Nat.reduceEqDiff,Nat.reduceAdd]
        refine brD.intro (fun q=>?_) (fun q=>absurd hgt q)
        simp (maxSteps:=1000000) (disch:=omega) only [q,g0,g1,g2,g3,g8,g9,wrap64,e1,h.row.ix Tryz.underlying36 cs27,Int.toNat_natCast,hc1,hc2,SS,eq_self,reduceIte,reduceCtorEq,Nat.reduceEqDiff,Nat.reduceAdd]
        refine CallH.by (h.cmp hi (show i - 1<ls.length by omega)) ?_
        rintro _ _ ⟨rfl,rfl⟩
        simp (maxSteps:=1000000) (disch:=omega) only [q,SS,eq_self,reduceIte,reduceCtorEq,Nat.reduceEqDiff,Nat.reduceAdd]
        refine brD.intro (fun e=>absurd e (h.le (by omega) hi)) (fun e=>?_)
        simp (maxSteps:=1000000) (disch:=omega) only [q,e,g0,g1,g2,g3,g8,g9,wrap64,SS,eq_self,reduceIte,reduceCtorEq,Nat.reduceEqDiff,Nat.reduceAdd]
        refine ⟨m - 1,by omega,i+1,?_⟩
        (repeat' apply And.intro) <;> first | (simp only [Value.int.injEq,true_and];omega) | omega | rfl | assumption | (simp;done) | (simp;omega)
    . simp (maxSteps:=1000000) (disch:=omega) only [SS,eq_self,reduceIte,reduceCtorEq,Nat.reduceEqDiff,Nat.reduceAdd]
      refine hQ _ _ _ ?_
      simp (maxSteps:=1000000) (disch:=omega) only [SS,eq_self,reduceIte,reduceCtorEq,Nat.reduceEqDiff,Nat.reduceAdd]
theorem choosePivot_c (h:Sts H v us ls)(h1:13<=ls.length) :
    ACalls Tryz.prog 232 [v,.int .i64 0,.int .i64 (ls.length:Int),fnCmp] H fun r H'=>(∃ j:Int,r=.tuple (List.toArray [.int .i64 j,.int .i64 1]))/\H<+:H':=by
  refine in232 rfl ?_
  intro Q hQ
  have hb:=h.bnd
  have hl:=h.len
  obtain ⟨q,hqd⟩:∃ q,ls.length / 4=q:=⟨_,rfl⟩
  have hq:IntKind.i64.wrap ((ls.length:Int).tdiv 4)=(q:Int):=by
    rw [Int.tdiv_eq_ediv_of_nonneg (by omega),wrap64 (by omega) (by omega)]
    omega
  have e1:(0:Int)+(q:Int) * 1=(q:Int):=by omega
  have e2:(0:Int)+(q:Int) * 2=((2 * q:Nat):Int):=by omega
  have e3:(0:Int)+(q:Int) * 3=((3 * q:Nat):Int):=by omega
  have e0:(ls.length:Int) - 0=(ls.length:Int):=by omega
  simp (maxSteps:=1000000) (disch:=omega) only [cd232,alloc_int,wrap64,e0,hq,e1,e2,e3,SS,eq_self,reduceIte,reduceCtorEq,Nat.reduceEqDiff,Nat.reduceAdd]
  generalize hA:H ++ [AObj.cells [.int .i64 0] 3 false]=A
  have pA:H<+:A:=by rw [<- hA];exact List.prefix_append _ _
  have cA:A[H.length]?=some (.cells [.int .i64 0] 3 false):=by rw [<- hA];exact at_new ..
  have hA2:=h.pre pA
  refine brD.intro (fun g=>?_) (fun g=>absurd (show (ls.length:Int) ≥ 8 by omega) g)
  simp (maxSteps:=1000000) (disch:=omega) only [SS,eq_self,reduceIte,reduceCtorEq,Nat.reduceEqDiff,Nat.reduceAdd]
  refine brD.intro (fun g2=>?_) (fun g2=>?_)
  . simp (maxSteps:=1000000) (disch:=omega) only [SS,eq_self,reduceIte,reduceCtorEq,Nat.reduceEqDiff,Nat.reduceAdd]
    refine CallH.by (medianAdj_c hA2 q _ (by omega) (by omega)) ?_
    rintro _ _ ⟨rfl,rfl⟩
    simp (maxSteps:=1000000) (disch:=omega) only [SS,eq_self,reduceIte,reduceCtorEq,Nat.reduceEqDiff,Nat.reduceAdd]
    refine CallH.by (medianAdj_c hA2 (2 * q) _ (by omega) (by omega)) ?_
    rintro _ _ ⟨rfl,rfl⟩
    simp (maxSteps:=1000000) (disch:=omega) only [SS,eq_self,reduceIte,reduceCtorEq,Nat.reduceEqDiff,Nat.reduceAdd]
    refine CallH.by (medianAdj_c hA2 (3 * q) _ (by omega) (by omega)) ?_
    rintro _ _ ⟨rfl,rfl⟩
    simp (maxSteps:=1000000) (disch:=omega) only [SS,eq_self,reduceIte,reduceCtorEq,Nat.reduceEqDiff,Nat.reduceAdd]
    refine CallH.by (median_c hA2 q (2 * q) (3 * q) _ (by omega) (by omega) (by omega)) ?_
    rintro _ _ ⟨rfl,rfl⟩
    simp (maxSteps:=1000000) (disch:=omega) only [cell_of cA,SS,eq_self,reduceIte,reduceCtorEq,Nat.reduceEqDiff,Nat.reduceAdd]
    first
      | (refine brD.intro (fun _=>?_) (fun g3=>absurd rfl g3)
         simp (maxSteps:=1000000) (disch:=omega) only [SS,eq_self,reduceIte,reduceCtorEq,Nat.reduceEqDiff,Nat.reduceAdd])
      | skip
    refine hQ _ _ _ ?_
    simp (maxSteps:=1000000) (disch:=omega) only [SS,eq_self,reduceIte,reduceCtorEq,Nat.reduceEqDiff,Nat.reduceAdd]
    exact ⟨⟨_,rfl⟩,pA⟩
  . simp (maxSteps:=1000000) (disch:=omega) only [SS,eq_self,reduceIte,reduceCtorEq,Nat.reduceEqDiff,Nat.reduceAdd]
    refine CallH.by (median_c hA2 q (2 * q) (3 * q) _ (by omega) (by omega) (by omega)) ?_
    rintro _ _ ⟨rfl,rfl⟩
    simp (maxSteps:=1000000) (disch:=omega) only [cell_of cA,SS,eq_self,reduceIte,reduceCtorEq,Nat.reduceEqDiff,Nat.reduceAdd]
    first
      | (refine brD.intro (fun _=>?_) (fun g3=>absurd rfl g3)
         simp (maxSteps:=1000000) (disch:=omega) only [SS,eq_self,reduceIte,reduceCtorEq,Nat.reduceEqDiff,Nat.reduceAdd])
      | skip
    refine hQ _ _ _ ?_
    simp (maxSteps:=1000000) (disch:=omega) only [SS,eq_self,reduceIte,reduceCtorEq,Nat.reduceEqDiff,Nat.reduceAdd]
    exact ⟨⟨_,rfl⟩,pA⟩
theorem pdqCmp_c (h:Sts H v us ls)(lim:Int)(hlim:lim ≠ 0∨ls.length<=12) :
    ACalls Tryz.prog 205 [v,.int .i64 0,.int .i64 (ls.length:Int),.int .i64 lim,fnCmp] H fun r H'=>H<+:H':=by
  refine in205 rfl ?_
  intro Q hQ
  have hb:=h.bnd
  have e0:(ls.length:Int) - 0=(ls.length:Int):=by omega
  simp (maxSteps:=1000000) (disch:=omega) only [cd205,SS,eq_self,reduceIte,reduceCtorEq,Nat.reduceEqDiff,Nat.reduceAdd]
  refine LoopH.by (fun m s H'=>s 0=v/\s 1=.int .i64 0/\s 2=.int .i64 (ls.length:Int)/\s 3=.int .i64 lim/\s 4=fnCmp/\s 10=.bool true/\s 11=.bool true/\H=H') 0 ?_ ?_
  . exact ⟨rfl,rfl,rfl,rfl,rfl,rfl,rfl,rfl⟩
  . rintro m s H' ⟨h0,h1,h2,h3,h4,h10,h11,rfl⟩
    simp (maxSteps:=1000000) (disch:=omega) only [h0,h1,h2,h3,h4,h10,h11,wrap64,e0,SS,eq_self,reduceIte,reduceCtorEq,Nat.reduceEqDiff,Nat.reduceAdd]
    refine brD.intro (fun g=>?_) (fun g=>?_)
    . simp (maxSteps:=1000000) (disch:=omega) only [h0,h1,h2,h3,h4,h10,h11,SS,eq_self,reduceIte,reduceCtorEq,Nat.reduceEqDiff,Nat.reduceAdd]
      refine CallH.by (insCmp_c h) ?_
      rintro _ _ rfl
      simp (maxSteps:=1000000) (disch:=omega) only [SS,eq_self,reduceIte,reduceCtorEq,Nat.reduceEqDiff,Nat.reduceAdd]
      refine hQ _ _ _ ?_
      simp (maxSteps:=1000000) (disch:=omega) only [SS,eq_self,reduceIte,reduceCtorEq,Nat.reduceEqDiff,Nat.reduceAdd]
      exact List.prefix_refl _
    . have hlim':lim ≠ 0:=hlim.resolve_right (by omega)
      simp (maxSteps:=1000000) (disch:=omega) only [h0,h1,h2,h3,h4,h10,h11,SS,eq_self,reduceIte,reduceCtorEq,Nat.reduceEqDiff,Nat.reduceAdd]
      refine brD.intro (fun g2=>absurd g2 hlim') (fun g2=>?_)
      simp (maxSteps:=1000000) (disch:=omega) only [h0,h1,h2,h3,h4,h10,h11,SS,eq_self,reduceIte,reduceCtorEq,Nat.reduceEqDiff,Nat.reduceAdd]
      refine CallH.by (choosePivot_c h (by omega)) ?_
      rintro _ A ⟨⟨j,rfl⟩,pA⟩
      simp (maxSteps:=1000000) (disch:=omega) only [h0,h1,h2,h3,h4,h10,h11,SS,eq_self,reduceIte,reduceCtorEq,Nat.reduceEqDiff,Nat.reduceAdd]
      refine brD.intro (fun g3=>absurd g3 (by decide)) (fun g3=>?_)
      simp (maxSteps:=1000000) (disch:=omega) only [h0,h1,h2,h3,h4,h10,h11,SS,eq_self,reduceIte,reduceCtorEq,Nat.reduceEqDiff,Nat.reduceAdd]
      refine CallH.by (partialIns_c (h.pre pA) (by omega)) ?_
      rintro _ _ ⟨rfl,rfl⟩
      simp (maxSteps:=1000000) (disch:=omega) only [SS,eq_self,reduceIte,reduceCtorEq,Nat.reduceEqDiff,Nat.reduceAdd]
      refine hQ _ _ _ ?_
      simp (maxSteps:=1000000) (disch:=omega) only [SS,eq_self,reduceIte,reduceCtorEq,Nat.reduceEqDiff,Nat.reduceAdd]
      exact pA
end
theorem Crs_comm (x y:Int):Crs x y↔Crs y x:=by
  unfold Crs
  exact ⟨fun h=>h.elim .inr .inl,fun h=>h.elim .inr .inl⟩
def apB (ed:List Int)(d:Int):Bool:=!ed.any fun y=>decide (Crs y d)
theorem apB_comm (ed:List Int)(d:Int):(!ed.any fun y=>decide (Crs d y))=apB ed d:=by
  unfold apB
  congr 2
  funext y
  rw [decide_eq_decide]
  exact Crs_comm d y
def tlp (all:List Int)(h:Nat):Nat->List Int->List (List Int)
  | 0,_=>[]
  | k+1,ed=>(if apB ed (all.getD (all.length - (k+1)) 0)=true then (if (ed ++ [all.getD (all.length - (k+1)) 0]).length=h then [ed ++ [all.getD (all.length - (k+1)) 0]] else tlp all h k (ed ++ [all.getD (all.length - (k+1)) 0])) else []) ++ tlp all h k ed
def tex (all:List Int)(h:Nat)(k:Nat)(ed:List Int):List (List Int):=if ed.length=h then [ed] else tlp all h k ed
theorem tlp_step (all:List Int)(h k:Nat)(ed:List Int):tlp all h (k+1) ed=(if apB ed (all.getD (all.length - (k+1)) 0)=true then tex all h k (ed ++ [all.getD (all.length - (k+1)) 0]) else []) ++ tlp all h k ed:=rfl
theorem tex_len (all:List Int)(h:Nat):∀ (k:Nat) (ed:List Int),(tlp all h k ed).length+1<=2 ^ k
  | 0,ed=>by simp [tlp]
  | k+1,ed=>by
    rw [tlp_step,List.length_append]
    have h1:=tex_len all h k ed
    have hP:2 ^ (k+1)=2 ^ k+2 ^ k:=by rw [Nat.pow_succ];omega
    have h2:(if apB ed (all.getD (all.length - (k+1)) 0)=true then tex all h k (ed ++ [all.getD (all.length - (k+1)) 0]) else []).length<=2 ^ k:=by
      split
      . unfold tex
        split
        . simp;exact Nat.one_le_two_pow
        . have:=tex_len all h k (ed ++ [all.getD (all.length - (k+1)) 0]);omega
      . simp
    omega
def triA (n:Int):List (List Int):=tex (dgs n n.toNat) (n - 3).toNat (dgs n n.toNat).length []
def srtB:List (List Int)->Bool
  | []=>true
  | x :: xs=>(xs.all fun y=>decide (0<cmpL y x)) && srtB xs
theorem srtB_ok:∀ (ls:List (List Int)),srtB ls=true->SrtL ls
  | [],_=>fun i j _ hj=>by simp at hj
  | x :: xs,h=>by
    unfold srtB at h
    rw [Bool.and_eq_true,List.all_eq_true] at h
    intro i j hij hj
    cases j with
    | zero=>omega
    | succ j =>
      have hj':j<xs.length:=by simpa using hj
      cases i with
      | zero =>
        have hm:xs.getD j [] ∈ xs:=by simp [hj']
        have:=of_decide_eq_true (h.1 _ hm)
        simpa using this
      | succ i =>
        have:=srtB_ok xs h.2 i j (by omega) hj'
        simpa using this
def trAok (n:Int):Bool:=srtB (triA n) && decide (1<=(triA n).length/\(triA n).length<=132) && (triA n).all (fun l=>decide (l.length<=5)) && (decide ((dgs n n.toNat).length<=28)) && (dgs n n.toNat).all (fun d=>decide (0<=d/\d<=100)) && decide (∀ j:Fin 28,∀ i:Fin 28,i.1<j.1->j.1<(dgs n n.toNat).length->(dgs n n.toNat).getD i.1 0<(dgs n n.toNat).getD j.1 0)
set_option maxRecDepth 100000 in
theorem tri3:trAok 3=true:=by decide +kernel
set_option maxRecDepth 100000 in
theorem tri4:trAok 4=true:=by decide +kernel
set_option maxRecDepth 100000 in
theorem tri5:trAok 5=true:=by decide +kernel
set_option maxRecDepth 100000 in
theorem tri6:trAok 6=true:=by decide +kernel
set_option maxRecDepth 100000 in
theorem tri7:trAok 7=true:=by decide +kernel
set_option maxRecDepth 100000 in
theorem tri8:trAok 8=true:=by decide +kernel
theorem triA_ok {n:Int}(hn:3<=n/\n<=8):SrtL (triA n)/\(1<=(triA n).length/\(triA n).length<=132)/\(∀ l ∈ triA n,l.length<=5)/\(dgs n n.toNat).length<=28/\(∀ d ∈ dgs n n.toNat,0<=d/\d<=100)/\∀ i j,i<j->j<(dgs n n.toNat).length->(dgs n n.toNat).getD i 0<(dgs n n.toNat).getD j 0:=by
  have h:trAok n=true:=by
    have:n=3∨n=4∨n=5∨n=6∨n=7∨n=8:=by omega
    rcases this with rfl | rfl | rfl | rfl | rfl | rfl
    . exact tri3
    . exact tri4
    . exact tri5
    . exact tri6
    . exact tri7
    . exact tri8
  unfold trAok at h
  rw [Bool.and_eq_true,Bool.and_eq_true,Bool.and_eq_true,Bool.and_eq_true,Bool.and_eq_true,List.all_eq_true,List.all_eq_true] at h
  obtain ⟨⟨⟨⟨⟨h1,h2⟩,h3⟩,h4⟩,h5⟩,h6⟩:=h
  have h4':=of_decide_eq_true h4
  have h6':=of_decide_eq_true h6
  exact ⟨srtB_ok _ h1,of_decide_eq_true h2,fun l hl=>of_decide_eq_true (h3 l hl),h4',fun d hd=>of_decide_eq_true (h5 d hd),fun i j hij hj=>h6' ⟨j,by omega⟩ ⟨i,by omega⟩ hij hj⟩
def cd96:Cd:=(.seq (.reg [⟨⟨some 2,.assign (.const (.int .i64 0)),none⟩,[]⟩]) (.seq (.seq (.reg [⟨⟨some 3,.move (.tmp 0),none⟩,[]⟩,
  ⟨⟨some 4,.call ⟨(.value (.func 144)),#[.tmp 3,(.const (.int .i64 20))],#[86,3]⟩,none⟩,[]⟩]) (.cond (.tmp 4) (.seq (.reg [⟨⟨some 5,.move (.tmp 0),none⟩,[]⟩,
  ⟨⟨some 6,.buildSlice 27 4 #[(0,(.const (.int .i64 2))),(1,(.const (.int .i64 9))),(2,(.const (.int .i64 (-1)))),(3,(.const (.int .i64 8)))],none⟩,[]⟩,
  ⟨⟨some 7,.call ⟨(.value (.func 162)),#[.tmp 5,.tmp 6],#[86,27]⟩,none⟩,[]⟩,
  ⟨⟨some 2,.assign (.tmp 7),none⟩,[]⟩]) .ret) .skip)) (.seq (.reg [⟨⟨some 8,.move (.tmp 0),none⟩,[]⟩,
  ⟨⟨some 9,.buildSlice 27 7 #[(0,(.const (.int .i64 6))),(1,(.const (.int .i64 5))),(2,(.const (.int .i64 7))),(3,(.const (.int .i64 4))),(4,(.const (.int .i64 3))),(5,(.const (.int .i64 6))),(6,(.const (.int .i64 7)))],none⟩,[]⟩,
  ⟨⟨some 10,.call ⟨(.value (.func 162)),#[.tmp 8,.tmp 9],#[86,27]⟩,none⟩,[]⟩,
  ⟨⟨some 2,.assign (.tmp 10),none⟩,[]⟩]) .ret)))
theorem in96:InT Tryz.prog 96 1 [.tmp 2] cd96:=InT.mk (by kernel_rfl) [] Tryz.func96 rfl (by kernel_rfl) (by kernel_rfl) (of_decide_eq_true (by kernel_rfl)) (by kernel_rfl)
def cd97:Cd:=(.seq (.reg [⟨⟨some 4,.assign (.const (.slice none 0 0)),none⟩,[]⟩]) (.seq (.reg [⟨⟨some 10,.buildSlice 27 0 #[],none⟩,[]⟩,⟨⟨some 5,.assign (.tmp 10),none⟩,[]⟩]) (.seq (.seq (.reg [⟨⟨some 11,.move (.tmp 1),none⟩,[]⟩,⟨⟨some 12,.call ⟨(.value (.func 118)),#[.tmp 11],#[3]⟩,none⟩,[]⟩,⟨⟨some 13,.unOp .not 4 (.tmp 12),none⟩,[]⟩]) (.cond (.tmp 13) (.seq (.reg [⟨⟨some 14,.move (.tmp 5),none⟩,[]⟩,⟨⟨some 4,.assign (.tmp 14),none⟩,[]⟩]) .ret) .skip)) (.seq (.reg [⟨⟨some 15,.move (.tmp 1),none⟩,[]⟩,⟨⟨some 16,.call ⟨(.value (.func 120)),#[.tmp 15],#[3]⟩,none⟩,[]⟩,⟨⟨some 6,.assign (.tmp 16),none⟩,[]⟩]) (.seq (.seq (.reg [⟨⟨some 7,.assign (.const (.int .i64 0)),none⟩,[]⟩]) (.block 0 (.loop (.seq (.seq (.reg [⟨⟨some 17,.move (.tmp 7),none⟩,[]⟩,⟨⟨some 18,.binOp .lss 3 (.tmp 17) (.const (.int .i64 60)) 3,none⟩,[]⟩,⟨⟨some 19,.move (.tmp 18),none⟩,[]⟩,⟨⟨some 20,.move (.tmp 5),some (19,true)⟩,[]⟩,⟨⟨some 21,.call ⟨(.builtin .len),#[.tmp 20],#[27]⟩,some (19,true)⟩,[]⟩,⟨⟨some 22,.move (.tmp 1),some (19,true)⟩,[]⟩,
 ⟨⟨some 23,.binOp .sub 3 (.tmp 22) (.const (.int .i64 3)) 3,some (19,true)⟩,[]⟩,⟨⟨some 24,.binOp .lss 3 (.tmp 21) (.tmp 23) 3,some (19,true)⟩,[]⟩,⟨⟨some 25,.pick (.tmp 19) (.tmp 24) (.const (.bool false)),none⟩,[]⟩]) (.cond (.tmp 25) .skip (.exit 0))) (.seq (.block 1 (.seq (.reg [⟨⟨some 28,.move (.tmp 6),none⟩,[]⟩,⟨⟨some 29,.move (.tmp 0),none⟩,[]⟩,⟨⟨some 30,.move (.tmp 6),none⟩,[]⟩,⟨⟨some 31,.call ⟨(.builtin .len),#[.tmp 30],#[27]⟩,none⟩,[]⟩,⟨⟨some 32,.call ⟨(.value (.func 111)),#[.tmp 29,.tmp 31],#[86,3]⟩,none⟩,[]⟩,⟨⟨some 33,.indexAddr 27 (.tmp 28) (.tmp 32),none⟩,[]⟩,⟨⟨some 34,.load 3 (.tmp 33),none⟩,[]⟩,⟨⟨some 8,.assign (.tmp 34),none⟩,[]⟩]) (.seq (.reg [⟨⟨some 35,.move (.tmp 5),none⟩,[]⟩,⟨⟨some 36,.move (.tmp 8),none⟩,[]⟩,⟨⟨some 37,.call ⟨(.value (.func 110)),#[.tmp 35,.tmp 36],#[27,3]⟩,none⟩,[]⟩,
 ⟨⟨some 38,.unOp .not 4 (.tmp 37),none⟩,[]⟩,⟨⟨some 39,.move (.tmp 38),none⟩,[]⟩,⟨⟨some 40,.move (.tmp 5),some (39,true)⟩,[]⟩,⟨⟨some 41,.move (.tmp 8),some (39,true)⟩,[]⟩,⟨⟨some 42,.call ⟨(.value (.func 173)),#[.tmp 40,.tmp 41],#[27,3]⟩,some (39,true)⟩,[]⟩,⟨⟨some 43,.pick (.tmp 39) (.tmp 42) (.const (.bool false)),none⟩,[]⟩]) (.cond (.tmp 43) (.reg [⟨⟨some 44,.move (.tmp 5),none⟩,[]⟩,⟨⟨some 45,.move (.tmp 8),none⟩,[]⟩,⟨⟨some 46,.call ⟨(.value (.func 174)),#[.tmp 44,.tmp 45],#[27,3]⟩,none⟩,[]⟩,⟨⟨some 5,.assign (.tmp 46),none⟩,[]⟩]) .skip)))) (.reg [⟨⟨some 26,.move (.tmp 7),none⟩,[]⟩,⟨⟨some 27,.binOp .add 3 (.tmp 26) (.const (.int .i64 1)) 3,none⟩,[]⟩,⟨⟨some 7,.assign (.tmp 27),none⟩,[]⟩])))))) (.seq (.seq (.reg [⟨⟨some 9,.assign (.const (.int .i64 0)),none⟩,[]⟩]) (.block 2 (.loop (.seq (.seq (.reg [⟨⟨some 47,.move (.tmp 9),none⟩,[]⟩,⟨⟨some 48,.move (.tmp 6),none⟩,[]⟩,
 ⟨⟨some 49,.call ⟨(.builtin .len),#[.tmp 48],#[27]⟩,none⟩,[]⟩,⟨⟨some 50,.binOp .lss 3 (.tmp 47) (.tmp 49) 3,none⟩,[]⟩,⟨⟨some 51,.move (.tmp 50),none⟩,[]⟩,⟨⟨some 52,.move (.tmp 5),some (51,true)⟩,[]⟩,⟨⟨some 53,.call ⟨(.builtin .len),#[.tmp 52],#[27]⟩,some (51,true)⟩,[]⟩,⟨⟨some 54,.move (.tmp 1),some (51,true)⟩,[]⟩,⟨⟨some 55,.binOp .sub 3 (.tmp 54) (.const (.int .i64 3)) 3,some (51,true)⟩,[]⟩,⟨⟨some 56,.binOp .lss 3 (.tmp 53) (.tmp 55) 3,some (51,true)⟩,[]⟩,⟨⟨some 57,.pick (.tmp 51) (.tmp 56) (.const (.bool false)),none⟩,[]⟩]) (.cond (.tmp 57) .skip (.exit 2))) (.seq (.block 3 (.seq (.reg [⟨⟨some 60,.move (.tmp 5),none⟩,[]⟩,⟨⟨some 61,.move (.tmp 6),none⟩,[]⟩,⟨⟨some 62,.move (.tmp 9),none⟩,[]⟩,⟨⟨some 63,.indexAddr 27 (.tmp 61) (.tmp 62),none⟩,[]⟩,
 ⟨⟨some 64,.load 3 (.tmp 63),none⟩,[]⟩,⟨⟨some 65,.call ⟨(.value (.func 110)),#[.tmp 60,.tmp 64],#[27,3]⟩,none⟩,[]⟩,⟨⟨some 66,.unOp .not 4 (.tmp 65),none⟩,[]⟩,⟨⟨some 67,.move (.tmp 66),none⟩,[]⟩,⟨⟨some 68,.move (.tmp 5),some (67,true)⟩,[]⟩,⟨⟨some 69,.move (.tmp 6),some (67,true)⟩,[]⟩,⟨⟨some 70,.move (.tmp 9),some (67,true)⟩,[]⟩,⟨⟨some 71,.indexAddr 27 (.tmp 69) (.tmp 70),some (67,true)⟩,[]⟩,⟨⟨some 72,.load 3 (.tmp 71),some (67,true)⟩,[]⟩,⟨⟨some 73,.call ⟨(.value (.func 173)),#[.tmp 68,.tmp 72],#[27,3]⟩,some (67,true)⟩,[]⟩,⟨⟨some 74,.pick (.tmp 67) (.tmp 73) (.const (.bool false)),none⟩,[]⟩]) (.cond (.tmp 74) (.reg [⟨⟨some 75,.move (.tmp 5),none⟩,[]⟩,⟨⟨some 76,.move (.tmp 6),none⟩,[]⟩,
 ⟨⟨some 77,.move (.tmp 9),none⟩,[]⟩,⟨⟨some 78,.indexAddr 27 (.tmp 76) (.tmp 77),none⟩,[]⟩,⟨⟨some 79,.load 3 (.tmp 78),none⟩,[]⟩,⟨⟨some 80,.call ⟨(.value (.func 174)),#[.tmp 75,.tmp 79],#[27,3]⟩,none⟩,[]⟩,⟨⟨some 5,.assign (.tmp 80),none⟩,[]⟩]) .skip))) (.reg [⟨⟨some 58,.move (.tmp 9),none⟩,[]⟩,⟨⟨some 59,.binOp .add 3 (.tmp 58) (.const (.int .i64 1)) 3,none⟩,[]⟩,⟨⟨some 9,.assign (.tmp 59),none⟩,[]⟩])))))) (.seq (.seq (.reg [⟨⟨some 81,.move (.tmp 5),none⟩,[]⟩,⟨⟨some 82,.call ⟨(.builtin .len),#[.tmp 81],#[27]⟩,none⟩,[]⟩,⟨⟨some 83,.binOp .gtr 3 (.tmp 82) (.const (.int .i64 0)) 3,none⟩,[]⟩,⟨⟨some 84,.move (.tmp 83),none⟩,[]⟩,⟨⟨some 85,.move (.tmp 0),some (84,true)⟩,[]⟩,⟨⟨some 86,.call ⟨(.value (.func 144)),#[.tmp 85,(.const (.int .i64 16))],#[86,3]⟩,some (84,true)⟩,[]⟩,
 ⟨⟨some 87,.pick (.tmp 84) (.tmp 86) (.const (.bool false)),none⟩,[]⟩]) (.cond (.tmp 87) (.reg [⟨⟨some 88,.move (.tmp 5),none⟩,[]⟩,
  ⟨⟨some 89,.move (.tmp 0),none⟩,[]⟩,
  ⟨⟨some 90,.move (.tmp 5),none⟩,[]⟩,
  ⟨⟨some 91,.call ⟨(.builtin .len),#[.tmp 90],#[27]⟩,none⟩,[]⟩,
  ⟨⟨some 92,.call ⟨(.value (.func 111)),#[.tmp 89,.tmp 91],#[86,3]⟩,none⟩,[]⟩,
  ⟨⟨some 93,.move (.tmp 0),none⟩,[]⟩,
  ⟨⟨some 94,.buildSlice 27 5 #[(0,(.const (.int .i64 13))),(1,(.const (.int .i64 24))),(2,(.const (.int .i64 9))),(3,(.const (.int .i64 (-1)))),(4,(.const (.int .i64 4611686018427387904)))],none⟩,[]⟩,
  ⟨⟨some 95,.call ⟨(.value (.func 162)),#[.tmp 93,.tmp 94],#[86,27]⟩,none⟩,[]⟩,
  ⟨⟨some 96,.indexAddr 27 (.tmp 88) (.tmp 92),none⟩,[]⟩,
  ⟨⟨none,.store 3 (.tmp 96) (.tmp 95),none⟩,[]⟩]) .skip)) (.seq (.reg [⟨⟨some 97,.move (.tmp 5),none⟩,[]⟩,
  ⟨⟨some 4,.assign (.tmp 97),none⟩,[]⟩]) .ret))))))))
theorem in97:InT Tryz.prog 97 2 [.tmp 4] cd97:=InT.mk (by kernel_rfl) [] Tryz.func97 rfl (by kernel_rfl) (by kernel_rfl) (of_decide_eq_true (by kernel_rfl)) (by kernel_rfl)
def cd25:Cd:=(.seq (.reg [⟨⟨some 2,.assign (.const (.bool false)),none⟩,[]⟩]) (.seq (.reg [⟨⟨some 3,.move (.tmp 0),none⟩,[]⟩,
  ⟨⟨some 4,.call ⟨(.builtin .len),#[.tmp 3],#[22]⟩,none⟩,[]⟩,
  ⟨⟨some 5,.binOp .gtr 3 (.tmp 4) (.const (.int .i64 65536)) 3,none⟩,[]⟩,
  ⟨⟨some 2,.assign (.tmp 5),none⟩,[]⟩]) .ret))
theorem in25:InT Tryz.prog 25 1 [.tmp 2] cd25:=InT.mk (by kernel_rfl) [] Tryz.func25 rfl (by kernel_rfl) (by kernel_rfl) (of_decide_eq_true (by kernel_rfl)) (by kernel_rfl)
end Go.Proofs.YtjnefjchconebaaGreat.Ai
namespace Go.Proofs.YtjnefjchconebaaGreat.Ai
open Go Go.RowKit
theorem corners_c {H:AH}{o:Nat}{v:Value}{us:List Value}{N:Nat}(h:Cur H o v us N)(hN:N<=100000000) :
    ACalls Tryz.prog 96 [.pointer (some ⟨o,0,none⟩)] H fun r H'=>(∃ x:Int,r=.int .i64 x /\ -1<=x/\x<=9)/\Cur H' o v us (N+2)/\Keeps o H H':=by
  have hoH:o<H.length:=by
    obtain ⟨_,_,g,_⟩:=h.cur
    exact at_lt g
  refine in96 rfl ?_
  intro Q hQ
  simp (maxSteps:=1000000) (disch:=omega) only [cd96,SS,eq_self,reduceIte,reduceCtorEq,Nat.reduceEqDiff,Nat.reduceAdd]
  refine CallH.by (one_c h (by omega) 20 (by omega)) ?_
  rintro _ K ⟨⟨b,rfl⟩,hCK,oK⟩
  have hKl:=oK.1
  simp (maxSteps:=1000000) (disch:=omega) only [SS,eq_self,reduceIte,reduceCtorEq,Nat.reduceEqDiff,Nat.reduceAdd]
  cases b with
  | true =>
    refine brH.intro (fun _=>?_) (fun q=>by cases q)
    simp (maxSteps:=1000000) (disch:=omega) only [SS,eq_self,reduceIte,reduceCtorEq,Nat.reduceEqDiff,Nat.reduceAdd]
    have blK1:∀ H0:AH,buildSliceA Tryz.prog 27 4 [(0,.int .i64 2),(1,.int .i64 9),(2,.int .i64 (-1)),(3,.int .i64 8)] H0=some (.slice (some ⟨H0.length,0,none⟩) 4 4,H0 ++ [.cells [.int .i64 2,.int .i64 9,.int .i64 (-1),.int .i64 8] 3 false]):=fun H0=>by kernel_rfl
    simp (maxSteps:=1000000) (disch:=omega) only [blK1,SS,eq_self,reduceIte,reduceCtorEq,Nat.reduceEqDiff,Nat.reduceAdd]
    generalize hK1:K ++ [AObj.cells [.int .i64 2,.int .i64 9,.int .i64 (-1),.int .i64 8] 3 false]=K1
    have pK1:K<+:K1:=by rw [<- hK1];exact List.prefix_append _ _
    have aK1:K1[K.length]?=some (.cells [.int .i64 2,.int .i64 9,.int .i64 (-1),.int .i64 8] 3 false):=by rw [<- hK1];exact at_new ..
    have wK1:Row 3 K1 (.slice (some ⟨K.length,0,none⟩) 4 4) [2,9,-1,8]:=.inr ⟨K.length,0,_,false,rfl,aK1,by simp,rfl⟩
    refine CallH.by (among_c (hCK.pre pK1) (by omega) wK1 (by show K.length ≠ o;omega) (by simp)) ?_
    rintro _ L ⟨⟨x,rfl,hx⟩,hCL,oL⟩
    simp (maxSteps:=1000000) (disch:=omega) only [SS,eq_self,reduceIte,reduceCtorEq,Nat.reduceEqDiff,Nat.reduceAdd]
    refine hQ _ _ _ ?_
    simp (maxSteps:=1000000) (disch:=omega) only [SS,eq_self,reduceIte,reduceCtorEq,Nat.reduceEqDiff,Nat.reduceAdd]
    refine ⟨⟨x,rfl,?_⟩,hCL,(oK.keeps.trans (.of_pre pK1)).trans oL.keeps⟩
    simp at hx;omega
  | false =>
    refine brH.intro (fun q=>by cases q) (fun _=>?_)
    simp (maxSteps:=1000000) (disch:=omega) only [SS,eq_self,reduceIte,reduceCtorEq,Nat.reduceEqDiff,Nat.reduceAdd]
    have blK1:∀ H0:AH,buildSliceA Tryz.prog 27 7 [(0,.int .i64 6),(1,.int .i64 5),(2,.int .i64 7),(3,.int .i64 4),(4,.int .i64 3),(5,.int .i64 6),(6,.int .i64 7)] H0=some (.slice (some ⟨H0.length,0,none⟩) 7 7,H0 ++ [.cells [.int .i64 6,.int .i64 5,.int .i64 7,.int .i64 4,.int .i64 3,.int .i64 6,.int .i64 7] 3 false]):=fun H0=>by kernel_rfl
    simp (maxSteps:=1000000) (disch:=omega) only [blK1,SS,eq_self,reduceIte,reduceCtorEq,Nat.reduceEqDiff,Nat.reduceAdd]
    generalize hK1:K ++ [AObj.cells [.int .i64 6,.int .i64 5,.int .i64 7,.int .i64 4,.int .i64 3,.int .i64 6,.int .i64 7] 3 false]=K1
    have pK1:K<+:K1:=by rw [<- hK1];exact List.prefix_append _ _
    have aK1:K1[K.length]?=some (.cells [.int .i64 6,.int .i64 5,.int .i64 7,.int .i64 4,.int .i64 3,.int .i64 6,.int .i64 7] 3 false):=by rw [<- hK1];exact at_new ..
    have wK1:Row 3 K1 (.slice (some ⟨K.length,0,none⟩) 7 7) [6,5,7,4,3,6,7]:=.inr ⟨K.length,0,_,false,rfl,aK1,by simp,rfl⟩
    refine CallH.by (among_c (hCK.pre pK1) (by omega) wK1 (by show K.length ≠ o;omega) (by simp)) ?_
    rintro _ L ⟨⟨x,rfl,hx⟩,hCL,oL⟩
    simp (maxSteps:=1000000) (disch:=omega) only [SS,eq_self,reduceIte,reduceCtorEq,Nat.reduceEqDiff,Nat.reduceAdd]
    refine hQ _ _ _ ?_
    simp (maxSteps:=1000000) (disch:=omega) only [SS,eq_self,reduceIte,reduceCtorEq,Nat.reduceEqDiff,Nat.reduceAdd]
    refine ⟨⟨x,rfl,?_⟩,hCL,(oK.keeps.trans (.of_pre pK1)).trans oL.keeps⟩
    simp at hx;omega
theorem put_in {l:List Int}{x y:Int}(h:y ∈ put l x):y ∈ l∨y=x:=by
  induction l with
  | nil=>simp [put] at h;exact .inr h
  | cons z l ih =>
    simp only [put] at h
    split at h
    . rcases List.mem_cons.1 h with q | q
      . exact .inl (by simp [q])
      . rcases ih q with q | q
        . exact .inl (by simp [q])
        . exact .inr q
    . split at h
      . exact .inl h
      . rcases List.mem_cons.1 h with q | q
        . exact .inr q
        . exact .inl q
theorem dgs_pos:∀ n:Fin 9,4<=n.val->0<(dgs (n.val:Int) n.val).length:=by decide
theorem triangles_c {H:AH}{o:Nat}{v:Value}{us:List Value}{N:Nat}(h:Cur H o v us N)(hN:N<=100000000)(n:Int)(hn : -1<=n/\n<=9) :
    ACalls Tryz.prog 97 [.pointer (some ⟨o,0,none⟩),.int .i64 n] H fun r H'=>∃ xs:List Int,Own 3 H H' r xs/\xs.length<=5/\(∀ y ∈ xs,I64 y)/\Cur H' o v us (N+70)/\Keeps o H H':=by
  have hoH:o<H.length:=by
    obtain ⟨_,_,g,_⟩:=h.cur
    exact at_lt g
  refine in97 rfl ?_
  intro Q hQ
  simp (maxSteps:=1000000) (disch:=omega) only [cd97,SS,eq_self,reduceIte,reduceCtorEq,Nat.reduceEqDiff,Nat.reduceAdd]
  generalize hA:H ++ [AObj.cells [] 3 false]=A
  have pA:H<+:A:=by rw [<- hA];exact List.prefix_append _ _
  have cA:A[H.length]?=some (.cells (ints []) 3 false):=by rw [<- hA];exact at_new ..
  have lA:A.length=H.length+1:=by rw [<- hA];simp
  have own0:Own 3 H A (.slice (some ⟨H.length,0,none⟩) 0 0) []:=.inr ⟨H.length,rfl,Nat.le_refl _,cA⟩
  have hoA:o<A.length:=by omega
  refine CallH.by (l8Corners_c n A) ?_
  rintro _ _ ⟨rfl,rfl⟩
  simp (maxSteps:=1000000) (disch:=omega) only [SS,eq_self,reduceIte,reduceCtorEq,Nat.reduceEqDiff,Nat.reduceAdd]
  refine brD.intro (fun hc=>?_) (fun hc=>?_)
  rotate_left
  . simp (maxSteps:=1000000) (disch:=omega) only [SS,eq_self,reduceIte,reduceCtorEq,Nat.reduceEqDiff,Nat.reduceAdd]
    refine hQ _ _ _ ?_
    simp (maxSteps:=1000000) (disch:=omega) only [own0.row.tup,SS,eq_self,reduceIte,reduceCtorEq,Nat.reduceEqDiff,Nat.reduceAdd]
    exact ⟨[],own0,by simp,by simp,(h.pre pA).more (by omega),.of_pre pA⟩
  obtain ⟨M,rfl⟩:∃ M:Nat,n=M:=⟨n.toNat,by omega⟩
  generalize hnM:(M:Int)=n at *
  have hMn:n.toNat=M:=by omega
  have ok:=triA_ok hc
  have hdr:=ok.2.2.2.2.1
  have hdl:=ok.2.2.2.1
  have hdp:4<=n->0<(dgs n n.toNat).length:=fun q=>by
    have:=dgs_pos ⟨M,by omega⟩ (by show 4<=M;omega)
    rw [hMn,<- hnM];exact this
  simp (maxSteps:=1000000) (disch:=omega) only [SS,eq_self,reduceIte,reduceCtorEq,Nat.reduceEqDiff,Nat.reduceAdd]
  refine CallH.by (l8Diagonals_c n A (by omega)) ?_
  rintro vA B ⟨hD0,pB⟩
  have own1:Own 3 H B (.slice (some ⟨H.length,0,none⟩) 0 0) []:=.inr ⟨H.length,rfl,Nat.le_refl _,pre_at pB cA⟩
  have hC0:=(h.pre (pA.trans pB)).more (show N<=N+0 by omega)
  have hK0:Keeps o H B:=.of_pre (pA.trans pB)
  simp (maxSteps:=1000000) (disch:=omega) only [SS,eq_self,reduceIte,reduceCtorEq,Nat.reduceEqDiff,Nat.reduceAdd]
  refine LoopH.by (fun m s H'=>∃ (i:Nat) (xs:List Int),m+i=60/\s 0=.pointer (some ⟨o,0,none⟩)/\s 1=.int .i64 n/\s 6=vA/\s 7=.int .i64 ((i:Nat):Int)/\(xs.length:Int)<=n - 3/\(∀ y ∈ xs,0<=y/\y<=100)/\Own 3 H H' (s 5) xs/\Own 3 A H' vA (dgs n n.toNat)/\Cur H' o v us (N+i)/\Keeps o H H') 60 ?_ ?_
  . refine ⟨0,[],?_⟩
    simp (maxSteps:=1000000) (disch:=omega) only [SS,eq_self,reduceIte,reduceCtorEq,Nat.reduceEqDiff,Nat.reduceAdd]
    (repeat' first | exact own1 | exact hD0 | exact hC0 | exact hK0 | apply And.intro) <;> first | (simp only [Value.int.injEq,true_and];omega) | omega | rfl | assumption | (simp;done) | (simp;omega)
  rintro m s H' ⟨i,xs,hm,h0,h1,h6,h7,hxl,hxr,hO,hD,hC,hK⟩
  generalize hU:s 5=U at *
  have hCz:Cur H' o v us (N+60):=hC.more (by omega)
  by_cases g:(i:Int)<60
  . by_cases g2:(xs.length:Int)<n - 3
    . have hdp:=hdp (by omega)
      simp (maxSteps:=1000000) (disch:=omega) only [h0,h1,h6,h7,hU,decide_eq_true g,hO.row.len Tryz.underlying27,hD.row.len Tryz.underlying27,wrap64,decide_eq_true g2,SS,eq_self,reduceIte,reduceCtorEq,Nat.reduceEqDiff,Nat.reduceAdd]
      refine CallH.by (pick_c hC (by omega) _ (by omega)) ?_
      rintro _ K ⟨⟨k,rfl,hk⟩,hCK,oK⟩
      have hk2:k<(dgs n n.toNat).length:=by omega
      have hOK:=hO.keeps oK.keeps hoH
      have hDK:=hD.keeps oK.keeps hoA
      have hKK:=hK.trans oK.keeps
      have hCK1:Cur K o v us (N+(i+1)):=hCK.more (by omega)
      have cK:=hDK.row.cell hk2
      have hxd:0<=(dgs n n.toNat).getD k 0/\(dgs n n.toNat).getD k 0<=100:=hdr _ (by simp [hk2])
      simp (maxSteps:=1000000) (disch:=omega) only [h0,h6,hU,hDK.row.ix Tryz.underlying27 cs3,Int.toNat_natCast,cK,SS,eq_self,reduceIte,reduceCtorEq,Nat.reduceEqDiff,Nat.reduceAdd]
      refine CallH.by (l1Has_c U xs _ K hOK.row (by omega)) ?_
      rintro _ _ ⟨rfl,rfl⟩
      by_cases g3:(dgs n n.toNat).getD k 0 ∈ xs
      . simp (maxSteps:=1000000) (disch:=omega) only [decide_eq_true g3,h7,wrap64,SS,eq_self,reduceIte,reduceCtorEq,Nat.reduceEqDiff,Nat.reduceAdd]
        refine ⟨m - 1,by omega,i+1,xs,?_⟩
        simp (maxSteps:=1000000) (disch:=omega) only [h0,h1,h6,hU,SS,eq_self,reduceIte,reduceCtorEq,Nat.reduceEqDiff,Nat.reduceAdd]
        (repeat' first | exact hxl | exact hxr | exact hOK | exact hDK | exact hCK1 | exact hKK | apply And.intro) <;> first | (simp only [Value.int.injEq,true_and];omega) | omega | rfl | assumption | (simp;done) | (simp;omega)
      . simp (maxSteps:=1000000) (disch:=omega) only [decide_eq_false g3,hU,SS,eq_self,reduceIte,reduceCtorEq,Nat.reduceEqDiff,Nat.reduceAdd]
        refine CallH.by (l8Apart_c U xs _ K hOK.row (by omega) (fun y hy=>by have:=hxr y hy;exact ⟨by omega,by omega⟩) ⟨by omega,by omega⟩) ?_
        rintro _ _ ⟨rfl,rfl⟩
        simp (maxSteps:=1000000) (disch:=omega) only [SS,eq_self,reduceIte,reduceCtorEq,Nat.reduceEqDiff,Nat.reduceAdd]
        refine brH.intro (fun _=>?_) (fun _=>?_)
        . simp (maxSteps:=1000000) (disch:=omega) only [h7,wrap64,SS,eq_self,reduceIte,reduceCtorEq,Nat.reduceEqDiff,Nat.reduceAdd]
          refine ⟨m - 1,by omega,i+1,xs,?_⟩
          simp (maxSteps:=1000000) (disch:=omega) only [h0,h1,h6,hU,SS,eq_self,reduceIte,reduceCtorEq,Nat.reduceEqDiff,Nat.reduceAdd]
          (repeat' first | exact hxl | exact hxr | exact hOK | exact hDK | exact hCK1 | exact hKK | apply And.intro) <;> first | (simp only [Value.int.injEq,true_and];omega) | omega | rfl | assumption | (simp;done) | (simp;omega)
        . simp (maxSteps:=1000000) (disch:=omega) only [hU,SS,eq_self,reduceIte,reduceCtorEq,Nat.reduceEqDiff,Nat.reduceAdd]
          refine CallH.by (l1Put_c U xs _ K hOK.row (by omega) g3) ?_
          rintro W K2 ⟨hW,pW⟩
          have f1:Own 3 H K2 W (put xs ((dgs n n.toNat).getD k 0)):=ownB hW hKK.1
          have f2:((put xs ((dgs n n.toNat).getD k 0)).length:Int)<=n - 3:=by have:=put_len xs ((dgs n n.toNat).getD k 0);omega
          have f3:∀ y ∈ put xs ((dgs n n.toNat).getD k 0),0<=y/\y<=100:=fun y hy=>by
            rcases put_in hy with q | q
            . exact hxr y q
            . omega
          have f4:=hDK.keeps (.of_pre pW) hoA
          have f5:=hCK1.pre pW
          have f6:=hKK.trans (.of_pre pW)
          simp (maxSteps:=1000000) (disch:=omega) only [h7,wrap64,SS,eq_self,reduceIte,reduceCtorEq,Nat.reduceEqDiff,Nat.reduceAdd]
          refine ⟨m - 1,by omega,i+1,put xs ((dgs n n.toNat).getD k 0),?_⟩
          simp (maxSteps:=1000000) (disch:=omega) only [h0,h1,h6,SS,eq_self,reduceIte,reduceCtorEq,Nat.reduceEqDiff,Nat.reduceAdd]
          (repeat' first | exact f1 | exact f2 | exact f3 | exact f4 | exact f5 | exact f6 | apply And.intro) <;> first | (simp only [Value.int.injEq,true_and];omega) | omega | rfl | assumption | (simp;done) | (simp;omega)
    . simp (maxSteps:=1000000) (disch:=omega) only [h0,h1,h6,h7,hU,decide_eq_true g,hO.row.len Tryz.underlying27,wrap64,decide_eq_false g2,SS,eq_self,reduceIte,reduceCtorEq,Nat.reduceEqDiff,Nat.reduceAdd]
      refine LoopH.by (fun m s H'=>∃ (j:Nat) (xs:List Int),m+j=(dgs n n.toNat).length/\s 0=.pointer (some ⟨o,0,none⟩)/\s 1=.int .i64 n/\s 6=vA/\s 9=.int .i64 ((j:Nat):Int)/\(xs.length:Int)<=n - 3/\(∀ y ∈ xs,0<=y/\y<=100)/\Own 3 H H' (s 5) xs/\Own 3 A H' vA (dgs n n.toNat)/\Cur H' o v us (N+60)/\Keeps o H H') (dgs n n.toNat).length ?_ ?_
      . refine ⟨0,xs,?_⟩
        simp (maxSteps:=1000000) (disch:=omega) only [h0,h1,h6,hU,SS,eq_self,reduceIte,reduceCtorEq,Nat.reduceEqDiff,Nat.reduceAdd]
        (repeat' first | exact hxl | exact hxr | exact hO | exact hD | exact hCz | exact hK | apply And.intro) <;> first | (simp only [Value.int.injEq,true_and];omega) | omega | rfl | assumption | (simp;done) | (simp;omega)
      clear hU hO hxl hxr hD hC hK h0 h1 h6 h7 hm hCz g
      clear g2
      clear xs m i s H' U
      rintro m s H' ⟨j,xs,hm,h0,h1,h6,h9,hxl,hxr,hO,hD,hC,hK⟩
      generalize hU:s 5=U at *
      by_cases g:(j:Int)<((dgs n n.toNat).length:Int)
      . by_cases g2:(xs.length:Int)<n - 3
        . have hj:j<(dgs n n.toNat).length:=by omega
          have cK:=hD.row.cell hj
          have hxd:0<=(dgs n n.toNat).getD j 0/\(dgs n n.toNat).getD j 0<=100:=hdr _ (by simp [hj])
          simp (maxSteps:=1000000) (disch:=omega) only [h0,h1,h6,h9,hU,hD.row.len Tryz.underlying27,decide_eq_true g,hO.row.len Tryz.underlying27,wrap64,decide_eq_true g2,hD.row.ix Tryz.underlying27 cs3,Int.toNat_natCast,cK,SS,eq_self,reduceIte,reduceCtorEq,Nat.reduceEqDiff,Nat.reduceAdd]
          refine CallH.by (l1Has_c U xs _ H' hO.row (by omega)) ?_
          rintro _ _ ⟨rfl,rfl⟩
          by_cases g3:(dgs n n.toNat).getD j 0 ∈ xs
          . simp (maxSteps:=1000000) (disch:=omega) only [decide_eq_true g3,h9,wrap64,SS,eq_self,reduceIte,reduceCtorEq,Nat.reduceEqDiff,Nat.reduceAdd]
            refine ⟨m - 1,by omega,j+1,xs,?_⟩
            simp (maxSteps:=1000000) (disch:=omega) only [h0,h1,h6,hU,SS,eq_self,reduceIte,reduceCtorEq,Nat.reduceEqDiff,Nat.reduceAdd]
            (repeat' first | exact hxl | exact hxr | exact hO | exact hD | exact hC | exact hK | apply And.intro) <;> first | (simp only [Value.int.injEq,true_and];omega) | omega | rfl | assumption | (simp;done) | (simp;omega)
          . simp (maxSteps:=1000000) (disch:=omega) only [decide_eq_false g3,h6,h9,hU,hD.row.ix Tryz.underlying27 cs3,Int.toNat_natCast,cK,SS,eq_self,reduceIte,reduceCtorEq,Nat.reduceEqDiff,Nat.reduceAdd]
            refine CallH.by (l8Apart_c U xs _ H' hO.row (by omega) (fun y hy=>by have:=hxr y hy;exact ⟨by omega,by omega⟩) ⟨by omega,by omega⟩) ?_
            rintro _ _ ⟨rfl,rfl⟩
            simp (maxSteps:=1000000) (disch:=omega) only [SS,eq_self,reduceIte,reduceCtorEq,Nat.reduceEqDiff,Nat.reduceAdd]
            refine brH.intro (fun _=>?_) (fun _=>?_)
            . simp (maxSteps:=1000000) (disch:=omega) only [h9,wrap64,SS,eq_self,reduceIte,reduceCtorEq,Nat.reduceEqDiff,Nat.reduceAdd]
              refine ⟨m - 1,by omega,j+1,xs,?_⟩
              simp (maxSteps:=1000000) (disch:=omega) only [h0,h1,h6,hU,SS,eq_self,reduceIte,reduceCtorEq,Nat.reduceEqDiff,Nat.reduceAdd]
              (repeat' first | exact hxl | exact hxr | exact hO | exact hD | exact hC | exact hK | apply And.intro) <;> first | (simp only [Value.int.injEq,true_and];omega) | omega | rfl | assumption | (simp;done) | (simp;omega)
            . simp (maxSteps:=1000000) (disch:=omega) only [h6,h9,hU,hD.row.ix Tryz.underlying27 cs3,Int.toNat_natCast,cK,SS,eq_self,reduceIte,reduceCtorEq,Nat.reduceEqDiff,Nat.reduceAdd]
              refine CallH.by (l1Put_c U xs _ H' hO.row (by omega) g3) ?_
              rintro W K ⟨hW,pW⟩
              have f1:Own 3 H K W (put xs ((dgs n n.toNat).getD j 0)):=ownB hW hK.1
              have f2:((put xs ((dgs n n.toNat).getD j 0)).length:Int)<=n - 3:=by have:=put_len xs ((dgs n n.toNat).getD j 0);omega
              have f3:∀ y ∈ put xs ((dgs n n.toNat).getD j 0),0<=y/\y<=100:=fun y hy=>by
                rcases put_in hy with q | q
                . exact hxr y q
                . omega
              have f4:=hD.keeps (.of_pre pW) hoA
              have f5:=hC.pre pW
              have f6:=hK.trans (.of_pre pW)
              simp (maxSteps:=1000000) (disch:=omega) only [h9,wrap64,SS,eq_self,reduceIte,reduceCtorEq,Nat.reduceEqDiff,Nat.reduceAdd]
              refine ⟨m - 1,by omega,j+1,put xs ((dgs n n.toNat).getD j 0),?_⟩
              simp (maxSteps:=1000000) (disch:=omega) only [h0,h1,h6,SS,eq_self,reduceIte,reduceCtorEq,Nat.reduceEqDiff,Nat.reduceAdd]
              (repeat' first | exact f1 | exact f2 | exact f3 | exact f4 | exact f5 | exact f6 | apply And.intro) <;> first | (simp only [Value.int.injEq,true_and];omega) | omega | rfl | assumption | (simp;done) | (simp;omega)
        . simp (maxSteps:=1000000) (disch:=omega) only [h0,h1,h6,h9,hU,hD.row.len Tryz.underlying27,decide_eq_true g,hO.row.len Tryz.underlying27,wrap64,decide_eq_false g2,SS,eq_self,reduceIte,reduceCtorEq,Nat.reduceEqDiff,Nat.reduceAdd]
          by_cases g5:(0:Int)<(xs.length:Int)
          . simp (maxSteps:=1000000) (disch:=omega) only [decide_eq_true g5,h0,hU,hO.row.len Tryz.underlying27,SS,eq_self,reduceIte,reduceCtorEq,Nat.reduceEqDiff,Nat.reduceAdd]
            refine CallH.by (one_c hC (by omega) 16 (by omega)) ?_
            rintro _ K ⟨⟨b,rfl⟩,hCK,oK⟩
            have hOK:=hO.keeps oK.keeps hoH
            simp (maxSteps:=1000000) (disch:=omega) only [SS,eq_self,reduceIte,reduceCtorEq,Nat.reduceEqDiff,Nat.reduceAdd]
            cases b with
            | false =>
              refine brH.intro (fun q=>by cases q) (fun _=>?_)
              simp (maxSteps:=1000000) (disch:=omega) only [hU,SS,eq_self,reduceIte,reduceCtorEq,Nat.reduceEqDiff,Nat.reduceAdd]
              refine hQ _ _ _ ?_
              simp (maxSteps:=1000000) (disch:=omega) only [hOK.row.tup,SS,eq_self,reduceIte,reduceCtorEq,Nat.reduceEqDiff,Nat.reduceAdd]
              exact ⟨xs,hOK,by omega,fun y hy=>by have:=hxr y hy;exact ⟨by omega,by omega⟩,hCK.more (by omega),hK.trans oK.keeps⟩
            | true =>
              refine brH.intro (fun _=>?_) (fun q=>by cases q)
              simp (maxSteps:=1000000) (disch:=omega) only [h0,hU,hOK.row.len Tryz.underlying27,SS,eq_self,reduceIte,reduceCtorEq,Nat.reduceEqDiff,Nat.reduceAdd]
              refine CallH.by (pick_c hCK (by omega) _ (by omega)) ?_
              rintro _ K0 ⟨⟨k,rfl,hk⟩,hCK0,oK0⟩
              have hkl:k<xs.length:=by omega
              have hOK0:=hOK.keeps oK0.keeps hoH
              have lK0:K0.length=H'.length:=by rw [oK0.1,oK.1]
              simp (maxSteps:=1000000) (disch:=omega) only [h0,SS,eq_self,reduceIte,reduceCtorEq,Nat.reduceEqDiff,Nat.reduceAdd]
              have blK1:∀ H0:AH,buildSliceA Tryz.prog 27 5 [(0,.int .i64 13),(1,.int .i64 24),(2,.int .i64 9),(3,.int .i64 (-1)),(4,.int .i64 4611686018427387904)] H0=some (.slice (some ⟨H0.length,0,none⟩) 5 5,H0 ++ [.cells [.int .i64 13,.int .i64 24,.int .i64 9,.int .i64 (-1),.int .i64 4611686018427387904] 3 false]):=fun H0=>by kernel_rfl
              simp (maxSteps:=1000000) (disch:=omega) only [blK1,SS,eq_self,reduceIte,reduceCtorEq,Nat.reduceEqDiff,Nat.reduceAdd]
              generalize hK1:K0 ++ [AObj.cells [.int .i64 13,.int .i64 24,.int .i64 9,.int .i64 (-1),.int .i64 4611686018427387904] 3 false]=K1
              have pK1:K0<+:K1:=by rw [<- hK1];exact List.prefix_append _ _
              have aK1:K1[K0.length]?=some (.cells [.int .i64 13,.int .i64 24,.int .i64 9,.int .i64 (-1),.int .i64 4611686018427387904] 3 false):=by rw [<- hK1];exact at_new ..
              have wK1:Row 3 K1 (.slice (some ⟨K0.length,0,none⟩) 5 5) [13,24,9,-1,4611686018427387904]:=.inr ⟨K0.length,0,_,false,rfl,aK1,by simp,rfl⟩
              refine CallH.by (among_c (hCK0.pre pK1) (by omega) wK1 (by show K0.length ≠ o;have:=hK.1;omega) (by simp)) ?_
              rintro _ L ⟨⟨x,rfl,hx⟩,hCL,oL⟩
              have hOL:Own 3 H L U xs:=by
                have q:Own 3 H K1 U xs:=by
                  rcases hOK0 with q | ⟨oo,q1,q2,q3⟩
                  . exact .inl q
                  . exact .inr ⟨oo,q1,q2,pre_at pK1 q3⟩
                exact q.keeps oL.keeps hoH
              have kA:Keeps o H L:=((hK.trans oK.keeps).trans oK0.keeps).trans ((Keeps.of_pre pK1).trans oL.keeps)
              rcases hOL with ⟨q1,q2⟩ | ⟨oo,q1,q2,q3⟩
              . subst q2;simp at g5
              subst q1
              have ix:=hOK0.row.ix Tryz.underlying27 cs3 .i64 (i:=(k:Int)) (by omega) (by omega)
              have st:=st_ints (P:=Tryz.prog) (t:=3) (x:=x) cs3 q3 hkl
              simp (maxSteps:=1000000) (disch:=omega) only [hU,ix,rowO,rowK,Int.toNat_natCast,Nat.zero_add,st,SS,eq_self,reduceIte,reduceCtorEq,Nat.reduceEqDiff,Nat.reduceAdd]
              refine hQ _ _ _ ?_
              simp (maxSteps:=1000000) (disch:=omega) only [SS,eq_self,reduceIte,reduceCtorEq,Nat.reduceEqDiff,Nat.reduceAdd]
              have hoo:oo ≠ o:=by omega
              have kB:Keeps oo L (L.set oo (.cells (ints (xs.set k x)) 3 false)):=⟨by simp,fun j y hj hy=>by rw [List.getElem?_set_ne (fun e=>hj e.symm)];exact hy⟩
              obtain ⟨ca,cs,c1,c2,c3⟩:=hCL.cur
              refine ⟨xs.set k x,.inr ⟨oo,by simp,q2,by rw [List.getElem?_set_self (at_lt q3)]⟩,by simp;omega,fun y hy=>?_,⟨⟨ca,cs,kB.2 _ _ (fun e=>hoo e.symm) c1,by omega,c3⟩,?_,hCL.byt,hCL.ap,hCL.le⟩,⟨by have:=kA.1;simpa using this,fun j y hj hy=>?_⟩⟩
              . rcases List.mem_or_eq_of_mem_set hy with q | q
                . have:=hxr y q;exact ⟨by omega,by omega⟩
                . subst q;simp at hx;exact ⟨by omega,by omega⟩
              . have hvl:v=.slice none 0 0∨rowO v<H.length:=by
                  rcases h.row with q | ⟨o',k',vs',ro',e1,g2',_⟩
                  . exact .inl q.1
                  . right;rw [e1];exact at_lt g2'
                rcases hCL.row with q | q
                . exact .inl q
                . refine RowV.mono (.inr q) fun y hy=>?_
                  rcases hvl with g | g
                  . obtain ⟨o',k',_,_,g1,_⟩:=q
                    rw [g] at g1;cases g1
                  . exact kB.2 _ _ (by omega) hy
              . exact kB.2 _ _ (by have:=at_lt hy;omega) (kA.2 j y hj hy)
          . simp (maxSteps:=1000000) (disch:=omega) only [decide_eq_false g5,hU,hO.row.len Tryz.underlying27,SS,eq_self,reduceIte,reduceCtorEq,Nat.reduceEqDiff,Nat.reduceAdd]
            refine hQ _ _ _ ?_
            simp (maxSteps:=1000000) (disch:=omega) only [hO.row.tup,SS,eq_self,reduceIte,reduceCtorEq,Nat.reduceEqDiff,Nat.reduceAdd]
            exact ⟨xs,hO,by omega,fun y hy=>by have:=hxr y hy;exact ⟨by omega,by omega⟩,hC.more (by omega),hK⟩
      . simp (maxSteps:=1000000) (disch:=omega) only [h0,h1,h6,h9,hU,hD.row.len Tryz.underlying27,decide_eq_false g,SS,eq_self,reduceIte,reduceCtorEq,Nat.reduceEqDiff,Nat.reduceAdd]
        by_cases g5:(0:Int)<(xs.length:Int)
        . simp (maxSteps:=1000000) (disch:=omega) only [decide_eq_true g5,h0,hU,hO.row.len Tryz.underlying27,SS,eq_self,reduceIte,reduceCtorEq,Nat.reduceEqDiff,Nat.reduceAdd]
          refine CallH.by (one_c hC (by omega) 16 (by omega)) ?_
          rintro _ K ⟨⟨b,rfl⟩,hCK,oK⟩
          have hOK:=hO.keeps oK.keeps hoH
          simp (maxSteps:=1000000) (disch:=omega) only [SS,eq_self,reduceIte,reduceCtorEq,Nat.reduceEqDiff,Nat.reduceAdd]
          cases b with
          | false =>
            refine brH.intro (fun q=>by cases q) (fun _=>?_)
            simp (maxSteps:=1000000) (disch:=omega) only [hU,SS,eq_self,reduceIte,reduceCtorEq,Nat.reduceEqDiff,Nat.reduceAdd]
            refine hQ _ _ _ ?_
            simp (maxSteps:=1000000) (disch:=omega) only [hOK.row.tup,SS,eq_self,reduceIte,reduceCtorEq,Nat.reduceEqDiff,Nat.reduceAdd]
            exact ⟨xs,hOK,by omega,fun y hy=>by have:=hxr y hy;exact ⟨by omega,by omega⟩,hCK.more (by omega),hK.trans oK.keeps⟩
          | true =>
            refine brH.intro (fun _=>?_) (fun q=>by cases q)
            simp (maxSteps:=1000000) (disch:=omega) only [h0,hU,hOK.row.len Tryz.underlying27,SS,eq_self,reduceIte,reduceCtorEq,Nat.reduceEqDiff,Nat.reduceAdd]
            refine CallH.by (pick_c hCK (by omega) _ (by omega)) ?_
            rintro _ K0 ⟨⟨k,rfl,hk⟩,hCK0,oK0⟩
            have hkl:k<xs.length:=by omega
            have hOK0:=hOK.keeps oK0.keeps hoH
            have lK0:K0.length=H'.length:=by rw [oK0.1,oK.1]
            simp (maxSteps:=1000000) (disch:=omega) only [h0,SS,eq_self,reduceIte,reduceCtorEq,Nat.reduceEqDiff,Nat.reduceAdd]
            have blK1:∀ H0:AH,buildSliceA Tryz.prog 27 5 [(0,.int .i64 13),(1,.int .i64 24),(2,.int .i64 9),(3,.int .i64 (-1)),(4,.int .i64 4611686018427387904)] H0=some (.slice (some ⟨H0.length,0,none⟩) 5 5,H0 ++ [.cells [.int .i64 13,.int .i64 24,.int .i64 9,.int .i64 (-1),.int .i64 4611686018427387904] 3 false]):=fun H0=>by kernel_rfl
            simp (maxSteps:=1000000) (disch:=omega) only [blK1,SS,eq_self,reduceIte,reduceCtorEq,Nat.reduceEqDiff,Nat.reduceAdd]
            generalize hK1:K0 ++ [AObj.cells [.int .i64 13,.int .i64 24,.int .i64 9,.int .i64 (-1),.int .i64 4611686018427387904] 3 false]=K1
            have pK1:K0<+:K1:=by rw [<- hK1];exact List.prefix_append _ _
            have aK1:K1[K0.length]?=some (.cells [.int .i64 13,.int .i64 24,.int .i64 9,.int .i64 (-1),.int .i64 4611686018427387904] 3 false):=by rw [<- hK1];exact at_new ..
            have wK1:Row 3 K1 (.slice (some ⟨K0.length,0,none⟩) 5 5) [13,24,9,-1,4611686018427387904]:=.inr ⟨K0.length,0,_,false,rfl,aK1,by simp,rfl⟩
            refine CallH.by (among_c (hCK0.pre pK1) (by omega) wK1 (by show K0.length ≠ o;have:=hK.1;omega) (by simp)) ?_
            rintro _ L ⟨⟨x,rfl,hx⟩,hCL,oL⟩
            have hOL:Own 3 H L U xs:=by
              have q:Own 3 H K1 U xs:=by
                rcases hOK0 with q | ⟨oo,q1,q2,q3⟩
                . exact .inl q
                . exact .inr ⟨oo,q1,q2,pre_at pK1 q3⟩
              exact q.keeps oL.keeps hoH
            have kA:Keeps o H L:=((hK.trans oK.keeps).trans oK0.keeps).trans ((Keeps.of_pre pK1).trans oL.keeps)
            rcases hOL with ⟨q1,q2⟩ | ⟨oo,q1,q2,q3⟩
            . subst q2;simp at g5
            subst q1
            have ix:=hOK0.row.ix Tryz.underlying27 cs3 .i64 (i:=(k:Int)) (by omega) (by omega)
            have st:=st_ints (P:=Tryz.prog) (t:=3) (x:=x) cs3 q3 hkl
            simp (maxSteps:=1000000) (disch:=omega) only [hU,ix,rowO,rowK,Int.toNat_natCast,Nat.zero_add,st,SS,eq_self,reduceIte,reduceCtorEq,Nat.reduceEqDiff,Nat.reduceAdd]
            refine hQ _ _ _ ?_
            simp (maxSteps:=1000000) (disch:=omega) only [SS,eq_self,reduceIte,reduceCtorEq,Nat.reduceEqDiff,Nat.reduceAdd]
            have hoo:oo ≠ o:=by omega
            have kB:Keeps oo L (L.set oo (.cells (ints (xs.set k x)) 3 false)):=⟨by simp,fun j y hj hy=>by rw [List.getElem?_set_ne (fun e=>hj e.symm)];exact hy⟩
            obtain ⟨ca,cs,c1,c2,c3⟩:=hCL.cur
            refine ⟨xs.set k x,.inr ⟨oo,by simp,q2,by rw [List.getElem?_set_self (at_lt q3)]⟩,by simp;omega,fun y hy=>?_,⟨⟨ca,cs,kB.2 _ _ (fun e=>hoo e.symm) c1,by omega,c3⟩,?_,hCL.byt,hCL.ap,hCL.le⟩,⟨by have:=kA.1;simpa using this,fun j y hj hy=>?_⟩⟩
            . rcases List.mem_or_eq_of_mem_set hy with q | q
              . have:=hxr y q;exact ⟨by omega,by omega⟩
              . subst q;simp at hx;exact ⟨by omega,by omega⟩
            . have hvl:v=.slice none 0 0∨rowO v<H.length:=by
                rcases h.row with q | ⟨o',k',vs',ro',e1,g2',_⟩
                . exact .inl q.1
                . right;rw [e1];exact at_lt g2'
              rcases hCL.row with q | q
              . exact .inl q
              . refine RowV.mono (.inr q) fun y hy=>?_
                rcases hvl with g | g
                . obtain ⟨o',k',_,_,g1,_⟩:=q
                  rw [g] at g1;cases g1
                . exact kB.2 _ _ (by omega) hy
            . exact kB.2 _ _ (by have:=at_lt hy;omega) (kA.2 j y hj hy)
        . simp (maxSteps:=1000000) (disch:=omega) only [decide_eq_false g5,hU,hO.row.len Tryz.underlying27,SS,eq_self,reduceIte,reduceCtorEq,Nat.reduceEqDiff,Nat.reduceAdd]
          refine hQ _ _ _ ?_
          simp (maxSteps:=1000000) (disch:=omega) only [hO.row.tup,SS,eq_self,reduceIte,reduceCtorEq,Nat.reduceEqDiff,Nat.reduceAdd]
          exact ⟨xs,hO,by omega,fun y hy=>by have:=hxr y hy;exact ⟨by omega,by omega⟩,hC.more (by omega),hK⟩
  . simp (maxSteps:=1000000) (disch:=omega) only [h0,h1,h6,h7,hU,decide_eq_false g,SS,eq_self,reduceIte,reduceCtorEq,Nat.reduceEqDiff,Nat.reduceAdd]
    refine LoopH.by (fun m s H'=>∃ (j:Nat) (xs:List Int),m+j=(dgs n n.toNat).length/\s 0=.pointer (some ⟨o,0,none⟩)/\s 1=.int .i64 n/\s 6=vA/\s 9=.int .i64 ((j:Nat):Int)/\(xs.length:Int)<=n - 3/\(∀ y ∈ xs,0<=y/\y<=100)/\Own 3 H H' (s 5) xs/\Own 3 A H' vA (dgs n n.toNat)/\Cur H' o v us (N+60)/\Keeps o H H') (dgs n n.toNat).length ?_ ?_
    . refine ⟨0,xs,?_⟩
      simp (maxSteps:=1000000) (disch:=omega) only [h0,h1,h6,hU,SS,eq_self,reduceIte,reduceCtorEq,Nat.reduceEqDiff,Nat.reduceAdd]
      (repeat' first | exact hxl | exact hxr | exact hO | exact hD | exact hCz | exact hK | apply And.intro) <;> first | (simp only [Value.int.injEq,true_and];omega) | omega | rfl | assumption | (simp;done) | (simp;omega)
    clear hU hO hxl hxr hD hC hK h0 h1 h6 h7 hm hCz g
    clear xs m i s H' U
    rintro m s H' ⟨j,xs,hm,h0,h1,h6,h9,hxl,hxr,hO,hD,hC,hK⟩
    generalize hU:s 5=U at *
    by_cases g:(j:Int)<((dgs n n.toNat).length:Int)
    . by_cases g2:(xs.length:Int)<n - 3
      . have hj:j<(dgs n n.toNat).length:=by omega
        have cK:=hD.row.cell hj
        have hxd:0<=(dgs n n.toNat).getD j 0/\(dgs n n.toNat).getD j 0<=100:=hdr _ (by simp [hj])
        simp (maxSteps:=1000000) (disch:=omega) only [h0,h1,h6,h9,hU,hD.row.len Tryz.underlying27,decide_eq_true g,hO.row.len Tryz.underlying27,wrap64,decide_eq_true g2,hD.row.ix Tryz.underlying27 cs3,Int.toNat_natCast,cK,SS,eq_self,reduceIte,reduceCtorEq,Nat.reduceEqDiff,Nat.reduceAdd]
        refine CallH.by (l1Has_c U xs _ H' hO.row (by omega)) ?_
        rintro _ _ ⟨rfl,rfl⟩
        by_cases g3:(dgs n n.toNat).getD j 0 ∈ xs
        . simp (maxSteps:=1000000) (disch:=omega) only [decide_eq_true g3,h9,wrap64,SS,eq_self,reduceIte,reduceCtorEq,Nat.reduceEqDiff,Nat.reduceAdd]
          refine ⟨m - 1,by omega,j+1,xs,?_⟩
          simp (maxSteps:=1000000) (disch:=omega) only [h0,h1,h6,hU,SS,eq_self,reduceIte,reduceCtorEq,Nat.reduceEqDiff,Nat.reduceAdd]
          (repeat' first | exact hxl | exact hxr | exact hO | exact hD | exact hC | exact hK | apply And.intro) <;> first | (simp only [Value.int.injEq,true_and];omega) | omega | rfl | assumption | (simp;done) | (simp;omega)
        . simp (maxSteps:=1000000) (disch:=omega) only [decide_eq_false g3,h6,h9,hU,hD.row.ix Tryz.underlying27 cs3,Int.toNat_natCast,cK,SS,eq_self,reduceIte,reduceCtorEq,Nat.reduceEqDiff,Nat.reduceAdd]
          refine CallH.by (l8Apart_c U xs _ H' hO.row (by omega) (fun y hy=>by have:=hxr y hy;exact ⟨by omega,by omega⟩) ⟨by omega,by omega⟩) ?_
          rintro _ _ ⟨rfl,rfl⟩
          simp (maxSteps:=1000000) (disch:=omega) only [SS,eq_self,reduceIte,reduceCtorEq,Nat.reduceEqDiff,Nat.reduceAdd]
          refine brH.intro (fun _=>?_) (fun _=>?_)
          . simp (maxSteps:=1000000) (disch:=omega) only [h9,wrap64,SS,eq_self,reduceIte,reduceCtorEq,Nat.reduceEqDiff,Nat.reduceAdd]
            refine ⟨m - 1,by omega,j+1,xs,?_⟩
            simp (maxSteps:=1000000) (disch:=omega) only [h0,h1,h6,hU,SS,eq_self,reduceIte,reduceCtorEq,Nat.reduceEqDiff,Nat.reduceAdd]
            (repeat' first | exact hxl | exact hxr | exact hO | exact hD | exact hC | exact hK | apply And.intro) <;> first | (simp only [Value.int.injEq,true_and];omega) | omega | rfl | assumption | (simp;done) | (simp;omega)
          . simp (maxSteps:=1000000) (disch:=omega) only [h6,h9,hU,hD.row.ix Tryz.underlying27 cs3,Int.toNat_natCast,cK,SS,eq_self,reduceIte,reduceCtorEq,Nat.reduceEqDiff,Nat.reduceAdd]
            refine CallH.by (l1Put_c U xs _ H' hO.row (by omega) g3) ?_
            rintro W K ⟨hW,pW⟩
            have f1:Own 3 H K W (put xs ((dgs n n.toNat).getD j 0)):=ownB hW hK.1
            have f2:((put xs ((dgs n n.toNat).getD j 0)).length:Int)<=n - 3:=by have:=put_len xs ((dgs n n.toNat).getD j 0);omega
            have f3:∀ y ∈ put xs ((dgs n n.toNat).getD j 0),0<=y/\y<=100:=fun y hy=>by
              rcases put_in hy with q | q
              . exact hxr y q
              . omega
            have f4:=hD.keeps (.of_pre pW) hoA
            have f5:=hC.pre pW
            have f6:=hK.trans (.of_pre pW)
            simp (maxSteps:=1000000) (disch:=omega) only [h9,wrap64,SS,eq_self,reduceIte,reduceCtorEq,Nat.reduceEqDiff,Nat.reduceAdd]
            refine ⟨m - 1,by omega,j+1,put xs ((dgs n n.toNat).getD j 0),?_⟩
            simp (maxSteps:=1000000) (disch:=omega) only [h0,h1,h6,SS,eq_self,reduceIte,reduceCtorEq,Nat.reduceEqDiff,Nat.reduceAdd]
            (repeat' first | exact f1 | exact f2 | exact f3 | exact f4 | exact f5 | exact f6 | apply And.intro) <;> first | (simp only [Value.int.injEq,true_and];omega) | omega | rfl | assumption | (simp;done) | (simp;omega)
      . simp (maxSteps:=1000000) (disch:=omega) only [h0,h1,h6,h9,hU,hD.row.len Tryz.underlying27,decide_eq_true g,hO.row.len Tryz.underlying27,wrap64,decide_eq_false g2,SS,eq_self,reduceIte,reduceCtorEq,Nat.reduceEqDiff,Nat.reduceAdd]
        by_cases g5:(0:Int)<(xs.length:Int)
        . simp (maxSteps:=1000000) (disch:=omega) only [decide_eq_true g5,h0,hU,hO.row.len Tryz.underlying27,SS,eq_self,reduceIte,reduceCtorEq,Nat.reduceEqDiff,Nat.reduceAdd]
          refine CallH.by (one_c hC (by omega) 16 (by omega)) ?_
          rintro _ K ⟨⟨b,rfl⟩,hCK,oK⟩
          have hOK:=hO.keeps oK.keeps hoH
          simp (maxSteps:=1000000) (disch:=omega) only [SS,eq_self,reduceIte,reduceCtorEq,Nat.reduceEqDiff,Nat.reduceAdd]
          cases b with
          | false =>
            refine brH.intro (fun q=>by cases q) (fun _=>?_)
            simp (maxSteps:=1000000) (disch:=omega) only [hU,SS,eq_self,reduceIte,reduceCtorEq,Nat.reduceEqDiff,Nat.reduceAdd]
            refine hQ _ _ _ ?_
            simp (maxSteps:=1000000) (disch:=omega) only [hOK.row.tup,SS,eq_self,reduceIte,reduceCtorEq,Nat.reduceEqDiff,Nat.reduceAdd]
            exact ⟨xs,hOK,by omega,fun y hy=>by have:=hxr y hy;exact ⟨by omega,by omega⟩,hCK.more (by omega),hK.trans oK.keeps⟩
          | true =>
            refine brH.intro (fun _=>?_) (fun q=>by cases q)
            simp (maxSteps:=1000000) (disch:=omega) only [h0,hU,hOK.row.len Tryz.underlying27,SS,eq_self,reduceIte,reduceCtorEq,Nat.reduceEqDiff,Nat.reduceAdd]
            refine CallH.by (pick_c hCK (by omega) _ (by omega)) ?_
            rintro _ K0 ⟨⟨k,rfl,hk⟩,hCK0,oK0⟩
            have hkl:k<xs.length:=by omega
            have hOK0:=hOK.keeps oK0.keeps hoH
            have lK0:K0.length=H'.length:=by rw [oK0.1,oK.1]
            simp (maxSteps:=1000000) (disch:=omega) only [h0,SS,eq_self,reduceIte,reduceCtorEq,Nat.reduceEqDiff,Nat.reduceAdd]
            have blK1:∀ H0:AH,buildSliceA Tryz.prog 27 5 [(0,.int .i64 13),(1,.int .i64 24),(2,.int .i64 9),(3,.int .i64 (-1)),(4,.int .i64 4611686018427387904)] H0=some (.slice (some ⟨H0.length,0,none⟩) 5 5,H0 ++ [.cells [.int .i64 13,.int .i64 24,.int .i64 9,.int .i64 (-1),.int .i64 4611686018427387904] 3 false]):=fun H0=>by kernel_rfl
            simp (maxSteps:=1000000) (disch:=omega) only [blK1,SS,eq_self,reduceIte,reduceCtorEq,Nat.reduceEqDiff,Nat.reduceAdd]
            generalize hK1:K0 ++ [AObj.cells [.int .i64 13,.int .i64 24,.int .i64 9,.int .i64 (-1),.int .i64 4611686018427387904] 3 false]=K1
            have pK1:K0<+:K1:=by rw [<- hK1];exact List.prefix_append _ _
            have aK1:K1[K0.length]?=some (.cells [.int .i64 13,.int .i64 24,.int .i64 9,.int .i64 (-1),.int .i64 4611686018427387904] 3 false):=by rw [<- hK1];exact at_new ..
            have wK1:Row 3 K1 (.slice (some ⟨K0.length,0,none⟩) 5 5) [13,24,9,-1,4611686018427387904]:=.inr ⟨K0.length,0,_,false,rfl,aK1,by simp,rfl⟩
            refine CallH.by (among_c (hCK0.pre pK1) (by omega) wK1 (by show K0.length ≠ o;have:=hK.1;omega) (by simp)) ?_
            rintro _ L ⟨⟨x,rfl,hx⟩,hCL,oL⟩
            have hOL:Own 3 H L U xs:=by
              have q:Own 3 H K1 U xs:=by
                rcases hOK0 with q | ⟨oo,q1,q2,q3⟩
                . exact .inl q
                . exact .inr ⟨oo,q1,q2,pre_at pK1 q3⟩
              exact q.keeps oL.keeps hoH
            have kA:Keeps o H L:=((hK.trans oK.keeps).trans oK0.keeps).trans ((Keeps.of_pre pK1).trans oL.keeps)
            rcases hOL with ⟨q1,q2⟩ | ⟨oo,q1,q2,q3⟩
            . subst q2;simp at g5
            subst q1
            have ix:=hOK0.row.ix Tryz.underlying27 cs3 .i64 (i:=(k:Int)) (by omega) (by omega)
            have st:=st_ints (P:=Tryz.prog) (t:=3) (x:=x) cs3 q3 hkl
            simp (maxSteps:=1000000) (disch:=omega) only [hU,ix,rowO,rowK,Int.toNat_natCast,Nat.zero_add,st,SS,eq_self,reduceIte,reduceCtorEq,Nat.reduceEqDiff,Nat.reduceAdd]
            refine hQ _ _ _ ?_
            simp (maxSteps:=1000000) (disch:=omega) only [SS,eq_self,reduceIte,reduceCtorEq,Nat.reduceEqDiff,Nat.reduceAdd]
            have hoo:oo ≠ o:=by omega
            have kB:Keeps oo L (L.set oo (.cells (ints (xs.set k x)) 3 false)):=⟨by simp,fun j y hj hy=>by rw [List.getElem?_set_ne (fun e=>hj e.symm)];exact hy⟩
            obtain ⟨ca,cs,c1,c2,c3⟩:=hCL.cur
            refine ⟨xs.set k x,.inr ⟨oo,by simp,q2,by rw [List.getElem?_set_self (at_lt q3)]⟩,by simp;omega,fun y hy=>?_,⟨⟨ca,cs,kB.2 _ _ (fun e=>hoo e.symm) c1,by omega,c3⟩,?_,hCL.byt,hCL.ap,hCL.le⟩,⟨by have:=kA.1;simpa using this,fun j y hj hy=>?_⟩⟩
            . rcases List.mem_or_eq_of_mem_set hy with q | q
              . have:=hxr y q;exact ⟨by omega,by omega⟩
              . subst q;simp at hx;exact ⟨by omega,by omega⟩
            . have hvl:v=.slice none 0 0∨rowO v<H.length:=by
                rcases h.row with q | ⟨o',k',vs',ro',e1,g2',_⟩
                . exact .inl q.1
                . right;rw [e1];exact at_lt g2'
              rcases hCL.row with q | q
              . exact .inl q
              . refine RowV.mono (.inr q) fun y hy=>?_
                rcases hvl with g | g
                . obtain ⟨o',k',_,_,g1,_⟩:=q
                  rw [g] at g1;cases g1
                . exact kB.2 _ _ (by omega) hy
            . exact kB.2 _ _ (by have:=at_lt hy;omega) (kA.2 j y hj hy)
        . simp (maxSteps:=1000000) (disch:=omega) only [decide_eq_false g5,hU,hO.row.len Tryz.underlying27,SS,eq_self,reduceIte,reduceCtorEq,Nat.reduceEqDiff,Nat.reduceAdd]
          refine hQ _ _ _ ?_
          simp (maxSteps:=1000000) (disch:=omega) only [hO.row.tup,SS,eq_self,reduceIte,reduceCtorEq,Nat.reduceEqDiff,Nat.reduceAdd]
          exact ⟨xs,hO,by omega,fun y hy=>by have:=hxr y hy;exact ⟨by omega,by omega⟩,hC.more (by omega),hK⟩
    . simp (maxSteps:=1000000) (disch:=omega) only [h0,h1,h6,h9,hU,hD.row.len Tryz.underlying27,decide_eq_false g,SS,eq_self,reduceIte,reduceCtorEq,Nat.reduceEqDiff,Nat.reduceAdd]
      by_cases g5:(0:Int)<(xs.length:Int)
      . simp (maxSteps:=1000000) (disch:=omega) only [decide_eq_true g5,h0,hU,hO.row.len Tryz.underlying27,SS,eq_self,reduceIte,reduceCtorEq,Nat.reduceEqDiff,Nat.reduceAdd]
        refine CallH.by (one_c hC (by omega) 16 (by omega)) ?_
        rintro _ K ⟨⟨b,rfl⟩,hCK,oK⟩
        have hOK:=hO.keeps oK.keeps hoH
        simp (maxSteps:=1000000) (disch:=omega) only [SS,eq_self,reduceIte,reduceCtorEq,Nat.reduceEqDiff,Nat.reduceAdd]
        cases b with
        | false =>
          refine brH.intro (fun q=>by cases q) (fun _=>?_)
          simp (maxSteps:=1000000) (disch:=omega) only [hU,SS,eq_self,reduceIte,reduceCtorEq,Nat.reduceEqDiff,Nat.reduceAdd]
          refine hQ _ _ _ ?_
          simp (maxSteps:=1000000) (disch:=omega) only [hOK.row.tup,SS,eq_self,reduceIte,reduceCtorEq,Nat.reduceEqDiff,Nat.reduceAdd]
          exact ⟨xs,hOK,by omega,fun y hy=>by have:=hxr y hy;exact ⟨by omega,by omega⟩,hCK.more (by omega),hK.trans oK.keeps⟩
        | true =>
          refine brH.intro (fun _=>?_) (fun q=>by cases q)
          simp (maxSteps:=1000000) (disch:=omega) only [h0,hU,hOK.row.len Tryz.underlying27,SS,eq_self,reduceIte,reduceCtorEq,Nat.reduceEqDiff,Nat.reduceAdd]
          refine CallH.by (pick_c hCK (by omega) _ (by omega)) ?_
          rintro _ K0 ⟨⟨k,rfl,hk⟩,hCK0,oK0⟩
          have hkl:k<xs.length:=by omega
          have hOK0:=hOK.keeps oK0.keeps hoH
          have lK0:K0.length=H'.length:=by rw [oK0.1,oK.1]
          simp (maxSteps:=1000000) (disch:=omega) only [h0,SS,eq_self,reduceIte,reduceCtorEq,Nat.reduceEqDiff,Nat.reduceAdd]
          have blK1:∀ H0:AH,buildSliceA Tryz.prog 27 5 [(0,.int .i64 13),(1,.int .i64 24),(2,.int .i64 9),(3,.int .i64 (-1)),(4,.int .i64 4611686018427387904)] H0=some (.slice (some ⟨H0.length,0,none⟩) 5 5,H0 ++ [.cells [.int .i64 13,.int .i64 24,.int .i64 9,.int .i64 (-1),.int .i64 4611686018427387904] 3 false]):=fun H0=>by kernel_rfl
          simp (maxSteps:=1000000) (disch:=omega) only [blK1,SS,eq_self,reduceIte,reduceCtorEq,Nat.reduceEqDiff,Nat.reduceAdd]
          generalize hK1:K0 ++ [AObj.cells [.int .i64 13,.int .i64 24,.int .i64 9,.int .i64 (-1),.int .i64 4611686018427387904] 3 false]=K1
          have pK1:K0<+:K1:=by rw [<- hK1];exact List.prefix_append _ _
          have aK1:K1[K0.length]?=some (.cells [.int .i64 13,.int .i64 24,.int .i64 9,.int .i64 (-1),.int .i64 4611686018427387904] 3 false):=by rw [<- hK1];exact at_new ..
          have wK1:Row 3 K1 (.slice (some ⟨K0.length,0,none⟩) 5 5) [13,24,9,-1,4611686018427387904]:=.inr ⟨K0.length,0,_,false,rfl,aK1,by simp,rfl⟩
          refine CallH.by (among_c (hCK0.pre pK1) (by omega) wK1 (by show K0.length ≠ o;have:=hK.1;omega) (by simp)) ?_
          rintro _ L ⟨⟨x,rfl,hx⟩,hCL,oL⟩
          have hOL:Own 3 H L U xs:=by
            have q:Own 3 H K1 U xs:=by
              rcases hOK0 with q | ⟨oo,q1,q2,q3⟩
              . exact .inl q
              . exact .inr ⟨oo,q1,q2,pre_at pK1 q3⟩
            exact q.keeps oL.keeps hoH
          have kA:Keeps o H L:=((hK.trans oK.keeps).trans oK0.keeps).trans ((Keeps.of_pre pK1).trans oL.keeps)
          rcases hOL with ⟨q1,q2⟩ | ⟨oo,q1,q2,q3⟩
          . subst q2;simp at g5
          subst q1
          have ix:=hOK0.row.ix Tryz.underlying27 cs3 .i64 (i:=(k:Int)) (by omega) (by omega)
          have st:=st_ints (P:=Tryz.prog) (t:=3) (x:=x) cs3 q3 hkl
          simp (maxSteps:=1000000) (disch:=omega) only [hU,ix,rowO,rowK,Int.toNat_natCast,Nat.zero_add,st,SS,eq_self,reduceIte,reduceCtorEq,Nat.reduceEqDiff,Nat.reduceAdd]
          refine hQ _ _ _ ?_
          simp (maxSteps:=1000000) (disch:=omega) only [SS,eq_self,reduceIte,reduceCtorEq,Nat.reduceEqDiff,Nat.reduceAdd]
          have hoo:oo ≠ o:=by omega
          have kB:Keeps oo L (L.set oo (.cells (ints (xs.set k x)) 3 false)):=⟨by simp,fun j y hj hy=>by rw [List.getElem?_set_ne (fun e=>hj e.symm)];exact hy⟩
          obtain ⟨ca,cs,c1,c2,c3⟩:=hCL.cur
          refine ⟨xs.set k x,.inr ⟨oo,by simp,q2,by rw [List.getElem?_set_self (at_lt q3)]⟩,by simp;omega,fun y hy=>?_,⟨⟨ca,cs,kB.2 _ _ (fun e=>hoo e.symm) c1,by omega,c3⟩,?_,hCL.byt,hCL.ap,hCL.le⟩,⟨by have:=kA.1;simpa using this,fun j y hj hy=>?_⟩⟩
          . rcases List.mem_or_eq_of_mem_set hy with q | q
            . have:=hxr y q;exact ⟨by omega,by omega⟩
            . subst q;simp at hx;exact ⟨by omega,by omega⟩
          . have hvl:v=.slice none 0 0∨rowO v<H.length:=by
              rcases h.row with q | ⟨o',k',vs',ro',e1,g2',_⟩
              . exact .inl q.1
              . right;rw [e1];exact at_lt g2'
            rcases hCL.row with q | q
            . exact .inl q
            . refine RowV.mono (.inr q) fun y hy=>?_
              rcases hvl with g | g
              . obtain ⟨o',k',_,_,g1,_⟩:=q
                rw [g] at g1;cases g1
              . exact kB.2 _ _ (by omega) hy
          . exact kB.2 _ _ (by have:=at_lt hy;omega) (kA.2 j y hj hy)
      . simp (maxSteps:=1000000) (disch:=omega) only [decide_eq_false g5,hU,hO.row.len Tryz.underlying27,SS,eq_self,reduceIte,reduceCtorEq,Nat.reduceEqDiff,Nat.reduceAdd]
        refine hQ _ _ _ ?_
        simp (maxSteps:=1000000) (disch:=omega) only [hO.row.tup,SS,eq_self,reduceIte,reduceCtorEq,Nat.reduceEqDiff,Nat.reduceAdd]
        exact ⟨xs,hO,by omega,fun y hy=>by have:=hxr y hy;exact ⟨by omega,by omega⟩,hC.more (by omega),hK⟩
theorem rBig_c {H:AH}{v:Value}{us:List Value}(h:RowV 5 H v us)(hl:(us.length:Int)<=9223372036854775807):ACalls Tryz.prog 25 [v] H fun r H'=>r=.bool (decide ((65536:Int)<(us.length:Int)))/\H=H':=by
  refine in25 rfl ?_
  intro Q hQ
  simp (maxSteps:=1000000) (disch:=omega) only [cd25,len_by,h.len Tryz.underlying22,SS,eq_self,reduceIte,reduceCtorEq,Nat.reduceEqDiff,Nat.reduceAdd]
  refine hQ _ _ _ ?_
  simp (maxSteps:=1000000) (disch:=omega) only [SS,eq_self,reduceIte,reduceCtorEq,Nat.reduceEqDiff,Nat.reduceAdd]
def cd26:Cd:=(.seq (.reg [⟨⟨some 2,.assign (.const (.int .i64 0)),none⟩,[]⟩,⟨⟨some 3,.assign (.const (.slice none 0 0)),none⟩,[]⟩,⟨⟨some 4,.assign (.const (.slice none 0 0)),none⟩,[]⟩]) (.seq (.reg [⟨⟨some 7,.move (.tmp 0),none⟩,[]⟩,⟨⟨some 8,.build 89 #[(0,.tmp 7)],none⟩,[]⟩,⟨⟨some 9,.box 89 (.tmp 8),none⟩,[]⟩,⟨⟨some 5,.assign (.tmp 9),none⟩,[]⟩]) (.seq (.reg [⟨⟨some 10,.move (.tmp 5),none⟩,[]⟩,⟨⟨some 11,.call ⟨(.value (.func 96)),#[.tmp 10],#[86]⟩,none⟩,[]⟩,⟨⟨some 6,.assign (.tmp 11),none⟩,[]⟩]) (.seq (.reg [⟨⟨some 12,.move (.tmp 6),none⟩,[]⟩,⟨⟨some 13,.move (.tmp 5),none⟩,[]⟩,⟨⟨some 14,.move (.tmp 6),none⟩,[]⟩,⟨⟨some 15,.call ⟨(.value (.func 97)),#[.tmp 13,.tmp 14],#[86,3]⟩,none⟩,[]⟩,⟨⟨some 16,.move (.tmp 5),none⟩,[]⟩,
 ⟨⟨some 17,.move (.tmp 6),none⟩,[]⟩,
  ⟨⟨some 18,.call ⟨(.value (.func 97)),#[.tmp 16,.tmp 17],#[86,3]⟩,none⟩,[]⟩,
  ⟨⟨some 2,.assign (.tmp 12),none⟩,[]⟩,
  ⟨⟨some 3,.assign (.tmp 15),none⟩,[]⟩,
  ⟨⟨some 4,.assign (.tmp 18),none⟩,[]⟩]) .ret))))
theorem in26:InT Tryz.prog 26 1 [.tmp 2,.tmp 3,.tmp 4] cd26:=InT.mk (by kernel_rfl) [] Tryz.func26 rfl (by kernel_rfl) (by kernel_rfl) (of_decide_eq_true (by kernel_rfl)) (by kernel_rfl)
def cd36:Cd:=(.seq (.reg [⟨⟨some 2,.assign (.const (.int .i64 0)),none⟩,[]⟩,⟨⟨some 3,.assign (.const (.int .i64 0)),none⟩,[]⟩]) (.seq (.reg [⟨⟨some 5,.move (.tmp 0),none⟩,[]⟩,⟨⟨some 6,.build 89 #[(0,.tmp 5)],none⟩,[]⟩,⟨⟨some 7,.box 89 (.tmp 6),none⟩,[]⟩,⟨⟨some 4,.assign (.tmp 7),none⟩,[]⟩]) (.seq (.reg [⟨⟨some 8,.move (.tmp 4),none⟩,[]⟩,⟨⟨some 9,.call ⟨(.value (.func 96)),#[.tmp 8],#[86]⟩,none⟩,[]⟩,⟨⟨some 10,.move (.tmp 4),none⟩,[]⟩,⟨⟨some 11,.call ⟨(.value (.func 111)),#[.tmp 10,(.const (.int .i64 9))],#[86,3]⟩,none⟩,[]⟩,⟨⟨some 12,.move (.tmp 4),none⟩,[]⟩,⟨⟨some 13,.call ⟨(.value (.func 111)),#[.tmp 12,(.const (.int .i64 2))],#[86,3]⟩,none⟩,[]⟩,⟨⟨some 14,.binOp .sub 3 (.tmp 11) (.tmp 13) 3,none⟩,[]⟩,⟨⟨some 2,.assign (.tmp 9),none⟩,[]⟩,
 ⟨⟨some 3,.assign (.tmp 14),none⟩,[]⟩]) .ret)))
theorem in36:InT Tryz.prog 36 1 [.tmp 2,.tmp 3] cd36:=InT.mk (by kernel_rfl) [] Tryz.func36 rfl (by kernel_rfl) (by kernel_rfl) (of_decide_eq_true (by kernel_rfl)) (by kernel_rfl)
end Go.Proofs.YtjnefjchconebaaGreat.Ai
namespace Go.Proofs.YtjnefjchconebaaGreat.Ai
open Go Go.RowKit
theorem DrawPd_c {H:AH}{v:Value}{us:List Value}(h:Byt H v us) :
    ACalls Tryz.prog 26 [v] H fun r H'=>∃ (n:Int) (w u:Value) (xs ys:List Int),r=.tuple (List.toArray [.int .i64 n,w,u])/\(-1<=n/\n<=9)/\Row 3 H' w xs/\xs.length<=5/\(∀ y ∈ xs,I64 y)/\Row 3 H' u ys/\ys.length<=5/\(∀ y ∈ ys,I64 y)/\H<+:H':=by
  obtain ⟨pv,ev⟩:=h.row.shape
  refine in26 rfl ?_
  intro Q hQ
  have b1:=bld_cur pv us.length us.length
  have b2:=fun H=>box_cur pv us.length us.length H
  rw [<- ev] at b1 b2
  simp (maxSteps:=1000000) (disch:=omega) only [cd26,b1,b2,SS,eq_self,reduceIte,reduceCtorEq,Nat.reduceEqDiff,Nat.reduceAdd]
  generalize hA:H ++ [AObj.cells [v,.int .i64 0,.int .u64 0] 89 false]=A
  have pA:H<+:A:=by rw [<- hA];exact List.prefix_append _ _
  have lA:A.length=H.length+1:=by rw [<- hA];simp
  have hC:Cur A H.length v us 0:=by rw [<- hA];exact h.cur
  refine CallH.by (corners_c hC (by omega)) ?_
  rintro _ B ⟨⟨n,rfl,hn⟩,hCB,kB⟩
  have hBl:=kB.1
  have hoB:H.length<B.length:=by omega
  simp (maxSteps:=1000000) (disch:=omega) only [SS,eq_self,reduceIte,reduceCtorEq,Nat.reduceEqDiff,Nat.reduceAdd]
  refine CallH.by (triangles_c hCB (by omega) n hn) ?_
  rintro w C ⟨xs,hO,hl,hx,hCC,kC⟩
  have hCl:=kC.1
  have hoC:H.length<C.length:=by omega
  simp (maxSteps:=1000000) (disch:=omega) only [SS,eq_self,reduceIte,reduceCtorEq,Nat.reduceEqDiff,Nat.reduceAdd]
  refine CallH.by (triangles_c hCC (by omega) n hn) ?_
  rintro u D ⟨ys,hO2,hl2,hx2,hCD,kD⟩
  have hOD:=hO.keeps kD hoB
  simp (maxSteps:=1000000) (disch:=omega) only [SS,eq_self,reduceIte,reduceCtorEq,Nat.reduceEqDiff,Nat.reduceAdd]
  refine hQ _ _ _ ?_
  simp (maxSteps:=1000000) (disch:=omega) only [endA,resA,hOD.row.tup,hO2.row.tup,Option.map_some,Bool.false_eq_true,SS,eq_self,reduceIte,reduceCtorEq,Nat.reduceEqDiff,Nat.reduceAdd]
  exact ⟨_,_,_,xs,ys,rfl,hn,hOD.row,hl,hx,hO2.row,hl2,hx2,keeps_new ((kB.trans kC).trans kD) pA rfl⟩
theorem DrawFan_c {H:AH}{v:Value}{us:List Value}(h:Byt H v us) :
    ACalls Tryz.prog 36 [v] H fun r H'=>∃ (n c:Int),r=.tuple (List.toArray [.int .i64 n,.int .i64 c])/\(-1<=n/\n<=9)/\(-1<=c/\c<=8)/\H<+:H':=by
  obtain ⟨pv,ev⟩:=h.row.shape
  refine in36 rfl ?_
  intro Q hQ
  have b1:=bld_cur pv us.length us.length
  have b2:=fun H=>box_cur pv us.length us.length H
  rw [<- ev] at b1 b2
  simp (maxSteps:=1000000) (disch:=omega) only [cd36,b1,b2,SS,eq_self,reduceIte,reduceCtorEq,Nat.reduceEqDiff,Nat.reduceAdd]
  generalize hA:H ++ [AObj.cells [v,.int .i64 0,.int .u64 0] 89 false]=A
  have pA:H<+:A:=by rw [<- hA];exact List.prefix_append _ _
  have lA:A.length=H.length+1:=by rw [<- hA];simp
  have hC:Cur A H.length v us 0:=by rw [<- hA];exact h.cur
  refine CallH.by (corners_c hC (by omega)) ?_
  rintro _ B ⟨⟨n,rfl,hn⟩,hCB,kB⟩
  simp (maxSteps:=1000000) (disch:=omega) only [SS,eq_self,reduceIte,reduceCtorEq,Nat.reduceEqDiff,Nat.reduceAdd]
  refine CallH.by (pick_c hCB (by omega) 9 (by omega)) ?_
  rintro _ D ⟨⟨k,rfl,hk⟩,hCD,oD⟩
  simp (maxSteps:=1000000) (disch:=omega) only [SS,eq_self,reduceIte,reduceCtorEq,Nat.reduceEqDiff,Nat.reduceAdd]
  refine CallH.by (pick_c hCD (by omega) 2 (by omega)) ?_
  rintro _ E ⟨⟨k2,rfl,hk2⟩,hCE,oE⟩
  simp (maxSteps:=1000000) (disch:=omega) only [wrap64,SS,eq_self,reduceIte,reduceCtorEq,Nat.reduceEqDiff,Nat.reduceAdd]
  refine hQ _ _ _ ?_
  simp (maxSteps:=1000000) (disch:=omega) only [SS,eq_self,reduceIte,reduceCtorEq,Nat.reduceEqDiff,Nat.reduceAdd]
  exact ⟨_,_,rfl,hn,⟨by omega,by omega⟩,keeps_new ((kB.trans oD.keeps).trans oE.keeps) pA rfl⟩
def cd165:Cd:=(.seq (.reg [⟨⟨some 5,.move (.tmp 0),none⟩,[]⟩,
  ⟨⟨some 6,.call ⟨(.builtin .len),#[.tmp 5],#[36]⟩,none⟩,[]⟩,
  ⟨⟨some 4,.assign (.tmp 6),none⟩,[]⟩]) (.reg [⟨⟨some 7,.move (.tmp 0),none⟩,[]⟩,
  ⟨⟨some 8,.move (.tmp 4),none⟩,[]⟩,
  ⟨⟨some 9,.move (.tmp 4),none⟩,[]⟩,
  ⟨⟨some 10,.convert 3 122 (.tmp 9),none⟩,[]⟩,
  ⟨⟨some 11,.call ⟨(.value (.func 188)),#[.tmp 10],#[122]⟩,none⟩,[]⟩,
  ⟨⟨some 12,.move (.tmp 1),none⟩,[]⟩,
  ⟨⟨some 13,.call ⟨(.value (.func 205)),#[.tmp 7,(.const (.int .i64 0)),.tmp 8,.tmp 11,.tmp 12],#[36,3,3,3,136]⟩,none⟩,[]⟩]))
theorem in165:InT Tryz.prog 165 2 [] cd165:=InT.mk (by kernel_rfl) [] Tryz.func165 rfl (by kernel_rfl) (by kernel_rfl) (of_decide_eq_true (by kernel_rfl)) (by kernel_rfl)
end Go.Proofs.YtjnefjchconebaaGreat.Ai
namespace Go.Proofs.YtjnefjchconebaaGreat.Ai
open Go Go.RowKit
theorem str_at {P:Program}{t:TypeId}(hu:P.underlying t=some .string)(s:ByteArray)(hz:s.size=256)(hp:∀ i:Fin 256,0<i.1->1<=(s.data.getD i.1 0).toNat)(k:IntKind)(n:Nat)(h0:0<n)(h1:n<256):∃ b:Nat,1<=b/\b<256/\indexA P t (.string s) (.int k (n:Int))=some (.int .u8 (b:Int)):=by
  have hl:n<s.data.size:=by have:s.data.size=256:=hz;omega
  have hlt:n<s.size:=by omega
  have e1:s[(n:Int).toNat]?=some s[n]:=by rw [Int.toNat_natCast];simp [hlt]
  have e2:=hp ⟨n,h1⟩ h0
  have e3:s.data.getD n 0=s[n]:=by
    rw [Array.getD_eq_getD_getElem?,Array.getElem?_eq_getElem hl];rfl
  refine ⟨s[n].toNat,?_,UInt8.toNat_lt _,?_⟩
  . rw [<- e3];exact e2
  . simp only [indexA,hu,if_pos (show (0:Int)<=n by omega),e1]
theorem Len64b_c (n:Nat)(H:AH)(h0:0<n)(hn:n<65536):ACalls Tryz.prog 223 [.int .u64 (n:Int)] H fun r H'=>(∃ k:Int,r=.int .i64 k/\1<=k)/\H=H':=by
  refine in223 rfl ?_
  intro Q hQ
  have k8:binA Tryz.prog .shr 87 (.int .u64 (n:Int)) (.int .u64 8)=some (.int .u64 ((n / 256:Nat):Int)):=by
    simp only [binA,shiftA]
    rw [if_pos (.inr trivial),if_neg (by decide)]
    congr 2
    have:(2 ^ min (8:Int).toNat IntKind.u64.bits:Int)=256:=by decide
    rw [this,Int.fdiv_eq_ediv_of_nonneg _ (by decide)]
    omega
  simp (maxSteps:=1000000) (disch:=omega) only [cd223,SS,eq_self,reduceIte,reduceCtorEq,Nat.reduceEqDiff,Nat.reduceAdd]
  refine brD.intro (fun h=>absurd h (by omega)) (fun _=>?_)
  simp (maxSteps:=1000000) (disch:=omega) only [SS,eq_self,reduceIte,reduceCtorEq,Nat.reduceEqDiff,Nat.reduceAdd]
  refine brD.intro (fun h=>absurd h (by omega)) (fun _=>?_)
  simp (maxSteps:=1000000) (disch:=omega) only [SS,eq_self,reduceIte,reduceCtorEq,Nat.reduceEqDiff,Nat.reduceAdd]
  refine brD.intro (fun h=>?_) (fun h=>?_)
  . have hw:IntKind.u8.wrap ((n / 256:Nat):Int)=((n / 256:Nat):Int):=wrapU8 (by omega) (by omega)
    simp (maxSteps:=1000000) (disch:=omega) only [k8,hw,wrap64,SS,eq_self,reduceIte,reduceCtorEq,Nat.reduceEqDiff,Nat.reduceAdd]
    generalize hs:(ByteArray.mk _)=s
    have hz:s.size=256:=by rw [<- hs];rfl
    have hp:∀ i:Fin 256,0<i.1->1<=(s.data.getD i.1 0).toNat:=by rw [<- hs];decide +kernel
    obtain ⟨b,hb1,hb2,hb⟩:=str_at (P:=Tryz.prog) Tryz.underlying9 s hz hp .u8 (n / 256) (by omega) (by omega)
    simp (maxSteps:=1000000) (disch:=omega) only [hb,wrap64,SS,eq_self,reduceIte,reduceCtorEq,Nat.reduceEqDiff,Nat.reduceAdd]
    refine hQ _ _ _ ?_
    simp (maxSteps:=1000000) (disch:=omega) only [SS,eq_self,reduceIte,reduceCtorEq,Nat.reduceEqDiff,Nat.reduceAdd]
    exact ⟨_,rfl,by omega⟩
  . have hw:IntKind.u8.wrap (n:Int)=(n:Int):=wrapU8 (by omega) (by omega)
    simp (maxSteps:=1000000) (disch:=omega) only [hw,wrap64,SS,eq_self,reduceIte,reduceCtorEq,Nat.reduceEqDiff,Nat.reduceAdd]
    generalize hs:(ByteArray.mk _)=s
    have hz:s.size=256:=by rw [<- hs];rfl
    have hp:∀ i:Fin 256,0<i.1->1<=(s.data.getD i.1 0).toNat:=by rw [<- hs];decide +kernel
    obtain ⟨b,hb1,hb2,hb⟩:=str_at (P:=Tryz.prog) Tryz.underlying9 s hz hp .u8 n (by omega) (by omega)
    simp (maxSteps:=1000000) (disch:=omega) only [hb,wrap64,SS,eq_self,reduceIte,reduceCtorEq,Nat.reduceEqDiff,Nat.reduceAdd]
    refine hQ _ _ _ ?_
    simp (maxSteps:=1000000) (disch:=omega) only [SS,eq_self,reduceIte,reduceCtorEq,Nat.reduceEqDiff,Nat.reduceAdd]
    exact ⟨_,rfl,by omega⟩
theorem Lenb_c (n:Nat)(H:AH)(h0:0<n)(hn:n<65536):ACalls Tryz.prog 188 [.int .u64 (n:Int)] H fun r H'=>(∃ k:Int,r=.int .i64 k/\1<=k)/\H=H':=by
  refine in188 rfl ?_
  intro Q hQ
  simp (maxSteps:=1000000) (disch:=omega) only [cd188,SS,eq_self,reduceIte,reduceCtorEq,Nat.reduceEqDiff,Nat.reduceAdd]
  refine CallH.by (Len64b_c n H h0 hn) ?_
  rintro _ _ ⟨⟨k,rfl,hk⟩,rfl⟩
  simp (maxSteps:=1000000) (disch:=omega) only [SS,eq_self,reduceIte,reduceCtorEq,Nat.reduceEqDiff,Nat.reduceAdd]
  refine hQ _ _ _ ?_
  simp (maxSteps:=1000000) (disch:=omega) only [SS,eq_self,reduceIte,reduceCtorEq,Nat.reduceEqDiff,Nat.reduceAdd]
  exact ⟨_,rfl,hk⟩
theorem str_z {P:Program}{t:TypeId}(hu:P.underlying t=some .string)(s:ByteArray)(hz:s.size=256)(k:IntKind)(n:Nat)(h1:n<256):∃ b:Nat,b<256/\indexA P t (.string s) (.int k (n:Int))=some (.int .u8 (b:Int)):=by
  have hlt:n<s.size:=by omega
  have e1:s[(n:Int).toNat]?=some s[n]:=by rw [Int.toNat_natCast];simp [hlt]
  refine ⟨s[n].toNat,UInt8.toNat_lt _,?_⟩
  simp only [indexA,hu,if_pos (show (0:Int)<=n by omega),e1]
theorem Len64z_c (n:Nat)(H:AH)(h0:n=0):ACalls Tryz.prog 223 [.int .u64 (n:Int)] H fun r H'=>(∃ k:Int,r=.int .i64 k)/\H=H':=by
  refine in223 rfl ?_
  intro Q hQ
  simp (maxSteps:=1000000) (disch:=omega) only [cd223,SS,eq_self,reduceIte,reduceCtorEq,Nat.reduceEqDiff,Nat.reduceAdd]
  refine brD.intro (fun h=>absurd h (by omega)) (fun _=>?_)
  simp (maxSteps:=1000000) (disch:=omega) only [SS,eq_self,reduceIte,reduceCtorEq,Nat.reduceEqDiff,Nat.reduceAdd]
  refine brD.intro (fun h=>absurd h (by omega)) (fun _=>?_)
  simp (maxSteps:=1000000) (disch:=omega) only [SS,eq_self,reduceIte,reduceCtorEq,Nat.reduceEqDiff,Nat.reduceAdd]
  refine brD.intro (fun h=>absurd h (by omega)) (fun _=>?_)
  have hw:IntKind.u8.wrap (n:Int)=(n:Int):=wrapU8 (by omega) (by omega)
  simp (maxSteps:=1000000) (disch:=omega) only [hw,wrap64,SS,eq_self,reduceIte,reduceCtorEq,Nat.reduceEqDiff,Nat.reduceAdd]
  generalize hs:(ByteArray.mk _)=s
  have hz:s.size=256:=by rw [<- hs];rfl
  obtain ⟨b,hb2,hb⟩:=str_z (P:=Tryz.prog) Tryz.underlying9 s hz .u8 n (by omega)
  simp (maxSteps:=1000000) (disch:=omega) only [hb,wrap64,SS,eq_self,reduceIte,reduceCtorEq,Nat.reduceEqDiff,Nat.reduceAdd]
  refine hQ _ _ _ ?_
  simp (maxSteps:=1000000) (disch:=omega) only [SS,eq_self,reduceIte,reduceCtorEq,Nat.reduceEqDiff,Nat.reduceAdd]
  exact ⟨_,rfl⟩
theorem Lenz_c (n:Nat)(H:AH)(h0:n=0):ACalls Tryz.prog 188 [.int .u64 (n:Int)] H fun r H'=>(∃ k:Int,r=.int .i64 k)/\H=H':=by
  refine in188 rfl ?_
  intro Q hQ
  simp (maxSteps:=1000000) (disch:=omega) only [cd188,SS,eq_self,reduceIte,reduceCtorEq,Nat.reduceEqDiff,Nat.reduceAdd]
  refine CallH.by (Len64z_c n H h0) ?_
  rintro _ _ ⟨⟨k,rfl⟩,rfl⟩
  simp (maxSteps:=1000000) (disch:=omega) only [SS,eq_self,reduceIte,reduceCtorEq,Nat.reduceEqDiff,Nat.reduceAdd]
  refine hQ _ _ _ ?_
  simp (maxSteps:=1000000) (disch:=omega) only [SS,eq_self,reduceIte,reduceCtorEq,Nat.reduceEqDiff,Nat.reduceAdd]
  exact ⟨_,rfl⟩
theorem SortFunc_c {H:AH}{v:Value}{us:List Value}{ls:List (List Int)}(h:Sts H v us ls) :
    ACalls Tryz.prog 165 [v,fnCmp] H fun r H'=>H<+:H':=by
  refine in165 rfl ?_
  intro Q hQ
  have hb:=h.bnd
  have hl:=h.len
  have hU:IntKind.u64.wrap (ls.length:Int)=(ls.length:Int):=by rw [IntKind.wrap_u64];omega
  simp (maxSteps:=1000000) (disch:=omega) only [cd165,h.row.len Tryz.underlying36,hl,hU,SS,eq_self,reduceIte,reduceCtorEq,Nat.reduceEqDiff,Nat.reduceAdd]
  by_cases h1:1<=ls.length
  rotate_left
  . refine CallH.by (Lenz_c ls.length H (by omega)) ?_
    rintro _ _ ⟨⟨k,rfl⟩,rfl⟩
    simp (maxSteps:=1000000) (disch:=omega) only [SS,eq_self,reduceIte,reduceCtorEq,Nat.reduceEqDiff,Nat.reduceAdd]
    refine CallH.by (pdqCmp_c h k (.inr (by omega))) ?_
    rintro _ B hB
    simp (maxSteps:=1000000) (disch:=omega) only [SS,eq_self,reduceIte,reduceCtorEq,Nat.reduceEqDiff,Nat.reduceAdd]
    refine hQ _ _ _ ?_
    simp (maxSteps:=1000000) (disch:=omega) only [SS,eq_self,reduceIte,reduceCtorEq,Nat.reduceEqDiff,Nat.reduceAdd]
    exact hB
  refine CallH.by (Lenb_c ls.length H (by omega) (by omega)) ?_
  rintro _ _ ⟨⟨k,rfl,hk⟩,rfl⟩
  simp (maxSteps:=1000000) (disch:=omega) only [SS,eq_self,reduceIte,reduceCtorEq,Nat.reduceEqDiff,Nat.reduceAdd]
  refine CallH.by (pdqCmp_c h k (.inl (by omega))) ?_
  rintro _ B hB
  simp (maxSteps:=1000000) (disch:=omega) only [SS,eq_self,reduceIte,reduceCtorEq,Nat.reduceEqDiff,Nat.reduceAdd]
  refine hQ _ _ _ ?_
  simp (maxSteps:=1000000) (disch:=omega) only [SS,eq_self,reduceIte,reduceCtorEq,Nat.reduceEqDiff,Nat.reduceAdd]
  exact hB
theorem InU.appL {P:Program}{t2 e2 e:TypeId}(hu:P.underlying t2=some (.slice e2))(hc:P.cellsOf e2=1)(hby:P.bytesOf e2<=64)(hz:zeroOk P e2=true){lo hi hi2:Nat}{H:AH}{o:Nat}{us:List Value}{w:Value}{ls ms:List (List Int)}
    (h:InU lo hi e2 e H o us ls)(hw:InL hi hi2 e2 e H w ms)(hl1:lo<=hi)(hl2:hi<=hi2)(hl3:hi2<=H.length)(hb:ls.length+ms.length<=1099511627775) :
    ∃ v' H' o' us',appendA P t2 t2 (.slice (some ⟨o,0,none⟩) ls.length ls.length) w H=some (v',H')/\v'=.slice (some ⟨o',0,none⟩) (ls ++ ms).length (ls ++ ms).length /\
      InU lo H'.length e2 e H' o' us' (ls ++ ms)/\H.length<=H'.length/\(∀ (j:Nat) (y:AObj),j ≠ o->H[j]?=some y->H'[j]?=some y)/\(o'=o∨H.length<=o'):=by
  have bb:∀ n:Nat,n<=1099511627776->n * P.bytesOf e2<=140737488355328:=fun n hn=>by
    refine Nat.le_trans (Nat.mul_le_mul_left _ hby) ?_
    omega
  by_cases hm:ms.length=0
  . have hms:ms=[]:=List.eq_nil_of_length_eq_zero hm
    subst hms
    have hsc:∃ us2,sliceCells P e2 w H=some (0,us2):=by
      rcases hw with ⟨rfl,_⟩ | ⟨o2,us2,rfl,g1,g2,g3,_⟩
      . exact ⟨[],rfl⟩
      . refine ⟨(us2.drop 0).take (0 * P.cellsOf e2),?_⟩
        simp only [sliceCells,g3,List.length_nil]
        rw [if_pos ⟨by omega,trivial⟩]
    obtain ⟨us2,hsc⟩:=hsc
    refine ⟨_,H,o,us,?_,by rw [List.append_nil],?_,Nat.le_refl _,fun j y _ hy=>hy,.inl rfl⟩
    . simp only [appendA,hu,hc,hsc,isSl]
      rw [if_pos (by simp),if_pos (by simp),if_pos trivial]
    . rw [List.append_nil]
      obtain ⟨h1,h2,h3,h4,h5,h6⟩:=h
      exact ⟨h1,by omega,h3,h4,fun i hi'=>⟨(h5 i hi').1.wide (Nat.le_refl _) (by omega),(h5 i hi').2⟩,h6⟩
  rcases hw with ⟨_,e0⟩ | ⟨o2,us2,rfl,g1,g2,g3,g4,g5,g6⟩
  . rw [e0] at hm;simp at hm
  have hsc:sliceCells P e2 (.slice (some ⟨o2,0,none⟩) ms.length ms.length) H=some (ms.length,us2.take ms.length):=by
    simp only [sliceCells,g3,hc,Nat.mul_one,List.drop_zero]
    rw [if_pos ⟨by omega,trivial⟩]
  obtain ⟨h2,h3,h4,h5,h6,h7⟩:=h
  have ho:=at_lt h4
  have keep:∀ (j:Nat) (y:AObj),j ≠ o->H[j]?=some y->(H.set o AObj.dead ++ [AObj.cells (us.take ls.length ++ us2.take ms.length) e2 false])[j]?=some y:=by
    intro j y hj hy
    exact at_old hy (fun e=>hj e.symm) _
  refine ⟨.slice (some ⟨H.length,0,none⟩) (ls.length+ms.length) (ls.length+ms.length),H.set o AObj.dead ++ [AObj.cells (us.take ls.length ++ us2.take ms.length) e2 false],H.length,us.take ls.length ++ us2.take ms.length,?_,by rw [List.length_append],?_,by simp,keep,.inr (Nat.le_refl _)⟩
  . simp only [appendA,hu,hc,hsc,hz,h4]
    rw [if_pos (by simp),if_neg hm,if_pos ⟨trivial,by omega,bb _ (by omega),by omega,trivial⟩]
    simp
  . have hul:(us.take ls.length).length=ls.length:=by simp;omega
    have hul2:(us2.take ms.length).length=ms.length:=by simp;omega
    have uat:∀ i,i<ls.length->(us.take ls.length ++ us2.take ms.length).getD i undef=us.getD i undef:=by
      intro i hi'
      rw [List.getD_eq_getElem?_getD,List.getD_eq_getElem?_getD,List.getElem?_append_left (by omega),List.getElem?_take,if_pos hi']
    have uat2:∀ i,i<ms.length->(us.take ls.length ++ us2.take ms.length).getD (ls.length+i) undef=us2.getD i undef:=by
      intro i hi'
      rw [List.getD_eq_getElem?_getD,List.getD_eq_getElem?_getD,List.getElem?_append_right (by omega),hul,Nat.add_sub_cancel_left,List.getElem?_take,if_pos hi']
    have lat:∀ i,i<ls.length->(ls ++ ms).getD i []=ls.getD i []:=by
      intro i hi'
      rw [List.getD_eq_getElem?_getD,List.getD_eq_getElem?_getD,List.getElem?_append_left hi']
    have lat2:∀ i,i<ms.length->(ls ++ ms).getD (ls.length+i) []=ms.getD i []:=by
      intro i hi'
      rw [List.getD_eq_getElem?_getD,List.getD_eq_getElem?_getD,List.getElem?_append_right (by omega),Nat.add_sub_cancel_left]
    have cross:∀ i j,i<ls.length->j<ms.length->Apart (us.getD i undef) (us2.getD j undef):=by
      intro i j hi' hj'
      rcases (h6 i hi').1.at_ with g | g
      . exact .inr (.inl g)
      . rcases (g5 j hj').1.at_ with g' | g'
        . exact .inl g'
        . exact .inr (.inr (by omega))
    refine ⟨by omega,by simp,?_,by simp;omega,?_,?_⟩
    . rw [List.getElem?_append_right (by simp)];simp
    . intro i hi'
      rw [List.length_append] at hi'
      by_cases hc':i<ls.length
      . rw [uat i hc',lat i hc']
        obtain ⟨k1,k2⟩:=h6 i hc'
        refine ⟨(k1.move fun y hn hy=>?_).wide (Nat.le_refl _) (by simp;omega),?_⟩
        . rcases k2 with g | g
          . exact absurd g hn
          . exact keep _ _ g hy
        . rcases k1.at_ with g | g
          . exact .inl g
          . exact .inr (by omega)
      . obtain ⟨j,rfl⟩:∃ j,i=ls.length+j:=⟨i - ls.length,by omega⟩
        have hj:j<ms.length:=by omega
        rw [uat2 j hj,lat2 j hj]
        obtain ⟨k1,k2⟩:=g5 j hj
        refine ⟨(k1.move fun y hn hy=>?_).wide hl1 (by simp;omega),?_⟩
        . rcases k1.at_ with g | g
          . exact absurd g hn
          . exact keep _ _ (by omega) hy
        . rcases k1.at_ with g | g
          . exact .inl g
          . exact .inr (by omega)
    . intro i j hij hi' hj'
      rw [List.length_append] at hi' hj'
      by_cases ci:i<ls.length <;> by_cases cj:j<ls.length
      . rw [uat i ci,uat j cj];exact h7 i j hij ci cj
      . obtain ⟨j',rfl⟩:∃ j',j=ls.length+j':=⟨j - ls.length,by omega⟩
        rw [uat i ci,uat2 j' (by omega)];exact cross i j' ci (by omega)
      . obtain ⟨i',rfl⟩:∃ i',i=ls.length+i':=⟨i - ls.length,by omega⟩
        rw [uat j cj,uat2 i' (by omega)]
        rcases cross j i' cj (by omega) with g | g | g
        . exact .inr (.inl g)
        . exact .inl g
        . exact .inr (.inr fun e=>g e.symm)
      . obtain ⟨i',rfl⟩:∃ i',i=ls.length+i':=⟨i - ls.length,by omega⟩
        obtain ⟨j',rfl⟩:∃ j',j=ls.length+j':=⟨j - ls.length,by omega⟩
        rw [uat2 i' (by omega),uat2 j' (by omega)]
        exact g6 i' j' (by omega) (by omega) (by omega)
theorem InL.parts {lo hi:Nat}{e2 e:TypeId}{H:AH}{v:Value}{ls:List (List Int)}(h:InL lo hi e2 e H v ls):∃ us:List Value,RowV e2 H v us/\us.length=ls.length/\∀ i,i<ls.length->InI lo hi e H (us.getD i undef) (ls.getD i []):=by
  rcases h with ⟨h1,h2⟩ | ⟨o,us,h0,h1,h2,h3,h4,h5,h6⟩
  . subst h1;subst h2;exact ⟨[],.inl ⟨rfl,rfl⟩,rfl,fun i hi=>absurd hi (by simp)⟩
  . refine ⟨us.take ls.length,.inr ⟨o,0,us,false,by simp [h0,Nat.min_eq_left h4],h3,by simp;omega,by simp [Nat.min_eq_left h4]⟩,by simp;omega,fun i hi=>?_⟩
    have:(us.take ls.length).getD i undef=us.getD i undef:=by
      rw [List.getD_eq_getElem?_getD,List.getD_eq_getElem?_getD,List.getElem?_take,if_pos hi]
    rw [this]
    exact (h5 i hi).1
def cd81:Cd:=(.seq (.reg [⟨⟨some 4,.alloc 38,none⟩,[]⟩]) (.seq (.reg [⟨⟨some 10,.move (.tmp 0),none⟩,[]⟩,⟨⟨some 11,.build 38 #[(0,.tmp 10)],none⟩,[]⟩,⟨⟨some 5,.alloc 38,none⟩,[]⟩,⟨⟨none,.store 38 (.tmp 5) (.tmp 11),none⟩,[]⟩]) (.seq (.reg [⟨⟨some 12,.fieldAddr 38 (.tmp 5) 0,none⟩,[]⟩,⟨⟨some 13,.load 36 (.tmp 12),none⟩,[]⟩,⟨⟨some 14,.call ⟨(.value (.func 165)),#[.tmp 13,(.func 166)],#[36,136]⟩,none⟩,[]⟩]) (.seq (.seq (.reg [⟨⟨some 15,.fieldAddr 38 (.tmp 5) 0,none⟩,[]⟩,⟨⟨some 16,.load 36 (.tmp 15),none⟩,[]⟩,⟨⟨some 17,.call ⟨(.builtin .len),#[.tmp 16],#[36]⟩,none⟩,[]⟩,⟨⟨some 18,.move (.const (.int .i64 0)),none⟩,[]⟩]) (.block 0 (.loop (.seq (.reg [⟨⟨some 19,.binOp .lss 3 (.tmp 18) (.tmp 17) 3,none⟩,[]⟩]) (.seq (.cond (.tmp 19) .skip (.exit 0)) (.seq (.block 1 (.seq (.reg [⟨⟨some 20,.move (.tmp 18),none⟩,[]⟩,⟨⟨some 21,.indexAddr 36 (.tmp 16) (.tmp 18),none⟩,[]⟩,⟨⟨some 22,.load 27 (.tmp 21),none⟩,[]⟩,⟨⟨some 6,.assign (.tmp 20),none⟩,[]⟩,
 ⟨⟨some 7,.assign (.tmp 22),none⟩,[]⟩]) (.seq (.reg [⟨⟨some 23,.fieldAddr 38 (.tmp 5) 0,none⟩,[]⟩,⟨⟨some 24,.load 36 (.tmp 23),none⟩,[]⟩,⟨⟨some 25,.move (.tmp 6),none⟩,[]⟩,⟨⟨some 26,.binOp .add 3 (.tmp 25) (.const (.int .i64 1)) 3,none⟩,[]⟩,⟨⟨some 27,.slice 36 (.tmp 24) (some (.tmp 26)) none none,none⟩,[]⟩,⟨⟨some 28,.call ⟨(.builtin .len),#[.tmp 27],#[36]⟩,none⟩,[]⟩,⟨⟨some 29,.move (.const (.int .i64 0)),none⟩,[]⟩]) (.block 2 (.loop (.seq (.reg [⟨⟨some 30,.binOp .lss 3 (.tmp 29) (.tmp 28) 3,none⟩,[]⟩]) (.seq (.cond (.tmp 30) .skip (.exit 2)) (.seq (.block 3 (.seq (.reg [⟨⟨some 31,.move (.tmp 29),none⟩,[]⟩,⟨⟨some 32,.indexAddr 36 (.tmp 27) (.tmp 29),none⟩,[]⟩,⟨⟨some 33,.load 27 (.tmp 32),none⟩,[]⟩,⟨⟨some 8,.assign (.tmp 31),none⟩,[]⟩,⟨⟨some 9,.assign (.tmp 33),none⟩,[]⟩]) (.seq (.reg [⟨⟨some 34,.move (.tmp 1),none⟩,[]⟩,⟨⟨some 35,.move (.tmp 7),none⟩,[]⟩,
 ⟨⟨some 36,.move (.tmp 9),none⟩,[]⟩,⟨⟨some 37,.call ⟨(.value (.tmp 34)),#[.tmp 35,.tmp 36],#[27,27]⟩,none⟩,[]⟩]) (.cond (.tmp 37) (.reg [⟨⟨some 38,.fieldAddr 38 (.tmp 5) 1,none⟩,[]⟩,⟨⟨some 39,.load 24 (.tmp 38),none⟩,[]⟩,⟨⟨some 40,.move (.tmp 6),none⟩,[]⟩,⟨⟨some 41,.move (.tmp 6),none⟩,[]⟩,⟨⟨some 42,.binOp .add 3 (.tmp 41) (.const (.int .i64 1)) 3,none⟩,[]⟩,⟨⟨some 43,.move (.tmp 8),none⟩,[]⟩,⟨⟨some 44,.binOp .add 3 (.tmp 42) (.tmp 43) 3,none⟩,[]⟩,⟨⟨some 45,.build 47 #[(0,.tmp 40),(1,.tmp 44)],none⟩,[]⟩,⟨⟨some 46,.buildSlice 24 1 #[(0,.tmp 45)],none⟩,[]⟩,⟨⟨some 47,.call ⟨(.builtin .append),#[.tmp 39,.tmp 46],#[24,24]⟩,none⟩,[]⟩,⟨⟨some 48,.fieldAddr 38 (.tmp 5) 1,none⟩,[]⟩,
 ⟨⟨none,.store 24 (.tmp 48) (.tmp 47),none⟩,[]⟩]) .skip)))) (.reg [⟨⟨some 49,.binOp .add 3 (.tmp 29) (.const (.int .i64 1)) 3,none⟩,[]⟩,
  ⟨⟨some 29,.move (.tmp 49),none⟩,[]⟩]))))))))) (.reg [⟨⟨some 50,.binOp .add 3 (.tmp 18) (.const (.int .i64 1)) 3,none⟩,[]⟩,
  ⟨⟨some 18,.move (.tmp 50),none⟩,[]⟩]))))))) (.seq (.reg [⟨⟨some 51,.load 38 (.tmp 5),none⟩,[]⟩,
  ⟨⟨none,.store 38 (.tmp 4) (.tmp 51),none⟩,[]⟩]) .ret)))))
theorem in81:InT Tryz.prog 81 2 [.cell 4 38] cd81:=InT.mk (by kernel_rfl) [] Tryz.func81 rfl (by kernel_rfl) (by kernel_rfl) (of_decide_eq_true (by kernel_rfl)) (by kernel_rfl)
end Go.Proofs.YtjnefjchconebaaGreat.Ai
namespace Go.Proofs.YtjnefjchconebaaGreat.Ai
open Go Go.RowKit
theorem alloc_sp (H:AH):allocA Tryz.prog 38 H=some (.pointer (some ⟨H.length,0,none⟩),H ++ [.cells [.slice none 0 0,.slice none 0 0] 38 false]):=by kernel_rfl
theorem bld_sp1 (p:Option Addr)(n c:Nat):buildA Tryz.prog 38 [(0,.slice p n c)]=some (.agg (List.toArray [.slice p n c,.slice none 0 0])):=by kernel_rfl
theorem bld_sp2 (p q:Option Addr)(n c m d:Nat):buildA Tryz.prog 38 [(0,.slice p n c),(1,.slice q m d)]=some (.agg (List.toArray [.slice p n c,.slice q m d])):=by kernel_rfl
theorem bld_sp0:buildA Tryz.prog 38 []=some (.agg (List.toArray [.slice none 0 0,.slice none 0 0])):=by kernel_rfl
theorem st_ss {e:TypeId}{H:AH}{o:Nat}{vs:List Value}(ho:H[o]?=some (.cells vs e false))(hv:vs.length=2)(p q:Option Addr)(n c m d:Nat) :
    storeA Tryz.prog 38 (.pointer (some ⟨o,0,none⟩)) (.agg (List.toArray [.slice p n c,.slice q m d])) H=some (H.set o (.cells [.slice p n c,.slice q m d] e false)):=by
  simp only [storeA,ho,cs38]
  have hcl:(Value.agg (List.toArray [.slice p n c,.slice q m d])).cells.toList=[.slice p n c,.slice q m d]:=rfl
  rw [hcl,if_pos ⟨rfl,rfl,by decide,by rw [hv];exact Nat.le_refl 2⟩]
  have:putAt vs 0 [.slice p n c,.slice q m d]=[.slice p n c,.slice q m d]:=by
    unfold putAt
    rw [List.take_zero,List.nil_append,List.drop_of_length_le (by simp;omega),List.append_nil]
  rw [this]
theorem end_cell2 (P:Program)(a b:Nat)(t:TypeId)(R:Value->AH->Prop)(s:Sl)(H:AH)(v w:Value)(h:loadA P t (s a) H=some v)(ht:isTup v=false)(hb:s b=w)(hw:isTup w=false)(hr:R (.tuple (List.toArray [v,w])) H):endA P [.cell a t,.tmp b] R .ret s H:=by
  subst hb
  simp only [endA,resA,h,ht]
  simp [hw,outA]
  exact hr
def stpI (p:List Int->List Int->Bool)(ls:List (List Int))(i:Nat):Nat->List (Int × Int)
  | 0=>[]
  | k+1=>stpI p ls i k ++ if p (ls.getD i []) (ls.getD (i+1+k) [])=true then [((i:Int),((i+1+k:Nat):Int))] else []
def stpO (p:List Int->List Int->Bool)(ls:List (List Int)):Nat->List (Int × Int)
  | 0=>[]
  | i+1=>stpO p ls i ++ stpI p ls i (ls.length - (i+1))
theorem stpI_len (p:List Int->List Int->Bool)(ls:List (List Int))(i k:Nat):(stpI p ls i k).length<=k:=by
  induction k with
  | zero=>simp [stpI]
  | succ k ih=>simp only [stpI,List.length_append];split <;> simp <;> omega
theorem stpO_len (p:List Int->List Int->Bool)(ls:List (List Int))(i:Nat):(stpO p ls i).length<=i * ls.length:=by
  induction i with
  | zero=>simp [stpO]
  | succ i ih =>
    have:=stpI_len p ls i (ls.length - (i+1))
    simp only [stpO,List.length_append,Nat.add_mul,Nat.one_mul]
    omega
abbrev steps (p:List Int->List Int->Bool)(ls:List (List Int)):List (Int × Int):=stpO p ls ls.length
def StepFn (HB:AH)(fS:FuncId)(caps:List Value)(ls:List (List Int))(p:List Int->List Int->Bool):Prop :=
  ∀ (a b:Value) (x y:List Int) (H:AH),HB<+:H->Row 3 H a x->Row 3 H b y->x ∈ ls->y ∈ ls->ACalls Tryz.prog fS (a :: b :: caps) H fun r H'=>r=.bool (p x y)/\H<+:H'
theorem spaceOf_c {HB H:AH}{v:Value}{us:List Value}{ls:List (List Int)}(h:Sts H v us ls)(hls:ls.length<=1000)(fS:FuncId)(caps:List Value)(p:List Int->List Int->Bool)(hS:StepFn HB fS caps ls p)(hp:HB<+:H) :
    ACalls Tryz.prog 81 [v,.func (.func fS) #[] (List.toArray caps)] H fun r H'=>∃ st,r=.agg (List.toArray [v,st])/\MineP 47 H H' st (steps p ls)/\H<+:H':=by
  refine in81 rfl ?_
  intro Q hQ
  have hul:=h.len
  obtain ⟨pv,hpv⟩:=h.row.shape
  have hb1:=bld_sp1 pv us.length us.length
  rw [<- hpv] at hb1
  simp (maxSteps:=1000000) (disch:=omega) only [cd81,alloc_sp,hb1,SS,eq_self,reduceIte,reduceCtorEq,Nat.reduceEqDiff,Nat.reduceAdd]
  generalize hA:H ++ [AObj.cells [.slice none 0 0,.slice none 0 0] 38 false]=A
  have pA:H<+:A:=by rw [<- hA];exact List.prefix_append _ _
  have cA:A[H.length]?=some (.cells [.slice none 0 0,.slice none 0 0] 38 false):=by rw [<- hA];exact at_new ..
  have lA:A.length=H.length+1:=by rw [<- hA];simp
  have st1:=st_ss (at_new A (.cells [.slice none 0 0,.slice none 0 0] 38 false)) rfl pv none us.length us.length 0 0
  rw [set_new,<- hpv] at st1
  simp (maxSteps:=1000000) (disch:=omega) only [st1,cell_new,SS,eq_self,reduceIte,reduceCtorEq,Nat.reduceEqDiff,Nat.reduceAdd]
  generalize hB:A ++ [AObj.cells [v,.slice none 0 0] 38 false]=B
  have pB:A<+:B:=by rw [<- hB];exact List.prefix_append _ _
  have cB:B[A.length]?=some (.cells [v,.slice none 0 0] 38 false):=by rw [<- hB];exact at_new ..
  have lB:B.length=A.length+1:=by rw [<- hB];simp
  have pHB:=pA.trans pB
  refine CallH.by (SortFunc_c (h.pre pHB)) ?_
  rintro _ C pC
  have pHC:=pHB.trans pC
  have lC:=pC.length_le
  have cC:=pre_at pC cB
  have cC0:=pre_at (pB.trans pC) cA
  simp (maxSteps:=1000000) (disch:=omega) only [cell_of cC,h.row.len Tryz.underlying36,hul,SS,eq_self,reduceIte,reduceCtorEq,Nat.reduceEqDiff,Nat.reduceAdd]
  refine LoopH.by (fun m s H'=>∃ i st,m+i=ls.length/\s 1=.func (.func fS) #[] (List.toArray caps)/\s 4=.pointer (some ⟨H.length,0,none⟩)/\s 5=.pointer (some ⟨A.length,0,none⟩)/\s 16=v/\s 17=.int .i64 (ls.length:Int)/\s 18=.int .i64 ((i:Nat):Int)/\H'[A.length]?=some (.cells [v,st] 38 false)/\H'[H.length]?=some (.cells [.slice none 0 0,.slice none 0 0] 38 false)/\(st=.slice none 0 0∨B.length<=rowO st)/\MineP 47 H H' st (stpO p ls i)/\H<+:H') ls.length ?_ ?_
  . exact ⟨0,.slice none 0 0,by simp,rfl,rfl,rfl,rfl,rfl,rfl,cC,cC0,.inl rfl,.inl ⟨rfl,rfl⟩,pHC⟩
  rintro m s H' ⟨i,st,hm,s1,s4,s5,s16,s17,s18,hc5,hc4,hst,hmn,hpp⟩
  simp (maxSteps:=1000000) (disch:=omega) only [s1,s4,s5,s16,s17,s18,SS,eq_self,reduceIte,reduceCtorEq,Nat.reduceEqDiff,Nat.reduceAdd]
  refine brD.intro (fun g=>?_) (fun g=>?_)
  rotate_left
  . have hi:i=ls.length:=by omega
    subst hi
    have hst2:isTup st=false:=hmn.row.tup
    obtain ⟨q,hq⟩:=hmn.row.shape
    have hstA:=st_ss hc4 rfl pv q us.length us.length (stpO p ls ls.length).length (stpO p ls ls.length).length
    rw [<- hpv,<- hq] at hstA
    simp (maxSteps:=1000000) (disch:=omega) only [s4,s5,ld_agg ag38 cs38 hc5,hstA,SS,eq_self,reduceIte,reduceCtorEq,Nat.reduceEqDiff,Nat.reduceAdd]
    have d4:=at_set (d:=.cells [v,st] 38 false) hc4
    refine hQ _ _ _ (end_cell _ _ _ _ _ _ (.agg (List.toArray [v,st])) ?_ rfl ⟨st,rfl,?_,?_⟩)
    . simp (maxSteps:=1000000) (disch:=omega) only [s4,ld_agg ag38 cs38 d4,SS,eq_self,reduceIte,reduceCtorEq,Nat.reduceEqDiff,Nat.reduceAdd]
    . rcases hst with e | e
      . rcases hmn with hm0 | ⟨o,zs,q1,_⟩
        . exact .inl hm0
        . rw [e] at q1;cases q1
      . refine hmn.keepL ?_
        intro hl y hy
        rw [List.getElem?_set_ne (by omega)]
        exact hy
    . exact pre_set hpp (Nat.le_refl _) _
  have hi:i<ls.length:=by omega
  have hH':=h.pre hpp
  have hci:=hH'.cell hi
  have hri:=hH'.each i hi
  have hmi:ls.getD i [] ∈ ls:=by simp [hi]
  have hsl:=hH'.row.slice (P:=Tryz.prog) (t:=36) Tryz.underlying36 cs27 (bound_some (k:=.i64) (i:=(i:Int)+1) (by omega) 0) (hi_none us.length) (show ((i:Int)+1).toNat<=us.length by omega) (Nat.le_refl _)
  have hi1:((i:Int)+1).toNat=i+1:=by omega
  rw [hi1] at hsl
  obtain ⟨hsl1,hsl2,hsl3⟩:=hsl
  have hdl:(us.drop (i+1)).take (us.length - (i+1))=us.drop (i+1):=by rw [List.take_of_length_le (by simp)]
  rw [hdl] at hsl2
  have hdn:((us.drop (i+1)).length:Int)=((ls.length - (i+1):Nat):Int):=by simp;omega
  simp (maxSteps:=1000000) (disch:=omega) only [s1,s4,s5,s16,s17,s18,hH'.row.ix Tryz.underlying36 cs27,Int.toNat_natCast,hci,cell_of hc5,wrap64,hsl1,hsl2.len Tryz.underlying36,hdn,SS,eq_self,reduceIte,reduceCtorEq,Nat.reduceEqDiff,Nat.reduceAdd]
  refine LoopH.by (fun m' s' H''=>∃ j st',m'+j=ls.length - (i+1)/\s' 1=.func (.func fS) #[] (List.toArray caps)/\s' 4=.pointer (some ⟨H.length,0,none⟩)/\s' 5=.pointer (some ⟨A.length,0,none⟩)/\s' 6=.int .i64 ((i:Nat):Int)/\s' 7=us.getD i undef/\s' 16=v/\s' 17=.int .i64 (ls.length:Int)/\s' 18=.int .i64 ((i:Nat):Int)/\s' 27=subV v (i+1) us.length/\s' 28=.int .i64 ((ls.length - (i+1):Nat):Int)/\s' 29=.int .i64 ((j:Nat):Int)/\H''[A.length]?=some (.cells [v,st'] 38 false)/\H''[H.length]?=some (.cells [.slice none 0 0,.slice none 0 0] 38 false)/\(st'=.slice none 0 0∨B.length<=rowO st')/\MineP 47 H H'' st' (stpO p ls i ++ stpI p ls i j)/\H<+:H'') (ls.length - (i+1)) ?_ ?_
  . refine ⟨0,st,by simp,?_⟩
    simp only [SS,eq_self,reduceIte,reduceCtorEq,Nat.reduceEqDiff,Nat.reduceAdd,s1,s4,s5,s16,s17,s18]
    have f0:MineP 47 H H' st (stpO p ls i ++ stpI p ls i 0):=by rw [stpI,List.append_nil];exact hmn
    (repeat' first | exact hc5 | exact hc4 | exact hst | exact f0 | exact hpp | apply And.intro) <;> first | (simp only [Value.int.injEq,true_and];omega) | omega | rfl | assumption | (simp;done) | (simp;omega)
  . rintro m' s' H'' ⟨j,st',hm',g1,g4,g5,g6,g7,g16,g17,g18,g27,g28,g29,hc5',hc4',hst',hmn',hpp'⟩
    simp (maxSteps:=1000000) (disch:=omega) only [g1,g4,g5,g6,g7,g16,g17,g18,g27,g28,g29,SS,eq_self,reduceIte,reduceCtorEq,Nat.reduceEqDiff,Nat.reduceAdd]
    refine brD.intro (fun q=>?_) (fun q=>?_)
    . have hj:i+1+j<ls.length:=by omega
      have hH2:=h.pre hpp'
      have hsl':=hH2.row.slice (P:=Tryz.prog) (t:=36) Tryz.underlying36 cs27 (bound_some (k:=.i64) (i:=(i:Int)+1) (by omega) 0) (hi_none us.length) (show ((i:Int)+1).toNat<=us.length by omega) (Nat.le_refl _)
      rw [hi1,hdl] at hsl'
      obtain ⟨_,hsr,_⟩:=hsl'
      have hjd:j<(us.drop (i+1)).length:=by simp;omega
      have hcj:=hsr.cell hjd
      have hdd:(us.drop (i+1)).getD j undef=us.getD (i+1+j) undef:=by
        rw [List.getD_eq_getElem?_getD,List.getD_eq_getElem?_getD,List.getElem?_drop]
      rw [hdd] at hcj
      have hmj:ls.getD (i+1+j) [] ∈ ls:=by simp [hj]
      simp (maxSteps:=1000000) (disch:=omega) only [g1,g4,g5,g6,g7,g16,g17,g18,g27,g28,g29,hsr.ix Tryz.underlying36 cs27,Int.toNat_natCast,hcj,SS,eq_self,reduceIte,reduceCtorEq,Nat.reduceEqDiff,Nat.reduceAdd]
      refine CallH.by (hS _ _ _ _ H'' (hp.trans hpp') (hH2.each i hi) (hH2.each (i+1+j) hj) hmi hmj) ?_
      rintro _ D ⟨rfl,pD⟩
      have hcD5:=pre_at pD hc5'
      have hcD4:=pre_at pD hc4'
      have hpD:=hpp'.trans pD
      have hmD:=hmn'.pre pD
      have hsl1:=stpO_len p ls i
      have hsl2:=stpI_len p ls i j
      have hmul:i * ls.length<=1000 * 1000:=Nat.mul_le_mul (by omega) hls
      have lD:=hpD.length_le
      have l5:=at_lt hc5'
      simp (maxSteps:=1000000) (disch:=omega) only [SS,eq_self,reduceIte,reduceCtorEq,Nat.reduceEqDiff,Nat.reduceAdd]
      refine brH.intro (fun e=>?_) (fun e=>?_)
      . have hstep:stpI p ls i (j+1)=stpI p ls i j ++ [((i:Int),((i+1+j:Nat):Int))]:=by rw [stpI,if_pos e]
        obtain ⟨st2,H3,k1,k2,k3,k4,k5,k6⟩:=own1_24 hmD hpD (by rw [List.length_append];omega) (i:Int) ((i+1+j:Nat):Int)
        have hne:st'=.slice none 0 0∨∀ o,o<B.length->o ≠ rowO st':=hst'.imp id fun q o ho=>by omega
        have d5:H3[A.length]?=some (.cells [v,st'] 38 false):=k4 _ _ (hne.imp id fun q=>q _ (by omega)) hcD5
        have d4:H3[H.length]?=some (.cells [.slice none 0 0,.slice none 0 0] 38 false):=k4 _ _ (hne.imp id fun q=>q _ (by omega)) hcD4
        obtain ⟨q2,hq2⟩:=k2.row.shape
        have t1:isTup st2=false:=k6
        have t2:st2.cells.toList=[st2]:=by rw [hq2];rfl
        have hst3:=st_at (P:=Tryz.prog) (t:=24) (i:=1) (y:=st2) cs24 d5 (by show 1<2;decide) t1 t2
        have hidx:(i:Int)+1+(j:Int)=((i+1+j:Nat):Int):=by omega
        have lDB:B.length<=D.length:=by have:=hpp'.length_le;have:=pD.length_le;omega
        simp (maxSteps:=1000000) (disch:=omega) only [e,g1,g4,g5,g6,g7,g16,g17,g18,g27,g28,g29,cell_of hcD5,build_a2,wrap64,hidx,k1,hst3,SS,eq_self,reduceIte,reduceCtorEq,Nat.reduceEqDiff,Nat.reduceAdd]
        have f5:(H3.set A.length (.cells ([v,st'].set 1 st2) 38 false))[A.length]?=some (.cells [v,st2] 38 false):=by
          rw [List.getElem?_set_self (at_lt d5)];rfl
        have f4:(H3.set A.length (.cells ([v,st'].set 1 st2) 38 false))[H.length]?=some (.cells [.slice none 0 0,.slice none 0 0] 38 false):=by
          rw [List.getElem?_set_ne (by omega)];exact d4
        have fs':st2=.slice none 0 0∨B.length<=rowO st2:=.inr (by omega)
        have fm:MineP 47 H (H3.set A.length (.cells ([v,st'].set 1 st2) 38 false)) st2 (stpO p ls i ++ stpI p ls i (j+1)):=by
          rw [hstep,<- List.append_assoc]
          exact k2.keepL fun hl y hy=>by rw [List.getElem?_set_ne (by omega)];exact hy
        have fp:H<+:H3.set A.length (.cells ([v,st'].set 1 st2) 38 false):=pre_set k3 (by omega) _
        refine ⟨m' - 1,by omega,j+1,st2,?_⟩
        (repeat' first | exact f5 | exact f4 | exact fs' | exact fm | exact fp | apply And.intro) <;> first | (simp only [Value.int.injEq,true_and];omega) | omega | rfl | assumption | (simp;done) | (simp;omega)
      . have hstep:stpI p ls i (j+1)=stpI p ls i j:=by rw [stpI,if_neg (by rw [e];decide),List.append_nil]
        rw [<- hstep] at hmD
        simp (maxSteps:=1000000) (disch:=omega) only [e,g1,g4,g5,g6,g7,g16,g17,g18,g27,g28,g29,wrap64,SS,eq_self,reduceIte,reduceCtorEq,Nat.reduceEqDiff,Nat.reduceAdd]
        refine ⟨m' - 1,by omega,j+1,st',?_⟩
        (repeat' first | exact hcD5 | exact hcD4 | exact hst' | exact hmD | exact hpD | apply And.intro) <;> first | (simp only [Value.int.injEq,true_and];omega) | omega | rfl | assumption | (simp;done) | (simp;omega)
    . have hjj:j=ls.length - (i+1):=by omega
      subst hjj
      have hstO:stpO p ls (i+1)=stpO p ls i ++ stpI p ls i (ls.length - (i+1)):=rfl
      rw [<- hstO] at hmn'
      simp (maxSteps:=1000000) (disch:=omega) only [g1,g4,g5,g6,g7,g16,g17,g18,g27,g28,g29,wrap64,SS,eq_self,reduceIte,reduceCtorEq,Nat.reduceEqDiff,Nat.reduceAdd]
      refine ⟨m - 1,by omega,i+1,st',?_⟩
      (repeat' first | exact hc5' | exact hc4' | exact hst' | exact hmn' | exact hpp' | apply And.intro) <;> first | (simp only [Value.int.injEq,true_and];omega) | omega | rfl | assumption | (simp;done) | (simp;omega)
def SpRow (H:AH)(a b:Value)(ls:List (List Int))(ps:List (Int × Int)):Prop:=(∃ bd,RowLB bd 27 3 H a ls)/\RowP 47 H b ps
def SpIn (lo hi:Nat)(H:AH)(a b:Value)(ls:List (List Int))(ps:List (Int × Int)):Prop:=∃ mid,lo<=mid/\mid<=hi/\InL lo mid 27 3 H a ls/\InP mid hi 47 H b ps
theorem SpIn.row {lo hi:Nat}{H:AH}{a b:Value}{ls:List (List Int)}{ps:List (Int × Int)}(h:SpIn lo hi H a b ls ps):SpRow H a b ls ps:=by
  obtain ⟨mid,h1,h2,h3,h4⟩:=h
  exact ⟨⟨_,h3.row⟩,h4.row.1⟩
theorem SpIn.pre {lo hi:Nat}{H H':AH}{a b:Value}{ls:List (List Int)}{ps:List (Int × Int)}(h:SpIn lo hi H a b ls ps)(hp:H<+:H'):SpIn lo hi H' a b ls ps:=by
  obtain ⟨mid,h1,h2,h3,h4⟩:=h
  exact ⟨mid,h1,h2,h3.pre hp,h4.pre hp⟩
theorem SpIn.keep {lo hi lo' hi':Nat}{H H':AH}{a b:Value}{ls:List (List Int)}{ps:List (Int × Int)}(h:SpIn lo hi H a b ls ps)(he:ElseR lo' hi' H H')(hl:hi<=lo'∨hi'<=lo):SpIn lo hi H' a b ls ps:=by
  obtain ⟨mid,h1,h2,h3,h4⟩:=h
  exact ⟨mid,h1,h2,h3.keep he (by omega),h4.keep he (by omega)⟩
theorem SpRow.pre {H H':AH}{a b:Value}{ls:List (List Int)}{ps:List (Int × Int)}(h:SpRow H a b ls ps)(hp:H<+:H'):SpRow H' a b ls ps:=⟨h.1.imp fun _ q=>q.pre hp,h.2.pre hp⟩
theorem SpRow.shape {H:AH}{a b:Value}{ls:List (List Int)}{ps:List (Int × Int)}(h:SpRow H a b ls ps):(∃ p n c,a=.slice p n c)/\∃ p n c,b=.slice p n c:=by
  obtain ⟨⟨bd,us,h1,_⟩,h2⟩:=h
  obtain ⟨p,e⟩:=h1.shape
  obtain ⟨q,e2⟩:=h2.shape
  exact ⟨⟨_,_,_,e⟩,⟨_,_,_,e2⟩⟩
theorem SpRow.box {H G:AH}{a b:Value}{ls:List (List Int)}{ps:List (Int × Int)}(h:SpRow G a b ls ps):boxA Tryz.prog 38 (.agg (List.toArray [a,b])) H=some (.pointer (some ⟨H.length,0,none⟩),H ++ [.cells [a,b] 38 false]):=by
  obtain ⟨⟨p,n,c,rfl⟩,⟨q,m,d,rfl⟩⟩:=h.shape
  kernel_rfl
theorem SpRow.store {e:TypeId}{H G:AH}{o:Nat}{vs:List Value}{a b:Value}{ls:List (List Int)}{ps:List (Int × Int)}(h:SpRow G a b ls ps)(ho:H[o]?=some (.cells vs e false))(hv:vs.length=2) :
    storeA Tryz.prog 38 (.pointer (some ⟨o,0,none⟩)) (.agg (List.toArray [a,b])) H=some (H.set o (.cells [a,b] e false)):=by
  obtain ⟨⟨p,n,c,rfl⟩,⟨q,m,d,rfl⟩⟩:=h.shape
  exact st_ss ho hv p q n c m d
def cd35:Cd:=(.seq (.reg [⟨⟨some 4,.assign (.const (.bool false)),none⟩,[]⟩]) (.seq (.seq (.reg [⟨⟨some 6,.move (.tmp 0),none⟩,[]⟩,⟨⟨some 7,.call ⟨(.builtin .len),#[.tmp 6],#[27]⟩,none⟩,[]⟩,⟨⟨some 8,.move (.tmp 1),none⟩,[]⟩,⟨⟨some 9,.call ⟨(.builtin .len),#[.tmp 8],#[27]⟩,none⟩,[]⟩,⟨⟨some 10,.binOp .neq 3 (.tmp 7) (.tmp 9) 3,none⟩,[]⟩]) (.cond (.tmp 10) (.seq (.reg [⟨⟨some 4,.assign (.const (.bool false)),none⟩,[]⟩]) .ret) .skip)) (.seq (.seq (.reg [⟨⟨some 5,.assign (.const (.int .i64 0)),none⟩,[]⟩]) (.block 0 (.loop (.seq (.seq (.reg [⟨⟨some 11,.move (.tmp 5),none⟩,[]⟩,⟨⟨some 12,.move (.tmp 0),none⟩,[]⟩,⟨⟨some 13,.call ⟨(.builtin .len),#[.tmp 12],#[27]⟩,none⟩,[]⟩,⟨⟨some 14,.binOp .lss 3 (.tmp 11) (.tmp 13) 3,none⟩,[]⟩]) (.cond (.tmp 14) .skip (.exit 0))) (.seq (.block 1 (.seq (.reg [⟨⟨some 17,.move (.tmp 0),none⟩,[]⟩,⟨⟨some 18,.move (.tmp 5),none⟩,[]⟩,⟨⟨some 19,.indexAddr 27 (.tmp 17) (.tmp 18),none⟩,[]⟩,⟨⟨some 20,.load 3 (.tmp 19),none⟩,[]⟩,⟨⟨some 21,.move (.tmp 1),none⟩,[]⟩,
 ⟨⟨some 22,.move (.tmp 5),none⟩,[]⟩,
  ⟨⟨some 23,.indexAddr 27 (.tmp 21) (.tmp 22),none⟩,[]⟩,
  ⟨⟨some 24,.load 3 (.tmp 23),none⟩,[]⟩,
  ⟨⟨some 25,.binOp .neq 3 (.tmp 20) (.tmp 24) 3,none⟩,[]⟩]) (.cond (.tmp 25) (.seq (.reg [⟨⟨some 4,.assign (.const (.bool false)),none⟩,[]⟩]) .ret) .skip))) (.reg [⟨⟨some 15,.move (.tmp 5),none⟩,[]⟩,
  ⟨⟨some 16,.binOp .add 3 (.tmp 15) (.const (.int .i64 1)) 3,none⟩,[]⟩,
  ⟨⟨some 5,.assign (.tmp 16),none⟩,[]⟩])))))) (.seq (.reg [⟨⟨some 4,.assign (.const (.bool true)),none⟩,[]⟩]) .ret))))
theorem in35:InT Tryz.prog 35 2 [.tmp 4] cd35:=InT.mk (by kernel_rfl) [(6,[(0,false),(1,false),(2,false),(3,false),(4,false),(5,false),(6,false),(7,false),(8,false)])] Tryz.func35 rfl (by kernel_rfl) (by kernel_rfl) (of_decide_eq_true (by kernel_rfl)) (by kernel_rfl)
def cd126:Cd:=(.seq (.reg [⟨⟨some 4,.assign (.const (.bool false)),none⟩,[]⟩]) (.seq (.seq (.reg [⟨⟨some 6,.move (.tmp 0),none⟩,[]⟩,⟨⟨some 7,.call ⟨(.builtin .len),#[.tmp 6],#[36]⟩,none⟩,[]⟩,⟨⟨some 8,.move (.tmp 1),none⟩,[]⟩,⟨⟨some 9,.call ⟨(.builtin .len),#[.tmp 8],#[36]⟩,none⟩,[]⟩,⟨⟨some 10,.binOp .neq 3 (.tmp 7) (.tmp 9) 3,none⟩,[]⟩]) (.cond (.tmp 10) (.seq (.reg [⟨⟨some 4,.assign (.const (.bool false)),none⟩,[]⟩]) .ret) .skip)) (.seq (.seq (.reg [⟨⟨some 5,.assign (.const (.int .i64 0)),none⟩,[]⟩]) (.block 0 (.loop (.seq (.seq (.reg [⟨⟨some 11,.move (.tmp 5),none⟩,[]⟩,⟨⟨some 12,.move (.tmp 0),none⟩,[]⟩,⟨⟨some 13,.call ⟨(.builtin .len),#[.tmp 12],#[36]⟩,none⟩,[]⟩,⟨⟨some 14,.binOp .lss 3 (.tmp 11) (.tmp 13) 3,none⟩,[]⟩]) (.cond (.tmp 14) .skip (.exit 0))) (.seq (.block 1 (.seq (.reg [⟨⟨some 17,.move (.tmp 0),none⟩,[]⟩,⟨⟨some 18,.move (.tmp 5),none⟩,[]⟩,⟨⟨some 19,.indexAddr 36 (.tmp 17) (.tmp 18),none⟩,[]⟩,⟨⟨some 20,.load 27 (.tmp 19),none⟩,[]⟩,⟨⟨some 21,.move (.tmp 1),none⟩,[]⟩,
 ⟨⟨some 22,.move (.tmp 5),none⟩,[]⟩,
  ⟨⟨some 23,.indexAddr 36 (.tmp 21) (.tmp 22),none⟩,[]⟩,
  ⟨⟨some 24,.load 27 (.tmp 23),none⟩,[]⟩,
  ⟨⟨some 25,.call ⟨(.value (.func 35)),#[.tmp 20,.tmp 24],#[27,27]⟩,none⟩,[]⟩,
  ⟨⟨some 26,.unOp .not 4 (.tmp 25),none⟩,[]⟩]) (.cond (.tmp 26) (.seq (.reg [⟨⟨some 4,.assign (.const (.bool false)),none⟩,[]⟩]) .ret) .skip))) (.reg [⟨⟨some 15,.move (.tmp 5),none⟩,[]⟩,
  ⟨⟨some 16,.binOp .add 3 (.tmp 15) (.const (.int .i64 1)) 3,none⟩,[]⟩,
  ⟨⟨some 5,.assign (.tmp 16),none⟩,[]⟩])))))) (.seq (.reg [⟨⟨some 4,.assign (.const (.bool true)),none⟩,[]⟩]) .ret))))
theorem in126:InT Tryz.prog 126 2 [.tmp 4] cd126:=InT.mk (by kernel_rfl) [(6,[(0,false),(1,false),(2,false),(3,false),(4,false),(5,false),(6,false),(7,false),(8,true),(9,false)])] Tryz.func126 rfl (by kernel_rfl) (by kernel_rfl) (of_decide_eq_true (by kernel_rfl)) (by kernel_rfl)
def cd127:Cd:=(.seq (.reg [⟨⟨some 4,.assign (.const (.bool false)),none⟩,[]⟩]) (.seq (.seq (.reg [⟨⟨some 6,.move (.tmp 0),none⟩,[]⟩,⟨⟨some 7,.call ⟨(.builtin .len),#[.tmp 6],#[24]⟩,none⟩,[]⟩,⟨⟨some 8,.move (.tmp 1),none⟩,[]⟩,⟨⟨some 9,.call ⟨(.builtin .len),#[.tmp 8],#[24]⟩,none⟩,[]⟩,⟨⟨some 10,.binOp .neq 3 (.tmp 7) (.tmp 9) 3,none⟩,[]⟩]) (.cond (.tmp 10) (.seq (.reg [⟨⟨some 4,.assign (.const (.bool false)),none⟩,[]⟩]) .ret) .skip)) (.seq (.seq (.reg [⟨⟨some 5,.assign (.const (.int .i64 0)),none⟩,[]⟩]) (.block 0 (.loop (.seq (.seq (.reg [⟨⟨some 11,.move (.tmp 5),none⟩,[]⟩,⟨⟨some 12,.move (.tmp 0),none⟩,[]⟩,⟨⟨some 13,.call ⟨(.builtin .len),#[.tmp 12],#[24]⟩,none⟩,[]⟩,⟨⟨some 14,.binOp .lss 3 (.tmp 11) (.tmp 13) 3,none⟩,[]⟩]) (.cond (.tmp 14) .skip (.exit 0))) (.seq (.block 1 (.seq (.reg [⟨⟨some 17,.move (.tmp 0),none⟩,[]⟩,⟨⟨some 18,.move (.tmp 5),none⟩,[]⟩,⟨⟨some 19,.indexAddr 24 (.tmp 17) (.tmp 18),none⟩,[]⟩,⟨⟨some 20,.load 47 (.tmp 19),none⟩,[]⟩,⟨⟨some 21,.move (.tmp 1),none⟩,[]⟩,
 ⟨⟨some 22,.move (.tmp 5),none⟩,[]⟩,
  ⟨⟨some 23,.indexAddr 24 (.tmp 21) (.tmp 22),none⟩,[]⟩,
  ⟨⟨some 24,.load 47 (.tmp 23),none⟩,[]⟩,
  ⟨⟨some 25,.binOp .neq 47 (.tmp 20) (.tmp 24) 47,none⟩,[]⟩]) (.cond (.tmp 25) (.seq (.reg [⟨⟨some 4,.assign (.const (.bool false)),none⟩,[]⟩]) .ret) .skip))) (.reg [⟨⟨some 15,.move (.tmp 5),none⟩,[]⟩,
  ⟨⟨some 16,.binOp .add 3 (.tmp 15) (.const (.int .i64 1)) 3,none⟩,[]⟩,
  ⟨⟨some 5,.assign (.tmp 16),none⟩,[]⟩])))))) (.seq (.reg [⟨⟨some 4,.assign (.const (.bool true)),none⟩,[]⟩]) .ret))))
theorem in127:InT Tryz.prog 127 2 [.tmp 4] cd127:=InT.mk (by kernel_rfl) [(6,[(0,false),(1,false),(2,false),(3,false),(4,false),(5,false),(6,false),(7,false),(8,false)])] Tryz.func127 rfl (by kernel_rfl) (by kernel_rfl) (of_decide_eq_true (by kernel_rfl)) (by kernel_rfl)
def cd42:Cd:=(.seq (.reg [⟨⟨some 2,.box 38 (.tmp 0),none⟩,[]⟩,⟨⟨some 3,.box 38 (.tmp 1),none⟩,[]⟩,⟨⟨some 4,.assign (.const (.bool false)),none⟩,[]⟩]) (.seq (.reg [⟨⟨some 5,.fieldAddr 38 (.tmp 2) 0,none⟩,[]⟩,⟨⟨some 6,.load 36 (.tmp 5),none⟩,[]⟩,⟨⟨some 7,.fieldAddr 38 (.tmp 3) 0,none⟩,[]⟩,⟨⟨some 8,.load 36 (.tmp 7),none⟩,[]⟩,⟨⟨some 9,.call ⟨(.value (.func 126)),#[.tmp 6,.tmp 8],#[36,36]⟩,none⟩,[]⟩,⟨⟨some 10,.move (.tmp 9),none⟩,[]⟩,⟨⟨some 11,.fieldAddr 38 (.tmp 2) 1,some (10,true)⟩,[]⟩,⟨⟨some 12,.load 24 (.tmp 11),some (10,true)⟩,[]⟩,⟨⟨some 13,.fieldAddr 38 (.tmp 3) 1,some (10,true)⟩,[]⟩,⟨⟨some 14,.load 24 (.tmp 13),some (10,true)⟩,[]⟩,
 ⟨⟨some 15,.call ⟨(.value (.func 127)),#[.tmp 12,.tmp 14],#[24,24]⟩,some (10,true)⟩,[]⟩,
  ⟨⟨some 16,.pick (.tmp 10) (.tmp 15) (.const (.bool false)),none⟩,[]⟩,
  ⟨⟨some 4,.assign (.tmp 16),none⟩,[]⟩]) .ret))
theorem in42:InT Tryz.prog 42 2 [.tmp 4] cd42:=InT.mk (by kernel_rfl) [] Tryz.func42 rfl (by kernel_rfl) (by kernel_rfl) (of_decide_eq_true (by kernel_rfl)) (by kernel_rfl)
end Go.Proofs.YtjnefjchconebaaGreat.Ai
namespace Go.Proofs.YtjnefjchconebaaGreat.Ai
open Go Go.RowKit
theorem rInts_c (v w:Value)(xs:List Int)(H:AH)(hr:Row 3 H v xs)(hs:Row 3 H w xs)(hl:xs.length<=1000000):ACalls Tryz.prog 35 [v,w] H fun r H'=>r=.bool true/\H=H':=by
  refine in35 rfl ?_
  intro Q hQ
  have e0:¬ ¬ ((xs.length:Nat):Int)=((xs.length:Nat):Int):=fun h=>h rfl
  simp (maxSteps:=1000000) (disch:=omega) only [cd35,hr.len Tryz.underlying27,hs.len Tryz.underlying27,decide_eq_false e0,SS,eq_self,reduceIte,reduceCtorEq,Nat.reduceEqDiff,Nat.reduceAdd]
  refine LoopH.by (fun m s H'=>∃ (i:Nat),m+i=xs.length/\s 0=v/\s 1=w/\s 5=.int .i64 ((i:Nat):Int)/\H=H') xs.length ?_ ?_
  . exact ⟨0,by simp,rfl,rfl,rfl,rfl⟩
  rintro m s H' ⟨i,hm,h0,h1,h5,rfl⟩
  simp (maxSteps:=1000000) (disch:=omega) only [h0,h1,h5,hr.len Tryz.underlying27,SS,eq_self,reduceIte,reduceCtorEq,Nat.reduceEqDiff,Nat.reduceAdd]
  refine brD.intro (fun g=>?_) (fun g=>?_)
  . have hi:i<xs.length:=by omega
    have c1:=hr.cell hi
    have c2:=hs.cell hi
    have e1:¬ ¬ xs.getD i 0=xs.getD i 0:=fun h=>h rfl
    simp (maxSteps:=1000000) (disch:=omega) only [h0,h1,h5,hr.ix Tryz.underlying27 cs3,hs.ix Tryz.underlying27 cs3,Int.toNat_natCast,c1,c2,decide_eq_false e1,wrap64,SS,eq_self,reduceIte,reduceCtorEq,Nat.reduceEqDiff,Nat.reduceAdd]
    refine ⟨m - 1,by omega,i+1,?_⟩
    (repeat' first | exact rfl | apply And.intro) <;> first | (simp only [Value.int.injEq,true_and];omega) | omega | rfl | assumption | (simp;done) | (simp;omega)
  . simp (maxSteps:=1000000) (disch:=omega) only [SS,eq_self,reduceIte,reduceCtorEq,Nat.reduceEqDiff,Nat.reduceAdd]
    refine hQ _ _ _ ?_
    simp (maxSteps:=1000000) (disch:=omega) only [SS,eq_self,reduceIte,reduceCtorEq,Nat.reduceEqDiff,Nat.reduceAdd]
theorem rTable_c {b1 b2:Nat}(v w:Value)(ls:List (List Int))(H:AH)(hr:RowLB b1 27 3 H v ls)(hs:RowLB b2 27 3 H w ls)(hl:ls.length<=1000000)(hll:∀ l ∈ ls,l.length<=1000000):ACalls Tryz.prog 126 [v,w] H fun r H'=>r=.bool true/\H=H':=by
  obtain ⟨us,r1,_,r2,r3⟩:=hr
  obtain ⟨ws,s1,_,s2,s3⟩:=hs
  refine in126 rfl ?_
  intro Q hQ
  have e0:¬ ¬ ((us.length:Nat):Int)=((ws.length:Nat):Int):=fun h=>h (by omega)
  simp (maxSteps:=1000000) (disch:=omega) only [cd126,r1.len Tryz.underlying36,s1.len Tryz.underlying36,decide_eq_false e0,SS,eq_self,reduceIte,reduceCtorEq,Nat.reduceEqDiff,Nat.reduceAdd]
  refine LoopH.by (fun m s H'=>∃ (i:Nat),m+i=ls.length/\s 0=v/\s 1=w/\s 5=.int .i64 ((i:Nat):Int)/\H=H') ls.length ?_ ?_
  . exact ⟨0,by simp,rfl,rfl,rfl,rfl⟩
  rintro m s H' ⟨i,hm,h0,h1,h5,rfl⟩
  simp (maxSteps:=1000000) (disch:=omega) only [h0,h1,h5,r1.len Tryz.underlying36,SS,eq_self,reduceIte,reduceCtorEq,Nat.reduceEqDiff,Nat.reduceAdd]
  refine brD.intro (fun g=>?_) (fun g=>?_)
  . have hi:i<ls.length:=by omega
    have c1:=r1.cell (show i<us.length by omega)
    have c2:=s1.cell (show i<ws.length by omega)
    simp (maxSteps:=1000000) (disch:=omega) only [h0,h1,h5,r1.ix Tryz.underlying36 cs27,s1.ix Tryz.underlying36 cs27,Int.toNat_natCast,c1,c2,SS,eq_self,reduceIte,reduceCtorEq,Nat.reduceEqDiff,Nat.reduceAdd]
    refine CallH.by (rInts_c _ _ (ls.getD i []) H (r3 i hi).1 (s3 i hi).1 (hll _ (by simp [hi]))) ?_
    rintro _ _ ⟨rfl,rfl⟩
    simp (maxSteps:=1000000) (disch:=omega) only [h0,h1,h5,wrap64,SS,eq_self,reduceIte,reduceCtorEq,Nat.reduceEqDiff,Nat.reduceAdd]
    refine ⟨m - 1,by omega,i+1,?_⟩
    (repeat' first | exact rfl | apply And.intro) <;> first | (simp only [Value.int.injEq,true_and];omega) | omega | rfl | assumption | (simp;done) | (simp;omega)
  . simp (maxSteps:=1000000) (disch:=omega) only [SS,eq_self,reduceIte,reduceCtorEq,Nat.reduceEqDiff,Nat.reduceAdd]
    refine hQ _ _ _ ?_
    simp (maxSteps:=1000000) (disch:=omega) only [SS,eq_self,reduceIte,reduceCtorEq,Nat.reduceEqDiff,Nat.reduceAdd]
theorem rPairs_c (v w:Value)(ps:List (Int × Int))(H:AH)(hr:RowP 47 H v ps)(hs:RowP 47 H w ps)(hl:ps.length<=1000000):ACalls Tryz.prog 127 [v,w] H fun r H'=>r=.bool true/\H=H':=by
  refine in127 rfl ?_
  intro Q hQ
  have e0:¬ ¬ ((ps.length:Nat):Int)=((ps.length:Nat):Int):=fun h=>h rfl
  simp (maxSteps:=1000000) (disch:=omega) only [cd127,hr.len Tryz.underlying24,hs.len Tryz.underlying24,decide_eq_false e0,SS,eq_self,reduceIte,reduceCtorEq,Nat.reduceEqDiff,Nat.reduceAdd]
  refine LoopH.by (fun m s H'=>∃ (i:Nat),m+i=ps.length/\s 0=v/\s 1=w/\s 5=.int .i64 ((i:Nat):Int)/\H=H') ps.length ?_ ?_
  . exact ⟨0,by simp,rfl,rfl,rfl,rfl⟩
  rintro m s H' ⟨i,hm,h0,h1,h5,rfl⟩
  simp (maxSteps:=1000000) (disch:=omega) only [h0,h1,h5,hr.len Tryz.underlying24,SS,eq_self,reduceIte,reduceCtorEq,Nat.reduceEqDiff,Nat.reduceAdd]
  refine brD.intro (fun g=>?_) (fun g=>?_)
  . have hi:i<ps.length:=by omega
    have c1:=hr.ld ag47 cs47 hi
    have c2:=hs.ld ag47 cs47 hi
    have e1:∀ a b:Int,binA Tryz.prog .neq 47 (.agg (List.toArray [.int .i64 a,.int .i64 b])) (.agg (List.toArray [.int .i64 a,.int .i64 b]))=some (.bool false):=by
      intro a b
      have h:binA Tryz.prog .neq 47 (.agg (List.toArray [.int .i64 a,.int .i64 b])) (.agg (List.toArray [.int .i64 a,.int .i64 b]))=some (.bool (!(a == a && b == b))):=by kernel_rfl
      rw [h];simp
    simp (maxSteps:=1000000) (disch:=omega) only [h0,h1,h5,hr.ix Tryz.underlying24 cs47,hs.ix Tryz.underlying24 cs47,Int.toNat_natCast,c1,c2,e1,wrap64,SS,eq_self,reduceIte,reduceCtorEq,Nat.reduceEqDiff,Nat.reduceAdd]
    refine ⟨m - 1,by omega,i+1,?_⟩
    (repeat' first | exact rfl | apply And.intro) <;> first | (simp only [Value.int.injEq,true_and];omega) | omega | rfl | assumption | (simp;done) | (simp;omega)
  . simp (maxSteps:=1000000) (disch:=omega) only [SS,eq_self,reduceIte,reduceCtorEq,Nat.reduceEqDiff,Nat.reduceAdd]
    refine hQ _ _ _ ?_
    simp (maxSteps:=1000000) (disch:=omega) only [SS,eq_self,reduceIte,reduceCtorEq,Nat.reduceEqDiff,Nat.reduceAdd]
theorem rSpace_c (a b c d:Value)(ls:List (List Int))(ps:List (Int × Int))(H:AH)(hr:SpRow H a b ls ps)(hr2:SpRow H c d ls ps)(hl:ls.length<=1000000)(hll:∀ l ∈ ls,l.length<=1000000)(hp:ps.length<=1000000) :
    ACalls Tryz.prog 42 [.agg (List.toArray [a,b]),.agg (List.toArray [c,d])] H fun r H'=>r=.bool true/\H<+:H':=by
  refine in42 rfl ?_
  intro Q hQ
  simp (maxSteps:=1000000) (disch:=omega) only [cd42,hr.box,hr2.box,SS,eq_self,reduceIte,reduceCtorEq,Nat.reduceEqDiff,Nat.reduceAdd]
  generalize hA:H ++ [AObj.cells [a,b] 38 false]=A
  have pA:H<+:A:=by rw [<- hA];exact List.prefix_append _ _
  have a0:A[H.length]?=some (.cells [a,b] 38 false):=by rw [<- hA];exact at_new ..
  generalize hB:A ++ [AObj.cells [c,d] 38 false]=B
  have pB:A<+:B:=by rw [<- hB];exact List.prefix_append _ _
  have b0:=pre_at pB a0
  have b1:B[A.length]?=some (.cells [c,d] 38 false):=by rw [<- hB];exact at_new ..
  have pHB:=pA.trans pB
  obtain ⟨⟨bd,r1⟩,r2⟩:=hr.pre pHB
  obtain ⟨⟨bd2,r3⟩,r4⟩:=hr2.pre pHB
  simp (maxSteps:=1000000) (disch:=omega) only [cell_of b0,cell_of b1,SS,eq_self,reduceIte,reduceCtorEq,Nat.reduceEqDiff,Nat.reduceAdd]
  refine CallH.by (rTable_c a c ls B r1 r3 hl hll) ?_
  rintro _ _ ⟨rfl,rfl⟩
  simp (maxSteps:=1000000) (disch:=omega) only [cell_of b0,cell_of b1,SS,eq_self,reduceIte,reduceCtorEq,Nat.reduceEqDiff,Nat.reduceAdd]
  refine CallH.by (rPairs_c b d ps B r2 r4 hp) ?_
  rintro _ _ ⟨rfl,rfl⟩
  simp (maxSteps:=1000000) (disch:=omega) only [SS,eq_self,reduceIte,reduceCtorEq,Nat.reduceEqDiff,Nat.reduceAdd]
  refine hQ _ _ _ ?_
  simp (maxSteps:=1000000) (disch:=omega) only [SS,eq_self,reduceIte,reduceCtorEq,Nat.reduceEqDiff,Nat.reduceAdd]
  exact pHB
def bfsIn (d:Int):List Int->List Int × List Int->List Int × List Int
  | [],st=>st
  | j :: r,st=>if st.1.getD j.toNat 0<0 then bfsIn d r (st.1.set j.toNat d,st.2 ++ [j]) else bfsIn d r st
def bfsF (L:List (List Int)):Nat->List Int × List Int->Nat->List Int
  | 0,st,_=>st.1
  | f+1,st,k=>if k<st.2.length then bfsF L f (bfsIn (st.1.getD (st.2.getD k 0).toNat 0+1) (L.getD (st.2.getD k 0).toNat []) st) (k+1) else st.1
def bfs0 (N i:Nat):List Int:=(List.replicate N (-1)).set i 0
def bfs (L:List (List Int))(i:Nat):List Int:=bfsF L (L.length+1) (bfs0 L.length i,[(i:Int)]) 0
def LOk (N:Nat)(L:List (List Int)):Prop:=∀ i,∀ y ∈ L.getD i [],0<=y/\y<N
structure BI (N:Nat) (st:List Int × List Int):Prop where
  len:st.1.length=N
  q:∀ x ∈ st.2,(0<=x/\x<N)/\0<=st.1.getD x.toNat 0
  lo:∀ v,v<N -> -1<=st.1.getD v 0/\st.1.getD v 0<st.2.length
  cnt:st.2.length+st.1.countP (·<0)=N
theorem countP_set_neg (xs:List Int)(j:Nat)(d:Int)(hj:j<xs.length)(h:xs.getD j 0<0)(hd:0<=d):(xs.set j d).countP (·<0)+1=xs.countP (·<0):=by
  induction xs generalizing j with
  | nil=>simp at hj
  | cons x xs ih =>
    cases j with
    | zero =>
      have hx:x<0:=by simpa using h
      simp only [List.set_cons_zero,List.countP_cons]
      simp only [decide_eq_true_eq]
      rw [if_neg (by omega),if_pos hx]
    | succ j =>
      have:=ih j (by simpa using hj) (by simpa using h)
      simp only [List.set_cons_succ,List.countP_cons]
      omega
theorem BI.len_le {N:Nat}{st:List Int × List Int}(h:BI N st):st.2.length<=N:=by have:=h.cnt;omega
theorem getD_setB (xs:List Int)(j v:Nat)(d:Int)(hv:v<xs.length):(xs.set j d).getD v 0=if j=v then d else xs.getD v 0:=by
  rw [List.getD_eq_getElem?_getD,List.getD_eq_getElem?_getD,List.getElem?_set]
  by_cases h:j=v
  . subst h;rw [if_pos rfl,if_pos rfl,if_pos hv];rfl
  . rw [if_neg h,if_neg h]
theorem BI.put {N:Nat}{st:List Int × List Int}(h:BI N st){j d:Int}(hj:0<=j/\j<N)(hn:st.1.getD j.toNat 0<0)(hd:0<=d/\d<=st.2.length):BI N (st.1.set j.toNat d,st.2 ++ [j]):=by
  have hl:=h.len
  refine ⟨by simp [hl],?_,?_,?_⟩
  . intro x hx
    simp only [List.mem_append,List.mem_cons,List.not_mem_nil,or_false] at hx
    rcases hx with hx | rfl
    . obtain ⟨h1,h2⟩:=h.q x hx
      refine ⟨h1,?_⟩
      show 0<=(st.1.set j.toNat d).getD x.toNat 0
      rw [getD_setB _ _ _ _ (by omega)]
      split <;> omega
    . refine ⟨hj,?_⟩
      show 0<=(st.1.set x.toNat d).getD x.toNat 0
      rw [getD_setB _ _ _ _ (by omega),if_pos rfl];omega
  . intro v hv
    have:=h.lo v hv
    show -1<=(st.1.set j.toNat d).getD v 0/\(st.1.set j.toNat d).getD v 0<((st.2 ++ [j]).length:Nat)
    rw [getD_setB _ _ _ _ (by omega)]
    simp only [List.length_append,List.length_cons,List.length_nil]
    split <;> omega
  . have:=countP_set_neg st.1 j.toNat d (by omega) hn hd.1
    have:=h.cnt
    show (st.2 ++ [j]).length+(st.1.set j.toNat d).countP (·<0)=N
    simp only [List.length_append,List.length_cons,List.length_nil]
    omega
theorem bfs0_BI (N i:Nat)(hi:i<N):BI N (bfs0 N i,[(i:Int)]):=by
  have hat:∀ v,v<N->(bfs0 N i).getD v 0=if i=v then 0 else -1:=by
    intro v hv
    unfold bfs0
    rw [getD_setB _ _ _ _ (by simpa using hv)]
    split
    . rfl
    . rw [List.getD_eq_getElem?_getD,List.getElem?_replicate,if_pos hv];rfl
  refine ⟨by simp [bfs0],?_,?_,?_⟩
  . intro x hx
    simp only [List.mem_cons,List.not_mem_nil,or_false] at hx
    subst hx
    refine ⟨by omega,?_⟩
    show 0<=(bfs0 N i).getD (i:Int).toNat 0
    rw [Int.toNat_natCast,hat i hi,if_pos rfl];omega
  . intro v hv
    show -1<=(bfs0 N i).getD v 0/\(bfs0 N i).getD v 0<_
    rw [hat v hv]
    simp only [List.length_cons,List.length_nil]
    split <;> omega
  . show [(i:Int)].length+(bfs0 N i).countP (·<0)=N
    have:=countP_set_neg (List.replicate N (-1)) i 0 (by simpa using hi) (by rw [List.getD_eq_getElem?_getD,List.getElem?_replicate,if_pos hi];decide) (by omega)
    have h2:(List.replicate N (-1:Int)).countP (·<0)=N:=by rw [List.countP_replicate];simp
    unfold bfs0
    simp only [List.length_cons,List.length_nil]
    omega
theorem BI.inn {N:Nat}{d:Int}:∀ (l:List Int) {st:List Int × List Int},BI N st->(∀ y ∈ l,0<=y/\y<N)->(0<=d/\d<=st.2.length)->BI N (bfsIn d l st)
  | [],st,h,_,_=>h
  | j :: r,st,h,hl,hd=>by
    simp only [bfsIn]
    split
    . rename_i hn
      refine BI.inn r (h.put (hl j (by simp)) hn hd) (fun y hy=>hl y (by simp [hy])) ?_
      simp only [List.length_append,List.length_cons,List.length_nil]
      omega
    . exact BI.inn r h (fun y hy=>hl y (by simp [hy])) hd
theorem bfsF_done (L:List (List Int))(f:Nat)(st:List Int × List Int)(k:Nat)(h:st.2.length<=k):bfsF L f st k=st.1:=by
  cases f with
  | zero=>rfl
  | succ f=>simp only [bfsF];rw [if_neg (by omega)]
theorem bfsF_step (L:List (List Int))(f:Nat)(st:List Int × List Int)(k:Nat)(h:k<st.2.length):bfsF L (f+1) st k=bfsF L f (bfsIn (st.1.getD (st.2.getD k 0).toNat 0+1) (L.getD (st.2.getD k 0).toNat []) st) (k+1):=by
  simp only [bfsF];rw [if_pos h]
theorem bfsIn_pre (d:Int):∀ (l:List Int) (st:List Int × List Int),st.2<+:(bfsIn d l st).2
  | [],st=>List.prefix_refl _
  | j :: r,st=>by
    simp only [bfsIn]
    split
    . exact (List.prefix_append st.2 [j]).trans (bfsIn_pre d r (st.1.set j.toNat d,st.2 ++ [j]))
    . exact bfsIn_pre d r st
theorem bfs_BI (L:List (List Int))(hL:LOk L.length L):∀ (f:Nat) (st:List Int × List Int) (k:Nat),BI L.length st->∃ q,BI L.length (bfsF L f st k,q)
  | 0,st,k,h=>⟨st.2,h⟩
  | f+1,st,k,h=>by
    simp only [bfsF]
    split
    . rename_i hk
      have hm:st.2.getD k 0 ∈ st.2:=by simp [hk]
      obtain ⟨h1,h2⟩:=h.q _ hm
      have h3:=h.lo (st.2.getD k 0).toNat (by omega)
      exact bfs_BI L hL f _ _ (BI.inn _ h (hL _) (by omega))
    . exact ⟨st.2,h⟩
theorem bfs_rng (L:List (List Int))(hL:LOk L.length L)(i:Nat)(hi:i<L.length):(bfs L i).length=L.length/\∀ v,v<L.length -> -1<=(bfs L i).getD v 0/\(bfs L i).getD v 0<L.length:=by
  obtain ⟨q,h⟩:=bfs_BI L hL (L.length+1) _ 0 (bfs0_BI L.length i hi)
  have:=h.len_le
  refine ⟨h.len,fun v hv=>?_⟩
  have:=h.lo v hv
  exact ⟨this.1,by have h2:(bfs L i).getD v 0<(q.length:Int):=this.2;have h3:q.length<=L.length:=h.len_le;omega⟩
structure DI (L:List (List Int)) (i:Nat) (st:List Int × List Int) (k:Nat):Prop where
  bi:BI L.length st
  iff:∀ v,v<L.length->(0<=st.1.getD v 0↔(v:Int) ∈ st.2)
  src:∀ v,v<L.length->0<=st.1.getD v 0->(v=i/\st.1.getD v 0=0)∨∃ u,u<L.length/\0<=st.1.getD u 0/\(v:Int) ∈ L.getD u []/\st.1.getD v 0=st.1.getD u 0+1
  cl:∀ j,j<k->∀ y ∈ L.getD (st.2.getD j 0).toNat [],0<=st.1.getD y.toNat 0
  le:k<=st.2.length
  at_:0<=st.1.getD i 0
theorem bfsIn_keep (d:Int)(v:Nat):∀ (l:List Int) (st:List Int × List Int),(∀ y ∈ l,0<=y/\y<st.1.length)->0<=st.1.getD v 0->(bfsIn d l st).1.getD v 0=st.1.getD v 0
  | [],st,_,_=>rfl
  | j :: r,st,hl,h=>by
    simp only [bfsIn]
    have hj:=hl j (by simp)
    split
    . rename_i hn
      have hvj:j.toNat ≠ v:=fun e=>by rw [e] at hn;omega
      have e1:(st.1.set j.toNat d).getD v 0=st.1.getD v 0:=by
        rw [List.getD_eq_getElem?_getD,List.getD_eq_getElem?_getD,List.getElem?_set_ne hvj]
      rw [bfsIn_keep d v r _ (fun y hy=>by simpa using hl y (by simp [hy])) (by show 0<=(st.1.set j.toNat d).getD v 0;rw [e1];exact h)]
      exact e1
    . exact bfsIn_keep d v r st (fun y hy=>hl y (by simp [hy])) h
theorem bfsIn_new (d:Int)(hd:0<=d)(v:Nat):∀ (l:List Int) (st:List Int × List Int),(∀ y ∈ l,0<=y/\y<st.1.length)->v<st.1.length->st.1.getD v 0<0 ->
    (((v:Int) ∈ l/\(bfsIn d l st).1.getD v 0=d/\(v:Int) ∈ (bfsIn d l st).2)∨((v:Int) ∉ l/\(bfsIn d l st).1.getD v 0=st.1.getD v 0/\((v:Int) ∈ (bfsIn d l st).2->(v:Int) ∈ st.2)))
  | [],st,_,_,h=>.inr ⟨by simp,rfl,id⟩
  | j :: r,st,hl,hv,h=>by
    have hj:=hl j (by simp)
    simp only [bfsIn]
    by_cases e:j=(v:Int)
    . subst e
      rw [Int.toNat_natCast,if_pos h]
      have e1:(st.1.set v d).getD v 0=d:=by rw [getD_setB _ _ _ _ hv,if_pos rfl]
      refine .inl ⟨by simp,?_,?_⟩
      . rw [bfsIn_keep d v r _ (fun y hy=>by simpa using hl y (by simp [hy])) (by show 0<=(st.1.set v d).getD v 0;rw [e1];exact hd)]
        exact e1
      . exact (bfsIn_pre d r _).subset (by simp)
    . have hne:¬ (v:Int)=j:=fun h=>e h.symm
      split
      . rename_i hn
        have e1:(st.1.set j.toNat d).getD v 0=st.1.getD v 0:=by
          rw [getD_setB _ _ _ _ hv,if_neg (by omega)]
        rcases bfsIn_new d hd v r (st.1.set j.toNat d,st.2 ++ [j]) (fun y hy=>by simpa using hl y (by simp [hy])) (by simpa using hv) (by show (st.1.set j.toNat d).getD v 0<0;rw [e1];exact h) with ⟨h1,h2,h3⟩ | ⟨h1,h2,h3⟩
        . exact .inl ⟨by simp [h1],h2,h3⟩
        . refine .inr ⟨by simp [hne,h1],by rw [h2];exact e1,fun h4=>?_⟩
          have:=h3 h4
          simpa [hne] using this
      . rcases bfsIn_new d hd v r st (fun y hy=>hl y (by simp [hy])) hv h with ⟨h1,h2,h3⟩ | ⟨h1,h2,h3⟩
        . exact .inl ⟨by simp [h1],h2,h3⟩
        . exact .inr ⟨by simp [hne,h1],h2,h3⟩
theorem DI.step {L:List (List Int)}(hL:LOk L.length L){i:Nat}{st:List Int × List Int}{k:Nat}(h:DI L i st k)(hk:k<st.2.length) :
    DI L i (bfsIn (st.1.getD (st.2.getD k 0).toNat 0+1) (L.getD (st.2.getD k 0).toNat []) st) (k+1):=by
  have hm:st.2.getD k 0 ∈ st.2:=by simp [hk]
  obtain ⟨hxr,hx0⟩:=h.bi.q _ hm
  have hlo:=h.bi.lo (st.2.getD k 0).toNat (by omega)
  have hlen:=h.bi.len
  generalize hx:(st.2.getD k 0).toNat=x at *
  generalize hd:st.1.getD x 0+1=d at *
  have hl:=hL x
  have hl':∀ y ∈ L.getD x [],0<=y/\y<(st.1.length:Int):=by rw [hlen];exact hl
  have hbi:=BI.inn (d:=d) _ h.bi hl (by omega)
  have hpre:=bfsIn_pre d (L.getD x []) st
  have keep:∀ v,0<=st.1.getD v 0->_:=fun v hv=>bfsIn_keep d v (L.getD x []) st hl' hv
  have new:∀ v,v<L.length->st.1.getD v 0<0->_:=fun v hv hn=>bfsIn_new d (by omega) v (L.getD x []) st hl' (by omega) hn
  refine ⟨hbi,?_,?_,?_,?_,?_⟩
  . intro v hv
    by_cases hn:0<=st.1.getD v 0
    . rw [keep v hn]
      exact ⟨fun _=>hpre.subset ((h.iff v hv).1 hn),fun _=>hn⟩
    . rcases new v hv (by omega) with ⟨h1,h2,h3⟩ | ⟨h1,h2,h3⟩
      . rw [h2];exact ⟨fun _=>h3,fun _=>by omega⟩
      . rw [h2];exact ⟨fun g=>absurd g hn,fun g=>(h.iff v hv).2 (h3 g)⟩
  . intro v hv hp
    by_cases hn:0<=st.1.getD v 0
    . rw [keep v hn]
      rcases h.src v hv hn with h1 | ⟨u,u1,u2,u3,u4⟩
      . exact .inl h1
      . exact .inr ⟨u,u1,by rw [keep u u2];exact u2,u3,by rw [keep u u2];exact u4⟩
    . rcases new v hv (by omega) with ⟨h1,h2,h3⟩ | ⟨h1,h2,h3⟩
      . refine .inr ⟨x,by omega,by rw [keep x hx0];exact hx0,h1,?_⟩
        rw [h2,keep x hx0,<- hd]
      . rw [h2] at hp;exact absurd hp hn
  . intro j hj y hy
    have hg:(bfsIn d (L.getD x []) st).2.getD j 0=st.2.getD j 0:=by
      obtain ⟨t,ht⟩:=hpre
      rw [<- ht,List.getD_eq_getElem?_getD,List.getElem?_append_left (by omega),<- List.getD_eq_getElem?_getD]
    rw [hg] at hy
    by_cases hn:0<=st.1.getD y.toNat 0
    . rw [keep _ hn];exact hn
    . by_cases e:j=k
      . subst e
        rw [hx] at hy
        have hr:=hl y hy
        rcases new y.toNat (by omega) (by omega) with ⟨h1,h2,h3⟩ | ⟨h1,h2,h3⟩
        . rw [h2];omega
        . rw [Int.toNat_of_nonneg hr.1] at h1;exact absurd hy h1
      . exact absurd (h.cl j (by omega) y hy) hn
  . have:=hpre.length_le
    omega
  . rw [keep i h.at_];exact h.at_
theorem DI.run {L:List (List Int)}(hL:LOk L.length L){i:Nat}:∀ (f:Nat) (st:List Int × List Int) (k:Nat),f+k=L.length+1->DI L i st k->∃ q,DI L i (bfsF L f st k,q) q.length
  | 0,st,k,hf,h=>by have:=h.bi.len_le;have:=h.le;omega
  | f+1,st,k,hf,h=>by
    simp only [bfsF]
    split
    . rename_i hk
      exact DI.run hL f _ _ (by omega) (h.step hL hk)
    . have e:k=st.2.length:=by have:=h.le;omega
      exact ⟨st.2,by rw [<- e];exact h⟩
theorem DI.zero {L:List (List Int)}{i:Nat}(hi:i<L.length):DI L i (bfs0 L.length i,[(i:Int)]) 0:=by
  have hat:∀ v,v<L.length->(bfs0 L.length i).getD v 0=if i=v then 0 else -1:=by
    intro v hv
    unfold bfs0
    rw [getD_setB _ _ _ _ (by simpa using hv)]
    split
    . rfl
    . rw [List.getD_eq_getElem?_getD,List.getElem?_replicate,if_pos hv];rfl
  refine ⟨bfs0_BI _ i hi,?_,?_,fun j hj=>absurd hj (Nat.not_lt_zero j),Nat.zero_le _,?_⟩
  . intro v hv
    show 0<=(bfs0 L.length i).getD v 0↔(v:Int) ∈ [(i:Int)]
    rw [hat v hv,List.mem_singleton]
    split <;> omega
  . intro v hv h
    left
    have h':0<=(bfs0 L.length i).getD v 0:=h
    rw [hat v hv] at h'
    show v=i/\(bfs0 L.length i).getD v 0=0
    rw [hat v hv]
    by_cases e:i=v
    . exact ⟨e.symm,by rw [if_pos e]⟩
    . rw [if_neg e] at h';omega
  . show 0<=(bfs0 L.length i).getD i 0
    rw [hat i hi,if_pos rfl];omega
theorem bfs_DI {L:List (List Int)}(hL:LOk L.length L){i:Nat}(hi:i<L.length):∃ q,DI L i (bfs L i,q) q.length:=DI.run hL _ _ _ (by omega) (DI.zero hi)
theorem bfs_clo {L:List (List Int)}(hL:LOk L.length L){i:Nat}(hi:i<L.length){u:Nat}(hu:u<L.length)(h0:0<=(bfs L i).getD u 0){y:Int}(hy:y ∈ L.getD u []):0<=(bfs L i).getD y.toNat 0:=by
  obtain ⟨q,h⟩:=bfs_DI hL hi
  obtain ⟨j,hj,e⟩:=List.mem_iff_getElem.1 ((h.iff u hu).1 h0)
  refine h.cl j hj y ?_
  have e2:q.getD j 0=(u:Int):=by simp [hj,e]
  show y ∈ L.getD (q.getD j 0).toNat []
  rw [e2,Int.toNat_natCast];exact hy
def dq (st:List Int × List Int)(a:Nat):Int:=st.1.getD (st.2.getD a 0).toNat 0
theorem bfsIn_mono (d:Int)(hd:0<=d):∀ (l:List Int) (st:List Int × List Int),(∀ y ∈ l,0<=y/\y<st.1.length)->(∀ x ∈ st.2,(0<=x/\x<st.1.length)/\0<=st.1.getD x.toNat 0) ->
    (∀ a b,a<=b->b<st.2.length->dq st a<=dq st b)->(∀ b,b<st.2.length->dq st b<=d) ->
    (∀ a b,a<=b->b<(bfsIn d l st).2.length->dq (bfsIn d l st) a<=dq (bfsIn d l st) b)/\∀ b,b<(bfsIn d l st).2.length->dq (bfsIn d l st) b<=d
  | [],st,_,_,h1,h2=>⟨h1,h2⟩
  | j :: r,st,hl,hq,h1,h2=>by
    have hj:=hl j (by simp)
    simp only [bfsIn]
    split
    . rename_i hn
      have keep:∀ a,a<st.2.length->dq (st.1.set j.toNat d,st.2 ++ [j]) a=dq st a:=by
        intro a ha
        have hm:st.2.getD a 0 ∈ st.2:=by simp [ha]
        have hx:=hq _ hm
        unfold dq
        have e1:(st.2 ++ [j]).getD a 0=st.2.getD a 0:=by
          rw [List.getD_eq_getElem?_getD,List.getElem?_append_left ha,<- List.getD_eq_getElem?_getD]
        show (st.1.set j.toNat d).getD ((st.2 ++ [j]).getD a 0).toNat 0=_
        rw [e1,getD_setB _ _ _ _ (by omega),if_neg (fun e=>by rw [e] at hn;omega)]
      have last:dq (st.1.set j.toNat d,st.2 ++ [j]) st.2.length=d:=by
        unfold dq
        show (st.1.set j.toNat d).getD ((st.2 ++ [j]).getD st.2.length 0).toNat 0=d
        rw [show (st.2 ++ [j]).getD st.2.length 0=j by simp,getD_setB _ _ _ _ (by omega),if_pos rfl]
      refine bfsIn_mono d hd r _ (fun y hy=>by simpa using hl y (by simp [hy])) ?_ ?_ ?_
      . intro x hx
        rcases List.mem_append.1 hx with hx | hx
        . have:=hq x hx
          refine ⟨by simpa using this.1,?_⟩
          show 0<=(st.1.set j.toNat d).getD x.toNat 0
          rw [getD_setB _ _ _ _ (by omega)]
          split <;> omega
        . rw [List.mem_singleton] at hx;subst hx
          refine ⟨by simpa using hj,?_⟩
          show 0<=(st.1.set x.toNat d).getD x.toNat 0
          rw [getD_setB _ _ _ _ (by omega),if_pos rfl];exact hd
      . intro a b hab hb
        have hb':b<st.2.length+1:=by simpa using hb
        by_cases eb:b=st.2.length
        . subst eb
          rw [last]
          by_cases ea:a=st.2.length
          . subst ea;rw [last];exact Int.le_refl _
          . rw [keep a (by omega)];exact h2 a (by omega)
        . rw [keep b (by omega),keep a (by omega)];exact h1 a b hab (by omega)
      . intro b hb
        have hb':b<st.2.length+1:=by simpa using hb
        by_cases eb:b=st.2.length
        . subst eb;rw [last];exact Int.le_refl _
        . rw [keep b (by omega)];exact h2 b (by omega)
    . exact bfsIn_mono d hd r st (fun y hy=>hl y (by simp [hy])) hq h1 h2
structure DS (L:List (List Int)) (i:Nat) (st:List Int × List Int) (k:Nat):Prop where
  di:DI L i st k
  zero:st.1.getD i 0=0
  mono:∀ a b,a<=b->b<st.2.length->dq st a<=dq st b
  near:∀ a b,k<=a->a<st.2.length->b<st.2.length->dq st b<=dq st a+1
  ed:∀ a,a<k->∀ y ∈ L.getD (st.2.getD a 0).toNat [],0<=st.1.getD y.toNat 0/\st.1.getD y.toNat 0<=dq st a+1
theorem DS.step {L:List (List Int)}(hL:LOk L.length L){i:Nat}(hi:i<L.length){st:List Int × List Int}{k:Nat}(h:DS L i st k)(hk:k<st.2.length) :
    DS L i (bfsIn (st.1.getD (st.2.getD k 0).toNat 0+1) (L.getD (st.2.getD k 0).toNat []) st) (k+1):=by
  have hd1:=h.di.step hL hk
  have hm:st.2.getD k 0 ∈ st.2:=by simp [hk]
  obtain ⟨hxr,hx0⟩:=h.di.bi.q _ hm
  have hlen:=h.di.bi.len
  have hl:=hL (st.2.getD k 0).toNat
  have hdk:dq st k+1=st.1.getD (st.2.getD k 0).toNat 0+1:=rfl
  have hl':∀ y ∈ L.getD (st.2.getD k 0).toNat [],0<=y/\y<(st.1.length:Int):=by rw [hlen];exact hl
  have hmono:=bfsIn_mono (dq st k+1) (by unfold dq;omega) _ st hl' (fun x hx=>by have:=h.di.bi.q x hx;rw [hlen];exact this) h.mono (fun b hb=>h.near k b (Nat.le_refl _) hk hb)
  have hpre:=bfsIn_pre (dq st k+1) (L.getD (st.2.getD k 0).toNat []) st
  have keep:∀ v,0<=st.1.getD v 0->_:=fun v hv=>bfsIn_keep (dq st k+1) v (L.getD (st.2.getD k 0).toNat []) st hl' hv
  have gq:∀ a,a<st.2.length->(bfsIn (dq st k+1) (L.getD (st.2.getD k 0).toNat []) st).2.getD a 0=st.2.getD a 0:=by
    intro a ha
    obtain ⟨t,ht⟩:=hpre
    rw [<- ht,List.getD_eq_getElem?_getD,List.getElem?_append_left ha,<- List.getD_eq_getElem?_getD]
  have kq:∀ a,a<st.2.length->dq (bfsIn (dq st k+1) (L.getD (st.2.getD k 0).toNat []) st) a=dq st a:=by
    intro a ha
    have hma:st.2.getD a 0 ∈ st.2:=by simp [ha]
    unfold dq at *
    rw [gq a ha]
    exact keep _ (h.di.bi.q _ hma).2
  have hpl:=hpre.length_le
  rw [<- hdk] at hd1 ⊢
  refine ⟨hd1,?_,hmono.1,?_,?_⟩
  . rw [keep i (by rw [h.zero];exact Int.le_refl _)];exact h.zero
  . intro a b ha hal hb
    have h1:=hmono.2 b hb
    have h2:=hmono.1 k a (by omega) hal
    rw [kq k hk] at h2
    omega
  . intro a ha y hy
    rw [gq a (by omega)] at hy
    by_cases e:a=k
    . subst e
      rw [kq a hk]
      have hyr:=hl y hy
      by_cases hn:0<=st.1.getD y.toNat 0
      . rw [keep _ hn]
        refine ⟨hn,?_⟩
        have hin:=(h.di.iff y.toNat (by omega)).1 hn
        rw [Int.toNat_of_nonneg hyr.1] at hin
        obtain ⟨b,hb,eb⟩:=List.mem_iff_getElem.1 hin
        have e2:st.2.getD b 0=y:=by simp [hb,eb]
        have:=h.near a b (Nat.le_refl _) hk hb
        have e3:dq st b=st.1.getD y.toNat 0:=by unfold dq;rw [e2]
        rw [e3] at this;exact this
      . rcases bfsIn_new (dq st a+1) (by unfold dq;omega) y.toNat _ st hl' (by omega) (by omega) with ⟨_,g2,_⟩ | ⟨g1,_⟩
        . rw [g2];exact ⟨by unfold dq;omega,Int.le_refl _⟩
        . rw [Int.toNat_of_nonneg hyr.1] at g1;exact absurd hy g1
    . rw [kq a (by omega)]
      have h1:=h.ed a (by omega) y hy
      rw [keep _ h1.1];exact h1
theorem DS.run {L:List (List Int)}(hL:LOk L.length L){i:Nat}(hi:i<L.length):∀ (f:Nat) (st:List Int × List Int) (k:Nat),f+k=L.length+1->DS L i st k->∃ q,DS L i (bfsF L f st k,q) q.length
  | 0,st,k,hf,h=>by have:=h.di.bi.len_le;have:=h.di.le;omega
  | f+1,st,k,hf,h=>by
    simp only [bfsF]
    split
    . rename_i hk
      exact DS.run hL hi f _ _ (by omega) (h.step hL hi hk)
    . have e:k=st.2.length:=by have:=h.di.le;omega
      exact ⟨st.2,by rw [<- e];exact h⟩
theorem bfs_DS {L:List (List Int)}(hL:LOk L.length L){i:Nat}(hi:i<L.length):∃ q,DS L i (bfs L i,q) q.length:=by
  refine DS.run hL hi _ _ _ (by omega) ⟨DI.zero hi,?_,?_,?_,fun a ha=>absurd ha (Nat.not_lt_zero a)⟩
  . show (bfs0 L.length i).getD i 0=0
    unfold bfs0
    rw [getD_setB _ _ _ _ (by simpa using hi),if_pos rfl]
  . intro a b hab hb
    have hb':b<1:=hb
    have e1:a=0:=by omega
    have e2:b=0:=by omega
    rw [e1,e2];exact Int.le_refl _
  . intro a b _ ha hb
    have ha':a<1:=ha
    have hb':b<1:=hb
    have e1:a=0:=by omega
    have e2:b=0:=by omega
    rw [e1,e2];omega
theorem bfs_zero {L:List (List Int)}(hL:LOk L.length L){i:Nat}(hi:i<L.length):(bfs L i).getD i 0=0:=by
  obtain ⟨q,h⟩:=bfs_DS hL hi
  exact h.zero
theorem bfs_edge {L:List (List Int)}(hL:LOk L.length L){i:Nat}(hi:i<L.length){u:Nat}(hu:u<L.length)(h0:0<=(bfs L i).getD u 0){y:Int}(hy:y ∈ L.getD u []):0<=(bfs L i).getD y.toNat 0/\(bfs L i).getD y.toNat 0<=(bfs L i).getD u 0+1:=by
  obtain ⟨q,h⟩:=bfs_DS hL hi
  obtain ⟨j,hj,e⟩:=List.mem_iff_getElem.1 ((h.di.iff u hu).1 h0)
  have e2:q.getD j 0=(u:Int):=by simp [hj,e]
  have:=h.ed j hj y (by show y ∈ L.getD (q.getD j 0).toNat [];rw [e2,Int.toNat_natCast];exact hy)
  have e3:dq (bfs L i,q) j=(bfs L i).getD u 0:=by unfold dq;show (bfs L i).getD (q.getD j 0).toNat 0=_;rw [e2,Int.toNat_natCast]
  rw [e3] at this
  exact this
def Sym (L:List (List Int)):Prop:=∀ u v:Nat,u<L.length->v<L.length->(v:Int) ∈ L.getD u []->(u:Int) ∈ L.getD v []
theorem bfs_back {L:List (List Int)}(hL:LOk L.length L)(hs:Sym L){i w:Nat}(hi:i<L.length)(hw:w<L.length):∀ (d:Nat) (v:Nat),v<L.length->(bfs L i).getD v 0=d->∀ e:Nat,(bfs L w).getD v 0=e->0<=(bfs L w).getD i 0/\(bfs L w).getD i 0<=(e:Int)+d:=by
  obtain ⟨q,h⟩:=bfs_DS hL hi
  intro d
  induction d with
  | zero =>
    intro v hv hd e he
    rcases h.di.src v hv (show 0<=(bfs L i).getD v 0 by omega) with ⟨e1,_⟩ | ⟨u,u1,u2,u3,u4⟩
    . subst e1;rw [he];omega
    . have u2':0<=(bfs L i).getD u 0:=u2
      have u4':(bfs L i).getD v 0=(bfs L i).getD u 0+1:=u4
      omega
  | succ d ih =>
    intro v hv hd e he
    rcases h.di.src v hv (show 0<=(bfs L i).getD v 0 by omega) with ⟨_,e1⟩ | ⟨u,u1,u2,u3,u4⟩
    . have e1':(bfs L i).getD v 0=0:=e1
      omega
    . have u4':(bfs L i).getD v 0=(bfs L i).getD u 0+1:=u4
      have hb:=bfs_edge hL hw hv (by omega) (hs u v u1 hv u3)
      rw [Int.toNat_natCast] at hb
      have:=ih u u1 (by omega) ((bfs L w).getD u 0).toNat (by omega)
      omega
theorem bfs_sym {L:List (List Int)}(hL:LOk L.length L)(hs:Sym L){i j:Nat}(hi:i<L.length)(hj:j<L.length)(h0:0<=(bfs L i).getD j 0):(bfs L j).getD i 0=(bfs L i).getD j 0:=by
  have zi:=bfs_zero hL hi
  have zj:=bfs_zero hL hj
  have h1:=bfs_back hL hs hi hj ((bfs L i).getD j 0).toNat j hj (by omega) 0 (by omega)
  have h2:=bfs_back hL hs hj hi ((bfs L j).getD i 0).toNat i hi (by omega) 0 (by omega)
  omega
theorem cmpI_swap (a b:Int):cmpI b a = - cmpI a b:=by unfold cmpI;split <;> split <;> (try split) <;> omega
theorem cmpI_lt {a b:Int}:cmpI a b<0↔a<b:=by unfold cmpI;split <;> (try split) <;> omega
theorem cmpI_eq {a b:Int}:cmpI a b=0↔a=b:=by unfold cmpI;split <;> (try split) <;> omega
theorem cmpL_swap:∀ a b:List Int,cmpL b a = - cmpL a b
  | [],[]=>rfl
  | [],_ :: _=>rfl
  | _ :: _,[]=>rfl
  | x :: a,y :: b=>by
    rw [cmpL,cmpL,cmpI_swap x y]
    by_cases h:cmpI x y=0
    . rw [if_neg (by omega),if_neg (by omega)];exact cmpL_swap a b
    . rw [if_pos (by omega),if_pos h]
theorem cmpL_zero:∀ {a b:List Int},cmpL a b=0->a=b
  | [],[],_=>rfl
  | [],_ :: _,h=>by simp [cmpL] at h
  | _ :: _,[],h=>by simp [cmpL] at h
  | x :: a,y :: b,h=>by
    rw [cmpL] at h
    by_cases e:cmpI x y=0
    . rw [if_neg (by omega)] at h
      rw [cmpI_eq.1 e,cmpL_zero h]
    . rw [if_pos e] at h;exact absurd h e
theorem cmpL_trans:∀ {a b c:List Int},cmpL a b<0->cmpL b c<0->cmpL a c<0
  | [],[],_,h,_=>by simp [cmpL] at h
  | [],_ :: _,[],_,h=>by simp [cmpL] at h
  | [],_ :: _,_ :: _,_,_=>by simp [cmpL]
  | _ :: _,[],_,h,_=>by simp [cmpL] at h
  | _ :: _,_ :: _,[],_,h=>by simp [cmpL] at h
  | x :: a,y :: b,z :: c,h1,h2=>by
    rw [cmpL] at h1 h2 ⊢
    have e1:=cmpI_lt (a:=x) (b:=y)
    have e2:=cmpI_lt (a:=y) (b:=z)
    have e3:=cmpI_lt (a:=x) (b:=z)
    have f1:=cmpI_eq (a:=x) (b:=y)
    have f2:=cmpI_eq (a:=y) (b:=z)
    have f3:=cmpI_eq (a:=x) (b:=z)
    by_cases q1:cmpI x y=0 <;> by_cases q2:cmpI y z=0
    . rw [if_neg (by omega)] at h1 h2
      rw [if_neg (by omega)]
      exact cmpL_trans h1 h2
    . rw [if_pos q2] at h2
      rw [if_pos (by omega)];omega
    . rw [if_pos q1] at h1
      rw [if_pos (by omega)];omega
    . rw [if_pos q1] at h1
      rw [if_pos q2] at h2
      rw [if_pos (by omega)];omega
theorem srt_lt {ls:List (List Int)}(h:SrtL ls){i j:Nat}(hij:i<j)(hj:j<ls.length):cmpL (ls.getD i []) (ls.getD j [])<0:=by
  have:=h i j hij hj
  rw [cmpL_swap];omega
theorem srt_uniq {ls:List (List Int)}(h:SrtL ls){i j:Nat}(hi:i<ls.length)(hj:j<ls.length)(e:ls.getD i []=ls.getD j []):i=j:=by
  rcases Nat.lt_trichotomy i j with q | q | q
  . have:=srt_lt h q hj;rw [e,cmpL_self] at this;omega
  . exact q
  . have:=srt_lt h q hi;rw [e,cmpL_self] at this;omega
theorem srt_dn {ls:List (List Int)}(h:SrtL ls){t:List Int}{i j:Nat}(hij:i<=j)(hj:j<ls.length)(hc:cmpL (ls.getD j []) t<0):cmpL (ls.getD i []) t<0:=by
  by_cases e:i=j
  . subst e;exact hc
  . exact cmpL_trans (srt_lt h (by omega) hj) hc
theorem mem_at {ls:List (List Int)}{t:List Int}(h:t ∈ ls):∃ i,i<ls.length/\ls.getD i []=t:=by
  obtain ⟨i,hi,e⟩:=List.mem_iff_getElem.1 h
  exact ⟨i,hi,by simp [hi,e]⟩
def nxS (L:List (List Int))(far:List Int)(i:Int):Int:=((L.getD i.toNat []).find? fun k=>decide (far.getD k.toNat 0=far.getD i.toNat 0 - 1)).getD i
def wyS (L:List (List Int))(far:List Int)(j:Int):Nat->Int->List Int
  | 0,i=>[i]
  | f+1,i=>if i=j then [i] else i :: wyS L far j f (nxS L far i)
theorem wyS_head (L:List (List Int))(far:List Int)(j:Int)(f:Nat)(i:Int):wyS L far j f i=i :: (wyS L far j f i).tail:=by
  cases f with
  | zero=>rfl
  | succ f=>simp only [wyS];split <;> rfl
theorem wyS_end (L:List (List Int))(far:List Int)(j:Int)(f:Nat):wyS L far j f j=[j]:=by
  cases f with
  | zero=>rfl
  | succ f=>rw [wyS,if_pos rfl]
section
variable {L:List (List Int)} (hL:LOk L.length L) (hs:Sym L) {j:Nat} (hj:j<L.length)
include hL hs hj
theorem nx_ok {d:Nat}{i:Nat}(hi:i<L.length)(hd:(bfs L j).getD i 0=((d+1:Nat):Int)):nxS L (bfs L j) (i:Int) ∈ L.getD i []/\(bfs L j).getD (nxS L (bfs L j) (i:Int)).toNat 0=(d:Int)/\((L.getD i []).find? fun k=>decide ((bfs L j).getD k.toNat 0=(bfs L j).getD i 0 - 1))=some (nxS L (bfs L j) (i:Int)):=by
  obtain ⟨q,h⟩:=bfs_DI hL hj
  have hex:∃ k ∈ L.getD i [],(bfs L j).getD k.toNat 0=(bfs L j).getD i 0 - 1:=by
    rcases h.src i hi (show 0<=(bfs L j).getD i 0 by omega) with ⟨_,e1⟩ | ⟨u,u1,u2,u3,u4⟩
    . have e1':(bfs L j).getD i 0=0:=e1
      omega
    . have u4':(bfs L j).getD i 0=(bfs L j).getD u 0+1:=u4
      exact ⟨(u:Int),hs u i u1 hi u3,by rw [Int.toNat_natCast];omega⟩
  unfold nxS
  rw [Int.toNat_natCast]
  cases hf:(L.getD i []).find? fun k=>decide ((bfs L j).getD k.toNat 0=(bfs L j).getD i 0 - 1) with
  | none =>
    obtain ⟨k,k1,k2⟩:=hex
    have:=List.find?_eq_none.1 hf k k1
    simp only [decide_eq_true_eq] at this
    exact absurd k2 this
  | some k =>
    have h1:=List.mem_of_find?_eq_some hf
    have h2:=List.find?_some hf
    simp only [decide_eq_true_eq] at h2
    exact ⟨h1,by show (bfs L j).getD k.toNat 0=d;omega,rfl⟩
theorem far_pos {i:Nat}(hi:i<L.length)(h0:0<=(bfs L j).getD i 0)(hne:i ≠ j):1<=(bfs L j).getD i 0:=by
  have _:=hs
  obtain ⟨q,h⟩:=bfs_DI hL hj
  rcases h.src i hi h0 with ⟨e1,_⟩ | ⟨u,u1,u2,u3,u4⟩
  . exact absurd e1 hne
  . have u2':0<=(bfs L j).getD u 0:=u2
    have u4':(bfs L j).getD i 0=(bfs L j).getD u 0+1:=u4
    omega
theorem wy_len:∀ (d i:Nat),i<L.length->(bfs L j).getD i 0=(d:Int)->(wyS L (bfs L j) (j:Int) d (i:Int)).length=d+1/\∀ z ∈ wyS L (bfs L j) (j:Int) d (i:Int),0<=z/\z<L.length
  | 0,i,hi,hd=>by
    refine ⟨rfl,fun z hz=>?_⟩
    simp only [wyS,List.mem_singleton] at hz
    omega
  | d+1,i,hi,hd=>by
    have hne:¬ (i:Int)=j:=fun e=>by
      have:i=j:=by omega
      subst this
      rw [bfs_zero hL hj] at hd
      omega
    obtain ⟨h1,h2,_⟩:=nx_ok hL hs hj hi hd
    have hr:=hL i _ h1
    obtain ⟨k,hk⟩:∃ k:Nat,nxS L (bfs L j) (i:Int)=k:=⟨(nxS L (bfs L j) (i:Int)).toNat,by omega⟩
    rw [hk,Int.toNat_natCast] at h2
    have ih:=wy_len d k (by omega) h2
    simp only [wyS]
    rw [if_neg hne,hk]
    refine ⟨by rw [List.length_cons,ih.1],fun z hz=>?_⟩
    rcases List.mem_cons.1 hz with rfl | hz
    . omega
    . exact ih.2 z hz
end
def cd122:Cd:=(.seq (.reg [⟨⟨some 4,.alloc 47,none⟩,[]⟩]) (.seq (.reg [⟨⟨some 5,.move (.tmp 0),none⟩,[]⟩,
  ⟨⟨some 6,.move (.tmp 1),none⟩,[]⟩,
  ⟨⟨some 7,.call ⟨(.builtin .min),#[.tmp 5,.tmp 6],#[3,3]⟩,none⟩,[]⟩,
  ⟨⟨some 8,.move (.tmp 0),none⟩,[]⟩,
  ⟨⟨some 9,.move (.tmp 1),none⟩,[]⟩,
  ⟨⟨some 10,.call ⟨(.builtin .max),#[.tmp 8,.tmp 9],#[3,3]⟩,none⟩,[]⟩,
  ⟨⟨some 11,.build 47 #[(0,.tmp 7),(1,.tmp 10)],none⟩,[]⟩,
  ⟨⟨none,.store 47 (.tmp 4) (.tmp 11),none⟩,[]⟩]) .ret))
theorem in122:InT Tryz.prog 122 2 [.cell 4 47] cd122:=InT.mk (by kernel_rfl) [] Tryz.func122 rfl (by kernel_rfl) (by kernel_rfl) (of_decide_eq_true (by kernel_rfl)) (by kernel_rfl)
end Go.Proofs.YtjnefjchconebaaGreat.Ai
namespace Go.Proofs.YtjnefjchconebaaGreat.Ai
open Go Go.RowKit
theorem pair_c (a b:Int)(H:AH):ACalls Tryz.prog 122 [.int .i64 a,.int .i64 b] H fun r H'=>r=.agg (List.toArray [.int .i64 (minI a b),.int .i64 (maxI a b)])/\H<+:H':=by
  refine in122 rfl ?_
  intro Q hQ
  have st:=store_a2 H [.int .i64 0,.int .i64 0] rfl
  simp (maxSteps:=1000000) (disch:=omega) only [cd122,alloc_a2,build_a2,st,SS,eq_self,reduceIte,reduceCtorEq,Nat.reduceEqDiff,Nat.reduceAdd]
  refine hQ _ _ _ (end_cell _ _ _ _ _ _ (.agg (List.toArray [.int .i64 (minI a b),.int .i64 (maxI a b)])) ?_ rfl ⟨rfl,List.prefix_append _ _⟩)
  simp only [SS,eq_self,reduceIte,reduceCtorEq,Nat.reduceEqDiff,Nat.reduceAdd]
  exact load_a2 ..
def adj1 (L:List (List Int))(e:Int × Int):List (List Int):=(L.set e.1.toNat (L.getD e.1.toNat [] ++ [e.2])).set e.2.toNat (L.getD e.2.toNat [] ++ [e.1])
def adjL (n:Nat)(ps:List (Int × Int)):List (List Int):=ps.foldl adj1 (List.replicate n [])
theorem adj1_len (L:List (List Int))(e:Int × Int):(adj1 L e).length=L.length:=by simp [adj1]
theorem adjF_len:∀ (ps:List (Int × Int)) (L:List (List Int)),(ps.foldl adj1 L).length=L.length
  | [],L=>rfl
  | e :: ps,L=>by rw [List.foldl_cons,adjF_len ps,adj1_len]
theorem adjL_len (n:Nat)(ps:List (Int × Int)):(adjL n ps).length=n:=by unfold adjL;rw [adjF_len];simp
theorem mk_lists {n:Int}(h0:0<=n)(h1:n<=1099511627776)(H:AH) :
    makeSliceA Tryz.prog 36 (.int .i64 n) (.int .i64 n) H=some (.slice (some ⟨H.length,0,none⟩) n.toNat n.toNat,H ++ [.cells (List.replicate n.toNat (.slice none 0 0)) 27 false]):=by
  have hb2:n.toNat * Tryz.prog.bytesOf 27<=281474976710656:=by
    rw [by27];omega
  have hzc:(Value.slice none 0 0).cells=#[.slice none 0 0]:=rfl
  have hzs:zerosA (.slice none 0 0) (n.toNat * 1)=List.replicate n.toNat (.slice none 0 0):=by
    unfold zerosA
    rw [hzc,Nat.mul_one]
    apply List.ext_getElem
    . simp
    . intro i h1 h2
      simp [Nat.mod_one]
  simp only [makeSliceA,Tryz.underlying36,cs27,ze27]
  rw [if_pos ⟨trivial,h0,by omega,hb2,by omega⟩,if_pos ⟨by simp [plainCs,hzc,plainC],by simp [hzc]⟩,hzs]
theorem own_base {e:TypeId}{H0 H1 H:AH}{v:Value}{xs:List Int}(h:Own e H0 H v xs)(hl:H1.length<=H0.length):Own e H1 H v xs:=by
  rcases h with h | ⟨o,h1,h2,h3⟩
  . exact .inl h
  . exact .inr ⟨o,h1,by omega,h3⟩
theorem own_keep {e:TypeId}{H0 H H':AH}{v:Value}{xs:List Int}(h:Own e H0 H v xs)(hh:∀ y,v ≠ .slice none 0 0->H[rowO v]?=some y->H'[rowO v]?=some y):Own e H0 H' v xs:=by
  rcases h with h | ⟨o,h1,h2,h3⟩
  . exact .inl h
  . exact .inr ⟨o,h1,h2,by subst h1;exact hh _ (by intro e;cases e) h3⟩
theorem own_nil {e:TypeId}{H0 H:AH}{v:Value}{xs:List Int}(h:Own e H0 H v xs):v=.slice none 0 0∨(H0.length<=rowO v/\rowO v<H.length):=by
  rcases h with h | ⟨o,h1,h2,h3⟩
  . exact .inl h.1
  . subst h1;exact .inr ⟨h2,at_lt h3⟩
structure Adj (C G:AH) (o:Nat) (us:List Value) (L:List (List Int)):Prop where
  at_:G[o]?=some (.cells us 27 false)
  olt:o<C.length
  len:us.length=L.length
  el:∀ i,i<L.length->Own 3 C G (us.getD i undef) (L.getD i [])
  ap:∀ i j,i ≠ j->i<L.length->j<L.length->Apart (us.getD i undef) (us.getD j undef)
  keep:∀ (j:Nat) (y:AObj),j ≠ o->C[j]?=some y->G[j]?=some y
  le:C.length<=G.length
theorem Adj.ne {C G:AH}{o:Nat}{us:List Value}{L:List (List Int)}(h:Adj C G o us L){i:Nat}(hi:i<L.length):us.getD i undef=.slice none 0 0∨rowO (us.getD i undef) ≠ o:=by
  rcases own_nil (h.el i hi) with g | g
  . exact .inl g
  . right;have:=h.olt;omega
theorem Adj.inU {C G:AH}{o lo:Nat}{us:List Value}{L:List (List Int)}(h:Adj C G o us L)(hlo:lo<=o):InU lo G.length 27 3 G o us L:=by
  have:=h.olt
  refine ⟨hlo,at_lt h.at_,h.at_,by rw [h.len];exact Nat.le_refl _,fun i hi=>⟨(InI.of (h.el i hi).mine).wide (by omega) (Nat.le_refl _),h.ne hi⟩,h.ap⟩
theorem Adj.pre {C G G':AH}{o:Nat}{us:List Value}{L:List (List Int)}(h:Adj C G o us L)(hp:G<+:G'):Adj C G' o us L :=
  ⟨pre_at hp h.at_,h.olt,h.len,fun i hi=>own_keep (h.el i hi) fun y _ hy=>pre_at hp hy,h.ap,fun j y hj hy=>pre_at hp (h.keep j y hj hy),Nat.le_trans h.le hp.length_le⟩
theorem Adj.upd1 {C G K:AH}{o x:Nat}{us:List Value}{L:List (List Int)}(h:Adj C G o us L)(hx:x<L.length){v1:Value}{l1:List Int}
    (h1:Own 3 C K v1 l1)(g1:G.length<=rowO v1)(hl:G.length<=K.length)
    (hk:∀ (j:Nat) (z:AObj),(us.getD x undef=.slice none 0 0∨j ≠ rowO (us.getD x undef))->G[j]?=some z->K[j]?=some z) :
    Adj C (K.set o (.cells (us.set x v1) 27 false)) o (us.set x v1) (L.set x l1):=by
  have hol:=h.olt
  have hle:=h.le
  have hul:=h.len
  have ax:us.getD x undef=.slice none 0 0∨o ≠ rowO (us.getD x undef):=(h.ne hx).imp id fun e=>fun q=>e q.symm
  have ko:=hk o _ ax h.at_
  have gu:∀ i,(us.set x v1).getD i undef=if x=i then (if x<us.length then v1 else undef) else us.getD i undef:=by
    intro i
    rw [List.getD_eq_getElem?_getD,List.getElem?_set]
    by_cases e1:x=i
    . rw [if_pos e1,if_pos e1,if_pos (by omega),if_pos (by omega)];rfl
    . rw [if_neg e1,if_neg e1,List.getD_eq_getElem?_getD]
  have gl:∀ i,(L.set x l1).getD i []=if x=i then (if x<L.length then l1 else []) else L.getD i []:=by
    intro i
    rw [List.getD_eq_getElem?_getD,List.getElem?_set]
    by_cases e1:x=i
    . rw [if_pos e1,if_pos e1,if_pos (by omega),if_pos (by omega)];rfl
    . rw [if_neg e1,if_neg e1,List.getD_eq_getElem?_getD]
  have setk:∀ {j:Nat} {z:AObj},j ≠ o->K[j]?=some z->(K.set o (.cells (us.set x v1) 27 false))[j]?=some z:=fun hj hz=>by
    rw [List.getElem?_set_ne (fun e=>hj e.symm)];exact hz
  have old:∀ i,i<L.length->i ≠ x->us.getD i undef ≠ .slice none 0 0->rowO (us.getD i undef)<G.length/\∀ z,G[rowO (us.getD i undef)]?=some z->K[rowO (us.getD i undef)]?=some z:=by
    intro i hi ix hn
    rcases own_nil (h.el i hi) with q | q
    . exact absurd q hn
    refine ⟨q.2,fun z hz=>hk _ _ ?_ hz⟩
    rcases h.ap i x ix hi hx with q1 | q1 | q1
    . exact .inl q1
    . exact absurd q1 hn
    . exact .inr q1
  refine ⟨at_set ko,hol,by simp [hul],fun i hi=>?_,fun i j hij hi hj=>?_,fun j z hj hz=>?_,by simp;omega⟩
  . rw [List.length_set] at hi
    rw [gu,gl]
    by_cases e1:x=i
    . rw [if_pos e1,if_pos e1,if_pos (by omega),if_pos (by omega)]
      exact own_keep h1 fun z _ hz=>setk (by omega) hz
    . rw [if_neg e1,if_neg e1]
      refine own_keep (h.el i hi) fun z hn hz=>?_
      have hq:=old i hi (fun e=>e1 e.symm) hn
      refine setk ?_ (hq.2 z hz)
      rcases h.ne hi with q | q
      . exact absurd q hn
      . exact q
  . rw [List.length_set] at hi hj
    have far:∀ (q:Nat) (v:Value),q<L.length->q ≠ x->G.length<=rowO v->us.getD q undef=.slice none 0 0∨rowO (us.getD q undef) ≠ rowO v:=by
      intro q v hq qx hv
      by_cases hn:us.getD q undef=.slice none 0 0
      . exact .inl hn
      . right;have:=(old q hq qx hn).1;omega
    rw [gu,gu]
    by_cases e1:x=i
    . rw [if_pos e1,if_pos (by omega),if_neg (show ¬ x=j by omega)]
      rcases far j v1 hj (by omega) g1 with q | q
      . exact .inl q
      . exact .inr (.inr fun e=>q e.symm)
    . rw [if_neg e1]
      by_cases e4:x=j
      . rw [if_pos e4,if_pos (by omega)]
        rcases far i v1 hi (fun e=>e1 e.symm) g1 with q | q
        . exact .inr (.inl q)
        . exact .inr (.inr q)
      . rw [if_neg e4];exact h.ap i j hij hi hj
  . refine setk hj ?_
    have hC:us.getD x undef=.slice none 0 0∨j ≠ rowO (us.getD x undef):=by
      have hjl:=at_lt hz
      rcases own_nil (h.el x hx) with g | g
      . exact .inl g
      . right;omega
    exact hk j z hC (h.keep j z hj hz)
theorem Adj.same {C G K:AH}{o x:Nat}{us:List Value}{L:List (List Int)}(h:Adj C G o us L)(hx:x<L.length)(h1:Own 3 C K (us.getD x undef) (L.getD x []))(he:Else (us.getD x undef) G K):Adj C K o us L:=by
  have ax:us.getD x undef=.slice none 0 0∨o ≠ rowO (us.getD x undef):=(h.ne hx).imp id fun e=>fun q=>e q.symm
  refine ⟨he.2 _ _ ax h.at_,h.olt,h.len,fun i hi=>?_,h.ap,fun j z hj hz=>he.2 _ _ ?_ (h.keep j z hj hz),by rw [he.1];exact h.le⟩
  . by_cases e:i=x
    . subst e;exact h1
    . refine own_keep (h.el i hi) fun z hn hz=>he.2 _ _ ?_ hz
      rcases h.ap i x e hi hx with q | q | q
      . exact .inl q
      . exact absurd q hn
      . exact .inr q
  . have hjl:=at_lt hz
    rcases own_nil (h.el x hx) with g | g
    . exact .inl g
    . right;omega
theorem Adj.app1 {C G:AH}{o x:Nat}{us:List Value}{L:List (List Int)}(h:Adj C G o us L)(hx:x<L.length)(hb:(L.getD x []).length<=1000000)(y:Int) :
    ∃ v K,appendA Tryz.prog 27 27 (us.getD x undef) (.slice (some ⟨G.length,0,none⟩) 1 1) (G ++ [.cells [.int .i64 y] 3 false])=some (v,K) /\
      (∀ (j:Nat) (z:AObj),(us.getD x undef=.slice none 0 0∨j ≠ rowO (us.getD x undef))->G[j]?=some z->K[j]?=some z)/\K[o]?=some (.cells us 27 false)/\isTup v=false/\v.cells.toList=[v] /\
      Adj C (K.set o (.cells (us.set x v) 27 false)) o (us.set x v) (L.set x (L.getD x [] ++ [y])):=by
  have hox:=h.el x hx
  have hle:=h.le
  have hlC:(G.take C.length).length=C.length:=by simp;omega
  have ox2:Own 3 (G.take C.length) G (us.getD x undef) (L.getD x []):=own_base hox (by omega)
  obtain ⟨v,K,j1,j2,j3,j4,j5,j6⟩:=own1_27 ox2 (List.take_prefix _ _) (by omega) y
  have hjC:Own 3 C K v (L.getD x [] ++ [y]):=own_base j2 (by omega)
  have ax:us.getD x undef=.slice none 0 0∨o ≠ rowO (us.getD x undef):=(h.ne hx).imp id fun e=>fun q=>e q.symm
  have hlK:G.length<=K.length:=by
    rcases own_nil hjC with q | q
    . have h1:(L.getD x [] ++ [y]).length=0:=by
        rcases hjC with ⟨_,q1⟩ | ⟨o',q1,_⟩
        . rw [q1];rfl
        . rw [q1] at q;cases q
      simp at h1
    . omega
  obtain ⟨p,hp⟩:=j2.row.shape
  exact ⟨v,K,j1,fun j z hj hz=>j4 j z hj hz,j4 o _ ax h.at_,j6,by rw [hp];rfl,h.upd1 hx hjC j5 hlK fun j z hj hz=>j4 j z hj hz⟩
def cd91:Cd:=(.seq (.reg [⟨⟨some 1,.box 38 (.tmp 0),none⟩,[]⟩,⟨⟨some 2,.assign (.const (.slice none 0 0)),none⟩,[]⟩]) (.seq (.reg [⟨⟨some 8,.fieldAddr 38 (.tmp 1) 0,none⟩,[]⟩,⟨⟨some 9,.load 36 (.tmp 8),none⟩,[]⟩,⟨⟨some 10,.call ⟨(.builtin .len),#[.tmp 9],#[36]⟩,none⟩,[]⟩,⟨⟨some 11,.makeSlice 36 (.tmp 10) (.tmp 10),none⟩,[]⟩,⟨⟨some 3,.assign (.tmp 11),none⟩,[]⟩]) (.seq (.seq (.reg [⟨⟨some 12,.fieldAddr 38 (.tmp 1) 1,none⟩,[]⟩,⟨⟨some 13,.load 24 (.tmp 12),none⟩,[]⟩,⟨⟨some 14,.call ⟨(.builtin .len),#[.tmp 13],#[24]⟩,none⟩,[]⟩,⟨⟨some 15,.move (.const (.int .i64 0)),none⟩,[]⟩]) (.block 0 (.loop (.seq (.reg [⟨⟨some 16,.binOp .lss 3 (.tmp 15) (.tmp 14) 3,none⟩,[]⟩]) (.seq (.cond (.tmp 16) .skip (.exit 0)) (.seq (.block 1 (.seq (.reg [⟨⟨some 17,.indexAddr 24 (.tmp 13) (.tmp 15),none⟩,[]⟩,⟨⟨some 18,.load 47 (.tmp 17),none⟩,[]⟩,⟨⟨some 5,.alloc 47,none⟩,[]⟩,⟨⟨none,.store 47 (.tmp 5) (.tmp 18),none⟩,[]⟩]) (.seq (.reg [⟨⟨some 19,.move (.tmp 3),none⟩,[]⟩,
 ⟨⟨some 20,.indexAddr 47 (.tmp 5) (.const (.int .i64 0)),none⟩,[]⟩,⟨⟨some 21,.load 3 (.tmp 20),none⟩,[]⟩,⟨⟨some 22,.move (.tmp 3),none⟩,[]⟩,⟨⟨some 23,.indexAddr 47 (.tmp 5) (.const (.int .i64 0)),none⟩,[]⟩,⟨⟨some 24,.load 3 (.tmp 23),none⟩,[]⟩,⟨⟨some 25,.indexAddr 36 (.tmp 22) (.tmp 24),none⟩,[]⟩,⟨⟨some 26,.load 27 (.tmp 25),none⟩,[]⟩,⟨⟨some 27,.indexAddr 47 (.tmp 5) (.const (.int .i64 1)),none⟩,[]⟩,⟨⟨some 28,.load 3 (.tmp 27),none⟩,[]⟩,⟨⟨some 29,.buildSlice 27 1 #[(0,.tmp 28)],none⟩,[]⟩,⟨⟨some 30,.call ⟨(.builtin .append),#[.tmp 26,.tmp 29],#[27,27]⟩,none⟩,[⟨some 21,.load 3 (.tmp 20),none⟩]⟩,⟨⟨some 31,.indexAddr 36 (.tmp 19) (.tmp 21),none⟩,[]⟩,
 ⟨⟨none,.store 27 (.tmp 31) (.tmp 30),none⟩,[]⟩]) (.reg [⟨⟨some 32,.move (.tmp 3),none⟩,[]⟩,⟨⟨some 33,.indexAddr 47 (.tmp 5) (.const (.int .i64 1)),none⟩,[]⟩,⟨⟨some 34,.load 3 (.tmp 33),none⟩,[]⟩,⟨⟨some 35,.move (.tmp 3),none⟩,[]⟩,⟨⟨some 36,.indexAddr 47 (.tmp 5) (.const (.int .i64 1)),none⟩,[]⟩,⟨⟨some 37,.load 3 (.tmp 36),none⟩,[]⟩,⟨⟨some 38,.indexAddr 36 (.tmp 35) (.tmp 37),none⟩,[]⟩,⟨⟨some 39,.load 27 (.tmp 38),none⟩,[]⟩,⟨⟨some 40,.indexAddr 47 (.tmp 5) (.const (.int .i64 0)),none⟩,[]⟩,⟨⟨some 41,.load 3 (.tmp 40),none⟩,[]⟩,⟨⟨some 42,.buildSlice 27 1 #[(0,.tmp 41)],none⟩,[]⟩,⟨⟨some 43,.call ⟨(.builtin .append),#[.tmp 39,.tmp 42],#[27,27]⟩,none⟩,[⟨some 34,.load 3 (.tmp 33),none⟩]⟩,
 ⟨⟨some 44,.indexAddr 36 (.tmp 32) (.tmp 34),none⟩,[]⟩,
  ⟨⟨none,.store 27 (.tmp 44) (.tmp 43),none⟩,[]⟩])))) (.reg [⟨⟨some 45,.binOp .add 3 (.tmp 15) (.const (.int .i64 1)) 3,none⟩,[]⟩,
  ⟨⟨some 15,.move (.tmp 45),none⟩,[]⟩]))))))) (.seq (.seq (.reg [⟨⟨some 46,.move (.tmp 3),none⟩,[]⟩,
  ⟨⟨some 47,.call ⟨(.builtin .len),#[.tmp 46],#[36]⟩,none⟩,[]⟩,
  ⟨⟨some 48,.move (.const (.int .i64 0)),none⟩,[]⟩]) (.block 2 (.loop (.seq (.reg [⟨⟨some 49,.binOp .lss 3 (.tmp 48) (.tmp 47) 3,none⟩,[]⟩]) (.seq (.cond (.tmp 49) .skip (.exit 2)) (.seq (.block 3 (.seq (.reg [⟨⟨some 50,.indexAddr 36 (.tmp 46) (.tmp 48),none⟩,[]⟩,
  ⟨⟨some 51,.load 27 (.tmp 50),none⟩,[]⟩,
  ⟨⟨some 7,.assign (.tmp 51),none⟩,[]⟩]) (.reg [⟨⟨some 52,.move (.tmp 7),none⟩,[]⟩,
  ⟨⟨some 53,.call ⟨(.value (.func 123)),#[.tmp 52],#[27]⟩,none⟩,[]⟩]))) (.reg [⟨⟨some 54,.binOp .add 3 (.tmp 48) (.const (.int .i64 1)) 3,none⟩,[]⟩,
  ⟨⟨some 48,.move (.tmp 54),none⟩,[]⟩]))))))) (.seq (.reg [⟨⟨some 55,.move (.tmp 3),none⟩,[]⟩,
  ⟨⟨some 2,.assign (.tmp 55),none⟩,[]⟩]) .ret)))))
theorem in91:InT Tryz.prog 91 1 [.tmp 2] cd91:=InT.mk (by kernel_rfl) [(5,[(0,false),(1,false),(2,false),(3,false),(4,false),(5,false),(6,false),(7,false),(8,false),(9,false),(10,false),(11,true),(12,false),(13,true)]),(6,[(0,false),(1,false),(2,false),(3,false),(4,false),(5,false),(6,false),(7,false),(8,false),(9,false),(10,false),(11,true),(12,false),(13,true)])] Tryz.func91 rfl (by kernel_rfl) (by kernel_rfl) (of_decide_eq_true (by kernel_rfl)) (by kernel_rfl)
def cd182:Cd:=(.seq (.reg [⟨⟨some 1,.box 38 (.tmp 0),none⟩,[]⟩,⟨⟨some 2,.assign (.const (.slice none 0 0)),none⟩,[]⟩]) (.seq (.reg [⟨⟨some 10,.fieldAddr 38 (.tmp 1) 0,none⟩,[]⟩,⟨⟨some 11,.load 36 (.tmp 10),none⟩,[]⟩,⟨⟨some 12,.call ⟨(.builtin .len),#[.tmp 11],#[36]⟩,none⟩,[]⟩,⟨⟨some 13,.makeSlice 36 (.tmp 12) (.tmp 12),none⟩,[]⟩,⟨⟨some 3,.assign (.tmp 13),none⟩,[]⟩]) (.seq (.seq (.reg [⟨⟨some 4,.assign (.const (.int .i64 0)),none⟩,[]⟩]) (.block 0 (.loop (.seq (.seq (.reg [⟨⟨some 14,.move (.tmp 4),none⟩,[]⟩,⟨⟨some 15,.fieldAddr 38 (.tmp 1) 1,none⟩,[]⟩,⟨⟨some 16,.load 24 (.tmp 15),none⟩,[]⟩,⟨⟨some 17,.call ⟨(.builtin .len),#[.tmp 16],#[24]⟩,none⟩,[]⟩,⟨⟨some 18,.binOp .lss 3 (.tmp 14) (.tmp 17) 3,none⟩,[]⟩]) (.cond (.tmp 18) .skip (.exit 0))) (.seq (.block 1 (.seq (.reg [⟨⟨some 21,.fieldAddr 38 (.tmp 1) 1,none⟩,[]⟩,⟨⟨some 22,.load 24 (.tmp 21),none⟩,[]⟩,⟨⟨some 23,.move (.tmp 4),none⟩,[]⟩,
 ⟨⟨some 24,.indexAddr 24 (.tmp 22) (.tmp 23),none⟩,[]⟩,⟨⟨some 25,.indexAddr 47 (.tmp 24) (.const (.int .i64 0)),none⟩,[]⟩,⟨⟨some 26,.load 3 (.tmp 25),none⟩,[]⟩,⟨⟨some 27,.fieldAddr 38 (.tmp 1) 1,none⟩,[]⟩,⟨⟨some 28,.load 24 (.tmp 27),none⟩,[]⟩,⟨⟨some 29,.move (.tmp 4),none⟩,[]⟩,⟨⟨some 30,.indexAddr 24 (.tmp 28) (.tmp 29),none⟩,[]⟩,⟨⟨some 31,.indexAddr 47 (.tmp 30) (.const (.int .i64 1)),none⟩,[]⟩,⟨⟨some 32,.load 3 (.tmp 31),none⟩,[]⟩,⟨⟨some 5,.assign (.tmp 26),none⟩,[]⟩,⟨⟨some 6,.assign (.tmp 32),none⟩,[]⟩]) (.reg [⟨⟨some 33,.move (.tmp 3),none⟩,[]⟩,⟨⟨some 34,.move (.tmp 6),none⟩,[]⟩,
 ⟨⟨some 35,.move (.tmp 3),none⟩,[]⟩,⟨⟨some 36,.move (.tmp 6),none⟩,[]⟩,⟨⟨some 37,.indexAddr 36 (.tmp 35) (.tmp 36),none⟩,[]⟩,⟨⟨some 38,.load 27 (.tmp 37),none⟩,[]⟩,⟨⟨some 39,.move (.tmp 5),none⟩,[]⟩,⟨⟨some 40,.buildSlice 27 1 #[(0,.tmp 39)],none⟩,[]⟩,⟨⟨some 41,.call ⟨(.builtin .append),#[.tmp 38,.tmp 40],#[27,27]⟩,none⟩,[]⟩,⟨⟨some 42,.indexAddr 36 (.tmp 33) (.tmp 34),none⟩,[]⟩,⟨⟨none,.store 27 (.tmp 42) (.tmp 41),none⟩,[]⟩]))) (.reg [⟨⟨some 19,.move (.tmp 4),none⟩,[]⟩,⟨⟨some 20,.binOp .add 3 (.tmp 19) (.const (.int .i64 1)) 3,none⟩,[]⟩,⟨⟨some 4,.assign (.tmp 20),none⟩,[]⟩])))))) (.seq (.seq (.reg [⟨⟨some 7,.assign (.const (.int .i64 0)),none⟩,[]⟩]) (.block 2 (.loop (.seq (.seq (.reg [⟨⟨some 43,.move (.tmp 7),none⟩,[]⟩,⟨⟨some 44,.fieldAddr 38 (.tmp 1) 1,none⟩,[]⟩,
 ⟨⟨some 45,.load 24 (.tmp 44),none⟩,[]⟩,⟨⟨some 46,.call ⟨(.builtin .len),#[.tmp 45],#[24]⟩,none⟩,[]⟩,⟨⟨some 47,.binOp .lss 3 (.tmp 43) (.tmp 46) 3,none⟩,[]⟩]) (.cond (.tmp 47) .skip (.exit 2))) (.seq (.block 3 (.seq (.reg [⟨⟨some 50,.fieldAddr 38 (.tmp 1) 1,none⟩,[]⟩,⟨⟨some 51,.load 24 (.tmp 50),none⟩,[]⟩,⟨⟨some 52,.move (.tmp 7),none⟩,[]⟩,⟨⟨some 53,.indexAddr 24 (.tmp 51) (.tmp 52),none⟩,[]⟩,⟨⟨some 54,.indexAddr 47 (.tmp 53) (.const (.int .i64 0)),none⟩,[]⟩,⟨⟨some 55,.load 3 (.tmp 54),none⟩,[]⟩,⟨⟨some 56,.fieldAddr 38 (.tmp 1) 1,none⟩,[]⟩,⟨⟨some 57,.load 24 (.tmp 56),none⟩,[]⟩,⟨⟨some 58,.move (.tmp 7),none⟩,[]⟩,⟨⟨some 59,.indexAddr 24 (.tmp 57) (.tmp 58),none⟩,[]⟩,
 ⟨⟨some 60,.indexAddr 47 (.tmp 59) (.const (.int .i64 1)),none⟩,[]⟩,⟨⟨some 61,.load 3 (.tmp 60),none⟩,[]⟩,⟨⟨some 8,.assign (.tmp 55),none⟩,[]⟩,⟨⟨some 9,.assign (.tmp 61),none⟩,[]⟩]) (.reg [⟨⟨some 62,.move (.tmp 3),none⟩,[]⟩,⟨⟨some 63,.move (.tmp 8),none⟩,[]⟩,⟨⟨some 64,.move (.tmp 3),none⟩,[]⟩,⟨⟨some 65,.move (.tmp 8),none⟩,[]⟩,⟨⟨some 66,.indexAddr 36 (.tmp 64) (.tmp 65),none⟩,[]⟩,⟨⟨some 67,.load 27 (.tmp 66),none⟩,[]⟩,⟨⟨some 68,.move (.tmp 9),none⟩,[]⟩,⟨⟨some 69,.buildSlice 27 1 #[(0,.tmp 68)],none⟩,[]⟩,⟨⟨some 70,.call ⟨(.builtin .append),#[.tmp 67,.tmp 69],#[27,27]⟩,none⟩,[]⟩,
 ⟨⟨some 71,.indexAddr 36 (.tmp 62) (.tmp 63),none⟩,[]⟩,
  ⟨⟨none,.store 27 (.tmp 71) (.tmp 70),none⟩,[]⟩]))) (.reg [⟨⟨some 48,.move (.tmp 7),none⟩,[]⟩,
  ⟨⟨some 49,.binOp .add 3 (.tmp 48) (.const (.int .i64 1)) 3,none⟩,[]⟩,
  ⟨⟨some 7,.assign (.tmp 49),none⟩,[]⟩])))))) (.seq (.reg [⟨⟨some 72,.move (.tmp 3),none⟩,[]⟩,
  ⟨⟨some 2,.assign (.tmp 72),none⟩,[]⟩]) .ret)))))
theorem in182:InT Tryz.prog 182 1 [.tmp 2] cd182:=InT.mk (by kernel_rfl) [(5,[(0,false),(1,false),(2,false),(3,false),(4,false),(5,false),(6,false),(7,false),(8,false),(9,false),(10,false),(11,false),(12,false),(13,false)]),(10,[(0,false),(1,false),(2,false),(3,false),(4,false),(5,false),(6,false),(7,false),(8,false),(9,false),(10,false),(11,false),(12,false),(13,false)])] Tryz.func182 rfl (by kernel_rfl) (by kernel_rfl) (of_decide_eq_true (by kernel_rfl)) (by kernel_rfl)
end Go.Proofs.YtjnefjchconebaaGreat.Ai
namespace Go.Proofs.YtjnefjchconebaaGreat.Ai
open Go Go.RowKit
def nbS (ps:List (Int × Int))(x:Int):List Int:=(ps.filter fun e=>decide (e.2=x)).map (·.1) ++ (ps.filter fun e=>decide (e.1=x)).map (·.2)
def rdS (n:Nat)(ps:List (Int × Int)):List (List Int):=(List.range n).map fun x:Nat=>nbS ps x
theorem rdS_len (n:Nat)(ps:List (Int × Int)):(rdS n ps).length=n:=by simp [rdS]
theorem rdS_at (n:Nat)(ps:List (Int × Int)){x:Nat}(hx:x<n):(rdS n ps).getD x []=nbS ps x:=by simp [rdS,hx]
theorem nbS_mem (ps:List (Int × Int))(x y:Int):y ∈ nbS ps x↔(y,x) ∈ ps∨(x,y) ∈ ps:=by
  unfold nbS
  simp only [List.mem_append,List.mem_map,List.mem_filter,decide_eq_true_eq]
  constructor
  . rintro (⟨e,⟨h1,h2⟩,rfl⟩ | ⟨e,⟨h1,h2⟩,rfl⟩)
    . left;rw [<- h2];exact h1
    . right;rw [<- h2];exact h1
  . rintro (h | h)
    . exact .inl ⟨_,⟨h,rfl⟩,rfl⟩
    . exact .inr ⟨_,⟨h,rfl⟩,rfl⟩
structure StpOk (n:Nat) (ps:List (Int × Int)):Prop where
  rng:∀ e ∈ ps,0<=e.1/\e.1<e.2/\e.2<n
  srt:ps.Pairwise pairLt
theorem nbS_asc {n:Nat}{ps:List (Int × Int)}(h:StpOk n ps)(x:Int):(nbS ps x).Pairwise (· < ·):=by
  unfold nbS
  rw [List.pairwise_append]
  refine ⟨?_,?_,?_⟩
  . rw [List.pairwise_map]
    refine List.Pairwise.imp_of_mem ?_ (h.srt.filter _)
    intro a b ha hb hab
    have h1:=(List.mem_filter.1 ha).2
    have h2:=(List.mem_filter.1 hb).2
    simp only [decide_eq_true_eq] at h1 h2
    unfold pairLt at hab;omega
  . rw [List.pairwise_map]
    refine List.Pairwise.imp_of_mem ?_ (h.srt.filter _)
    intro a b ha hb hab
    have h1:=(List.mem_filter.1 ha).2
    have h2:=(List.mem_filter.1 hb).2
    simp only [decide_eq_true_eq] at h1 h2
    unfold pairLt at hab;omega
  . intro y hy z hz
    obtain ⟨a,ha,rfl⟩:=List.mem_map.1 hy
    obtain ⟨b,hb,rfl⟩:=List.mem_map.1 hz
    have h1:=List.mem_filter.1 ha
    have h2:=List.mem_filter.1 hb
    have h3:=h1.2
    have h4:=h2.2
    simp only [decide_eq_true_eq] at h3 h4
    have:=h.rng a h1.1
    have:=h.rng b h2.1
    omega
theorem nbS_rng {n:Nat}{ps:List (Int × Int)}(h:StpOk n ps){x y:Int}(hy:y ∈ nbS ps x):0<=y/\y<n:=by
  rcases (nbS_mem ps x y).1 hy with q | q
  . have:=h.rng _ q;simp only at this;omega
  . have:=h.rng _ q;simp only at this;omega
theorem rdS_ok {n:Nat}{ps:List (Int × Int)}(h:StpOk n ps):LOk (rdS n ps).length (rdS n ps):=by
  intro i y hy
  rw [rdS_len]
  by_cases hi:i<n
  . rw [rdS_at n ps hi] at hy;exact nbS_rng h hy
  . rw [List.getD_eq_getElem?_getD,List.getElem?_eq_none (by rw [rdS_len];omega)] at hy
    simp at hy
theorem StpOk.take {n:Nat}{ps:List (Int × Int)}(h:StpOk n ps)(i:Nat):StpOk n (ps.take i):=⟨fun e he=>h.rng e (List.mem_of_mem_take he),h.srt.sublist (List.take_sublist _ _)⟩
theorem nbS_snoc {n:Nat}{ps:List (Int × Int)}{e:Int × Int}(h:StpOk n (ps ++ [e]))(x:Int):nbS (ps ++ [e]) x=nbS ps x ++ (if x=e.2 then [e.1] else if x=e.1 then [e.2] else []):=by
  have he:=h.rng e (by simp)
  unfold nbS
  rw [List.filter_append,List.filter_append,List.map_append,List.map_append]
  by_cases h2:x=e.2
  . subst h2
    have h0:ps.filter (fun q=>decide (q.1=e.2))=[]:=by
      rw [List.filter_eq_nil_iff]
      intro q hq
      have:=(List.pairwise_append.1 h.srt).2.2 q hq e (by simp)
      unfold pairLt at this
      simp only [decide_eq_true_eq];omega
    rw [h0,if_pos rfl]
    have:¬ e.1=e.2:=by omega
    simp [this]
  . rw [if_neg h2]
    have h2':¬ e.2=x:=fun q=>h2 q.symm
    by_cases h1:x=e.1
    . subst h1;simp [h2']
    . have h1':¬ e.1=x:=fun q=>h1 q.symm
      simp [h1,h2',h1']
theorem nbS_adj {n:Nat}:∀ (k:Nat) (ps:List (Int × Int)),ps.length=k->StpOk n ps->∀ x,x<n->(adjL n ps).getD x []=nbS ps (x:Int):=by
  intro k
  induction k with
  | zero =>
    intro ps hk h x hx
    have:ps=[]:=List.length_eq_zero_iff.1 hk
    subst this
    simp [adjL,nbS,hx]
  | succ k ih =>
    intro ps hk h x hx
    have hne:ps ≠ []:=by intro e;rw [e] at hk;simp at hk
    obtain ⟨qs,e,rfl⟩:∃ qs e,ps=qs ++ [e]:=⟨_,_,(List.dropLast_concat_getLast hne).symm⟩
    have hq:StpOk n qs:=⟨fun z hz=>h.rng z (by simp [hz]),(List.pairwise_append.1 h.srt).1⟩
    have hi:=ih qs (by simpa using hk) hq
    have he:=h.rng e (by simp)
    rw [nbS_snoc h]
    have:adjL n (qs ++ [e])=adj1 (adjL n qs) e:=by unfold adjL;rw [List.foldl_append];rfl
    rw [this]
    unfold adj1
    have hl:=adjL_len n qs
    rw [List.getD_eq_getElem?_getD,List.getElem?_set,List.length_set]
    by_cases h2:e.2.toNat=x
    . rw [if_pos h2,if_pos (by omega),if_pos (by omega)]
      show (adjL n qs).getD e.2.toNat [] ++ [e.1]=_
      rw [h2,hi x hx]
    . rw [if_neg h2,if_neg (by omega),List.getElem?_set]
      by_cases h1:e.1.toNat=x
      . rw [if_pos h1,if_pos (by omega),if_pos (by omega)]
        show (adjL n qs).getD e.1.toNat [] ++ [e.2]=_
        rw [h1,hi x hx]
      . rw [if_neg h1,if_neg (by omega),<- List.getD_eq_getElem?_getD,hi x hx,List.append_nil]
theorem rdS_adj {n:Nat}{ps:List (Int × Int)}(h:StpOk n ps):adjL n ps=rdS n ps:=by
  refine List.ext_getElem (by rw [adjL_len,rdS_len]) fun i h1 h2=>?_
  have hi:i<n:=by rw [adjL_len] at h1;exact h1
  have:=nbS_adj ps.length ps rfl h i hi
  have e2:=rdS_at n ps hi
  simp only [List.getD_eq_getElem?_getD,List.getElem?_eq_getElem h1,List.getElem?_eq_getElem h2,Option.getD_some] at this e2
  rw [this,e2]
theorem perm_asc {ys xs:List Int}(hp:ys.Perm xs)(ha:Asc ys)(hx:xs.Pairwise (· < ·)):ys=xs:=by
  have h1:=asc_of ha
  have hn:ys.Nodup:=hp.nodup_iff.2 (hx.imp fun h e=>by omega)
  have h2:ys.Pairwise (· < ·):=by
    refine List.Pairwise.imp₂ (S:=(· ≠ ·)) (fun a b h3 h4=>?_) h1 hn
    omega
  exact hp.eq_of_pairwise (le:=(· < ·)) (fun a b _ _ h3 h4=>by omega) h2 hx
theorem spRoads_c (a b:Value)(ls:List (List Int))(ps:List (Int × Int))(H:AH)(hr:SpRow H a b ls ps)(hn:ls.length<=1000)(hp:ps.length<=1000000)(hps:StpOk ls.length ps)(hdeg:∀ x,(nbS ps x).length<=12) :
    ACalls Tryz.prog 91 [.agg (List.toArray [a,b])] H fun r H'=>(∃ bd,RowLB bd 27 3 H' r (rdS ls.length ps))/\H<+:H':=by
  obtain ⟨⟨bd,us0,ra0,_,lu0,_⟩,rb0⟩:=id hr
  refine in91 rfl ?_
  intro Q hQ
  have mk:=mk_lists (n:=(ls.length:Int)) (by omega) (by omega)
  simp only [Int.toNat_natCast] at mk
  simp (maxSteps:=1000000) (disch:=omega) only [cd91,hr.box,SS,eq_self,reduceIte,reduceCtorEq,Nat.reduceEqDiff,Nat.reduceAdd]
  generalize hA:H ++ [AObj.cells [a,b] 38 false]=A
  have pA:H<+:A:=by rw [<- hA];exact List.prefix_append _ _
  have cA:A[H.length]?=some (.cells [a,b] 38 false):=by rw [<- hA];exact at_new ..
  have lA:A.length=H.length+1:=by rw [<- hA];simp
  simp (maxSteps:=1000000) (disch:=omega) only [cell_of cA,(ra0.pre pA).len Tryz.underlying36,lu0,mk,SS,eq_self,reduceIte,reduceCtorEq,Nat.reduceEqDiff,Nat.reduceAdd]
  generalize hB:A ++ [AObj.cells (List.replicate ls.length (.slice none 0 0)) 27 false]=B
  have pB:A<+:B:=by rw [<- hB];exact List.prefix_append _ _
  have cB:B[A.length]?=some (.cells (List.replicate ls.length (.slice none 0 0)) 27 false):=by rw [<- hB];exact at_new ..
  have lB:B.length=A.length+1:=by rw [<- hB];simp
  have rb:=rb0.pre (pA.trans pB)
  have adj0:Adj B B A.length (List.replicate ls.length (.slice none 0 0)) (adjL ls.length (ps.take 0)):=by
    refine ⟨cB,by omega,by simp [adjL_len],fun i hi=>?_,fun i j _ hi _=>?_,fun j y _ hy=>hy,Nat.le_refl _⟩
    . rw [adjL_len] at hi
      exact .inl ⟨by simp [hi],by simp [adjL,hi]⟩
    . rw [adjL_len] at hi
      exact .inr (.inl (by simp [hi]))
  generalize hNN:ls.length=N at *
  simp (maxSteps:=1000000) (disch:=omega) only [cell_of (pre_at pB cA),rb.len Tryz.underlying24,SS,eq_self,reduceIte,reduceCtorEq,Nat.reduceEqDiff,Nat.reduceAdd]
  refine LoopH.by (fun m s H'=>∃ (i:Nat) (us:List Value),m+i=ps.length/\s 3=.slice (some ⟨A.length,0,none⟩) N N/\s 13=b/\s 14=.int .i64 (ps.length:Int)/\s 15=.int .i64 ((i:Nat):Int)/\Adj B H' A.length us (adjL N (ps.take i))) ps.length ?_ ?_
  . exact ⟨0,_,by simp,rfl,rfl,rfl,rfl,adj0⟩
  rintro m s H' ⟨i,us,hm,h3,h13,h14,h15,hJ⟩
  have keepB:∀ {K:AH} {vs:List Value} {M:List (List Int)},Adj B K A.length vs M->H<+:K:=fun hK=>prefix_of fun j y hy=>hK.keep j y (by have:=at_lt hy;omega) (pre_at (pA.trans pB) hy)
  have rH:=rb0.pre (keepB hJ)
  have hLl:=adjL_len N (ps.take i)
  simp (maxSteps:=1000000) (disch:=omega) only [h3,h13,h14,h15,SS,eq_self,reduceIte,reduceCtorEq,Nat.reduceEqDiff,Nat.reduceAdd]
  refine brD.intro (fun g=>?_) (fun g=>?_)
  . have hi:i<ps.length:=by omega
    have he:ps.getD i (0,0) ∈ ps:=by simp [hi]
    have hrng:=hps.rng _ he
    have htk:ps.take (i+1)=ps.take i ++ [ps.getD i (0,0)]:=by
      rw [List.take_add_one,List.getElem?_eq_getElem hi]
      simp [hi]
    have hstep:adjL N (ps.take (i+1))=adj1 (adjL N (ps.take i)) (ps.getD i (0,0)):=by
      rw [htk];unfold adjL;rw [List.foldl_append];rfl
    have hdg:∀ x,x<N->((adjL N (ps.take i)).getD x []).length<=12:=by
      intro x hx
      rw [nbS_adj _ _ rfl (hps.take i) x hx]
      refine Nat.le_trans ?_ (hdeg (x:Int))
      unfold nbS
      simp only [List.length_append,List.length_map]
      have s1:=((List.take_sublist i ps).filter fun e=>decide (e.2=(x:Int))).length_le
      have s2:=((List.take_sublist i ps).filter fun e=>decide (e.1=(x:Int))).length_le
      omega
    have hld:=rH.ld ag47 cs47 hi
    obtain ⟨x,hx⟩:∃ x:Nat,(ps.getD i (0,0)).1=x:=⟨(ps.getD i (0,0)).1.toNat,by omega⟩
    obtain ⟨y,hy⟩:∃ y:Nat,(ps.getD i (0,0)).2=y:=⟨(ps.getD i (0,0)).2.toNat,by omega⟩
    have est:adj1 (adjL N (ps.take i)) (ps.getD i (0,0))=((adjL N (ps.take i)).set x ((adjL N (ps.take i)).getD x [] ++ [(y:Int)])).set y ((adjL N (ps.take i)).getD y [] ++ [(x:Int)]):=by
      unfold adj1;rw [hx,hy,Int.toNat_natCast,Int.toNat_natCast]
    rw [est] at hstep
    rw [hx,hy] at hrng hld
    generalize adjL N (ps.take i)=L at *
    have st0:=st_a2 (at_new H' (.cells [.int .i64 0,.int .i64 0] 47 false)) rfl (.int .i64 (x:Int)) (.int .i64 (y:Int))
    rw [set_new] at st0
    simp (maxSteps:=1000000) (disch:=omega) only [h3,h13,h14,h15,rH.ix Tryz.underlying24 cs47,Int.toNat_natCast,hld,alloc_a2,st0,SS,eq_self,reduceIte,reduceCtorEq,Nat.reduceEqDiff,Nat.reduceAdd]
    generalize hG:H' ++ [AObj.cells [.int .i64 (x:Int),.int .i64 (y:Int)] 47 false]=G
    have pG:H'<+:G:=by rw [<- hG];exact List.prefix_append _ _
    have cG:G[H'.length]?=some (.cells [.int .i64 (x:Int),.int .i64 (y:Int)] 47 false):=by rw [<- hG];exact at_new ..
    have hJ1:=hJ.pre pG
    have hul:=hJ1.len
    have fr:∀ {z:Nat} ,z<L.length->us.getD z undef=.slice none 0 0∨H'.length ≠ rowO (us.getD z undef):=fun {z} hz=>by
      rcases own_nil (hJ.el z hz) with q | q
      . exact .inl q
      . right;omega
    obtain ⟨v1,K1,a1,a2,a3,a4,a5,a6⟩:=hJ1.app1 (x:=x) (by omega) (by have:=hdg x (by omega);omega) (y:Int)
    have cux:us[x]?=some (us.getD x undef):=by simp [show x<us.length by omega]
    have cK1:=a2 _ _ (fr (show x<L.length by omega)) cG
    have st1:=st_at (P:=Tryz.prog) (t:=27) (i:=x) (y:=v1) cs27 a3 (by omega) (by
      rcases a6.el x (by rw [List.length_set];omega) with ⟨q,_⟩ | ⟨o',q,_⟩ <;> rw [List.getD_eq_getElem?_getD,List.getElem?_set_self (by omega)] at q <;> simp only [Option.getD_some] at q <;> rw [q] <;> rfl) a5
    have cZ1:(K1.set A.length (.cells (us.set x v1) 27 false))[H'.length]?=some (.cells [.int .i64 (x:Int),.int .i64 (y:Int)] 47 false):=by
      rw [List.getElem?_set_ne (by have:=hJ.olt;have:=hJ.le;omega)];exact cK1
    have hat0:=hJ1.at_
    simp (maxSteps:=1000000) (disch:=omega) only [h3,cell_of cG,Int.toNat_natCast,Nat.zero_add,cell_of hat0,cux,a1,cell_of cK1,st1,SS,eq_self,reduceIte,reduceCtorEq,Nat.reduceEqDiff,Nat.reduceAdd]
    generalize hZ:K1.set A.length (.cells (us.set x v1) 27 false)=Z at *
    obtain ⟨v2,K2,b1,b2,b3,b4,b5,b6⟩:=a6.app1 (x:=y) (by rw [List.length_set];omega) (by
      rw [List.getD_eq_getElem?_getD,List.getElem?_set_ne (by omega),<- List.getD_eq_getElem?_getD]
      have:=hdg y (by omega);omega) (x:Int)
    have hatZ:=a6.at_
    have hLy:(L.set x (L.getD x [] ++ [(y:Int)])).getD y []=L.getD y []:=by
      rw [List.getD_eq_getElem?_getD,List.getElem?_set_ne (by omega),<- List.getD_eq_getElem?_getD]
    rw [hLy,<- hstep] at b6
    have cuy:(us.set x v1)[y]?=some ((us.set x v1).getD y undef):=by simp [show y<us.length by omega]
    have frZ:(us.set x v1).getD y undef=.slice none 0 0∨H'.length ≠ rowO ((us.set x v1).getD y undef):=by
      have:(us.set x v1).getD y undef=us.getD y undef:=by
        rw [List.getD_eq_getElem?_getD,List.getElem?_set_ne (by omega),<- List.getD_eq_getElem?_getD]
      rw [this];exact fr (by omega)
    have cK2:=b2 _ _ frZ cZ1
    have st2:=st_at (P:=Tryz.prog) (t:=27) (i:=y) (y:=v2) cs27 b3 (by rw [List.length_set];omega) (by
      rcases b6.el y (by rw [adjL_len];omega) with ⟨q,_⟩ | ⟨o',q,_⟩ <;> rw [List.getD_eq_getElem?_getD,List.getElem?_set_self (by rw [List.length_set];omega)] at q <;> simp only [Option.getD_some] at q <;> rw [q] <;> rfl) b5
    simp (maxSteps:=1000000) (disch:=omega) only [h3,h13,h14,h15,cell_of cZ1,Int.toNat_natCast,Nat.zero_add,cell_of hatZ,cuy,b1,cell_of cK2,st2,wrap64,SS,eq_self,reduceIte,reduceCtorEq,Nat.reduceEqDiff,Nat.reduceAdd]
    refine ⟨m - 1,by omega,i+1,(us.set x v1).set y v2,?_⟩
    (repeat' first | exact b6 | apply And.intro) <;> first | (simp only [Value.int.injEq,true_and];omega) | omega | rfl | assumption | (simp;done) | (simp;omega)
  . have hi:i=ps.length:=by omega
    subst hi
    rw [List.take_length,rdS_adj hps] at hJ
    clear hLl
    simp (maxSteps:=1000000) (disch:=omega) only [h3,SS,eq_self,reduceIte,reduceCtorEq,Nat.reduceEqDiff,Nat.reduceAdd]
    refine LoopH.by (fun m s H'=>∃ (i:Nat),m+i=N/\s 3=.slice (some ⟨A.length,0,none⟩) N N/\s 46=.slice (some ⟨A.length,0,none⟩) N N/\s 47=.int .i64 (N:Int)/\s 48=.int .i64 ((i:Nat):Int)/\Adj B H' A.length us (rdS N ps)) N ?_ ?_
    . refine ⟨0,?_⟩
      simp (maxSteps:=1000000) (disch:=omega) only [h3,SS,eq_self,reduceIte,reduceCtorEq,Nat.reduceEqDiff,Nat.reduceAdd]
      (repeat' first | exact hJ | apply And.intro) <;> first | (simp only [Value.int.injEq,true_and];omega) | omega | rfl | assumption | (simp;done) | (simp;omega)
    rintro m' s' K ⟨i,hm',k3,k46,k47,k48,hJ'⟩
    have hrl:=rdS_len N ps
    simp (maxSteps:=1000000) (disch:=omega) only [k3,k46,k47,k48,SS,eq_self,reduceIte,reduceCtorEq,Nat.reduceEqDiff,Nat.reduceAdd]
    refine brD.intro (fun g=>?_) (fun g=>?_)
    . have hi:i<N:=by omega
      have hul:=hJ'.len
      have hat:=hJ'.at_
      have cui:us[i]?=some (us.getD i undef):=by simp [show i<us.length by omega]
      have hel:=hJ'.el i (by omega)
      rw [rdS_at N ps hi] at hel
      simp (maxSteps:=1000000) (disch:=omega) only [k3,k46,k47,k48,cell_of hat,Int.toNat_natCast,Nat.zero_add,cui,SS,eq_self,reduceIte,reduceCtorEq,Nat.reduceEqDiff,Nat.reduceAdd]
      refine CallH.by (Sort_c _ _ _ K hel (hdeg _)) ?_
      rintro _ K2 ⟨ys,y1,y2,y3,y4⟩
      have hys:=perm_asc y2 y3 (nbS_asc hps _)
      rw [hys] at y1
      have hJ2:=hJ'.same (x:=i) (by omega) (by rw [rdS_at N ps hi];exact y1) y4
      simp (maxSteps:=1000000) (disch:=omega) only [k3,k46,k47,k48,wrap64,SS,eq_self,reduceIte,reduceCtorEq,Nat.reduceEqDiff,Nat.reduceAdd]
      refine ⟨m' - 1,by omega,i+1,?_⟩
      (repeat' first | exact hJ2 | apply And.intro) <;> first | (simp only [Value.int.injEq,true_and];omega) | omega | rfl | assumption | (simp;done) | (simp;omega)
    . simp (maxSteps:=1000000) (disch:=omega) only [k3,SS,eq_self,reduceIte,reduceCtorEq,Nat.reduceEqDiff,Nat.reduceAdd]
      refine hQ _ _ _ ?_
      simp (maxSteps:=1000000) (disch:=omega) only [SS,eq_self,reduceIte,reduceCtorEq,Nat.reduceEqDiff,Nat.reduceAdd]
      have hp2:=keepB hJ'
      have hu:=(hJ'.inU (lo:=H.length) (by omega)).row
      rw [hrl] at hu
      exact ⟨⟨_,hu⟩,hp2⟩
def twL (n:Nat)(ps qs:List (Int × Int)):List (List Int):=(List.range n).map fun x:Nat=>(ps.filter fun e=>decide (e.2=(x:Int))).map (·.1) ++ (qs.filter fun e=>decide (e.1=(x:Int))).map (·.2)
theorem twL_len (n:Nat)(ps qs:List (Int × Int)):(twL n ps qs).length=n:=by simp [twL]
theorem map_set (n k:Nat)(f g:Nat->List Int)(v:Int)(hk:k<n)(h1:∀ x,x ≠ k->g x=f x)(h2:g k=f k ++ [v]):(List.range n).map g=((List.range n).map f).set k (((List.range n).map f).getD k [] ++ [v]):=by
  refine List.ext_getElem (by simp) fun i a1 a2=>?_
  rw [List.getElem_set]
  simp only [List.getElem_map,List.getElem_range]
  by_cases e:k=i
  . subst e;rw [if_pos rfl,h2];simp [hk]
  . rw [if_neg e,h1 i (fun q=>e q.symm)]
theorem twL_one {n:Nat}{ps:List (Int × Int)}{e:Int × Int}{k:Nat}(hk:k<n)(he:e.2=k):twL n (ps ++ [e]) []=(twL n ps []).set k ((twL n ps []).getD k [] ++ [e.1]):=by
  unfold twL
  refine map_set n k _ _ e.1 hk (fun x hx=>?_) ?_
  . have:¬ e.2=(x:Int):=by omega
    simp [this]
  . simp [he]
theorem twL_two {n:Nat}{ps qs:List (Int × Int)}{e:Int × Int}{k:Nat}(hk:k<n)(he:e.1=k):twL n ps (qs ++ [e])=(twL n ps qs).set k ((twL n ps qs).getD k [] ++ [e.2]):=by
  unfold twL
  refine map_set n k _ _ e.2 hk (fun x hx=>?_) ?_
  . have:¬ e.1=(x:Int):=by omega
    simp [this]
  . simp [he]
theorem twL_deg {n:Nat}{ps qs:List (Int × Int)}(hq:qs.Sublist ps)(x:Nat):((twL n ps qs).getD x []).length<=(nbS ps x).length:=by
  by_cases hx:x<n
  . unfold twL nbS
    simp only [List.getD_eq_getElem?_getD,List.getElem?_map,List.getElem?_range hx,Option.map_some,Option.getD_some,List.length_append,List.length_map]
    have:=(hq.filter fun e=>decide (e.1=(x:Int))).length_le
    omega
  . rw [List.getD_eq_getElem?_getD,List.getElem?_eq_none (by rw [twL_len];omega)];simp
theorem twL_deg1 {n:Nat}{ps qs:List (Int × Int)}(hq:qs.Sublist ps)(x:Nat):((twL n qs []).getD x []).length<=(nbS ps x).length:=by
  by_cases hx:x<n
  . unfold twL nbS
    simp only [List.getD_eq_getElem?_getD,List.getElem?_map,List.getElem?_range hx,Option.map_some,Option.getD_some,List.length_append,List.length_map]
    have:=(hq.filter fun e=>decide (e.2=(x:Int))).length_le
    simp;omega
  . rw [List.getD_eq_getElem?_getD,List.getElem?_eq_none (by rw [twL_len];omega)];simp
theorem l2Lists_c (a b:Value)(ls:List (List Int))(ps:List (Int × Int))(H:AH)(hr:SpRow H a b ls ps)(hn:ls.length<=1000)(hp:ps.length<=1000000)(hps:StpOk ls.length ps)(hdeg:∀ x,(nbS ps x).length<=12) :
    ACalls Tryz.prog 182 [.agg (List.toArray [a,b])] H fun r H'=>(∃ bd,RowLB bd 27 3 H' r (rdS ls.length ps))/\H<+:H':=by
  obtain ⟨⟨bd,us0,ra0,_,lu0,_⟩,rb0⟩:=id hr
  refine in182 rfl ?_
  intro Q hQ
  have mk:=mk_lists (n:=(ls.length:Int)) (by omega) (by omega)
  simp only [Int.toNat_natCast] at mk
  simp (maxSteps:=1000000) (disch:=omega) only [cd182,hr.box,SS,eq_self,reduceIte,reduceCtorEq,Nat.reduceEqDiff,Nat.reduceAdd]
  generalize hA:H ++ [AObj.cells [a,b] 38 false]=A
  have pA:H<+:A:=by rw [<- hA];exact List.prefix_append _ _
  have cA:A[H.length]?=some (.cells [a,b] 38 false):=by rw [<- hA];exact at_new ..
  have lA:A.length=H.length+1:=by rw [<- hA];simp
  simp (maxSteps:=1000000) (disch:=omega) only [cell_of cA,(ra0.pre pA).len Tryz.underlying36,lu0,mk,SS,eq_self,reduceIte,reduceCtorEq,Nat.reduceEqDiff,Nat.reduceAdd]
  generalize hB:A ++ [AObj.cells (List.replicate ls.length (.slice none 0 0)) 27 false]=B
  have pB:A<+:B:=by rw [<- hB];exact List.prefix_append _ _
  have cB:B[A.length]?=some (.cells (List.replicate ls.length (.slice none 0 0)) 27 false):=by rw [<- hB];exact at_new ..
  have lB:B.length=A.length+1:=by rw [<- hB];simp
  have adj0:Adj B B A.length (List.replicate ls.length (.slice none 0 0)) (twL ls.length (ps.take 0) []):=by
    refine ⟨cB,by omega,by simp [twL_len],fun i hi=>?_,fun i j _ hi _=>?_,fun j y _ hy=>hy,Nat.le_refl _⟩
    . rw [twL_len] at hi
      exact .inl ⟨by simp [hi],by simp [twL,hi]⟩
    . rw [twL_len] at hi
      exact .inr (.inl (by simp [hi]))
  generalize hNN:ls.length=N at *
  have keepB:∀ {K:AH} {vs:List Value} {M:List (List Int)},Adj B K A.length vs M->A<+:K:=fun hK=>prefix_of fun j y hy=>hK.keep j y (by have:=at_lt hy;omega) (pre_at pB hy)
  refine LoopH.by (fun m s H'=>∃ (i:Nat) (us:List Value),m+i=ps.length/\s 1=.pointer (some ⟨H.length,0,none⟩)/\s 3=.slice (some ⟨A.length,0,none⟩) N N/\s 4=.int .i64 ((i:Nat):Int)/\Adj B H' A.length us (twL N (ps.take i) [])) ps.length ?_ ?_
  . exact ⟨0,_,by simp,rfl,rfl,rfl,adj0⟩
  rintro m s H' ⟨i,us,hm,h1,h3,h4,hJ⟩
  have rH:=rb0.pre (pA.trans (keepB hJ))
  have cH:=pre_at (keepB hJ) cA
  simp (maxSteps:=1000000) (disch:=omega) only [h1,h3,h4,cell_of cH,rH.len Tryz.underlying24,SS,eq_self,reduceIte,reduceCtorEq,Nat.reduceEqDiff,Nat.reduceAdd]
  refine brD.intro (fun g=>?_) (fun g=>?_)
  . have hi:i<ps.length:=by omega
    have he:ps.getD i (0,0) ∈ ps:=by simp [hi]
    have hrng:=hps.rng _ he
    have htk:ps.take (i+1)=ps.take i ++ [ps.getD i (0,0)]:=by
      rw [List.take_add_one,List.getElem?_eq_getElem hi]
      simp [hi]
    have l0:=rH.cell0 hi
    have l1:=rH.cell1 hi
    obtain ⟨x,hx⟩:∃ x:Nat,(ps.getD i (0,0)).1=x:=⟨(ps.getD i (0,0)).1.toNat,by omega⟩
    obtain ⟨y,hy⟩:∃ y:Nat,(ps.getD i (0,0)).2=y:=⟨(ps.getD i (0,0)).2.toNat,by omega⟩
    have hstep:=twL_one (ps:=ps.take i) (show y<N by omega) hy
    have hdg:=twL_deg1 (n:=N) (List.take_sublist i ps) y
    have hd2:=hdeg (y:Int)
    have hLl:=twL_len N (ps.take i) []
    rw [<- htk] at hstep
    rw [hx] at l0 hstep
    rw [hy] at l1
    generalize twL N (ps.take i) []=L at *
    have hul:=hJ.len
    have hat:=hJ.at_
    have cuy:us[y]?=some (us.getD y undef):=by simp [show y<us.length by omega]
    obtain ⟨v1,K1,a1,a2,a3,a4,a5,a6⟩:=hJ.app1 (x:=y) (by omega) (by omega) (x:Int)
    have st1:=st_at (P:=Tryz.prog) (t:=27) (i:=y) (y:=v1) cs27 a3 (by omega) (by
      rcases a6.el y (by rw [List.length_set];omega) with ⟨q,_⟩ | ⟨o',q,_⟩ <;> rw [List.getD_eq_getElem?_getD,List.getElem?_set_self (by omega)] at q <;> simp only [Option.getD_some] at q <;> rw [q] <;> rfl) a5
    rw [<- hstep] at a6
    simp (maxSteps:=1000000) (disch:=omega) only [h1,h3,h4,cell_of cH,rH.ix Tryz.underlying24 cs47,Int.toNat_natCast,Nat.zero_add,l0,l1,cell_of hat,cuy,a1,st1,wrap64,SS,eq_self,reduceIte,reduceCtorEq,Nat.reduceEqDiff,Nat.reduceAdd]
    refine ⟨m - 1,by omega,i+1,us.set y v1,?_⟩
    (repeat' first | exact a6 | apply And.intro) <;> first | (simp only [Value.int.injEq,true_and];omega) | omega | rfl | assumption | (simp;done) | (simp;omega)
  . have hi:i=ps.length:=by omega
    subst hi
    rw [List.take_length] at hJ
    have hJ0:Adj B H' A.length us (twL N ps (ps.take 0)):=hJ
    simp (maxSteps:=1000000) (disch:=omega) only [h1,h3,SS,eq_self,reduceIte,reduceCtorEq,Nat.reduceEqDiff,Nat.reduceAdd]
    refine LoopH.by (fun m s H'=>∃ (i:Nat) (us:List Value),m+i=ps.length/\s 1=.pointer (some ⟨H.length,0,none⟩)/\s 3=.slice (some ⟨A.length,0,none⟩) N N/\s 7=.int .i64 ((i:Nat):Int)/\Adj B H' A.length us (twL N ps (ps.take i))) ps.length ?_ ?_
    . refine ⟨0,us,?_⟩
      simp (maxSteps:=1000000) (disch:=omega) only [h1,h3,SS,eq_self,reduceIte,reduceCtorEq,Nat.reduceEqDiff,Nat.reduceAdd]
      (repeat' first | exact hJ0 | apply And.intro) <;> first | (simp only [Value.int.injEq,true_and];omega) | omega | rfl | assumption | (simp;done) | (simp;omega)
    rintro m' s' K ⟨i,us,hm',k1,k3,k7,hJ⟩
    have rH:=rb0.pre (pA.trans (keepB hJ))
    have cH:=pre_at (keepB hJ) cA
    simp (maxSteps:=1000000) (disch:=omega) only [k1,k3,k7,cell_of cH,rH.len Tryz.underlying24,SS,eq_self,reduceIte,reduceCtorEq,Nat.reduceEqDiff,Nat.reduceAdd]
    refine brD.intro (fun g=>?_) (fun g=>?_)
    . have hi:i<ps.length:=by omega
      have he:ps.getD i (0,0) ∈ ps:=by simp [hi]
      have hrng:=hps.rng _ he
      have htk:ps.take (i+1)=ps.take i ++ [ps.getD i (0,0)]:=by
        rw [List.take_add_one,List.getElem?_eq_getElem hi]
        simp [hi]
      have l0:=rH.cell0 hi
      have l1:=rH.cell1 hi
      obtain ⟨x,hx⟩:∃ x:Nat,(ps.getD i (0,0)).1=x:=⟨(ps.getD i (0,0)).1.toNat,by omega⟩
      obtain ⟨y,hy⟩:∃ y:Nat,(ps.getD i (0,0)).2=y:=⟨(ps.getD i (0,0)).2.toNat,by omega⟩
      have hstep:=twL_two (ps:=ps) (qs:=ps.take i) (show x<N by omega) hx
      have hdg:=twL_deg (n:=N) (List.take_sublist i ps) x
      have hd2:=hdeg (x:Int)
      have hLl:=twL_len N ps (ps.take i)
      rw [<- htk] at hstep
      rw [hx] at l0
      rw [hy] at l1 hstep
      generalize twL N ps (ps.take i)=L at *
      have hul:=hJ.len
      have hat:=hJ.at_
      have cux:us[x]?=some (us.getD x undef):=by simp [show x<us.length by omega]
      obtain ⟨v1,K1,a1,a2,a3,a4,a5,a6⟩:=hJ.app1 (x:=x) (by omega) (by omega) (y:Int)
      have st1:=st_at (P:=Tryz.prog) (t:=27) (i:=x) (y:=v1) cs27 a3 (by omega) (by
        rcases a6.el x (by rw [List.length_set];omega) with ⟨q,_⟩ | ⟨o',q,_⟩ <;> rw [List.getD_eq_getElem?_getD,List.getElem?_set_self (by omega)] at q <;> simp only [Option.getD_some] at q <;> rw [q] <;> rfl) a5
      rw [<- hstep] at a6
      simp (maxSteps:=1000000) (disch:=omega) only [k1,k3,k7,cell_of cH,rH.ix Tryz.underlying24 cs47,Int.toNat_natCast,Nat.zero_add,l0,l1,cell_of hat,cux,a1,st1,wrap64,SS,eq_self,reduceIte,reduceCtorEq,Nat.reduceEqDiff,Nat.reduceAdd]
      refine ⟨m' - 1,by omega,i+1,us.set x v1,?_⟩
      (repeat' first | exact a6 | apply And.intro) <;> first | (simp only [Value.int.injEq,true_and];omega) | omega | rfl | assumption | (simp;done) | (simp;omega)
    . have hi:i=ps.length:=by omega
      subst hi
      rw [List.take_length] at hJ
      simp (maxSteps:=1000000) (disch:=omega) only [k3,SS,eq_self,reduceIte,reduceCtorEq,Nat.reduceEqDiff,Nat.reduceAdd]
      refine hQ _ _ _ ?_
      simp (maxSteps:=1000000) (disch:=omega) only [SS,eq_self,reduceIte,reduceCtorEq,Nat.reduceEqDiff,Nat.reduceAdd]
      have hu:=(hJ.inU (lo:=H.length) (by omega)).row
      rw [twL_len] at hu
      exact ⟨⟨_,hu⟩,pA.trans (keepB hJ)⟩
end Go.Proofs.YtjnefjchconebaaGreat.Ai
