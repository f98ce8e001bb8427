/- Texts of this claim, joined: SrtL, SrtF, GrA, Joi, TrI, Reach, Dsl, Vee, Spc, MarkS, Tkd, SlW, Cyc, SwapC, Inv, PrmL, TkL, TkR, Half, TkH, DfL, TrgP, DfP, AdjP, Adj, SpR, StpP. -/
import Derived.Test.YtjnefjchconebaaGreatProg
import Derived.KernelRfl
import Derived.Test.YtjnefjchconebaaGreatMgLawTkl5
set_option linter.unusedVariables false
set_option linter.unusedSimpArgs false
set_option maxHeartbeats 8000000
set_option maxRecDepth 20000
namespace Go.Proofs.YtjnefjchconebaaGreat.Ai
open Go Go.RowKit
def cd166:Cd:=(.seq (.reg [⟨⟨some 4,.assign (.const (.int .i64 0)),none⟩,[]⟩]) (.seq (.seq (.reg [⟨⟨some 9,.move (.tmp 0),none⟩,[]⟩,⟨⟨some 10,.call ⟨(.builtin .len),#[.tmp 9],#[27]⟩,none⟩,[]⟩,⟨⟨some 11,.move (.const (.int .i64 0)),none⟩,[]⟩]) (.block 0 (.loop (.seq (.reg [⟨⟨some 12,.binOp .lss 3 (.tmp 11) (.tmp 10) 3,none⟩,[]⟩]) (.seq (.cond (.tmp 12) .skip (.exit 0)) (.seq (.block 1 (.seq (.reg [⟨⟨some 13,.move (.tmp 11),none⟩,[]⟩,⟨⟨some 14,.indexAddr 27 (.tmp 9) (.tmp 11),none⟩,[]⟩,⟨⟨some 15,.load 3 (.tmp 14),none⟩,[]⟩,⟨⟨some 5,.assign (.tmp 13),none⟩,[]⟩,⟨⟨some 6,.assign (.tmp 15),none⟩,[]⟩]) (.seq (.seq (.reg [⟨⟨some 16,.move (.tmp 5),none⟩,[]⟩,⟨⟨some 17,.move (.tmp 1),none⟩,[]⟩,⟨⟨some 18,.call ⟨(.builtin .len),#[.tmp 17],#[27]⟩,none⟩,[]⟩,⟨⟨some 19,.binOp .geq 3 (.tmp 16) (.tmp 18) 3,none⟩,[]⟩]) (.cond (.tmp 19) (.seq (.reg [⟨⟨some 4,.assign (.const (.int .i64 1)),none⟩,[]⟩]) .ret) .skip)) (.seq (.reg [⟨⟨some 20,.move (.tmp 1),none⟩,[]⟩,⟨⟨some 21,.move (.tmp 5),none⟩,[]⟩,⟨⟨some 22,.indexAddr 27 (.tmp 20) (.tmp 21),none⟩,[]⟩,
 ⟨⟨some 23,.load 3 (.tmp 22),none⟩,[]⟩,
  ⟨⟨some 7,.assign (.tmp 23),none⟩,[]⟩]) (.seq (.reg [⟨⟨some 24,.move (.tmp 6),none⟩,[]⟩,
  ⟨⟨some 25,.move (.tmp 7),none⟩,[]⟩,
  ⟨⟨some 26,.call ⟨(.value (.func 206)),#[.tmp 24,.tmp 25],#[3,3]⟩,none⟩,[]⟩,
  ⟨⟨some 8,.assign (.tmp 26),none⟩,[]⟩]) (.seq (.reg [⟨⟨some 27,.move (.tmp 8),none⟩,[]⟩,
  ⟨⟨some 28,.binOp .neq 3 (.tmp 27) (.const (.int .i64 0)) 3,none⟩,[]⟩]) (.cond (.tmp 28) (.seq (.reg [⟨⟨some 29,.move (.tmp 8),none⟩,[]⟩,
  ⟨⟨some 4,.assign (.tmp 29),none⟩,[]⟩]) .ret) .skip))))))) (.reg [⟨⟨some 30,.binOp .add 3 (.tmp 11) (.const (.int .i64 1)) 3,none⟩,[]⟩,
  ⟨⟨some 11,.move (.tmp 30),none⟩,[]⟩]))))))) (.seq (.seq (.reg [⟨⟨some 31,.move (.tmp 0),none⟩,[]⟩,
  ⟨⟨some 32,.call ⟨(.builtin .len),#[.tmp 31],#[27]⟩,none⟩,[]⟩,
  ⟨⟨some 33,.move (.tmp 1),none⟩,[]⟩,
  ⟨⟨some 34,.call ⟨(.builtin .len),#[.tmp 33],#[27]⟩,none⟩,[]⟩,
  ⟨⟨some 35,.binOp .lss 3 (.tmp 32) (.tmp 34) 3,none⟩,[]⟩]) (.cond (.tmp 35) (.seq (.reg [⟨⟨some 4,.assign (.const (.int .i64 (-1))),none⟩,[]⟩]) .ret) .skip)) (.seq (.reg [⟨⟨some 4,.assign (.const (.int .i64 0)),none⟩,[]⟩]) .ret))))
theorem in166:InT Tryz.prog 166 2 [.tmp 4] cd166:=InT.mk (by kernel_rfl) [] Tryz.func166 rfl (by kernel_rfl) (by kernel_rfl) (of_decide_eq_true (by kernel_rfl)) (by kernel_rfl)
def cd251:Cd:=(.seq (.reg [⟨⟨some 10,.assign (.const (.int .i64 0)),none⟩,[]⟩,⟨⟨some 11,.assign (.const (.int .i64 0)),none⟩,[]⟩]) (.seq (.seq (.reg [⟨⟨some 12,.move (.tmp 4),none⟩,[]⟩,⟨⟨some 13,.move (.tmp 0),none⟩,[]⟩,⟨⟨some 14,.move (.tmp 2),none⟩,[]⟩,⟨⟨some 15,.indexAddr 36 (.tmp 13) (.tmp 14),none⟩,[]⟩,⟨⟨some 16,.load 27 (.tmp 15),none⟩,[]⟩,⟨⟨some 17,.move (.tmp 0),none⟩,[]⟩,⟨⟨some 18,.move (.tmp 1),none⟩,[]⟩,⟨⟨some 19,.indexAddr 36 (.tmp 17) (.tmp 18),none⟩,[]⟩,⟨⟨some 20,.load 27 (.tmp 19),none⟩,[]⟩,⟨⟨some 21,.call ⟨(.value (.tmp 12)),#[.tmp 16,.tmp 20],#[27,27]⟩,none⟩,[]⟩,⟨⟨some 22,.binOp .lss 3 (.tmp 21) (.const (.int .i64 0)) 3,none⟩,[]⟩]) (.cond (.tmp 22) (.seq (.reg [⟨⟨some 23,.move (.tmp 3),none⟩,[]⟩,
 ⟨⟨some 24,.nilCheck (.tmp 23),none⟩,[]⟩,
  ⟨⟨some 25,.load 3 (.tmp 24),none⟩,[]⟩,
  ⟨⟨some 26,.binOp .add 3 (.tmp 25) (.const (.int .i64 1)) 3,none⟩,[]⟩,
  ⟨⟨some 27,.nilCheck (.tmp 23),none⟩,[]⟩,
  ⟨⟨none,.store 3 (.tmp 27) (.tmp 26),none⟩,[]⟩]) (.seq (.reg [⟨⟨some 28,.move (.tmp 2),none⟩,[]⟩,
  ⟨⟨some 29,.move (.tmp 1),none⟩,[]⟩,
  ⟨⟨some 10,.assign (.tmp 28),none⟩,[]⟩,
  ⟨⟨some 11,.assign (.tmp 29),none⟩,[]⟩]) .ret)) .skip)) (.seq (.reg [⟨⟨some 30,.move (.tmp 1),none⟩,[]⟩,
  ⟨⟨some 31,.move (.tmp 2),none⟩,[]⟩,
  ⟨⟨some 10,.assign (.tmp 30),none⟩,[]⟩,
  ⟨⟨some 11,.assign (.tmp 31),none⟩,[]⟩]) .ret)))
theorem in251:InT Tryz.prog 251 5 [.tmp 10,.tmp 11] cd251:=InT.mk (by kernel_rfl) [(1,[(0,false),(1,false),(2,false),(3,false),(4,false),(5,false),(6,false),(7,false),(8,false),(9,true),(10,false)])] Tryz.func251 rfl (by kernel_rfl) (by kernel_rfl) (of_decide_eq_true (by kernel_rfl)) (by kernel_rfl)
def cd248:Cd:=(.seq (.reg [⟨⟨some 12,.assign (.const (.int .i64 0)),none⟩,[]⟩]) (.seq (.reg [⟨⟨some 14,.move (.tmp 0),none⟩,[]⟩,⟨⟨some 15,.move (.tmp 1),none⟩,[]⟩,⟨⟨some 16,.move (.tmp 2),none⟩,[]⟩,⟨⟨some 17,.move (.tmp 4),none⟩,[]⟩,⟨⟨some 18,.move (.tmp 5),none⟩,[]⟩,⟨⟨some 19,.call ⟨(.value (.func 251)),#[.tmp 14,.tmp 15,.tmp 16,.tmp 17,.tmp 18],#[36,3,3,188,136]⟩,none⟩,[]⟩,⟨⟨some 13,.move (.tmp 19),none⟩,[]⟩,⟨⟨some 20,.extract (.tmp 13) 0,none⟩,[]⟩,⟨⟨some 21,.extract (.tmp 13) 1,none⟩,[]⟩,⟨⟨some 1,.assign (.tmp 20),none⟩,[]⟩,⟨⟨some 2,.assign (.tmp 21),none⟩,[]⟩]) (.seq (.reg [⟨⟨some 23,.move (.tmp 0),none⟩,[]⟩,⟨⟨some 24,.move (.tmp 2),none⟩,[]⟩,
 ⟨⟨some 25,.move (.tmp 3),none⟩,[]⟩,⟨⟨some 26,.move (.tmp 4),none⟩,[]⟩,⟨⟨some 27,.move (.tmp 5),none⟩,[]⟩,⟨⟨some 28,.call ⟨(.value (.func 251)),#[.tmp 23,.tmp 24,.tmp 25,.tmp 26,.tmp 27],#[36,3,3,188,136]⟩,none⟩,[]⟩,⟨⟨some 22,.move (.tmp 28),none⟩,[]⟩,⟨⟨some 29,.extract (.tmp 22) 0,none⟩,[]⟩,⟨⟨some 30,.extract (.tmp 22) 1,none⟩,[]⟩,⟨⟨some 2,.assign (.tmp 29),none⟩,[]⟩,⟨⟨some 3,.assign (.tmp 30),none⟩,[]⟩]) (.seq (.reg [⟨⟨some 32,.move (.tmp 0),none⟩,[]⟩,⟨⟨some 33,.move (.tmp 1),none⟩,[]⟩,⟨⟨some 34,.move (.tmp 2),none⟩,[]⟩,⟨⟨some 35,.move (.tmp 4),none⟩,[]⟩,
 ⟨⟨some 36,.move (.tmp 5),none⟩,[]⟩,
  ⟨⟨some 37,.call ⟨(.value (.func 251)),#[.tmp 32,.tmp 33,.tmp 34,.tmp 35,.tmp 36],#[36,3,3,188,136]⟩,none⟩,[]⟩,
  ⟨⟨some 31,.move (.tmp 37),none⟩,[]⟩,
  ⟨⟨some 38,.extract (.tmp 31) 0,none⟩,[]⟩,
  ⟨⟨some 39,.extract (.tmp 31) 1,none⟩,[]⟩,
  ⟨⟨some 1,.assign (.tmp 38),none⟩,[]⟩,
  ⟨⟨some 2,.assign (.tmp 39),none⟩,[]⟩]) (.seq (.reg [⟨⟨some 40,.move (.tmp 2),none⟩,[]⟩,
  ⟨⟨some 12,.assign (.tmp 40),none⟩,[]⟩]) .ret)))))
theorem in248:InT Tryz.prog 248 6 [.tmp 12] cd248:=InT.mk (by kernel_rfl) [] Tryz.func248 rfl (by kernel_rfl) (by kernel_rfl) (of_decide_eq_true (by kernel_rfl)) (by kernel_rfl)
def cd247:Cd:=(.seq (.reg [⟨⟨some 8,.assign (.const (.int .i64 0)),none⟩,[]⟩]) (.seq (.reg [⟨⟨some 9,.move (.tmp 0),none⟩,[]⟩,
  ⟨⟨some 10,.move (.tmp 1),none⟩,[]⟩,
  ⟨⟨some 11,.binOp .sub 3 (.tmp 10) (.const (.int .i64 1)) 3,none⟩,[]⟩,
  ⟨⟨some 12,.move (.tmp 1),none⟩,[]⟩,
  ⟨⟨some 13,.move (.tmp 1),none⟩,[]⟩,
  ⟨⟨some 14,.binOp .add 3 (.tmp 13) (.const (.int .i64 1)) 3,none⟩,[]⟩,
  ⟨⟨some 15,.move (.tmp 2),none⟩,[]⟩,
  ⟨⟨some 16,.move (.tmp 3),none⟩,[]⟩,
  ⟨⟨some 17,.call ⟨(.value (.func 248)),#[.tmp 9,.tmp 11,.tmp 12,.tmp 14,.tmp 15,.tmp 16],#[36,3,3,3,188,136]⟩,none⟩,[]⟩,
  ⟨⟨some 8,.assign (.tmp 17),none⟩,[]⟩]) .ret))
theorem in247:InT Tryz.prog 247 4 [.tmp 8] cd247:=InT.mk (by kernel_rfl) [] Tryz.func247 rfl (by kernel_rfl) (by kernel_rfl) (of_decide_eq_true (by kernel_rfl)) (by kernel_rfl)
def cd234:Cd:=(.seq (.reg [⟨⟨some 8,.assign (.const (.bool false)),none⟩,[]⟩]) (.seq (.reg [⟨⟨some 13,.move (.tmp 1),none⟩,[]⟩,⟨⟨some 14,.binOp .add 3 (.tmp 13) (.const (.int .i64 1)) 3,none⟩,[]⟩,⟨⟨some 9,.assign (.tmp 14),none⟩,[]⟩]) (.seq (.seq (.reg [⟨⟨some 10,.assign (.const (.int .i64 0)),none⟩,[]⟩]) (.block 0 (.loop (.seq (.seq (.reg [⟨⟨some 15,.move (.tmp 10),none⟩,[]⟩,⟨⟨some 16,.binOp .lss 3 (.tmp 15) (.const (.int .i64 5)) 3,none⟩,[]⟩]) (.cond (.tmp 16) .skip (.exit 0))) (.seq (.block 1 (.seq (.block 2 (.loop (.seq (.seq (.reg [⟨⟨some 19,.move (.tmp 9),none⟩,[]⟩,⟨⟨some 20,.move (.tmp 2),none⟩,[]⟩,⟨⟨some 21,.binOp .lss 3 (.tmp 19) (.tmp 20) 3,none⟩,[]⟩,⟨⟨some 22,.move (.tmp 21),none⟩,[]⟩,⟨⟨some 23,.move (.tmp 3),some (22,true)⟩,[]⟩,⟨⟨some 24,.move (.tmp 0),some (22,true)⟩,[]⟩,⟨⟨some 25,.move (.tmp 9),some (22,true)⟩,[]⟩,⟨⟨some 26,.indexAddr 36 (.tmp 24) (.tmp 25),some (22,true)⟩,[]⟩,⟨⟨some 27,.load 27 (.tmp 26),some (22,true)⟩,[]⟩,
 ⟨⟨some 28,.move (.tmp 0),some (22,true)⟩,[]⟩,⟨⟨some 29,.move (.tmp 9),some (22,true)⟩,[]⟩,⟨⟨some 30,.binOp .sub 3 (.tmp 29) (.const (.int .i64 1)) 3,some (22,true)⟩,[]⟩,⟨⟨some 31,.indexAddr 36 (.tmp 28) (.tmp 30),some (22,true)⟩,[]⟩,⟨⟨some 32,.load 27 (.tmp 31),some (22,true)⟩,[]⟩,⟨⟨some 33,.call ⟨(.value (.tmp 23)),#[.tmp 27,.tmp 32],#[27,27]⟩,some (22,true)⟩,[]⟩,⟨⟨some 34,.binOp .lss 3 (.tmp 33) (.const (.int .i64 0)) 3,some (22,true)⟩,[]⟩,⟨⟨some 35,.unOp .not 4 (.tmp 34),some (22,true)⟩,[]⟩,⟨⟨some 36,.pick (.tmp 22) (.tmp 35) (.const (.bool false)),none⟩,[]⟩]) (.cond (.tmp 36) .skip (.exit 2))) (.block 3 (.reg [⟨⟨some 37,.move (.tmp 9),none⟩,[]⟩,⟨⟨some 38,.binOp .add 3 (.tmp 37) (.const (.int .i64 1)) 3,none⟩,[]⟩,⟨⟨some 9,.assign (.tmp 38),none⟩,[]⟩]))))) (.seq (.seq (.reg [⟨⟨some 39,.move (.tmp 9),none⟩,[]⟩,⟨⟨some 40,.move (.tmp 2),none⟩,[]⟩,
 ⟨⟨some 41,.binOp .eql 3 (.tmp 39) (.tmp 40) 3,none⟩,[]⟩]) (.cond (.tmp 41) (.seq (.reg [⟨⟨some 8,.assign (.const (.bool true)),none⟩,[]⟩]) .ret) .skip)) (.seq (.seq (.reg [⟨⟨some 42,.move (.tmp 2),none⟩,[]⟩,⟨⟨some 43,.move (.tmp 1),none⟩,[]⟩,⟨⟨some 44,.binOp .sub 3 (.tmp 42) (.tmp 43) 3,none⟩,[]⟩,⟨⟨some 45,.binOp .lss 3 (.tmp 44) (.const (.int .i64 50)) 3,none⟩,[]⟩]) (.cond (.tmp 45) (.seq (.reg [⟨⟨some 8,.assign (.const (.bool false)),none⟩,[]⟩]) .ret) .skip)) (.seq (.reg [⟨⟨some 46,.move (.tmp 0),none⟩,[]⟩,⟨⟨some 47,.move (.tmp 9),none⟩,[]⟩,⟨⟨some 48,.move (.tmp 0),none⟩,[]⟩,⟨⟨some 49,.move (.tmp 9),none⟩,[]⟩,⟨⟨some 50,.binOp .sub 3 (.tmp 49) (.const (.int .i64 1)) 3,none⟩,[]⟩,⟨⟨some 51,.move (.tmp 0),none⟩,[]⟩,⟨⟨some 52,.move (.tmp 9),none⟩,[]⟩,⟨⟨some 53,.binOp .sub 3 (.tmp 52) (.const (.int .i64 1)) 3,none⟩,[]⟩,⟨⟨some 54,.indexAddr 36 (.tmp 51) (.tmp 53),none⟩,[]⟩,
 ⟨⟨some 55,.load 27 (.tmp 54),none⟩,[]⟩,⟨⟨some 56,.move (.tmp 0),none⟩,[]⟩,⟨⟨some 57,.move (.tmp 9),none⟩,[]⟩,⟨⟨some 58,.indexAddr 36 (.tmp 56) (.tmp 57),none⟩,[]⟩,⟨⟨some 59,.load 27 (.tmp 58),none⟩,[]⟩,⟨⟨some 60,.indexAddr 36 (.tmp 46) (.tmp 47),none⟩,[]⟩,⟨⟨none,.store 27 (.tmp 60) (.tmp 55),none⟩,[]⟩,⟨⟨some 61,.indexAddr 36 (.tmp 48) (.tmp 50),none⟩,[]⟩,⟨⟨none,.store 27 (.tmp 61) (.tmp 59),none⟩,[]⟩]) (.seq (.seq (.reg [⟨⟨some 62,.move (.tmp 9),none⟩,[]⟩,⟨⟨some 63,.move (.tmp 1),none⟩,[]⟩,⟨⟨some 64,.binOp .sub 3 (.tmp 62) (.tmp 63) 3,none⟩,[]⟩,⟨⟨some 65,.binOp .geq 3 (.tmp 64) (.const (.int .i64 2)) 3,none⟩,[]⟩]) (.cond (.tmp 65) (.seq (.reg [⟨⟨some 66,.move (.tmp 9),none⟩,[]⟩,
 ⟨⟨some 67,.binOp .sub 3 (.tmp 66) (.const (.int .i64 1)) 3,none⟩,[]⟩,⟨⟨some 11,.assign (.tmp 67),none⟩,[]⟩]) (.block 4 (.loop (.seq (.seq (.reg [⟨⟨some 68,.move (.tmp 11),none⟩,[]⟩,⟨⟨some 69,.binOp .geq 3 (.tmp 68) (.const (.int .i64 1)) 3,none⟩,[]⟩]) (.cond (.tmp 69) .skip (.exit 4))) (.seq (.block 5 (.seq (.seq (.reg [⟨⟨some 72,.move (.tmp 3),none⟩,[]⟩,⟨⟨some 73,.move (.tmp 0),none⟩,[]⟩,⟨⟨some 74,.move (.tmp 11),none⟩,[]⟩,⟨⟨some 75,.indexAddr 36 (.tmp 73) (.tmp 74),none⟩,[]⟩,⟨⟨some 76,.load 27 (.tmp 75),none⟩,[]⟩,⟨⟨some 77,.move (.tmp 0),none⟩,[]⟩,⟨⟨some 78,.move (.tmp 11),none⟩,[]⟩,⟨⟨some 79,.binOp .sub 3 (.tmp 78) (.const (.int .i64 1)) 3,none⟩,[]⟩,⟨⟨some 80,.indexAddr 36 (.tmp 77) (.tmp 79),none⟩,[]⟩,⟨⟨some 81,.load 27 (.tmp 80),none⟩,[]⟩,
 ⟨⟨some 82,.call ⟨(.value (.tmp 72)),#[.tmp 76,.tmp 81],#[27,27]⟩,none⟩,[]⟩,⟨⟨some 83,.binOp .lss 3 (.tmp 82) (.const (.int .i64 0)) 3,none⟩,[]⟩,⟨⟨some 84,.unOp .not 4 (.tmp 83),none⟩,[]⟩]) (.cond (.tmp 84) (.exit 4) .skip)) (.reg [⟨⟨some 85,.move (.tmp 0),none⟩,[]⟩,⟨⟨some 86,.move (.tmp 11),none⟩,[]⟩,⟨⟨some 87,.move (.tmp 0),none⟩,[]⟩,⟨⟨some 88,.move (.tmp 11),none⟩,[]⟩,⟨⟨some 89,.binOp .sub 3 (.tmp 88) (.const (.int .i64 1)) 3,none⟩,[]⟩,⟨⟨some 90,.move (.tmp 0),none⟩,[]⟩,⟨⟨some 91,.move (.tmp 11),none⟩,[]⟩,⟨⟨some 92,.binOp .sub 3 (.tmp 91) (.const (.int .i64 1)) 3,none⟩,[]⟩,⟨⟨some 93,.indexAddr 36 (.tmp 90) (.tmp 92),none⟩,[]⟩,⟨⟨some 94,.load 27 (.tmp 93),none⟩,[]⟩,
 ⟨⟨some 95,.move (.tmp 0),none⟩,[]⟩,⟨⟨some 96,.move (.tmp 11),none⟩,[]⟩,⟨⟨some 97,.indexAddr 36 (.tmp 95) (.tmp 96),none⟩,[]⟩,⟨⟨some 98,.load 27 (.tmp 97),none⟩,[]⟩,⟨⟨some 99,.indexAddr 36 (.tmp 85) (.tmp 86),none⟩,[]⟩,⟨⟨none,.store 27 (.tmp 99) (.tmp 94),none⟩,[]⟩,⟨⟨some 100,.indexAddr 36 (.tmp 87) (.tmp 89),none⟩,[]⟩,⟨⟨none,.store 27 (.tmp 100) (.tmp 98),none⟩,[]⟩]))) (.reg [⟨⟨some 70,.move (.tmp 11),none⟩,[]⟩,⟨⟨some 71,.binOp .sub 3 (.tmp 70) (.const (.int .i64 1)) 3,none⟩,[]⟩,⟨⟨some 11,.assign (.tmp 71),none⟩,[]⟩])))))) .skip)) (.seq (.reg [⟨⟨some 101,.move (.tmp 2),none⟩,[]⟩,⟨⟨some 102,.move (.tmp 9),none⟩,[]⟩,⟨⟨some 103,.binOp .sub 3 (.tmp 101) (.tmp 102) 3,none⟩,[]⟩,
 ⟨⟨some 104,.binOp .geq 3 (.tmp 103) (.const (.int .i64 2)) 3,none⟩,[]⟩]) (.cond (.tmp 104) (.seq (.reg [⟨⟨some 105,.move (.tmp 9),none⟩,[]⟩,⟨⟨some 106,.binOp .add 3 (.tmp 105) (.const (.int .i64 1)) 3,none⟩,[]⟩,⟨⟨some 12,.assign (.tmp 106),none⟩,[]⟩]) (.block 6 (.loop (.seq (.seq (.reg [⟨⟨some 107,.move (.tmp 12),none⟩,[]⟩,⟨⟨some 108,.move (.tmp 2),none⟩,[]⟩,⟨⟨some 109,.binOp .lss 3 (.tmp 107) (.tmp 108) 3,none⟩,[]⟩]) (.cond (.tmp 109) .skip (.exit 6))) (.seq (.block 7 (.seq (.seq (.reg [⟨⟨some 112,.move (.tmp 3),none⟩,[]⟩,⟨⟨some 113,.move (.tmp 0),none⟩,[]⟩,⟨⟨some 114,.move (.tmp 12),none⟩,[]⟩,⟨⟨some 115,.indexAddr 36 (.tmp 113) (.tmp 114),none⟩,[]⟩,⟨⟨some 116,.load 27 (.tmp 115),none⟩,[]⟩,⟨⟨some 117,.move (.tmp 0),none⟩,[]⟩,⟨⟨some 118,.move (.tmp 12),none⟩,[]⟩,⟨⟨some 119,.binOp .sub 3 (.tmp 118) (.const (.int .i64 1)) 3,none⟩,[]⟩,
 ⟨⟨some 120,.indexAddr 36 (.tmp 117) (.tmp 119),none⟩,[]⟩,⟨⟨some 121,.load 27 (.tmp 120),none⟩,[]⟩,⟨⟨some 122,.call ⟨(.value (.tmp 112)),#[.tmp 116,.tmp 121],#[27,27]⟩,none⟩,[]⟩,⟨⟨some 123,.binOp .lss 3 (.tmp 122) (.const (.int .i64 0)) 3,none⟩,[]⟩,⟨⟨some 124,.unOp .not 4 (.tmp 123),none⟩,[]⟩]) (.cond (.tmp 124) (.exit 6) .skip)) (.reg [⟨⟨some 125,.move (.tmp 0),none⟩,[]⟩,⟨⟨some 126,.move (.tmp 12),none⟩,[]⟩,⟨⟨some 127,.move (.tmp 0),none⟩,[]⟩,⟨⟨some 128,.move (.tmp 12),none⟩,[]⟩,⟨⟨some 129,.binOp .sub 3 (.tmp 128) (.const (.int .i64 1)) 3,none⟩,[]⟩,⟨⟨some 130,.move (.tmp 0),none⟩,[]⟩,⟨⟨some 131,.move (.tmp 12),none⟩,[]⟩,⟨⟨some 132,.binOp .sub 3 (.tmp 131) (.const (.int .i64 1)) 3,none⟩,[]⟩,
 ⟨⟨some 133,.indexAddr 36 (.tmp 130) (.tmp 132),none⟩,[]⟩,⟨⟨some 134,.load 27 (.tmp 133),none⟩,[]⟩,⟨⟨some 135,.move (.tmp 0),none⟩,[]⟩,⟨⟨some 136,.move (.tmp 12),none⟩,[]⟩,⟨⟨some 137,.indexAddr 36 (.tmp 135) (.tmp 136),none⟩,[]⟩,⟨⟨some 138,.load 27 (.tmp 137),none⟩,[]⟩,⟨⟨some 139,.indexAddr 36 (.tmp 125) (.tmp 126),none⟩,[]⟩,⟨⟨none,.store 27 (.tmp 139) (.tmp 134),none⟩,[]⟩,⟨⟨some 140,.indexAddr 36 (.tmp 127) (.tmp 129),none⟩,[]⟩,⟨⟨none,.store 27 (.tmp 140) (.tmp 138),none⟩,[]⟩]))) (.reg [⟨⟨some 110,.move (.tmp 12),none⟩,[]⟩,⟨⟨some 111,.binOp .add 3 (.tmp 110) (.const (.int .i64 1)) 3,none⟩,[]⟩,⟨⟨some 12,.assign (.tmp 111),none⟩,[]⟩])))))) .skip)))))))) (.reg [⟨⟨some 17,.move (.tmp 10),none⟩,[]⟩,
 ⟨⟨some 18,.binOp .add 3 (.tmp 17) (.const (.int .i64 1)) 3,none⟩,[]⟩,
  ⟨⟨some 10,.assign (.tmp 18),none⟩,[]⟩])))))) (.seq (.reg [⟨⟨some 8,.assign (.const (.bool false)),none⟩,[]⟩]) .ret))))
theorem in234:InT Tryz.prog 234 4 [.tmp 8] cd234:=InT.mk (by kernel_rfl) [(5,[(0,false),(1,false),(2,false),(3,false),(4,false),(5,false),(6,false),(7,false),(8,false),(9,false),(10,false),(11,false),(12,false),(13,false),(14,true),(15,false),(16,false),(17,false)]),(11,[(0,false),(1,false),(2,false),(3,false),(4,false),(5,false),(6,false),(7,false),(8,false),(9,false),(10,false),(11,false),(12,false),(13,false),(14,false),(15,true),(16,false),(17,true)]),(16,[(0,false),(1,false),(2,false),(3,false),(4,false),(5,false),(6,false),(7,false),(8,false),(9,false),(10,true),(11,false),(12,false)]),(17,[(0,false),(1,false),(2,false),(3,false),(4,false),(5,false),(6,false),(7,false),(8,false),(9,false),(10,false),(11,false),(12,false),(13,false),(14,false),(15,true),(16,false),(17,true)]),(22,[(0,false),(1,false),(2,false),(3,false),(4,false),(5,false),(6,false),(7,false),(8,false),(9,false),(10,true),(11,false),(12,false)]),(23,[(0,false),(1,false),(2,false),(3,false),(4,false),(5,false),(6,false),(7,false),(8,false),(9,false),(10,false),(11,false),(12,false),(13,false),(14,false),(15,true),(16,false),(17,true)])] Tryz.func234 rfl (by kernel_rfl) (by kernel_rfl) (of_decide_eq_true (by kernel_rfl)) (by kernel_rfl)
def cd229:Cd:=(.seq (.reg [⟨⟨some 10,.move (.tmp 1),none⟩,[]⟩,⟨⟨some 11,.binOp .add 3 (.tmp 10) (.const (.int .i64 1)) 3,none⟩,[]⟩,⟨⟨some 8,.assign (.tmp 11),none⟩,[]⟩]) (.block 0 (.loop (.seq (.seq (.reg [⟨⟨some 12,.move (.tmp 8),none⟩,[]⟩,⟨⟨some 13,.move (.tmp 2),none⟩,[]⟩,⟨⟨some 14,.binOp .lss 3 (.tmp 12) (.tmp 13) 3,none⟩,[]⟩]) (.cond (.tmp 14) .skip (.exit 0))) (.seq (.block 1 (.seq (.reg [⟨⟨some 17,.move (.tmp 8),none⟩,[]⟩,⟨⟨some 9,.assign (.tmp 17),none⟩,[]⟩]) (.block 2 (.loop (.seq (.seq (.reg [⟨⟨some 18,.move (.tmp 9),none⟩,[]⟩,⟨⟨some 19,.move (.tmp 1),none⟩,[]⟩,⟨⟨some 20,.binOp .gtr 3 (.tmp 18) (.tmp 19) 3,none⟩,[]⟩,⟨⟨some 21,.move (.tmp 20),none⟩,[]⟩,⟨⟨some 22,.move (.tmp 3),some (21,true)⟩,[]⟩,⟨⟨some 23,.move (.tmp 0),some (21,true)⟩,[]⟩,⟨⟨some 24,.move (.tmp 9),some (21,true)⟩,[]⟩,
 ⟨⟨some 25,.indexAddr 36 (.tmp 23) (.tmp 24),some (21,true)⟩,[]⟩,⟨⟨some 26,.load 27 (.tmp 25),some (21,true)⟩,[]⟩,⟨⟨some 27,.move (.tmp 0),some (21,true)⟩,[]⟩,⟨⟨some 28,.move (.tmp 9),some (21,true)⟩,[]⟩,⟨⟨some 29,.binOp .sub 3 (.tmp 28) (.const (.int .i64 1)) 3,some (21,true)⟩,[]⟩,⟨⟨some 30,.indexAddr 36 (.tmp 27) (.tmp 29),some (21,true)⟩,[]⟩,⟨⟨some 31,.load 27 (.tmp 30),some (21,true)⟩,[]⟩,⟨⟨some 32,.call ⟨(.value (.tmp 22)),#[.tmp 26,.tmp 31],#[27,27]⟩,some (21,true)⟩,[]⟩,⟨⟨some 33,.binOp .lss 3 (.tmp 32) (.const (.int .i64 0)) 3,some (21,true)⟩,[]⟩,⟨⟨some 34,.pick (.tmp 21) (.tmp 33) (.const (.bool false)),none⟩,[]⟩]) (.cond (.tmp 34) .skip (.exit 2))) (.seq (.block 3 (.reg [⟨⟨some 37,.move (.tmp 0),none⟩,[]⟩,⟨⟨some 38,.move (.tmp 9),none⟩,[]⟩,⟨⟨some 39,.move (.tmp 0),none⟩,[]⟩,
 ⟨⟨some 40,.move (.tmp 9),none⟩,[]⟩,⟨⟨some 41,.binOp .sub 3 (.tmp 40) (.const (.int .i64 1)) 3,none⟩,[]⟩,⟨⟨some 42,.move (.tmp 0),none⟩,[]⟩,⟨⟨some 43,.move (.tmp 9),none⟩,[]⟩,⟨⟨some 44,.binOp .sub 3 (.tmp 43) (.const (.int .i64 1)) 3,none⟩,[]⟩,⟨⟨some 45,.indexAddr 36 (.tmp 42) (.tmp 44),none⟩,[]⟩,⟨⟨some 46,.load 27 (.tmp 45),none⟩,[]⟩,⟨⟨some 47,.move (.tmp 0),none⟩,[]⟩,⟨⟨some 48,.move (.tmp 9),none⟩,[]⟩,⟨⟨some 49,.indexAddr 36 (.tmp 47) (.tmp 48),none⟩,[]⟩,⟨⟨some 50,.load 27 (.tmp 49),none⟩,[]⟩,⟨⟨some 51,.indexAddr 36 (.tmp 37) (.tmp 38),none⟩,[]⟩,
 ⟨⟨none,.store 27 (.tmp 51) (.tmp 46),none⟩,[]⟩,
  ⟨⟨some 52,.indexAddr 36 (.tmp 39) (.tmp 41),none⟩,[]⟩,
  ⟨⟨none,.store 27 (.tmp 52) (.tmp 50),none⟩,[]⟩])) (.reg [⟨⟨some 35,.move (.tmp 9),none⟩,[]⟩,
  ⟨⟨some 36,.binOp .sub 3 (.tmp 35) (.const (.int .i64 1)) 3,none⟩,[]⟩,
  ⟨⟨some 9,.assign (.tmp 36),none⟩,[]⟩]))))))) (.reg [⟨⟨some 15,.move (.tmp 8),none⟩,[]⟩,
  ⟨⟨some 16,.binOp .add 3 (.tmp 15) (.const (.int .i64 1)) 3,none⟩,[]⟩,
  ⟨⟨some 8,.assign (.tmp 16),none⟩,[]⟩]))))))
theorem in229:InT Tryz.prog 229 4 [] cd229:=InT.mk (by kernel_rfl) [(4,[(0,false),(1,false),(2,false),(3,false),(4,false),(5,false),(6,false),(7,false),(8,false),(9,false),(10,false),(11,false),(12,false),(13,false),(14,true),(15,false),(16,false)]),(6,[(0,false),(1,false),(2,false),(3,false),(4,false),(5,false),(6,false),(7,false),(8,false),(9,false),(10,false),(11,false),(12,false),(13,false),(14,false),(15,true),(16,false),(17,true)])] Tryz.func229 rfl (by kernel_rfl) (by kernel_rfl) (of_decide_eq_true (by kernel_rfl)) (by kernel_rfl)
def cd232:Cd:=(.seq (.reg [⟨⟨some 8,.assign (.const (.int .i64 0)),none⟩,[]⟩,⟨⟨some 9,.assign (.const (.int .i64 0)),none⟩,[]⟩]) (.seq (.reg [⟨⟨some 15,.move (.tmp 2),none⟩,[]⟩,⟨⟨some 16,.move (.tmp 1),none⟩,[]⟩,⟨⟨some 17,.binOp .sub 3 (.tmp 15) (.tmp 16) 3,none⟩,[]⟩,⟨⟨some 10,.assign (.tmp 17),none⟩,[]⟩]) (.seq (.reg [⟨⟨some 11,.alloc 3,none⟩,[]⟩]) (.seq (.reg [⟨⟨some 18,.move (.tmp 1),none⟩,[]⟩,⟨⟨some 19,.move (.tmp 10),none⟩,[]⟩,⟨⟨some 20,.binOp .quo 3 (.tmp 19) (.const (.int .i64 4)) 3,none⟩,[]⟩,⟨⟨some 21,.binOp .mul 3 (.tmp 20) (.const (.int .i64 1)) 3,none⟩,[]⟩,⟨⟨some 22,.binOp .add 3 (.tmp 18) (.tmp 21) 3,none⟩,[]⟩,⟨⟨some 12,.assign (.tmp 22),none⟩,[]⟩]) (.seq (.reg [⟨⟨some 23,.move (.tmp 1),none⟩,[]⟩,⟨⟨some 24,.move (.tmp 10),none⟩,[]⟩,⟨⟨some 25,.binOp .quo 3 (.tmp 24) (.const (.int .i64 4)) 3,none⟩,[]⟩,
 ⟨⟨some 26,.binOp .mul 3 (.tmp 25) (.const (.int .i64 2)) 3,none⟩,[]⟩,⟨⟨some 27,.binOp .add 3 (.tmp 23) (.tmp 26) 3,none⟩,[]⟩,⟨⟨some 13,.assign (.tmp 27),none⟩,[]⟩]) (.seq (.reg [⟨⟨some 28,.move (.tmp 1),none⟩,[]⟩,⟨⟨some 29,.move (.tmp 10),none⟩,[]⟩,⟨⟨some 30,.binOp .quo 3 (.tmp 29) (.const (.int .i64 4)) 3,none⟩,[]⟩,⟨⟨some 31,.binOp .mul 3 (.tmp 30) (.const (.int .i64 3)) 3,none⟩,[]⟩,⟨⟨some 32,.binOp .add 3 (.tmp 28) (.tmp 31) 3,none⟩,[]⟩,⟨⟨some 14,.assign (.tmp 32),none⟩,[]⟩]) (.seq (.seq (.reg [⟨⟨some 33,.move (.tmp 10),none⟩,[]⟩,⟨⟨some 34,.binOp .geq 3 (.tmp 33) (.const (.int .i64 8)) 3,none⟩,[]⟩]) (.cond (.tmp 34) (.seq (.seq (.reg [⟨⟨some 35,.move (.tmp 10),none⟩,[]⟩,⟨⟨some 36,.binOp .geq 3 (.tmp 35) (.const (.int .i64 50)) 3,none⟩,[]⟩]) (.cond (.tmp 36) (.seq (.reg [⟨⟨some 37,.move (.tmp 0),none⟩,[]⟩,⟨⟨some 38,.move (.tmp 12),none⟩,[]⟩,⟨⟨some 39,.move (.tmp 3),none⟩,[]⟩,
 ⟨⟨some 40,.call ⟨(.value (.func 247)),#[.tmp 37,.tmp 38,.tmp 11,.tmp 39],#[36,3,188,136]⟩,none⟩,[]⟩,⟨⟨some 12,.assign (.tmp 40),none⟩,[]⟩]) (.seq (.reg [⟨⟨some 41,.move (.tmp 0),none⟩,[]⟩,⟨⟨some 42,.move (.tmp 13),none⟩,[]⟩,⟨⟨some 43,.move (.tmp 3),none⟩,[]⟩,⟨⟨some 44,.call ⟨(.value (.func 247)),#[.tmp 41,.tmp 42,.tmp 11,.tmp 43],#[36,3,188,136]⟩,none⟩,[]⟩,⟨⟨some 13,.assign (.tmp 44),none⟩,[]⟩]) (.reg [⟨⟨some 45,.move (.tmp 0),none⟩,[]⟩,⟨⟨some 46,.move (.tmp 14),none⟩,[]⟩,⟨⟨some 47,.move (.tmp 3),none⟩,[]⟩,⟨⟨some 48,.call ⟨(.value (.func 247)),#[.tmp 45,.tmp 46,.tmp 11,.tmp 47],#[36,3,188,136]⟩,none⟩,[]⟩,⟨⟨some 14,.assign (.tmp 48),none⟩,[]⟩]))) .skip)) (.reg [⟨⟨some 49,.move (.tmp 0),none⟩,[]⟩,⟨⟨some 50,.move (.tmp 12),none⟩,[]⟩,⟨⟨some 51,.move (.tmp 13),none⟩,[]⟩,
 ⟨⟨some 52,.move (.tmp 14),none⟩,[]⟩,
  ⟨⟨some 53,.move (.tmp 3),none⟩,[]⟩,
  ⟨⟨some 54,.call ⟨(.value (.func 248)),#[.tmp 49,.tmp 50,.tmp 51,.tmp 52,.tmp 11,.tmp 53],#[36,3,3,3,188,136]⟩,none⟩,[]⟩,
  ⟨⟨some 13,.assign (.tmp 54),none⟩,[]⟩])) .skip)) (.seq (.reg [⟨⟨some 55,.load 3 (.tmp 11),none⟩,[]⟩]) (.block 0 (.seq (.reg [⟨⟨some 58,.binOp .eql 3 (.tmp 55) (.const (.int .i64 0)) 3,none⟩,[]⟩,
  ⟨⟨some 57,.assign (.tmp 58),none⟩,[]⟩]) (.cond (.tmp 57) (.seq (.reg [⟨⟨some 59,.move (.tmp 13),none⟩,[]⟩,
  ⟨⟨some 8,.assign (.tmp 59),none⟩,[]⟩,
  ⟨⟨some 9,.assign (.const (.int .i64 1)),none⟩,[]⟩]) .ret) (.seq (.reg [⟨⟨some 61,.binOp .eql 3 (.tmp 55) (.const (.int .i64 12)) 3,none⟩,[]⟩,
  ⟨⟨some 60,.assign (.tmp 61),none⟩,[]⟩]) (.cond (.tmp 60) (.seq (.reg [⟨⟨some 62,.move (.tmp 13),none⟩,[]⟩,
  ⟨⟨some 8,.assign (.tmp 62),none⟩,[]⟩,
  ⟨⟨some 9,.assign (.const (.int .i64 2)),none⟩,[]⟩]) .ret) (.seq (.reg [⟨⟨some 56,.move (.tmp 13),none⟩,[]⟩,
  ⟨⟨some 8,.assign (.tmp 56),none⟩,[]⟩,
  ⟨⟨some 9,.assign (.const (.int .i64 0)),none⟩,[]⟩]) .ret))))))))))))))
theorem in232:InT Tryz.prog 232 4 [.tmp 8,.tmp 9] cd232:=InT.mk (by kernel_rfl) [] Tryz.func232 rfl (by kernel_rfl) (by kernel_rfl) (of_decide_eq_true (by kernel_rfl)) (by kernel_rfl)
def cd205:Cd:=(.seq (.reg [⟨⟨some 10,.assign (.const (.bool true)),none⟩,[]⟩]) (.seq (.reg [⟨⟨some 11,.assign (.const (.bool true)),none⟩,[]⟩]) (.block 0 (.loop (.block 1 (.seq (.reg [⟨⟨some 21,.move (.tmp 2),none⟩,[]⟩,⟨⟨some 22,.move (.tmp 1),none⟩,[]⟩,⟨⟨some 23,.binOp .sub 3 (.tmp 21) (.tmp 22) 3,none⟩,[]⟩,⟨⟨some 12,.assign (.tmp 23),none⟩,[]⟩]) (.seq (.seq (.reg [⟨⟨some 24,.move (.tmp 12),none⟩,[]⟩,⟨⟨some 25,.binOp .leq 3 (.tmp 24) (.const (.int .i64 12)) 3,none⟩,[]⟩]) (.cond (.tmp 25) (.seq (.reg [⟨⟨some 26,.move (.tmp 0),none⟩,[]⟩,⟨⟨some 27,.move (.tmp 1),none⟩,[]⟩,⟨⟨some 28,.move (.tmp 2),none⟩,[]⟩,⟨⟨some 29,.move (.tmp 4),none⟩,[]⟩,⟨⟨some 30,.call ⟨(.value (.func 229)),#[.tmp 26,.tmp 27,.tmp 28,.tmp 29],#[36,3,3,136]⟩,none⟩,[]⟩]) .ret) .skip)) (.seq (.seq (.reg [⟨⟨some 31,.move (.tmp 3),none⟩,[]⟩,⟨⟨some 32,.binOp .eql 3 (.tmp 31) (.const (.int .i64 0)) 3,none⟩,[]⟩]) (.cond (.tmp 32) (.seq (.reg [⟨⟨some 33,.move (.tmp 0),none⟩,[]⟩,⟨⟨some 34,.move (.tmp 1),none⟩,[]⟩,⟨⟨some 35,.move (.tmp 2),none⟩,[]⟩,
 ⟨⟨some 36,.move (.tmp 4),none⟩,[]⟩,⟨⟨some 37,.call ⟨(.value (.func 230)),#[.tmp 33,.tmp 34,.tmp 35,.tmp 36],#[36,3,3,136]⟩,none⟩,[]⟩]) .ret) .skip)) (.seq (.seq (.reg [⟨⟨some 38,.move (.tmp 10),none⟩,[]⟩,⟨⟨some 39,.unOp .not 4 (.tmp 38),none⟩,[]⟩]) (.cond (.tmp 39) (.seq (.reg [⟨⟨some 40,.move (.tmp 0),none⟩,[]⟩,⟨⟨some 41,.move (.tmp 1),none⟩,[]⟩,⟨⟨some 42,.move (.tmp 2),none⟩,[]⟩,⟨⟨some 43,.move (.tmp 4),none⟩,[]⟩,⟨⟨some 44,.call ⟨(.value (.func 231)),#[.tmp 40,.tmp 41,.tmp 42,.tmp 43],#[36,3,3,136]⟩,none⟩,[]⟩]) (.reg [⟨⟨some 45,.move (.tmp 3),none⟩,[]⟩,⟨⟨some 46,.binOp .sub 3 (.tmp 45) (.const (.int .i64 1)) 3,none⟩,[]⟩,⟨⟨some 3,.assign (.tmp 46),none⟩,[]⟩])) .skip)) (.seq (.reg [⟨⟨some 48,.move (.tmp 0),none⟩,[]⟩,⟨⟨some 49,.move (.tmp 1),none⟩,[]⟩,⟨⟨some 50,.move (.tmp 2),none⟩,[]⟩,⟨⟨some 51,.move (.tmp 4),none⟩,[]⟩,
 ⟨⟨some 52,.call ⟨(.value (.func 232)),#[.tmp 48,.tmp 49,.tmp 50,.tmp 51],#[36,3,3,136]⟩,none⟩,[]⟩,⟨⟨some 47,.move (.tmp 52),none⟩,[]⟩,⟨⟨some 53,.extract (.tmp 47) 0,none⟩,[]⟩,⟨⟨some 54,.extract (.tmp 47) 1,none⟩,[]⟩,⟨⟨some 13,.assign (.tmp 53),none⟩,[]⟩,⟨⟨some 14,.assign (.tmp 54),none⟩,[]⟩]) (.seq (.seq (.reg [⟨⟨some 55,.move (.tmp 14),none⟩,[]⟩,⟨⟨some 56,.binOp .eql 165 (.tmp 55) (.const (.int .i64 2)) 165,none⟩,[]⟩]) (.cond (.tmp 56) (.seq (.reg [⟨⟨some 57,.move (.tmp 0),none⟩,[]⟩,⟨⟨some 58,.move (.tmp 1),none⟩,[]⟩,⟨⟨some 59,.move (.tmp 2),none⟩,[]⟩,⟨⟨some 60,.move (.tmp 4),none⟩,[]⟩,⟨⟨some 61,.call ⟨(.value (.func 233)),#[.tmp 57,.tmp 58,.tmp 59,.tmp 60],#[36,3,3,136]⟩,none⟩,[]⟩]) (.seq (.reg [⟨⟨some 62,.move (.tmp 2),none⟩,[]⟩,⟨⟨some 63,.binOp .sub 3 (.tmp 62) (.const (.int .i64 1)) 3,none⟩,[]⟩,
 ⟨⟨some 64,.move (.tmp 13),none⟩,[]⟩,⟨⟨some 65,.move (.tmp 1),none⟩,[]⟩,⟨⟨some 66,.binOp .sub 3 (.tmp 64) (.tmp 65) 3,none⟩,[]⟩,⟨⟨some 67,.binOp .sub 3 (.tmp 63) (.tmp 66) 3,none⟩,[]⟩,⟨⟨some 13,.assign (.tmp 67),none⟩,[]⟩]) (.reg [⟨⟨some 14,.assign (.const (.int .i64 1)),none⟩,[]⟩]))) .skip)) (.seq (.seq (.reg [⟨⟨some 68,.move (.tmp 10),none⟩,[]⟩,⟨⟨some 69,.move (.tmp 68),none⟩,[]⟩,⟨⟨some 70,.move (.tmp 11),some (69,true)⟩,[]⟩,⟨⟨some 71,.pick (.tmp 69) (.tmp 70) (.const (.bool false)),none⟩,[]⟩,⟨⟨some 72,.move (.tmp 71),none⟩,[]⟩,⟨⟨some 73,.move (.tmp 14),some (72,true)⟩,[]⟩,⟨⟨some 74,.binOp .eql 165 (.tmp 73) (.const (.int .i64 1)) 165,some (72,true)⟩,[]⟩,⟨⟨some 75,.pick (.tmp 72) (.tmp 74) (.const (.bool false)),none⟩,[]⟩]) (.cond (.tmp 75) (.seq (.reg [⟨⟨some 76,.move (.tmp 0),none⟩,[]⟩,
 ⟨⟨some 77,.move (.tmp 1),none⟩,[]⟩,⟨⟨some 78,.move (.tmp 2),none⟩,[]⟩,⟨⟨some 79,.move (.tmp 4),none⟩,[]⟩,⟨⟨some 80,.call ⟨(.value (.func 234)),#[.tmp 76,.tmp 77,.tmp 78,.tmp 79],#[36,3,3,136]⟩,none⟩,[]⟩]) (.cond (.tmp 80) .ret .skip)) .skip)) (.seq (.seq (.reg [⟨⟨some 81,.move (.tmp 1),none⟩,[]⟩,⟨⟨some 82,.binOp .gtr 3 (.tmp 81) (.const (.int .i64 0)) 3,none⟩,[]⟩,⟨⟨some 83,.move (.tmp 82),none⟩,[]⟩,⟨⟨some 84,.move (.tmp 4),some (83,true)⟩,[]⟩,⟨⟨some 85,.move (.tmp 0),some (83,true)⟩,[]⟩,⟨⟨some 86,.move (.tmp 1),some (83,true)⟩,[]⟩,⟨⟨some 87,.binOp .sub 3 (.tmp 86) (.const (.int .i64 1)) 3,some (83,true)⟩,[]⟩,⟨⟨some 88,.indexAddr 36 (.tmp 85) (.tmp 87),some (83,true)⟩,[]⟩,⟨⟨some 89,.load 27 (.tmp 88),some (83,true)⟩,[]⟩,
 ⟨⟨some 90,.move (.tmp 0),some (83,true)⟩,[]⟩,⟨⟨some 91,.move (.tmp 13),some (83,true)⟩,[]⟩,⟨⟨some 92,.indexAddr 36 (.tmp 90) (.tmp 91),some (83,true)⟩,[]⟩,⟨⟨some 93,.load 27 (.tmp 92),some (83,true)⟩,[]⟩,⟨⟨some 94,.call ⟨(.value (.tmp 84)),#[.tmp 89,.tmp 93],#[27,27]⟩,some (83,true)⟩,[]⟩,⟨⟨some 95,.binOp .lss 3 (.tmp 94) (.const (.int .i64 0)) 3,some (83,true)⟩,[]⟩,⟨⟨some 96,.unOp .not 4 (.tmp 95),some (83,true)⟩,[]⟩,⟨⟨some 97,.pick (.tmp 83) (.tmp 96) (.const (.bool false)),none⟩,[]⟩]) (.cond (.tmp 97) (.seq (.reg [⟨⟨some 98,.move (.tmp 0),none⟩,[]⟩,⟨⟨some 99,.move (.tmp 1),none⟩,[]⟩,⟨⟨some 100,.move (.tmp 2),none⟩,[]⟩,⟨⟨some 101,.move (.tmp 13),none⟩,[]⟩,⟨⟨some 102,.move (.tmp 4),none⟩,[]⟩,
 ⟨⟨some 103,.call ⟨(.value (.func 235)),#[.tmp 98,.tmp 99,.tmp 100,.tmp 101,.tmp 102],#[36,3,3,3,136]⟩,none⟩,[]⟩,⟨⟨some 15,.assign (.tmp 103),none⟩,[]⟩]) (.seq (.reg [⟨⟨some 104,.move (.tmp 15),none⟩,[]⟩,⟨⟨some 1,.assign (.tmp 104),none⟩,[]⟩]) (.exit 1))) .skip)) (.seq (.reg [⟨⟨some 106,.move (.tmp 0),none⟩,[]⟩,⟨⟨some 107,.move (.tmp 1),none⟩,[]⟩,⟨⟨some 108,.move (.tmp 2),none⟩,[]⟩,⟨⟨some 109,.move (.tmp 13),none⟩,[]⟩,⟨⟨some 110,.move (.tmp 4),none⟩,[]⟩,⟨⟨some 111,.call ⟨(.value (.func 236)),#[.tmp 106,.tmp 107,.tmp 108,.tmp 109,.tmp 110],#[36,3,3,3,136]⟩,none⟩,[]⟩,⟨⟨some 105,.move (.tmp 111),none⟩,[]⟩,⟨⟨some 112,.extract (.tmp 105) 0,none⟩,[]⟩,⟨⟨some 113,.extract (.tmp 105) 1,none⟩,[]⟩,⟨⟨some 16,.assign (.tmp 112),none⟩,[]⟩,
 ⟨⟨some 17,.assign (.tmp 113),none⟩,[]⟩]) (.seq (.reg [⟨⟨some 114,.move (.tmp 17),none⟩,[]⟩,⟨⟨some 11,.assign (.tmp 114),none⟩,[]⟩]) (.seq (.reg [⟨⟨some 115,.move (.tmp 16),none⟩,[]⟩,⟨⟨some 116,.move (.tmp 1),none⟩,[]⟩,⟨⟨some 117,.binOp .sub 3 (.tmp 115) (.tmp 116) 3,none⟩,[]⟩,⟨⟨some 118,.move (.tmp 2),none⟩,[]⟩,⟨⟨some 119,.move (.tmp 16),none⟩,[]⟩,⟨⟨some 120,.binOp .sub 3 (.tmp 118) (.tmp 119) 3,none⟩,[]⟩,⟨⟨some 18,.assign (.tmp 117),none⟩,[]⟩,⟨⟨some 19,.assign (.tmp 120),none⟩,[]⟩]) (.seq (.reg [⟨⟨some 121,.move (.tmp 12),none⟩,[]⟩,⟨⟨some 122,.binOp .quo 3 (.tmp 121) (.const (.int .i64 8)) 3,none⟩,[]⟩,⟨⟨some 20,.assign (.tmp 122),none⟩,[]⟩]) (.seq (.reg [⟨⟨some 123,.move (.tmp 18),none⟩,[]⟩,⟨⟨some 124,.move (.tmp 19),none⟩,[]⟩,
 ⟨⟨some 125,.binOp .lss 3 (.tmp 123) (.tmp 124) 3,none⟩,[]⟩]) (.cond (.tmp 125) (.seq (.reg [⟨⟨some 126,.move (.tmp 18),none⟩,[]⟩,⟨⟨some 127,.move (.tmp 20),none⟩,[]⟩,⟨⟨some 128,.binOp .geq 3 (.tmp 126) (.tmp 127) 3,none⟩,[]⟩,⟨⟨some 10,.assign (.tmp 128),none⟩,[]⟩]) (.seq (.reg [⟨⟨some 129,.move (.tmp 0),none⟩,[]⟩,⟨⟨some 130,.move (.tmp 1),none⟩,[]⟩,⟨⟨some 131,.move (.tmp 16),none⟩,[]⟩,⟨⟨some 132,.move (.tmp 3),none⟩,[]⟩,⟨⟨some 133,.move (.tmp 4),none⟩,[]⟩,⟨⟨some 134,.call ⟨(.value (.func 205)),#[.tmp 129,.tmp 130,.tmp 131,.tmp 132,.tmp 133],#[36,3,3,3,136]⟩,none⟩,[]⟩]) (.reg [⟨⟨some 135,.move (.tmp 16),none⟩,[]⟩,⟨⟨some 136,.binOp .add 3 (.tmp 135) (.const (.int .i64 1)) 3,none⟩,[]⟩,⟨⟨some 1,.assign (.tmp 136),none⟩,[]⟩]))) (.seq (.reg [⟨⟨some 137,.move (.tmp 19),none⟩,[]⟩,⟨⟨some 138,.move (.tmp 20),none⟩,[]⟩,
 ⟨⟨some 139,.binOp .geq 3 (.tmp 137) (.tmp 138) 3,none⟩,[]⟩,
  ⟨⟨some 10,.assign (.tmp 139),none⟩,[]⟩]) (.seq (.reg [⟨⟨some 140,.move (.tmp 0),none⟩,[]⟩,
  ⟨⟨some 141,.move (.tmp 16),none⟩,[]⟩,
  ⟨⟨some 142,.binOp .add 3 (.tmp 141) (.const (.int .i64 1)) 3,none⟩,[]⟩,
  ⟨⟨some 143,.move (.tmp 2),none⟩,[]⟩,
  ⟨⟨some 144,.move (.tmp 3),none⟩,[]⟩,
  ⟨⟨some 145,.move (.tmp 4),none⟩,[]⟩,
  ⟨⟨some 146,.call ⟨(.value (.func 205)),#[.tmp 140,.tmp 142,.tmp 143,.tmp 144,.tmp 145],#[36,3,3,3,136]⟩,none⟩,[]⟩]) (.reg [⟨⟨some 147,.move (.tmp 16),none⟩,[]⟩,
  ⟨⟨some 2,.assign (.tmp 147),none⟩,[]⟩]))))))))))))))))))))))
theorem in205:InT Tryz.prog 205 5 [] cd205:=InT.mk (by kernel_rfl) [(17,[(0,false),(1,false),(2,false),(3,false),(4,false),(5,false),(6,false),(7,false),(8,false),(9,false),(10,false),(11,false),(12,false),(13,true),(14,false),(15,false),(16,false)])] Tryz.func205 rfl (by kernel_rfl) (by kernel_rfl) (of_decide_eq_true (by kernel_rfl)) (by kernel_rfl)
end Go.Proofs.YtjnefjchconebaaGreat.Ai
namespace Go.Proofs.YtjnefjchconebaaGreat.Ai
open Go Go.RowKit
def cmpL:List Int->List Int->Int
  | [],[]=>0
  | [],_ :: _ => -1
  | _ :: _,[]=>1
  | a :: xs,b :: ys=>if cmpI a b ≠ 0 then cmpI a b else cmpL xs ys
theorem cmpL_nil (ys:List Int):cmpL [] ys=if 0<ys.length then -1 else 0:=by
  cases ys with
  | nil=>rfl
  | cons b bs=>simp [cmpL]
theorem cmpL_step (xs ys:List Int)(i:Nat)(hi:i<xs.length):cmpL (xs.drop i) (ys.drop i)=if ys.length<=i then 1 else if cmpI (xs.getD i 0) (ys.getD i 0) ≠ 0 then cmpI (xs.getD i 0) (ys.getD i 0) else cmpL (xs.drop (i+1)) (ys.drop (i+1)):=by
  have hx:xs.getD i 0=xs[i]:=by simp [hi]
  rw [List.drop_eq_getElem_cons hi]
  by_cases hj:ys.length<=i
  . rw [if_pos hj,List.drop_of_length_le hj];rfl
  . have hj':i<ys.length:=by omega
    have hy:ys.getD i 0=ys[i]:=by simp [hj']
    rw [if_neg hj,List.drop_eq_getElem_cons hj',hx,hy];rfl
abbrev fnCmp:Value:=.func (.func 166) #[] (List.toArray [])
theorem CmpL_c (v w:Value)(xs ys:List Int)(H:AH)(hr:Row 3 H v xs)(hr2:Row 3 H w ys)(hlen:xs.length<=1099511627776)(hlen2:ys.length<=1099511627776) :
    ACalls Tryz.prog 166 [v,w] H fun r H'=>r=.int .i64 (cmpL xs ys)/\H=H':=by
  refine in166 rfl ?_
  intro Q hQ
  simp (disch:=omega) only [cd166,hr.len Tryz.underlying27,SS,eq_self,reduceIte,reduceCtorEq,Nat.reduceEqDiff,Nat.reduceAdd]
  refine LoopH.by (fun m s H'=>∃ i,m+i=xs.length/\s 0=v/\s 1=w/\s 9=v/\s 10=.int .i64 (xs.length:Int)/\s 11=.int .i64 ((i:Nat):Int)/\H=H'/\cmpL xs ys=cmpL (xs.drop i) (ys.drop i)/\(i<=ys.length∨i=0)) xs.length ?_ ?_
  . exact ⟨0,by simp,rfl,rfl,rfl,rfl,rfl,rfl,by simp,.inr rfl⟩
  . rintro m s H' ⟨i,hm,h0,h1,h9,h10,h11,rfl,hc,hy⟩
    simp (disch:=omega) only [h0,h1,h9,h10,h11,SS,eq_self,reduceIte,reduceCtorEq,Nat.reduceEqDiff,Nat.reduceAdd]
    refine brD.intro (fun g=>?_) (fun g=>?_)
    . have hi:i<xs.length:=by omega
      rw [cmpL_step xs ys i hi] at hc
      simp (disch:=omega) only [h0,h1,h9,h10,h11,hr.ix Tryz.underlying27 cs3,hr.cell,Int.toNat_natCast,hr2.len Tryz.underlying27,SS,eq_self,reduceIte,reduceCtorEq,Nat.reduceEqDiff,Nat.reduceAdd]
      refine brD.intro (fun e=>?_) (fun e=>?_)
      . simp (disch:=omega) only [SS,eq_self,reduceIte,reduceCtorEq,Nat.reduceEqDiff,Nat.reduceAdd]
        refine hQ _ _ _ ?_
        simp (disch:=omega) only [SS,eq_self,reduceIte,reduceCtorEq,Nat.reduceEqDiff,Nat.reduceAdd]
        rw [hc,if_pos (by omega)]
      . have hj:i<ys.length:=by omega
        rw [if_neg (by omega)] at hc
        simp (disch:=omega) only [h0,h1,h9,h10,h11,hr2.ix Tryz.underlying27 cs3,hr2.cell,Int.toNat_natCast,SS,eq_self,reduceIte,reduceCtorEq,Nat.reduceEqDiff,Nat.reduceAdd]
        refine CallH.by (Compare_c _ _ H) ?_
        rintro _ _ ⟨rfl,rfl⟩
        simp (disch:=omega) only [SS,eq_self,reduceIte,reduceCtorEq,Nat.reduceEqDiff,Nat.reduceAdd]
        refine brD.intro (fun e2=>?_) (fun e2=>?_) <;> simp (disch:=omega) only [h0,h1,h9,h10,h11,wrap64,SS,eq_self,reduceIte,reduceCtorEq,Nat.reduceEqDiff,Nat.reduceAdd]
        . refine hQ _ _ _ ?_
          simp (disch:=omega) only [SS,eq_self,reduceIte,reduceCtorEq,Nat.reduceEqDiff,Nat.reduceAdd]
          rw [hc,if_pos e2]
        . rw [if_neg e2] at hc
          have f1:i+1<=ys.length∨i+1=0:=.inl hj
          refine ⟨m - 1,by omega,i+1,?_⟩
          (repeat' first | exact hc | exact f1 | apply And.intro) <;> first | (simp only [Value.int.injEq,true_and];omega) | omega | rfl | assumption | (simp;done) | (simp;omega)
    . have hxe:i=xs.length:=by omega
      rw [hxe,List.drop_length,cmpL_nil] at hc
      simp (disch:=omega) only [h0,h1,hr.len Tryz.underlying27,hr2.len Tryz.underlying27,SS,eq_self,reduceIte,reduceCtorEq,Nat.reduceEqDiff,Nat.reduceAdd]
      refine brD.intro (fun e=>?_) (fun e=>?_) <;> simp (disch:=omega) only [SS,eq_self,reduceIte,reduceCtorEq,Nat.reduceEqDiff,Nat.reduceAdd]
      . refine hQ _ _ _ ?_
        simp (disch:=omega) only [SS,eq_self,reduceIte,reduceCtorEq,Nat.reduceEqDiff,Nat.reduceAdd]
        rw [hc,if_pos (by simp;omega)]
      . refine hQ _ _ _ ?_
        simp (disch:=omega) only [SS,eq_self,reduceIte,reduceCtorEq,Nat.reduceEqDiff,Nat.reduceAdd]
        rw [hc,if_neg (by simp;omega)]
def SrtL (ls:List (List Int)):Prop:=∀ i j,i<j->j<ls.length->0<cmpL (ls.getD j []) (ls.getD i [])
structure Sts (H:AH) (v:Value) (us:List Value) (ls:List (List Int)):Prop where
  row:RowV 27 H v us
  len:us.length=ls.length
  each:∀ i,i<ls.length->Row 3 H (us.getD i undef) (ls.getD i [])
  small:∀ i,i<ls.length->(ls.getD i []).length<=1099511627776
  bnd:ls.length<=60000
  srt:SrtL ls
theorem Sts.pre {H H':AH}{v:Value}{us:List Value}{ls:List (List Int)}(h:Sts H v us ls)(hp:H<+:H'):Sts H' v us ls:=⟨h.row.pre hp,h.len,fun i hi=>(h.each i hi).pre hp,h.small,h.bnd,h.srt⟩
theorem cmpL_self:∀ xs:List Int,cmpL xs xs=0
  | []=>rfl
  | a :: xs=>by
    have:cmpI a a=0:=by unfold cmpI;rw [if_neg (by omega),if_neg (by omega)]
    rw [cmpL,if_neg (by rw [this];decide)];exact cmpL_self xs
theorem Sts.le {H:AH}{v:Value}{us:List Value}{ls:List (List Int)}(h:Sts H v us ls){i j:Nat}(hij:i<=j)(hj:j<ls.length):¬ cmpL (ls.getD j []) (ls.getD i [])<0:=by
  by_cases e:i=j
  . subst e;rw [cmpL_self];omega
  . have:=h.srt i j (by omega) hj;omega
section
variable {v:Value} {us:List Value} {ls:List (List Int)} {H:AH}
theorem Sts.cell (h:Sts H v us ls){i:Nat}(hi:i<ls.length):cellA H (rowO v) (rowK v+i)=some (us.getD i undef):=h.row.cell (by have:=h.len;omega)
theorem Sts.cmp (h:Sts H v us ls){i j:Nat}(hi:i<ls.length)(hj:j<ls.length) :
    ACalls Tryz.prog 166 [us.getD i undef,us.getD j undef] H fun r H'=>r=.int .i64 (cmpL (ls.getD i []) (ls.getD j []))/\H=H':=CmpL_c _ _ _ _ H (h.each i hi) (h.each j hj) (h.small i hi) (h.small j hj)
theorem order2_c (h:Sts H v us ls)(a b:Nat)(p:Value)(hab:a<=b)(hb:b<ls.length) :
    ACalls Tryz.prog 251 [v,.int .i64 (a:Int),.int .i64 (b:Int),p,fnCmp] H fun r H'=>r=.tuple (List.toArray [.int .i64 (a:Int),.int .i64 (b:Int)])/\H=H':=by
  refine in251 rfl ?_
  intro Q hQ
  have hl:=h.len
  have hca:=h.cell (show a<ls.length by omega)
  have hcb:=h.cell hb
  simp (disch:=omega) only [cd251,h.row.ix Tryz.underlying36 cs27,Int.toNat_natCast,hca,hcb,SS,eq_self,reduceIte,reduceCtorEq,Nat.reduceEqDiff,Nat.reduceAdd]
  refine CallH.by (h.cmp hb (show a<ls.length by omega)) ?_
  rintro _ _ ⟨rfl,rfl⟩
  simp (disch:=omega) only [SS,eq_self,reduceIte,reduceCtorEq,Nat.reduceEqDiff,Nat.reduceAdd]
  refine brD.intro (fun e=>absurd e (h.le hab hb)) (fun e=>?_)
  simp (disch:=omega) only [SS,eq_self,reduceIte,reduceCtorEq,Nat.reduceEqDiff,Nat.reduceAdd]
  refine hQ _ _ _ ?_
  simp (disch:=omega) only [SS,eq_self,reduceIte,reduceCtorEq,Nat.reduceEqDiff,Nat.reduceAdd]
theorem median_c (h:Sts H v us ls)(a b c:Nat)(p:Value)(hab:a<=b)(hbc:b<=c)(hc:c<ls.length) :
    ACalls Tryz.prog 248 [v,.int .i64 (a:Int),.int .i64 (b:Int),.int .i64 (c:Int),p,fnCmp] H fun r H'=>r=.int .i64 (b:Int)/\H=H':=by
  refine in248 rfl ?_
  intro Q hQ
  simp (disch:=omega) only [cd248,SS,eq_self,reduceIte,reduceCtorEq,Nat.reduceEqDiff,Nat.reduceAdd]
  refine CallH.by (order2_c h a b p hab (by omega)) ?_
  rintro _ _ ⟨rfl,rfl⟩
  simp (disch:=omega) only [SS,eq_self,reduceIte,reduceCtorEq,Nat.reduceEqDiff,Nat.reduceAdd]
  refine CallH.by (order2_c h b c p hbc hc) ?_
  rintro _ _ ⟨rfl,rfl⟩
  simp (disch:=omega) only [SS,eq_self,reduceIte,reduceCtorEq,Nat.reduceEqDiff,Nat.reduceAdd]
  refine CallH.by (order2_c h a b p hab (by omega)) ?_
  rintro _ _ ⟨rfl,rfl⟩
  simp (disch:=omega) only [SS,eq_self,reduceIte,reduceCtorEq,Nat.reduceEqDiff,Nat.reduceAdd]
  refine hQ _ _ _ ?_
  simp (disch:=omega) only [SS,eq_self,reduceIte,reduceCtorEq,Nat.reduceEqDiff,Nat.reduceAdd]
theorem medianAdj_c (h:Sts H v us ls)(a:Nat)(p:Value)(ha:1<=a)(hc:a+1<ls.length) :
    ACalls Tryz.prog 247 [v,.int .i64 (a:Int),p,fnCmp] H fun r H'=>r=.int .i64 (a:Int)/\H=H':=by
  refine in247 rfl ?_
  intro Q hQ
  have hb:=h.bnd
  have e1:(a:Int) - 1=((a - 1:Nat):Int):=by omega
  have e2:(a:Int)+1=((a+1:Nat):Int):=by omega
  simp (disch:=omega) only [cd247,wrap64,e1,e2,SS,eq_self,reduceIte,reduceCtorEq,Nat.reduceEqDiff,Nat.reduceAdd]
  refine CallH.by (median_c h (a - 1) a (a+1) p (by omega) (by omega) hc) ?_
  rintro _ _ ⟨rfl,rfl⟩
  simp (disch:=omega) only [SS,eq_self,reduceIte,reduceCtorEq,Nat.reduceEqDiff,Nat.reduceAdd]
  refine hQ _ _ _ ?_
  simp (disch:=omega) only [SS,eq_self,reduceIte,reduceCtorEq,Nat.reduceEqDiff,Nat.reduceAdd]
theorem partialIns_c (h:Sts H v us ls)(h1:1<=ls.length) :
    ACalls Tryz.prog 234 [v,.int .i64 0,.int .i64 (ls.length:Int),fnCmp] H fun r H'=>r=.bool true/\H=H':=by
  refine in234 rfl ?_
  intro Q hQ
  have hb:=h.bnd
  have hl:=h.len
  simp (disch:=omega) only [cd234,wrap64,SS,eq_self,reduceIte,reduceCtorEq,Nat.reduceEqDiff,Nat.reduceAdd]
  refine LoopH.by (fun m s H'=>s 0=v/\s 2=.int .i64 (ls.length:Int)/\s 3=fnCmp/\s 9=.int .i64 1/\s 10=.int .i64 0/\H=H') 0 ?_ ?_
  . exact ⟨rfl,rfl,rfl,rfl,rfl,rfl⟩
  . rintro m s H' ⟨h0,h2,h3,h9,h10,rfl⟩
    simp (disch:=omega) only [h0,h2,h3,h9,h10,SS,eq_self,reduceIte,reduceCtorEq,Nat.reduceEqDiff,Nat.reduceAdd]
    refine brD.intro (fun _=>?_) (fun g=>absurd (by decide) g)
    simp (disch:=omega) only [h0,h2,h3,h9,h10,SS,eq_self,reduceIte,reduceCtorEq,Nat.reduceEqDiff,Nat.reduceAdd]
    refine LoopH.by (fun m' s' H'=>∃ i,m'+i=ls.length/\1<=i/\s' 0=v/\s' 2=.int .i64 (ls.length:Int)/\s' 3=fnCmp/\s' 9=.int .i64 ((i:Nat):Int)/\H=H') (ls.length - 1) ?_ ?_
    . exact ⟨1,by omega,by omega,by simp [SS,eq_self,reduceIte,reduceCtorEq,Nat.reduceEqDiff,Nat.reduceAdd,h0],by simp [SS,eq_self,reduceIte,reduceCtorEq,Nat.reduceEqDiff,Nat.reduceAdd,h2],by simp [SS,eq_self,reduceIte,reduceCtorEq,Nat.reduceEqDiff,Nat.reduceAdd,h3],by simp [SS,eq_self,reduceIte,reduceCtorEq,Nat.reduceEqDiff,Nat.reduceAdd,h9],rfl⟩
    . rintro m' s' H' ⟨i,hm,hi1,g0,g2,g3,g9,rfl⟩
      have e1:(i:Int) - 1=((i - 1:Nat):Int):=by omega
      simp (disch:=omega) only [g0,g2,g3,g9,SS,eq_self,reduceIte,reduceCtorEq,Nat.reduceEqDiff,Nat.reduceAdd]
      refine brD.intro (fun g=>?_) (fun g=>?_)
      . have hi:i<ls.length:=by omega
        have hc1:=h.cell hi
        have hc2:=h.cell (show i - 1<ls.length by omega)
        simp (disch:=omega) only [g,g0,g2,g3,g9,wrap64,e1,h.row.ix Tryz.underlying36 cs27,Int.toNat_natCast,hc1,hc2,SS,eq_self,reduceIte,reduceCtorEq,Nat.reduceEqDiff,Nat.reduceAdd]
        refine CallH.by (h.cmp hi (show i - 1<ls.length by omega)) ?_
        rintro _ _ ⟨rfl,rfl⟩
        simp (disch:=omega) only [g,SS,eq_self,reduceIte,reduceCtorEq,Nat.reduceEqDiff,Nat.reduceAdd]
        refine brD.intro (fun e=>absurd e (h.le (by omega) hi)) (fun e=>?_)
        simp (disch:=omega) only [g,e,g0,g2,g3,g9,wrap64,SS,eq_self,reduceIte,reduceCtorEq,Nat.reduceEqDiff,Nat.reduceAdd]
        refine ⟨m' - 1,by omega,i+1,?_⟩
        (repeat' apply And.intro) <;> first | (simp only [Value.int.injEq,true_and];omega) | omega | rfl | assumption | (simp;done) | (simp;omega)
      . have hi:i=ls.length:=by omega
        subst hi
        simp (disch:=omega) only [g,g0,g2,g3,g9,SS,eq_self,reduceIte,reduceCtorEq,Nat.reduceEqDiff,Nat.reduceAdd]
        refine hQ _ _ _ ?_
        simp (disch:=omega) only [SS,eq_self,reduceIte,reduceCtorEq,Nat.reduceEqDiff,Nat.reduceAdd]
theorem insCmp_c (h:Sts H v us ls) :
    ACalls Tryz.prog 229 [v,.int .i64 0,.int .i64 (ls.length:Int),fnCmp] H fun r H'=>H=H':=by
  refine in229 rfl ?_
  intro Q hQ
  have hb:=h.bnd
  have hl:=h.len
  simp (disch:=omega) only [cd229,wrap64,SS,eq_self,reduceIte,reduceCtorEq,Nat.reduceEqDiff,Nat.reduceAdd]
  refine LoopH.by (fun m s H'=>∃ i,m+i=ls.length+1/\1<=i/\s 0=v/\s 1=.int .i64 0/\s 2=.int .i64 (ls.length:Int)/\s 3=fnCmp/\s 8=.int .i64 ((i:Nat):Int)/\H=H') ls.length ?_ ?_
  . exact ⟨1,by omega,by omega,rfl,rfl,rfl,rfl,rfl,rfl⟩
  . rintro m s H' ⟨i,hm,hi1,h0,h1,h2,h3,h8,rfl⟩
    simp (disch:=omega) only [h0,h1,h2,h3,h8,SS,eq_self,reduceIte,reduceCtorEq,Nat.reduceEqDiff,Nat.reduceAdd]
    refine brD.intro (fun g=>?_) (fun g=>?_)
    . have hi:i<ls.length:=by omega
      have e1:(i:Int) - 1=((i - 1:Nat):Int):=by omega
      have hc1:=h.cell hi
      have hc2:=h.cell (show i - 1<ls.length by omega)
      simp (disch:=omega) only [h0,h1,h2,h3,h8,SS,eq_self,reduceIte,reduceCtorEq,Nat.reduceEqDiff,Nat.reduceAdd]
      refine LoopH.by (fun m' s' H'=>s' 0=v/\s' 1=.int .i64 0/\s' 2=.int .i64 (ls.length:Int)/\s' 3=fnCmp/\s' 8=.int .i64 ((i:Nat):Int)/\s' 9=.int .i64 ((i:Nat):Int)/\H=H') 0 ?_ ?_
      . simp only [SS,eq_self,reduceIte,reduceCtorEq,Nat.reduceEqDiff,Nat.reduceAdd,h0,h1,h2,h3,h8]
      . rintro m' s' H' ⟨g0,g1,g2,g3,g8,g9,rfl⟩
        have hgt:(i:Int) > 0:=by omega
        simp (disch:=omega) only [g0,g1,g2,g3,g8,g9,SS,eq_self,reduceIte,reduceCtorEq,Nat.reduceEqDiff,Nat.reduceAdd]
        refine brD.intro (fun q=>?_) (fun q=>absurd hgt q)
        simp (disch:=omega) only [q,g0,g1,g2,g3,g8,g9,wrap64,e1,h.row.ix Tryz.underlying36 cs27,Int.toNat_natCast,hc1,hc2,SS,eq_self,reduceIte,reduceCtorEq,Nat.reduceEqDiff,Nat.reduceAdd]
        refine CallH.by (h.cmp hi (show i - 1<ls.length by omega)) ?_
        rintro _ _ ⟨rfl,rfl⟩
        simp (disch:=omega) only [q,SS,eq_self,reduceIte,reduceCtorEq,Nat.reduceEqDiff,Nat.reduceAdd]
        refine brD.intro (fun e=>absurd e (h.le (by omega) hi)) (fun e=>?_)
        simp (disch:=omega) only [q,e,g0,g1,g2,g3,g8,g9,wrap64,SS,eq_self,reduceIte,reduceCtorEq,Nat.reduceEqDiff,Nat.reduceAdd]
        refine ⟨m - 1,by omega,i+1,?_⟩
        (repeat' apply And.intro) <;> first | (simp only [Value.int.injEq,true_and];omega) | omega | rfl | assumption | (simp;done) | (simp;omega)
    . simp (disch:=omega) only [SS,eq_self,reduceIte,reduceCtorEq,Nat.reduceEqDiff,Nat.reduceAdd]
      refine hQ _ _ _ ?_
      simp (disch:=omega) only [SS,eq_self,reduceIte,reduceCtorEq,Nat.reduceEqDiff,Nat.reduceAdd]
theorem choosePivot_c (h:Sts H v us ls)(h1:13<=ls.length) :
    ACalls Tryz.prog 232 [v,.int .i64 0,.int .i64 (ls.length:Int),fnCmp] H fun r H'=>(∃ j:Int,r=.tuple (List.toArray [.int .i64 j,.int .i64 1]))/\H<+:H':=by
  refine in232 rfl ?_
  intro Q hQ
  have hb:=h.bnd
  have hl:=h.len
  obtain ⟨q,hqd⟩:∃ q,ls.length / 4=q:=⟨_,rfl⟩
  have hq:IntKind.i64.wrap ((ls.length:Int).tdiv 4)=(q:Int):=by
    rw [Int.tdiv_eq_ediv_of_nonneg (by omega),wrap64 (by omega) (by omega)]
    omega
  have e1:(0:Int)+(q:Int) * 1=(q:Int):=by omega
  have e2:(0:Int)+(q:Int) * 2=((2 * q:Nat):Int):=by omega
  have e3:(0:Int)+(q:Int) * 3=((3 * q:Nat):Int):=by omega
  have e0:(ls.length:Int) - 0=(ls.length:Int):=by omega
  simp (disch:=omega) only [cd232,alloc_int,wrap64,e0,hq,e1,e2,e3,SS,eq_self,reduceIte,reduceCtorEq,Nat.reduceEqDiff,Nat.reduceAdd]
  generalize hA:H ++ [AObj.cells [.int .i64 0] 3 false]=A
  have pA:H<+:A:=by rw [<- hA];exact List.prefix_append _ _
  have cA:A[H.length]?=some (.cells [.int .i64 0] 3 false):=by rw [<- hA];exact at_new ..
  have hA2:=h.pre pA
  refine brD.intro (fun g=>?_) (fun g=>absurd (show (ls.length:Int) ≥ 8 by omega) g)
  simp (disch:=omega) only [SS,eq_self,reduceIte,reduceCtorEq,Nat.reduceEqDiff,Nat.reduceAdd]
  refine brD.intro (fun g2=>?_) (fun g2=>?_)
  . simp (disch:=omega) only [SS,eq_self,reduceIte,reduceCtorEq,Nat.reduceEqDiff,Nat.reduceAdd]
    refine CallH.by (medianAdj_c hA2 q _ (by omega) (by omega)) ?_
    rintro _ _ ⟨rfl,rfl⟩
    simp (disch:=omega) only [SS,eq_self,reduceIte,reduceCtorEq,Nat.reduceEqDiff,Nat.reduceAdd]
    refine CallH.by (medianAdj_c hA2 (2 * q) _ (by omega) (by omega)) ?_
    rintro _ _ ⟨rfl,rfl⟩
    simp (disch:=omega) only [SS,eq_self,reduceIte,reduceCtorEq,Nat.reduceEqDiff,Nat.reduceAdd]
    refine CallH.by (medianAdj_c hA2 (3 * q) _ (by omega) (by omega)) ?_
    rintro _ _ ⟨rfl,rfl⟩
    simp (disch:=omega) only [SS,eq_self,reduceIte,reduceCtorEq,Nat.reduceEqDiff,Nat.reduceAdd]
    refine CallH.by (median_c hA2 q (2 * q) (3 * q) _ (by omega) (by omega) (by omega)) ?_
    rintro _ _ ⟨rfl,rfl⟩
    simp (disch:=omega) only [cell_of cA,SS,eq_self,reduceIte,reduceCtorEq,Nat.reduceEqDiff,Nat.reduceAdd]
    first
      | (refine brD.intro (fun _=>?_) (fun g3=>absurd rfl g3)
         simp (disch:=omega) only [SS,eq_self,reduceIte,reduceCtorEq,Nat.reduceEqDiff,Nat.reduceAdd])
      | skip
    refine hQ _ _ _ ?_
    simp (disch:=omega) only [SS,eq_self,reduceIte,reduceCtorEq,Nat.reduceEqDiff,Nat.reduceAdd]
    exact ⟨⟨_,rfl⟩,pA⟩
  . simp (disch:=omega) only [SS,eq_self,reduceIte,reduceCtorEq,Nat.reduceEqDiff,Nat.reduceAdd]
    refine CallH.by (median_c hA2 q (2 * q) (3 * q) _ (by omega) (by omega) (by omega)) ?_
    rintro _ _ ⟨rfl,rfl⟩
    simp (disch:=omega) only [cell_of cA,SS,eq_self,reduceIte,reduceCtorEq,Nat.reduceEqDiff,Nat.reduceAdd]
    first
      | (refine brD.intro (fun _=>?_) (fun g3=>absurd rfl g3)
         simp (disch:=omega) only [SS,eq_self,reduceIte,reduceCtorEq,Nat.reduceEqDiff,Nat.reduceAdd])
      | skip
    refine hQ _ _ _ ?_
    simp (disch:=omega) only [SS,eq_self,reduceIte,reduceCtorEq,Nat.reduceEqDiff,Nat.reduceAdd]
    exact ⟨⟨_,rfl⟩,pA⟩
theorem pdqCmp_c (h:Sts H v us ls)(lim:Int)(hlim:lim ≠ 0∨ls.length<=12) :
    ACalls Tryz.prog 205 [v,.int .i64 0,.int .i64 (ls.length:Int),.int .i64 lim,fnCmp] H fun r H'=>H<+:H':=by
  refine in205 rfl ?_
  intro Q hQ
  have hb:=h.bnd
  have e0:(ls.length:Int) - 0=(ls.length:Int):=by omega
  simp (disch:=omega) only [cd205,SS,eq_self,reduceIte,reduceCtorEq,Nat.reduceEqDiff,Nat.reduceAdd]
  refine LoopH.by (fun m s H'=>s 0=v/\s 1=.int .i64 0/\s 2=.int .i64 (ls.length:Int)/\s 3=.int .i64 lim/\s 4=fnCmp/\s 10=.bool true/\s 11=.bool true/\H=H') 0 ?_ ?_
  . exact ⟨rfl,rfl,rfl,rfl,rfl,rfl,rfl,rfl⟩
  . rintro m s H' ⟨h0,h1,h2,h3,h4,h10,h11,rfl⟩
    simp (disch:=omega) only [h0,h1,h2,h3,h4,h10,h11,wrap64,e0,SS,eq_self,reduceIte,reduceCtorEq,Nat.reduceEqDiff,Nat.reduceAdd]
    refine brD.intro (fun g=>?_) (fun g=>?_)
    . simp (disch:=omega) only [h0,h1,h2,h3,h4,h10,h11,SS,eq_self,reduceIte,reduceCtorEq,Nat.reduceEqDiff,Nat.reduceAdd]
      refine CallH.by (insCmp_c h) ?_
      rintro _ _ rfl
      simp (disch:=omega) only [SS,eq_self,reduceIte,reduceCtorEq,Nat.reduceEqDiff,Nat.reduceAdd]
      refine hQ _ _ _ ?_
      simp (disch:=omega) only [SS,eq_self,reduceIte,reduceCtorEq,Nat.reduceEqDiff,Nat.reduceAdd]
      exact List.prefix_refl _
    . have hlim':lim ≠ 0:=hlim.resolve_right (by omega)
      simp (disch:=omega) only [h0,h1,h2,h3,h4,h10,h11,SS,eq_self,reduceIte,reduceCtorEq,Nat.reduceEqDiff,Nat.reduceAdd]
      refine brD.intro (fun g2=>absurd g2 hlim') (fun g2=>?_)
      simp (disch:=omega) only [h0,h1,h2,h3,h4,h10,h11,SS,eq_self,reduceIte,reduceCtorEq,Nat.reduceEqDiff,Nat.reduceAdd]
      refine CallH.by (choosePivot_c h (by omega)) ?_
      rintro _ A ⟨⟨j,rfl⟩,pA⟩
      simp (disch:=omega) only [h0,h1,h2,h3,h4,h10,h11,SS,eq_self,reduceIte,reduceCtorEq,Nat.reduceEqDiff,Nat.reduceAdd]
      refine brD.intro (fun g3=>absurd g3 (by decide)) (fun g3=>?_)
      simp (disch:=omega) only [h0,h1,h2,h3,h4,h10,h11,SS,eq_self,reduceIte,reduceCtorEq,Nat.reduceEqDiff,Nat.reduceAdd]
      refine CallH.by (partialIns_c (h.pre pA) (by omega)) ?_
      rintro _ _ ⟨rfl,rfl⟩
      simp (disch:=omega) only [SS,eq_self,reduceIte,reduceCtorEq,Nat.reduceEqDiff,Nat.reduceAdd]
      refine hQ _ _ _ ?_
      simp (disch:=omega) only [SS,eq_self,reduceIte,reduceCtorEq,Nat.reduceEqDiff,Nat.reduceAdd]
      exact pA
end
def cd165:Cd:=(.seq (.reg [⟨⟨some 5,.move (.tmp 0),none⟩,[]⟩,
  ⟨⟨some 6,.call ⟨(.builtin .len),#[.tmp 5],#[36]⟩,none⟩,[]⟩,
  ⟨⟨some 4,.assign (.tmp 6),none⟩,[]⟩]) (.reg [⟨⟨some 7,.move (.tmp 0),none⟩,[]⟩,
  ⟨⟨some 8,.move (.tmp 4),none⟩,[]⟩,
  ⟨⟨some 9,.move (.tmp 4),none⟩,[]⟩,
  ⟨⟨some 10,.convert 3 122 (.tmp 9),none⟩,[]⟩,
  ⟨⟨some 11,.call ⟨(.value (.func 188)),#[.tmp 10],#[122]⟩,none⟩,[]⟩,
  ⟨⟨some 12,.move (.tmp 1),none⟩,[]⟩,
  ⟨⟨some 13,.call ⟨(.value (.func 205)),#[.tmp 7,(.const (.int .i64 0)),.tmp 8,.tmp 11,.tmp 12],#[36,3,3,3,136]⟩,none⟩,[]⟩]))
theorem in165:InT Tryz.prog 165 2 [] cd165:=InT.mk (by kernel_rfl) [] Tryz.func165 rfl (by kernel_rfl) (by kernel_rfl) (of_decide_eq_true (by kernel_rfl)) (by kernel_rfl)
end Go.Proofs.YtjnefjchconebaaGreat.Ai
namespace Go.Proofs.YtjnefjchconebaaGreat.Ai
open Go Go.RowKit
theorem str_at {P:Program}{t:TypeId}(hu:P.underlying t=some .string)(s:ByteArray)(hz:s.size=256)(hp:∀ i:Fin 256,0<i.1->1<=(s.data.getD i.1 0).toNat)(k:IntKind)(n:Nat)(h0:0<n)(h1:n<256):∃ b:Nat,1<=b/\b<256/\indexA P t (.string s) (.int k (n:Int))=some (.int .u8 (b:Int)):=by
  have hl:n<s.data.size:=by have:s.data.size=256:=hz;omega
  have hlt:n<s.size:=by omega
  have e1:s[(n:Int).toNat]?=some s[n]:=by rw [Int.toNat_natCast];simp [hlt]
  have e2:=hp ⟨n,h1⟩ h0
  have e3:s.data.getD n 0=s[n]:=by
    rw [Array.getD_eq_getD_getElem?,Array.getElem?_eq_getElem hl];rfl
  refine ⟨s[n].toNat,?_,UInt8.toNat_lt _,?_⟩
  . rw [<- e3];exact e2
  . simp only [indexA,hu,if_pos (show (0:Int)<=n by omega),e1]
theorem Len64b_c (n:Nat)(H:AH)(h0:0<n)(hn:n<65536):ACalls Tryz.prog 223 [.int .u64 (n:Int)] H fun r H'=>(∃ k:Int,r=.int .i64 k/\1<=k)/\H=H':=by
  refine in223 rfl ?_
  intro Q hQ
  have k8:binA Tryz.prog .shr 87 (.int .u64 (n:Int)) (.int .u64 8)=some (.int .u64 ((n / 256:Nat):Int)):=by
    simp only [binA,shiftA]
    rw [if_pos (.inr trivial),if_neg (by decide)]
    congr 2
    have:(2 ^ min (8:Int).toNat IntKind.u64.bits:Int)=256:=by decide
    rw [this,Int.fdiv_eq_ediv_of_nonneg _ (by decide)]
    omega
  simp (disch:=omega) only [cd223,SS,eq_self,reduceIte,reduceCtorEq,Nat.reduceEqDiff,Nat.reduceAdd]
  refine brD.intro (fun h=>absurd h (by omega)) (fun _=>?_)
  simp (disch:=omega) only [SS,eq_self,reduceIte,reduceCtorEq,Nat.reduceEqDiff,Nat.reduceAdd]
  refine brD.intro (fun h=>absurd h (by omega)) (fun _=>?_)
  simp (disch:=omega) only [SS,eq_self,reduceIte,reduceCtorEq,Nat.reduceEqDiff,Nat.reduceAdd]
  refine brD.intro (fun h=>?_) (fun h=>?_)
  . have hw:IntKind.u8.wrap ((n / 256:Nat):Int)=((n / 256:Nat):Int):=wrapU8 (by omega) (by omega)
    simp (disch:=omega) only [k8,hw,wrap64,SS,eq_self,reduceIte,reduceCtorEq,Nat.reduceEqDiff,Nat.reduceAdd]
    generalize hs:(ByteArray.mk _)=s
    have hz:s.size=256:=by rw [<- hs];rfl
    have hp:∀ i:Fin 256,0<i.1->1<=(s.data.getD i.1 0).toNat:=by rw [<- hs];decide +kernel
    obtain ⟨b,hb1,hb2,hb⟩:=str_at (P:=Tryz.prog) Tryz.underlying9 s hz hp .u8 (n / 256) (by omega) (by omega)
    simp (disch:=omega) only [hb,wrap64,SS,eq_self,reduceIte,reduceCtorEq,Nat.reduceEqDiff,Nat.reduceAdd]
    refine hQ _ _ _ ?_
    simp (disch:=omega) only [SS,eq_self,reduceIte,reduceCtorEq,Nat.reduceEqDiff,Nat.reduceAdd]
    exact ⟨_,rfl,by omega⟩
  . have hw:IntKind.u8.wrap (n:Int)=(n:Int):=wrapU8 (by omega) (by omega)
    simp (disch:=omega) only [hw,wrap64,SS,eq_self,reduceIte,reduceCtorEq,Nat.reduceEqDiff,Nat.reduceAdd]
    generalize hs:(ByteArray.mk _)=s
    have hz:s.size=256:=by rw [<- hs];rfl
    have hp:∀ i:Fin 256,0<i.1->1<=(s.data.getD i.1 0).toNat:=by rw [<- hs];decide +kernel
    obtain ⟨b,hb1,hb2,hb⟩:=str_at (P:=Tryz.prog) Tryz.underlying9 s hz hp .u8 n (by omega) (by omega)
    simp (disch:=omega) only [hb,wrap64,SS,eq_self,reduceIte,reduceCtorEq,Nat.reduceEqDiff,Nat.reduceAdd]
    refine hQ _ _ _ ?_
    simp (disch:=omega) only [SS,eq_self,reduceIte,reduceCtorEq,Nat.reduceEqDiff,Nat.reduceAdd]
    exact ⟨_,rfl,by omega⟩
theorem Lenb_c (n:Nat)(H:AH)(h0:0<n)(hn:n<65536):ACalls Tryz.prog 188 [.int .u64 (n:Int)] H fun r H'=>(∃ k:Int,r=.int .i64 k/\1<=k)/\H=H':=by
  refine in188 rfl ?_
  intro Q hQ
  simp (disch:=omega) only [cd188,SS,eq_self,reduceIte,reduceCtorEq,Nat.reduceEqDiff,Nat.reduceAdd]
  refine CallH.by (Len64b_c n H h0 hn) ?_
  rintro _ _ ⟨⟨k,rfl,hk⟩,rfl⟩
  simp (disch:=omega) only [SS,eq_self,reduceIte,reduceCtorEq,Nat.reduceEqDiff,Nat.reduceAdd]
  refine hQ _ _ _ ?_
  simp (disch:=omega) only [SS,eq_self,reduceIte,reduceCtorEq,Nat.reduceEqDiff,Nat.reduceAdd]
  exact ⟨_,rfl,hk⟩
theorem str_z {P:Program}{t:TypeId}(hu:P.underlying t=some .string)(s:ByteArray)(hz:s.size=256)(k:IntKind)(n:Nat)(h1:n<256):∃ b:Nat,b<256/\indexA P t (.string s) (.int k (n:Int))=some (.int .u8 (b:Int)):=by
  have hlt:n<s.size:=by omega
  have e1:s[(n:Int).toNat]?=some s[n]:=by rw [Int.toNat_natCast];simp [hlt]
  refine ⟨s[n].toNat,UInt8.toNat_lt _,?_⟩
  simp only [indexA,hu,if_pos (show (0:Int)<=n by omega),e1]
theorem Len64z_c (n:Nat)(H:AH)(h0:n=0):ACalls Tryz.prog 223 [.int .u64 (n:Int)] H fun r H'=>(∃ k:Int,r=.int .i64 k)/\H=H':=by
  refine in223 rfl ?_
  intro Q hQ
  simp (disch:=omega) only [cd223,SS,eq_self,reduceIte,reduceCtorEq,Nat.reduceEqDiff,Nat.reduceAdd]
  refine brD.intro (fun h=>absurd h (by omega)) (fun _=>?_)
  simp (disch:=omega) only [SS,eq_self,reduceIte,reduceCtorEq,Nat.reduceEqDiff,Nat.reduceAdd]
  refine brD.intro (fun h=>absurd h (by omega)) (fun _=>?_)
  simp (disch:=omega) only [SS,eq_self,reduceIte,reduceCtorEq,Nat.reduceEqDiff,Nat.reduceAdd]
  refine brD.intro (fun h=>absurd h (by omega)) (fun _=>?_)
  have hw:IntKind.u8.wrap (n:Int)=(n:Int):=wrapU8 (by omega) (by omega)
  simp (disch:=omega) only [hw,wrap64,SS,eq_self,reduceIte,reduceCtorEq,Nat.reduceEqDiff,Nat.reduceAdd]
  generalize hs:(ByteArray.mk _)=s
  have hz:s.size=256:=by rw [<- hs];rfl
  obtain ⟨b,hb2,hb⟩:=str_z (P:=Tryz.prog) Tryz.underlying9 s hz .u8 n (by omega)
  simp (disch:=omega) only [hb,wrap64,SS,eq_self,reduceIte,reduceCtorEq,Nat.reduceEqDiff,Nat.reduceAdd]
  refine hQ _ _ _ ?_
  simp (disch:=omega) only [SS,eq_self,reduceIte,reduceCtorEq,Nat.reduceEqDiff,Nat.reduceAdd]
  exact ⟨_,rfl⟩
theorem Lenz_c (n:Nat)(H:AH)(h0:n=0):ACalls Tryz.prog 188 [.int .u64 (n:Int)] H fun r H'=>(∃ k:Int,r=.int .i64 k)/\H=H':=by
  refine in188 rfl ?_
  intro Q hQ
  simp (disch:=omega) only [cd188,SS,eq_self,reduceIte,reduceCtorEq,Nat.reduceEqDiff,Nat.reduceAdd]
  refine CallH.by (Len64z_c n H h0) ?_
  rintro _ _ ⟨⟨k,rfl⟩,rfl⟩
  simp (disch:=omega) only [SS,eq_self,reduceIte,reduceCtorEq,Nat.reduceEqDiff,Nat.reduceAdd]
  refine hQ _ _ _ ?_
  simp (disch:=omega) only [SS,eq_self,reduceIte,reduceCtorEq,Nat.reduceEqDiff,Nat.reduceAdd]
  exact ⟨_,rfl⟩
theorem SortFunc_c {H:AH}{v:Value}{us:List Value}{ls:List (List Int)}(h:Sts H v us ls) :
    ACalls Tryz.prog 165 [v,fnCmp] H fun r H'=>H<+:H':=by
  refine in165 rfl ?_
  intro Q hQ
  have hb:=h.bnd
  have hl:=h.len
  have hU:IntKind.u64.wrap (ls.length:Int)=(ls.length:Int):=by rw [IntKind.wrap_u64];omega
  simp (disch:=omega) only [cd165,h.row.len Tryz.underlying36,hl,hU,SS,eq_self,reduceIte,reduceCtorEq,Nat.reduceEqDiff,Nat.reduceAdd]
  by_cases h1:1<=ls.length
  rotate_left
  . refine CallH.by (Lenz_c ls.length H (by omega)) ?_
    rintro _ _ ⟨⟨k,rfl⟩,rfl⟩
    simp (disch:=omega) only [SS,eq_self,reduceIte,reduceCtorEq,Nat.reduceEqDiff,Nat.reduceAdd]
    refine CallH.by (pdqCmp_c h k (.inr (by omega))) ?_
    rintro _ B hB
    simp (disch:=omega) only [SS,eq_self,reduceIte,reduceCtorEq,Nat.reduceEqDiff,Nat.reduceAdd]
    refine hQ _ _ _ ?_
    simp (disch:=omega) only [SS,eq_self,reduceIte,reduceCtorEq,Nat.reduceEqDiff,Nat.reduceAdd]
    exact hB
  refine CallH.by (Lenb_c ls.length H (by omega) (by omega)) ?_
  rintro _ _ ⟨⟨k,rfl,hk⟩,rfl⟩
  simp (disch:=omega) only [SS,eq_self,reduceIte,reduceCtorEq,Nat.reduceEqDiff,Nat.reduceAdd]
  refine CallH.by (pdqCmp_c h k (.inl (by omega))) ?_
  rintro _ B hB
  simp (disch:=omega) only [SS,eq_self,reduceIte,reduceCtorEq,Nat.reduceEqDiff,Nat.reduceAdd]
  refine hQ _ _ _ ?_
  simp (disch:=omega) only [SS,eq_self,reduceIte,reduceCtorEq,Nat.reduceEqDiff,Nat.reduceAdd]
  exact hB
def Fst (es:List (Int × Int))(T:List Int):Prop:=∀ k,k<T.length->¬ Jn es (T.take k) (enA es (T.getD k 0)) (enB es (T.getD k 0))
theorem Fst.nil (es:List (Int × Int)):Fst es []:=fun k hk=>absurd hk (Nat.not_lt_zero k)
theorem Fst.snoc {es:List (Int × Int)}{T:List Int}{e:Int}(h:Fst es T)(he:¬ Jn es T (enA es e) (enB es e)):Fst es (T ++ [e]):=by
  intro k hk
  rw [List.length_append,List.length_singleton] at hk
  by_cases g:k<T.length
  . have e1:(T ++ [e]).getD k 0=T.getD k 0:=by
      rw [List.getD_eq_getElem?_getD,List.getElem?_append_left g,<- List.getD_eq_getElem?_getD]
    rw [e1,List.take_append_of_le_length (by omega)]
    exact h k g
  . have:k=T.length:=by omega
    subst this
    have e1:(T ++ [e]).getD T.length 0=e:=by
      rw [List.getD_eq_getElem?_getD,List.getElem?_append_right (Nat.le_refl _)];simp
    rw [e1,List.take_append_of_le_length (Nat.le_refl _),List.take_length]
    exact he
structure Beg (n:Nat) (es:List (Int × Int)) (k:Nat) (T:List Int):Prop where
  fst:Fst es T
  asc:T.Pairwise (· < ·)
  low:∀ e ∈ T,0<=e/\e<((es.length - k:Nat):Int)
  len:T.length+1<=n
theorem Beg.ed {n:Nat}{es:List (Int × Int)}{k:Nat}{T:List Int}(h:Beg n es k T):EdIn es T:=fun e he=>by have:=h.low e he;omega
theorem Beg.nil {n:Nat}(hn:1<=n)(es:List (Int × Int)):Beg n es es.length []:=⟨Fst.nil es,.nil,fun e he=>by simp at he,hn⟩
theorem Beg.skip {n:Nat}{es:List (Int × Int)}{k:Nat}{T:List Int}(h:Beg n es (k+1) T):Beg n es k T:=⟨h.fst,h.asc,fun e he=>by have:=h.low e he;omega,h.len⟩
theorem Beg.snoc {n:Nat}{es:List (Int × Int)}(hg:Grd (n:Int) es){k:Nat}{T:List Int}(h:Beg n es (k+1) T)(hk:k+1<=es.length)(hl:T.length+1 ≠ n)(hj:¬ jnB es n T (enA es ((es.length - (k+1):Nat):Int)) (enB es ((es.length - (k+1):Nat):Int))=true):Beg n es k (T ++ [((es.length - (k+1):Nat):Int)]):=by
  have he:(0:Int)<=((es.length - (k+1):Nat):Int)/\((es.length - (k+1):Nat):Int)<es.length:=by omega
  have hen:=en_eq hg he
  refine ⟨h.fst.snoc fun q=>hj ((jnB_iff hg h.ed (by omega) (by omega)).2 q),?_,fun e hm=>?_,by have:=h.len;simp;omega⟩
  . rw [List.pairwise_append]
    exact ⟨h.asc,by simp,fun a ha b hb=>by rw [List.mem_singleton.1 hb];exact (h.low a ha).2⟩
  . rcases List.mem_append.1 hm with q | q
    . have:=h.low e q;omega
    . rw [List.mem_singleton.1 q];omega
structure JS (n:Nat) (J:List Int) (rt d:Nat->Nat):Prop where
  len:J.length=n
  nxt:∀ x,x<n->∃ y:Nat,J.getD x 0=(y:Int)/\y<n/\rt y=rt x/\(y=x->rt x=x)/\(y ≠ x->d y<d x)
  top:∀ x,x<n->rt x<n/\J.getD (rt x) 0=(rt x:Int)
theorem JS.rr {n:Nat}{J:List Int}{rt d:Nat->Nat}(h:JS n J rt d){x:Nat}(hx:x<n):rt (rt x)=rt x:=by
  obtain ⟨t1,t2⟩:=h.top x hx
  obtain ⟨y,y1,_,y3,y4,_⟩:=h.nxt (rt x) t1
  exact y4 (by rw [t2] at y1;omega)
theorem alls_at {n x:Nat}(h:x<n):(alls n).getD x 0=(x:Int):=by simp [alls,h]
theorem JS.zero (n:Nat):JS n (alls n) id fun _=>0 :=
  ⟨by simp [alls],fun x hx=>⟨x,alls_at hx,hx,rfl,fun _=>rfl,fun q=>absurd rfl q⟩,fun x hx=>⟨hx,alls_at hx⟩⟩
theorem getD_setI (xs:List Int)(j v:Nat)(d:Int)(hj:j<xs.length):(xs.set j d).getD v 0=if j=v then d else xs.getD v 0:=by
  simp only [List.getD_eq_getElem?_getD,List.getElem?_set]
  split
  . rename_i e
    subst e
    first | rfl | (rw [if_pos hj];rfl)
  . rfl
theorem JS.join {n:Nat}{J:List Int}{rt d:Nat->Nat}(h:JS n J rt d){a b:Nat}(ha:a<n)(hb:b<n) :
    ∃ d',JS n (J.set (rt a) (rt b:Int)) (fun x=>if rt x=rt a then rt b else rt x) d':=by
  have ra:=h.rr ha
  have rb:=h.rr hb
  have ta:=h.top a ha
  have tb:=h.top b hb
  have hl:rt a<J.length:=by rw [h.len];exact ta.1
  refine ⟨fun x=>if rt x=rt a/\rt a ≠ rt b then d x+d (rt b)+1 else d x,by rw [List.length_set];exact h.len,fun x hx=>?_,fun x hx=>?_⟩
  . rw [getD_setI _ _ _ _ hl]
    by_cases e:rt a=x
    . refine ⟨rt b,if_pos e,tb.1,?_,fun q=>?_,fun q=>?_⟩
      . show (if rt (rt b)=rt a then rt b else rt (rt b))=if rt x=rt a then rt b else rt x
        rw [rb,<- e,ra,if_pos rfl]
        split <;> rfl
      . show (if rt x=rt a then rt b else rt x)=x
        rw [<- e,ra,if_pos rfl,q,e]
      . show (if rt (rt b)=rt a/\rt a ≠ rt b then _ else _)<(if rt x=rt a/\rt a ≠ rt b then _ else _)
        have hne:rt a ≠ rt b:=fun g=>q (by rw [<- g,e])
        rw [rb,if_neg (fun g=>hne g.1.symm),<- e,ra,if_pos ⟨rfl,hne⟩]
        omega
    . obtain ⟨y,y1,y2,y3,y4,y5⟩:=h.nxt x hx
      refine ⟨y,by rw [if_neg e];exact y1,y2,?_,fun q=>?_,fun q=>?_⟩
      . show (if rt y=rt a then rt b else rt y)=if rt x=rt a then rt b else rt x
        rw [y3]
      . show (if rt x=rt a then rt b else rt x)=x
        have:=y4 q
        rw [this,if_neg fun g=>e g.symm]
      . show (if rt y=rt a/\rt a ≠ rt b then _ else _)<(if rt x=rt a/\rt a ≠ rt b then _ else _)
        have:=y5 q
        rw [y3]
        split <;> omega
  . show (if rt x=rt a then rt b else rt x)<n/\(J.set (rt a) (rt b:Int)).getD (if rt x=rt a then rt b else rt x) 0=((if rt x=rt a then rt b else rt x:Nat):Int)
    rw [getD_setI _ _ _ _ hl]
    have tx:=h.top x hx
    by_cases e:rt x=rt a
    . rw [if_pos e]
      refine ⟨tb.1,?_⟩
      split
      . rfl
      . exact tb.2
    . rw [if_neg e,if_neg fun g=>e g.symm]
      exact tx
def JR (es:List (Int × Int))(T:List Int)(n:Nat)(J:List Int):Prop:=∃ rt d,JS n J rt d/\∀ u v,u<n->v<n->(Jn es T u v↔rt u=rt v)
theorem JR.zero (es:List (Int × Int))(n:Nat):JR es [] n (alls n):=⟨_,_,JS.zero n,fun u v _ _=>⟨fun h=>h.nil,fun h=>by have:u=v:=h;subst this;exact .refl u⟩⟩
theorem JR.congr {es:List (Int × Int)}{T U:List Int}{n:Nat}{J:List Int}(h:JR es T n J)(hs:∀ x,x ∈ T↔x ∈ U):JR es U n J:=by
  obtain ⟨rt,d,h1,h2⟩:=h
  exact ⟨rt,d,h1,fun u v hu hv=>⟨fun q=>(h2 u v hu hv).1 (q.mono fun x hx=>(hs x).2 hx),fun q=>((h2 u v hu hv).2 q).mono fun x hx=>(hs x).1 hx⟩⟩
theorem JS.rel {es:List (Int × Int)}{T U:List Int}{n:Nat}{J:List Int}{rt d:Nat->Nat}(h:JS n J rt d)(hr:∀ u v,u<n->v<n->(Jn es T u v↔rt u=rt v)){e:Int}(ha:enA es e<n)(hb:enB es e<n)(hs:∀ x,x ∈ U↔x ∈ T∨x=e) :
    JR es U n (J.set (rt (enA es e)) (rt (enB es e):Int)):=by
  obtain ⟨d',hj⟩:=h.join ha hb
  refine ⟨_,d',hj,fun u v hu hv=>?_⟩
  show _↔(if rt u=rt (enA es e) then rt (enB es e) else rt u)=if rt v=rt (enA es e) then rt (enB es e) else rt v
  have sub:∀ x ∈ T,x ∈ U:=fun x hx=>(hs x).2 (.inl hx)
  constructor
  . intro hj
    rcases Jn.add (fun x hx=>(hs x).1 hx) hj with q | ⟨q1,q2⟩ | ⟨q1,q2⟩
    . rw [(hr u v hu hv).1 q]
    . rw [if_pos ((hr _ _ hu ha).1 q1),<- (hr _ _ hb hv).1 q2]
      split <;> rfl
    . have e2:=(hr _ _ ha hv).1 q2
      rw [if_pos e2.symm,(hr _ _ hu hb).1 q1]
      split <;> rfl
  . intro hq
    have ed:Jn es U (enA es e) (enB es e):=.edge e ((hs e).2 (.inr rfl))
    split at hq <;> split at hq
    . rename_i g1 g2
      exact ((hr u v hu hv).2 (g1.trans g2.symm)).mono sub
    . rename_i g1 g2
      exact (((hr _ _ hu ha).2 g1).mono sub).trans (ed.trans (((hr _ _ hb hv).2 hq).mono sub))
    . rename_i g1 g2
      exact (((hr _ _ hu hb).2 hq).mono sub).trans (ed.symm.trans (((hr _ _ ha hv).2 g2.symm).mono sub))
    . exact ((hr u v hu hv).2 hq).mono sub
noncomputable instance (n:Nat) (es:List (Int × Int)) (T:List Int):Decidable (TreL n es T):=Classical.propDecidable _
def Sm (o:List Int):Prop:=o.Pairwise (· < ·)/\∀ z ∈ o,0<=z/\z<8
theorem Sm.len {o:List Int}(h:Sm o):o.length<=8:=by
  have:=nodup_le (a:=o) (b:=(List.range 8).map fun z:Nat=>(z:Int)) (lt_nodup h.1) fun x hx=>by
    have:=h.2 x hx
    exact List.mem_map.2 ⟨x.toNat,List.mem_range.2 (by omega),by omega⟩
  simpa using this
theorem Sm.put {o:List Int}(h:Sm o){x:Int}(hx:0<=x/\x<8):Sm (put o x):=by
  refine ⟨put_sorted _ _ h.1,fun z hz=>?_⟩
  rcases (put_mem _ _ _).1 hz with rfl | hz
  . exact hx
  . exact h.2 z hz
theorem Sm.nil:Sm []:=⟨List.Pairwise.nil,fun z hz=>by simp at hz⟩
theorem Sm.one {x:Int}(hx:0<=x/\x<8):Sm [x]:=⟨List.pairwise_singleton _ _,fun z hz=>by simp at hz;subst hz;exact hx⟩
end Go.Proofs.YtjnefjchconebaaGreat.Ai
namespace Go.Proofs.YtjnefjchconebaaGreat.Ai
open Go Go.RowKit
def LsOk (p:List Int):Prop:=p.length<=30/\∀ y ∈ p,I64 y
theorem row_keeps {e:TypeId}{H H':AH}{o:Nat}{v:Value}{xs:List Int}(h:Row e H v xs)(hv:v=.slice none 0 0∨rowO v ≠ o)(hk:Keeps o H H'):Row e H' v xs:=by
  rcases hv with e1 | e1
  . rcases h with z | ⟨_,_,_,_,z,_⟩
    . exact .inl z
    . rw [e1] at z;cases z
  . exact h.mono fun y hy=>hk.2 _ _ e1 hy
theorem rowP_keeps {e:TypeId}{H H':AH}{o:Nat}{v:Value}{xs:List (Int × Int)}(h:RowP e H v xs)(hv:v=.slice none 0 0∨rowO v ≠ o)(hk:Keeps o H H'):RowP e H' v xs:=by
  rcases hv with e1 | e1
  . exact .inl ⟨e1,h.nilv e1⟩
  . exact h.mono fun y hy=>hk.2 _ _ e1 hy
structure SlSt (H:AH) (o gp:Nat) (n:Int) (w:Value) (es:List (Int × Int)) (a:Value) (p:List Int) (v:Value) (us:List Value) (N:Nat) (K:AH):Prop where
  eo:o=H.length+1
  c0:K[H.length]?=some (.cells [.int .i64 0,.slice none 0 0] 26 false)
  cg:K[gp]?=some (.cells [.int .i64 n,w] 26 false)
  gp2:H.length+2<=gp
  rw_:RowP 47 K w es
  lw:w=.slice none 0 0∨H.length+2<=rowO w
  ra:Row 3 K a p
  la:a=.slice none 0 0∨H.length+2<=rowO a
  cr:Cur K o v us N
  pr:H<+:K
theorem SlSt.keeps {H:AH}{o gp:Nat}{n:Int}{w:Value}{es:List (Int × Int)}{a:Value}{p:List Int}{v:Value}{us:List Value}{N M:Nat}{K L:AH}(h:SlSt H o gp n w es a p v us N K)(hk:Keeps o K L)(hc:Cur L o v us M):SlSt H o gp n w es a p v us M L:=by
  have e:=h.eo
  have g:=h.gp2
  exact ⟨e,hk.2 _ _ (by omega) h.c0,hk.2 _ _ (by omega) h.cg,g,rowP_keeps h.rw_ (h.lw.imp id fun q=>by omega) hk,h.lw,row_keeps h.ra (h.la.imp id fun q=>by omega) hk,h.la,hc,prefix_of fun j y hy=>hk.2 j y (by have:=at_lt hy;omega) (pre_at h.pr hy)⟩
theorem SlSt.pre {H:AH}{o gp:Nat}{n:Int}{w:Value}{es:List (Int × Int)}{a:Value}{p:List Int}{v:Value}{us:List Value}{N:Nat}{K L:AH}(h:SlSt H o gp n w es a p v us N K)(hp:K<+:L):SlSt H o gp n w es a p v us N L :=
  h.keeps (.of_pre hp) (h.cr.pre hp)
theorem SlSt.more {H:AH}{o gp:Nat}{n:Int}{w:Value}{es:List (Int × Int)}{a:Value}{p:List Int}{v:Value}{us:List Value}{N M:Nat}{K:AH}(h:SlSt H o gp n w es a p v us N K)(hm:N<=M):SlSt H o gp n w es a p v us M K :=
  { h with cr:=h.cr.more hm }
theorem SlSt.fin {H:AH}{o gp:Nat}{n:Int}{w:Value}{es:List (Int × Int)}{a:Value}{p:List Int}{v:Value}{us:List Value}{N:Nat}{K:AH}(h:SlSt H o gp n w es a p v us N K){b:Value}{q:List Int}(hb:Row 3 K b q)(lb:b=.slice none 0 0∨H.length+2<=rowO b) :
    (K.set H.length (.cells [.int .i64 n,w] 26 false))[H.length]?=some (.cells [.int .i64 n,w] 26 false)/\RowP 47 (K.set H.length (.cells [.int .i64 n,w] 26 false)) w es/\Row 3 (K.set H.length (.cells [.int .i64 n,w] 26 false)) a p/\Row 3 (K.set H.length (.cells [.int .i64 n,w] 26 false)) b q/\H<+:(K.set H.length (.cells [.int .i64 n,w] 26 false)):=by
  have hk:Keeps H.length K (K.set H.length (.cells [.int .i64 n,w] 26 false)):=⟨by simp,fun j y hj hy=>by rw [List.getElem?_set_ne (fun e=>hj e.symm)];exact hy⟩
  exact ⟨at_set h.c0,rowP_keeps h.rw_ (h.lw.imp id fun q=>by omega) hk,row_keeps h.ra (h.la.imp id fun q=>by omega) hk,row_keeps hb (lb.imp id fun q=>by omega) hk,prefix_of fun j y hy=>hk.2 j y (by have:=at_lt hy;omega) (pre_at h.pr hy)⟩
theorem row_lt {e:TypeId}{K:AH}{v:Value}{xs:List Int}(h:Row e K v xs):v=.slice none 0 0∨rowO v<K.length:=by
  rcases h with z | ⟨o,k,vs,ro,z,z2,_⟩
  . exact .inl z.1
  . right;rw [z];exact at_lt z2
theorem rowP_lt {e:TypeId}{K:AH}{v:Value}{xs:List (Int × Int)}(h:RowP e K v xs):v=.slice none 0 0∨rowO v<K.length:=by
  rcases h with z | ⟨o,k,vs,ro,z,z2,_⟩
  . exact .inl z.1
  . right;rw [z];exact at_lt z2
theorem row_ne {K:AH}{j:Nat}{v:Value}{xs:List Int}{cs:List Value}(h:Row 3 K v xs)(hj:K[j]?=some (.cells cs 26 false)):v=.slice none 0 0∨rowO v ≠ j:=by
  rcases h with z | ⟨o,k,vs,ro,z,z2,_⟩
  . exact .inl z.1
  . right
    rw [z]
    intro e
    have e':o=j:=e
    subst e'
    have:=z2.symm.trans hj
    simp at this
theorem rowP_ne {K:AH}{j:Nat}{v:Value}{xs:List (Int × Int)}{cs:List Value}(h:RowP 47 K v xs)(hj:K[j]?=some (.cells cs 26 false)):v=.slice none 0 0∨rowO v ≠ j:=by
  rcases h with z | ⟨o,k,vs,ro,z,z2,_⟩
  . exact .inl z.1
  . right
    rw [z]
    intro e
    have e':o=j:=e
    subst e'
    have:=z2.symm.trans hj
    simp at this
def Frs (H:AH)(o gp:Nat)(w a b:Value):Prop:=rowO b ≠ H.length/\rowO b ≠ o/\rowO b ≠ gp/\(w=.slice none 0 0∨rowO w ≠ rowO b)/\(a=.slice none 0 0∨rowO a ≠ rowO b)
theorem SlSt.frs {H:AH}{o gp:Nat}{n:Int}{w:Value}{es:List (Int × Int)}{a:Value}{p:List Int}{v:Value}{us:List Value}{N:Nat}{K:AH}(h:SlSt H o gp n w es a p v us N K){b:Value}(hb:K.length<=rowO b):Frs H o gp w a b:=by
  have h1:=at_lt h.c0
  have h2:=at_lt h.cg
  have h3:o<K.length:=by
    obtain ⟨_,_,g,_⟩:=h.cr.cur
    exact at_lt g
  exact ⟨by omega,by omega,by omega,(rowP_lt h.rw_).imp id fun q=>by omega,(row_lt h.ra).imp id fun q=>by omega⟩
theorem SlSt.kept {H:AH}{o gp:Nat}{n:Int}{w:Value}{es:List (Int × Int)}{a:Value}{p:List Int}{v:Value}{us:List Value}{N:Nat}{K L:AH}(h:SlSt H o gp n w es a p v us N K)(hB:Byt H v us){b:Value}(hf:Frs H o gp w a b)(hk:Kept b K L)(hp:H<+:L):SlSt H o gp n w es a p v us N L:=by
  obtain ⟨f1,f2,f3,f4,f5⟩:=hf
  have hK:∀ (j:Nat) (y:AObj),j ≠ rowO b->K[j]?=some y->L[j]?=some y:=fun j y hj hy=>hk j y (.inr hj) hy
  refine ⟨h.eo,hK _ _ (fun e=>f1 e.symm) h.c0,hK _ _ (fun e=>f3 e.symm) h.cg,h.gp2,?_,h.lw,?_,h.la,?_,hp⟩
  . rcases f4 with e | e
    . exact .inl ⟨e,h.rw_.nilv e⟩
    . exact h.rw_.mono fun y hy=>hK _ _ e hy
  . rcases f5 with e1 | e1
    . rcases h.ra with z | ⟨_,_,_,_,z,_⟩
      . exact .inl z
      . rw [e1] at z;cases z
    . exact h.ra.mono fun y hy=>hK _ _ e1 hy
  . obtain ⟨x1,x2,x3,x4⟩:=h.cr.cur
    exact ⟨⟨x1,x2,hK _ _ (fun e=>f2 e.symm) x3,x4⟩,hB.row.pre hp,h.cr.byt,h.cr.ap,h.cr.le⟩
theorem SlSt.app {H:AH}{o gp:Nat}{n:Int}{w:Value}{es:List (Int × Int)}{a:Value}{p:List Int}{v:Value}{us:List Value}{N:Nat}{K:AH}(h:SlSt H o gp n w es a p v us N K)(hB:Byt H v us){b:Value}{q:List Int}(hb:Own 3 H K b q)(hf:Frs H o gp w a b)(hq:q.length<=1000)(x:Int) :
    ∃ b' L,appendA Tryz.prog 27 27 b (.slice (some ⟨K.length,0,none⟩) 1 1) (K ++ [.cells [.int .i64 x] 3 false])=some (b',L)/\isTup b'=false/\Own 3 H L b' (q ++ [x])/\Frs H o gp w a b'/\SlSt H o gp n w es a p v us N L:=by
  obtain ⟨b',L,j1,j2,j3,j4,j5,j6⟩:=own1_27 hb h.pr (by omega) x
  have hL:=h.kept hB hf j4 j3
  exact ⟨b',L,j1,j6,j2,h.frs j5,hL⟩
theorem bd_lok {n:Nat}(hn:n<=6){p:List Int}(h:Bd n p):LsOk p:=by
  have hl:=h.2
  refine ⟨by omega,fun y hy=>?_⟩
  obtain ⟨i,hi,rfl⟩:=List.mem_iff_getElem.1 hy
  have h2:=(prm_range h.1).1 i hi
  have e:p.getD i 0=p[i]:=by simp [hi]
  rw [e] at h2
  unfold I64
  omega
theorem p9_lok {p:List Int}(h:p.length<=10)(hr:∀ y ∈ p,-1<=y/\y<=9):LsOk p:=⟨by omega,fun y hy=>by have:=hr y hy;unfold I64;omega⟩
theorem lstL (n:Int):(if n<8 then n else 8)<=9:=by split <;> omega
def cd147:Cd:=(.seq (.reg [⟨⟨some 4,.assign (.const (.bool false)),none⟩,[]⟩]) (.seq (.seq (.reg [⟨⟨some 6,.move (.tmp 0),none⟩,[]⟩,⟨⟨some 7,.call ⟨(.builtin .len),#[.tmp 6],#[27]⟩,none⟩,[]⟩,⟨⟨some 8,.move (.tmp 1),none⟩,[]⟩,⟨⟨some 9,.call ⟨(.builtin .len),#[.tmp 8],#[27]⟩,none⟩,[]⟩,⟨⟨some 10,.binOp .neq 3 (.tmp 7) (.tmp 9) 3,none⟩,[]⟩]) (.cond (.tmp 10) (.seq (.reg [⟨⟨some 4,.assign (.const (.bool false)),none⟩,[]⟩]) .ret) .skip)) (.seq (.seq (.reg [⟨⟨some 5,.assign (.const (.int .i64 0)),none⟩,[]⟩]) (.block 0 (.loop (.seq (.seq (.reg [⟨⟨some 11,.move (.tmp 5),none⟩,[]⟩,⟨⟨some 12,.move (.tmp 0),none⟩,[]⟩,⟨⟨some 13,.call ⟨(.builtin .len),#[.tmp 12],#[27]⟩,none⟩,[]⟩,⟨⟨some 14,.binOp .lss 3 (.tmp 11) (.tmp 13) 3,none⟩,[]⟩]) (.cond (.tmp 14) .skip (.exit 0))) (.seq (.block 1 (.seq (.reg [⟨⟨some 17,.move (.tmp 0),none⟩,[]⟩,⟨⟨some 18,.move (.tmp 5),none⟩,[]⟩,⟨⟨some 19,.indexAddr 27 (.tmp 17) (.tmp 18),none⟩,[]⟩,⟨⟨some 20,.load 3 (.tmp 19),none⟩,[]⟩,⟨⟨some 21,.move (.tmp 1),none⟩,[]⟩,
 ⟨⟨some 22,.move (.tmp 5),none⟩,[]⟩,
  ⟨⟨some 23,.indexAddr 27 (.tmp 21) (.tmp 22),none⟩,[]⟩,
  ⟨⟨some 24,.load 3 (.tmp 23),none⟩,[]⟩,
  ⟨⟨some 25,.binOp .neq 3 (.tmp 20) (.tmp 24) 3,none⟩,[]⟩]) (.cond (.tmp 25) (.seq (.reg [⟨⟨some 4,.assign (.const (.bool false)),none⟩,[]⟩]) .ret) .skip))) (.reg [⟨⟨some 15,.move (.tmp 5),none⟩,[]⟩,
  ⟨⟨some 16,.binOp .add 3 (.tmp 15) (.const (.int .i64 1)) 3,none⟩,[]⟩,
  ⟨⟨some 5,.assign (.tmp 16),none⟩,[]⟩])))))) (.seq (.reg [⟨⟨some 4,.assign (.const (.bool true)),none⟩,[]⟩]) .ret))))
theorem in147:InT Tryz.prog 147 2 [.tmp 4] cd147:=InT.mk (by kernel_rfl) [(6,[(0,false),(1,false),(2,false),(3,false),(4,false),(5,false),(6,false),(7,false),(8,false)])] Tryz.func147 rfl (by kernel_rfl) (by kernel_rfl) (of_decide_eq_true (by kernel_rfl)) (by kernel_rfl)
def cd59:Cd:=(.seq (.reg [⟨⟨some 4,.assign (.const (.bool false)),none⟩,[]⟩]) (.seq (.seq (.reg [⟨⟨some 6,.move (.tmp 0),none⟩,[]⟩,⟨⟨some 7,.call ⟨(.builtin .len),#[.tmp 6],#[36]⟩,none⟩,[]⟩,⟨⟨some 8,.move (.tmp 1),none⟩,[]⟩,⟨⟨some 9,.call ⟨(.builtin .len),#[.tmp 8],#[36]⟩,none⟩,[]⟩,⟨⟨some 10,.binOp .neq 3 (.tmp 7) (.tmp 9) 3,none⟩,[]⟩]) (.cond (.tmp 10) (.seq (.reg [⟨⟨some 4,.assign (.const (.bool false)),none⟩,[]⟩]) .ret) .skip)) (.seq (.seq (.reg [⟨⟨some 5,.assign (.const (.int .i64 0)),none⟩,[]⟩]) (.block 0 (.loop (.seq (.seq (.reg [⟨⟨some 11,.move (.tmp 5),none⟩,[]⟩,⟨⟨some 12,.move (.tmp 0),none⟩,[]⟩,⟨⟨some 13,.call ⟨(.builtin .len),#[.tmp 12],#[36]⟩,none⟩,[]⟩,⟨⟨some 14,.binOp .lss 3 (.tmp 11) (.tmp 13) 3,none⟩,[]⟩]) (.cond (.tmp 14) .skip (.exit 0))) (.seq (.block 1 (.seq (.reg [⟨⟨some 17,.move (.tmp 0),none⟩,[]⟩,⟨⟨some 18,.move (.tmp 5),none⟩,[]⟩,⟨⟨some 19,.indexAddr 36 (.tmp 17) (.tmp 18),none⟩,[]⟩,⟨⟨some 20,.load 27 (.tmp 19),none⟩,[]⟩,⟨⟨some 21,.move (.tmp 1),none⟩,[]⟩,
 ⟨⟨some 22,.move (.tmp 5),none⟩,[]⟩,
  ⟨⟨some 23,.indexAddr 36 (.tmp 21) (.tmp 22),none⟩,[]⟩,
  ⟨⟨some 24,.load 27 (.tmp 23),none⟩,[]⟩,
  ⟨⟨some 25,.call ⟨(.value (.func 147)),#[.tmp 20,.tmp 24],#[27,27]⟩,none⟩,[]⟩,
  ⟨⟨some 26,.unOp .not 4 (.tmp 25),none⟩,[]⟩]) (.cond (.tmp 26) (.seq (.reg [⟨⟨some 4,.assign (.const (.bool false)),none⟩,[]⟩]) .ret) .skip))) (.reg [⟨⟨some 15,.move (.tmp 5),none⟩,[]⟩,
  ⟨⟨some 16,.binOp .add 3 (.tmp 15) (.const (.int .i64 1)) 3,none⟩,[]⟩,
  ⟨⟨some 5,.assign (.tmp 16),none⟩,[]⟩])))))) (.seq (.reg [⟨⟨some 4,.assign (.const (.bool true)),none⟩,[]⟩]) .ret))))
theorem in59:InT Tryz.prog 59 2 [.tmp 4] cd59:=InT.mk (by kernel_rfl) [(6,[(0,false),(1,false),(2,false),(3,false),(4,false),(5,false),(6,false),(7,false),(8,true),(9,false)])] Tryz.func59 rfl (by kernel_rfl) (by kernel_rfl) (of_decide_eq_true (by kernel_rfl)) (by kernel_rfl)
def cd18:Cd:=(.seq (.reg [⟨⟨some 4,.assign (.const (.bool false)),none⟩,[]⟩]) (.seq (.seq (.reg [⟨⟨some 6,.move (.tmp 0),none⟩,[]⟩,⟨⟨some 7,.call ⟨(.builtin .len),#[.tmp 6],#[24]⟩,none⟩,[]⟩,⟨⟨some 8,.move (.tmp 1),none⟩,[]⟩,⟨⟨some 9,.call ⟨(.builtin .len),#[.tmp 8],#[24]⟩,none⟩,[]⟩,⟨⟨some 10,.binOp .neq 3 (.tmp 7) (.tmp 9) 3,none⟩,[]⟩]) (.cond (.tmp 10) (.seq (.reg [⟨⟨some 4,.assign (.const (.bool false)),none⟩,[]⟩]) .ret) .skip)) (.seq (.seq (.reg [⟨⟨some 5,.assign (.const (.int .i64 0)),none⟩,[]⟩]) (.block 0 (.loop (.seq (.seq (.reg [⟨⟨some 11,.move (.tmp 5),none⟩,[]⟩,⟨⟨some 12,.move (.tmp 0),none⟩,[]⟩,⟨⟨some 13,.call ⟨(.builtin .len),#[.tmp 12],#[24]⟩,none⟩,[]⟩,⟨⟨some 14,.binOp .lss 3 (.tmp 11) (.tmp 13) 3,none⟩,[]⟩]) (.cond (.tmp 14) .skip (.exit 0))) (.seq (.block 1 (.seq (.reg [⟨⟨some 17,.move (.tmp 0),none⟩,[]⟩,⟨⟨some 18,.move (.tmp 5),none⟩,[]⟩,⟨⟨some 19,.indexAddr 24 (.tmp 17) (.tmp 18),none⟩,[]⟩,⟨⟨some 20,.load 47 (.tmp 19),none⟩,[]⟩,⟨⟨some 21,.move (.tmp 1),none⟩,[]⟩,
 ⟨⟨some 22,.move (.tmp 5),none⟩,[]⟩,
  ⟨⟨some 23,.indexAddr 24 (.tmp 21) (.tmp 22),none⟩,[]⟩,
  ⟨⟨some 24,.load 47 (.tmp 23),none⟩,[]⟩,
  ⟨⟨some 25,.binOp .neq 47 (.tmp 20) (.tmp 24) 47,none⟩,[]⟩]) (.cond (.tmp 25) (.seq (.reg [⟨⟨some 4,.assign (.const (.bool false)),none⟩,[]⟩]) .ret) .skip))) (.reg [⟨⟨some 15,.move (.tmp 5),none⟩,[]⟩,
  ⟨⟨some 16,.binOp .add 3 (.tmp 15) (.const (.int .i64 1)) 3,none⟩,[]⟩,
  ⟨⟨some 5,.assign (.tmp 16),none⟩,[]⟩])))))) (.seq (.reg [⟨⟨some 4,.assign (.const (.bool true)),none⟩,[]⟩]) .ret))))
theorem in18:InT Tryz.prog 18 2 [.tmp 4] cd18:=InT.mk (by kernel_rfl) [(6,[(0,false),(1,false),(2,false),(3,false),(4,false),(5,false),(6,false),(7,false),(8,false)])] Tryz.func18 rfl (by kernel_rfl) (by kernel_rfl) (of_decide_eq_true (by kernel_rfl)) (by kernel_rfl)
end Go.Proofs.YtjnefjchconebaaGreat.Ai
namespace Go.Proofs.YtjnefjchconebaaGreat.Ai
open Go Go.RowKit
theorem vInts_c (v w:Value)(xs:List Int)(H:AH)(hr:Row 3 H v xs)(hs:Row 3 H w xs)(hl:xs.length<=1000000):ACalls Tryz.prog 147 [v,w] H fun r H'=>r=.bool true/\H=H':=by
  refine in147 rfl ?_
  intro Q hQ
  have e0:¬ ¬ ((xs.length:Nat):Int)=((xs.length:Nat):Int):=fun h=>h rfl
  simp (disch:=omega) only [cd147,hr.len Tryz.underlying27,hs.len Tryz.underlying27,decide_eq_false e0,SS,eq_self,reduceIte,reduceCtorEq,Nat.reduceEqDiff,Nat.reduceAdd]
  refine LoopH.by (fun m s H'=>∃ (i:Nat),m+i=xs.length/\s 0=v/\s 1=w/\s 5=.int .i64 ((i:Nat):Int)/\H=H') xs.length ?_ ?_
  . exact ⟨0,by simp,rfl,rfl,rfl,rfl⟩
  rintro m s H' ⟨i,hm,h0,h1,h5,rfl⟩
  simp (disch:=omega) only [h0,h1,h5,hr.len Tryz.underlying27,SS,eq_self,reduceIte,reduceCtorEq,Nat.reduceEqDiff,Nat.reduceAdd]
  refine brD.intro (fun g=>?_) (fun g=>?_)
  . have hi:i<xs.length:=by omega
    have c1:=hr.cell hi
    have c2:=hs.cell hi
    have e1:¬ ¬ xs.getD i 0=xs.getD i 0:=fun h=>h rfl
    simp (disch:=omega) only [h0,h1,h5,hr.ix Tryz.underlying27 cs3,hs.ix Tryz.underlying27 cs3,Int.toNat_natCast,c1,c2,decide_eq_false e1,wrap64,SS,eq_self,reduceIte,reduceCtorEq,Nat.reduceEqDiff,Nat.reduceAdd]
    refine ⟨m - 1,by omega,i+1,?_⟩
    (repeat' first | exact rfl | apply And.intro) <;> first | (simp only [Value.int.injEq,true_and];omega) | omega | rfl | assumption | (simp;done) | (simp;omega)
  . simp (disch:=omega) only [SS,eq_self,reduceIte,reduceCtorEq,Nat.reduceEqDiff,Nat.reduceAdd]
    refine hQ _ _ _ ?_
    simp (disch:=omega) only [SS,eq_self,reduceIte,reduceCtorEq,Nat.reduceEqDiff,Nat.reduceAdd]
theorem vTable_c {b1 b2:Nat}(v w:Value)(ls:List (List Int))(H:AH)(hr:RowLB b1 27 3 H v ls)(hs:RowLB b2 27 3 H w ls)(hl:ls.length<=1000000)(hll:∀ l ∈ ls,l.length<=1000000):ACalls Tryz.prog 59 [v,w] H fun r H'=>r=.bool true/\H=H':=by
  obtain ⟨us,r1,_,r2,r3⟩:=hr
  obtain ⟨ws,s1,_,s2,s3⟩:=hs
  refine in59 rfl ?_
  intro Q hQ
  have e0:¬ ¬ ((us.length:Nat):Int)=((ws.length:Nat):Int):=fun h=>h (by omega)
  simp (disch:=omega) only [cd59,r1.len Tryz.underlying36,s1.len Tryz.underlying36,decide_eq_false e0,SS,eq_self,reduceIte,reduceCtorEq,Nat.reduceEqDiff,Nat.reduceAdd]
  refine LoopH.by (fun m s H'=>∃ (i:Nat),m+i=ls.length/\s 0=v/\s 1=w/\s 5=.int .i64 ((i:Nat):Int)/\H=H') ls.length ?_ ?_
  . exact ⟨0,by simp,rfl,rfl,rfl,rfl⟩
  rintro m s H' ⟨i,hm,h0,h1,h5,rfl⟩
  simp (disch:=omega) only [h0,h1,h5,r1.len Tryz.underlying36,SS,eq_self,reduceIte,reduceCtorEq,Nat.reduceEqDiff,Nat.reduceAdd]
  refine brD.intro (fun g=>?_) (fun g=>?_)
  . have hi:i<ls.length:=by omega
    have c1:=r1.cell (show i<us.length by omega)
    have c2:=s1.cell (show i<ws.length by omega)
    simp (disch:=omega) only [h0,h1,h5,r1.ix Tryz.underlying36 cs27,s1.ix Tryz.underlying36 cs27,Int.toNat_natCast,c1,c2,SS,eq_self,reduceIte,reduceCtorEq,Nat.reduceEqDiff,Nat.reduceAdd]
    refine CallH.by (vInts_c _ _ (ls.getD i []) H (r3 i hi).1 (s3 i hi).1 (hll _ (by simp [hi]))) ?_
    rintro _ _ ⟨rfl,rfl⟩
    simp (disch:=omega) only [h0,h1,h5,wrap64,SS,eq_self,reduceIte,reduceCtorEq,Nat.reduceEqDiff,Nat.reduceAdd]
    refine ⟨m - 1,by omega,i+1,?_⟩
    (repeat' first | exact rfl | apply And.intro) <;> first | (simp only [Value.int.injEq,true_and];omega) | omega | rfl | assumption | (simp;done) | (simp;omega)
  . simp (disch:=omega) only [SS,eq_self,reduceIte,reduceCtorEq,Nat.reduceEqDiff,Nat.reduceAdd]
    refine hQ _ _ _ ?_
    simp (disch:=omega) only [SS,eq_self,reduceIte,reduceCtorEq,Nat.reduceEqDiff,Nat.reduceAdd]
theorem vPairs_c (v w:Value)(ps:List (Int × Int))(H:AH)(hr:RowP 47 H v ps)(hs:RowP 47 H w ps)(hl:ps.length<=1000000):ACalls Tryz.prog 18 [v,w] H fun r H'=>r=.bool true/\H=H':=by
  refine in18 rfl ?_
  intro Q hQ
  have e0:¬ ¬ ((ps.length:Nat):Int)=((ps.length:Nat):Int):=fun h=>h rfl
  simp (disch:=omega) only [cd18,hr.len Tryz.underlying24,hs.len Tryz.underlying24,decide_eq_false e0,SS,eq_self,reduceIte,reduceCtorEq,Nat.reduceEqDiff,Nat.reduceAdd]
  refine LoopH.by (fun m s H'=>∃ (i:Nat),m+i=ps.length/\s 0=v/\s 1=w/\s 5=.int .i64 ((i:Nat):Int)/\H=H') ps.length ?_ ?_
  . exact ⟨0,by simp,rfl,rfl,rfl,rfl⟩
  rintro m s H' ⟨i,hm,h0,h1,h5,rfl⟩
  simp (disch:=omega) only [h0,h1,h5,hr.len Tryz.underlying24,SS,eq_self,reduceIte,reduceCtorEq,Nat.reduceEqDiff,Nat.reduceAdd]
  refine brD.intro (fun g=>?_) (fun g=>?_)
  . have hi:i<ps.length:=by omega
    have c1:=hr.ld ag47 cs47 hi
    have c2:=hs.ld ag47 cs47 hi
    have e1:∀ a b:Int,binA Tryz.prog .neq 47 (.agg (List.toArray [.int .i64 a,.int .i64 b])) (.agg (List.toArray [.int .i64 a,.int .i64 b]))=some (.bool false):=by
      intro a b
      have h:binA Tryz.prog .neq 47 (.agg (List.toArray [.int .i64 a,.int .i64 b])) (.agg (List.toArray [.int .i64 a,.int .i64 b]))=some (.bool (!(a == a && b == b))):=by kernel_rfl
      rw [h];simp
    simp (disch:=omega) only [h0,h1,h5,hr.ix Tryz.underlying24 cs47,hs.ix Tryz.underlying24 cs47,Int.toNat_natCast,c1,c2,e1,wrap64,SS,eq_self,reduceIte,reduceCtorEq,Nat.reduceEqDiff,Nat.reduceAdd]
    refine ⟨m - 1,by omega,i+1,?_⟩
    (repeat' first | exact rfl | apply And.intro) <;> first | (simp only [Value.int.injEq,true_and];omega) | omega | rfl | assumption | (simp;done) | (simp;omega)
  . simp (disch:=omega) only [SS,eq_self,reduceIte,reduceCtorEq,Nat.reduceEqDiff,Nat.reduceAdd]
    refine hQ _ _ _ ?_
    simp (disch:=omega) only [SS,eq_self,reduceIte,reduceCtorEq,Nat.reduceEqDiff,Nat.reduceAdd]
def cd81:Cd:=(.seq (.reg [⟨⟨some 4,.alloc 38,none⟩,[]⟩]) (.seq (.reg [⟨⟨some 10,.move (.tmp 0),none⟩,[]⟩,⟨⟨some 11,.build 38 #[(0,.tmp 10)],none⟩,[]⟩,⟨⟨some 5,.alloc 38,none⟩,[]⟩,⟨⟨none,.store 38 (.tmp 5) (.tmp 11),none⟩,[]⟩]) (.seq (.reg [⟨⟨some 12,.fieldAddr 38 (.tmp 5) 0,none⟩,[]⟩,⟨⟨some 13,.load 36 (.tmp 12),none⟩,[]⟩,⟨⟨some 14,.call ⟨(.value (.func 165)),#[.tmp 13,(.func 166)],#[36,136]⟩,none⟩,[]⟩]) (.seq (.seq (.reg [⟨⟨some 15,.fieldAddr 38 (.tmp 5) 0,none⟩,[]⟩,⟨⟨some 16,.load 36 (.tmp 15),none⟩,[]⟩,⟨⟨some 17,.call ⟨(.builtin .len),#[.tmp 16],#[36]⟩,none⟩,[]⟩,⟨⟨some 18,.move (.const (.int .i64 0)),none⟩,[]⟩]) (.block 0 (.loop (.seq (.reg [⟨⟨some 19,.binOp .lss 3 (.tmp 18) (.tmp 17) 3,none⟩,[]⟩]) (.seq (.cond (.tmp 19) .skip (.exit 0)) (.seq (.block 1 (.seq (.reg [⟨⟨some 20,.move (.tmp 18),none⟩,[]⟩,⟨⟨some 21,.indexAddr 36 (.tmp 16) (.tmp 18),none⟩,[]⟩,⟨⟨some 22,.load 27 (.tmp 21),none⟩,[]⟩,⟨⟨some 6,.assign (.tmp 20),none⟩,[]⟩,
 ⟨⟨some 7,.assign (.tmp 22),none⟩,[]⟩]) (.seq (.reg [⟨⟨some 23,.fieldAddr 38 (.tmp 5) 0,none⟩,[]⟩,⟨⟨some 24,.load 36 (.tmp 23),none⟩,[]⟩,⟨⟨some 25,.move (.tmp 6),none⟩,[]⟩,⟨⟨some 26,.binOp .add 3 (.tmp 25) (.const (.int .i64 1)) 3,none⟩,[]⟩,⟨⟨some 27,.slice 36 (.tmp 24) (some (.tmp 26)) none none,none⟩,[]⟩,⟨⟨some 28,.call ⟨(.builtin .len),#[.tmp 27],#[36]⟩,none⟩,[]⟩,⟨⟨some 29,.move (.const (.int .i64 0)),none⟩,[]⟩]) (.block 2 (.loop (.seq (.reg [⟨⟨some 30,.binOp .lss 3 (.tmp 29) (.tmp 28) 3,none⟩,[]⟩]) (.seq (.cond (.tmp 30) .skip (.exit 2)) (.seq (.block 3 (.seq (.reg [⟨⟨some 31,.move (.tmp 29),none⟩,[]⟩,⟨⟨some 32,.indexAddr 36 (.tmp 27) (.tmp 29),none⟩,[]⟩,⟨⟨some 33,.load 27 (.tmp 32),none⟩,[]⟩,⟨⟨some 8,.assign (.tmp 31),none⟩,[]⟩,⟨⟨some 9,.assign (.tmp 33),none⟩,[]⟩]) (.seq (.reg [⟨⟨some 34,.move (.tmp 1),none⟩,[]⟩,⟨⟨some 35,.move (.tmp 7),none⟩,[]⟩,
 ⟨⟨some 36,.move (.tmp 9),none⟩,[]⟩,⟨⟨some 37,.call ⟨(.value (.tmp 34)),#[.tmp 35,.tmp 36],#[27,27]⟩,none⟩,[]⟩]) (.cond (.tmp 37) (.reg [⟨⟨some 38,.fieldAddr 38 (.tmp 5) 1,none⟩,[]⟩,⟨⟨some 39,.load 24 (.tmp 38),none⟩,[]⟩,⟨⟨some 40,.move (.tmp 6),none⟩,[]⟩,⟨⟨some 41,.move (.tmp 6),none⟩,[]⟩,⟨⟨some 42,.binOp .add 3 (.tmp 41) (.const (.int .i64 1)) 3,none⟩,[]⟩,⟨⟨some 43,.move (.tmp 8),none⟩,[]⟩,⟨⟨some 44,.binOp .add 3 (.tmp 42) (.tmp 43) 3,none⟩,[]⟩,⟨⟨some 45,.build 47 #[(0,.tmp 40),(1,.tmp 44)],none⟩,[]⟩,⟨⟨some 46,.buildSlice 24 1 #[(0,.tmp 45)],none⟩,[]⟩,⟨⟨some 47,.call ⟨(.builtin .append),#[.tmp 39,.tmp 46],#[24,24]⟩,none⟩,[]⟩,⟨⟨some 48,.fieldAddr 38 (.tmp 5) 1,none⟩,[]⟩,
 ⟨⟨none,.store 24 (.tmp 48) (.tmp 47),none⟩,[]⟩]) .skip)))) (.reg [⟨⟨some 49,.binOp .add 3 (.tmp 29) (.const (.int .i64 1)) 3,none⟩,[]⟩,
  ⟨⟨some 29,.move (.tmp 49),none⟩,[]⟩]))))))))) (.reg [⟨⟨some 50,.binOp .add 3 (.tmp 18) (.const (.int .i64 1)) 3,none⟩,[]⟩,
  ⟨⟨some 18,.move (.tmp 50),none⟩,[]⟩]))))))) (.seq (.reg [⟨⟨some 51,.load 38 (.tmp 5),none⟩,[]⟩,
  ⟨⟨none,.store 38 (.tmp 4) (.tmp 51),none⟩,[]⟩]) .ret)))))
theorem in81:InT Tryz.prog 81 2 [.cell 4 38] cd81:=InT.mk (by kernel_rfl) [] Tryz.func81 rfl (by kernel_rfl) (by kernel_rfl) (of_decide_eq_true (by kernel_rfl)) (by kernel_rfl)
end Go.Proofs.YtjnefjchconebaaGreat.Ai
namespace Go.Proofs.YtjnefjchconebaaGreat.Ai
open Go Go.RowKit
theorem alloc_sp (H:AH):allocA Tryz.prog 38 H=some (.pointer (some ⟨H.length,0,none⟩),H ++ [.cells [.slice none 0 0,.slice none 0 0] 38 false]):=by kernel_rfl
theorem bld_sp1 (p:Option Addr)(n c:Nat):buildA Tryz.prog 38 [(0,.slice p n c)]=some (.agg (List.toArray [.slice p n c,.slice none 0 0])):=by kernel_rfl
theorem bld_sp2 (p q:Option Addr)(n c m d:Nat):buildA Tryz.prog 38 [(0,.slice p n c),(1,.slice q m d)]=some (.agg (List.toArray [.slice p n c,.slice q m d])):=by kernel_rfl
theorem bld_sp0:buildA Tryz.prog 38 []=some (.agg (List.toArray [.slice none 0 0,.slice none 0 0])):=by kernel_rfl
theorem st_ss {e:TypeId}{H:AH}{o:Nat}{vs:List Value}(ho:H[o]?=some (.cells vs e false))(hv:vs.length=2)(p q:Option Addr)(n c m d:Nat) :
    storeA Tryz.prog 38 (.pointer (some ⟨o,0,none⟩)) (.agg (List.toArray [.slice p n c,.slice q m d])) H=some (H.set o (.cells [.slice p n c,.slice q m d] e false)):=by
  simp only [storeA,ho,cs38]
  have hcl:(Value.agg (List.toArray [.slice p n c,.slice q m d])).cells.toList=[.slice p n c,.slice q m d]:=rfl
  rw [hcl,if_pos ⟨rfl,rfl,by decide,by rw [hv];exact Nat.le_refl 2⟩]
  have:putAt vs 0 [.slice p n c,.slice q m d]=[.slice p n c,.slice q m d]:=by
    unfold putAt
    rw [List.take_zero,List.nil_append,List.drop_of_length_le (by simp;omega),List.append_nil]
  rw [this]
theorem end_cell2 (P:Program)(a b:Nat)(t:TypeId)(R:Value->AH->Prop)(s:Sl)(H:AH)(v w:Value)(h:loadA P t (s a) H=some v)(ht:isTup v=false)(hb:s b=w)(hw:isTup w=false)(hr:R (.tuple (List.toArray [v,w])) H):endA P [.cell a t,.tmp b] R .ret s H:=by
  subst hb
  simp only [endA,resA,h,ht]
  simp [hw,outA]
  exact hr
def stpI (p:List Int->List Int->Bool)(ls:List (List Int))(i:Nat):Nat->List (Int × Int)
  | 0=>[]
  | k+1=>stpI p ls i k ++ if p (ls.getD i []) (ls.getD (i+1+k) [])=true then [((i:Int),((i+1+k:Nat):Int))] else []
def stpO (p:List Int->List Int->Bool)(ls:List (List Int)):Nat->List (Int × Int)
  | 0=>[]
  | i+1=>stpO p ls i ++ stpI p ls i (ls.length - (i+1))
theorem stpI_len (p:List Int->List Int->Bool)(ls:List (List Int))(i k:Nat):(stpI p ls i k).length<=k:=by
  induction k with
  | zero=>simp [stpI]
  | succ k ih=>simp only [stpI,List.length_append];split <;> simp <;> omega
theorem stpO_len (p:List Int->List Int->Bool)(ls:List (List Int))(i:Nat):(stpO p ls i).length<=i * ls.length:=by
  induction i with
  | zero=>simp [stpO]
  | succ i ih =>
    have:=stpI_len p ls i (ls.length - (i+1))
    simp only [stpO,List.length_append,Nat.add_mul,Nat.one_mul]
    omega
abbrev steps (p:List Int->List Int->Bool)(ls:List (List Int)):List (Int × Int):=stpO p ls ls.length
def StepFn (HB:AH)(fS:FuncId)(caps:List Value)(ls:List (List Int))(p:List Int->List Int->Bool):Prop :=
  ∀ (a b:Value) (x y:List Int) (H:AH),HB<+:H->Row 3 H a x->Row 3 H b y->x ∈ ls->y ∈ ls->ACalls Tryz.prog fS (a :: b :: caps) H fun r H'=>r=.bool (p x y)/\H<+:H'
theorem spaceOf_c {HB H:AH}{v:Value}{us:List Value}{ls:List (List Int)}(h:Sts H v us ls)(hls:ls.length<=1000)(fS:FuncId)(caps:List Value)(p:List Int->List Int->Bool)(hS:StepFn HB fS caps ls p)(hp:HB<+:H) :
    ACalls Tryz.prog 81 [v,.func (.func fS) #[] (List.toArray caps)] H fun r H'=>∃ st,r=.agg (List.toArray [v,st])/\MineP 47 H H' st (steps p ls)/\H<+:H':=by
  refine in81 rfl ?_
  intro Q hQ
  have hul:=h.len
  obtain ⟨pv,hpv⟩:=h.row.shape
  have hb1:=bld_sp1 pv us.length us.length
  rw [<- hpv] at hb1
  simp (disch:=omega) only [cd81,alloc_sp,hb1,SS,eq_self,reduceIte,reduceCtorEq,Nat.reduceEqDiff,Nat.reduceAdd]
  generalize hA:H ++ [AObj.cells [.slice none 0 0,.slice none 0 0] 38 false]=A
  have pA:H<+:A:=by rw [<- hA];exact List.prefix_append _ _
  have cA:A[H.length]?=some (.cells [.slice none 0 0,.slice none 0 0] 38 false):=by rw [<- hA];exact at_new ..
  have lA:A.length=H.length+1:=by rw [<- hA];simp
  have st1:=st_ss (at_new A (.cells [.slice none 0 0,.slice none 0 0] 38 false)) rfl pv none us.length us.length 0 0
  rw [set_new,<- hpv] at st1
  simp (disch:=omega) only [st1,cell_new,SS,eq_self,reduceIte,reduceCtorEq,Nat.reduceEqDiff,Nat.reduceAdd]
  generalize hB:A ++ [AObj.cells [v,.slice none 0 0] 38 false]=B
  have pB:A<+:B:=by rw [<- hB];exact List.prefix_append _ _
  have cB:B[A.length]?=some (.cells [v,.slice none 0 0] 38 false):=by rw [<- hB];exact at_new ..
  have lB:B.length=A.length+1:=by rw [<- hB];simp
  have pHB:=pA.trans pB
  refine CallH.by (SortFunc_c (h.pre pHB)) ?_
  rintro _ C pC
  have pHC:=pHB.trans pC
  have lC:=pC.length_le
  have cC:=pre_at pC cB
  have cC0:=pre_at (pB.trans pC) cA
  simp (disch:=omega) only [cell_of cC,h.row.len Tryz.underlying36,hul,SS,eq_self,reduceIte,reduceCtorEq,Nat.reduceEqDiff,Nat.reduceAdd]
  refine LoopH.by (fun m s H'=>∃ i st,m+i=ls.length/\s 1=.func (.func fS) #[] (List.toArray caps)/\s 4=.pointer (some ⟨H.length,0,none⟩)/\s 5=.pointer (some ⟨A.length,0,none⟩)/\s 16=v/\s 17=.int .i64 (ls.length:Int)/\s 18=.int .i64 ((i:Nat):Int)/\H'[A.length]?=some (.cells [v,st] 38 false)/\H'[H.length]?=some (.cells [.slice none 0 0,.slice none 0 0] 38 false)/\(st=.slice none 0 0∨B.length<=rowO st)/\MineP 47 H H' st (stpO p ls i)/\H<+:H') ls.length ?_ ?_
  . exact ⟨0,.slice none 0 0,by simp,rfl,rfl,rfl,rfl,rfl,rfl,cC,cC0,.inl rfl,.inl ⟨rfl,rfl⟩,pHC⟩
  rintro m s H' ⟨i,st,hm,s1,s4,s5,s16,s17,s18,hc5,hc4,hst,hmn,hpp⟩
  simp (disch:=omega) only [s1,s4,s5,s16,s17,s18,SS,eq_self,reduceIte,reduceCtorEq,Nat.reduceEqDiff,Nat.reduceAdd]
  refine brD.intro (fun g=>?_) (fun g=>?_)
  rotate_left
  . have hi:i=ls.length:=by omega
    subst hi
    have hst2:isTup st=false:=hmn.row.tup
    obtain ⟨q,hq⟩:=hmn.row.shape
    have hstA:=st_ss hc4 rfl pv q us.length us.length (stpO p ls ls.length).length (stpO p ls ls.length).length
    rw [<- hpv,<- hq] at hstA
    simp (disch:=omega) only [s4,s5,ld_agg ag38 cs38 hc5,hstA,SS,eq_self,reduceIte,reduceCtorEq,Nat.reduceEqDiff,Nat.reduceAdd]
    have d4:=at_set (d:=.cells [v,st] 38 false) hc4
    refine hQ _ _ _ (end_cell _ _ _ _ _ _ (.agg (List.toArray [v,st])) ?_ rfl ⟨st,rfl,?_,?_⟩)
    . simp (disch:=omega) only [s4,ld_agg ag38 cs38 d4,SS,eq_self,reduceIte,reduceCtorEq,Nat.reduceEqDiff,Nat.reduceAdd]
    . rcases hst with e | e
      . rcases hmn with hm0 | ⟨o,zs,q1,_⟩
        . exact .inl hm0
        . rw [e] at q1;cases q1
      . refine hmn.keepL ?_
        intro hl y hy
        rw [List.getElem?_set_ne (by omega)]
        exact hy
    . exact pre_set hpp (Nat.le_refl _) _
  have hi:i<ls.length:=by omega
  have hH':=h.pre hpp
  have hci:=hH'.cell hi
  have hri:=hH'.each i hi
  have hmi:ls.getD i [] ∈ ls:=by simp [hi]
  have hsl:=hH'.row.slice (P:=Tryz.prog) (t:=36) Tryz.underlying36 cs27 (bound_some (k:=.i64) (i:=(i:Int)+1) (by omega) 0) (hi_none us.length) (show ((i:Int)+1).toNat<=us.length by omega) (Nat.le_refl _)
  have hi1:((i:Int)+1).toNat=i+1:=by omega
  rw [hi1] at hsl
  obtain ⟨hsl1,hsl2,hsl3⟩:=hsl
  have hdl:(us.drop (i+1)).take (us.length - (i+1))=us.drop (i+1):=by rw [List.take_of_length_le (by simp)]
  rw [hdl] at hsl2
  have hdn:((us.drop (i+1)).length:Int)=((ls.length - (i+1):Nat):Int):=by simp;omega
  simp (disch:=omega) only [s1,s4,s5,s16,s17,s18,hH'.row.ix Tryz.underlying36 cs27,Int.toNat_natCast,hci,cell_of hc5,wrap64,hsl1,hsl2.len Tryz.underlying36,hdn,SS,eq_self,reduceIte,reduceCtorEq,Nat.reduceEqDiff,Nat.reduceAdd]
  refine LoopH.by (fun m' s' H''=>∃ j st',m'+j=ls.length - (i+1)/\s' 1=.func (.func fS) #[] (List.toArray caps)/\s' 4=.pointer (some ⟨H.length,0,none⟩)/\s' 5=.pointer (some ⟨A.length,0,none⟩)/\s' 6=.int .i64 ((i:Nat):Int)/\s' 7=us.getD i undef/\s' 16=v/\s' 17=.int .i64 (ls.length:Int)/\s' 18=.int .i64 ((i:Nat):Int)/\s' 27=subV v (i+1) us.length/\s' 28=.int .i64 ((ls.length - (i+1):Nat):Int)/\s' 29=.int .i64 ((j:Nat):Int)/\H''[A.length]?=some (.cells [v,st'] 38 false)/\H''[H.length]?=some (.cells [.slice none 0 0,.slice none 0 0] 38 false)/\(st'=.slice none 0 0∨B.length<=rowO st')/\MineP 47 H H'' st' (stpO p ls i ++ stpI p ls i j)/\H<+:H'') (ls.length - (i+1)) ?_ ?_
  . refine ⟨0,st,by simp,?_⟩
    simp only [SS,eq_self,reduceIte,reduceCtorEq,Nat.reduceEqDiff,Nat.reduceAdd,s1,s4,s5,s16,s17,s18]
    have f0:MineP 47 H H' st (stpO p ls i ++ stpI p ls i 0):=by rw [stpI,List.append_nil];exact hmn
    (repeat' first | exact hc5 | exact hc4 | exact hst | exact f0 | exact hpp | apply And.intro) <;> first | (simp only [Value.int.injEq,true_and];omega) | omega | rfl | assumption | (simp;done) | (simp;omega)
  . rintro m' s' H'' ⟨j,st',hm',g1,g4,g5,g6,g7,g16,g17,g18,g27,g28,g29,hc5',hc4',hst',hmn',hpp'⟩
    simp (disch:=omega) only [g1,g4,g5,g6,g7,g16,g17,g18,g27,g28,g29,SS,eq_self,reduceIte,reduceCtorEq,Nat.reduceEqDiff,Nat.reduceAdd]
    refine brD.intro (fun q=>?_) (fun q=>?_)
    . have hj:i+1+j<ls.length:=by omega
      have hH2:=h.pre hpp'
      have hsl':=hH2.row.slice (P:=Tryz.prog) (t:=36) Tryz.underlying36 cs27 (bound_some (k:=.i64) (i:=(i:Int)+1) (by omega) 0) (hi_none us.length) (show ((i:Int)+1).toNat<=us.length by omega) (Nat.le_refl _)
      rw [hi1,hdl] at hsl'
      obtain ⟨_,hsr,_⟩:=hsl'
      have hjd:j<(us.drop (i+1)).length:=by simp;omega
      have hcj:=hsr.cell hjd
      have hdd:(us.drop (i+1)).getD j undef=us.getD (i+1+j) undef:=by
        rw [List.getD_eq_getElem?_getD,List.getD_eq_getElem?_getD,List.getElem?_drop]
      rw [hdd] at hcj
      have hmj:ls.getD (i+1+j) [] ∈ ls:=by simp [hj]
      simp (disch:=omega) only [g1,g4,g5,g6,g7,g16,g17,g18,g27,g28,g29,hsr.ix Tryz.underlying36 cs27,Int.toNat_natCast,hcj,SS,eq_self,reduceIte,reduceCtorEq,Nat.reduceEqDiff,Nat.reduceAdd]
      refine CallH.by (hS _ _ _ _ H'' (hp.trans hpp') (hH2.each i hi) (hH2.each (i+1+j) hj) hmi hmj) ?_
      rintro _ D ⟨rfl,pD⟩
      have hcD5:=pre_at pD hc5'
      have hcD4:=pre_at pD hc4'
      have hpD:=hpp'.trans pD
      have hmD:=hmn'.pre pD
      have hsl1:=stpO_len p ls i
      have hsl2:=stpI_len p ls i j
      have hmul:i * ls.length<=1000 * 1000:=Nat.mul_le_mul (by omega) hls
      have lD:=hpD.length_le
      have l5:=at_lt hc5'
      simp (disch:=omega) only [SS,eq_self,reduceIte,reduceCtorEq,Nat.reduceEqDiff,Nat.reduceAdd]
      refine brH.intro (fun e=>?_) (fun e=>?_)
      . have hstep:stpI p ls i (j+1)=stpI p ls i j ++ [((i:Int),((i+1+j:Nat):Int))]:=by rw [stpI,if_pos e]
        obtain ⟨st2,H3,k1,k2,k3,k4,k5,k6⟩:=own1_24 hmD hpD (by rw [List.length_append];omega) (i:Int) ((i+1+j:Nat):Int)
        have hne:st'=.slice none 0 0∨∀ o,o<B.length->o ≠ rowO st':=hst'.imp id fun q o ho=>by omega
        have d5:H3[A.length]?=some (.cells [v,st'] 38 false):=k4 _ _ (hne.imp id fun q=>q _ (by omega)) hcD5
        have d4:H3[H.length]?=some (.cells [.slice none 0 0,.slice none 0 0] 38 false):=k4 _ _ (hne.imp id fun q=>q _ (by omega)) hcD4
        obtain ⟨q2,hq2⟩:=k2.row.shape
        have t1:isTup st2=false:=k6
        have t2:st2.cells.toList=[st2]:=by rw [hq2];rfl
        have hst3:=st_at (P:=Tryz.prog) (t:=24) (i:=1) (y:=st2) cs24 d5 (by show 1<2;decide) t1 t2
        have hidx:(i:Int)+1+(j:Int)=((i+1+j:Nat):Int):=by omega
        have lDB:B.length<=D.length:=by have:=hpp'.length_le;have:=pD.length_le;omega
        simp (disch:=omega) only [e,g1,g4,g5,g6,g7,g16,g17,g18,g27,g28,g29,cell_of hcD5,build_a2,wrap64,hidx,k1,hst3,SS,eq_self,reduceIte,reduceCtorEq,Nat.reduceEqDiff,Nat.reduceAdd]
        have f5:(H3.set A.length (.cells ([v,st'].set 1 st2) 38 false))[A.length]?=some (.cells [v,st2] 38 false):=by
          rw [List.getElem?_set_self (at_lt d5)];rfl
        have f4:(H3.set A.length (.cells ([v,st'].set 1 st2) 38 false))[H.length]?=some (.cells [.slice none 0 0,.slice none 0 0] 38 false):=by
          rw [List.getElem?_set_ne (by omega)];exact d4
        have fs':st2=.slice none 0 0∨B.length<=rowO st2:=.inr (by omega)
        have fm:MineP 47 H (H3.set A.length (.cells ([v,st'].set 1 st2) 38 false)) st2 (stpO p ls i ++ stpI p ls i (j+1)):=by
          rw [hstep,<- List.append_assoc]
          exact k2.keepL fun hl y hy=>by rw [List.getElem?_set_ne (by omega)];exact hy
        have fp:H<+:H3.set A.length (.cells ([v,st'].set 1 st2) 38 false):=pre_set k3 (by omega) _
        refine ⟨m' - 1,by omega,j+1,st2,?_⟩
        (repeat' first | exact f5 | exact f4 | exact fs' | exact fm | exact fp | apply And.intro) <;> first | (simp only [Value.int.injEq,true_and];omega) | omega | rfl | assumption | (simp;done) | (simp;omega)
      . have hstep:stpI p ls i (j+1)=stpI p ls i j:=by rw [stpI,if_neg (by rw [e];decide),List.append_nil]
        rw [<- hstep] at hmD
        simp (disch:=omega) only [e,g1,g4,g5,g6,g7,g16,g17,g18,g27,g28,g29,wrap64,SS,eq_self,reduceIte,reduceCtorEq,Nat.reduceEqDiff,Nat.reduceAdd]
        refine ⟨m' - 1,by omega,j+1,st',?_⟩
        (repeat' first | exact hcD5 | exact hcD4 | exact hst' | exact hmD | exact hpD | apply And.intro) <;> first | (simp only [Value.int.injEq,true_and];omega) | omega | rfl | assumption | (simp;done) | (simp;omega)
    . have hjj:j=ls.length - (i+1):=by omega
      subst hjj
      have hstO:stpO p ls (i+1)=stpO p ls i ++ stpI p ls i (ls.length - (i+1)):=rfl
      rw [<- hstO] at hmn'
      simp (disch:=omega) only [g1,g4,g5,g6,g7,g16,g17,g18,g27,g28,g29,wrap64,SS,eq_self,reduceIte,reduceCtorEq,Nat.reduceEqDiff,Nat.reduceAdd]
      refine ⟨m - 1,by omega,i+1,st',?_⟩
      (repeat' first | exact hc5' | exact hc4' | exact hst' | exact hmn' | exact hpp' | apply And.intro) <;> first | (simp only [Value.int.injEq,true_and];omega) | omega | rfl | assumption | (simp;done) | (simp;omega)
def SpRow (H:AH)(a b:Value)(ls:List (List Int))(ps:List (Int × Int)):Prop:=(∃ bd,RowLB bd 27 3 H a ls)/\RowP 47 H b ps
def SpIn (lo hi:Nat)(H:AH)(a b:Value)(ls:List (List Int))(ps:List (Int × Int)):Prop:=∃ mid,lo<=mid/\mid<=hi/\InL lo mid 27 3 H a ls/\InP mid hi 47 H b ps
theorem SpIn.row {lo hi:Nat}{H:AH}{a b:Value}{ls:List (List Int)}{ps:List (Int × Int)}(h:SpIn lo hi H a b ls ps):SpRow H a b ls ps:=by
  obtain ⟨mid,h1,h2,h3,h4⟩:=h
  exact ⟨⟨_,h3.row⟩,h4.row.1⟩
theorem SpIn.pre {lo hi:Nat}{H H':AH}{a b:Value}{ls:List (List Int)}{ps:List (Int × Int)}(h:SpIn lo hi H a b ls ps)(hp:H<+:H'):SpIn lo hi H' a b ls ps:=by
  obtain ⟨mid,h1,h2,h3,h4⟩:=h
  exact ⟨mid,h1,h2,h3.pre hp,h4.pre hp⟩
theorem SpIn.keep {lo hi lo' hi':Nat}{H H':AH}{a b:Value}{ls:List (List Int)}{ps:List (Int × Int)}(h:SpIn lo hi H a b ls ps)(he:ElseR lo' hi' H H')(hl:hi<=lo'∨hi'<=lo):SpIn lo hi H' a b ls ps:=by
  obtain ⟨mid,h1,h2,h3,h4⟩:=h
  exact ⟨mid,h1,h2,h3.keep he (by omega),h4.keep he (by omega)⟩
theorem SpRow.pre {H H':AH}{a b:Value}{ls:List (List Int)}{ps:List (Int × Int)}(h:SpRow H a b ls ps)(hp:H<+:H'):SpRow H' a b ls ps:=⟨h.1.imp fun _ q=>q.pre hp,h.2.pre hp⟩
theorem SpRow.shape {H:AH}{a b:Value}{ls:List (List Int)}{ps:List (Int × Int)}(h:SpRow H a b ls ps):(∃ p n c,a=.slice p n c)/\∃ p n c,b=.slice p n c:=by
  obtain ⟨⟨bd,us,h1,_⟩,h2⟩:=h
  obtain ⟨p,e⟩:=h1.shape
  obtain ⟨q,e2⟩:=h2.shape
  exact ⟨⟨_,_,_,e⟩,⟨_,_,_,e2⟩⟩
theorem SpRow.box {H G:AH}{a b:Value}{ls:List (List Int)}{ps:List (Int × Int)}(h:SpRow G a b ls ps):boxA Tryz.prog 38 (.agg (List.toArray [a,b])) H=some (.pointer (some ⟨H.length,0,none⟩),H ++ [.cells [a,b] 38 false]):=by
  obtain ⟨⟨p,n,c,rfl⟩,⟨q,m,d,rfl⟩⟩:=h.shape
  kernel_rfl
theorem SpRow.store {e:TypeId}{H G:AH}{o:Nat}{vs:List Value}{a b:Value}{ls:List (List Int)}{ps:List (Int × Int)}(h:SpRow G a b ls ps)(ho:H[o]?=some (.cells vs e false))(hv:vs.length=2) :
    storeA Tryz.prog 38 (.pointer (some ⟨o,0,none⟩)) (.agg (List.toArray [a,b])) H=some (H.set o (.cells [a,b] e false)):=by
  obtain ⟨⟨p,n,c,rfl⟩,⟨q,m,d,rfl⟩⟩:=h.shape
  exact st_ss ho hv p q n c m d
def cd22:Cd:=(.seq (.reg [⟨⟨some 3,.box 26 (.tmp 0),none⟩,[]⟩,⟨⟨some 6,.assign (.const (.bool false)),none⟩,[]⟩]) (.seq (.seq (.reg [⟨⟨some 7,.assign (.const (.int .i64 0)),none⟩,[]⟩]) (.block 0 (.loop (.seq (.seq (.reg [⟨⟨some 8,.move (.tmp 7),none⟩,[]⟩,⟨⟨some 9,.fieldAddr 26 (.tmp 3) 1,none⟩,[]⟩,⟨⟨some 10,.load 24 (.tmp 9),none⟩,[]⟩,⟨⟨some 11,.call ⟨(.builtin .len),#[.tmp 10],#[24]⟩,none⟩,[]⟩,⟨⟨some 12,.binOp .lss 3 (.tmp 8) (.tmp 11) 3,none⟩,[]⟩]) (.cond (.tmp 12) .skip (.exit 0))) (.seq (.block 1 (.seq (.reg [⟨⟨some 15,.fieldAddr 26 (.tmp 3) 1,none⟩,[]⟩,⟨⟨some 16,.load 24 (.tmp 15),none⟩,[]⟩,⟨⟨some 17,.move (.tmp 7),none⟩,[]⟩,⟨⟨some 18,.indexAddr 24 (.tmp 16) (.tmp 17),none⟩,[]⟩,⟨⟨some 19,.load 47 (.tmp 18),none⟩,[]⟩,⟨⟨some 20,.move (.tmp 1),none⟩,[]⟩,⟨⟨some 21,.move (.tmp 2),none⟩,[]⟩,
 ⟨⟨some 22,.build 47 #[(0,.tmp 20),(1,.tmp 21)],none⟩,[]⟩,⟨⟨some 23,.binOp .eql 47 (.tmp 19) (.tmp 22) 47,none⟩,[]⟩,⟨⟨some 24,.move (.tmp 23),none⟩,[]⟩,⟨⟨some 25,.fieldAddr 26 (.tmp 3) 1,some (24,false)⟩,[]⟩,⟨⟨some 26,.load 24 (.tmp 25),some (24,false)⟩,[]⟩,⟨⟨some 27,.move (.tmp 7),some (24,false)⟩,[]⟩,⟨⟨some 28,.indexAddr 24 (.tmp 26) (.tmp 27),some (24,false)⟩,[]⟩,⟨⟨some 29,.load 47 (.tmp 28),some (24,false)⟩,[]⟩,⟨⟨some 30,.move (.tmp 2),some (24,false)⟩,[]⟩,⟨⟨some 31,.move (.tmp 1),some (24,false)⟩,[]⟩,⟨⟨some 32,.build 47 #[(0,.tmp 30),(1,.tmp 31)],some (24,false)⟩,[]⟩,⟨⟨some 33,.binOp .eql 47 (.tmp 29) (.tmp 32) 47,some (24,false)⟩,[]⟩,
 ⟨⟨some 34,.pick (.tmp 24) (.const (.bool true)) (.tmp 33),none⟩,[]⟩]) (.cond (.tmp 34) (.seq (.reg [⟨⟨some 6,.assign (.const (.bool true)),none⟩,[]⟩]) .ret) .skip))) (.reg [⟨⟨some 13,.move (.tmp 7),none⟩,[]⟩,
  ⟨⟨some 14,.binOp .add 3 (.tmp 13) (.const (.int .i64 1)) 3,none⟩,[]⟩,
  ⟨⟨some 7,.assign (.tmp 14),none⟩,[]⟩])))))) (.seq (.reg [⟨⟨some 6,.assign (.const (.bool false)),none⟩,[]⟩]) .ret)))
theorem in22:InT Tryz.prog 22 3 [.tmp 6] cd22:=InT.mk (by kernel_rfl) [] Tryz.func22 rfl (by kernel_rfl) (by kernel_rfl) (of_decide_eq_true (by kernel_rfl)) (by kernel_rfl)
def cd61:Cd:=(.seq (.reg [⟨⟨some 2,.alloc 26,none⟩,[]⟩,⟨⟨some 3,.assign (.const (.slice none 0 0)),none⟩,[]⟩]) (.seq (.reg [⟨⟨some 6,.move (.tmp 0),none⟩,[]⟩,⟨⟨some 7,.build 89 #[(0,.tmp 6)],none⟩,[]⟩,⟨⟨some 8,.box 89 (.tmp 7),none⟩,[]⟩,⟨⟨some 4,.assign (.tmp 8),none⟩,[]⟩]) (.seq (.reg [⟨⟨some 9,.move (.tmp 4),none⟩,[]⟩,⟨⟨some 10,.call ⟨(.value (.func 148)),#[.tmp 9],#[86]⟩,none⟩,[]⟩,⟨⟨some 5,.alloc 26,none⟩,[]⟩,⟨⟨none,.store 26 (.tmp 5) (.tmp 10),none⟩,[]⟩]) (.seq (.reg [⟨⟨some 11,.load 26 (.tmp 5),none⟩,[]⟩,⟨⟨some 12,.move (.tmp 4),none⟩,[]⟩,⟨⟨some 13,.fieldAddr 26 (.tmp 5) 0,none⟩,[]⟩,⟨⟨some 14,.load 3 (.tmp 13),none⟩,[]⟩,⟨⟨some 15,.call ⟨(.value (.func 105)),#[.tmp 14,(.const (.int .i64 8))],#[3,3]⟩,none⟩,[⟨some 11,.load 26 (.tmp 5),none⟩]⟩,
 ⟨⟨some 16,.call ⟨(.value (.func 149)),#[.tmp 12,.tmp 15],#[86,3]⟩,none⟩,[⟨some 11,.load 26 (.tmp 5),none⟩]⟩,
  ⟨⟨none,.store 26 (.tmp 2) (.tmp 11),none⟩,[]⟩,
  ⟨⟨some 3,.assign (.tmp 16),none⟩,[]⟩]) .ret))))
theorem in61:InT Tryz.prog 61 1 [.cell 2 26,.tmp 3] cd61:=InT.mk (by kernel_rfl) [(3,[(0,false),(1,false),(2,false),(3,false),(4,true),(5,true),(6,true),(7,false)])] Tryz.func61 rfl (by kernel_rfl) (by kernel_rfl) (of_decide_eq_true (by kernel_rfl)) (by kernel_rfl)
def cd7:Cd:=(.seq (.reg [⟨⟨some 2,.alloc 26,none⟩,[]⟩,
  ⟨⟨some 3,.assign (.const (.slice none 0 0)),none⟩,[]⟩]) (.seq (.reg [⟨⟨some 4,.move (.tmp 0),none⟩,[]⟩,
  ⟨⟨some 5,.call ⟨(.value (.func 61)),#[.tmp 4],#[22]⟩,none⟩,[]⟩,
  ⟨⟨some 6,.extract (.tmp 5) 0,none⟩,[]⟩,
  ⟨⟨some 7,.extract (.tmp 5) 1,none⟩,[]⟩,
  ⟨⟨none,.store 26 (.tmp 2) (.tmp 6),none⟩,[]⟩,
  ⟨⟨some 3,.assign (.tmp 7),none⟩,[]⟩]) .ret))
theorem in7:InT Tryz.prog 7 1 [.cell 2 26,.tmp 3] cd7:=InT.mk (by kernel_rfl) [] Tryz.func7 rfl (by kernel_rfl) (by kernel_rfl) (of_decide_eq_true (by kernel_rfl)) (by kernel_rfl)
def cd14:Cd:=(.seq (.reg [⟨⟨some 2,.alloc 26,none⟩,[]⟩]) (.seq (.reg [⟨⟨some 4,.move (.tmp 0),none⟩,[]⟩,
  ⟨⟨some 5,.build 89 #[(0,.tmp 4)],none⟩,[]⟩,
  ⟨⟨some 6,.box 89 (.tmp 5),none⟩,[]⟩,
  ⟨⟨some 3,.assign (.tmp 6),none⟩,[]⟩]) (.seq (.reg [⟨⟨some 7,.move (.tmp 3),none⟩,[]⟩,
  ⟨⟨some 8,.call ⟨(.value (.func 78)),#[.tmp 7],#[86]⟩,none⟩,[]⟩,
  ⟨⟨none,.store 26 (.tmp 2) (.tmp 8),none⟩,[]⟩]) .ret)))
theorem in14:InT Tryz.prog 14 1 [.cell 2 26] cd14:=InT.mk (by kernel_rfl) [] Tryz.func14 rfl (by kernel_rfl) (by kernel_rfl) (of_decide_eq_true (by kernel_rfl)) (by kernel_rfl)
def cd19:Cd:=(.seq (.reg [⟨⟨some 2,.box 38 (.tmp 0),none⟩,[]⟩,⟨⟨some 3,.box 38 (.tmp 1),none⟩,[]⟩,⟨⟨some 4,.assign (.const (.bool false)),none⟩,[]⟩]) (.seq (.reg [⟨⟨some 5,.fieldAddr 38 (.tmp 2) 0,none⟩,[]⟩,⟨⟨some 6,.load 36 (.tmp 5),none⟩,[]⟩,⟨⟨some 7,.fieldAddr 38 (.tmp 3) 0,none⟩,[]⟩,⟨⟨some 8,.load 36 (.tmp 7),none⟩,[]⟩,⟨⟨some 9,.call ⟨(.value (.func 59)),#[.tmp 6,.tmp 8],#[36,36]⟩,none⟩,[]⟩,⟨⟨some 10,.move (.tmp 9),none⟩,[]⟩,⟨⟨some 11,.fieldAddr 38 (.tmp 2) 1,some (10,true)⟩,[]⟩,⟨⟨some 12,.load 24 (.tmp 11),some (10,true)⟩,[]⟩,⟨⟨some 13,.fieldAddr 38 (.tmp 3) 1,some (10,true)⟩,[]⟩,⟨⟨some 14,.load 24 (.tmp 13),some (10,true)⟩,[]⟩,
 ⟨⟨some 15,.call ⟨(.value (.func 18)),#[.tmp 12,.tmp 14],#[24,24]⟩,some (10,true)⟩,[]⟩,
  ⟨⟨some 16,.pick (.tmp 10) (.tmp 15) (.const (.bool false)),none⟩,[]⟩,
  ⟨⟨some 4,.assign (.tmp 16),none⟩,[]⟩]) .ret))
theorem in19:InT Tryz.prog 19 2 [.tmp 4] cd19:=InT.mk (by kernel_rfl) [] Tryz.func19 rfl (by kernel_rfl) (by kernel_rfl) (of_decide_eq_true (by kernel_rfl)) (by kernel_rfl)
end Go.Proofs.YtjnefjchconebaaGreat.Ai
namespace Go.Proofs.YtjnefjchconebaaGreat.Ai
open Go Go.RowKit
theorem vNear_c (n:Int)(v:Value)(es:List (Int × Int))(a b:Int)(H:AH)(hr:RowP 47 H v es)(hlen:es.length<=1000000) :
    ACalls Tryz.prog 22 [.agg (List.toArray [.int .i64 n,v]),.int .i64 a,.int .i64 b] H fun r H'=>r=.bool (nearB es a b)/\H<+:H':=by
  refine in22 rfl ?_
  intro Q hQ
  simp (disch:=omega) only [cd22,hr.boxG,SS,eq_self,reduceIte,reduceCtorEq,Nat.reduceEqDiff,Nat.reduceAdd]
  generalize hA:H ++ [AObj.cells [.int .i64 n,v] 26 false]=A
  have pA:H<+:A:=by rw [<- hA];exact List.prefix_append _ _
  have cA:A[H.length]?=some (.cells [.int .i64 n,v] 26 false):=by rw [<- hA];exact at_new ..
  have rA:=hr.pre pA
  try simp (disch:=omega) only [SS,eq_self,reduceIte,reduceCtorEq,Nat.reduceEqDiff,Nat.reduceAdd]
  refine LoopH.by (fun m s H'=>∃ i:Nat,m+i=es.length/\s 1=.int .i64 a/\s 2=.int .i64 b/\s 3=.pointer (some ⟨H.length,0,none⟩)/\s 7=.int .i64 (i:Int)/\A=H'/\nearB es a b=(es.drop i).any (hitB a b)) es.length ?_ ?_
  . exact ⟨0,by simp,rfl,rfl,rfl,rfl,rfl,rfl⟩
  rintro m s _ ⟨i,hm,s1,s2,s3,s7,rfl,hn⟩
  simp (disch:=omega) only [s1,s2,s3,s7,cell_of cA,rA.len Tryz.underlying24,SS,eq_self,reduceIte,reduceCtorEq,Nat.reduceEqDiff,Nat.reduceAdd]
  refine brD.intro (fun g=>?_) (fun g=>?_)
  rotate_left
  . simp (disch:=omega) only [s1,s2,s3,s7,SS,eq_self,reduceIte,reduceCtorEq,Nat.reduceEqDiff,Nat.reduceAdd]
    refine hQ _ _ _ ?_
    simp (disch:=omega) only [SS,eq_self,reduceIte,reduceCtorEq,Nat.reduceEqDiff,Nat.reduceAdd]
    rw [hn,List.drop_of_length_le (by omega)]
    exact ⟨rfl,pA⟩
  have hi:i<es.length:=by omega
  rw [any_step (hitB a b) es (0,0) i hi] at hn
  have hld:=rA.ld (P:=Tryz.prog) ag47 cs47 hi
  generalize es.getD i (0,0)=e at *
  obtain ⟨x,y⟩:=e
  simp only at hld
  simp (disch:=omega) only [s1,s2,s3,s7,cell_of cA,rA.ix Tryz.underlying24 cs47,Int.toNat_natCast,hld,build_a2,eq_a2,SS,eq_self,reduceIte,reduceCtorEq,Nat.reduceEqDiff,Nat.reduceAdd]
  by_cases c1:(x,y)=(a,b)
  . simp (disch:=omega) only [decide_eq_true c1,SS,eq_self,reduceIte,reduceCtorEq,Nat.reduceEqDiff,Nat.reduceAdd]
    refine hQ _ _ _ ?_
    simp (disch:=omega) only [SS,eq_self,reduceIte,reduceCtorEq,Nat.reduceEqDiff,Nat.reduceAdd]
    have:hitB a b (x,y)=true:=by
      unfold hitB
      simp only [Prod.mk.injEq] at c1
      exact decide_eq_true (.inl c1)
    rw [hn,this]
    exact ⟨rfl,pA⟩
  simp (disch:=omega) only [decide_eq_false c1,s1,s2,s3,s7,cell_of cA,rA.ix Tryz.underlying24 cs47,Int.toNat_natCast,hld,build_a2,eq_a2,SS,eq_self,reduceIte,reduceCtorEq,Nat.reduceEqDiff,Nat.reduceAdd]
  by_cases c2:(x,y)=(b,a)
  . simp (disch:=omega) only [decide_eq_true c2,SS,eq_self,reduceIte,reduceCtorEq,Nat.reduceEqDiff,Nat.reduceAdd]
    refine hQ _ _ _ ?_
    simp (disch:=omega) only [SS,eq_self,reduceIte,reduceCtorEq,Nat.reduceEqDiff,Nat.reduceAdd]
    have:hitB a b (x,y)=true:=by
      unfold hitB
      simp only [Prod.mk.injEq] at c2
      exact decide_eq_true (.inr c2)
    rw [hn,this]
    exact ⟨rfl,pA⟩
  have hf:hitB a b (x,y)=false:=by
    unfold hitB
    simp only [Prod.mk.injEq] at c1 c2
    exact decide_eq_false fun h=>h.elim c1 c2
  rw [hf,Bool.false_or] at hn
  simp (disch:=omega) only [decide_eq_false c2,s1,s2,s3,s7,wrap64,SS,eq_self,reduceIte,reduceCtorEq,Nat.reduceEqDiff,Nat.reduceAdd]
  refine ⟨m - 1,by omega,i+1,?_⟩
  (repeat' first | exact hn | apply And.intro) <;> first | (simp only [Value.int.injEq,true_and];omega) | omega | rfl | assumption | (simp;done) | (simp;omega)
theorem DrawTkD_c {H:AH}{v:Value}{us:List Value}(h:Byt H v us) :
    ACalls Tryz.prog 61 [v] H fun r H'=>∃ (n:Int) (w a:Value) (es:List (Int × Int)) (p:List Int),r=.tuple (List.toArray [.agg (List.toArray [.int .i64 n,w]),a])/\RowP 47 H' w es/\es.length<=200/\I64 n/\Sml es/\Row 3 H' a p/\LsOk p/\H<+:H':=by
  obtain ⟨pv,ev⟩:=h.row.shape
  refine in61 rfl ?_
  intro Q hQ
  have b1:=bld_cur pv us.length us.length
  have b2:=fun H=>box_cur pv us.length us.length H
  rw [<- ev] at b1 b2
  generalize hA:H ++ [AObj.cells [.int .i64 0,.slice none 0 0] 26 false]=A
  have pA:H<+:A:=by rw [<- hA];exact List.prefix_append _ _
  have cA:A[H.length]?=some (.cells [.int .i64 0,.slice none 0 0] 26 false):=by rw [<- hA];exact at_new ..
  have lA:A.length=H.length+1:=by rw [<- hA];simp
  have al:=alloc_G H
  rw [hA] at al
  rw [cd61]
  refine cutC (fun s K=>A=K/\s 0=v/\s 2=.pointer (some ⟨H.length,0,none⟩)) (fun c hc=>?_) ?_
  . simp (disch:=omega) only [al,SS,eq_self,reduceIte,reduceCtorEq,Nat.reduceEqDiff,Nat.reduceAdd]
    exact hc _ _ ⟨rfl,rfl,rfl⟩
  rintro s _ ⟨rfl,s0,s2⟩
  refine cutC (fun s K=>s 2=.pointer (some ⟨H.length,0,none⟩)/\s 4=.pointer (some ⟨A.length,0,none⟩)/\Cur K A.length v us 0/\A<+:K) (fun c hc=>?_) ?_
  . simp (disch:=omega) only [s0,s2,b1,b2,SS,eq_self,reduceIte,reduceCtorEq,Nat.reduceEqDiff,Nat.reduceAdd]
    exact hc _ _ ⟨s2,rfl,(h.pre pA).cur,List.prefix_append _ _⟩
  clear s0 s2 s
  rintro s B ⟨s2,s5,hC,pB⟩
  have cB:=pre_at pB cA
  have lB:A.length<B.length:=by
    obtain ⟨_,_,g,_⟩:=hC.cur
    exact at_lt g
  refine cutC (fun s K=>∃ (gp:Nat) (n:Int) (w:Value) (es:List (Int × Int)),s 2=.pointer (some ⟨H.length,0,none⟩)/\s 4=.pointer (some ⟨A.length,0,none⟩)/\s 5=.pointer (some ⟨gp,0,none⟩)/\I64 n/\es.length<=200/\Sml es/\SlSt H A.length gp n w es (.slice none 0 0) [] v us 1020 K) (fun c hc=>?_) ?_
  . simp (disch:=omega) only [s2,s5,SS,eq_self,reduceIte,reduceCtorEq,Nat.reduceEqDiff,Nat.reduceAdd]
    refine CallH.by (special9_c hC (by omega)) ?_
    rintro _ C ⟨n,w,es,rfl,hm,hn,hl,hs,hCC,kC⟩
    have cC:=kC.2 _ _ (by omega) cB
    have lC:=kC.1
    have hwo:w=.slice none 0 0∨B.length<=rowO w:=hm.low
    have st1:=st_G hm.row (at_new C (.cells [.int .i64 0,.slice none 0 0] 26 false)) rfl n
    rw [set_new] at st1
    simp (disch:=omega) only [s2,s5,alloc_G,st1,SS,eq_self,reduceIte,reduceCtorEq,Nat.reduceEqDiff,Nat.reduceAdd]
    have pD:C<+:C ++ [AObj.cells [.int .i64 n,w] 26 false]:=List.prefix_append _ _
    refine hc _ _ ⟨C.length,n,w,es,s2,s5,rfl,hn,hl,hs,lA,pre_at pD cC,at_new ..,by omega,hm.row.pre pD,hwo.imp id fun q=>by omega,.inl ⟨rfl,rfl⟩,.inl rfl,(hCC.pre pD).more (by omega),?_⟩
    exact prefix_of fun j y hy=>pre_at pD (kC.2 j y (by have:=at_lt hy;omega) (pre_at (pA.trans pB) hy))
  clear s2 s5 s cB lB hC pB B
  rintro s B ⟨gp,n,w,es,s2,s5,s6,hn,hl,hs,hD⟩
  simp (disch:=omega) only [s2,s5,s6,ld_agg ag26 cs26 hD.cg,cell_of hD.cg,SS,eq_self,reduceIte,reduceCtorEq,Nat.reduceEqDiff,Nat.reduceAdd]
  refine CallH.by (l1Least_c n 8 B) ?_
  rintro _ _ ⟨rfl,rfl⟩
  simp (disch:=omega) only [s2,s5,s6,ld_agg ag26 cs26 hD.cg,cell_of hD.cg,SS,eq_self,reduceIte,reduceCtorEq,Nat.reduceEqDiff,Nat.reduceAdd]
  refine CallH.by (perm9_c hD.cr (by omega) _ (lstL n)) ?_
  rintro a C ⟨p,hp,hpl,hpr,hC,kC⟩
  have ht:=hp.row.tup
  have hE:=hD.keeps kC hC
  have lp:a=.slice none 0 0∨H.length+2<=rowO a:=by
    rcases hp with z | ⟨o,z,z2,_⟩
    . exact .inl z.1
    . right
      rw [z]
      have:=at_lt hD.cg
      have:=hD.gp2
      show H.length+2<=o
      omega
  obtain ⟨d1,d2,_,d4,d5⟩:=hE.fin hp.row lp
  have hst:=st_G hE.rw_ hE.c0 rfl n
  simp (disch:=omega) only [s2,s5,s6,ht,ld_agg ag26 cs26 hE.cg,hst,SS,eq_self,reduceIte,reduceCtorEq,Nat.reduceEqDiff,Nat.reduceAdd]
  refine hQ _ _ _ (end_cell2 _ _ _ _ _ _ _ (.agg (List.toArray [.int .i64 n,w])) a ?_ rfl ?_ ht ⟨n,w,a,es,p,rfl,d2,hl,hn,hs,d4,p9_lok hpl.2 hpr,d5⟩)
  . simp (disch:=omega) only [s2,ld_agg ag26 cs26 d1,SS,eq_self,reduceIte,reduceCtorEq,Nat.reduceEqDiff,Nat.reduceAdd]
  . simp (disch:=omega) only [SS,eq_self,reduceIte,reduceCtorEq,Nat.reduceEqDiff,Nat.reduceAdd]
theorem DrawTkS_c {H:AH}{v:Value}{us:List Value}(h:Byt H v us) :
    ACalls Tryz.prog 7 [v] H fun r H'=>∃ (n:Int) (w a:Value) (es:List (Int × Int)) (p:List Int),r=.tuple (List.toArray [.agg (List.toArray [.int .i64 n,w]),a])/\RowP 47 H' w es/\es.length<=200/\I64 n/\Sml es/\Row 3 H' a p/\LsOk p/\H<+:H':=by
  refine in7 rfl ?_
  intro Q hQ
  have pA:H<+:H ++ [AObj.cells [.int .i64 0,.slice none 0 0] 26 false]:=List.prefix_append _ _
  have cA:=at_new H (.cells [.int .i64 0,.slice none 0 0] 26 false)
  simp (disch:=omega) only [cd7,alloc_G,SS,eq_self,reduceIte,reduceCtorEq,Nat.reduceEqDiff,Nat.reduceAdd]
  refine CallH.by (DrawTkD_c (h.pre pA)) ?_
  rintro _ K ⟨n,w,a,es,p,rfl,x1,x2,x3,x4,x5,x6,x9⟩
  have cK:=pre_at x9 cA
  have hk:Keeps H.length K (K.set H.length (.cells [.int .i64 n,w] 26 false)):=⟨by simp,fun j y hj hy=>by rw [List.getElem?_set_ne (fun e=>hj e.symm)];exact hy⟩
  have d1:=at_set (d:=.cells [.int .i64 n,w] 26 false) cK
  have hst:=st_G x1 cK rfl n
  have ta:=x5.tup
  simp (disch:=omega) only [hst,SS,eq_self,reduceIte,reduceCtorEq,Nat.reduceEqDiff,Nat.reduceAdd]
  refine hQ _ _ _ (end_cell2 _ _ _ _ _ _ _ (.agg (List.toArray [.int .i64 n,w])) a ?_ rfl ?_ ta ⟨n,w,a,es,p,rfl,rowP_keeps x1 (rowP_ne x1 cK) hk,x2,x3,x4,row_keeps x5 (row_ne x5 cK) hk,x6,prefix_of fun j y hy=>hk.2 j y (by have:=at_lt hy;omega) (pre_at x9 (pre_at pA hy))⟩)
  . simp (disch:=omega) only [ld_agg ag26 cs26 d1,SS,eq_self,reduceIte,reduceCtorEq,Nat.reduceEqDiff,Nat.reduceAdd]
  . simp (disch:=omega) only [ta,SS,eq_self,reduceIte,reduceCtorEq,Nat.reduceEqDiff,Nat.reduceAdd]
theorem DrawTkG_c {H:AH}{v:Value}{us:List Value}(h:Byt H v us) :
    ACalls Tryz.prog 14 [v] H fun r H'=>∃ (n:Int) (w:Value) (es:List (Int × Int)),r=.agg (List.toArray [.int .i64 n,w])/\RowP 47 H' w es/\es.length<=200/\I64 n/\Sml es/\H<+:H':=by
  obtain ⟨pv,ev⟩:=h.row.shape
  refine in14 rfl ?_
  intro Q hQ
  have b1:=bld_cur pv us.length us.length
  have b2:=fun H=>box_cur pv us.length us.length H
  rw [<- ev] at b1 b2
  generalize hA:H ++ [AObj.cells [.int .i64 0,.slice none 0 0] 26 false]=A
  have pA:H<+:A:=by rw [<- hA];exact List.prefix_append _ _
  have cA:A[H.length]?=some (.cells [.int .i64 0,.slice none 0 0] 26 false):=by rw [<- hA];exact at_new ..
  have lA:A.length=H.length+1:=by rw [<- hA];simp
  have al:=alloc_G H
  rw [hA] at al
  simp (disch:=omega) only [cd14,al,b1,b2,SS,eq_self,reduceIte,reduceCtorEq,Nat.reduceEqDiff,Nat.reduceAdd]
  generalize hB:A ++ [AObj.cells [v,.int .i64 0,.int .u64 0] 89 false]=B
  have pB:A<+:B:=by rw [<- hB];exact List.prefix_append _ _
  have lB:B.length=A.length+1:=by rw [<- hB];simp
  have hC:Cur B A.length v us 0:=by rw [<- hB];exact (h.pre pA).cur
  have cB:=pre_at pB cA
  refine CallH.by (small9_c hC (by omega)) ?_
  rintro _ C ⟨n,w,es,rfl,hm,hn,hl,hs,hCC,kC⟩
  have cC:=kC.2 _ _ (by omega) cB
  have hk:Keeps H.length C (C.set H.length (.cells [.int .i64 n,w] 26 false)):=⟨by simp,fun j y hj hy=>by rw [List.getElem?_set_ne (fun e=>hj e.symm)];exact hy⟩
  have d1:=at_set (d:=.cells [.int .i64 n,w] 26 false) cC
  have hst:=st_G hm.row cC rfl n
  simp (disch:=omega) only [hst,SS,eq_self,reduceIte,reduceCtorEq,Nat.reduceEqDiff,Nat.reduceAdd]
  refine hQ _ _ _ (end_cell _ _ _ _ _ _ (.agg (List.toArray [.int .i64 n,w])) ?_ rfl ⟨n,w,es,rfl,rowP_keeps hm.row (rowP_ne hm.row cC) hk,hl,hn,hs,prefix_of fun j y hy=>hk.2 j y (by have:=at_lt hy;omega) (kC.2 j y (by have:=at_lt hy;omega) (pre_at (pA.trans pB) hy))⟩)
  simp (disch:=omega) only [ld_agg ag26 cs26 d1,SS,eq_self,reduceIte,reduceCtorEq,Nat.reduceEqDiff,Nat.reduceAdd]
theorem vSpace_c {a b a' b':Value}{ls:List (List Int)}{ps:List (Int × Int)}{H:AH}(hr:SpRow H a b ls ps)(hs:SpRow H a' b' ls ps)(hl:ls.length<=1000000)(hll:∀ l ∈ ls,l.length<=1000000)(hp:ps.length<=1000000) :
    ACalls Tryz.prog 19 [.agg (List.toArray [a,b]),.agg (List.toArray [a',b'])] H fun r H'=>r=.bool true/\H<+:H':=by
  refine in19 rfl ?_
  intro Q hQ
  simp (disch:=omega) only [cd19,hr.box,hs.box,SS,eq_self,reduceIte,reduceCtorEq,Nat.reduceEqDiff,Nat.reduceAdd]
  generalize hA:H ++ [AObj.cells [a,b] 38 false]=A
  have pA:H<+:A:=by rw [<- hA];exact List.prefix_append _ _
  have cA:A[H.length]?=some (.cells [a,b] 38 false):=by rw [<- hA];exact at_new ..
  generalize hB:A ++ [AObj.cells [a',b'] 38 false]=B
  have pB:A<+:B:=by rw [<- hB];exact List.prefix_append _ _
  have cB:B[A.length]?=some (.cells [a',b'] 38 false):=by rw [<- hB];exact at_new ..
  have cA2:=pre_at pB cA
  have h1:=hr.pre (pA.trans pB)
  have h2:=hs.pre (pA.trans pB)
  obtain ⟨⟨bd1,r1⟩,r2⟩:=h1
  obtain ⟨⟨bd2,s1⟩,s2⟩:=h2
  simp (disch:=omega) only [cell_of cA2,cell_of cB,SS,eq_self,reduceIte,reduceCtorEq,Nat.reduceEqDiff,Nat.reduceAdd]
  refine CallH.by (vTable_c a a' ls B r1 s1 hl hll) ?_
  rintro _ _ ⟨rfl,rfl⟩
  simp (disch:=omega) only [cell_of cA2,cell_of cB,SS,eq_self,reduceIte,reduceCtorEq,Nat.reduceEqDiff,Nat.reduceAdd]
  refine CallH.by (vPairs_c b b' ps B r2 s2 hp) ?_
  rintro _ _ ⟨rfl,rfl⟩
  simp (disch:=omega) only [SS,eq_self,reduceIte,reduceCtorEq,Nat.reduceEqDiff,Nat.reduceAdd]
  refine hQ _ _ _ ?_
  simp (disch:=omega) only [SS,eq_self,reduceIte,reduceCtorEq,Nat.reduceEqDiff,Nat.reduceAdd]
  exact pA.trans pB
structure BdO (nx:List Int->List (List Int)) (st:List (List Int × Int)) (k:Nat):Prop where
  mono:∀ i j,i<=j->j<st.length->(st.getD i ([],0)).2<=(st.getD j ([],0)).2
  near:∀ j,k<st.length->j<st.length->(st.getD j ([],0)).2<=(st.getD k ([],0)).2+1
  ed:∀ j,j<k->∀ c ∈ nx (st.getD j ([],0)).1,∃ e ∈ st,e.1=c/\e.2<=(st.getD j ([],0)).2+1
theorem BdO.step {nx:List Int->List (List Int)}{st:List (List Int × Int)}{k:Nat}(h:BdO nx st k)(hk:k<st.length):BdO nx (bdIn ((st.getD k ([],0)).2+1) (nx (st.getD k ([],0)).1) st) (k+1):=by
  generalize hu:st.getD k ([],0)=u at *
  obtain ⟨t,ht⟩:=bdIn_pre (u.2+1) (nx u.1) st
  have hle:st.length<=(bdIn (u.2+1) (nx u.1) st).length:=by rw [<- ht];simp
  have keep:∀ j,j<st.length->(bdIn (u.2+1) (nx u.1) st).getD j ([],0)=st.getD j ([],0):=by
    intro j hj
    rw [<- ht,List.getD_eq_getElem?_getD,List.getElem?_append_left hj,<- List.getD_eq_getElem?_getD]
  have gm:∀ {l:List (List Int × Int)} {j:Nat},j<l.length->l.getD j ([],0) ∈ l:=fun {l j} hj=>by simp [hj]
  have new:∀ j,st.length<=j->j<(bdIn (u.2+1) (nx u.1) st).length->((bdIn (u.2+1) (nx u.1) st).getD j ([],0)).2=u.2+1:=by
    intro j h1 h2
    have e1:(bdIn (u.2+1) (nx u.1) st).getD j ([],0)=t.getD (j - st.length) ([],0):=by
      rw [<- ht,List.getD_eq_getElem?_getD,List.getElem?_append_right h1,<- List.getD_eq_getElem?_getD]
    have hjt:j - st.length<t.length:=by
      have:=congrArg List.length ht
      rw [List.length_append] at this
      omega
    have hmt:=gm (l:=t) hjt
    rw [<- e1] at hmt
    have key:∀ (l:List (List Int)) (s t:List (List Int × Int)),s ++ t=bdIn (u.2+1) l s->∀ e ∈ t,e.2=u.2+1:=by
      intro l
      induction l with
      | nil =>
        intro s t h e he
        have:t=[]:=by simpa [bdIn] using h
        rw [this] at he;simp at he
      | cons b r ih =>
        intro s t h e he
        simp only [bdIn] at h
        split at h
        . exact ih s t h e he
        . obtain ⟨q,hq⟩:=bdIn_pre (u.2+1) r (s ++ [(b,u.2+1)])
          rw [<- hq,List.append_assoc] at h
          have h':=List.append_cancel_left h
          rw [h'] at he
          rcases List.mem_append.1 he with g | g
          . rw [List.mem_singleton] at g;rw [g]
          . exact ih (s ++ [(b,u.2+1)]) q hq e g
    exact key _ st t ht _ hmt
  have nr:∀ j,j<st.length->(st.getD j ([],0)).2<=u.2+1:=fun j hj=>by have:=h.near j hk hj;rw [hu] at this;exact this
  have mono':∀ i j,i<=j->j<(bdIn (u.2+1) (nx u.1) st).length->((bdIn (u.2+1) (nx u.1) st).getD i ([],0)).2<=((bdIn (u.2+1) (nx u.1) st).getD j ([],0)).2:=by
    intro i j hij hj
    by_cases g1:j<st.length
    . rw [keep i (by omega),keep j g1];exact h.mono i j hij g1
    . rw [new j (by omega) hj]
      by_cases g2:i<st.length
      . rw [keep i g2];exact nr i g2
      . rw [new i (by omega) (by omega)];omega
  refine ⟨mono',fun j hk1 hj=>?_,fun j hj c hc=>?_⟩
  . have h1:=mono' k (k+1) (by omega) hk1
    rw [keep k hk,hu] at h1
    by_cases g1:j<st.length
    . rw [keep j g1];have:=nr j g1;omega
    . rw [new j (by omega) hj];omega
  . rw [keep j (by omega)] at hc ⊢
    by_cases e:j=k
    . subst e
      rw [hu] at hc ⊢
      obtain ⟨x,hx,hx2⟩:=List.mem_map.1 (bdIn_get (u.2+1) (nx u.1) st c hc)
      refine ⟨x,hx,hx2,?_⟩
      obtain ⟨i,hi,e1⟩:=List.mem_iff_getElem.1 hx
      have e2:(bdIn (u.2+1) (nx u.1) st).getD i ([],0)=x:=by simp [hi,e1]
      rw [<- e2]
      by_cases g1:i<st.length
      . rw [keep i g1];exact nr i g1
      . rw [new i (by omega) hi];omega
    . obtain ⟨x,hx,hx2,hx3⟩:=h.ed j (by omega) c hc
      exact ⟨x,by rw [<- ht];exact List.mem_append_left _ hx,hx2,hx3⟩
theorem BdO.zero (nx:List Int->List (List Int))(p:List Int):BdO nx [(p,0)] 0:=by
  refine ⟨fun i j hij hj=>?_,fun j _ hj=>?_,fun j hj=>absurd hj (Nat.not_lt_zero j)⟩
  . have hj':j<1:=hj
    have e1:i=0:=by omega
    have e2:j=0:=by omega
    rw [e1,e2];exact Int.le_refl _
  . have hj':j<1:=hj
    have e2:j=0:=by omega
    rw [e2];omega
theorem bdF_runO {n:Nat}(hn:n<=6){nx:List Int->List (List Int)}(hnx:∀ b,Bd n b->∀ c ∈ nx b,Bd n c){p:List Int}:∀ (f:Nat) (st:List (List Int × Int)) (k:Nat),mny n<f+k->BdI n nx p st k->BdO nx st k->BdO nx (bdF nx f st k) (bdF nx f st k).length
  | 0,st,k,hf,h,_=>by have:=h.len_le hn;have:=h.le;omega
  | f+1,st,k,hf,h,ho=>by
    simp only [bdF]
    split
    . rename_i hk
      exact bdF_runO hn hnx f _ _ (by omega) (h.step hnx hk) (ho.step hk)
    . have e:k=st.length:=by have:=h.le;omega
      rw [<- e];exact ho
theorem bdR_O {n:Nat}(hn:n<=6){es:List (Int × Int)}(hg:Grd (n:Int) es)(sl:Bool){p:List Int}(hp:Bd n p):BdO (nxt es sl) (bdR es sl p) (bdR es sl p).length :=
  bdF_runO hn (fun b hb=>nxt_bd hg sl hb) 721 _ 0 (by have:=mny_le hn;omega) (BdI.zero hp) (BdO.zero _ p)
theorem bdR_edge {n:Nat}(hn:n<=6){es:List (Int × Int)}(hg:Grd (n:Int) es)(sl:Bool){p b:List Int}(hp:Bd n p){d:Int}(hd:bdD (bdR es sl p) b=some d){c:List Int}(hc:c ∈ nxt es sl b) :
    ∃ x,bdD (bdR es sl p) c=some x/\0<=x/\x<=d+1:=by
  have hI:=bdR_I hn hg sl hp
  have hO:=bdR_O hn hg sl hp
  obtain ⟨j,hj,e⟩:=List.mem_iff_getElem.1 (bdD_mem hd)
  have e1:(bdR es sl p).getD j ([],0)=(b,d):=by simp [hj,e]
  obtain ⟨x,h1,h2,h3⟩:=hO.ed j hj c (by rw [e1];exact hc)
  rw [e1] at h3
  exact ⟨x.2,by rw [<- h2];exact bdD_some hI.nd h1,(hI.rng x h1).1,h3⟩
theorem bdR_start {n:Nat}(hn:n<=6){es:List (Int × Int)}(hg:Grd (n:Int) es)(sl:Bool){p:List Int}(hp:Bd n p):bdD (bdR es sl p) p=some 0:=by
  have hI:=bdR_I hn hg sl hp
  have hm:(p,(0:Int)) ∈ bdR es sl p:=by
    have h0:=hI.start
    rw [<- h0.1]
    simp [h0.2]
  exact bdD_some hI.nd hm
theorem bdR_zero {n:Nat}(hn:n<=6){es:List (Int × Int)}(hg:Grd (n:Int) es)(sl:Bool){p b:List Int}(hp:Bd n p)(hd:bdD (bdR es sl p) b=some 0):b=p:=by
  have hI:=bdR_I hn hg sl hp
  rcases hI.src _ (bdD_mem hd) with h | ⟨u,h1,_,h3⟩
  . exact congrArg Prod.fst h
  . have:=(hI.rng u h1).1
    have h3':(0:Int)=u.2+1:=h3
    omega
inductive Wlk (es:List (Int × Int)) (sl:Bool):Nat->List Int->List Int->Prop
  | nil (b:List Int):Wlk es sl 0 b b
  | cons {k:Nat} {b c d:List Int} (h:Wlk es sl k b c) (hd:d ∈ nxt es sl c):Wlk es sl (k+1) b d
theorem Wlk.front {es:List (Int × Int)}{sl:Bool}{k:Nat}{b c d:List Int}(hc:c ∈ nxt es sl b)(h:Wlk es sl k c d):Wlk es sl (k+1) b d:=by
  induction h with
  | nil=>exact .cons (.nil b) hc
  | cons h1 h2 ih=>exact .cons (ih hc) h2
theorem Wlk.bd {n:Nat}{es:List (Int × Int)}(hg:Grd (n:Int) es){sl:Bool}{k:Nat}{b c:List Int}(hb:Bd n b)(h:Wlk es sl k b c):Bd n c:=by
  induction h with
  | nil=>exact hb
  | cons h1 h2 ih=>exact nxt_bd hg sl (ih hb) _ h2
theorem Wlk.back {n:Nat}{es:List (Int × Int)}(hg:Grd (n:Int) es){sl:Bool}{k:Nat}{b c:List Int}(hb:Bd n b)(h:Wlk es sl k b c):Wlk es sl k c b:=by
  induction h with
  | nil=>exact .nil _
  | cons h1 h2 ih=>exact .front (nxt_back hg sl (h1.bd hg hb) h2) (ih hb)
theorem wlk_dist {n:Nat}(hn:n<=6){es:List (Int × Int)}(hg:Grd (n:Int) es){sl:Bool}{p b:List Int}(hp:Bd n p){k:Nat}(h:Wlk es sl k p b):∃ x,bdD (bdR es sl p) b=some x/\0<=x/\x<=k:=by
  induction h with
  | nil=>exact ⟨0,bdR_start hn hg sl hp,by omega,by omega⟩
  | cons h1 h2 ih =>
    obtain ⟨x,x1,x2,x3⟩:=ih hp
    obtain ⟨y,y1,y2,y3⟩:=bdR_edge hn hg sl hp x1 h2
    exact ⟨y,y1,y2,by omega⟩
theorem dist_wlk {n:Nat}(hn:n<=6){es:List (Int × Int)}(hg:Grd (n:Int) es){sl:Bool}{p:List Int}(hp:Bd n p):∀ (d:Nat) (b:List Int),bdD (bdR es sl p) b=some (d:Int)->Wlk es sl d b p
  | 0,b,h=>by rw [bdR_zero hn hg sl hp h];exact .nil p
  | d+1,b,h=>by
    obtain ⟨e,he,h2⟩:=bdR_down hn hg sl hp h (by omega)
    rw [show ((d+1:Nat):Int) - 1=(d:Int) by omega] at h2
    exact .front (List.mem_map.2 ⟨e,he,rfl⟩) (dist_wlk hn hg hp d _ h2)
def cd95:Cd:=(.seq (.reg [⟨⟨some 2,.assign (.const (.slice none 0 0)),none⟩,[]⟩]) (.seq (.reg [⟨⟨some 8,.buildSlice 36 0 #[],none⟩,[]⟩,⟨⟨some 3,.assign (.tmp 8),none⟩,[]⟩,⟨⟨some 4,.assign (.const (.int .u64 0)),none⟩,[]⟩]) (.seq (.seq (.reg [⟨⟨some 9,.move (.tmp 0),none⟩,[]⟩,⟨⟨some 10,.call ⟨(.builtin .len),#[.tmp 9],#[27]⟩,none⟩,[]⟩,⟨⟨some 11,.move (.const (.int .i64 0)),none⟩,[]⟩]) (.block 0 (.loop (.seq (.reg [⟨⟨some 12,.binOp .lss 3 (.tmp 11) (.tmp 10) 3,none⟩,[]⟩]) (.seq (.cond (.tmp 12) .skip (.exit 0)) (.seq (.block 1 (.seq (.reg [⟨⟨some 13,.move (.tmp 11),none⟩,[]⟩,⟨⟨some 5,.assign (.tmp 13),none⟩,[]⟩]) (.seq (.reg [⟨⟨some 14,.buildSlice 27 0 #[],none⟩,[]⟩,⟨⟨some 6,.assign (.tmp 14),none⟩,[]⟩]) (.seq (.seq (.reg [⟨⟨some 15,.move (.tmp 5),none⟩,[]⟩,⟨⟨some 7,.assign (.tmp 15),none⟩,[]⟩]) (.block 2 (.loop (.seq (.seq (.reg [⟨⟨some 16,.move (.tmp 4),none⟩,[]⟩,⟨⟨some 17,.move (.tmp 7),none⟩,[]⟩,⟨⟨some 18,.call ⟨(.value (.func 172)),#[.tmp 16,.tmp 17],#[123,3]⟩,none⟩,[]⟩,⟨⟨some 19,.unOp .not 4 (.tmp 18),none⟩,[]⟩]) (.cond (.tmp 19) .skip (.exit 2))) (.seq (.block 3 (.seq (.reg [⟨⟨some 24,.move (.tmp 4),none⟩,[]⟩,⟨⟨some 25,.move (.tmp 7),none⟩,[]⟩,
 ⟨⟨some 26,.binOp .shl 123 (.const (.int .u64 1)) (.tmp 25) 3,none⟩,[]⟩,⟨⟨some 27,.binOp .or 123 (.tmp 24) (.tmp 26) 123,none⟩,[]⟩,⟨⟨some 4,.assign (.tmp 27),none⟩,[]⟩]) (.reg [⟨⟨some 28,.move (.tmp 6),none⟩,[]⟩,⟨⟨some 29,.move (.tmp 7),none⟩,[]⟩,⟨⟨some 30,.buildSlice 27 1 #[(0,.tmp 29)],none⟩,[]⟩,⟨⟨some 31,.call ⟨(.builtin .append),#[.tmp 28,.tmp 30],#[27,27]⟩,none⟩,[]⟩,⟨⟨some 6,.assign (.tmp 31),none⟩,[]⟩]))) (.reg [⟨⟨some 20,.move (.tmp 0),none⟩,[]⟩,⟨⟨some 21,.move (.tmp 7),none⟩,[]⟩,⟨⟨some 22,.indexAddr 27 (.tmp 20) (.tmp 21),none⟩,[]⟩,⟨⟨some 23,.load 3 (.tmp 22),none⟩,[]⟩,⟨⟨some 7,.assign (.tmp 23),none⟩,[]⟩])))))) (.seq (.reg [⟨⟨some 32,.move (.tmp 6),none⟩,[]⟩,⟨⟨some 33,.call ⟨(.builtin .len),#[.tmp 32],#[27]⟩,none⟩,[]⟩,
 ⟨⟨some 34,.binOp .gtr 3 (.tmp 33) (.const (.int .i64 0)) 3,none⟩,[]⟩]) (.cond (.tmp 34) (.reg [⟨⟨some 35,.move (.tmp 3),none⟩,[]⟩,
  ⟨⟨some 36,.move (.tmp 6),none⟩,[]⟩,
  ⟨⟨some 37,.buildSlice 36 1 #[(0,.tmp 36)],none⟩,[]⟩,
  ⟨⟨some 38,.call ⟨(.builtin .append),#[.tmp 35,.tmp 37],#[36,36]⟩,none⟩,[]⟩,
  ⟨⟨some 3,.assign (.tmp 38),none⟩,[]⟩]) .skip)))))) (.reg [⟨⟨some 39,.binOp .add 3 (.tmp 11) (.const (.int .i64 1)) 3,none⟩,[]⟩,
  ⟨⟨some 11,.move (.tmp 39),none⟩,[]⟩]))))))) (.seq (.reg [⟨⟨some 40,.move (.tmp 3),none⟩,[]⟩,
  ⟨⟨some 2,.assign (.tmp 40),none⟩,[]⟩]) .ret))))
theorem in95:InT Tryz.prog 95 1 [.tmp 2] cd95:=InT.mk (by kernel_rfl) [] Tryz.func95 rfl (by kernel_rfl) (by kernel_rfl) (of_decide_eq_true (by kernel_rfl)) (by kernel_rfl)
end Go.Proofs.YtjnefjchconebaaGreat.Ai
namespace Go.Proofs.YtjnefjchconebaaGreat.Ai
open Go Go.RowKit
theorem cycSt_len (p:List Int)(k:Nat):(cycSt p k).1.length<=k:=by
  induction k with
  | zero=>simp [cycSt]
  | succ k ih =>
    simp only [cycSt]
    split
    . omega
    . simp;omega
theorem shut0 (p:List Int):Shut p []:=⟨fun z hz=>by simp at hz,fun z _ h=>by simp at h⟩
def Ph (p s0:List Int)(x:Nat)(c:List Int)(y:Int):Prop:=(c=[]/\y=x)∨(Way p (x:Int) c y/\(x:Int) ∉ s0/\∀ z ∈ c,z ∉ s0)
theorem Ph.yr {p s0:List Int}{x:Nat}{c:List Int}{y:Int}(hp:Prm p)(hx:x<p.length)(h:Ph p s0 x c y):0<=y/\y<p.length:=by
  rcases h with ⟨_,rfl⟩ | ⟨h,_,_⟩
  . omega
  . exact h.yrng hp
theorem Ph.len {p s0:List Int}{x:Nat}{c:List Int}{y:Int}(h:Ph p s0 x c y):c.length<=p.length:=by
  rcases h with ⟨rfl,_⟩ | ⟨h,_,_⟩
  . simp
  . exact h.len.2
theorem Ph.next {p s0:List Int}{x:Nat}{c:List Int}{y:Int}(hp:Prm p)(hx:x<p.length)(h:Ph p s0 x c y)(hy:y ∉ s0 ++ c):Ph p s0 x (c ++ [y]) (p.getD y.toNat 0):=by
  rw [List.mem_append,not_or] at hy
  rcases h with ⟨rfl,rfl⟩ | ⟨h,h1,h2⟩
  . right
    refine ⟨by have:=Way.first hp hx;simpa using this,hy.1,fun z hz=>?_⟩
    simp at hz;rw [hz];exact hy.1
  . right
    have hne:y ≠ x:=fun e=>hy.2 (by
      have hl:=h.len
      have:=getD_mem (show 0<c.length by omega)
      rw [h.head] at this
      rw [e];exact this)
    refine ⟨h.next hp hne,h1,fun z hz=>?_⟩
    rcases List.mem_append.1 hz with g | g
    . exact h2 z g
    . simp at g;rw [g];exact hy.1
theorem Ph.done {p s0:List Int}{x:Nat}{c:List Int}{y:Int}(hp:Prm p)(h:Ph p s0 x c y)(hs:Shut p s0)(hy:y ∈ s0 ++ c) :
    (c=[]/\(x:Int) ∈ s0)∨(c ≠ []/\(x:Int) ∉ s0/\c=cycC p x/\Shut p (s0 ++ c)):=by
  rcases h with ⟨rfl,rfl⟩ | ⟨h,h1,h2⟩
  . rw [List.append_nil] at hy;exact .inl ⟨rfl,hy⟩
  . have ho:=h.out hs h2
    have hc:y ∈ c:=(List.mem_append.1 hy).resolve_left ho
    have e:=h.back hp hc
    subst e
    exact .inr ⟨h.ne,h1,h.done,h.shut hp hs⟩
theorem cycI_c (v:Value)(p:List Int)(H:AH)(hr:Row 3 H v p)(hp:Prm p) :
    ACalls Tryz.prog 95 [v] H fun r H'=>InL H.length H'.length 27 3 H' r (cycSt p p.length).1/\H<+:H':=by
  have h8:=hp.1
  have hrg:=prm_range hp
  refine in95 rfl ?_
  intro Q hQ
  simp (disch:=omega) only [cd95,SS,eq_self,reduceIte,reduceCtorEq,Nat.reduceEqDiff,Nat.reduceAdd]
  have hp0:=List.prefix_append H [AObj.cells [] 27 false]
  simp (disch:=omega) only [hr.len Tryz.underlying27,SS,eq_self,reduceIte,reduceCtorEq,Nat.reduceEqDiff,Nat.reduceAdd]
  refine LoopH.by (fun m s H'=>∃ i b o us,m+i=p.length/\s 0=v/\s 10=.int .i64 (p.length:Int)/\s 11=.int .i64 ((i:Nat):Int)/\s 4=.int .u64 ((b:Nat):Int)/\s 3=.slice (some ⟨o,0,none⟩) (cycSt p i).1.length (cycSt p i).1.length/\Bits b p.length (cycSt p i).2/\Shut p (cycSt p i).2/\InU H.length H'.length 27 3 H' o us (cycSt p i).1/\H<+:H') p.length ?_ ?_
  . refine ⟨0,0,H.length,[],by simp,rfl,rfl,rfl,rfl,rfl,⟨by decide,fun z _=>by simp [cycSt]⟩,shut0 p,?_,hp0⟩
    have:=InU.new H.length 27 3 H (Nat.le_refl _)
    simpa [cycSt] using this
  . rintro m s H' ⟨i,b,o,us,hm,h0,h10,h11,h4,h3,hbits,hshut,hin,hpp⟩
    have hcl:=cycSt_len p i
    have hst:cycSt p (i+1)=if (i:Int) ∈ (cycSt p i).2 then cycSt p i else ((cycSt p i).1 ++ [cycC p i],(cycSt p i).2 ++ cycC p i):=rfl
    have hlast:i=p.length->(cycSt p p.length).1=(cycSt p i).1:=fun e=>by rw [e]
    generalize hO:(cycSt p i).1=O at *
    generalize hS:(cycSt p i).2=Se at *
    simp (disch:=omega) only [h0,h10,h11,h4,h3,SS,eq_self,reduceIte,reduceCtorEq,Nat.reduceEqDiff,Nat.reduceAdd]
    refine brD.intro (fun g=>?_) (fun g=>?_) <;> simp (disch:=omega) only [h0,h10,h11,h4,h3,SS,eq_self,reduceIte,reduceCtorEq,Nat.reduceEqDiff,Nat.reduceAdd]
    . have hi:i<p.length:=by omega
      refine LoopH.by (fun m' s' H''=>∃ c y b',m'+c.length=p.length+1/\Ph p Se i c y/\s' 0=v/\s' 10=.int .i64 (p.length:Int)/\s' 11=.int .i64 ((i:Nat):Int)/\s' 3=.slice (some ⟨o,0,none⟩) O.length O.length/\s' 7=.int .i64 y/\s' 4=.int .u64 ((b':Nat):Int)/\Bits b' p.length (Se ++ c)/\Own 3 H' H'' (s' 6) c/\H'<+:H'') (p.length+1) ?_ ?_
      . refine ⟨[],i,b,by simp,.inl ⟨rfl,rfl⟩,?_⟩
        have f1:Bits b p.length (Se ++ []):=by rw [List.append_nil];exact hbits
        have f2:Own 3 H' (H' ++ [AObj.cells [] 3 false]) (.slice (some ⟨H'.length,0,none⟩) 0 0) []:=.inr ⟨H'.length,rfl,Nat.le_refl _,at_new ..⟩
        have f3:=List.prefix_append H' [AObj.cells [] 3 false]
        simp only [SS,eq_self,reduceIte,reduceCtorEq,Nat.reduceEqDiff,Nat.reduceAdd,h0,h10,h11,h4,h3]
        exact ⟨hbits,f2,f3⟩
      . rintro m' s' H'' ⟨c,y,b',hm',hph,g0,g10,g11,g3,g7,g4,hb',hown,hpq⟩
        have hyr:=hph.yr hp hi
        have hcln:=hph.len
        have hr':=hr.pre (hpp.trans hpq)
        obtain ⟨Y,rfl⟩:∃ Y:Nat,y=Y:=⟨y.toNat,by omega⟩
        have hb64:b'<2 ^ 64:=Nat.lt_of_lt_of_le hb'.1 (by decide)
        have htb:=hb'.2 Y (by omega)
        generalize hw:s' 6=w at *
        simp (disch:=omega) only [g0,g10,g11,g3,g7,g4,hw,SS,eq_self,reduceIte,reduceCtorEq,Nat.reduceEqDiff,Nat.reduceAdd]
        refine CallH.by (has_c b' Y H'' hb64 (by omega)) ?_
        rintro _ _ ⟨rfl,rfl⟩
        rw [htb]
        simp (disch:=omega) only [SS,eq_self,reduceIte,reduceCtorEq,Nat.reduceEqDiff,Nat.reduceAdd]
        refine brD.intro (fun e=>?_) (fun e=>?_)
        · -- the walk ends
          simp (disch:=omega) only [g0,g10,g11,g3,g7,g4,hw,hown.row.len Tryz.underlying27,SS,eq_self,reduceIte,reduceCtorEq,Nat.reduceEqDiff,Nat.reduceAdd]
          rcases hph.done hp hshut e with ⟨rfl,hx⟩ | ⟨hne,hx,hc,hsh⟩
          . refine brD.intro (fun h=>absurd h (by simp)) (fun _=>?_)
            simp (disch:=omega) only [g0,g10,g11,g3,g7,g4,hw,wrap64,SS,eq_self,reduceIte,reduceCtorEq,Nat.reduceEqDiff,Nat.reduceAdd]
            rw [if_pos hx] at hst
            have hin2:=(hin.pre hpq).wide (Nat.le_refl _) hpq.length_le
            rw [List.append_nil] at hb'
            have hpp2:=hpp.trans hpq
            refine ⟨m - 1,by omega,i+1,b',o,us,by omega,?_⟩
            rw [hst,hO,hS]
            (repeat' first | exact hb' | exact hshut | exact hin2 | exact hpp2 | apply And.intro) <;> first | (simp only [Value.int.injEq,true_and];omega) | omega | rfl | assumption | (simp;done) | (simp;omega)
          . have hlen1:1<=c.length:=by
              cases c with
              | nil=>exact absurd rfl hne
              | cons _ _=>simp
            refine brD.intro (fun _=>?_) (fun h=>absurd (show (0:Int)<c.length by omega) h)
            rw [if_neg hx] at hst
            have hinw:=InI.of hown.mine
            obtain ⟨H3,k1,k2,k3,k4⟩:=(hin.pre hpq).app1 (P:=Tryz.prog) (t2:=36) Tryz.underlying36 cs27 (by rw [by27];decide) zk27 hinw hpp.length_le hpq.length_le (Nat.le_refl _) (by omega)
            have hbs:buildSliceA Tryz.prog 36 1 [(0,w)] H''=some (.slice (some ⟨H''.length,0,none⟩) 1 1,H'' ++ [.cells [w] 27 false]):=by
              obtain ⟨q,eq⟩:=hown.row.shape
              rw [eq]
              exact bs1 Tryz.underlying36 cs27 ze27 ⟨by kernel_rfl,by kernel_rfl⟩ H'' rfl
            simp (disch:=omega) only [g0,g10,g11,g3,g7,g4,hw,hbs,k1,wrap64,SS,eq_self,reduceIte,reduceCtorEq,Nat.reduceEqDiff,Nat.reduceAdd]
            have ho:=hin.1
            have f1:H<+:H3:=prefix_of fun j x hx'=>k4 j x (by have:=at_lt hx';omega) (pre_at (hpp.trans hpq) hx')
            have f2:InU H.length H3.length 27 3 H3 (H''.length+1) (us.take O.length ++ [w]) (O ++ [cycC p i]):=by
              rw [k3,<- hc];exact k2
            rw [hc] at hb' hsh
            have f3:(O ++ [cycC p i]).length=O.length+1:=by simp
            refine ⟨m - 1,by omega,i+1,b',H''.length+1,us.take O.length ++ [w],by omega,?_⟩
            rw [hst]
            simp only [f3]
            (repeat' first | exact hb' | exact hsh | exact f2 | exact f1 | apply And.intro) <;> first | (simp only [Value.int.injEq,true_and];omega) | omega | rfl | assumption | (simp;done) | (simp;omega)
        · -- one more
          have e3:(Y:Int).toNat=Y:=by omega
          have hYl:Y<p.length:=by omega
          have hb2:=hb'.or (y:=Y) (by omega)
          have sh:=bin_shl Tryz.prog 123 Y (by omega)
          have hp2:2 ^ Y<2 ^ 64:=Nat.pow_lt_pow_right (by decide) (by omega)
          have bo:=bin_or Tryz.prog 123 b' (2 ^ Y) hb64 hp2
          obtain ⟨w',H3,k1,k2,k3,k4,k5,k6⟩:=own1_27 hown hpq (by omega) (Y:Int)
          have hr3:=hr.pre (hpp.trans k3)
          have nx:=hph.next hp hi e
          rw [e3] at nx
          have f0:m' - 1+(c ++ [(Y:Int)]).length=p.length+1:=by simp;have:=nx.len;simp at this;omega
          simp (disch:=omega) only [g0,g10,g11,g3,g7,g4,hw,sh,bo,k1,hr3.ix Tryz.underlying27 cs3,hr3.cell,Int.toNat_natCast,SS,eq_self,reduceIte,reduceCtorEq,Nat.reduceEqDiff,Nat.reduceAdd]
          have hm1:m' - 1<m':=by have:=nx.len;simp at this;omega
          refine ⟨m' - 1,hm1,c ++ [(Y:Int)],p.getD Y 0,b' ||| 2 ^ Y,f0,nx,?_⟩
          have hb3:Bits (b' ||| 2 ^ Y) p.length (Se ++ (c ++ [(Y:Int)])):=by rw [<- List.append_assoc];exact hb2
          (repeat' first | exact hb3 | exact k2 | exact k3 | apply And.intro) <;> first | (simp only [Value.int.injEq,true_and];omega) | omega | rfl | assumption | (simp;done) | (simp;omega)
    . refine hQ _ _ _ ?_
      simp (disch:=omega) only [h3,SS,eq_self,reduceIte,reduceCtorEq,Nat.reduceEqDiff,Nat.reduceAdd]
      rw [hlast (by omega)]
      exact ⟨hin.inl,hpp⟩
def cd23:Cd:=(.seq (.reg [⟨⟨some 2,.assign (.const (.int .i64 0)),none⟩,[]⟩,
  ⟨⟨some 3,.assign (.const (.bool false)),none⟩,[]⟩]) (.seq (.seq (.reg [⟨⟨some 4,.move (.tmp 0),none⟩,[]⟩,
  ⟨⟨some 5,.call ⟨(.value (.func 92)),#[.tmp 4],#[27]⟩,none⟩,[]⟩,
  ⟨⟨some 6,.unOp .not 4 (.tmp 5),none⟩,[]⟩]) (.cond (.tmp 6) (.seq (.reg [⟨⟨some 2,.assign (.const (.int .i64 0)),none⟩,[]⟩,
  ⟨⟨some 3,.assign (.const (.bool false)),none⟩,[]⟩]) .ret) .skip)) (.seq (.reg [⟨⟨some 7,.move (.tmp 0),none⟩,[]⟩,
  ⟨⟨some 8,.call ⟨(.builtin .len),#[.tmp 7],#[27]⟩,none⟩,[]⟩,
  ⟨⟨some 9,.move (.tmp 0),none⟩,[]⟩,
  ⟨⟨some 10,.call ⟨(.value (.func 95)),#[.tmp 9],#[27]⟩,none⟩,[]⟩,
  ⟨⟨some 11,.call ⟨(.builtin .len),#[.tmp 10],#[36]⟩,none⟩,[]⟩,
  ⟨⟨some 12,.binOp .sub 3 (.tmp 8) (.tmp 11) 3,none⟩,[]⟩,
  ⟨⟨some 2,.assign (.tmp 12),none⟩,[]⟩,
  ⟨⟨some 3,.assign (.const (.bool true)),none⟩,[]⟩]) .ret)))
theorem in23:InT Tryz.prog 23 1 [.tmp 2,.tmp 3] cd23:=InT.mk (by kernel_rfl) [] Tryz.func23 rfl (by kernel_rfl) (by kernel_rfl) (of_decide_eq_true (by kernel_rfl)) (by kernel_rfl)
end Go.Proofs.YtjnefjchconebaaGreat.Ai
namespace Go.Proofs.YtjnefjchconebaaGreat.Ai
open Go Go.RowKit
def swapR (p:List Int):Int:=if Prm p then (p.length:Int) - (cycSt p p.length).1.length else 0
theorem SwapCI_c (v:Value)(p:List Int)(H:AH)(hr:Row 3 H v p)(hlen:p.length<=1099511627776)(hxs:∀ y ∈ p,I64 y) :
    ACalls Tryz.prog 23 [v] H fun r H'=>r=.tuple (List.toArray [.int .i64 (swapR p),.bool (decide (Prm p))])/\H<+:H':=by
  refine in23 rfl ?_
  intro Q hQ
  simp (disch:=omega) only [cd23,SS,eq_self,reduceIte,reduceCtorEq,Nat.reduceEqDiff,Nat.reduceAdd]
  refine CallH.by (PermI_c v p H hr hlen hxs) ?_
  rintro _ H0 ⟨rfl,hp0⟩
  have hr0:=hr.pre hp0
  simp (disch:=omega) only [SS,eq_self,reduceIte,reduceCtorEq,Nat.reduceEqDiff,Nat.reduceAdd]
  refine brD.intro (fun hp=>?_) (fun hp=>?_) <;> simp (disch:=omega) only [hp,hr0.len Tryz.underlying27,SS,eq_self,reduceIte,reduceCtorEq,Nat.reduceEqDiff,Nat.reduceAdd]
  . have h8:=hp.1
    have hc:=cycSt_len p p.length
    refine CallH.by (cycI_c v p H0 hr0 hp) ?_
    rintro u H1 ⟨hin,hpp⟩
    obtain ⟨us,hrow,_,hl,_⟩:=hin.row
    have hlu:=hrow.len Tryz.underlying36
    rw [hl] at hlu
    simp (disch:=omega) only [hlu,wrap64,SS,eq_self,reduceIte,reduceCtorEq,Nat.reduceEqDiff,Nat.reduceAdd]
    refine hQ _ _ _ ?_
    simp (disch:=omega) only [SS,eq_self,reduceIte,reduceCtorEq,Nat.reduceEqDiff,Nat.reduceAdd]
    exact ⟨by simp [swapR,hp],hp0.trans hpp⟩
  . refine hQ _ _ _ ?_
    simp (disch:=omega) only [SS,eq_self,reduceIte,reduceCtorEq,Nat.reduceEqDiff,Nat.reduceAdd]
    exact ⟨by simp [swapR,hp],hp0⟩
def cycR (p:List Int):List (List Int):=if Prm p then (cycSt p p.length).1 else []
theorem InL.tup {lo hi:Nat}{e2 e:TypeId}{H:AH}{v:Value}{ls:List (List Int)}(h:InL lo hi e2 e H v ls):isTup v=false:=by
  rcases h with ⟨h,_⟩ | ⟨o,us,h,_⟩ <;> rw [h] <;> rfl
def cd24:Cd:=(.seq (.reg [⟨⟨some 2,.assign (.const (.int .i64 0)),none⟩,[]⟩,⟨⟨some 3,.assign (.const (.bool false)),none⟩,[]⟩]) (.seq (.seq (.reg [⟨⟨some 9,.move (.tmp 0),none⟩,[]⟩,⟨⟨some 10,.call ⟨(.value (.func 92)),#[.tmp 9],#[27]⟩,none⟩,[]⟩,⟨⟨some 11,.unOp .not 4 (.tmp 10),none⟩,[]⟩]) (.cond (.tmp 11) (.seq (.reg [⟨⟨some 2,.assign (.const (.int .i64 0)),none⟩,[]⟩,⟨⟨some 3,.assign (.const (.bool false)),none⟩,[]⟩]) .ret) .skip)) (.seq (.reg [⟨⟨some 4,.assign (.const (.int .i64 0)),none⟩,[]⟩]) (.seq (.seq (.reg [⟨⟨some 12,.move (.tmp 0),none⟩,[]⟩,⟨⟨some 13,.call ⟨(.builtin .len),#[.tmp 12],#[27]⟩,none⟩,[]⟩,⟨⟨some 14,.move (.const (.int .i64 0)),none⟩,[]⟩]) (.block 0 (.loop (.seq (.reg [⟨⟨some 15,.binOp .lss 3 (.tmp 14) (.tmp 13) 3,none⟩,[]⟩]) (.seq (.cond (.tmp 15) .skip (.exit 0)) (.seq (.block 1 (.seq (.reg [⟨⟨some 16,.move (.tmp 14),none⟩,[]⟩,⟨⟨some 17,.indexAddr 27 (.tmp 12) (.tmp 14),none⟩,[]⟩,⟨⟨some 18,.load 3 (.tmp 17),none⟩,[]⟩,⟨⟨some 5,.assign (.tmp 16),none⟩,[]⟩,⟨⟨some 6,.assign (.tmp 18),none⟩,[]⟩]) (.seq (.reg [⟨⟨some 19,.move (.tmp 0),none⟩,[]⟩,⟨⟨some 20,.move (.tmp 5),none⟩,[]⟩,
 ⟨⟨some 21,.slice 27 (.tmp 19) (some (.tmp 20)) none none,none⟩,[]⟩,⟨⟨some 22,.call ⟨(.builtin .len),#[.tmp 21],#[27]⟩,none⟩,[]⟩,⟨⟨some 23,.move (.const (.int .i64 0)),none⟩,[]⟩]) (.block 2 (.loop (.seq (.reg [⟨⟨some 24,.binOp .lss 3 (.tmp 23) (.tmp 22) 3,none⟩,[]⟩]) (.seq (.cond (.tmp 24) .skip (.exit 2)) (.seq (.block 3 (.seq (.reg [⟨⟨some 25,.indexAddr 27 (.tmp 21) (.tmp 23),none⟩,[]⟩,⟨⟨some 26,.load 3 (.tmp 25),none⟩,[]⟩,⟨⟨some 8,.assign (.tmp 26),none⟩,[]⟩]) (.seq (.reg [⟨⟨some 27,.move (.tmp 6),none⟩,[]⟩,⟨⟨some 28,.move (.tmp 8),none⟩,[]⟩,⟨⟨some 29,.binOp .gtr 3 (.tmp 27) (.tmp 28) 3,none⟩,[]⟩]) (.cond (.tmp 29) (.reg [⟨⟨some 30,.move (.tmp 4),none⟩,[]⟩,⟨⟨some 31,.binOp .add 3 (.tmp 30) (.const (.int .i64 1)) 3,none⟩,[]⟩,⟨⟨some 4,.assign (.tmp 31),none⟩,[]⟩]) .skip)))) (.reg [⟨⟨some 32,.binOp .add 3 (.tmp 23) (.const (.int .i64 1)) 3,none⟩,[]⟩,⟨⟨some 23,.move (.tmp 32),none⟩,[]⟩]))))))))) (.reg [⟨⟨some 33,.binOp .add 3 (.tmp 14) (.const (.int .i64 1)) 3,none⟩,[]⟩,⟨⟨some 14,.move (.tmp 33),none⟩,[]⟩]))))))) (.seq (.reg [⟨⟨some 34,.move (.tmp 4),none⟩,[]⟩,⟨⟨some 2,.assign (.tmp 34),none⟩,[]⟩,
 ⟨⟨some 3,.assign (.const (.bool true)),none⟩,[]⟩]) .ret)))))
theorem in24:InT Tryz.prog 24 1 [.tmp 2,.tmp 3] cd24:=InT.mk (by kernel_rfl) [] Tryz.func24 rfl (by kernel_rfl) (by kernel_rfl) (of_decide_eq_true (by kernel_rfl)) (by kernel_rfl)
end Go.Proofs.YtjnefjchconebaaGreat.Ai
namespace Go.Proofs.YtjnefjchconebaaGreat.Ai
open Go Go.RowKit
def invRow (x:Int)(ys:List Int):Nat:=(ys.filter fun y=>decide (y<x)).length
def invs (p:List Int):Nat->Nat
  | 0=>0
  | k+1=>invs p k+invRow (p.getD k 0) (p.drop (k+1))
theorem invRow_step (x:Int)(ys:List Int)(k:Nat)(hk:k<ys.length):invRow x (ys.take (k+1))=invRow x (ys.take k)+if ys.getD k 0<x then 1 else 0:=by
  unfold invRow
  rw [List.take_add_one,List.getElem?_eq_getElem hk,List.filter_append,List.length_append]
  have:ys.getD k 0=ys[k]:=by simp [hk]
  rw [this]
  by_cases h:ys[k]<x <;> simp [h]
theorem invRow_le (x:Int)(ys:List Int):invRow x ys<=ys.length:=List.length_filter_le _ _
theorem invRow_self (p:List Int)(k:Nat)(hk:k<p.length):invRow (p.getD k 0) (p.drop k)=invRow (p.getD k 0) (p.drop (k+1)):=by
  have:p.getD k 0=p[k]:=by simp [hk]
  rw [this]
  unfold invRow
  rw [List.drop_eq_getElem_cons hk,List.filter_cons,if_neg (by simp)]
theorem invs_le (p:List Int)(k:Nat):invs p k<=p.length * k:=by
  induction k with
  | zero=>simp [invs]
  | succ k ih =>
    have:=invRow_le (p.getD k 0) (p.drop (k+1))
    have h2:(p.drop (k+1)).length<=p.length:=by simp
    simp only [invs,Nat.mul_succ];omega
theorem invs_bd {p:List Int}(h:Prm p)(k:Nat)(hk:k<=p.length):invs p k<=64:=by
  have h1:=invs_le p k
  have h2:=h.1
  have h3:p.length * k<=8 * 8:=Nat.mul_le_mul h2 (by omega)
  omega
def invR (p:List Int):Int:=if Prm p then (invs p p.length:Nat) else 0
theorem InvI_c (v:Value)(p:List Int)(H:AH)(hr:Row 3 H v p)(hlen:p.length<=1099511627776)(hxs:∀ y ∈ p,I64 y) :
    ACalls Tryz.prog 24 [v] H fun r H'=>r=.tuple (List.toArray [.int .i64 (invR p),.bool (decide (Prm p))])/\H<+:H':=by
  refine in24 rfl ?_
  intro Q hQ
  simp (disch:=omega) only [cd24,SS,eq_self,reduceIte,reduceCtorEq,Nat.reduceEqDiff,Nat.reduceAdd]
  refine CallH.by (PermI_c v p H hr hlen hxs) ?_
  rintro _ H1 ⟨rfl,hpp⟩
  have hr1:=hr.pre hpp
  simp (disch:=omega) only [SS,eq_self,reduceIte,reduceCtorEq,Nat.reduceEqDiff,Nat.reduceAdd]
  refine brD.intro (fun hp=>?_) (fun hp=>?_) <;> simp (disch:=omega) only [hp,hr1.len Tryz.underlying27,SS,eq_self,reduceIte,reduceCtorEq,Nat.reduceEqDiff,Nat.reduceAdd]
  . have h8:=hp.1
    refine LoopH.by (fun m s H'=>∃ a,m+a=p.length/\s 0=v/\s 12=v/\s 13=.int .i64 (p.length:Int)/\s 14=.int .i64 ((a:Nat):Int)/\s 4=.int .i64 ((invs p a:Nat):Int)/\H1=H') p.length ?_ ?_
    . exact ⟨0,by simp,rfl,rfl,rfl,rfl,rfl,rfl⟩
    . rintro m s H' ⟨a,hm,h0,h12,h13,h14,h4,rfl⟩
      simp (disch:=omega) only [h0,h12,h13,h14,h4,SS,eq_self,reduceIte,reduceCtorEq,Nat.reduceEqDiff,Nat.reduceAdd]
      refine brD.intro (fun g=>?_) (fun g=>?_)
      . have ha:a<p.length:=by omega
        have b0:=invs_bd hp a (by omega)
        have hs:=hr1.slice Tryz.underlying27 cs3 (lo:=some (.int .i64 ((a:Nat):Int))) (hi:=none) (bound_some (by omega) _) (hi_none _) (by simp;omega) (Nat.le_refl _)
        simp only [Int.toNat_natCast] at hs
        have ed:(p.drop a).take (p.length - a)=p.drop a:=List.take_of_length_le (by simp)
        rw [ed] at hs
        have hdl:(p.drop a).length=p.length - a:=by simp
        have hrs:=hs.2.1
        have self:=invRow_self p a ha
        simp (disch:=omega) only [h0,h12,h13,h14,h4,hr1.ix Tryz.underlying27 cs3,hr1.cell,Int.toNat_natCast,hs.1,hrs.len Tryz.underlying27,SS,eq_self,reduceIte,reduceCtorEq,Nat.reduceEqDiff,Nat.reduceAdd]
        refine LoopH.by (fun m' s' H''=>∃ j,m'+j=p.length - a/\s' 0=v/\s' 12=v/\s' 13=.int .i64 (p.length:Int)/\s' 14=.int .i64 ((a:Nat):Int)/\s' 6=.int .i64 (p.getD a 0)/\s' 21=subV v a p.length/\s' 22=.int .i64 ((p.drop a).length:Int)/\s' 23=.int .i64 ((j:Nat):Int)/\s' 4=.int .i64 (((invs p a+invRow (p.getD a 0) ((p.drop a).take j):Nat)):Int)/\H1=H'') (p.length - a) ?_ ?_
        . refine ⟨0,by simp,?_⟩
          simp only [SS,eq_self,reduceIte,reduceCtorEq,Nat.reduceEqDiff,Nat.reduceAdd,h0,h12,h13,h14,h4]
          simp [invRow]
        . rintro m' s' H'' ⟨j,hm',g0,g12,g13,g14,g6,g21,g22,g23,g4,rfl⟩
          simp (disch:=omega) only [g0,g12,g13,g14,g6,g21,g22,g23,g4,SS,eq_self,reduceIte,reduceCtorEq,Nat.reduceEqDiff,Nat.reduceAdd]
          refine brD.intro (fun q=>?_) (fun q=>?_)
          . have hj:j<(p.drop a).length:=by omega
            have st:=invRow_step (p.getD a 0) (p.drop a) j hj
            have b1:=invRow_le (p.getD a 0) ((p.drop a).take j)
            have b2:((p.drop a).take j).length<=j:=by simp;omega
            simp (disch:=omega) only [g0,g12,g13,g14,g6,g21,g22,g23,g4,hrs.ix Tryz.underlying27 cs3,hrs.cell,Int.toNat_natCast,SS,eq_self,reduceIte,reduceCtorEq,Nat.reduceEqDiff,Nat.reduceAdd]
            refine brD.intro (fun e=>?_) (fun e=>?_) <;> simp (disch:=omega) only [g0,g12,g13,g14,g6,g21,g22,g23,g4,wrap64,SS,eq_self,reduceIte,reduceCtorEq,Nat.reduceEqDiff,Nat.reduceAdd]
            . rw [if_pos e] at st
              refine ⟨m' - 1,by omega,j+1,by omega,?_⟩
              rw [st]
              (repeat' apply And.intro) <;> first | (simp only [Value.int.injEq,true_and];omega) | omega | rfl | assumption | (simp;done) | (simp;omega)
            . rw [if_neg e] at st
              refine ⟨m' - 1,by omega,j+1,by omega,?_⟩
              rw [st]
              (repeat' apply And.intro) <;> first | (simp only [Value.int.injEq,true_and];omega) | omega | rfl | assumption | (simp;done) | (simp;omega)
          . have e:(p.drop a).take j=p.drop a:=List.take_of_length_le (by omega)
            rw [e,self] at g4
            simp (disch:=omega) only [g0,g12,g13,g14,g6,g21,g22,g23,g4,wrap64,SS,eq_self,reduceIte,reduceCtorEq,Nat.reduceEqDiff,Nat.reduceAdd]
            refine ⟨m - 1,by omega,a+1,by omega,?_⟩
            rw [invs]
            (repeat' apply And.intro) <;> first | (simp only [Value.int.injEq,true_and];omega) | omega | rfl | assumption | (simp;done) | (simp;omega)
      . simp (disch:=omega) only [h0,h12,h13,h14,h4,SS,eq_self,reduceIte,reduceCtorEq,Nat.reduceEqDiff,Nat.reduceAdd]
        refine hQ _ _ _ ?_
        simp (disch:=omega) only [h4,SS,eq_self,reduceIte,reduceCtorEq,Nat.reduceEqDiff,Nat.reduceAdd]
        have:a=p.length:=by omega
        subst this
        simp [invR,hp,hpp]
  . refine hQ _ _ _ ?_
    simp (disch:=omega) only [SS,eq_self,reduceIte,reduceCtorEq,Nat.reduceEqDiff,Nat.reduceAdd]
    simp [invR,hp,hpp]
theorem prm_nodupL {p:List Int}(hp:Prm p):p.Nodup:=by
  rw [List.Nodup,List.pairwise_iff_getElem]
  intro i j hi hj hij e
  have:=(prm_range hp).2 i j hi hj (by simp [hi,hj,e])
  omega
theorem cyN_id {q:List Int}(hq:Prm q)(h:∀ y,y<q.length->q.getD y 0=y):cyN q=q.length:=by
  rw [cyN_cls hq]
  have one:∀ {u v:Nat},Eqp q u v->u<q.length->u=v:=by
    intro u v hu
    induction hu with
    | refl=>intro _;rfl
    | edge u hu=>intro _;rw [h u hu];simp
    | symm h0 ih=>intro hv;exact (ih ((eqp_in hq h0).2 hv)).symm
    | trans h1 h2 i1 i2 =>
      intro hu
      have e:=i1 hu
      subst e
      exact i2 hu
  unfold cls
  have:∀ l:List Nat,(∀ x ∈ l,x<q.length)->l.countP (fun x=>@decide (Mn (Eqp q) x) (Classical.propDecidable _))=l.length:=by
    intro l hl
    rw [List.countP_eq_length]
    intro x hx
    simp only [decide_eq_true_eq]
    intro y hy
    exact Nat.le_of_eq (one hy (hl x hx))
  rw [this _ (fun x hx=>List.mem_range.1 hx),List.length_range]
theorem invL_id:∀ (q:List Int) (k:Nat),(∀ y,y<q.length->q.getD y 0=((k+y:Nat):Int))->invL q=0
  | [],_,_=>rfl
  | x :: q,k,h=>by
    have h0:=h 0 (by simp)
    have hx:x=k:=by simpa using h0
    have hq:∀ y,y<q.length->q.getD y 0=((k+1+y:Nat):Int):=fun y hy=>by
      have:=h (y+1) (by simpa using hy)
      rw [show k+(y+1)=k+1+y by omega] at this
      simpa using this
    have ih:=invL_id q (k+1) hq
    have:ltC x q=0:=by
      unfold ltC
      rw [List.countP_eq_zero]
      intro y hy
      obtain ⟨i,hi,rfl⟩:=List.mem_iff_getElem.1 hy
      have:=hq i hi
      have e:q.getD i 0=q[i]:=by simp [hi]
      rw [e] at this
      simp only [decide_eq_true_eq];omega
    simp only [invL,this,ih]
theorem srt_all {p:List Int}(hp:Prm p):∀ x,x<=p.length->(srtSt p x).1.length+cyN p=cyN (srtSt p x).2/\(invL (srtSt p x).2+invL p+(srtSt p x).1.length) % 2=0/\plcSt p (srtSt p x).1=(srtSt p x).2/\∀ s ∈ (srtSt p x).1,swOk p.length s
  | 0,_=>⟨by simp [srtSt],by simp [srtSt];omega,rfl,by simp [srtSt]⟩
  | x+1,hx=>by
    obtain ⟨i1,i2,i3,i4⟩:=srt_all hp x (by omega)
    have ok:=srt_ok hp x (by omega)
    obtain ⟨i,h1,h2,h3,h4,h5⟩:=ok.place (by omega)
    obtain ⟨j,_,_,j3,_,j5⟩:=srt_step hp (x:=x) (by omega)
    have hij:i=j:=by rw [h3] at j3;omega
    subst hij
    rw [j5]
    by_cases hc:i=x
    . rw [if_pos hc];exact ⟨i1,i2,i3,i4⟩
    . rw [if_neg hc]
      have hl:=ok.len
      have hh:=cyN_home ok.prm (x:=x) (i:=i) (by omega) (by omega) (by omega) ok.fix h4
      have hv:=invL_swp (prm_nodupL ok.prm) (a:=x) (b:=i) (by omega) (by omega)
      refine ⟨?_,?_,?_,fun s hs=>?_⟩
      . show ((srtSt p x).1 ++ [((x:Int),(i:Int))]).length+cyN p=cyN (swp (srtSt p x).2 x i)
        rw [hh,List.length_append];simp;omega
      . show (invL (swp (srtSt p x).2 x i)+invL p+((srtSt p x).1 ++ [((x:Int),(i:Int))]).length) % 2=0
        rw [List.length_append];simp;omega
      . show plcSt p ((srtSt p x).1 ++ [((x:Int),(i:Int))])=swp (srtSt p x).2 x i
        rw [plcSt_snoc,i3];simp
      . rcases List.mem_append.1 hs with q | q
        . exact i4 s q
        . rw [List.mem_singleton] at q
          subst q
          unfold swOk
          simp only;omega
theorem invs_invL (p:List Int):invs p p.length=invL p:=by
  have key:∀ k,k<=p.length->invs p k+invL (p.drop k)=invL p:=by
    intro k
    induction k with
    | zero=>intro _;simp [invs]
    | succ k ih =>
      intro hk
      have:=ih (by omega)
      rw [List.drop_eq_getElem_cons (by omega)] at this
      have e:p.getD k 0=p[k]:=by simp [show k<p.length by omega]
      simp only [invs,invL] at this ⊢
      have e2:invRow (p.getD k 0) (p.drop (k+1))=ltC p[k] (p.drop (k+1)):=by
        rw [e];unfold invRow ltC;rw [List.countP_eq_length_filter]
      omega
  have:=key p.length (Nat.le_refl _)
  rw [List.drop_length] at this
  simpa [invL] using this
theorem cyN_le {p:List Int}(hp:Prm p):cyN p<=p.length:=by
  rw [cyN_cls hp]
  unfold cls
  have:=List.countP_le_length (p:=fun x=>@decide (Mn (Eqp p) x) (Classical.propDecidable _)) (l:=List.range p.length)
  rwa [List.length_range] at this
theorem plc_all2:∀ (ss:List (Int × Int)) {q:List Int},Prm q->(∀ s ∈ ss,swOk q.length s)->Prm (plcSt q ss)/\(plcSt q ss).length=q.length/\(invL (plcSt q ss)+invL q+ss.length) % 2=0/\cyN q<=cyN (plcSt q ss)+ss.length
  | [],q,hq,_=>⟨hq,rfl,by simp [plcSt];omega,by simp [plcSt]⟩
  | s :: ss,q,hq,h=>by
    obtain ⟨s1,s2,s3⟩:=h s (by simp)
    have ha:s.1.toNat<q.length:=by omega
    have hb:s.2.toNat<q.length:=by omega
    have hq':=swp_prm hq ha hb
    obtain ⟨i1,i2,i3,i4⟩:=plc_all2 ss hq' (fun t ht=>by rw [swp_len];exact h t (by simp [ht]))
    have hv:=invL_swp (prm_nodupL hq) (a:=s.1.toNat) (b:=s.2.toNat) (by omega) hb
    have hc:=cyN_swp hq ha hb
    have e:plcSt q (s :: ss)=plcSt (swp q s.1.toNat s.2.toNat) ss:=rfl
    rw [e]
    refine ⟨i1,by rw [i2,swp_len],?_,?_⟩
    . rw [List.length_cons];omega
    . rw [List.length_cons];omega
theorem prm_law {p:List Int}(hp:Prm p):plcOk p (sortR p)/\(∀ y,y<p.length->(placeR p (sortR p)).getD y 0=y)/\(placeR p (sortR p)).length=p.length/\((sortR p).length:Int)=swapR p/\swapR p=(p.length:Int) - (cycR p).length/\(swapR p+invR p) % 2=0/\0<=swapR p/\swapR p<=8/\0<=invR p/\invR p<=64:=by
  obtain ⟨i1,i2,i3,i4⟩:=srt_all hp p.length (Nat.le_refl _)
  have ok:=srt_ok hp p.length (Nat.le_refl _)
  have hs:sortR p=(srtSt p p.length).1:=by unfold sortR;rw [if_pos hp]
  have hok:plcOk p (sortR p):=⟨hp,by rw [hs];exact i4⟩
  have hpl:placeR p (sortR p)=(srtSt p p.length).2:=by unfold placeR;rw [if_pos hok,hs,i3]
  have hid:∀ y,y<(srtSt p p.length).2.length->(srtSt p p.length).2.getD y 0=y:=fun y hy=>ok.fix y (by rw [<- ok.len];exact hy)
  have hcy:=cyN_id ok.prm hid
  have hin:=invL_id (srtSt p p.length).2 0 (fun y hy=>by rw [hid y hy];simp)
  have hsw:swapR p=(p.length:Int) - (cyN p:Nat):=by unfold swapR cyN;rw [if_pos hp]
  have hiv:invR p=((invL p:Nat):Int):=by unfold invR;rw [if_pos hp,invs_invL]
  have hcr:cycR p=(cycSt p p.length).1:=by unfold cycR;rw [if_pos hp]
  have hbd:=invs_bd hp p.length (Nat.le_refl _)
  rw [invs_invL] at hbd
  have hle:=cyN_le hp
  have h8:=hp.1
  rw [hpl]
  rw [hcy,ok.len] at i1
  rw [hin] at i2
  refine ⟨hok,fun y hy=>ok.fix y hy,ok.len,?_,?_,?_,?_,?_,?_,?_⟩
  . rw [hs,hsw];omega
  . rw [hsw,hcr];rfl
  . rw [hsw,hiv];omega
  . omega
  . omega
  . omega
  . omega
theorem prm_moved {q:List Int}{ss:List (Int × Int)}(h:plcOk q ss):Prm (placeR q ss)/\(swapR q+swapR (placeR q ss)+(ss.length:Int)) % 2=0/\swapR (placeR q ss)<=swapR q+(ss.length:Int):=by
  obtain ⟨i1,i2,i3,i4⟩:=plc_all2 ss h.1 h.2
  have hpl:placeR q ss=plcSt q ss:=by unfold placeR;rw [if_pos h]
  rw [hpl]
  have hs1:swapR q=(q.length:Int) - (cyN q:Nat):=by unfold swapR cyN;rw [if_pos h.1]
  have hs2:swapR (plcSt q ss)=((plcSt q ss).length:Int) - (cyN (plcSt q ss):Nat):=by unfold swapR cyN;rw [if_pos i1]
  have l1:=(prm_law h.1).2.2.2.2.2.1
  have l2:=(prm_law i1).2.2.2.2.2.1
  have v1:invR q=((invL q:Nat):Int):=by unfold invR;rw [if_pos h.1,invs_invL]
  have v2:invR (plcSt q ss)=((invL (plcSt q ss):Nat):Int):=by unfold invR;rw [if_pos i1,invs_invL]
  refine ⟨i1,?_,?_⟩
  . rw [v1] at l1
    rw [v2] at l2
    omega
  . rw [hs1,hs2,i2];omega
theorem wlk_ss {es:List (Int × Int)}{k:Nat}{p b:List Int}(h:Wlk es false k p b):∃ ss:List (Int × Int),ss.length=k/\(∀ s ∈ ss,s ∈ es)/\plcSt p ss=b:=by
  induction h with
  | nil=>exact ⟨[],rfl,fun s hs=>by simp at hs,rfl⟩
  | cons h hd ih =>
    obtain ⟨ss,h1,h2,h3⟩:=ih
    rw [nxt_false,List.mem_map] at hd
    obtain ⟨e,he,rfl⟩:=hd
    refine ⟨ss ++ [e],by simp [h1],fun s hs=>?_,?_⟩
    . rcases List.mem_append.1 hs with q | q
      . exact h2 s q
      . simp at q;rw [q];exact he
    . unfold plcSt at h3 ⊢
      rw [List.foldl_append,h3]
      rfl
theorem ss_wlk {es:List (Int × Int)}:∀ (ss:List (Int × Int)) (p:List Int),(∀ s ∈ ss,s ∈ es)->Wlk es false ss.length p (plcSt p ss)
  | [],p,_=>.nil p
  | s :: ss,p,h=>by
    have h1:swp p s.1.toNat s.2.toNat ∈ nxt es false p:=by
      rw [nxt_false]
      exact List.mem_map.2 ⟨s,h s (List.mem_cons_self ..),rfl⟩
    exact .front h1 (ss_wlk ss _ fun t ht=>h t (List.mem_cons_of_mem _ ht))
theorem tk_to {n:Nat}(hn:n<=6){es:List (Int × Int)}(hg:Grd (n:Int) es){p:List Int}(hp:Bd n p):∀ (d:Nat) (b:List Int),Bd n b->bdD (bdR es false p) b=some (d:Int) ->
    (∀ s ∈ (pthL (bdR es false p) es false d b).map (·.1),s ∈ es)/\plcSt b ((pthL (bdR es false p) es false d b).map (·.1))=p
  | 0,b,hb,h=>by
    rw [bdR_zero hn hg false hp h]
    exact ⟨fun s hs=>by simp [pthL] at hs,rfl⟩
  | d+1,b,hb,h=>by
    obtain ⟨e,h1,h2,h3⟩:=fst1_some hn hg false hp h
    rw [mvs_false] at h2
    have hb2:=nxt_bd hg false hb (swp b e.1.toNat e.2.toNat) (by rw [nxt_false];exact List.mem_map.2 ⟨e,h2,rfl⟩)
    obtain ⟨i1,i2⟩:=tk_to hn hg hp d _ hb2 h3
    simp only [pthL,h1,List.map_cons]
    refine ⟨fun s hs=>?_,i2⟩
    rcases List.mem_cons.1 hs with rfl | q
    . exact h2
    . exact i1 s q
theorem edg_sw {n:Nat}{es:List (Int × Int)}(hg:Grd (n:Int) es){s:Int × Int}(h:s ∈ es):swOk n s:=by
  have:=grd_mem hg h
  exact ⟨this.1,this.2.1,this.2.2⟩
theorem swap_hom0:∀ n:Fin 7,swapR (hom n.1)=0:=by decide +kernel
theorem inv_hom0:∀ n:Fin 7,invR (hom n.1)=0:=by decide +kernel
theorem tk_law {n:Int}{es:List (Int × Int)}{p:List Int}{d:Int}(h:tkD n es p=some d) :
    (∀ s ∈ tkL n es p,s ∈ es)/\plcOk p (tkL n es p)/\placeR p (tkL n es p)=hom p.length/\((tkL n es p).length:Int)=d/\swapR p<=d:=by
  have hr:=tkD_rng h
  have hl:=tkL_len n es p
  rw [h] at hl
  have h':=h
  unfold tkD at h'
  split at h'
  rotate_left
  . cases h'
  rename_i e
  obtain ⟨k,rfl,hg,hb,h6⟩:=fld_bd e
  have hh:=hom_bd (n:=k) (by omega)
  simp only [Int.toNat_natCast,tkS] at h'
  have hd':bdD (bdR es false (hom k)) p=some ((d.toNat:Nat):Int):=by rw [Int.toNat_of_nonneg hr.1];exact h'
  obtain ⟨t1,t2⟩:=tk_to h6 hg hh d.toNat p hb hd'
  have hL:tkL (k:Int) es p=(pthL (bdR es false (hom k)) es false d.toNat p).map (·.1):=by unfold tkL;rw [h];rfl
  rw [<- hL] at t1 t2
  have hok:plcOk p (tkL (k:Int) es p):=⟨hb.1,fun s hs=>by rw [hb.2];exact edg_sw hg (t1 s hs)⟩
  have hw:=dist_wlk h6 hg hh d.toNat p hd'
  have hw2:=hw.back hg hb
  obtain ⟨ss,s1,s2,s3⟩:=wlk_ss hw2
  have hok2:plcOk (hom k) ss:=⟨hh.1,fun s hs=>by rw [hh.2];exact edg_sw hg (s2 s hs)⟩
  have hm:=(prm_moved hok2).2.2
  have hpl:placeR (hom k) ss=p:=by unfold placeR;rw [if_pos hok2];exact s3
  have h0:=swap_hom0 ⟨k,by omega⟩
  simp only at h0
  rw [hpl,h0,s1] at hm
  refine ⟨t1,hok,by unfold placeR;rw [if_pos hok,t2,hb.2],?_,?_⟩
  . rw [hl]
    simp only
    omega
  . omega
theorem nd_le {α:Type}[DecidableEq α]:∀ (es F:List α),es.Nodup->(∀ x ∈ es,x ∈ F)->es.length<=F.length
  | [],F,_,_=>Nat.zero_le _
  | x :: t,F,hd,hs=>by
    have hx:=hs x (List.mem_cons_self ..)
    rw [List.nodup_cons] at hd
    have:=nd_le t (F.erase x) hd.2 fun y hy=>(List.mem_erase_of_ne (by rintro rfl;exact hd.1 hy)).2 (hs y (List.mem_cons_of_mem _ hy))
    rw [List.length_erase_of_mem hx] at this
    have:=List.length_pos_of_mem hx
    rw [List.length_cons]
    omega
theorem nd_all {α:Type}[DecidableEq α]{es F:List α}(hd:es.Nodup)(hs:∀ x ∈ es,x ∈ F)(hl:F.length<=es.length):∀ x ∈ F,x ∈ es:=by
  intro x hx
  refine Decidable.byContradiction fun hn=>?_
  have:=nd_le es (F.erase x) hd fun y hy=>(List.mem_erase_of_ne (by rintro rfl;exact hn hy)).2 (hs y hy)
  rw [List.length_erase_of_mem hx] at this
  have:=List.length_pos_of_mem hx
  omega
theorem grd_nd {n:Int}{es:List (Int × Int)}(hg:Grd n es):es.Nodup:=by
  refine (grd_pw hg).imp ?_
  intro p q h e
  subst e
  unfold pairLt at h
  omega
def rowA (n:Nat):Bool:=(pms n).all fun p=>((List.range (n - 1)).all fun x=>Nat.ble (invs (swp p x (x+1)) n) (invs p n+1)) && (decide (p=hom n) || (List.range (n - 1)).any fun x=>invs (swp p x (x+1)) n+1 == invs p n)
theorem rowA0:rowA 0=true:=by decide +kernel
theorem rowA1:rowA 1=true:=by decide +kernel
theorem rowA2:rowA 2=true:=by decide +kernel
theorem rowA3:rowA 3=true:=by decide +kernel
theorem rowA4:rowA 4=true:=by decide +kernel
theorem rowA5:rowA 5=true:=by decide +kernel
theorem rowA6:rowA 6=true:=by decide +kernel
theorem row_ok {n:Nat}(hn:n<=6){p:List Int}(hp:Bd n p):(∀ x,x+1<n->invs (swp p x (x+1)) n<=invs p n+1)/\(p=hom n∨∃ x,x+1<n/\invs (swp p x (x+1)) n+1=invs p n):=by
  have h:rowA n=true:=by
    have:n=0∨n=1∨n=2∨n=3∨n=4∨n=5∨n=6:=by omega
    rcases this with rfl | rfl | rfl | rfl | rfl | rfl | rfl
    . exact rowA0
    . exact rowA1
    . exact rowA2
    . exact rowA3
    . exact rowA4
    . exact rowA5
    . exact rowA6
  have hm:p ∈ pms n:=by
    have:=pms_mem hp.1
    rw [hp.2] at this
    exact this
  have h2:=List.all_eq_true.1 h p hm
  rw [Bool.and_eq_true,List.all_eq_true,Bool.or_eq_true,decide_eq_true_eq,List.any_eq_true] at h2
  refine ⟨fun x hx=>Nat.le_of_ble_eq_true (h2.1 x (List.mem_range.2 (by omega))),h2.2.imp id fun ⟨x,h3,h4⟩=>⟨x,by have:=List.mem_range.1 h3;omega,by simpa using h4⟩⟩
theorem row_edges {n:Nat}{es:List (Int × Int)}(hg:Grd (n:Int) es)(hl:(es.length:Int)=(n:Int) - 1)(hr:∀ e ∈ es,e.2=e.1+1):∀ x:Nat,x+1<n->((x:Int),((x+1:Nat):Int)) ∈ es:=by
  intro x hx
  refine nd_all (F:=(List.range (n - 1)).map fun x:Nat=>((x:Int),((x+1:Nat):Int))) (grd_nd hg) (fun e he=>?_) (by simp;omega) _ (List.mem_map.2 ⟨x,List.mem_range.2 (by omega),rfl⟩)
  have h1:=grd_mem hg he
  have h2:=hr e he
  refine List.mem_map.2 ⟨e.1.toNat,List.mem_range.2 (by omega),?_⟩
  apply Prod.ext
  . show ((e.1.toNat:Nat):Int)=e.1;omega
  . show ((e.1.toNat+1:Nat):Int)=e.2;omega
theorem row_law {n:Int}{es:List (Int × Int)}{p:List Int}{d:Int}(h:tkD n es p=some d)(hl:(es.length:Int)=n - 1)(hr:∀ e ∈ es,e.2=e.1+1):d=invR p:=by
  have hrg:=tkD_rng h
  have h':=h
  unfold tkD at h'
  split at h'
  rotate_left
  . cases h'
  rename_i e
  obtain ⟨k,rfl,hg,hb,h6⟩:=fld_bd e
  have hh:=hom_bd (n:=k) (by omega)
  simp only [Int.toNat_natCast,tkS] at h'
  have hd':bdD (bdR es false (hom k)) p=some ((d.toNat:Nat):Int):=by rw [Int.toNat_of_nonneg hrg.1];exact h'
  have hed:=row_edges hg hl hr
  have hi0:invs (hom k) k=0:=by
    have:=inv_hom0 ⟨k,by omega⟩
    simp only at this
    unfold invR at this
    rw [if_pos hh.1,hh.2] at this
    omega
  have hiv:invR p=(invs p k:Nat):=by unfold invR;rw [if_pos hb.1,hb.2]
  have lo:∀ (m:Nat) (a b:List Int),Wlk es false m a b->Bd k a->invs b k<=invs a k+m:=by
    intro m a b hw
    induction hw with
    | nil=>intro _;omega
    | cons hw hd ih =>
      rename_i m a b c
      intro ha
      have hbb:=hw.bd hg ha
      rw [nxt_false,List.mem_map] at hd
      obtain ⟨s,hs,rfl⟩:=hd
      have h1:=grd_mem hg hs
      have h2:=hr s hs
      have h3:=(row_ok h6 hbb).1 s.1.toNat (by omega)
      have e2:s.2.toNat=s.1.toNat+1:=by omega
      rw [e2]
      have:=ih ha
      omega
  have up:∀ (m:Nat) (a:List Int),Bd k a->invs a k=m->Wlk es false m a (hom k):=by
    intro m
    induction m with
    | zero =>
      intro a ha hm
      rcases (row_ok h6 ha).2 with q | ⟨x,_,q⟩
      . rw [q];exact .nil _
      . omega
    | succ m ih =>
      intro a ha hm
      rcases (row_ok h6 ha).2 with q | ⟨x,hx,q⟩
      . rw [q,hi0] at hm;omega
      . have hc:swp a x (x+1) ∈ nxt es false a:=by
          rw [nxt_false]
          exact List.mem_map.2 ⟨_,hed x hx,by simp⟩
        exact .front hc (ih _ (nxt_bd hg false ha _ hc) (by omega))
  have w1:=dist_wlk h6 hg hh d.toNat p hd'
  have l1:=lo _ _ _ (w1.back hg hb) hh
  obtain ⟨x,u1,u2,u3⟩:=wlk_dist h6 hg hh ((up _ p hb rfl).back hg hb)
  rw [h'] at u1
  cases u1
  rw [hiv]
  omega
def fulE (n:Nat):List (Int × Int):=(List.range n).flatMap fun y=>(List.range y).map fun x:Nat=>((x:Int),(y:Int))
theorem ful_len:∀ n:Fin 7,(fulE n.1).length=n.1 * (n.1 - 1) / 2:=by decide +kernel
theorem ful_div:∀ n:Fin 7,(((n.1:Nat):Int) * (((n.1:Nat):Int) - 1)).tdiv 2=((n.1 * (n.1 - 1) / 2:Nat):Int):=by decide +kernel
theorem ful_mem {n x y:Nat}(hx:x<y)(hy:y<n):((x:Int),(y:Int)) ∈ fulE n :=
  List.mem_flatMap.2 ⟨y,List.mem_range.2 hy,List.mem_map.2 ⟨x,List.mem_range.2 hx,rfl⟩⟩
theorem ful_law {n:Int}{es:List (Int × Int)}{p:List Int}{d:Int}(h:tkD n es p=some d)(hl:(es.length:Int)=(n * (n - 1)).tdiv 2):d=swapR p:=by
  have hlaw:=tk_law h
  have hrg:=tkD_rng h
  have h':=h
  unfold tkD at h'
  split at h'
  rotate_left
  . cases h'
  rename_i e
  obtain ⟨k,rfl,hg,hb,h6⟩:=fld_bd e
  have hh:=hom_bd (n:=k) (by omega)
  simp only [Int.toNat_natCast,tkS] at h'
  have hfl:(fulE k).length=es.length:=by
    have h1:=ful_len ⟨k,by omega⟩
    simp only at h1
    have h2:=ful_div ⟨k,by omega⟩
    simp only at h2
    rw [h2] at hl
    rw [h1]
    exact (Int.ofNat.inj hl).symm
  have hall:=nd_all (F:=fulE k) (grd_nd hg) (fun e he=>by
    have h1:=grd_mem hg he
    have:=ful_mem (n:=k) (x:=e.1.toNat) (y:=e.2.toNat) (by omega) (by omega)
    have e1:((e.1.toNat:Nat):Int)=e.1:=by omega
    have e2:((e.2.toNat:Nat):Int)=e.2:=by omega
    rw [e1,e2] at this
    exact this) (by omega)
  obtain ⟨p1,p2,p3,p4,_⟩:=prm_law hb.1
  have hss:∀ s ∈ sortR p,s ∈ es:=fun s hs=>by
    have h1:=p1.2 s hs
    unfold swOk at h1
    rw [hb.2] at h1
    have:=hall _ (ful_mem (n:=k) (x:=s.1.toNat) (y:=s.2.toNat) (by omega) (by omega))
    have e1:((s.1.toNat:Nat):Int)=s.1:=by omega
    have e2:((s.2.toNat:Nat):Int)=s.2:=by omega
    rw [e1,e2] at this
    exact this
  have hpl:plcSt p (sortR p)=hom k:=by
    unfold placeR at p2 p3
    rw [if_pos p1] at p2 p3
    refine List.ext_getElem (by rw [p3,hb.2,hom_len]) fun i h1 h2=>?_
    have:=p2 i (by omega)
    have e1:(plcSt p (sortR p)).getD i 0=(plcSt p (sortR p))[i]:=by simp [h1]
    rw [<- e1,this]
    simp [hom]
  have hw:=ss_wlk (sortR p) p hss
  rw [hpl] at hw
  obtain ⟨x,u1,u2,u3⟩:=wlk_dist h6 hg hh (hw.back hg hb)
  rw [h'] at u1
  cases u1
  have:=hlaw.2.2.2.2
  omega
def cd12:Cd:=(.seq (.reg [⟨⟨some 2,.box 26 (.tmp 0),none⟩,[]⟩,⟨⟨some 4,.assign (.const (.int .i64 0)),none⟩,[]⟩,⟨⟨some 5,.assign (.const (.bool false)),none⟩,[]⟩]) (.seq (.seq (.reg [⟨⟨some 11,.load 26 (.tmp 2),none⟩,[]⟩,⟨⟨some 12,.move (.tmp 1),none⟩,[]⟩,⟨⟨some 13,.call ⟨(.value (.func 62)),#[.tmp 11,.tmp 12],#[26,27]⟩,none⟩,[]⟩,⟨⟨some 14,.unOp .not 4 (.tmp 13),none⟩,[]⟩]) (.cond (.tmp 14) (.seq (.reg [⟨⟨some 4,.assign (.const (.int .i64 0)),none⟩,[]⟩,⟨⟨some 5,.assign (.const (.bool false)),none⟩,[]⟩]) .ret) .skip)) (.seq (.reg [⟨⟨some 15,.load 26 (.tmp 2),none⟩,[]⟩,⟨⟨some 16,.call ⟨(.value (.func 73)),#[.tmp 15],#[26]⟩,none⟩,[]⟩,⟨⟨some 6,.assign (.tmp 16),none⟩,[]⟩,⟨⟨some 7,.assign (.const (.int .i64 0)),none⟩,[]⟩]) (.seq (.seq (.reg [⟨⟨some 17,.move (.tmp 1),none⟩,[]⟩,⟨⟨some 18,.call ⟨(.builtin .len),#[.tmp 17],#[27]⟩,none⟩,[]⟩,⟨⟨some 19,.move (.const (.int .i64 0)),none⟩,[]⟩]) (.block 0 (.loop (.seq (.reg [⟨⟨some 20,.binOp .lss 3 (.tmp 19) (.tmp 18) 3,none⟩,[]⟩]) (.seq (.cond (.tmp 20) .skip (.exit 0)) (.seq (.block 1 (.seq (.reg [⟨⟨some 21,.move (.tmp 19),none⟩,[]⟩,
 ⟨⟨some 22,.indexAddr 27 (.tmp 17) (.tmp 19),none⟩,[]⟩,⟨⟨some 23,.load 3 (.tmp 22),none⟩,[]⟩,⟨⟨some 8,.assign (.tmp 21),none⟩,[]⟩,⟨⟨some 9,.assign (.tmp 23),none⟩,[]⟩]) (.seq (.reg [⟨⟨some 24,.move (.tmp 6),none⟩,[]⟩,⟨⟨some 25,.move (.tmp 8),none⟩,[]⟩,⟨⟨some 26,.call ⟨(.value (.func 74)),#[.tmp 24,.tmp 25],#[36,3]⟩,none⟩,[]⟩,⟨⟨some 27,.move (.tmp 9),none⟩,[]⟩,⟨⟨some 28,.indexAddr 27 (.tmp 26) (.tmp 27),none⟩,[]⟩,⟨⟨some 29,.load 3 (.tmp 28),none⟩,[]⟩,⟨⟨some 10,.assign (.tmp 29),none⟩,[]⟩]) (.seq (.seq (.reg [⟨⟨some 30,.move (.tmp 10),none⟩,[]⟩,⟨⟨some 31,.binOp .lss 3 (.tmp 30) (.const (.int .i64 0)) 3,none⟩,[]⟩]) (.cond (.tmp 31) (.seq (.reg [⟨⟨some 4,.assign (.const (.int .i64 0)),none⟩,[]⟩,⟨⟨some 5,.assign (.const (.bool false)),none⟩,[]⟩]) .ret) .skip)) (.reg [⟨⟨some 32,.move (.tmp 7),none⟩,[]⟩,
 ⟨⟨some 33,.move (.tmp 10),none⟩,[]⟩,
  ⟨⟨some 34,.binOp .add 3 (.tmp 32) (.tmp 33) 3,none⟩,[]⟩,
  ⟨⟨some 7,.assign (.tmp 34),none⟩,[]⟩]))))) (.reg [⟨⟨some 35,.binOp .add 3 (.tmp 19) (.const (.int .i64 1)) 3,none⟩,[]⟩,
  ⟨⟨some 19,.move (.tmp 35),none⟩,[]⟩]))))))) (.seq (.reg [⟨⟨some 36,.move (.tmp 7),none⟩,[]⟩,
  ⟨⟨some 37,.binOp .add 3 (.tmp 36) (.const (.int .i64 1)) 3,none⟩,[]⟩,
  ⟨⟨some 38,.binOp .quo 3 (.tmp 37) (.const (.int .i64 2)) 3,none⟩,[]⟩,
  ⟨⟨some 4,.assign (.tmp 38),none⟩,[]⟩,
  ⟨⟨some 5,.assign (.const (.bool true)),none⟩,[]⟩]) .ret)))))
theorem in12:InT Tryz.prog 12 2 [.tmp 4,.tmp 5] cd12:=InT.mk (by kernel_rfl) [] Tryz.func12 rfl (by kernel_rfl) (by kernel_rfl) (of_decide_eq_true (by kernel_rfl)) (by kernel_rfl)
def cd13:Cd:=(.seq (.reg [⟨⟨some 2,.box 26 (.tmp 0),none⟩,[]⟩,⟨⟨some 4,.assign (.const (.int .i64 0)),none⟩,[]⟩,⟨⟨some 5,.assign (.const (.bool false)),none⟩,[]⟩]) (.seq (.seq (.reg [⟨⟨some 9,.load 26 (.tmp 2),none⟩,[]⟩,⟨⟨some 10,.call ⟨(.value (.func 75)),#[.tmp 9],#[26]⟩,none⟩,[]⟩,⟨⟨some 11,.unOp .not 4 (.tmp 10),none⟩,[]⟩,⟨⟨some 12,.move (.tmp 11),none⟩,[]⟩,⟨⟨some 13,.move (.tmp 1),some (12,false)⟩,[]⟩,⟨⟨some 14,.call ⟨(.builtin .len),#[.tmp 13],#[27]⟩,some (12,false)⟩,[]⟩,⟨⟨some 15,.fieldAddr 26 (.tmp 2) 0,some (12,false)⟩,[]⟩,⟨⟨some 16,.load 3 (.tmp 15),some (12,false)⟩,[]⟩,⟨⟨some 17,.binOp .neq 3 (.tmp 14) (.tmp 16) 3,some (12,false)⟩,[]⟩,⟨⟨some 18,.pick (.tmp 12) (.const (.bool true)) (.tmp 17),none⟩,[]⟩,
 ⟨⟨some 19,.move (.tmp 18),none⟩,[]⟩,⟨⟨some 20,.move (.tmp 1),some (19,false)⟩,[]⟩,⟨⟨some 21,.call ⟨(.value (.func 76)),#[.tmp 20],#[27]⟩,some (19,false)⟩,[]⟩,⟨⟨some 22,.unOp .not 4 (.tmp 21),some (19,false)⟩,[]⟩,⟨⟨some 23,.pick (.tmp 19) (.const (.bool true)) (.tmp 22),none⟩,[]⟩]) (.cond (.tmp 23) (.seq (.reg [⟨⟨some 4,.assign (.const (.int .i64 0)),none⟩,[]⟩,⟨⟨some 5,.assign (.const (.bool false)),none⟩,[]⟩]) .ret) .skip)) (.seq (.reg [⟨⟨some 6,.assign (.const (.int .i64 0)),none⟩,[]⟩]) (.seq (.seq (.reg [⟨⟨some 7,.assign (.const (.int .i64 0)),none⟩,[]⟩]) (.block 0 (.loop (.seq (.seq (.reg [⟨⟨some 24,.move (.tmp 7),none⟩,[]⟩,⟨⟨some 25,.move (.tmp 1),none⟩,[]⟩,⟨⟨some 26,.call ⟨(.builtin .len),#[.tmp 25],#[27]⟩,none⟩,[]⟩,⟨⟨some 27,.binOp .lss 3 (.tmp 24) (.tmp 26) 3,none⟩,[]⟩]) (.cond (.tmp 27) .skip (.exit 0))) (.seq (.block 1 (.seq (.reg [⟨⟨some 30,.load 26 (.tmp 2),none⟩,[]⟩,⟨⟨some 31,.move (.tmp 7),none⟩,[]⟩,⟨⟨some 33,.move (.tmp 1),none⟩,[]⟩,⟨⟨some 34,.move (.tmp 7),none⟩,[]⟩,
 ⟨⟨some 35,.indexAddr 27 (.tmp 33) (.tmp 34),none⟩,[]⟩,⟨⟨some 36,.load 3 (.tmp 35),none⟩,[]⟩,⟨⟨some 32,.call ⟨(.value (.func 77)),#[.tmp 30,.tmp 31],#[26,3]⟩,none⟩,[⟨some 36,.load 3 (.tmp 35),none⟩]⟩,⟨⟨some 37,.indexAddr 27 (.tmp 32) (.tmp 36),none⟩,[]⟩,⟨⟨some 38,.load 3 (.tmp 37),none⟩,[]⟩,⟨⟨some 8,.assign (.tmp 38),none⟩,[]⟩]) (.seq (.seq (.reg [⟨⟨some 39,.move (.tmp 8),none⟩,[]⟩,⟨⟨some 40,.binOp .lss 3 (.tmp 39) (.const (.int .i64 0)) 3,none⟩,[]⟩]) (.cond (.tmp 40) (.seq (.reg [⟨⟨some 4,.assign (.const (.int .i64 0)),none⟩,[]⟩,⟨⟨some 5,.assign (.const (.bool false)),none⟩,[]⟩]) .ret) .skip)) (.reg [⟨⟨some 41,.move (.tmp 6),none⟩,[]⟩,⟨⟨some 42,.move (.tmp 8),none⟩,[]⟩,⟨⟨some 43,.binOp .add 3 (.tmp 41) (.tmp 42) 3,none⟩,[]⟩,⟨⟨some 6,.assign (.tmp 43),none⟩,[]⟩])))) (.reg [⟨⟨some 28,.move (.tmp 7),none⟩,[]⟩,⟨⟨some 29,.binOp .add 3 (.tmp 28) (.const (.int .i64 1)) 3,none⟩,[]⟩,
 ⟨⟨some 7,.assign (.tmp 29),none⟩,[]⟩])))))) (.seq (.reg [⟨⟨some 44,.move (.tmp 6),none⟩,[]⟩,
  ⟨⟨some 45,.binOp .add 3 (.tmp 44) (.const (.int .i64 1)) 3,none⟩,[]⟩,
  ⟨⟨some 46,.binOp .quo 3 (.tmp 45) (.const (.int .i64 2)) 3,none⟩,[]⟩,
  ⟨⟨some 4,.assign (.tmp 46),none⟩,[]⟩,
  ⟨⟨some 5,.assign (.const (.bool true)),none⟩,[]⟩]) .ret)))))
theorem in13:InT Tryz.prog 13 2 [.tmp 4,.tmp 5] cd13:=InT.mk (by kernel_rfl) [(7,[(0,false),(1,false),(3,false),(4,false),(5,false),(6,false),(2,true),(7,false),(8,false),(9,false)])] Tryz.func13 rfl (by kernel_rfl) (by kernel_rfl) (of_decide_eq_true (by kernel_rfl)) (by kernel_rfl)
end Go.Proofs.YtjnefjchconebaaGreat.Ai
namespace Go.Proofs.YtjnefjchconebaaGreat.Ai
open Go Go.RowKit
def halfD (n:Nat)(es:List (Int × Int))(p:List Int)(k:Nat):Int:=(bfs (roadsL n es) k).getD (p.getD k 0).toNat 0
def halfU (n:Nat)(es:List (Int × Int))(p:List Int):Nat->Option Int
  | 0=>some 0
  | k+1=>match halfU n es p k with
    | none=>none
    | some s=>if halfD n es p k<0 then none else some (s+halfD n es p k)
theorem halfU_none (n:Nat)(es:List (Int × Int))(p:List Int)(k j:Nat)(h:halfU n es p k=none):halfU n es p (k+j)=none:=by
  induction j with
  | zero=>exact h
  | succ j ih=>rw [<- Nat.add_assoc,halfU,ih]
theorem halfU_bad {n:Nat}{es:List (Int × Int)}{p:List Int}{k N:Nat}{s:Int}(h:halfU n es p k=some s)(hd:halfD n es p k<0)(hk:k<N):halfU n es p N=none:=by
  have:halfU n es p (k+1)=none:=by rw [halfU,h];simp only;rw [if_pos hd]
  have:=halfU_none n es p (k+1) (N - (k+1)) this
  rwa [show k+1+(N - (k+1))=N by omega] at this
theorem halfU_step {n:Nat}{es:List (Int × Int)}{p:List Int}{k:Nat}{s:Int}(h:halfU n es p k=some s)(hd:¬ halfD n es p k<0):halfU n es p (k+1)=some (s+halfD n es p k):=by
  rw [halfU,h];simp only;rw [if_neg hd]
def halfR (n:Int)(es:List (Int × Int))(p:List Int):Option Int:=if Tkn n es p then halfU n.toNat es p p.length else none
def halfV (o:Option Int):Int:=match o with | some s=>(s+1).tdiv 2 | none=>0
theorem tkn_at {n:Int}{es:List (Int × Int)}{p:List Int}(h:Tkn n es p){k:Nat}(hk:k<p.length):0<=p.getD k 0/\p.getD k 0<n:=by
  have:=(prm_range h.1.2).1 k hk
  have:=h.2
  omega
theorem half_rng {n:Int}{es:List (Int × Int)}{p:List Int}(h:Tkn n es p){k:Nat}(hk:k<p.length):(bfs (roadsL n.toNat es) k).length=n.toNat /\ -1<=halfD n.toNat es p k/\halfD n.toNat es p k<=8:=by
  have h1:=h.2
  have h2:=h.1.1.1
  have h3:=tkn_at h hk
  have hl:=roadsL_len n.toNat es
  have:=bfs_rng (roadsL n.toNat es) (roadsL_ok _ _) k (by omega)
  obtain ⟨q1,q2⟩:=this
  have:=q2 (p.getD k 0).toNat (by omega)
  unfold halfD
  omega
theorem tdiv2 {s:Int}(h:0<=s/\s<=1000000):IntKind.i64.wrap (s.tdiv 2)=s.tdiv 2:=by
  rw [Int.tdiv_eq_ediv_of_nonneg h.1]
  exact wrap64 (by omega) (by omega)
theorem HalfI_c (n:Int)(v w:Value)(es:List (Int × Int))(p:List Int)(H:AH)(hr:RowP 47 H v es)(hlen:es.length<=1099511627776)(hes:∀ y ∈ es,I64 y.1/\I64 y.2)(hp:Row 3 H w p)(hlp:p.length<=1099511627776)(hxp:∀ y ∈ p,I64 y)(hn:I64 n) :
    ACalls Tryz.prog 12 [.agg (List.toArray [.int .i64 n,v]),w] H fun r H'=>r=.tuple (List.toArray [.int .i64 (halfV (halfR n es p)),.bool (halfR n es p).isSome])/\H<+:H':=by
  refine in12 rfl ?_
  intro Q hQ
  simp (disch:=omega) only [cd12,hr.boxG,SS,eq_self,reduceIte,reduceCtorEq,Nat.reduceEqDiff,Nat.reduceAdd]
  generalize hA:H ++ [AObj.cells [.int .i64 n,v] 26 false]=A
  have pA:H<+:A:=by rw [<- hA];exact List.prefix_append _ _
  have cA:A[H.length]?=some (.cells [.int .i64 n,v] 26 false):=by rw [<- hA];exact at_new ..
  have rA:=hr.pre pA
  simp (disch:=omega) only [ld_agg ag26 cs26 cA,SS,eq_self,reduceIte,reduceCtorEq,Nat.reduceEqDiff,Nat.reduceAdd]
  refine CallH.by (isTokens_c n v w es p A rA hlen (hp.pre pA) hlp hxp) ?_
  rintro _ B ⟨rfl,pB⟩
  have cB:=pre_at pB cA
  have pHB:=pA.trans pB
  simp (disch:=omega) only [SS,eq_self,reduceIte,reduceCtorEq,Nat.reduceEqDiff,Nat.reduceAdd]
  refine brD.intro (fun e=>?_) (fun e=>?_) <;> simp (disch:=omega) only [e,ld_agg ag26 cs26 cB,SS,eq_self,reduceIte,reduceCtorEq,Nat.reduceEqDiff,Nat.reduceAdd]
  . have hg:=e.1.1
    have hnn:=hg.1
    have hpl:=e.2
    have hR:halfR n es p=halfU n.toNat es p p.length:=by simp [halfR,e]
    refine CallH.by (roads_c n v es B (rA.pre pB) hlen hg) ?_
    rintro L C ⟨hL,pC⟩
    have pHC:=pHB.trans pC
    have hrow:=hL.row
    simp (disch:=omega) only [hp.len Tryz.underlying27,SS,eq_self,reduceIte,reduceCtorEq,Nat.reduceEqDiff,Nat.reduceAdd]
    refine LoopH.by (fun m s H'=>∃ k t,m+k=p.length/\s 6=L/\s 7=.int .i64 t/\s 17=w/\s 18=.int .i64 (p.length:Int)/\s 19=.int .i64 ((k:Nat):Int)/\halfU n.toNat es p k=some t/\0<=t/\t<=8 * k/\C<+:H') p.length ?_ ?_
    . exact ⟨0,0,by simp,rfl,rfl,rfl,rfl,rfl,rfl,by omega,by omega,List.prefix_refl _⟩
    . rintro m s H' ⟨k,t,hm,h6,h7,h17,h18,h19,hU,ht0,ht1,hpp⟩
      have hp':=hp.pre (pHC.trans hpp)
      simp (disch:=omega) only [h6,h7,h17,h18,h19,SS,eq_self,reduceIte,reduceCtorEq,Nat.reduceEqDiff,Nat.reduceAdd]
      refine brD.intro (fun g=>?_) (fun g=>?_)
      . have hk:k<p.length:=by omega
        obtain ⟨q1,q2,q3⟩:=half_rng e hk
        have hpk:=tkn_at e hk
        simp (disch:=omega) only [h6,h7,h17,h18,h19,hp'.ix Tryz.underlying27 cs3,hp'.cell,Int.toNat_natCast,SS,eq_self,reduceIte,reduceCtorEq,Nat.reduceEqDiff,Nat.reduceAdd]
        refine CallH.by (spread_c L (roadsL n.toNat es) k H' (hrow.pre hpp) (roadsL_ok _ _) (by rw [roadsL_len];omega) (by rw [roadsL_len];omega) (roadsL_small _ _ (by omega))) ?_
        rintro u D ⟨hu,pD⟩
        have hD:(bfs (roadsL n.toNat es) k).getD (p.getD k 0).toNat 0=halfD n.toNat es p k:=rfl
        simp (disch:=omega) only [hu.row.ix Tryz.underlying27 cs3,hu.row.cell,hD,SS,eq_self,reduceIte,reduceCtorEq,Nat.reduceEqDiff,Nat.reduceAdd]
        refine brD.intro (fun q=>?_) (fun q=>?_) <;> simp (disch:=omega) only [q,h6,h7,h17,h18,h19,wrap64,SS,eq_self,reduceIte,reduceCtorEq,Nat.reduceEqDiff,Nat.reduceAdd]
        . refine hQ _ _ _ ?_
          simp (disch:=omega) only [SS,eq_self,reduceIte,reduceCtorEq,Nat.reduceEqDiff,Nat.reduceAdd]
          rw [hR,halfU_bad hU q hk]
          exact ⟨rfl,pHC.trans (hpp.trans pD)⟩
        . have f1:=halfU_step hU q
          have f2:=hpp.trans pD
          refine ⟨m - 1,by omega,k+1,t+halfD n.toNat es p k,?_⟩
          (repeat' first | exact f1 | exact f2 | apply And.intro) <;> first | (simp only [Value.int.injEq,true_and];omega) | omega | rfl | assumption | (simp;done) | (simp;omega)
      . have hk:k=p.length:=by omega
        subst hk
        simp (disch:=omega) only [h7,tdiv2 (s:=t+1),wrap64,SS,eq_self,reduceIte,reduceCtorEq,Nat.reduceEqDiff,Nat.reduceAdd]
        refine hQ _ _ _ ?_
        simp (disch:=omega) only [h7,SS,eq_self,reduceIte,reduceCtorEq,Nat.reduceEqDiff,Nat.reduceAdd]
        rw [hR,hU]
        exact ⟨rfl,pHC.trans hpp⟩
  . refine hQ _ _ _ ?_
    simp (disch:=omega) only [SS,eq_self,reduceIte,reduceCtorEq,Nat.reduceEqDiff,Nat.reduceAdd]
    have hR:halfR n es p=none:=by simp [halfR,e]
    rw [hR]
    exact ⟨rfl,pHB⟩
theorem HalfS_c (n:Int)(v w:Value)(es:List (Int × Int))(p:List Int)(H:AH)(hr:RowP 47 H v es)(hlen:es.length<=1099511627776)(hes:∀ y ∈ es,I64 y.1/\I64 y.2)(hp:Row 3 H w p)(hlp:p.length<=1099511627776)(hxp:∀ y ∈ p,I64 y)(hn:I64 n) :
    ACalls Tryz.prog 13 [.agg (List.toArray [.int .i64 n,v]),w] H fun r H'=>r=.tuple (List.toArray [.int .i64 (halfV (halfR n es p)),.bool (halfR n es p).isSome])/\H<+:H':=by
  refine in13 rfl ?_
  intro Q hQ
  simp (disch:=omega) only [cd13,hr.boxG,SS,eq_self,reduceIte,reduceCtorEq,Nat.reduceEqDiff,Nat.reduceAdd]
  generalize hA:H ++ [AObj.cells [.int .i64 n,v] 26 false]=A
  have pA:H<+:A:=by rw [<- hA];exact List.prefix_append _ _
  have cA:A[H.length]?=some (.cells [.int .i64 n,v] 26 false):=by rw [<- hA];exact at_new ..
  have rA:=hr.pre pA
  simp (disch:=omega) only [ld_agg ag26 cs26 cA,SS,eq_self,reduceIte,reduceCtorEq,Nat.reduceEqDiff,Nat.reduceAdd]
  refine CallH.by (l2Good_c n v es A rA hlen) ?_
  rintro _ B ⟨rfl,pB⟩
  have cB:=pre_at pB cA
  have pHB:=pA.trans pB
  have hpB:=hp.pre pHB
  have no:¬ Tkn n es p->∀ G,H<+:G->(Value.tuple (List.toArray [.int .i64 0,.bool false])=.tuple (List.toArray [.int .i64 (halfV (halfR n es p)),.bool (halfR n es p).isSome])/\H<+:G):=fun h G hG=>by
    have hR:halfR n es p=none:=by simp [halfR,h]
    rw [hR]
    exact ⟨rfl,hG⟩
  simp (disch:=omega) only [SS,eq_self,reduceIte,reduceCtorEq,Nat.reduceEqDiff,Nat.reduceAdd]
  refine brD.intro (fun e=>?_) (fun e=>?_) <;> simp (disch:=omega) only [e,hpB.len Tryz.underlying27,cell_of cB,SS,eq_self,reduceIte,reduceCtorEq,Nat.reduceEqDiff,Nat.reduceAdd]
  . refine brD.intro (fun e2=>?_) (fun e2=>?_) <;> simp (disch:=omega) only [e,e2,SS,eq_self,reduceIte,reduceCtorEq,Nat.reduceEqDiff,Nat.reduceAdd]
    . refine hQ _ _ _ ?_
      simp (disch:=omega) only [SS,eq_self,reduceIte,reduceCtorEq,Nat.reduceEqDiff,Nat.reduceAdd]
      exact no (fun h=>e2 h.2) _ pHB
    . refine CallH.by (l9Perm_c w p B hpB hlp) ?_
      rintro _ _ ⟨rfl,rfl⟩
      simp (disch:=omega) only [e,e2,SS,eq_self,reduceIte,reduceCtorEq,Nat.reduceEqDiff,Nat.reduceAdd]
      refine brD.intro (fun e3=>?_) (fun e3=>?_) <;> simp (disch:=omega) only [e,e2,e3,SS,eq_self,reduceIte,reduceCtorEq,Nat.reduceEqDiff,Nat.reduceAdd]
      . have hT:Tkn n es p:=⟨⟨e,e3⟩,by omega⟩
        have hnn:=e.1
        have hpl:=hT.2
        have hR:halfR n es p=halfU n.toNat es p p.length:=by simp [halfR,hT]
        refine LoopH.by (fun m s H'=>∃ k t,m+k=p.length/\s 1=w/\s 2=.pointer (some ⟨H.length,0,none⟩)/\s 6=.int .i64 t/\s 7=.int .i64 ((k:Nat):Int)/\halfU n.toNat es p k=some t/\0<=t/\t<=8 * k/\B<+:H') p.length ?_ ?_
        . exact ⟨0,0,by simp,rfl,rfl,rfl,rfl,rfl,by omega,by omega,List.prefix_refl _⟩
        . rintro m s H' ⟨k,t,hm,h1,h2,h6,h7,hU,ht0,ht1,hpp⟩
          have hp':=hpB.pre hpp
          have cH:=pre_at hpp cB
          simp (disch:=omega) only [h1,h2,h6,h7,hp'.len Tryz.underlying27,SS,eq_self,reduceIte,reduceCtorEq,Nat.reduceEqDiff,Nat.reduceAdd]
          refine brD.intro (fun g=>?_) (fun g=>?_)
          . have hk:k<p.length:=by omega
            obtain ⟨q1,q2,q3⟩:=half_rng hT hk
            have hpk:=tkn_at hT hk
            simp (disch:=omega) only [h1,h2,h6,h7,ld_agg ag26 cs26 cH,hp'.ix Tryz.underlying27 cs3,hp'.cell,Int.toNat_natCast,SS,eq_self,reduceIte,reduceCtorEq,Nat.reduceEqDiff,Nat.reduceAdd]
            refine CallH.by (l3Far_c n v es k H' (rA.pre (pB.trans hpp)) hlen hnn (by omega)) ?_
            rintro u D ⟨hu,pD⟩
            have hpD:=hp'.pre pD
            have hD:(bfs (roadsL n.toNat es) k).getD (p.getD k 0).toNat 0=halfD n.toNat es p k:=rfl
            simp (disch:=omega) only [hpD.cell,hu.row.ix Tryz.underlying27 cs3,hu.row.cell,hD,SS,eq_self,reduceIte,reduceCtorEq,Nat.reduceEqDiff,Nat.reduceAdd]
            refine brD.intro (fun q=>?_) (fun q=>?_) <;> simp (disch:=omega) only [q,h1,h2,h6,h7,wrap64,SS,eq_self,reduceIte,reduceCtorEq,Nat.reduceEqDiff,Nat.reduceAdd]
            . refine hQ _ _ _ ?_
              simp (disch:=omega) only [SS,eq_self,reduceIte,reduceCtorEq,Nat.reduceEqDiff,Nat.reduceAdd]
              rw [hR,halfU_bad hU q hk]
              exact ⟨rfl,pHB.trans (hpp.trans pD)⟩
            . have f1:=halfU_step hU q
              have f2:=hpp.trans pD
              refine ⟨m - 1,by omega,k+1,t+halfD n.toNat es p k,?_⟩
              (repeat' first | exact f1 | exact f2 | apply And.intro) <;> first | (simp only [Value.int.injEq,true_and];omega) | omega | rfl | assumption | (simp;done) | (simp;omega)
          . have hk:k=p.length:=by omega
            subst hk
            simp (disch:=omega) only [h6,tdiv2 (s:=t+1),wrap64,SS,eq_self,reduceIte,reduceCtorEq,Nat.reduceEqDiff,Nat.reduceAdd]
            refine hQ _ _ _ ?_
            simp (disch:=omega) only [h6,SS,eq_self,reduceIte,reduceCtorEq,Nat.reduceEqDiff,Nat.reduceAdd]
            rw [hR,hU]
            exact ⟨rfl,pHB.trans hpp⟩
      . refine hQ _ _ _ ?_
        simp (disch:=omega) only [SS,eq_self,reduceIte,reduceCtorEq,Nat.reduceEqDiff,Nat.reduceAdd]
        exact no (fun h=>e3 h.1.2) _ pHB
  . refine hQ _ _ _ ?_
    simp (disch:=omega) only [SS,eq_self,reduceIte,reduceCtorEq,Nat.reduceEqDiff,Nat.reduceAdd]
    exact no (fun h=>e h.1.1) _ pHB
def hSum (n:Nat)(es:List (Int × Int))(p:List Int):Nat->Int
  | 0=>0
  | k+1=>hSum n es p k+halfD n es p k
theorem halfU_sum {n:Nat}{es:List (Int × Int)}{p:List Int}:∀ k,(∀ j,j<k->0<=halfD n es p j)->halfU n es p k=some (hSum n es p k)
  | 0,_=>rfl
  | k+1,h=>by
    rw [halfU_step (halfU_sum k fun j hj=>h j (by omega)) (by have:=h k (by omega);omega)]
    rfl
theorem roads_sym (n:Nat)(es:List (Int × Int)):Sym (roadsL n es):=by
  intro u v hu hv h
  rw [roadsL_len] at hu hv
  rw [roadsL_at n es u hu,nbsU_mem] at h
  rw [roadsL_at n es v hv,nbsU_mem]
  exact ⟨⟨by omega,by omega⟩,by rw [nearB_comm];exact h.2⟩
theorem far_edge {n:Nat}{es:List (Int × Int)}{x y z:Nat}(hx:x<n)(hy:y<n)(hz:z<n)(hn:nearB es x y=true)(h0:0<=(bfs (roadsL n es) y).getD z 0) :
    0<=(bfs (roadsL n es) x).getD z 0/\(bfs (roadsL n es) x).getD z 0<=(bfs (roadsL n es) y).getD z 0+1:=by
  have hok:=roadsL_ok n es
  have hs:=roads_sym n es
  have hlen:=roadsL_len n es
  have e1:=bfs_sym hok hs (i:=y) (j:=z) (by omega) (by omega) h0
  have hm:((x:Nat):Int) ∈ (roadsL n es).getD y []:=by
    rw [roadsL_at n es y hy,nbsU_mem]
    exact ⟨⟨by omega,by omega⟩,by rw [nearB_comm];exact hn⟩
  have e2:=bfs_edge hok (i:=z) (by omega) (u:=y) (by omega) (by rw [e1];exact h0) hm
  rw [Int.toNat_natCast] at e2
  have e3:=bfs_sym hok hs (i:=z) (j:=x) (by omega) (by omega) e2.1
  rw [e3]
  omega
theorem hSum_swp {n:Nat}{es:List (Int × Int)}{p:List Int}(hp:p.length=n){x y:Nat}(hx:x<n)(hy:y<n)(hxy:x ≠ y):∀ k,k<=n ->
    hSum n es (swp p x y) k=hSum n es p k+(if x<k then (bfs (roadsL n es) x).getD (p.getD y 0).toNat 0 - halfD n es p x else 0)+(if y<k then (bfs (roadsL n es) y).getD (p.getD x 0).toNat 0 - halfD n es p y else 0)
  | 0,_=>by simp [hSum]
  | k+1,hk=>by
    have ih:=hSum_swp (es:=es) hp hx hy hxy k (by omega)
    have hat:=swp_at p x y k (by omega) (by omega) (by omega)
    show hSum n es (swp p x y) k+halfD n es (swp p x y) k=hSum n es p k+halfD n es p k+_+_
    have hd:halfD n es (swp p x y) k=(bfs (roadsL n es) k).getD ((swp p x y).getD k 0).toNat 0:=rfl
    have hx2:(if x<k+1 then (bfs (roadsL n es) x).getD (p.getD y 0).toNat 0 - halfD n es p x else 0)=(if x<k then (bfs (roadsL n es) x).getD (p.getD y 0).toNat 0 - halfD n es p x else 0)+if k=x then (bfs (roadsL n es) x).getD (p.getD y 0).toNat 0 - halfD n es p x else 0:=by
      by_cases c1:x<k
      . rw [if_pos c1,if_pos (show x<k+1 by omega),if_neg (show ¬ k=x by omega)];omega
      . by_cases c2:k=x
        . rw [if_neg c1,if_pos c2,if_pos (show x<k+1 by omega)];omega
        . rw [if_neg c1,if_neg c2,if_neg (show ¬ x<k+1 by omega)];omega
    have hy2:(if y<k+1 then (bfs (roadsL n es) y).getD (p.getD x 0).toNat 0 - halfD n es p y else 0)=(if y<k then (bfs (roadsL n es) y).getD (p.getD x 0).toNat 0 - halfD n es p y else 0)+if k=y then (bfs (roadsL n es) y).getD (p.getD x 0).toNat 0 - halfD n es p y else 0:=by
      by_cases c1:y<k
      . rw [if_pos c1,if_pos (show y<k+1 by omega),if_neg (show ¬ k=y by omega)];omega
      . by_cases c2:k=y
        . rw [if_neg c1,if_pos c2,if_pos (show y<k+1 by omega)];omega
        . rw [if_neg c1,if_neg c2,if_neg (show ¬ y<k+1 by omega)];omega
    rw [ih,hd,hat,hx2,hy2]
    have hk2:halfD n es p k=(bfs (roadsL n es) k).getD (p.getD k 0).toNat 0:=rfl
    by_cases e1:k=y
    . rw [if_pos e1,if_neg (show ¬ k=x by omega),if_pos e1]
      subst e1
      omega
    . rw [if_neg e1,if_neg e1]
      by_cases e2:k=x
      . rw [if_pos e2,if_pos e2]
        subst e2
        omega
      . rw [if_neg e2,if_neg e2,hk2]
        omega
theorem half_wlk {n:Nat}{es:List (Int × Int)}(hg:Grd (n:Int) es){m:Nat}{a b:List Int}(h:Wlk es false m a b)(ha:Bd n a)(h0:(∀ k,k<n->0<=halfD n es a k)/\hSum n es a n=0):(∀ k,k<n->0<=halfD n es b k)/\hSum n es b n<=2 * m:=by
  induction h with
  | nil=>exact ⟨h0.1,by rw [h0.2];omega⟩
  | cons hw hd ih =>
    rename_i m a c b
    obtain ⟨i1,i2⟩:=ih ha h0
    have hc:=hw.bd hg ha
    rw [nxt_false,List.mem_map] at hd
    obtain ⟨s,hs,rfl⟩:=hd
    have g1:=grd_mem hg hs
    obtain ⟨x,hx⟩:∃ x:Nat,s.1=x:=⟨s.1.toNat,by omega⟩
    obtain ⟨y,hy⟩:∃ y:Nat,s.2=y:=⟨s.2.toNat,by omega⟩
    rw [hx,hy] at g1 ⊢
    rw [Int.toNat_natCast,Int.toNat_natCast]
    have hnear:nearB es (x:Int) (y:Int)=true:=by
      rw [nearB_iff]
      left
      rw [<- hx,<- hy]
      exact hs
    have hl:=hc.2
    have rng:=(prm_range hc.1).1
    have rx:=rng x (by omega)
    have ry:=rng y (by omega)
    have vx:0<=(bfs (roadsL n es) x).getD (c.getD x 0).toNat 0:=i1 x (by omega)
    have vy:0<=(bfs (roadsL n es) y).getD (c.getD y 0).toNat 0:=i1 y (by omega)
    have f1:=far_edge (n:=n) (x:=x) (y:=y) (z:=(c.getD y 0).toNat) (by omega) (by omega) (by omega) hnear vy
    have f2:=far_edge (n:=n) (x:=y) (y:=x) (z:=(c.getD x 0).toNat) (by omega) (by omega) (by omega) (by rw [nearB_comm];exact hnear) vx
    refine ⟨fun k hk=>?_,?_⟩
    . show 0<=(bfs (roadsL n es) k).getD ((swp c x y).getD k 0).toNat 0
      rw [swp_at c x y k (by omega) (by omega) (by omega)]
      by_cases e1:k=y
      . rw [if_pos e1,e1];exact f2.1
      . rw [if_neg e1]
        by_cases e2:k=x
        . rw [if_pos e2,e2];exact f1.1
        . rw [if_neg e2];exact i1 k hk
    . have hS:=hSum_swp (es:=es) hl (x:=x) (y:=y) (by omega) (by omega) (by omega) n (Nat.le_refl n)
      rw [if_pos (by omega),if_pos (by omega)] at hS
      have d1:halfD n es c x=(bfs (roadsL n es) x).getD (c.getD x 0).toNat 0:=rfl
      have d2:halfD n es c y=(bfs (roadsL n es) y).getD (c.getD y 0).toNat 0:=rfl
      rw [d1,d2] at hS
      omega
theorem half_law {n:Int}{es:List (Int × Int)}{p:List Int}{d:Int}(h:tkD n es p=some d):(halfR n es p).isSome=true/\halfV (halfR n es p)<=d:=by
  have hrg:=tkD_rng h
  have h':=h
  unfold tkD at h'
  split at h'
  rotate_left
  . cases h'
  rename_i e
  have hT:=e.1
  obtain ⟨k,rfl,hg,hb,h6⟩:=fld_bd e
  have hh:=hom_bd (n:=k) (by omega)
  simp only [Int.toNat_natCast,tkS] at h'
  have hd':bdD (bdR es false (hom k)) p=some ((d.toNat:Nat):Int):=by rw [Int.toNat_of_nonneg hrg.1];exact h'
  have hw:=(dist_wlk h6 hg hh d.toNat p hd').back hg hb
  have hz:∀ j,j<k->halfD k es (hom k) j=0:=fun j hj=>by
    have e1:(hom k).getD j 0=(j:Int):=by simp [hom,hj]
    show (bfs (roadsL k es) j).getD ((hom k).getD j 0).toNat 0=0
    rw [e1,Int.toNat_natCast]
    exact bfs_zero (roadsL_ok k es) (by rw [roadsL_len];exact hj)
  have hs0:∀ m,m<=k->hSum k es (hom k) m=0:=by
    intro m
    induction m with
    | zero=>intro _;rfl
    | succ m ih=>intro hm;show hSum k es (hom k) m+halfD k es (hom k) m=0;rw [ih (by omega),hz m (by omega)];rfl
  obtain ⟨q1,q2⟩:=half_wlk hg hw hh ⟨fun j hj=>by rw [hz j hj];exact Int.le_refl 0,hs0 k (Nat.le_refl k)⟩
  have hR:halfR (k:Int) es p=some (hSum k es p k):=by
    unfold halfR
    rw [if_pos hT,Int.toNat_natCast,hb.2]
    exact halfU_sum k q1
  rw [hR]
  refine ⟨rfl,?_⟩
  show (hSum k es p k+1).tdiv 2<=d
  by_cases hneg:0<=hSum k es p k+1
  . rw [Int.tdiv_eq_ediv_of_nonneg hneg];omega
  . have:0<=hSum k es p k:=by
      have:∀ m,m<=k->0<=hSum k es p m:=by
        intro m
        induction m with
        | zero=>intro _;exact Int.le_refl 0
        | succ m ih=>intro hm;have:=ih (by omega);have:=q1 m (by omega);show 0<=hSum k es p m+halfD k es p m;omega
      exact this k (Nat.le_refl k)
    omega
def dfF (a b:List Int):Nat->List Int
  | 0=>[]
  | k+1=>dfF a b k ++ (if a.getD k 0 ≠ b.getD k 0 then [(k:Int)] else [])
def dfL (a b:List Int):List Int:=dfF a b a.length
theorem dfF_len (a b:List Int):∀ k,(dfF a b k).length<=k
  | 0=>Nat.le_refl _
  | k+1=>by
    have:=dfF_len a b k
    simp only [dfF,List.length_append]
    split <;> simp <;> omega
theorem dfF_rng (a b:List Int):∀ k,∀ x ∈ dfF a b k,0<=x/\x<k
  | 0,x,h=>by simp [dfF] at h
  | k+1,x,h=>by
    simp only [dfF,List.mem_append] at h
    rcases h with h | h
    . have:=dfF_rng a b k x h;omega
    . split at h
      . simp only [List.mem_singleton] at h;omega
      . simp at h
theorem dfF_nd (a b:List Int):∀ k,(dfF a b k).Pairwise (· < ·)
  | 0=>.nil
  | k+1=>by
    simp only [dfF]
    rw [List.pairwise_append]
    refine ⟨dfF_nd a b k,by split <;> simp,fun x hx y hy=>?_⟩
    have:=dfF_rng a b k x hx
    split at hy
    . simp only [List.mem_singleton] at hy;omega
    . simp at hy
def srtB:List (List Int)->Bool
  | []=>true
  | x :: xs=>(xs.all fun y=>decide (0<cmpL y x)) && srtB xs
theorem srtB_ok:∀ (ls:List (List Int)),srtB ls=true->SrtL ls
  | [],_=>fun i j _ hj=>by simp at hj
  | x :: xs,h=>by
    unfold srtB at h
    rw [Bool.and_eq_true,List.all_eq_true] at h
    intro i j hij hj
    cases j with
    | zero=>omega
    | succ j =>
      have hj':j<xs.length:=by simpa using hj
      cases i with
      | zero =>
        have hm:xs.getD j [] ∈ xs:=by simp [hj']
        have:=of_decide_eq_true (h.1 _ hm)
        simpa using this
      | succ i =>
        have:=srtB_ok xs h.2 i j (by omega) hj'
        simpa using this
def tsP (es:List (Int × Int))(a b:List Int):Bool:=decide ((dfL a b).length=2) && nearB es ((dfL a b).getD 0 0) ((dfL a b).getD 1 0)
def ts2 (a b:List Int):Bool:=decide ((dfL a b).length=2)
theorem stpI_mono {p q:List Int->List Int->Bool}(h:∀ x y,p x y=true->q x y=true)(ls:List (List Int))(i:Nat):∀ k,(stpI p ls i k).length<=(stpI q ls i k).length
  | 0=>Nat.le_refl _
  | k+1=>by
    have:=stpI_mono h ls i k
    simp only [stpI,List.length_append]
    by_cases e:p (ls.getD i []) (ls.getD (i+1+k) [])=true
    . rw [if_pos e,if_pos (h _ _ e)];omega
    . rw [if_neg e];simp only [List.length_nil];omega
theorem stpO_mono {p q:List Int->List Int->Bool}(h:∀ x y,p x y=true->q x y=true)(ls:List (List Int)):∀ k,(stpO p ls k).length<=(stpO q ls k).length
  | 0=>Nat.le_refl _
  | k+1=>by
    have:=stpO_mono h ls k
    have:=stpI_mono h ls k (ls.length - (k+1))
    simp only [stpO,List.length_append]
    omega
theorem pmT_len {rec:List Int->List (List Int)}{b:List Int}{N:Nat}(h:∀ b,(rec b).length<=N):∀ d c,(pmT rec b d c).length<=d * N
  | 0,c=>by simp [pmT]
  | d+1,c=>by
    have:=pmT_len (b:=b) h d (c+1)
    have h2:=h (b ++ [(c:Int)])
    have h3:(d+1) * N=d * N+N:=Nat.succ_mul d N
    simp only [pmT,List.length_append]
    split
    . simp only [List.length_nil];omega
    . omega
theorem pmG_len (n:Nat):∀ (f:Nat) (b:List Int),(pmG n f b).length<=n ^ f
  | 0,b=>by simp [pmG]
  | f+1,b=>by
    have:=pmT_len (b:=b) (pmG_len n f) n 0
    rw [Nat.pow_succ,Nat.mul_comm]
    exact this
def pmAok (n:Nat):Bool:=srtB (pms n) && decide (1<=(pms n).length/\(pms n).length<=120) && (pms n).all (fun l=>decide (l.length=n)) && decide ((stpO ts2 (pms n) (pms n).length).length<=600) && (pms n).all (fun l=>l.all fun x=>decide (0<=x/\x<5))
theorem pmA0:pmAok 0=true:=by decide +kernel
theorem pmA1:pmAok 1=true:=by decide +kernel
theorem pmA2:pmAok 2=true:=by decide +kernel
theorem pmA3:pmAok 3=true:=by decide +kernel
theorem pmA4:pmAok 4=true:=by decide +kernel
theorem pmA5:pmAok 5=true:=by decide +kernel
theorem pms_ok {n:Nat}(hn:n<=5):SrtL (pms n)/\(1<=(pms n).length/\(pms n).length<=120)/\(∀ l ∈ pms n,l.length=n)/\(stpO ts2 (pms n) (pms n).length).length<=600/\∀ l ∈ pms n,∀ x ∈ l,0<=x/\x<5:=by
  have h:pmAok n=true:=by
    have:n=0∨n=1∨n=2∨n=3∨n=4∨n=5:=by omega
    rcases this with rfl | rfl | rfl | rfl | rfl | rfl
    . exact pmA0
    . exact pmA1
    . exact pmA2
    . exact pmA3
    . exact pmA4
    . exact pmA5
  simp only [pmAok,Bool.and_eq_true,List.all_eq_true,decide_eq_true_eq] at h
  exact ⟨srtB_ok _ h.1.1.1.1,h.1.1.1.2,h.1.1.2,h.1.2,h.2⟩
theorem ts_steps (es:List (Int × Int)){n:Nat}(hn:n<=5):(steps (tsP es) (pms n)).length<=600 :=
  Nat.le_trans (stpO_mono (fun x y h=>by unfold tsP at h;unfold ts2;exact (Bool.and_eq_true _ _ ▸ h).1) _ _) (pms_ok hn).2.2.2.1
abbrev TsOk (n:Int)(es:List (Int × Int)):Prop:=Grd n es/\n<=5
def tsL (n:Int)(es:List (Int × Int)):List (List Int):=if TsOk n es then pms n.toNat else []
def tsS (n:Int)(es:List (Int × Int)):List (Int × Int):=if TsOk n es then steps (tsP es) (pms n.toNat) else []
def adj1 (L:List (List Int))(e:Int × Int):List (List Int):=(L.set e.1.toNat (L.getD e.1.toNat [] ++ [e.2])).set e.2.toNat (L.getD e.2.toNat [] ++ [e.1])
def adjL (n:Nat)(ps:List (Int × Int)):List (List Int):=ps.foldl adj1 (List.replicate n [])
theorem adj1_len (L:List (List Int))(e:Int × Int):(adj1 L e).length=L.length:=by simp [adj1]
theorem adjF_len:∀ (ps:List (Int × Int)) (L:List (List Int)),(ps.foldl adj1 L).length=L.length
  | [],L=>rfl
  | e :: ps,L=>by rw [List.foldl_cons,adjF_len ps,adj1_len]
theorem adjL_len (n:Nat)(ps:List (Int × Int)):(adjL n ps).length=n:=by unfold adjL;rw [adjF_len];simp
theorem mk_lists {n:Int}(h0:0<=n)(h1:n<=1099511627776)(H:AH) :
    makeSliceA Tryz.prog 36 (.int .i64 n) (.int .i64 n) H=some (.slice (some ⟨H.length,0,none⟩) n.toNat n.toNat,H ++ [.cells (List.replicate n.toNat (.slice none 0 0)) 27 false]):=by
  have hb2:n.toNat * Tryz.prog.bytesOf 27<=281474976710656:=by
    rw [by27];omega
  have hzc:(Value.slice none 0 0).cells=#[.slice none 0 0]:=rfl
  have hzs:zerosA (.slice none 0 0) (n.toNat * 1)=List.replicate n.toNat (.slice none 0 0):=by
    unfold zerosA
    rw [hzc,Nat.mul_one]
    apply List.ext_getElem
    . simp
    . intro i h1 h2
      simp [Nat.mod_one]
  simp only [makeSliceA,Tryz.underlying36,cs27,ze27]
  rw [if_pos ⟨trivial,h0,by omega,hb2,by omega⟩,if_pos ⟨by simp [plainCs,hzc,plainC],by simp [hzc]⟩,hzs]
theorem own_base {e:TypeId}{H0 H1 H:AH}{v:Value}{xs:List Int}(h:Own e H0 H v xs)(hl:H1.length<=H0.length):Own e H1 H v xs:=by
  rcases h with h | ⟨o,h1,h2,h3⟩
  . exact .inl h
  . exact .inr ⟨o,h1,by omega,h3⟩
theorem own_keep {e:TypeId}{H0 H H':AH}{v:Value}{xs:List Int}(h:Own e H0 H v xs)(hh:∀ y,v ≠ .slice none 0 0->H[rowO v]?=some y->H'[rowO v]?=some y):Own e H0 H' v xs:=by
  rcases h with h | ⟨o,h1,h2,h3⟩
  . exact .inl h
  . exact .inr ⟨o,h1,h2,by subst h1;exact hh _ (by intro e;cases e) h3⟩
theorem own_nil {e:TypeId}{H0 H:AH}{v:Value}{xs:List Int}(h:Own e H0 H v xs):v=.slice none 0 0∨(H0.length<=rowO v/\rowO v<H.length):=by
  rcases h with h | ⟨o,h1,h2,h3⟩
  . exact .inl h.1
  . subst h1;exact .inr ⟨h2,at_lt h3⟩
structure Adj (C G:AH) (o:Nat) (us:List Value) (L:List (List Int)):Prop where
  at_:G[o]?=some (.cells us 27 false)
  olt:o<C.length
  len:us.length=L.length
  el:∀ i,i<L.length->Own 3 C G (us.getD i undef) (L.getD i [])
  ap:∀ i j,i ≠ j->i<L.length->j<L.length->Apart (us.getD i undef) (us.getD j undef)
  keep:∀ (j:Nat) (y:AObj),j ≠ o->C[j]?=some y->G[j]?=some y
  le:C.length<=G.length
theorem Adj.ne {C G:AH}{o:Nat}{us:List Value}{L:List (List Int)}(h:Adj C G o us L){i:Nat}(hi:i<L.length):us.getD i undef=.slice none 0 0∨rowO (us.getD i undef) ≠ o:=by
  rcases own_nil (h.el i hi) with g | g
  . exact .inl g
  . right;have:=h.olt;omega
theorem Adj.inU {C G:AH}{o lo:Nat}{us:List Value}{L:List (List Int)}(h:Adj C G o us L)(hlo:lo<=o):InU lo G.length 27 3 G o us L:=by
  have:=h.olt
  refine ⟨hlo,at_lt h.at_,h.at_,by rw [h.len];exact Nat.le_refl _,fun i hi=>⟨(InI.of (h.el i hi).mine).wide (by omega) (Nat.le_refl _),h.ne hi⟩,h.ap⟩
theorem Adj.pre {C G G':AH}{o:Nat}{us:List Value}{L:List (List Int)}(h:Adj C G o us L)(hp:G<+:G'):Adj C G' o us L :=
  ⟨pre_at hp h.at_,h.olt,h.len,fun i hi=>own_keep (h.el i hi) fun y _ hy=>pre_at hp hy,h.ap,fun j y hj hy=>pre_at hp (h.keep j y hj hy),Nat.le_trans h.le hp.length_le⟩
theorem Adj.upd1 {C G K:AH}{o x:Nat}{us:List Value}{L:List (List Int)}(h:Adj C G o us L)(hx:x<L.length){v1:Value}{l1:List Int}
    (h1:Own 3 C K v1 l1)(g1:G.length<=rowO v1)(hl:G.length<=K.length)
    (hk:∀ (j:Nat) (z:AObj),(us.getD x undef=.slice none 0 0∨j ≠ rowO (us.getD x undef))->G[j]?=some z->K[j]?=some z) :
    Adj C (K.set o (.cells (us.set x v1) 27 false)) o (us.set x v1) (L.set x l1):=by
  have hol:=h.olt
  have hle:=h.le
  have hul:=h.len
  have ax:us.getD x undef=.slice none 0 0∨o ≠ rowO (us.getD x undef):=(h.ne hx).imp id fun e=>fun q=>e q.symm
  have ko:=hk o _ ax h.at_
  have gu:∀ i,(us.set x v1).getD i undef=if x=i then (if x<us.length then v1 else undef) else us.getD i undef:=by
    intro i
    rw [List.getD_eq_getElem?_getD,List.getElem?_set]
    by_cases e1:x=i
    . rw [if_pos e1,if_pos e1,if_pos (by omega),if_pos (by omega)];rfl
    . rw [if_neg e1,if_neg e1,List.getD_eq_getElem?_getD]
  have gl:∀ i,(L.set x l1).getD i []=if x=i then (if x<L.length then l1 else []) else L.getD i []:=by
    intro i
    rw [List.getD_eq_getElem?_getD,List.getElem?_set]
    by_cases e1:x=i
    . rw [if_pos e1,if_pos e1,if_pos (by omega),if_pos (by omega)];rfl
    . rw [if_neg e1,if_neg e1,List.getD_eq_getElem?_getD]
  have setk:∀ {j:Nat} {z:AObj},j ≠ o->K[j]?=some z->(K.set o (.cells (us.set x v1) 27 false))[j]?=some z:=fun hj hz=>by
    rw [List.getElem?_set_ne (fun e=>hj e.symm)];exact hz
  have old:∀ i,i<L.length->i ≠ x->us.getD i undef ≠ .slice none 0 0->rowO (us.getD i undef)<G.length/\∀ z,G[rowO (us.getD i undef)]?=some z->K[rowO (us.getD i undef)]?=some z:=by
    intro i hi ix hn
    rcases own_nil (h.el i hi) with q | q
    . exact absurd q hn
    refine ⟨q.2,fun z hz=>hk _ _ ?_ hz⟩
    rcases h.ap i x ix hi hx with q1 | q1 | q1
    . exact .inl q1
    . exact absurd q1 hn
    . exact .inr q1
  refine ⟨at_set ko,hol,by simp [hul],fun i hi=>?_,fun i j hij hi hj=>?_,fun j z hj hz=>?_,by simp;omega⟩
  . rw [List.length_set] at hi
    rw [gu,gl]
    by_cases e1:x=i
    . rw [if_pos e1,if_pos e1,if_pos (by omega),if_pos (by omega)]
      exact own_keep h1 fun z _ hz=>setk (by omega) hz
    . rw [if_neg e1,if_neg e1]
      refine own_keep (h.el i hi) fun z hn hz=>?_
      have hq:=old i hi (fun e=>e1 e.symm) hn
      refine setk ?_ (hq.2 z hz)
      rcases h.ne hi with q | q
      . exact absurd q hn
      . exact q
  . rw [List.length_set] at hi hj
    have far:∀ (q:Nat) (v:Value),q<L.length->q ≠ x->G.length<=rowO v->us.getD q undef=.slice none 0 0∨rowO (us.getD q undef) ≠ rowO v:=by
      intro q v hq qx hv
      by_cases hn:us.getD q undef=.slice none 0 0
      . exact .inl hn
      . right;have:=(old q hq qx hn).1;omega
    rw [gu,gu]
    by_cases e1:x=i
    . rw [if_pos e1,if_pos (by omega),if_neg (show ¬ x=j by omega)]
      rcases far j v1 hj (by omega) g1 with q | q
      . exact .inl q
      . exact .inr (.inr fun e=>q e.symm)
    . rw [if_neg e1]
      by_cases e4:x=j
      . rw [if_pos e4,if_pos (by omega)]
        rcases far i v1 hi (fun e=>e1 e.symm) g1 with q | q
        . exact .inr (.inl q)
        . exact .inr (.inr q)
      . rw [if_neg e4];exact h.ap i j hij hi hj
  . refine setk hj ?_
    have hC:us.getD x undef=.slice none 0 0∨j ≠ rowO (us.getD x undef):=by
      have hjl:=at_lt hz
      rcases own_nil (h.el x hx) with g | g
      . exact .inl g
      . right;omega
    exact hk j z hC (h.keep j z hj hz)
theorem Adj.same {C G K:AH}{o x:Nat}{us:List Value}{L:List (List Int)}(h:Adj C G o us L)(hx:x<L.length)(h1:Own 3 C K (us.getD x undef) (L.getD x []))(he:Else (us.getD x undef) G K):Adj C K o us L:=by
  have ax:us.getD x undef=.slice none 0 0∨o ≠ rowO (us.getD x undef):=(h.ne hx).imp id fun e=>fun q=>e q.symm
  refine ⟨he.2 _ _ ax h.at_,h.olt,h.len,fun i hi=>?_,h.ap,fun j z hj hz=>he.2 _ _ ?_ (h.keep j z hj hz),by rw [he.1];exact h.le⟩
  . by_cases e:i=x
    . subst e;exact h1
    . refine own_keep (h.el i hi) fun z hn hz=>he.2 _ _ ?_ hz
      rcases h.ap i x e hi hx with q | q | q
      . exact .inl q
      . exact absurd q hn
      . exact .inr q
  . have hjl:=at_lt hz
    rcases own_nil (h.el x hx) with g | g
    . exact .inl g
    . right;omega
theorem Adj.app1 {C G:AH}{o x:Nat}{us:List Value}{L:List (List Int)}(h:Adj C G o us L)(hx:x<L.length)(hb:(L.getD x []).length<=1000000)(y:Int) :
    ∃ v K,appendA Tryz.prog 27 27 (us.getD x undef) (.slice (some ⟨G.length,0,none⟩) 1 1) (G ++ [.cells [.int .i64 y] 3 false])=some (v,K) /\
      (∀ (j:Nat) (z:AObj),(us.getD x undef=.slice none 0 0∨j ≠ rowO (us.getD x undef))->G[j]?=some z->K[j]?=some z)/\K[o]?=some (.cells us 27 false)/\isTup v=false/\v.cells.toList=[v] /\
      Adj C (K.set o (.cells (us.set x v) 27 false)) o (us.set x v) (L.set x (L.getD x [] ++ [y])):=by
  have hox:=h.el x hx
  have hle:=h.le
  have hlC:(G.take C.length).length=C.length:=by simp;omega
  have ox2:Own 3 (G.take C.length) G (us.getD x undef) (L.getD x []):=own_base hox (by omega)
  obtain ⟨v,K,j1,j2,j3,j4,j5,j6⟩:=own1_27 ox2 (List.take_prefix _ _) (by omega) y
  have hjC:Own 3 C K v (L.getD x [] ++ [y]):=own_base j2 (by omega)
  have ax:us.getD x undef=.slice none 0 0∨o ≠ rowO (us.getD x undef):=(h.ne hx).imp id fun e=>fun q=>e q.symm
  have hlK:G.length<=K.length:=by
    rcases own_nil hjC with q | q
    . have h1:(L.getD x [] ++ [y]).length=0:=by
        rcases hjC with ⟨_,q1⟩ | ⟨o',q1,_⟩
        . rw [q1];rfl
        . rw [q1] at q;cases q
      simp at h1
    . omega
  obtain ⟨p,hp⟩:=j2.row.shape
  exact ⟨v,K,j1,fun j z hj hz=>j4 j z hj hz,j4 o _ ax h.at_,j6,by rw [hp];rfl,h.upd1 hx hjC j5 hlK fun j z hj hz=>j4 j z hj hz⟩
def cd91:Cd:=(.seq (.reg [⟨⟨some 1,.box 38 (.tmp 0),none⟩,[]⟩,⟨⟨some 2,.assign (.const (.slice none 0 0)),none⟩,[]⟩]) (.seq (.reg [⟨⟨some 8,.fieldAddr 38 (.tmp 1) 0,none⟩,[]⟩,⟨⟨some 9,.load 36 (.tmp 8),none⟩,[]⟩,⟨⟨some 10,.call ⟨(.builtin .len),#[.tmp 9],#[36]⟩,none⟩,[]⟩,⟨⟨some 11,.makeSlice 36 (.tmp 10) (.tmp 10),none⟩,[]⟩,⟨⟨some 3,.assign (.tmp 11),none⟩,[]⟩]) (.seq (.seq (.reg [⟨⟨some 12,.fieldAddr 38 (.tmp 1) 1,none⟩,[]⟩,⟨⟨some 13,.load 24 (.tmp 12),none⟩,[]⟩,⟨⟨some 14,.call ⟨(.builtin .len),#[.tmp 13],#[24]⟩,none⟩,[]⟩,⟨⟨some 15,.move (.const (.int .i64 0)),none⟩,[]⟩]) (.block 0 (.loop (.seq (.reg [⟨⟨some 16,.binOp .lss 3 (.tmp 15) (.tmp 14) 3,none⟩,[]⟩]) (.seq (.cond (.tmp 16) .skip (.exit 0)) (.seq (.block 1 (.seq (.reg [⟨⟨some 17,.indexAddr 24 (.tmp 13) (.tmp 15),none⟩,[]⟩,⟨⟨some 18,.load 47 (.tmp 17),none⟩,[]⟩,⟨⟨some 5,.alloc 47,none⟩,[]⟩,⟨⟨none,.store 47 (.tmp 5) (.tmp 18),none⟩,[]⟩]) (.seq (.reg [⟨⟨some 19,.move (.tmp 3),none⟩,[]⟩,
 ⟨⟨some 20,.indexAddr 47 (.tmp 5) (.const (.int .i64 0)),none⟩,[]⟩,⟨⟨some 21,.load 3 (.tmp 20),none⟩,[]⟩,⟨⟨some 22,.move (.tmp 3),none⟩,[]⟩,⟨⟨some 23,.indexAddr 47 (.tmp 5) (.const (.int .i64 0)),none⟩,[]⟩,⟨⟨some 24,.load 3 (.tmp 23),none⟩,[]⟩,⟨⟨some 25,.indexAddr 36 (.tmp 22) (.tmp 24),none⟩,[]⟩,⟨⟨some 26,.load 27 (.tmp 25),none⟩,[]⟩,⟨⟨some 27,.indexAddr 47 (.tmp 5) (.const (.int .i64 1)),none⟩,[]⟩,⟨⟨some 28,.load 3 (.tmp 27),none⟩,[]⟩,⟨⟨some 29,.buildSlice 27 1 #[(0,.tmp 28)],none⟩,[]⟩,⟨⟨some 30,.call ⟨(.builtin .append),#[.tmp 26,.tmp 29],#[27,27]⟩,none⟩,[⟨some 21,.load 3 (.tmp 20),none⟩]⟩,⟨⟨some 31,.indexAddr 36 (.tmp 19) (.tmp 21),none⟩,[]⟩,
 ⟨⟨none,.store 27 (.tmp 31) (.tmp 30),none⟩,[]⟩]) (.reg [⟨⟨some 32,.move (.tmp 3),none⟩,[]⟩,⟨⟨some 33,.indexAddr 47 (.tmp 5) (.const (.int .i64 1)),none⟩,[]⟩,⟨⟨some 34,.load 3 (.tmp 33),none⟩,[]⟩,⟨⟨some 35,.move (.tmp 3),none⟩,[]⟩,⟨⟨some 36,.indexAddr 47 (.tmp 5) (.const (.int .i64 1)),none⟩,[]⟩,⟨⟨some 37,.load 3 (.tmp 36),none⟩,[]⟩,⟨⟨some 38,.indexAddr 36 (.tmp 35) (.tmp 37),none⟩,[]⟩,⟨⟨some 39,.load 27 (.tmp 38),none⟩,[]⟩,⟨⟨some 40,.indexAddr 47 (.tmp 5) (.const (.int .i64 0)),none⟩,[]⟩,⟨⟨some 41,.load 3 (.tmp 40),none⟩,[]⟩,⟨⟨some 42,.buildSlice 27 1 #[(0,.tmp 41)],none⟩,[]⟩,⟨⟨some 43,.call ⟨(.builtin .append),#[.tmp 39,.tmp 42],#[27,27]⟩,none⟩,[⟨some 34,.load 3 (.tmp 33),none⟩]⟩,
 ⟨⟨some 44,.indexAddr 36 (.tmp 32) (.tmp 34),none⟩,[]⟩,
  ⟨⟨none,.store 27 (.tmp 44) (.tmp 43),none⟩,[]⟩])))) (.reg [⟨⟨some 45,.binOp .add 3 (.tmp 15) (.const (.int .i64 1)) 3,none⟩,[]⟩,
  ⟨⟨some 15,.move (.tmp 45),none⟩,[]⟩]))))))) (.seq (.seq (.reg [⟨⟨some 46,.move (.tmp 3),none⟩,[]⟩,
  ⟨⟨some 47,.call ⟨(.builtin .len),#[.tmp 46],#[36]⟩,none⟩,[]⟩,
  ⟨⟨some 48,.move (.const (.int .i64 0)),none⟩,[]⟩]) (.block 2 (.loop (.seq (.reg [⟨⟨some 49,.binOp .lss 3 (.tmp 48) (.tmp 47) 3,none⟩,[]⟩]) (.seq (.cond (.tmp 49) .skip (.exit 2)) (.seq (.block 3 (.seq (.reg [⟨⟨some 50,.indexAddr 36 (.tmp 46) (.tmp 48),none⟩,[]⟩,
  ⟨⟨some 51,.load 27 (.tmp 50),none⟩,[]⟩,
  ⟨⟨some 7,.assign (.tmp 51),none⟩,[]⟩]) (.reg [⟨⟨some 52,.move (.tmp 7),none⟩,[]⟩,
  ⟨⟨some 53,.call ⟨(.value (.func 123)),#[.tmp 52],#[27]⟩,none⟩,[]⟩]))) (.reg [⟨⟨some 54,.binOp .add 3 (.tmp 48) (.const (.int .i64 1)) 3,none⟩,[]⟩,
  ⟨⟨some 48,.move (.tmp 54),none⟩,[]⟩]))))))) (.seq (.reg [⟨⟨some 55,.move (.tmp 3),none⟩,[]⟩,
  ⟨⟨some 2,.assign (.tmp 55),none⟩,[]⟩]) .ret)))))
theorem in91:InT Tryz.prog 91 1 [.tmp 2] cd91:=InT.mk (by kernel_rfl) [(5,[(0,false),(1,false),(2,false),(3,false),(4,false),(5,false),(6,false),(7,false),(8,false),(9,false),(10,false),(11,true),(12,false),(13,true)]),(6,[(0,false),(1,false),(2,false),(3,false),(4,false),(5,false),(6,false),(7,false),(8,false),(9,false),(10,false),(11,true),(12,false),(13,true)])] Tryz.func91 rfl (by kernel_rfl) (by kernel_rfl) (of_decide_eq_true (by kernel_rfl)) (by kernel_rfl)
end Go.Proofs.YtjnefjchconebaaGreat.Ai
namespace Go.Proofs.YtjnefjchconebaaGreat.Ai
open Go Go.RowKit
def nbS (ps:List (Int × Int))(x:Int):List Int:=(ps.filter fun e=>decide (e.2=x)).map (·.1) ++ (ps.filter fun e=>decide (e.1=x)).map (·.2)
def rdS (n:Nat)(ps:List (Int × Int)):List (List Int):=(List.range n).map fun x:Nat=>nbS ps x
theorem rdS_len (n:Nat)(ps:List (Int × Int)):(rdS n ps).length=n:=by simp [rdS]
theorem rdS_at (n:Nat)(ps:List (Int × Int)){x:Nat}(hx:x<n):(rdS n ps).getD x []=nbS ps x:=by simp [rdS,hx]
theorem nbS_mem (ps:List (Int × Int))(x y:Int):y ∈ nbS ps x↔(y,x) ∈ ps∨(x,y) ∈ ps:=by
  unfold nbS
  simp only [List.mem_append,List.mem_map,List.mem_filter,decide_eq_true_eq]
  constructor
  . rintro (⟨e,⟨h1,h2⟩,rfl⟩ | ⟨e,⟨h1,h2⟩,rfl⟩)
    . left;rw [<- h2];exact h1
    . right;rw [<- h2];exact h1
  . rintro (h | h)
    . exact .inl ⟨_,⟨h,rfl⟩,rfl⟩
    . exact .inr ⟨_,⟨h,rfl⟩,rfl⟩
structure StpOk (n:Nat) (ps:List (Int × Int)):Prop where
  rng:∀ e ∈ ps,0<=e.1/\e.1<e.2/\e.2<n
  srt:ps.Pairwise pairLt
theorem nbS_asc {n:Nat}{ps:List (Int × Int)}(h:StpOk n ps)(x:Int):(nbS ps x).Pairwise (· < ·):=by
  unfold nbS
  rw [List.pairwise_append]
  refine ⟨?_,?_,?_⟩
  . rw [List.pairwise_map]
    refine List.Pairwise.imp_of_mem ?_ (h.srt.filter _)
    intro a b ha hb hab
    have h1:=(List.mem_filter.1 ha).2
    have h2:=(List.mem_filter.1 hb).2
    simp only [decide_eq_true_eq] at h1 h2
    unfold pairLt at hab;omega
  . rw [List.pairwise_map]
    refine List.Pairwise.imp_of_mem ?_ (h.srt.filter _)
    intro a b ha hb hab
    have h1:=(List.mem_filter.1 ha).2
    have h2:=(List.mem_filter.1 hb).2
    simp only [decide_eq_true_eq] at h1 h2
    unfold pairLt at hab;omega
  . intro y hy z hz
    obtain ⟨a,ha,rfl⟩:=List.mem_map.1 hy
    obtain ⟨b,hb,rfl⟩:=List.mem_map.1 hz
    have h1:=List.mem_filter.1 ha
    have h2:=List.mem_filter.1 hb
    have h3:=h1.2
    have h4:=h2.2
    simp only [decide_eq_true_eq] at h3 h4
    have:=h.rng a h1.1
    have:=h.rng b h2.1
    omega
theorem nbS_rng {n:Nat}{ps:List (Int × Int)}(h:StpOk n ps){x y:Int}(hy:y ∈ nbS ps x):0<=y/\y<n:=by
  rcases (nbS_mem ps x y).1 hy with q | q
  . have:=h.rng _ q;simp only at this;omega
  . have:=h.rng _ q;simp only at this;omega
theorem rdS_ok {n:Nat}{ps:List (Int × Int)}(h:StpOk n ps):LOk (rdS n ps).length (rdS n ps):=by
  intro i y hy
  rw [rdS_len]
  by_cases hi:i<n
  . rw [rdS_at n ps hi] at hy;exact nbS_rng h hy
  . rw [List.getD_eq_getElem?_getD,List.getElem?_eq_none (by rw [rdS_len];omega)] at hy
    simp at hy
theorem StpOk.take {n:Nat}{ps:List (Int × Int)}(h:StpOk n ps)(i:Nat):StpOk n (ps.take i):=⟨fun e he=>h.rng e (List.mem_of_mem_take he),h.srt.sublist (List.take_sublist _ _)⟩
theorem nbS_snoc {n:Nat}{ps:List (Int × Int)}{e:Int × Int}(h:StpOk n (ps ++ [e]))(x:Int):nbS (ps ++ [e]) x=nbS ps x ++ (if x=e.2 then [e.1] else if x=e.1 then [e.2] else []):=by
  have he:=h.rng e (by simp)
  unfold nbS
  rw [List.filter_append,List.filter_append,List.map_append,List.map_append]
  by_cases h2:x=e.2
  . subst h2
    have h0:ps.filter (fun q=>decide (q.1=e.2))=[]:=by
      rw [List.filter_eq_nil_iff]
      intro q hq
      have:=(List.pairwise_append.1 h.srt).2.2 q hq e (by simp)
      unfold pairLt at this
      simp only [decide_eq_true_eq];omega
    rw [h0,if_pos rfl]
    have:¬ e.1=e.2:=by omega
    simp [this]
  . rw [if_neg h2]
    have h2':¬ e.2=x:=fun q=>h2 q.symm
    by_cases h1:x=e.1
    . subst h1;simp [h2']
    . have h1':¬ e.1=x:=fun q=>h1 q.symm
      simp [h1,h2',h1']
theorem nbS_adj {n:Nat}:∀ (k:Nat) (ps:List (Int × Int)),ps.length=k->StpOk n ps->∀ x,x<n->(adjL n ps).getD x []=nbS ps (x:Int):=by
  intro k
  induction k with
  | zero =>
    intro ps hk h x hx
    have:ps=[]:=List.length_eq_zero_iff.1 hk
    subst this
    simp [adjL,nbS,hx]
  | succ k ih =>
    intro ps hk h x hx
    have hne:ps ≠ []:=by intro e;rw [e] at hk;simp at hk
    obtain ⟨qs,e,rfl⟩:∃ qs e,ps=qs ++ [e]:=⟨_,_,(List.dropLast_concat_getLast hne).symm⟩
    have hq:StpOk n qs:=⟨fun z hz=>h.rng z (by simp [hz]),(List.pairwise_append.1 h.srt).1⟩
    have hi:=ih qs (by simpa using hk) hq
    have he:=h.rng e (by simp)
    rw [nbS_snoc h]
    have:adjL n (qs ++ [e])=adj1 (adjL n qs) e:=by unfold adjL;rw [List.foldl_append];rfl
    rw [this]
    unfold adj1
    have hl:=adjL_len n qs
    rw [List.getD_eq_getElem?_getD,List.getElem?_set,List.length_set]
    by_cases h2:e.2.toNat=x
    . rw [if_pos h2,if_pos (by omega),if_pos (by omega)]
      show (adjL n qs).getD e.2.toNat [] ++ [e.1]=_
      rw [h2,hi x hx]
    . rw [if_neg h2,if_neg (by omega),List.getElem?_set]
      by_cases h1:e.1.toNat=x
      . rw [if_pos h1,if_pos (by omega),if_pos (by omega)]
        show (adjL n qs).getD e.1.toNat [] ++ [e.2]=_
        rw [h1,hi x hx]
      . rw [if_neg h1,if_neg (by omega),<- List.getD_eq_getElem?_getD,hi x hx,List.append_nil]
theorem rdS_adj {n:Nat}{ps:List (Int × Int)}(h:StpOk n ps):adjL n ps=rdS n ps:=by
  refine List.ext_getElem (by rw [adjL_len,rdS_len]) fun i h1 h2=>?_
  have hi:i<n:=by rw [adjL_len] at h1;exact h1
  have:=nbS_adj ps.length ps rfl h i hi
  have e2:=rdS_at n ps hi
  simp only [List.getD_eq_getElem?_getD,List.getElem?_eq_getElem h1,List.getElem?_eq_getElem h2,Option.getD_some] at this e2
  rw [this,e2]
theorem perm_asc {ys xs:List Int}(hp:ys.Perm xs)(ha:Asc ys)(hx:xs.Pairwise (· < ·)):ys=xs:=by
  have h1:=asc_of ha
  have hn:ys.Nodup:=hp.nodup_iff.2 (hx.imp fun h e=>by omega)
  have h2:ys.Pairwise (· < ·):=by
    refine List.Pairwise.imp₂ (S:=(· ≠ ·)) (fun a b h3 h4=>?_) h1 hn
    omega
  exact hp.eq_of_pairwise (le:=(· < ·)) (fun a b _ _ h3 h4=>by omega) h2 hx
theorem spRoads_c (a b:Value)(ls:List (List Int))(ps:List (Int × Int))(H:AH)(hr:SpRow H a b ls ps)(hn:ls.length<=1000)(hp:ps.length<=1000000)(hps:StpOk ls.length ps)(hdeg:∀ x,(nbS ps x).length<=12) :
    ACalls Tryz.prog 91 [.agg (List.toArray [a,b])] H fun r H'=>(∃ bd,RowLB bd 27 3 H' r (rdS ls.length ps))/\H<+:H':=by
  obtain ⟨⟨bd,us0,ra0,_,lu0,_⟩,rb0⟩:=id hr
  refine in91 rfl ?_
  intro Q hQ
  have mk:=mk_lists (n:=(ls.length:Int)) (by omega) (by omega)
  simp only [Int.toNat_natCast] at mk
  simp (disch:=omega) only [cd91,hr.box,SS,eq_self,reduceIte,reduceCtorEq,Nat.reduceEqDiff,Nat.reduceAdd]
  generalize hA:H ++ [AObj.cells [a,b] 38 false]=A
  have pA:H<+:A:=by rw [<- hA];exact List.prefix_append _ _
  have cA:A[H.length]?=some (.cells [a,b] 38 false):=by rw [<- hA];exact at_new ..
  have lA:A.length=H.length+1:=by rw [<- hA];simp
  simp (disch:=omega) only [cell_of cA,(ra0.pre pA).len Tryz.underlying36,lu0,mk,SS,eq_self,reduceIte,reduceCtorEq,Nat.reduceEqDiff,Nat.reduceAdd]
  generalize hB:A ++ [AObj.cells (List.replicate ls.length (.slice none 0 0)) 27 false]=B
  have pB:A<+:B:=by rw [<- hB];exact List.prefix_append _ _
  have cB:B[A.length]?=some (.cells (List.replicate ls.length (.slice none 0 0)) 27 false):=by rw [<- hB];exact at_new ..
  have lB:B.length=A.length+1:=by rw [<- hB];simp
  have rb:=rb0.pre (pA.trans pB)
  have adj0:Adj B B A.length (List.replicate ls.length (.slice none 0 0)) (adjL ls.length (ps.take 0)):=by
    refine ⟨cB,by omega,by simp [adjL_len],fun i hi=>?_,fun i j _ hi _=>?_,fun j y _ hy=>hy,Nat.le_refl _⟩
    . rw [adjL_len] at hi
      exact .inl ⟨by simp [hi],by simp [adjL,hi]⟩
    . rw [adjL_len] at hi
      exact .inr (.inl (by simp [hi]))
  generalize hNN:ls.length=N at *
  simp (disch:=omega) only [cell_of (pre_at pB cA),rb.len Tryz.underlying24,SS,eq_self,reduceIte,reduceCtorEq,Nat.reduceEqDiff,Nat.reduceAdd]
  refine LoopH.by (fun m s H'=>∃ (i:Nat) (us:List Value),m+i=ps.length/\s 3=.slice (some ⟨A.length,0,none⟩) N N/\s 13=b/\s 14=.int .i64 (ps.length:Int)/\s 15=.int .i64 ((i:Nat):Int)/\Adj B H' A.length us (adjL N (ps.take i))) ps.length ?_ ?_
  . exact ⟨0,_,by simp,rfl,rfl,rfl,rfl,adj0⟩
  rintro m s H' ⟨i,us,hm,h3,h13,h14,h15,hJ⟩
  have keepB:∀ {K:AH} {vs:List Value} {M:List (List Int)},Adj B K A.length vs M->H<+:K:=fun hK=>prefix_of fun j y hy=>hK.keep j y (by have:=at_lt hy;omega) (pre_at (pA.trans pB) hy)
  have rH:=rb0.pre (keepB hJ)
  have hLl:=adjL_len N (ps.take i)
  simp (disch:=omega) only [h3,h13,h14,h15,SS,eq_self,reduceIte,reduceCtorEq,Nat.reduceEqDiff,Nat.reduceAdd]
  refine brD.intro (fun g=>?_) (fun g=>?_)
  . have hi:i<ps.length:=by omega
    have he:ps.getD i (0,0) ∈ ps:=by simp [hi]
    have hrng:=hps.rng _ he
    have htk:ps.take (i+1)=ps.take i ++ [ps.getD i (0,0)]:=by
      rw [List.take_add_one,List.getElem?_eq_getElem hi]
      simp [hi]
    have hstep:adjL N (ps.take (i+1))=adj1 (adjL N (ps.take i)) (ps.getD i (0,0)):=by
      rw [htk];unfold adjL;rw [List.foldl_append];rfl
    have hdg:∀ x,x<N->((adjL N (ps.take i)).getD x []).length<=12:=by
      intro x hx
      rw [nbS_adj _ _ rfl (hps.take i) x hx]
      refine Nat.le_trans ?_ (hdeg (x:Int))
      unfold nbS
      simp only [List.length_append,List.length_map]
      have s1:=((List.take_sublist i ps).filter fun e=>decide (e.2=(x:Int))).length_le
      have s2:=((List.take_sublist i ps).filter fun e=>decide (e.1=(x:Int))).length_le
      omega
    have hld:=rH.ld ag47 cs47 hi
    obtain ⟨x,hx⟩:∃ x:Nat,(ps.getD i (0,0)).1=x:=⟨(ps.getD i (0,0)).1.toNat,by omega⟩
    obtain ⟨y,hy⟩:∃ y:Nat,(ps.getD i (0,0)).2=y:=⟨(ps.getD i (0,0)).2.toNat,by omega⟩
    have est:adj1 (adjL N (ps.take i)) (ps.getD i (0,0))=((adjL N (ps.take i)).set x ((adjL N (ps.take i)).getD x [] ++ [(y:Int)])).set y ((adjL N (ps.take i)).getD y [] ++ [(x:Int)]):=by
      unfold adj1;rw [hx,hy,Int.toNat_natCast,Int.toNat_natCast]
    rw [est] at hstep
    rw [hx,hy] at hrng hld
    generalize adjL N (ps.take i)=L at *
    have st0:=st_a2 (at_new H' (.cells [.int .i64 0,.int .i64 0] 47 false)) rfl (.int .i64 (x:Int)) (.int .i64 (y:Int))
    rw [set_new] at st0
    simp (disch:=omega) only [h3,h13,h14,h15,rH.ix Tryz.underlying24 cs47,Int.toNat_natCast,hld,alloc_a2,st0,SS,eq_self,reduceIte,reduceCtorEq,Nat.reduceEqDiff,Nat.reduceAdd]
    generalize hG:H' ++ [AObj.cells [.int .i64 (x:Int),.int .i64 (y:Int)] 47 false]=G
    have pG:H'<+:G:=by rw [<- hG];exact List.prefix_append _ _
    have cG:G[H'.length]?=some (.cells [.int .i64 (x:Int),.int .i64 (y:Int)] 47 false):=by rw [<- hG];exact at_new ..
    have hJ1:=hJ.pre pG
    have hul:=hJ1.len
    have fr:∀ {z:Nat} ,z<L.length->us.getD z undef=.slice none 0 0∨H'.length ≠ rowO (us.getD z undef):=fun {z} hz=>by
      rcases own_nil (hJ.el z hz) with q | q
      . exact .inl q
      . right;omega
    obtain ⟨v1,K1,a1,a2,a3,a4,a5,a6⟩:=hJ1.app1 (x:=x) (by omega) (by have:=hdg x (by omega);omega) (y:Int)
    have cux:us[x]?=some (us.getD x undef):=by simp [show x<us.length by omega]
    have cK1:=a2 _ _ (fr (show x<L.length by omega)) cG
    have st1:=st_at (P:=Tryz.prog) (t:=27) (i:=x) (y:=v1) cs27 a3 (by omega) (by
      rcases a6.el x (by rw [List.length_set];omega) with ⟨q,_⟩ | ⟨o',q,_⟩ <;> rw [List.getD_eq_getElem?_getD,List.getElem?_set_self (by omega)] at q <;> simp only [Option.getD_some] at q <;> rw [q] <;> rfl) a5
    have cZ1:(K1.set A.length (.cells (us.set x v1) 27 false))[H'.length]?=some (.cells [.int .i64 (x:Int),.int .i64 (y:Int)] 47 false):=by
      rw [List.getElem?_set_ne (by have:=hJ.olt;have:=hJ.le;omega)];exact cK1
    have hat0:=hJ1.at_
    simp (disch:=omega) only [h3,cell_of cG,Int.toNat_natCast,Nat.zero_add,cell_of hat0,cux,a1,cell_of cK1,st1,SS,eq_self,reduceIte,reduceCtorEq,Nat.reduceEqDiff,Nat.reduceAdd]
    generalize hZ:K1.set A.length (.cells (us.set x v1) 27 false)=Z at *
    obtain ⟨v2,K2,b1,b2,b3,b4,b5,b6⟩:=a6.app1 (x:=y) (by rw [List.length_set];omega) (by
      rw [List.getD_eq_getElem?_getD,List.getElem?_set_ne (by omega),<- List.getD_eq_getElem?_getD]
      have:=hdg y (by omega);omega) (x:Int)
    have hatZ:=a6.at_
    have hLy:(L.set x (L.getD x [] ++ [(y:Int)])).getD y []=L.getD y []:=by
      rw [List.getD_eq_getElem?_getD,List.getElem?_set_ne (by omega),<- List.getD_eq_getElem?_getD]
    rw [hLy,<- hstep] at b6
    have cuy:(us.set x v1)[y]?=some ((us.set x v1).getD y undef):=by simp [show y<us.length by omega]
    have frZ:(us.set x v1).getD y undef=.slice none 0 0∨H'.length ≠ rowO ((us.set x v1).getD y undef):=by
      have:(us.set x v1).getD y undef=us.getD y undef:=by
        rw [List.getD_eq_getElem?_getD,List.getElem?_set_ne (by omega),<- List.getD_eq_getElem?_getD]
      rw [this];exact fr (by omega)
    have cK2:=b2 _ _ frZ cZ1
    have st2:=st_at (P:=Tryz.prog) (t:=27) (i:=y) (y:=v2) cs27 b3 (by rw [List.length_set];omega) (by
      rcases b6.el y (by rw [adjL_len];omega) with ⟨q,_⟩ | ⟨o',q,_⟩ <;> rw [List.getD_eq_getElem?_getD,List.getElem?_set_self (by rw [List.length_set];omega)] at q <;> simp only [Option.getD_some] at q <;> rw [q] <;> rfl) b5
    simp (disch:=omega) only [h3,h13,h14,h15,cell_of cZ1,Int.toNat_natCast,Nat.zero_add,cell_of hatZ,cuy,b1,cell_of cK2,st2,wrap64,SS,eq_self,reduceIte,reduceCtorEq,Nat.reduceEqDiff,Nat.reduceAdd]
    refine ⟨m - 1,by omega,i+1,(us.set x v1).set y v2,?_⟩
    (repeat' first | exact b6 | apply And.intro) <;> first | (simp only [Value.int.injEq,true_and];omega) | omega | rfl | assumption | (simp;done) | (simp;omega)
  . have hi:i=ps.length:=by omega
    subst hi
    rw [List.take_length,rdS_adj hps] at hJ
    clear hLl
    simp (disch:=omega) only [h3,SS,eq_self,reduceIte,reduceCtorEq,Nat.reduceEqDiff,Nat.reduceAdd]
    refine LoopH.by (fun m s H'=>∃ (i:Nat),m+i=N/\s 3=.slice (some ⟨A.length,0,none⟩) N N/\s 46=.slice (some ⟨A.length,0,none⟩) N N/\s 47=.int .i64 (N:Int)/\s 48=.int .i64 ((i:Nat):Int)/\Adj B H' A.length us (rdS N ps)) N ?_ ?_
    . refine ⟨0,?_⟩
      simp (disch:=omega) only [h3,SS,eq_self,reduceIte,reduceCtorEq,Nat.reduceEqDiff,Nat.reduceAdd]
      (repeat' first | exact hJ | apply And.intro) <;> first | (simp only [Value.int.injEq,true_and];omega) | omega | rfl | assumption | (simp;done) | (simp;omega)
    rintro m' s' K ⟨i,hm',k3,k46,k47,k48,hJ'⟩
    have hrl:=rdS_len N ps
    simp (disch:=omega) only [k3,k46,k47,k48,SS,eq_self,reduceIte,reduceCtorEq,Nat.reduceEqDiff,Nat.reduceAdd]
    refine brD.intro (fun g=>?_) (fun g=>?_)
    . have hi:i<N:=by omega
      have hul:=hJ'.len
      have hat:=hJ'.at_
      have cui:us[i]?=some (us.getD i undef):=by simp [show i<us.length by omega]
      have hel:=hJ'.el i (by omega)
      rw [rdS_at N ps hi] at hel
      simp (disch:=omega) only [k3,k46,k47,k48,cell_of hat,Int.toNat_natCast,Nat.zero_add,cui,SS,eq_self,reduceIte,reduceCtorEq,Nat.reduceEqDiff,Nat.reduceAdd]
      refine CallH.by (Sort_c _ _ _ K hel (hdeg _)) ?_
      rintro _ K2 ⟨ys,y1,y2,y3,y4⟩
      have hys:=perm_asc y2 y3 (nbS_asc hps _)
      rw [hys] at y1
      have hJ2:=hJ'.same (x:=i) (by omega) (by rw [rdS_at N ps hi];exact y1) y4
      simp (disch:=omega) only [k3,k46,k47,k48,wrap64,SS,eq_self,reduceIte,reduceCtorEq,Nat.reduceEqDiff,Nat.reduceAdd]
      refine ⟨m' - 1,by omega,i+1,?_⟩
      (repeat' first | exact hJ2 | apply And.intro) <;> first | (simp only [Value.int.injEq,true_and];omega) | omega | rfl | assumption | (simp;done) | (simp;omega)
    . simp (disch:=omega) only [k3,SS,eq_self,reduceIte,reduceCtorEq,Nat.reduceEqDiff,Nat.reduceAdd]
      refine hQ _ _ _ ?_
      simp (disch:=omega) only [SS,eq_self,reduceIte,reduceCtorEq,Nat.reduceEqDiff,Nat.reduceAdd]
      have hp2:=keepB hJ'
      have hu:=(hJ'.inU (lo:=H.length) (by omega)).row
      rw [hrl] at hu
      exact ⟨⟨_,hu⟩,hp2⟩
theorem stpI_mem {p:List Int->List Int->Bool}{ls:List (List Int)}{i:Nat}{e:Int × Int}:∀ k,e ∈ stpI p ls i k↔e.1=i/\((i:Int)<e.2/\e.2<i+1+k)/\p (ls.getD i []) (ls.getD e.2.toNat [])=true
  | 0=>by simp [stpI];omega
  | k+1=>by
    rw [stpI,List.mem_append,stpI_mem k]
    constructor
    . rintro (⟨h1,h2,h3⟩ | h)
      . exact ⟨h1,by omega,h3⟩
      . split at h
        . rename_i hp
          rw [List.mem_singleton] at h
          subst h
          exact ⟨rfl,by simp only;omega,by rw [Int.toNat_natCast];exact hp⟩
        . simp at h
    . rintro ⟨h1,h2,h3⟩
      by_cases q:e.2=((i+1+k:Nat):Int)
      . right
        rw [q,Int.toNat_natCast] at h3
        rw [if_pos h3,List.mem_singleton]
        exact Prod.ext h1 q
      . exact .inl ⟨h1,by omega,h3⟩
theorem stpI_srt (p:List Int->List Int->Bool)(ls:List (List Int))(i:Nat):∀ k,(stpI p ls i k).Pairwise pairLt
  | 0=>.nil
  | k+1=>by
    rw [stpI,List.pairwise_append]
    refine ⟨stpI_srt p ls i k,by split <;> simp,fun a ha b hb=>?_⟩
    have h1:=(stpI_mem k).1 ha
    split at hb
    . rw [List.mem_singleton] at hb
      subst hb
      unfold pairLt;simp only;omega
    . simp at hb
theorem stpO_mem {p:List Int->List Int->Bool}{ls:List (List Int)}{e:Int × Int}:∀ i,i<=ls.length->(e ∈ stpO p ls i↔(0<=e.1/\e.1<i)/\(e.1<e.2/\e.2<ls.length)/\p (ls.getD e.1.toNat []) (ls.getD e.2.toNat [])=true)
  | 0,_=>by simp [stpO];omega
  | i+1,hi=>by
    rw [stpO,List.mem_append,stpO_mem i (by omega),stpI_mem]
    constructor
    . rintro (⟨h1,h2,h3⟩ | ⟨h1,h2,h3⟩)
      . exact ⟨by omega,h2,h3⟩
      . refine ⟨by omega,by omega,?_⟩
        rw [h1,Int.toNat_natCast];exact h3
    . rintro ⟨h1,h2,h3⟩
      by_cases q:e.1=i
      . right
        rw [q,Int.toNat_natCast] at h3
        exact ⟨q,by omega,h3⟩
      . exact .inl ⟨by omega,h2,h3⟩
theorem stpO_srt (p:List Int->List Int->Bool)(ls:List (List Int)):∀ i,i<=ls.length->(stpO p ls i).Pairwise pairLt
  | 0,_=>.nil
  | i+1,hi=>by
    rw [stpO,List.pairwise_append]
    refine ⟨stpO_srt p ls i (by omega),stpI_srt p ls i _,fun a ha b hb=>?_⟩
    have h1:=(stpO_mem i (by omega)).1 ha
    have h2:=(stpI_mem _).1 hb
    unfold pairLt;omega
theorem steps_ok (p:List Int->List Int->Bool)(ls:List (List Int)):StpOk ls.length (steps p ls) :=
  ⟨fun e he=>by have:=(stpO_mem _ (Nat.le_refl _)).1 he;omega,stpO_srt p ls _ (Nat.le_refl _)⟩
theorem steps_nb (p:List Int->List Int->Bool)(ls:List (List Int)){x y:Nat}(hx:x<ls.length)(hy:y<ls.length):(y:Int) ∈ nbS (steps p ls) x↔(y<x/\p (ls.getD y []) (ls.getD x [])=true)∨(x<y/\p (ls.getD x []) (ls.getD y [])=true):=by
  rw [nbS_mem,stpO_mem _ (Nat.le_refl _),stpO_mem _ (Nat.le_refl _)]
  simp only [Int.toNat_natCast]
  constructor
  . rintro (⟨h1,h2,h3⟩ | ⟨h1,h2,h3⟩)
    . exact .inl ⟨by omega,h3⟩
    . exact .inr ⟨by omega,h3⟩
  . rintro (⟨h1,h2⟩ | ⟨h1,h2⟩)
    . exact .inl ⟨by omega,by omega,h2⟩
    . exact .inr ⟨by omega,by omega,h2⟩
theorem nbS_cnt (p:List Int->List Int->Bool)(ls:List (List Int))(x:Nat):(nbS (steps p ls) x).length<=ls.countP fun m=>p m (ls.getD x []) || p (ls.getD x []) m:=by
  have hok:=steps_ok p ls
  have hasc:=nbS_asc hok (x:Int)
  have hm:(nbS (steps p ls) x).map (fun z=>z.toNat)=((List.range ls.length).filter fun y:Nat=>decide ((y:Int) ∈ nbS (steps p ls) x)):=by
    have hs:((nbS (steps p ls) x).map (fun z=>z.toNat)).Pairwise (· < ·):=by
      rw [List.pairwise_map]
      refine List.Pairwise.imp_of_mem ?_ hasc
      intro a b ha hb hab
      have:=nbS_rng hok ha;omega
    have hs2:=(List.pairwise_lt_range (n:=ls.length)).filter (fun y:Nat=>decide ((y:Int) ∈ nbS (steps p ls) x))
    refine List.Perm.eq_of_pairwise (le:=(· < ·)) (fun a b _ _ h3 h4=>by omega) hs hs2 ?_
    rw [List.perm_ext_iff_of_nodup (hs.imp fun h=>by omega) (hs2.imp fun h=>by omega)]
    intro y
    simp only [List.mem_map,List.mem_filter,List.mem_range,decide_eq_true_eq]
    constructor
    . rintro ⟨z,hz,rfl⟩
      have:=nbS_rng hok hz
      refine ⟨by omega,?_⟩
      rw [Int.toNat_of_nonneg this.1];exact hz
    . rintro ⟨_,h⟩
      exact ⟨_,h,by simp⟩
  have hl:=congrArg List.length hm
  rw [List.length_map] at hl
  rw [hl]
  by_cases hx:x<ls.length
  . have e1:ls=(List.range ls.length).map fun i=>ls.getD i []:=by
      refine List.ext_getElem (by simp) fun i h1 h2=>?_
      simp [h1]
    conv=>rhs;rw [e1]
    rw [List.countP_map,<- List.countP_eq_length_filter]
    refine List.countP_mono_left fun y hy hd=>?_
    have hyl:=List.mem_range.1 hy
    have:=(steps_nb p ls hx hyl).1 (of_decide_eq_true hd)
    have e2:((List.range ls.length).map fun i=>ls.getD i []).getD x []=ls.getD x []:=by rw [<- e1]
    simp only [Function.comp_apply,e2,Bool.or_eq_true]
    rcases this with h | h
    . exact .inl h.2
    . exact .inr h.2
  . have:((List.range ls.length).filter fun y:Nat=>decide ((y:Int) ∈ nbS (steps p ls) x))=[]:=by
      rw [List.filter_eq_nil_iff]
      intro y hy
      rw [decide_eq_true_eq,nbS_mem]
      rintro (h | h)
      . have:=hok.rng _ h;simp only at this;omega
      . have:=hok.rng _ h;simp only at this;omega
    rw [this];simp
end Go.Proofs.YtjnefjchconebaaGreat.Ai
