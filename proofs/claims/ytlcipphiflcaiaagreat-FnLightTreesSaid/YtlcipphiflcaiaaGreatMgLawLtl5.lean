/- Texts of this claim, joined: SrtO, SpR, StpP, Dix, Has, Seq, Perm, DfB, Jmp, TrbE, Clone, Lst, Kps, Joi, Trw, Put, Swp, Reach, Wout, Two, L3s, OrN, Tri, TrI. -/
import Derived.Test.YtlcipphiflcaiaaGreatProg
import Derived.KernelRfl
import Derived.RangeFuncBox
import Derived.RangeFuncLeaves
import Derived.Shelf.Abstract
import Derived.WalkKit
import Derived.OwnWalkIn
import Derived.TacticsInMore
import Derived.LoopNIn
import Derived.LoopIn
import Derived.Maps.AppendAt
import Derived.Test.YtlcipphiflcaiaaGreatMgLawLtl4
set_option linter.unusedVariables false
set_option linter.unusedSimpArgs false
set_option maxHeartbeats 8000000
set_option maxRecDepth 20000
namespace Go.Proofs.YtlcipphiflcaiaaGreat.Ai
open Go Go.RowKit
def cd224:Cd:=(.seq (.reg [⟨⟨some 8,.assign (.const (.int .i64 0)),none⟩,[]⟩,⟨⟨some 9,.assign (.const (.int .i64 0)),none⟩,[]⟩]) (.seq (.seq (.reg [⟨⟨some 10,.move (.tmp 0),none⟩,[]⟩,⟨⟨some 11,.move (.tmp 2),none⟩,[]⟩,⟨⟨some 12,.indexAddr 27 (.tmp 10) (.tmp 11),none⟩,[]⟩,⟨⟨some 13,.load 3 (.tmp 12),none⟩,[]⟩,⟨⟨some 14,.move (.tmp 0),none⟩,[]⟩,⟨⟨some 15,.move (.tmp 1),none⟩,[]⟩,⟨⟨some 16,.indexAddr 27 (.tmp 14) (.tmp 15),none⟩,[]⟩,⟨⟨some 17,.load 3 (.tmp 16),none⟩,[]⟩,⟨⟨some 18,.call ⟨(.value (.func 209)),#[.tmp 13,.tmp 17],#[3,3]⟩,none⟩,[]⟩]) (.cond (.tmp 18) (.seq (.reg [⟨⟨some 19,.move (.tmp 3),none⟩,[]⟩,⟨⟨some 20,.nilCheck (.tmp 19),none⟩,[]⟩,⟨⟨some 21,.load 3 (.tmp 20),none⟩,[]⟩,
 ⟨⟨some 22,.binOp .add 3 (.tmp 21) (.const (.int .i64 1)) 3,none⟩,[]⟩,
  ⟨⟨some 23,.nilCheck (.tmp 19),none⟩,[]⟩,
  ⟨⟨none,.store 3 (.tmp 23) (.tmp 22),none⟩,[]⟩]) (.seq (.reg [⟨⟨some 24,.move (.tmp 2),none⟩,[]⟩,
  ⟨⟨some 25,.move (.tmp 1),none⟩,[]⟩,
  ⟨⟨some 8,.assign (.tmp 24),none⟩,[]⟩,
  ⟨⟨some 9,.assign (.tmp 25),none⟩,[]⟩]) .ret)) .skip)) (.seq (.reg [⟨⟨some 26,.move (.tmp 1),none⟩,[]⟩,
  ⟨⟨some 27,.move (.tmp 2),none⟩,[]⟩,
  ⟨⟨some 8,.assign (.tmp 26),none⟩,[]⟩,
  ⟨⟨some 9,.assign (.tmp 27),none⟩,[]⟩]) .ret)))
theorem in224:InT Tryz.prog 224 4 [.tmp 8,.tmp 9] cd224:=InT.mk (by kernel_rfl) [(1,[(0,false),(1,false),(2,false),(3,false),(4,false),(5,false),(6,false),(7,false),(8,true)])] Tryz.func224 rfl (by kernel_rfl) (by kernel_rfl) (of_decide_eq_true (by kernel_rfl)) (by kernel_rfl)
def cd222:Cd:=(.seq (.reg [⟨⟨some 10,.assign (.const (.int .i64 0)),none⟩,[]⟩]) (.seq (.reg [⟨⟨some 12,.move (.tmp 0),none⟩,[]⟩,⟨⟨some 13,.move (.tmp 1),none⟩,[]⟩,⟨⟨some 14,.move (.tmp 2),none⟩,[]⟩,⟨⟨some 15,.move (.tmp 4),none⟩,[]⟩,⟨⟨some 16,.call ⟨(.value (.func 224)),#[.tmp 12,.tmp 13,.tmp 14,.tmp 15],#[27,3,3,187]⟩,none⟩,[]⟩,⟨⟨some 11,.move (.tmp 16),none⟩,[]⟩,⟨⟨some 17,.extract (.tmp 11) 0,none⟩,[]⟩,⟨⟨some 18,.extract (.tmp 11) 1,none⟩,[]⟩,⟨⟨some 1,.assign (.tmp 17),none⟩,[]⟩,⟨⟨some 2,.assign (.tmp 18),none⟩,[]⟩]) (.seq (.reg [⟨⟨some 20,.move (.tmp 0),none⟩,[]⟩,⟨⟨some 21,.move (.tmp 2),none⟩,[]⟩,⟨⟨some 22,.move (.tmp 3),none⟩,[]⟩,
 ⟨⟨some 23,.move (.tmp 4),none⟩,[]⟩,⟨⟨some 24,.call ⟨(.value (.func 224)),#[.tmp 20,.tmp 21,.tmp 22,.tmp 23],#[27,3,3,187]⟩,none⟩,[]⟩,⟨⟨some 19,.move (.tmp 24),none⟩,[]⟩,⟨⟨some 25,.extract (.tmp 19) 0,none⟩,[]⟩,⟨⟨some 26,.extract (.tmp 19) 1,none⟩,[]⟩,⟨⟨some 2,.assign (.tmp 25),none⟩,[]⟩,⟨⟨some 3,.assign (.tmp 26),none⟩,[]⟩]) (.seq (.reg [⟨⟨some 28,.move (.tmp 0),none⟩,[]⟩,⟨⟨some 29,.move (.tmp 1),none⟩,[]⟩,⟨⟨some 30,.move (.tmp 2),none⟩,[]⟩,⟨⟨some 31,.move (.tmp 4),none⟩,[]⟩,⟨⟨some 32,.call ⟨(.value (.func 224)),#[.tmp 28,.tmp 29,.tmp 30,.tmp 31],#[27,3,3,187]⟩,none⟩,[]⟩,⟨⟨some 27,.move (.tmp 32),none⟩,[]⟩,
 ⟨⟨some 33,.extract (.tmp 27) 0,none⟩,[]⟩,
  ⟨⟨some 34,.extract (.tmp 27) 1,none⟩,[]⟩,
  ⟨⟨some 1,.assign (.tmp 33),none⟩,[]⟩,
  ⟨⟨some 2,.assign (.tmp 34),none⟩,[]⟩]) (.seq (.reg [⟨⟨some 35,.move (.tmp 2),none⟩,[]⟩,
  ⟨⟨some 10,.assign (.tmp 35),none⟩,[]⟩]) .ret)))))
theorem in222:InT Tryz.prog 222 5 [.tmp 10] cd222:=InT.mk (by kernel_rfl) [] Tryz.func222 rfl (by kernel_rfl) (by kernel_rfl) (of_decide_eq_true (by kernel_rfl)) (by kernel_rfl)
def cd221:Cd:=(.seq (.reg [⟨⟨some 6,.assign (.const (.int .i64 0)),none⟩,[]⟩]) (.seq (.reg [⟨⟨some 7,.move (.tmp 0),none⟩,[]⟩,
 ⟨⟨some 8,.move (.tmp 1),none⟩,[]⟩,
 ⟨⟨some 9,.binOp .sub 3 (.tmp 8) (.const (.int .i64 1)) 3,none⟩,[]⟩,
 ⟨⟨some 10,.move (.tmp 1),none⟩,[]⟩,
 ⟨⟨some 11,.move (.tmp 1),none⟩,[]⟩,
 ⟨⟨some 12,.binOp .add 3 (.tmp 11) (.const (.int .i64 1)) 3,none⟩,[]⟩,
 ⟨⟨some 13,.move (.tmp 2),none⟩,[]⟩,
 ⟨⟨some 14,.call ⟨(.value (.func 222)),#[.tmp 7,.tmp 9,.tmp 10,.tmp 12,.tmp 13],#[27,3,3,3,187]⟩,none⟩,[]⟩,
 ⟨⟨some 6,.assign (.tmp 14),none⟩,[]⟩]) .ret))
theorem in221:InT Tryz.prog 221 3 [.tmp 6] cd221:=InT.mk (by kernel_rfl) [] Tryz.func221 rfl (by kernel_rfl) (by kernel_rfl) (of_decide_eq_true (by kernel_rfl)) (by kernel_rfl)
def cd208:Cd:=(.seq (.reg [⟨⟨some 6,.assign (.const (.bool false)),none⟩,[]⟩]) (.seq (.reg [⟨⟨some 11,.move (.tmp 1),none⟩,[]⟩,⟨⟨some 12,.binOp .add 3 (.tmp 11) (.const (.int .i64 1)) 3,none⟩,[]⟩,⟨⟨some 7,.assign (.tmp 12),none⟩,[]⟩]) (.seq (.seq (.reg [⟨⟨some 8,.assign (.const (.int .i64 0)),none⟩,[]⟩]) (.block 0 (.loop (.seq (.seq (.reg [⟨⟨some 13,.move (.tmp 8),none⟩,[]⟩,⟨⟨some 14,.binOp .lss 3 (.tmp 13) (.const (.int .i64 5)) 3,none⟩,[]⟩]) (.cond (.tmp 14) .skip (.exit 0))) (.seq (.block 1 (.seq (.block 2 (.loop (.seq (.seq (.reg [⟨⟨some 17,.move (.tmp 7),none⟩,[]⟩,⟨⟨some 18,.move (.tmp 2),none⟩,[]⟩,⟨⟨some 19,.binOp .lss 3 (.tmp 17) (.tmp 18) 3,none⟩,[]⟩,⟨⟨some 20,.move (.tmp 19),none⟩,[]⟩,⟨⟨some 21,.move (.tmp 0),some (20,true)⟩,[]⟩,⟨⟨some 22,.move (.tmp 7),some (20,true)⟩,[]⟩,⟨⟨some 23,.indexAddr 27 (.tmp 21) (.tmp 22),some (20,true)⟩,[]⟩,⟨⟨some 24,.load 3 (.tmp 23),some (20,true)⟩,[]⟩,⟨⟨some 25,.move (.tmp 0),some (20,true)⟩,[]⟩,
 ⟨⟨some 26,.move (.tmp 7),some (20,true)⟩,[]⟩,⟨⟨some 27,.binOp .sub 3 (.tmp 26) (.const (.int .i64 1)) 3,some (20,true)⟩,[]⟩,⟨⟨some 28,.indexAddr 27 (.tmp 25) (.tmp 27),some (20,true)⟩,[]⟩,⟨⟨some 29,.load 3 (.tmp 28),some (20,true)⟩,[]⟩,⟨⟨some 30,.call ⟨(.value (.func 209)),#[.tmp 24,.tmp 29],#[3,3]⟩,some (20,true)⟩,[]⟩,⟨⟨some 31,.unOp .not 4 (.tmp 30),some (20,true)⟩,[]⟩,⟨⟨some 32,.pick (.tmp 20) (.tmp 31) (.const (.bool false)),none⟩,[]⟩]) (.cond (.tmp 32) .skip (.exit 2))) (.block 3 (.reg [⟨⟨some 33,.move (.tmp 7),none⟩,[]⟩,⟨⟨some 34,.binOp .add 3 (.tmp 33) (.const (.int .i64 1)) 3,none⟩,[]⟩,⟨⟨some 7,.assign (.tmp 34),none⟩,[]⟩]))))) (.seq (.seq (.reg [⟨⟨some 35,.move (.tmp 7),none⟩,[]⟩,⟨⟨some 36,.move (.tmp 2),none⟩,[]⟩,⟨⟨some 37,.binOp .eql 3 (.tmp 35) (.tmp 36) 3,none⟩,[]⟩]) (.cond (.tmp 37) (.seq (.reg [⟨⟨some 6,.assign (.const (.bool true)),none⟩,[]⟩]) .ret) .skip)) (.seq (.seq (.reg [⟨⟨some 38,.move (.tmp 2),none⟩,[]⟩,⟨⟨some 39,.move (.tmp 1),none⟩,[]⟩,
 ⟨⟨some 40,.binOp .sub 3 (.tmp 38) (.tmp 39) 3,none⟩,[]⟩,⟨⟨some 41,.binOp .lss 3 (.tmp 40) (.const (.int .i64 50)) 3,none⟩,[]⟩]) (.cond (.tmp 41) (.seq (.reg [⟨⟨some 6,.assign (.const (.bool false)),none⟩,[]⟩]) .ret) .skip)) (.seq (.reg [⟨⟨some 42,.move (.tmp 0),none⟩,[]⟩,⟨⟨some 43,.move (.tmp 7),none⟩,[]⟩,⟨⟨some 44,.move (.tmp 0),none⟩,[]⟩,⟨⟨some 45,.move (.tmp 7),none⟩,[]⟩,⟨⟨some 46,.binOp .sub 3 (.tmp 45) (.const (.int .i64 1)) 3,none⟩,[]⟩,⟨⟨some 47,.move (.tmp 0),none⟩,[]⟩,⟨⟨some 48,.move (.tmp 7),none⟩,[]⟩,⟨⟨some 49,.binOp .sub 3 (.tmp 48) (.const (.int .i64 1)) 3,none⟩,[]⟩,⟨⟨some 50,.indexAddr 27 (.tmp 47) (.tmp 49),none⟩,[]⟩,⟨⟨some 51,.load 3 (.tmp 50),none⟩,[]⟩,⟨⟨some 52,.move (.tmp 0),none⟩,[]⟩,
 ⟨⟨some 53,.move (.tmp 7),none⟩,[]⟩,⟨⟨some 54,.indexAddr 27 (.tmp 52) (.tmp 53),none⟩,[]⟩,⟨⟨some 55,.load 3 (.tmp 54),none⟩,[]⟩,⟨⟨some 56,.indexAddr 27 (.tmp 42) (.tmp 43),none⟩,[]⟩,⟨⟨none,.store 3 (.tmp 56) (.tmp 51),none⟩,[]⟩,⟨⟨some 57,.indexAddr 27 (.tmp 44) (.tmp 46),none⟩,[]⟩,⟨⟨none,.store 3 (.tmp 57) (.tmp 55),none⟩,[]⟩]) (.seq (.seq (.reg [⟨⟨some 58,.move (.tmp 7),none⟩,[]⟩,⟨⟨some 59,.move (.tmp 1),none⟩,[]⟩,⟨⟨some 60,.binOp .sub 3 (.tmp 58) (.tmp 59) 3,none⟩,[]⟩,⟨⟨some 61,.binOp .geq 3 (.tmp 60) (.const (.int .i64 2)) 3,none⟩,[]⟩]) (.cond (.tmp 61) (.seq (.reg [⟨⟨some 62,.move (.tmp 7),none⟩,[]⟩,⟨⟨some 63,.binOp .sub 3 (.tmp 62) (.const (.int .i64 1)) 3,none⟩,[]⟩,⟨⟨some 9,.assign (.tmp 63),none⟩,[]⟩]) (.block 4 (.loop (.seq (.seq (.reg [⟨⟨some 64,.move (.tmp 9),none⟩,[]⟩,
 ⟨⟨some 65,.binOp .geq 3 (.tmp 64) (.const (.int .i64 1)) 3,none⟩,[]⟩]) (.cond (.tmp 65) .skip (.exit 4))) (.seq (.block 5 (.seq (.seq (.reg [⟨⟨some 68,.move (.tmp 0),none⟩,[]⟩,⟨⟨some 69,.move (.tmp 9),none⟩,[]⟩,⟨⟨some 70,.indexAddr 27 (.tmp 68) (.tmp 69),none⟩,[]⟩,⟨⟨some 71,.load 3 (.tmp 70),none⟩,[]⟩,⟨⟨some 72,.move (.tmp 0),none⟩,[]⟩,⟨⟨some 73,.move (.tmp 9),none⟩,[]⟩,⟨⟨some 74,.binOp .sub 3 (.tmp 73) (.const (.int .i64 1)) 3,none⟩,[]⟩,⟨⟨some 75,.indexAddr 27 (.tmp 72) (.tmp 74),none⟩,[]⟩,⟨⟨some 76,.load 3 (.tmp 75),none⟩,[]⟩,⟨⟨some 77,.call ⟨(.value (.func 209)),#[.tmp 71,.tmp 76],#[3,3]⟩,none⟩,[]⟩,⟨⟨some 78,.unOp .not 4 (.tmp 77),none⟩,[]⟩]) (.cond (.tmp 78) (.exit 4) .skip)) (.reg [⟨⟨some 79,.move (.tmp 0),none⟩,[]⟩,⟨⟨some 80,.move (.tmp 9),none⟩,[]⟩,
 ⟨⟨some 81,.move (.tmp 0),none⟩,[]⟩,⟨⟨some 82,.move (.tmp 9),none⟩,[]⟩,⟨⟨some 83,.binOp .sub 3 (.tmp 82) (.const (.int .i64 1)) 3,none⟩,[]⟩,⟨⟨some 84,.move (.tmp 0),none⟩,[]⟩,⟨⟨some 85,.move (.tmp 9),none⟩,[]⟩,⟨⟨some 86,.binOp .sub 3 (.tmp 85) (.const (.int .i64 1)) 3,none⟩,[]⟩,⟨⟨some 87,.indexAddr 27 (.tmp 84) (.tmp 86),none⟩,[]⟩,⟨⟨some 88,.load 3 (.tmp 87),none⟩,[]⟩,⟨⟨some 89,.move (.tmp 0),none⟩,[]⟩,⟨⟨some 90,.move (.tmp 9),none⟩,[]⟩,⟨⟨some 91,.indexAddr 27 (.tmp 89) (.tmp 90),none⟩,[]⟩,⟨⟨some 92,.load 3 (.tmp 91),none⟩,[]⟩,
 ⟨⟨some 93,.indexAddr 27 (.tmp 79) (.tmp 80),none⟩,[]⟩,⟨⟨none,.store 3 (.tmp 93) (.tmp 88),none⟩,[]⟩,⟨⟨some 94,.indexAddr 27 (.tmp 81) (.tmp 83),none⟩,[]⟩,⟨⟨none,.store 3 (.tmp 94) (.tmp 92),none⟩,[]⟩]))) (.reg [⟨⟨some 66,.move (.tmp 9),none⟩,[]⟩,⟨⟨some 67,.binOp .sub 3 (.tmp 66) (.const (.int .i64 1)) 3,none⟩,[]⟩,⟨⟨some 9,.assign (.tmp 67),none⟩,[]⟩])))))) .skip)) (.seq (.reg [⟨⟨some 95,.move (.tmp 2),none⟩,[]⟩,⟨⟨some 96,.move (.tmp 7),none⟩,[]⟩,⟨⟨some 97,.binOp .sub 3 (.tmp 95) (.tmp 96) 3,none⟩,[]⟩,⟨⟨some 98,.binOp .geq 3 (.tmp 97) (.const (.int .i64 2)) 3,none⟩,[]⟩]) (.cond (.tmp 98) (.seq (.reg [⟨⟨some 99,.move (.tmp 7),none⟩,[]⟩,⟨⟨some 100,.binOp .add 3 (.tmp 99) (.const (.int .i64 1)) 3,none⟩,[]⟩,⟨⟨some 10,.assign (.tmp 100),none⟩,[]⟩]) (.block 6 (.loop (.seq (.seq (.reg [⟨⟨some 101,.move (.tmp 10),none⟩,[]⟩,⟨⟨some 102,.move (.tmp 2),none⟩,[]⟩,
 ⟨⟨some 103,.binOp .lss 3 (.tmp 101) (.tmp 102) 3,none⟩,[]⟩]) (.cond (.tmp 103) .skip (.exit 6))) (.seq (.block 7 (.seq (.seq (.reg [⟨⟨some 106,.move (.tmp 0),none⟩,[]⟩,⟨⟨some 107,.move (.tmp 10),none⟩,[]⟩,⟨⟨some 108,.indexAddr 27 (.tmp 106) (.tmp 107),none⟩,[]⟩,⟨⟨some 109,.load 3 (.tmp 108),none⟩,[]⟩,⟨⟨some 110,.move (.tmp 0),none⟩,[]⟩,⟨⟨some 111,.move (.tmp 10),none⟩,[]⟩,⟨⟨some 112,.binOp .sub 3 (.tmp 111) (.const (.int .i64 1)) 3,none⟩,[]⟩,⟨⟨some 113,.indexAddr 27 (.tmp 110) (.tmp 112),none⟩,[]⟩,⟨⟨some 114,.load 3 (.tmp 113),none⟩,[]⟩,⟨⟨some 115,.call ⟨(.value (.func 209)),#[.tmp 109,.tmp 114],#[3,3]⟩,none⟩,[]⟩,⟨⟨some 116,.unOp .not 4 (.tmp 115),none⟩,[]⟩]) (.cond (.tmp 116) (.exit 6) .skip)) (.reg [⟨⟨some 117,.move (.tmp 0),none⟩,[]⟩,⟨⟨some 118,.move (.tmp 10),none⟩,[]⟩,
 ⟨⟨some 119,.move (.tmp 0),none⟩,[]⟩,⟨⟨some 120,.move (.tmp 10),none⟩,[]⟩,⟨⟨some 121,.binOp .sub 3 (.tmp 120) (.const (.int .i64 1)) 3,none⟩,[]⟩,⟨⟨some 122,.move (.tmp 0),none⟩,[]⟩,⟨⟨some 123,.move (.tmp 10),none⟩,[]⟩,⟨⟨some 124,.binOp .sub 3 (.tmp 123) (.const (.int .i64 1)) 3,none⟩,[]⟩,⟨⟨some 125,.indexAddr 27 (.tmp 122) (.tmp 124),none⟩,[]⟩,⟨⟨some 126,.load 3 (.tmp 125),none⟩,[]⟩,⟨⟨some 127,.move (.tmp 0),none⟩,[]⟩,⟨⟨some 128,.move (.tmp 10),none⟩,[]⟩,⟨⟨some 129,.indexAddr 27 (.tmp 127) (.tmp 128),none⟩,[]⟩,⟨⟨some 130,.load 3 (.tmp 129),none⟩,[]⟩,
 ⟨⟨some 131,.indexAddr 27 (.tmp 117) (.tmp 118),none⟩,[]⟩,
  ⟨⟨none,.store 3 (.tmp 131) (.tmp 126),none⟩,[]⟩,
  ⟨⟨some 132,.indexAddr 27 (.tmp 119) (.tmp 121),none⟩,[]⟩,
  ⟨⟨none,.store 3 (.tmp 132) (.tmp 130),none⟩,[]⟩]))) (.reg [⟨⟨some 104,.move (.tmp 10),none⟩,[]⟩,
  ⟨⟨some 105,.binOp .add 3 (.tmp 104) (.const (.int .i64 1)) 3,none⟩,[]⟩,
  ⟨⟨some 10,.assign (.tmp 105),none⟩,[]⟩])))))) .skip)))))))) (.reg [⟨⟨some 15,.move (.tmp 8),none⟩,[]⟩,
  ⟨⟨some 16,.binOp .add 3 (.tmp 15) (.const (.int .i64 1)) 3,none⟩,[]⟩,
  ⟨⟨some 8,.assign (.tmp 16),none⟩,[]⟩])))))) (.seq (.reg [⟨⟨some 6,.assign (.const (.bool false)),none⟩,[]⟩]) .ret))))
theorem in208:InT Tryz.prog 208 3 [.tmp 6] cd208:=InT.mk (by kernel_rfl) [(5,[(0,false),(1,false),(2,false),(3,false),(4,false),(5,false),(6,false),(7,false),(8,false),(9,false),(10,false),(11,false),(12,false),(13,true),(14,false),(15,false)]),(11,[(0,false),(1,false),(2,false),(3,false),(4,false),(5,false),(6,false),(7,false),(8,false),(9,false),(10,false),(11,false),(12,false),(13,false),(14,false),(15,true),(16,false),(17,true)]),(16,[(0,false),(1,false),(2,false),(3,false),(4,false),(5,false),(6,false),(7,false),(8,false),(9,true),(10,false)]),(17,[(0,false),(1,false),(2,false),(3,false),(4,false),(5,false),(6,false),(7,false),(8,false),(9,false),(10,false),(11,false),(12,false),(13,false),(14,false),(15,true),(16,false),(17,true)]),(22,[(0,false),(1,false),(2,false),(3,false),(4,false),(5,false),(6,false),(7,false),(8,false),(9,true),(10,false)]),(23,[(0,false),(1,false),(2,false),(3,false),(4,false),(5,false),(6,false),(7,false),(8,false),(9,false),(10,false),(11,false),(12,false),(13,false),(14,false),(15,true),(16,false),(17,true)])] Tryz.func208 rfl (by kernel_rfl) (by kernel_rfl) (of_decide_eq_true (by kernel_rfl)) (by kernel_rfl)
def cd206:Cd:=(.seq (.reg [⟨⟨some 6,.assign (.const (.int .i64 0)),none⟩,[]⟩,⟨⟨some 7,.assign (.const (.int .i64 0)),none⟩,[]⟩]) (.seq (.reg [⟨⟨some 13,.move (.tmp 2),none⟩,[]⟩,⟨⟨some 14,.move (.tmp 1),none⟩,[]⟩,⟨⟨some 15,.binOp .sub 3 (.tmp 13) (.tmp 14) 3,none⟩,[]⟩,⟨⟨some 8,.assign (.tmp 15),none⟩,[]⟩]) (.seq (.reg [⟨⟨some 9,.alloc 3,none⟩,[]⟩]) (.seq (.reg [⟨⟨some 16,.move (.tmp 1),none⟩,[]⟩,⟨⟨some 17,.move (.tmp 8),none⟩,[]⟩,⟨⟨some 18,.binOp .quo 3 (.tmp 17) (.const (.int .i64 4)) 3,none⟩,[]⟩,⟨⟨some 19,.binOp .mul 3 (.tmp 18) (.const (.int .i64 1)) 3,none⟩,[]⟩,⟨⟨some 20,.binOp .add 3 (.tmp 16) (.tmp 19) 3,none⟩,[]⟩,⟨⟨some 10,.assign (.tmp 20),none⟩,[]⟩]) (.seq (.reg [⟨⟨some 21,.move (.tmp 1),none⟩,[]⟩,⟨⟨some 22,.move (.tmp 8),none⟩,[]⟩,⟨⟨some 23,.binOp .quo 3 (.tmp 22) (.const (.int .i64 4)) 3,none⟩,[]⟩,
 ⟨⟨some 24,.binOp .mul 3 (.tmp 23) (.const (.int .i64 2)) 3,none⟩,[]⟩,⟨⟨some 25,.binOp .add 3 (.tmp 21) (.tmp 24) 3,none⟩,[]⟩,⟨⟨some 11,.assign (.tmp 25),none⟩,[]⟩]) (.seq (.reg [⟨⟨some 26,.move (.tmp 1),none⟩,[]⟩,⟨⟨some 27,.move (.tmp 8),none⟩,[]⟩,⟨⟨some 28,.binOp .quo 3 (.tmp 27) (.const (.int .i64 4)) 3,none⟩,[]⟩,⟨⟨some 29,.binOp .mul 3 (.tmp 28) (.const (.int .i64 3)) 3,none⟩,[]⟩,⟨⟨some 30,.binOp .add 3 (.tmp 26) (.tmp 29) 3,none⟩,[]⟩,⟨⟨some 12,.assign (.tmp 30),none⟩,[]⟩]) (.seq (.seq (.reg [⟨⟨some 31,.move (.tmp 8),none⟩,[]⟩,⟨⟨some 32,.binOp .geq 3 (.tmp 31) (.const (.int .i64 8)) 3,none⟩,[]⟩]) (.cond (.tmp 32) (.seq (.seq (.reg [⟨⟨some 33,.move (.tmp 8),none⟩,[]⟩,⟨⟨some 34,.binOp .geq 3 (.tmp 33) (.const (.int .i64 50)) 3,none⟩,[]⟩]) (.cond (.tmp 34) (.seq (.reg [⟨⟨some 35,.move (.tmp 0),none⟩,[]⟩,⟨⟨some 36,.move (.tmp 10),none⟩,[]⟩,⟨⟨some 37,.call ⟨(.value (.func 221)),#[.tmp 35,.tmp 36,.tmp 9],#[27,3,187]⟩,none⟩,[]⟩,
 ⟨⟨some 10,.assign (.tmp 37),none⟩,[]⟩]) (.seq (.reg [⟨⟨some 38,.move (.tmp 0),none⟩,[]⟩,⟨⟨some 39,.move (.tmp 11),none⟩,[]⟩,⟨⟨some 40,.call ⟨(.value (.func 221)),#[.tmp 38,.tmp 39,.tmp 9],#[27,3,187]⟩,none⟩,[]⟩,⟨⟨some 11,.assign (.tmp 40),none⟩,[]⟩]) (.reg [⟨⟨some 41,.move (.tmp 0),none⟩,[]⟩,⟨⟨some 42,.move (.tmp 12),none⟩,[]⟩,⟨⟨some 43,.call ⟨(.value (.func 221)),#[.tmp 41,.tmp 42,.tmp 9],#[27,3,187]⟩,none⟩,[]⟩,⟨⟨some 12,.assign (.tmp 43),none⟩,[]⟩]))) .skip)) (.reg [⟨⟨some 44,.move (.tmp 0),none⟩,[]⟩,⟨⟨some 45,.move (.tmp 10),none⟩,[]⟩,⟨⟨some 46,.move (.tmp 11),none⟩,[]⟩,⟨⟨some 47,.move (.tmp 12),none⟩,[]⟩,⟨⟨some 48,.call ⟨(.value (.func 222)),#[.tmp 44,.tmp 45,.tmp 46,.tmp 47,.tmp 9],#[27,3,3,3,187]⟩,none⟩,[]⟩,⟨⟨some 11,.assign (.tmp 48),none⟩,[]⟩])) .skip)) (.seq (.reg [⟨⟨some 49,.load 3 (.tmp 9),none⟩,[]⟩]) (.block 0 (.seq (.reg [⟨⟨some 52,.binOp .eql 3 (.tmp 49) (.const (.int .i64 0)) 3,none⟩,[]⟩,
 ⟨⟨some 51,.assign (.tmp 52),none⟩,[]⟩]) (.cond (.tmp 51) (.seq (.reg [⟨⟨some 53,.move (.tmp 11),none⟩,[]⟩,
  ⟨⟨some 6,.assign (.tmp 53),none⟩,[]⟩,
  ⟨⟨some 7,.assign (.const (.int .i64 1)),none⟩,[]⟩]) .ret) (.seq (.reg [⟨⟨some 55,.binOp .eql 3 (.tmp 49) (.const (.int .i64 12)) 3,none⟩,[]⟩,
  ⟨⟨some 54,.assign (.tmp 55),none⟩,[]⟩]) (.cond (.tmp 54) (.seq (.reg [⟨⟨some 56,.move (.tmp 11),none⟩,[]⟩,
  ⟨⟨some 6,.assign (.tmp 56),none⟩,[]⟩,
  ⟨⟨some 7,.assign (.const (.int .i64 2)),none⟩,[]⟩]) .ret) (.seq (.reg [⟨⟨some 50,.move (.tmp 11),none⟩,[]⟩,
  ⟨⟨some 6,.assign (.tmp 50),none⟩,[]⟩,
  ⟨⟨some 7,.assign (.const (.int .i64 0)),none⟩,[]⟩]) .ret))))))))))))))
theorem in206:InT Tryz.prog 206 3 [.tmp 6,.tmp 7] cd206:=InT.mk (by kernel_rfl) [] Tryz.func206 rfl (by kernel_rfl) (by kernel_rfl) (of_decide_eq_true (by kernel_rfl)) (by kernel_rfl)
end Go.Proofs.YtlcipphiflcaiaaGreat.Ai
namespace Go.Proofs.YtlcipphiflcaiaaGreat.Ai
open Go Go.RowKit
section
variable {v:Value} {xs:List Int} {H:AH}
theorem ascO_at (hs:xs.Pairwise (· < ·)){i j:Nat}(hij:i<=j)(hj:j<xs.length):¬ xs.getD j 0<xs.getD i 0:=by
 by_cases e:i=j
 ·subst e;omega
 ·have:=(List.pairwise_iff_getElem.1 hs) i j (by omega) hj (by omega)
  have e1:xs.getD i 0=xs[i]:=by simp [show i<xs.length by omega]
  have e2:xs.getD j 0=xs[j]:=by simp [hj]
  omega
theorem order2O_c (hr:Row 3 H v xs)(hs:xs.Pairwise (· < ·))(a b:Nat)(p:Value)(hab:a<=b)(hb:b<xs.length) :
  ACalls Tryz.prog 224 [v,.int .i64 (a:Int),.int .i64 (b:Int),p] H fun r H'=>r=.tuple (List.toArray [.int .i64 (a:Int),.int .i64 (b:Int)])/\H=H':=by
 refine in224 rfl ?_
 intro Q hQ
 have hca:=hr.cell (show a<xs.length by omega)
 have hcb:=hr.cell hb
 simp (disch:=omega) only [cd224,hr.ix Tryz.underlying27 cs3,Int.toNat_natCast,hca,hcb,SS,eq_self,reduceIte,reduceCtorEq,Nat.reduceEqDiff,Nat.reduceAdd]
 refine CallH.by (Less_c _ _ H) ?_
 rintro _ _ ⟨rfl,rfl⟩
 simp (disch:=omega) only [decide_eq_false (ascO_at hs hab hb),SS,eq_self,reduceIte,reduceCtorEq,Nat.reduceEqDiff,Nat.reduceAdd]
 refine hQ _ _ _ ?_
 simp (disch:=omega) only [SS,eq_self,reduceIte,reduceCtorEq,Nat.reduceEqDiff,Nat.reduceAdd]
theorem medianO_c (hr:Row 3 H v xs)(hs:xs.Pairwise (· < ·))(a b c:Nat)(p:Value)(hab:a<=b)(hbc:b<=c)(hc:c<xs.length) :
  ACalls Tryz.prog 222 [v,.int .i64 (a:Int),.int .i64 (b:Int),.int .i64 (c:Int),p] H fun r H'=>r=.int .i64 (b:Int)/\H=H':=by
 refine in222 rfl ?_
 intro Q hQ
 simp (disch:=omega) only [cd222,SS,eq_self,reduceIte,reduceCtorEq,Nat.reduceEqDiff,Nat.reduceAdd]
 refine CallH.by (order2O_c hr hs a b p hab (by omega)) ?_
 rintro _ _ ⟨rfl,rfl⟩
 simp (disch:=omega) only [SS,eq_self,reduceIte,reduceCtorEq,Nat.reduceEqDiff,Nat.reduceAdd]
 refine CallH.by (order2O_c hr hs b c p hbc hc) ?_
 rintro _ _ ⟨rfl,rfl⟩
 simp (disch:=omega) only [SS,eq_self,reduceIte,reduceCtorEq,Nat.reduceEqDiff,Nat.reduceAdd]
 refine CallH.by (order2O_c hr hs a b p hab (by omega)) ?_
 rintro _ _ ⟨rfl,rfl⟩
 simp (disch:=omega) only [SS,eq_self,reduceIte,reduceCtorEq,Nat.reduceEqDiff,Nat.reduceAdd]
 refine hQ _ _ _ ?_
 simp (disch:=omega) only [SS,eq_self,reduceIte,reduceCtorEq,Nat.reduceEqDiff,Nat.reduceAdd]
theorem medianAdjO_c (hr:Row 3 H v xs)(hs:xs.Pairwise (· < ·))(hb:xs.length<=60000)(a:Nat)(p:Value)(ha:1<=a)(hc:a+1<xs.length) :
  ACalls Tryz.prog 221 [v,.int .i64 (a:Int),p] H fun r H'=>r=.int .i64 (a:Int)/\H=H':=by
 refine in221 rfl ?_
 intro Q hQ
 have e1:(a:Int) - 1=((a - 1:Nat):Int):=by omega
 have e2:(a:Int)+1=((a+1:Nat):Int):=by omega
 simp (disch:=omega) only [cd221,wrap64,e1,e2,SS,eq_self,reduceIte,reduceCtorEq,Nat.reduceEqDiff,Nat.reduceAdd]
 refine CallH.by (medianO_c hr hs (a - 1) a (a+1) p (by omega) (by omega) hc) ?_
 rintro _ _ ⟨rfl,rfl⟩
 simp (disch:=omega) only [SS,eq_self,reduceIte,reduceCtorEq,Nat.reduceEqDiff,Nat.reduceAdd]
 refine hQ _ _ _ ?_
 simp (disch:=omega) only [SS,eq_self,reduceIte,reduceCtorEq,Nat.reduceEqDiff,Nat.reduceAdd]
theorem partialInsO_c (hr:Row 3 H v xs)(hs:xs.Pairwise (· < ·))(hb:xs.length<=60000)(h1:1<=xs.length) :
  ACalls Tryz.prog 208 [v,.int .i64 0,.int .i64 (xs.length:Int)] H fun r H'=>r=.bool true/\H=H':=by
 refine in208 rfl ?_
 intro Q hQ
 simp (disch:=omega) only [cd208,wrap64,SS,eq_self,reduceIte,reduceCtorEq,Nat.reduceEqDiff,Nat.reduceAdd]
 refine LoopH.by (fun m s H'=>s 0=v/\s 2=.int .i64 (xs.length:Int)/\s 7=.int .i64 1/\s 8=.int .i64 0/\H=H') 0 ?_ ?_
 ·exact ⟨rfl,rfl,rfl,rfl,rfl⟩
 ·rintro m s H' ⟨h0,h2,h9,h10,rfl⟩
  simp (disch:=omega) only [h0,h2,h9,h10,SS,eq_self,reduceIte,reduceCtorEq,Nat.reduceEqDiff,Nat.reduceAdd]
  refine brD.intro (fun _=>?_) (fun g=>absurd (by decide) g)
  simp (disch:=omega) only [h0,h2,h9,h10,SS,eq_self,reduceIte,reduceCtorEq,Nat.reduceEqDiff,Nat.reduceAdd]
  refine LoopH.by (fun m' s' H'=>∃ i,m'+i=xs.length/\1<=i/\s' 0=v/\s' 2=.int .i64 (xs.length:Int)/\s' 7=.int .i64 ((i:Nat):Int)/\H=H') (xs.length - 1) ?_ ?_
  ·exact ⟨1,by omega,by omega,by simp [SS,eq_self,reduceIte,reduceCtorEq,Nat.reduceEqDiff,Nat.reduceAdd,h0],by simp [SS,eq_self,reduceIte,reduceCtorEq,Nat.reduceEqDiff,Nat.reduceAdd,h2],by simp [SS,eq_self,reduceIte,reduceCtorEq,Nat.reduceEqDiff,Nat.reduceAdd,h9],rfl⟩
  ·rintro m' s' H' ⟨i,hm,hi1,g0,g2,g9,rfl⟩
   have e1:(i:Int) - 1=((i - 1:Nat):Int):=by omega
   simp (disch:=omega) only [g0,g2,g9,SS,eq_self,reduceIte,reduceCtorEq,Nat.reduceEqDiff,Nat.reduceAdd]
   refine brD.intro (fun g=>?_) (fun g=>?_)
   ·have hi:i<xs.length:=by omega
    have hc1:=hr.cell hi
    have hc2:=hr.cell (show i - 1<xs.length by omega)
    simp (disch:=omega) only [g,g0,g2,g9,wrap64,e1,hr.ix Tryz.underlying27 cs3,Int.toNat_natCast,hc1,hc2,SS,eq_self,reduceIte,reduceCtorEq,Nat.reduceEqDiff,Nat.reduceAdd]
    refine CallH.by (Less_c _ _ H) ?_
    rintro _ _ ⟨rfl,rfl⟩
    simp (disch:=omega) only [g,decide_eq_false (ascO_at hs (show i - 1<=i by omega) hi),g0,g2,g9,wrap64,SS,eq_self,reduceIte,reduceCtorEq,Nat.reduceEqDiff,Nat.reduceAdd]
    refine ⟨m' - 1,by omega,i+1,?_⟩
    (repeat' apply And.intro) <;> first | (simp only [Value.int.injEq,true_and];omega) | omega | rfl | assumption | (simp;done) | (simp;omega)
   ·have hi:i=xs.length:=by omega
    subst hi
    simp (disch:=omega) only [g,g0,g2,g9,SS,eq_self,reduceIte,reduceCtorEq,Nat.reduceEqDiff,Nat.reduceAdd]
    refine hQ _ _ _ ?_
    simp (disch:=omega) only [SS,eq_self,reduceIte,reduceCtorEq,Nat.reduceEqDiff,Nat.reduceAdd]
theorem insO_c (hr:Row 3 H v xs)(hs:xs.Pairwise (· < ·))(hb:xs.length<=60000) :
  ACalls Tryz.prog 203 [v,.int .i64 0,.int .i64 (xs.length:Int)] H fun r H'=>H=H':=by
 refine in203 rfl ?_
 intro Q hQ
 simp (disch:=omega) only [cd203,wrap64,SS,eq_self,reduceIte,reduceCtorEq,Nat.reduceEqDiff,Nat.reduceAdd]
 refine LoopH.by (fun m s H'=>∃ i,m+i=xs.length+1/\1<=i/\s 0=v/\s 1=.int .i64 0/\s 2=.int .i64 (xs.length:Int)/\s 6=.int .i64 ((i:Nat):Int)/\H=H') xs.length ?_ ?_
 ·exact ⟨1,by omega,by omega,rfl,rfl,rfl,rfl,rfl⟩
 ·rintro m s H' ⟨i,hm,hi1,h0,h1,h2,h8,rfl⟩
  simp (disch:=omega) only [h0,h1,h2,h8,SS,eq_self,reduceIte,reduceCtorEq,Nat.reduceEqDiff,Nat.reduceAdd]
  refine brD.intro (fun g=>?_) (fun g=>?_)
  ·have hi:i<xs.length:=by omega
   have e1:(i:Int) - 1=((i - 1:Nat):Int):=by omega
   have hc1:=hr.cell hi
   have hc2:=hr.cell (show i - 1<xs.length by omega)
   simp (disch:=omega) only [h0,h1,h2,h8,SS,eq_self,reduceIte,reduceCtorEq,Nat.reduceEqDiff,Nat.reduceAdd]
   refine LoopH.by (fun m' s' H'=>s' 0=v/\s' 1=.int .i64 0/\s' 2=.int .i64 (xs.length:Int)/\s' 6=.int .i64 ((i:Nat):Int)/\s' 7=.int .i64 ((i:Nat):Int)/\H=H') 0 ?_ ?_
   ·simp only [SS,eq_self,reduceIte,reduceCtorEq,Nat.reduceEqDiff,Nat.reduceAdd,h0,h1,h2,h8]
   ·rintro m' s' H' ⟨g0,g1,g2,g8,g9,rfl⟩
    have hgt:(i:Int) > 0:=by omega
    simp (disch:=omega) only [g0,g1,g2,g8,g9,SS,eq_self,reduceIte,reduceCtorEq,Nat.reduceEqDiff,Nat.reduceAdd]
    refine brD.intro (fun q=>?_) (fun q=>absurd hgt q)
    simp (disch:=omega) only [q,g0,g1,g2,g8,g9,wrap64,e1,hr.ix Tryz.underlying27 cs3,Int.toNat_natCast,hc1,hc2,SS,eq_self,reduceIte,reduceCtorEq,Nat.reduceEqDiff,Nat.reduceAdd]
    refine CallH.by (Less_c _ _ H) ?_
    rintro _ _ ⟨rfl,rfl⟩
    simp (disch:=omega) only [q,decide_eq_false (ascO_at hs (show i - 1<=i by omega) hi),g0,g1,g2,g8,g9,wrap64,SS,eq_self,reduceIte,reduceCtorEq,Nat.reduceEqDiff,Nat.reduceAdd]
    refine ⟨m - 1,by omega,i+1,?_⟩
    (repeat' apply And.intro) <;> first | (simp only [Value.int.injEq,true_and];omega) | omega | rfl | assumption | (simp;done) | (simp;omega)
  ·simp (disch:=omega) only [SS,eq_self,reduceIte,reduceCtorEq,Nat.reduceEqDiff,Nat.reduceAdd]
   refine hQ _ _ _ ?_
   simp (disch:=omega) only [SS,eq_self,reduceIte,reduceCtorEq,Nat.reduceEqDiff,Nat.reduceAdd]
theorem choosePivotO_c (hr:Row 3 H v xs)(hs:xs.Pairwise (· < ·))(hb:xs.length<=60000)(h1:13<=xs.length) :
    ACalls Tryz.prog 206 [v,.int .i64 0,.int .i64 (xs.length:Int)] H fun r H'=>(∃ j:Int,r=.tuple (List.toArray [.int .i64 j,.int .i64 1]))/\H<+:H':=by
  refine in206 rfl ?_
  intro Q hQ
  obtain ⟨q,hqd⟩:∃ q,xs.length / 4=q:=⟨_,rfl⟩
  have hq:IntKind.i64.wrap ((xs.length:Int).tdiv 4)=(q:Int):=by
    rw [Int.tdiv_eq_ediv_of_nonneg (by omega),wrap64 (by omega) (by omega)]
    omega
  have e1:(0:Int)+(q:Int) * 1=(q:Int):=by omega
  have e2:(0:Int)+(q:Int) * 2=((2 * q:Nat):Int):=by omega
  have e3:(0:Int)+(q:Int) * 3=((3 * q:Nat):Int):=by omega
  have e0:(xs.length:Int) - 0=(xs.length:Int):=by omega
  simp (disch:=omega) only [cd206,alloc_int,wrap64,e0,hq,e1,e2,e3,SS,eq_self,reduceIte,reduceCtorEq,Nat.reduceEqDiff,Nat.reduceAdd]
  generalize hA:H ++ [AObj.cells [.int .i64 0] 3 false]=A
  have pA:H<+:A:=by rw [<- hA];exact List.prefix_append _ _
  have cA:A[H.length]?=some (.cells [.int .i64 0] 3 false):=by rw [<- hA];exact at_new ..
  have hA2:=hr.pre pA
  refine brD.intro (fun g=>?_) (fun g=>absurd (show (xs.length:Int) ≥ 8 by omega) g)
  simp (disch:=omega) only [SS,eq_self,reduceIte,reduceCtorEq,Nat.reduceEqDiff,Nat.reduceAdd]
  refine brD.intro (fun g2=>?_) (fun g2=>?_)
  . simp (disch:=omega) only [SS,eq_self,reduceIte,reduceCtorEq,Nat.reduceEqDiff,Nat.reduceAdd]
    refine CallH.by (medianAdjO_c hA2 hs hb q _ (by omega) (by omega)) ?_
    rintro _ _ ⟨rfl,rfl⟩
    simp (disch:=omega) only [SS,eq_self,reduceIte,reduceCtorEq,Nat.reduceEqDiff,Nat.reduceAdd]
    refine CallH.by (medianAdjO_c hA2 hs hb (2 * q) _ (by omega) (by omega)) ?_
    rintro _ _ ⟨rfl,rfl⟩
    simp (disch:=omega) only [SS,eq_self,reduceIte,reduceCtorEq,Nat.reduceEqDiff,Nat.reduceAdd]
    refine CallH.by (medianAdjO_c hA2 hs hb (3 * q) _ (by omega) (by omega)) ?_
    rintro _ _ ⟨rfl,rfl⟩
    simp (disch:=omega) only [SS,eq_self,reduceIte,reduceCtorEq,Nat.reduceEqDiff,Nat.reduceAdd]
    refine CallH.by (medianO_c hA2 hs q (2 * q) (3 * q) _ (by omega) (by omega) (by omega)) ?_
    rintro _ _ ⟨rfl,rfl⟩
    simp (disch:=omega) only [cell_of cA,SS,eq_self,reduceIte,reduceCtorEq,Nat.reduceEqDiff,Nat.reduceAdd]
    first
      | (refine brD.intro (fun _=>?_) (fun g3=>absurd rfl g3)
         simp (disch:=omega) only [SS,eq_self,reduceIte,reduceCtorEq,Nat.reduceEqDiff,Nat.reduceAdd])
      | skip
    refine hQ _ _ _ ?_
    simp (disch:=omega) only [SS,eq_self,reduceIte,reduceCtorEq,Nat.reduceEqDiff,Nat.reduceAdd]
    exact ⟨⟨_,rfl⟩,pA⟩
  . simp (disch:=omega) only [SS,eq_self,reduceIte,reduceCtorEq,Nat.reduceEqDiff,Nat.reduceAdd]
    refine CallH.by (medianO_c hA2 hs q (2 * q) (3 * q) _ (by omega) (by omega) (by omega)) ?_
    rintro _ _ ⟨rfl,rfl⟩
    simp (disch:=omega) only [cell_of cA,SS,eq_self,reduceIte,reduceCtorEq,Nat.reduceEqDiff,Nat.reduceAdd]
    first
      | (refine brD.intro (fun _=>?_) (fun g3=>absurd rfl g3)
         simp (disch:=omega) only [SS,eq_self,reduceIte,reduceCtorEq,Nat.reduceEqDiff,Nat.reduceAdd])
      | skip
    refine hQ _ _ _ ?_
    simp (disch:=omega) only [SS,eq_self,reduceIte,reduceCtorEq,Nat.reduceEqDiff,Nat.reduceAdd]
    exact ⟨⟨_,rfl⟩,pA⟩
theorem pdqO_c (hr:Row 3 H v xs)(hs:xs.Pairwise (· < ·))(hb:xs.length<=60000)(lim:Int)(hlim:lim ≠ 0∨xs.length<=12) :
  ACalls Tryz.prog 172 [v,.int .i64 0,.int .i64 (xs.length:Int),.int .i64 lim] H fun r H'=>H<+:H':=by
 refine in172 rfl ?_
 intro Q hQ
 have e0:(xs.length:Int) - 0=(xs.length:Int):=by omega
 simp (disch:=omega) only [cd172,SS,eq_self,reduceIte,reduceCtorEq,Nat.reduceEqDiff,Nat.reduceAdd]
 refine LoopH.by (fun m s H'=>s 0=v/\s 1=.int .i64 0/\s 2=.int .i64 (xs.length:Int)/\s 3=.int .i64 lim/\s 8=.bool true/\s 9=.bool true/\H=H') 0 ?_ ?_
 ·exact ⟨rfl,rfl,rfl,rfl,rfl,rfl,rfl⟩
 ·rintro m s H' ⟨h0,h1,h2,h3,h10,h11,rfl⟩
  simp (disch:=omega) only [h0,h1,h2,h3,h10,h11,wrap64,e0,SS,eq_self,reduceIte,reduceCtorEq,Nat.reduceEqDiff,Nat.reduceAdd]
  refine brD.intro (fun g=>?_) (fun g=>?_)
  ·simp (disch:=omega) only [h0,h1,h2,h3,h10,h11,SS,eq_self,reduceIte,reduceCtorEq,Nat.reduceEqDiff,Nat.reduceAdd]
   refine CallH.by (insO_c hr hs hb) ?_
   rintro _ _ rfl
   simp (disch:=omega) only [SS,eq_self,reduceIte,reduceCtorEq,Nat.reduceEqDiff,Nat.reduceAdd]
   refine hQ _ _ _ ?_
   simp (disch:=omega) only [SS,eq_self,reduceIte,reduceCtorEq,Nat.reduceEqDiff,Nat.reduceAdd]
   exact List.prefix_refl _
  ·have hlim':lim ≠ 0:=hlim.resolve_right (by omega)
   simp (disch:=omega) only [h0,h1,h2,h3,h10,h11,SS,eq_self,reduceIte,reduceCtorEq,Nat.reduceEqDiff,Nat.reduceAdd]
   refine brD.intro (fun g2=>absurd g2 hlim') (fun g2=>?_)
   simp (disch:=omega) only [h0,h1,h2,h3,h10,h11,SS,eq_self,reduceIte,reduceCtorEq,Nat.reduceEqDiff,Nat.reduceAdd]
   refine CallH.by (choosePivotO_c hr hs hb (by omega)) ?_
   rintro _ A ⟨⟨j,rfl⟩,pA⟩
   simp (disch:=omega) only [h0,h1,h2,h3,h10,h11,SS,eq_self,reduceIte,reduceCtorEq,Nat.reduceEqDiff,Nat.reduceAdd]
   refine brD.intro (fun g3=>absurd g3 (by decide)) (fun g3=>?_)
   simp (disch:=omega) only [h0,h1,h2,h3,h10,h11,SS,eq_self,reduceIte,reduceCtorEq,Nat.reduceEqDiff,Nat.reduceAdd]
   refine CallH.by (partialInsO_c (hr.pre pA) hs hb (by omega)) ?_
   rintro _ _ ⟨rfl,rfl⟩
   simp (disch:=omega) only [SS,eq_self,reduceIte,reduceCtorEq,Nat.reduceEqDiff,Nat.reduceAdd]
   refine hQ _ _ _ ?_
   simp (disch:=omega) only [SS,eq_self,reduceIte,reduceCtorEq,Nat.reduceEqDiff,Nat.reduceAdd]
   exact pA
theorem SortO_c (hr:Row 3 H v xs)(hs:xs.Pairwise (· < ·))(hb:xs.length<=60000) :
  ACalls Tryz.prog 134 [v] H fun r H'=>H<+:H':=by
 refine in134 rfl ?_
 intro Q hQ
 have hU:IntKind.u64.wrap (xs.length:Int)=(xs.length:Int):=by rw [IntKind.wrap_u64];omega
 simp (disch:=omega) only [cd134,hr.len Tryz.underlying27,hU,SS,eq_self,reduceIte,reduceCtorEq,Nat.reduceEqDiff,Nat.reduceAdd]
 by_cases h1:1<=xs.length
 rotate_left
 ·refine CallH.by (Lenz_c xs.length H (by omega)) ?_
  rintro _ _ ⟨⟨k,rfl⟩,rfl⟩
  simp (disch:=omega) only [SS,eq_self,reduceIte,reduceCtorEq,Nat.reduceEqDiff,Nat.reduceAdd]
  refine CallH.by (pdqO_c hr hs hb k (.inr (by omega))) ?_
  rintro _ B hB
  simp (disch:=omega) only [SS,eq_self,reduceIte,reduceCtorEq,Nat.reduceEqDiff,Nat.reduceAdd]
  refine hQ _ _ _ ?_
  simp (disch:=omega) only [SS,eq_self,reduceIte,reduceCtorEq,Nat.reduceEqDiff,Nat.reduceAdd]
  exact hB
 refine CallH.by (Lenb_c xs.length H (by omega) (by omega)) ?_
 rintro _ _ ⟨⟨k,rfl,hk⟩,rfl⟩
 simp (disch:=omega) only [SS,eq_self,reduceIte,reduceCtorEq,Nat.reduceEqDiff,Nat.reduceAdd]
 refine CallH.by (pdqO_c hr hs hb k (.inl (by omega))) ?_
 rintro _ B hB
 simp (disch:=omega) only [SS,eq_self,reduceIte,reduceCtorEq,Nat.reduceEqDiff,Nat.reduceAdd]
 refine hQ _ _ _ ?_
 simp (disch:=omega) only [SS,eq_self,reduceIte,reduceCtorEq,Nat.reduceEqDiff,Nat.reduceAdd]
 exact hB
end
def cd68:Cd:=(.seq (.reg [⟨⟨some 1,.box 34 (.tmp 0),none⟩,[]⟩,⟨⟨some 2,.assign (.const (.slice none 0 0)),none⟩,[]⟩]) (.seq (.reg [⟨⟨some 8,.fieldAddr 34 (.tmp 1) 0,none⟩,[]⟩,⟨⟨some 9,.load 32 (.tmp 8),none⟩,[]⟩,⟨⟨some 10,.call ⟨(.builtin .len),#[.tmp 9],#[32]⟩,none⟩,[]⟩,⟨⟨some 11,.makeSlice 32 (.tmp 10) (.tmp 10),none⟩,[]⟩,⟨⟨some 3,.assign (.tmp 11),none⟩,[]⟩]) (.seq (.seq (.reg [⟨⟨some 12,.fieldAddr 34 (.tmp 1) 1,none⟩,[]⟩,⟨⟨some 13,.load 24 (.tmp 12),none⟩,[]⟩,⟨⟨some 14,.call ⟨(.builtin .len),#[.tmp 13],#[24]⟩,none⟩,[]⟩,⟨⟨some 15,.move (.const (.int .i64 0)),none⟩,[]⟩]) (.block 0 (.loop (.seq (.reg [⟨⟨some 16,.binOp .lss 3 (.tmp 15) (.tmp 14) 3,none⟩,[]⟩]) (.seq (.cond (.tmp 16) .skip (.exit 0)) (.seq (.block 1 (.seq (.reg [⟨⟨some 17,.indexAddr 24 (.tmp 13) (.tmp 15),none⟩,[]⟩,⟨⟨some 18,.load 115 (.tmp 17),none⟩,[]⟩,⟨⟨some 5,.alloc 115,none⟩,[]⟩,⟨⟨none,.store 115 (.tmp 5) (.tmp 18),none⟩,[]⟩]) (.seq (.reg [⟨⟨some 19,.move (.tmp 3),none⟩,[]⟩,
 ⟨⟨some 20,.indexAddr 115 (.tmp 5) (.const (.int .i64 0)),none⟩,[]⟩,⟨⟨some 21,.load 3 (.tmp 20),none⟩,[]⟩,⟨⟨some 22,.move (.tmp 3),none⟩,[]⟩,⟨⟨some 23,.indexAddr 115 (.tmp 5) (.const (.int .i64 0)),none⟩,[]⟩,⟨⟨some 24,.load 3 (.tmp 23),none⟩,[]⟩,⟨⟨some 25,.indexAddr 32 (.tmp 22) (.tmp 24),none⟩,[]⟩,⟨⟨some 26,.load 27 (.tmp 25),none⟩,[]⟩,⟨⟨some 27,.indexAddr 115 (.tmp 5) (.const (.int .i64 1)),none⟩,[]⟩,⟨⟨some 28,.load 3 (.tmp 27),none⟩,[]⟩,⟨⟨some 29,.buildSlice 27 1 #[(0,.tmp 28)],none⟩,[]⟩,⟨⟨some 30,.call ⟨(.builtin .append),#[.tmp 26,.tmp 29],#[27,27]⟩,none⟩,[⟨some 21,.load 3 (.tmp 20),none⟩]⟩,⟨⟨some 31,.indexAddr 32 (.tmp 19) (.tmp 21),none⟩,[]⟩,
 ⟨⟨none,.store 27 (.tmp 31) (.tmp 30),none⟩,[]⟩]) (.reg [⟨⟨some 32,.move (.tmp 3),none⟩,[]⟩,⟨⟨some 33,.indexAddr 115 (.tmp 5) (.const (.int .i64 1)),none⟩,[]⟩,⟨⟨some 34,.load 3 (.tmp 33),none⟩,[]⟩,⟨⟨some 35,.move (.tmp 3),none⟩,[]⟩,⟨⟨some 36,.indexAddr 115 (.tmp 5) (.const (.int .i64 1)),none⟩,[]⟩,⟨⟨some 37,.load 3 (.tmp 36),none⟩,[]⟩,⟨⟨some 38,.indexAddr 32 (.tmp 35) (.tmp 37),none⟩,[]⟩,⟨⟨some 39,.load 27 (.tmp 38),none⟩,[]⟩,⟨⟨some 40,.indexAddr 115 (.tmp 5) (.const (.int .i64 0)),none⟩,[]⟩,⟨⟨some 41,.load 3 (.tmp 40),none⟩,[]⟩,⟨⟨some 42,.buildSlice 27 1 #[(0,.tmp 41)],none⟩,[]⟩,⟨⟨some 43,.call ⟨(.builtin .append),#[.tmp 39,.tmp 42],#[27,27]⟩,none⟩,[⟨some 34,.load 3 (.tmp 33),none⟩]⟩,
 ⟨⟨some 44,.indexAddr 32 (.tmp 32) (.tmp 34),none⟩,[]⟩,
  ⟨⟨none,.store 27 (.tmp 44) (.tmp 43),none⟩,[]⟩])))) (.reg [⟨⟨some 45,.binOp .add 3 (.tmp 15) (.const (.int .i64 1)) 3,none⟩,[]⟩,
  ⟨⟨some 15,.move (.tmp 45),none⟩,[]⟩]))))))) (.seq (.seq (.reg [⟨⟨some 46,.move (.tmp 3),none⟩,[]⟩,
  ⟨⟨some 47,.call ⟨(.builtin .len),#[.tmp 46],#[32]⟩,none⟩,[]⟩,
  ⟨⟨some 48,.move (.const (.int .i64 0)),none⟩,[]⟩]) (.block 2 (.loop (.seq (.reg [⟨⟨some 49,.binOp .lss 3 (.tmp 48) (.tmp 47) 3,none⟩,[]⟩]) (.seq (.cond (.tmp 49) .skip (.exit 2)) (.seq (.block 3 (.seq (.reg [⟨⟨some 50,.indexAddr 32 (.tmp 46) (.tmp 48),none⟩,[]⟩,
  ⟨⟨some 51,.load 27 (.tmp 50),none⟩,[]⟩,
  ⟨⟨some 7,.assign (.tmp 51),none⟩,[]⟩]) (.reg [⟨⟨some 52,.move (.tmp 7),none⟩,[]⟩,
  ⟨⟨some 53,.call ⟨(.value (.func 134)),#[.tmp 52],#[27]⟩,none⟩,[]⟩]))) (.reg [⟨⟨some 54,.binOp .add 3 (.tmp 48) (.const (.int .i64 1)) 3,none⟩,[]⟩,
  ⟨⟨some 48,.move (.tmp 54),none⟩,[]⟩]))))))) (.seq (.reg [⟨⟨some 55,.move (.tmp 3),none⟩,[]⟩,
  ⟨⟨some 2,.assign (.tmp 55),none⟩,[]⟩]) .ret)))))
theorem in68:InT Tryz.prog 68 1 [.tmp 2] cd68:=InT.mk (by kernel_rfl) [(5,[(0,false),(1,false),(2,false),(3,false),(4,false),(5,false),(6,false),(7,false),(8,false),(9,false),(10,false),(11,true),(12,false),(13,true)]),(6,[(0,false),(1,false),(2,false),(3,false),(4,false),(5,false),(6,false),(7,false),(8,false),(9,false),(10,false),(11,true),(12,false),(13,true)])] Tryz.func68 rfl (by kernel_rfl) (by kernel_rfl) (of_decide_eq_true (by kernel_rfl)) (by kernel_rfl)
end Go.Proofs.YtlcipphiflcaiaaGreat.Ai
namespace Go.Proofs.YtlcipphiflcaiaaGreat.Ai
open Go Go.RowKit
def nbS (ps:List (Int × Int))(x:Int):List Int:=(ps.filter fun e=>decide (e.2=x)).map (·.1) ++ (ps.filter fun e=>decide (e.1=x)).map (·.2)
def rdS (n:Nat)(ps:List (Int × Int)):List (List Int):=(List.range n).map fun x:Nat=>nbS ps x
theorem rdS_len (n:Nat)(ps:List (Int × Int)):(rdS n ps).length=n:=by simp [rdS]
theorem rdS_at (n:Nat)(ps:List (Int × Int)){x:Nat}(hx:x<n):(rdS n ps).getD x []=nbS ps x:=by simp [rdS,hx]
theorem nbS_mem (ps:List (Int × Int))(x y:Int):y ∈ nbS ps x↔(y,x) ∈ ps∨(x,y) ∈ ps:=by
 unfold nbS
 simp only [List.mem_append,List.mem_map,List.mem_filter,decide_eq_true_eq]
 constructor
 ·rintro (⟨e,⟨h1,h2⟩,rfl⟩ | ⟨e,⟨h1,h2⟩,rfl⟩)
  ·left;rw [<- h2];exact h1
  ·right;rw [<- h2];exact h1
 ·rintro (h | h)
  ·exact .inl ⟨_,⟨h,rfl⟩,rfl⟩
  ·exact .inr ⟨_,⟨h,rfl⟩,rfl⟩
structure StpOk (n:Nat) (ps:List (Int × Int)):Prop where
 rng:∀ e ∈ ps,0<=e.1/\e.1<e.2/\e.2<n
 srt:ps.Pairwise pairLt
theorem nbS_asc {n:Nat}{ps:List (Int × Int)}(h:StpOk n ps)(x:Int):(nbS ps x).Pairwise (· < ·):=by
 unfold nbS
 rw [List.pairwise_append]
 refine ⟨?_,?_,?_⟩
 ·rw [List.pairwise_map]
  refine List.Pairwise.imp_of_mem ?_ (h.srt.filter _)
  intro a b ha hb hab
  have h1:=(List.mem_filter.1 ha).2
  have h2:=(List.mem_filter.1 hb).2
  simp only [decide_eq_true_eq] at h1 h2
  unfold pairLt at hab;omega
 ·rw [List.pairwise_map]
  refine List.Pairwise.imp_of_mem ?_ (h.srt.filter _)
  intro a b ha hb hab
  have h1:=(List.mem_filter.1 ha).2
  have h2:=(List.mem_filter.1 hb).2
  simp only [decide_eq_true_eq] at h1 h2
  unfold pairLt at hab;omega
 ·intro y hy z hz
  obtain ⟨a,ha,rfl⟩:=List.mem_map.1 hy
  obtain ⟨b,hb,rfl⟩:=List.mem_map.1 hz
  have h1:=List.mem_filter.1 ha
  have h2:=List.mem_filter.1 hb
  have h3:=h1.2
  have h4:=h2.2
  simp only [decide_eq_true_eq] at h3 h4
  have:=h.rng a h1.1
  have:=h.rng b h2.1
  omega
theorem nbS_rng {n:Nat}{ps:List (Int × Int)}(h:StpOk n ps){x y:Int}(hy:y ∈ nbS ps x):0<=y/\y<n:=by
 rcases (nbS_mem ps x y).1 hy with q | q
 ·have:=h.rng _ q;simp only at this;omega
 ·have:=h.rng _ q;simp only at this;omega
theorem nb_le {n:Nat}{ps:List (Int × Int)}(h:StpOk n ps)(x:Int):(nbS ps x).length<=n:=by
 have key:∀ (k:Nat) (l:List Int),l.length=k->l.Pairwise (· < ·)->(∀ y ∈ l,0<=y/\y<n)->(k:Int)<=(l.getLast?.getD (-1))+1:=by
  intro k
  induction k with
  | zero=>intro l hl _ _;rw [List.length_eq_zero_iff.1 hl];decide
  | succ k ih =>
   intro l hl hp hr
   rcases List.eq_nil_or_concat l with e | ⟨m,z,e⟩
   ·subst e;simp at hl
   ·rw [List.concat_eq_append] at e
    subst e
    have h1:=List.pairwise_append.1 hp
    have h2:=ih m (by simpa using hl) h1.1 fun y hy=>hr y (by simp [hy])
    rw [List.getLast?_concat,Option.getD_some]
    have hz:=hr z (by simp)
    cases hm:m.getLast? with
    | none=>rw [hm,Option.getD_none] at h2;omega
    | some y =>
     rw [hm,Option.getD_some] at h2
     have:=h1.2.2 y (List.mem_of_getLast? hm) z (by simp)
     omega
 have h1:=key _ _ rfl (nbS_asc h x) fun y hy=>nbS_rng h hy
 cases hm:(nbS ps x).getLast? with
 | none=>rw [hm,Option.getD_none] at h1;omega
 | some y =>
  rw [hm,Option.getD_some] at h1
  have:=nbS_rng h (List.mem_of_getLast? hm)
  omega
theorem rdS_ok {n:Nat}{ps:List (Int × Int)}(h:StpOk n ps):LOk (rdS n ps).length (rdS n ps):=by
 intro i y hy
 rw [rdS_len]
 by_cases hi:i<n
 ·rw [rdS_at n ps hi] at hy;exact nbS_rng h hy
 ·rw [List.getD_eq_getElem?_getD,List.getElem?_eq_none (by rw [rdS_len];omega)] at hy
  simp at hy
theorem StpOk.take {n:Nat}{ps:List (Int × Int)}(h:StpOk n ps)(i:Nat):StpOk n (ps.take i):=⟨fun e he=>h.rng e (List.mem_of_mem_take he),h.srt.sublist (List.take_sublist _ _)⟩
theorem nbS_snoc {n:Nat}{ps:List (Int × Int)}{e:Int × Int}(h:StpOk n (ps ++ [e]))(x:Int):nbS (ps ++ [e]) x=nbS ps x ++ (if x=e.2 then [e.1] else if x=e.1 then [e.2] else []):=by
 have he:=h.rng e (by simp)
 unfold nbS
 rw [List.filter_append,List.filter_append,List.map_append,List.map_append]
 by_cases h2:x=e.2
 ·subst h2
  have h0:ps.filter (fun q=>decide (q.1=e.2))=[]:=by
   rw [List.filter_eq_nil_iff]
   intro q hq
   have:=(List.pairwise_append.1 h.srt).2.2 q hq e (by simp)
   unfold pairLt at this
   simp only [decide_eq_true_eq];omega
  rw [h0,if_pos rfl]
  have:¬ e.1=e.2:=by omega
  simp [this]
 ·rw [if_neg h2]
  have h2':¬ e.2=x:=fun q=>h2 q.symm
  by_cases h1:x=e.1
  ·subst h1;simp [h2']
  ·have h1':¬ e.1=x:=fun q=>h1 q.symm
   simp [h1,h2',h1']
theorem nbS_adj {n:Nat}:∀ (k:Nat) (ps:List (Int × Int)),ps.length=k->StpOk n ps->∀ x,x<n->(adjL n ps).getD x []=nbS ps (x:Int):=by
 intro k
 induction k with
 | zero =>
  intro ps hk h x hx
  have:ps=[]:=List.length_eq_zero_iff.1 hk
  subst this
  simp [adjL,nbS,hx]
 | succ k ih =>
  intro ps hk h x hx
  have hne:ps ≠ []:=by intro e;rw [e] at hk;simp at hk
  obtain ⟨qs,e,rfl⟩:∃ qs e,ps=qs ++ [e]:=⟨_,_,(List.dropLast_concat_getLast hne).symm⟩
  have hq:StpOk n qs:=⟨fun z hz=>h.rng z (by simp [hz]),(List.pairwise_append.1 h.srt).1⟩
  have hi:=ih qs (by simpa using hk) hq
  have he:=h.rng e (by simp)
  rw [nbS_snoc h]
  have:adjL n (qs ++ [e])=adj1 (adjL n qs) e:=by unfold adjL;rw [List.foldl_append];rfl
  rw [this]
  unfold adj1
  have hl:=adjL_len n qs
  rw [List.getD_eq_getElem?_getD,List.getElem?_set,List.length_set]
  by_cases h2:e.2.toNat=x
  ·rw [if_pos h2,if_pos (by omega),if_pos (by omega)]
   show (adjL n qs).getD e.2.toNat [] ++ [e.1]=_
   rw [h2,hi x hx]
  ·rw [if_neg h2,if_neg (by omega),List.getElem?_set]
   by_cases h1:e.1.toNat=x
   ·rw [if_pos h1,if_pos (by omega),if_pos (by omega)]
    show (adjL n qs).getD e.1.toNat [] ++ [e.2]=_
    rw [h1,hi x hx]
   ·rw [if_neg h1,if_neg (by omega),<- List.getD_eq_getElem?_getD,hi x hx,List.append_nil]
theorem rdS_adj {n:Nat}{ps:List (Int × Int)}(h:StpOk n ps):adjL n ps=rdS n ps:=by
 refine List.ext_getElem (by rw [adjL_len,rdS_len]) fun i h1 h2=>?_
 have hi:i<n:=by rw [adjL_len] at h1;exact h1
 have:=nbS_adj ps.length ps rfl h i hi
 have e2:=rdS_at n ps hi
 simp only [List.getD_eq_getElem?_getD,List.getElem?_eq_getElem h1,List.getElem?_eq_getElem h2,Option.getD_some] at this e2
 rw [this,e2]
theorem spRoads_c (a b:Value)(ls:List (List Int))(ps:List (Int × Int))(H:AH)(hr:SpRow H a b ls ps)(hn:ls.length<=1000)(hp:ps.length<=1000000)(hps:StpOk ls.length ps){dg:Nat}(hdeg:∀ x,(nbS ps x).length<=dg) :
  ACalls Tryz.prog 68 [.agg (List.toArray [a,b])] H fun r H'=>(∃ bd,RowLB bd 27 3 H' r (rdS ls.length ps))/\H<+:H':=by
 obtain ⟨⟨bd,us0,ra0,_,lu0,_⟩,rb0⟩:=id hr
 refine in68 rfl ?_
 intro Q hQ
 have mk:=mk_lists (n:=(ls.length:Int)) (by omega) (by omega)
 simp only [Int.toNat_natCast] at mk
 simp (disch:=omega) only [cd68,hr.box,SS,eq_self,reduceIte,reduceCtorEq,Nat.reduceEqDiff,Nat.reduceAdd]
 generalize hA:H ++ [AObj.cells [a,b] 34 false]=A
 have pA:H<+:A:=by rw [<- hA];exact List.prefix_append _ _
 have cA:A[H.length]?=some (.cells [a,b] 34 false):=by rw [<- hA];exact at_new ..
 have lA:A.length=H.length+1:=by rw [<- hA];simp
 simp (disch:=omega) only [cell_of cA,(ra0.pre pA).len Tryz.underlying32,lu0,mk,SS,eq_self,reduceIte,reduceCtorEq,Nat.reduceEqDiff,Nat.reduceAdd]
 generalize hB:A ++ [AObj.cells (List.replicate ls.length (.slice none 0 0)) 27 false]=B
 have pB:A<+:B:=by rw [<- hB];exact List.prefix_append _ _
 have cB:B[A.length]?=some (.cells (List.replicate ls.length (.slice none 0 0)) 27 false):=by rw [<- hB];exact at_new ..
 have lB:B.length=A.length+1:=by rw [<- hB];simp
 have rb:=rb0.pre (pA.trans pB)
 have adj0:Adj B B A.length (List.replicate ls.length (.slice none 0 0)) (adjL ls.length (ps.take 0)):=by
  refine ⟨cB,by omega,by simp [adjL_len],fun i hi=>?_,fun i j _ hi _=>?_,fun j y _ hy=>hy,Nat.le_refl _⟩
  ·rw [adjL_len] at hi
   exact .inl ⟨by simp [hi],by simp [adjL,hi]⟩
  ·rw [adjL_len] at hi
   exact .inr (.inl (by simp [hi]))
 generalize hNN:ls.length=N at *
 simp (disch:=omega) only [cell_of (pre_at pB cA),rb.len Tryz.underlying24,SS,eq_self,reduceIte,reduceCtorEq,Nat.reduceEqDiff,Nat.reduceAdd]
 refine LoopH.by (fun m s H'=>∃ (i:Nat) (us:List Value),m+i=ps.length/\s 3=.slice (some ⟨A.length,0,none⟩) N N/\s 13=b/\s 14=.int .i64 (ps.length:Int)/\s 15=.int .i64 ((i:Nat):Int)/\Adj B H' A.length us (adjL N (ps.take i))) ps.length ?_ ?_
 ·exact ⟨0,_,by simp,rfl,rfl,rfl,rfl,adj0⟩
 rintro m s H' ⟨i,us,hm,h3,h13,h14,h15,hJ⟩
 have keepB:∀ {K:AH} {vs:List Value} {M:List (List Int)},Adj B K A.length vs M->H<+:K:=fun hK=>prefix_of fun j y hy=>hK.keep j y (by have:=at_lt hy;omega) (pre_at (pA.trans pB) hy)
 have rH:=rb0.pre (keepB hJ)
 have hLl:=adjL_len N (ps.take i)
 simp (disch:=omega) only [h3,h13,h14,h15,SS,eq_self,reduceIte,reduceCtorEq,Nat.reduceEqDiff,Nat.reduceAdd]
 refine brD.intro (fun g=>?_) (fun g=>?_)
 ·have hi:i<ps.length:=by omega
  have he:ps.getD i (0,0) ∈ ps:=by simp [hi]
  have hrng:=hps.rng _ he
  have htk:ps.take (i+1)=ps.take i ++ [ps.getD i (0,0)]:=by
   rw [List.take_add_one,List.getElem?_eq_getElem hi]
   simp [hi]
  have hstep:adjL N (ps.take (i+1))=adj1 (adjL N (ps.take i)) (ps.getD i (0,0)):=by
   rw [htk];unfold adjL;rw [List.foldl_append];rfl
  have hdg:∀ x,x<N->((adjL N (ps.take i)).getD x []).length<=N:=by
   intro x hx
   rw [nbS_adj _ _ rfl (hps.take i) x hx]
   refine Nat.le_trans ?_ (nb_le hps (x:Int))
   unfold nbS
   simp only [List.length_append,List.length_map]
   have s1:=((List.take_sublist i ps).filter fun e=>decide (e.2=(x:Int))).length_le
   have s2:=((List.take_sublist i ps).filter fun e=>decide (e.1=(x:Int))).length_le
   omega
  have hld:=rH.ld ag115 cs115 hi
  obtain ⟨x,hx⟩:∃ x:Nat,(ps.getD i (0,0)).1=x:=⟨(ps.getD i (0,0)).1.toNat,by omega⟩
  obtain ⟨y,hy⟩:∃ y:Nat,(ps.getD i (0,0)).2=y:=⟨(ps.getD i (0,0)).2.toNat,by omega⟩
  have est:adj1 (adjL N (ps.take i)) (ps.getD i (0,0))=((adjL N (ps.take i)).set x ((adjL N (ps.take i)).getD x [] ++ [(y:Int)])).set y ((adjL N (ps.take i)).getD y [] ++ [(x:Int)]):=by
   unfold adj1;rw [hx,hy,Int.toNat_natCast,Int.toNat_natCast]
  rw [est] at hstep
  rw [hx,hy] at hrng hld
  generalize adjL N (ps.take i)=L at *
  have st0:=st_a2 (at_new H' (.cells [.int .i64 0,.int .i64 0] 115 false)) rfl (.int .i64 (x:Int)) (.int .i64 (y:Int))
  rw [set_new] at st0
  simp (disch:=omega) only [h3,h13,h14,h15,rH.ix Tryz.underlying24 cs115,Int.toNat_natCast,hld,alloc_a2,st0,SS,eq_self,reduceIte,reduceCtorEq,Nat.reduceEqDiff,Nat.reduceAdd]
  generalize hG:H' ++ [AObj.cells [.int .i64 (x:Int),.int .i64 (y:Int)] 115 false]=G
  have pG:H'<+:G:=by rw [<- hG];exact List.prefix_append _ _
  have cG:G[H'.length]?=some (.cells [.int .i64 (x:Int),.int .i64 (y:Int)] 115 false):=by rw [<- hG];exact at_new ..
  have hJ1:=hJ.pre pG
  have hul:=hJ1.len
  have fr:∀ {z:Nat} ,z<L.length->us.getD z undef=.slice none 0 0∨H'.length ≠ rowO (us.getD z undef):=fun {z} hz=>by
   rcases own_nil (hJ.el z hz) with q | q
   ·exact .inl q
   ·right;omega
  obtain ⟨v1,K1,a1,a2,a3,a4,a5,a6⟩:=hJ1.app1 (x:=x) (by omega) (by have:=hdg x (by omega);omega) (y:Int)
  have cux:us[x]?=some (us.getD x undef):=by simp [show x<us.length by omega]
  have cK1:=a2 _ _ (fr (show x<L.length by omega)) cG
  have st1:=st_at (P:=Tryz.prog) (t:=27) (i:=x) (y:=v1) cs27 a3 (by omega) (by
   rcases a6.el x (by rw [List.length_set];omega) with ⟨q,_⟩ | ⟨o',q,_⟩ <;> rw [List.getD_eq_getElem?_getD,List.getElem?_set_self (by omega)] at q <;> simp only [Option.getD_some] at q <;> rw [q] <;> rfl) a5
  have cZ1:(K1.set A.length (.cells (us.set x v1) 27 false))[H'.length]?=some (.cells [.int .i64 (x:Int),.int .i64 (y:Int)] 115 false):=by
   rw [List.getElem?_set_ne (by have:=hJ.olt;have:=hJ.le;omega)];exact cK1
  have hat0:=hJ1.at_
  simp (disch:=omega) only [h3,cell_of cG,Int.toNat_natCast,Nat.zero_add,cell_of hat0,cux,a1,cell_of cK1,st1,SS,eq_self,reduceIte,reduceCtorEq,Nat.reduceEqDiff,Nat.reduceAdd]
  generalize hZ:K1.set A.length (.cells (us.set x v1) 27 false)=Z at *
  obtain ⟨v2,K2,b1,b2,b3,b4,b5,b6⟩:=a6.app1 (x:=y) (by rw [List.length_set];omega) (by
   rw [List.getD_eq_getElem?_getD,List.getElem?_set_ne (by omega),<- List.getD_eq_getElem?_getD]
   have:=hdg y (by omega);omega) (x:Int)
  have hatZ:=a6.at_
  have hLy:(L.set x (L.getD x [] ++ [(y:Int)])).getD y []=L.getD y []:=by
   rw [List.getD_eq_getElem?_getD,List.getElem?_set_ne (by omega),<- List.getD_eq_getElem?_getD]
  rw [hLy,<- hstep] at b6
  have cuy:(us.set x v1)[y]?=some ((us.set x v1).getD y undef):=by simp [show y<us.length by omega]
  have frZ:(us.set x v1).getD y undef=.slice none 0 0∨H'.length ≠ rowO ((us.set x v1).getD y undef):=by
   have:(us.set x v1).getD y undef=us.getD y undef:=by
    rw [List.getD_eq_getElem?_getD,List.getElem?_set_ne (by omega),<- List.getD_eq_getElem?_getD]
   rw [this];exact fr (by omega)
  have cK2:=b2 _ _ frZ cZ1
  have st2:=st_at (P:=Tryz.prog) (t:=27) (i:=y) (y:=v2) cs27 b3 (by rw [List.length_set];omega) (by
   rcases b6.el y (by rw [adjL_len];omega) with ⟨q,_⟩ | ⟨o',q,_⟩ <;> rw [List.getD_eq_getElem?_getD,List.getElem?_set_self (by rw [List.length_set];omega)] at q <;> simp only [Option.getD_some] at q <;> rw [q] <;> rfl) b5
  simp (disch:=omega) only [h3,h13,h14,h15,cell_of cZ1,Int.toNat_natCast,Nat.zero_add,cell_of hatZ,cuy,b1,cell_of cK2,st2,wrap64,SS,eq_self,reduceIte,reduceCtorEq,Nat.reduceEqDiff,Nat.reduceAdd]
  refine ⟨m - 1,by omega,i+1,(us.set x v1).set y v2,?_⟩
  (repeat' first | exact b6 | apply And.intro) <;> first | (simp only [Value.int.injEq,true_and];omega) | omega | rfl | assumption | (simp;done) | (simp;omega)
 ·have hi:i=ps.length:=by omega
  subst hi
  rw [List.take_length,rdS_adj hps] at hJ
  clear hLl
  simp (disch:=omega) only [h3,SS,eq_self,reduceIte,reduceCtorEq,Nat.reduceEqDiff,Nat.reduceAdd]
  refine LoopH.by (fun m s H'=>∃ (i:Nat),m+i=N/\s 3=.slice (some ⟨A.length,0,none⟩) N N/\s 46=.slice (some ⟨A.length,0,none⟩) N N/\s 47=.int .i64 (N:Int)/\s 48=.int .i64 ((i:Nat):Int)/\Adj B H' A.length us (rdS N ps)) N ?_ ?_
  ·refine ⟨0,?_⟩
   simp (disch:=omega) only [h3,SS,eq_self,reduceIte,reduceCtorEq,Nat.reduceEqDiff,Nat.reduceAdd]
   (repeat' first | exact hJ | apply And.intro) <;> first | (simp only [Value.int.injEq,true_and];omega) | omega | rfl | assumption | (simp;done) | (simp;omega)
  rintro m' s' K ⟨i,hm',k3,k46,k47,k48,hJ'⟩
  have hrl:=rdS_len N ps
  simp (disch:=omega) only [k3,k46,k47,k48,SS,eq_self,reduceIte,reduceCtorEq,Nat.reduceEqDiff,Nat.reduceAdd]
  refine brD.intro (fun g=>?_) (fun g=>?_)
  ·have hi:i<N:=by omega
   have hul:=hJ'.len
   have hat:=hJ'.at_
   have cui:us[i]?=some (us.getD i undef):=by simp [show i<us.length by omega]
   have hel:=hJ'.el i (by omega)
   rw [rdS_at N ps hi] at hel
   simp (disch:=omega) only [k3,k46,k47,k48,cell_of hat,Int.toNat_natCast,Nat.zero_add,cui,SS,eq_self,reduceIte,reduceCtorEq,Nat.reduceEqDiff,Nat.reduceAdd]
   have hla:=nb_le hps (i:Int)
   refine CallH.by (SortO_c hel.row (nbS_asc hps _) (by omega)) ?_
   rintro _ K2 pK2
   have hJ2:=hJ'.pre pK2
   simp (disch:=omega) only [k3,k46,k47,k48,wrap64,SS,eq_self,reduceIte,reduceCtorEq,Nat.reduceEqDiff,Nat.reduceAdd]
   refine ⟨m' - 1,by omega,i+1,?_⟩
   (repeat' first | exact hJ2 | apply And.intro) <;> first | (simp only [Value.int.injEq,true_and];omega) | omega | rfl | assumption | (simp;done) | (simp;omega)
  ·simp (disch:=omega) only [k3,SS,eq_self,reduceIte,reduceCtorEq,Nat.reduceEqDiff,Nat.reduceAdd]
   refine hQ _ _ _ ?_
   simp (disch:=omega) only [SS,eq_self,reduceIte,reduceCtorEq,Nat.reduceEqDiff,Nat.reduceAdd]
   have hp2:=keepB hJ'
   have hu:=(hJ'.inU (lo:=H.length) (by omega)).row
   rw [hrl] at hu
   exact ⟨⟨_,hu⟩,hp2⟩
theorem stpI_mem {p:List Int->List Int->Bool}{ls:List (List Int)}{i:Nat}{e:Int × Int}:∀ k,e ∈ stpI p ls i k↔e.1=i/\((i:Int)<e.2/\e.2<i+1+k)/\p (ls.getD i []) (ls.getD e.2.toNat [])=true
 | 0=>by simp [stpI];omega
 | k+1=>by
  rw [stpI,List.mem_append,stpI_mem k]
  constructor
  ·rintro (⟨h1,h2,h3⟩ | h)
   ·exact ⟨h1,by omega,h3⟩
   ·split at h
    ·rename_i hp
     rw [List.mem_singleton] at h
     subst h
     exact ⟨rfl,by simp only;omega,by rw [Int.toNat_natCast];exact hp⟩
    ·simp at h
  ·rintro ⟨h1,h2,h3⟩
   by_cases q:e.2=((i+1+k:Nat):Int)
   ·right
    rw [q,Int.toNat_natCast] at h3
    rw [if_pos h3,List.mem_singleton]
    exact Prod.ext h1 q
   ·exact .inl ⟨h1,by omega,h3⟩
theorem stpI_srt (p:List Int->List Int->Bool)(ls:List (List Int))(i:Nat):∀ k,(stpI p ls i k).Pairwise pairLt
 | 0=>.nil
 | k+1=>by
  rw [stpI,List.pairwise_append]
  refine ⟨stpI_srt p ls i k,by split <;> simp,fun a ha b hb=>?_⟩
  have h1:=(stpI_mem k).1 ha
  split at hb
  ·rw [List.mem_singleton] at hb
   subst hb
   unfold pairLt;simp only;omega
  ·simp at hb
theorem stpO_mem {p:List Int->List Int->Bool}{ls:List (List Int)}{e:Int × Int}:∀ i,i<=ls.length->(e ∈ stpO p ls i↔(0<=e.1/\e.1<i)/\(e.1<e.2/\e.2<ls.length)/\p (ls.getD e.1.toNat []) (ls.getD e.2.toNat [])=true)
 | 0,_=>by simp [stpO];omega
 | i+1,hi=>by
  rw [stpO,List.mem_append,stpO_mem i (by omega),stpI_mem]
  constructor
  ·rintro (⟨h1,h2,h3⟩ | ⟨h1,h2,h3⟩)
   ·exact ⟨by omega,h2,h3⟩
   ·refine ⟨by omega,by omega,?_⟩
    rw [h1,Int.toNat_natCast];exact h3
  ·rintro ⟨h1,h2,h3⟩
   by_cases q:e.1=i
   ·right
    rw [q,Int.toNat_natCast] at h3
    exact ⟨q,by omega,h3⟩
   ·exact .inl ⟨by omega,h2,h3⟩
theorem stpO_srt (p:List Int->List Int->Bool)(ls:List (List Int)):∀ i,i<=ls.length->(stpO p ls i).Pairwise pairLt
 | 0,_=>.nil
 | i+1,hi=>by
  rw [stpO,List.pairwise_append]
  refine ⟨stpO_srt p ls i (by omega),stpI_srt p ls i _,fun a ha b hb=>?_⟩
  have h1:=(stpO_mem i (by omega)).1 ha
  have h2:=(stpI_mem _).1 hb
  unfold pairLt;omega
theorem steps_ok (p:List Int->List Int->Bool)(ls:List (List Int)):StpOk ls.length (steps p ls) :=
 ⟨fun e he=>by have:=(stpO_mem _ (Nat.le_refl _)).1 he;omega,stpO_srt p ls _ (Nat.le_refl _)⟩
theorem steps_nb (p:List Int->List Int->Bool)(ls:List (List Int)){x y:Nat}(hx:x<ls.length)(hy:y<ls.length):(y:Int) ∈ nbS (steps p ls) x↔(y<x/\p (ls.getD y []) (ls.getD x [])=true)∨(x<y/\p (ls.getD x []) (ls.getD y [])=true):=by
 rw [nbS_mem,stpO_mem _ (Nat.le_refl _),stpO_mem _ (Nat.le_refl _)]
 simp only [Int.toNat_natCast]
 constructor
 ·rintro (⟨h1,h2,h3⟩ | ⟨h1,h2,h3⟩)
  ·exact .inl ⟨by omega,h3⟩
  ·exact .inr ⟨by omega,h3⟩
 ·rintro (⟨h1,h2⟩ | ⟨h1,h2⟩)
  ·exact .inl ⟨by omega,by omega,h2⟩
  ·exact .inr ⟨by omega,by omega,h2⟩
theorem nbS_cnt (p:List Int->List Int->Bool)(ls:List (List Int))(x:Nat):(nbS (steps p ls) x).length<=ls.countP fun m=>p m (ls.getD x []) || p (ls.getD x []) m:=by
 have hok:=steps_ok p ls
 have hasc:=nbS_asc hok (x:Int)
 have hm:(nbS (steps p ls) x).map (fun z=>z.toNat)=((List.range ls.length).filter fun y:Nat=>decide ((y:Int) ∈ nbS (steps p ls) x)):=by
  have hs:((nbS (steps p ls) x).map (fun z=>z.toNat)).Pairwise (· < ·):=by
   rw [List.pairwise_map]
   refine List.Pairwise.imp_of_mem ?_ hasc
   intro a b ha hb hab
   have:=nbS_rng hok ha;omega
  have hs2:=(List.pairwise_lt_range (n:=ls.length)).filter (fun y:Nat=>decide ((y:Int) ∈ nbS (steps p ls) x))
  refine List.Perm.eq_of_pairwise (le:=(· < ·)) (fun a b _ _ h3 h4=>by omega) hs hs2 ?_
  rw [List.perm_ext_iff_of_nodup (hs.imp fun h=>by omega) (hs2.imp fun h=>by omega)]
  intro y
  simp only [List.mem_map,List.mem_filter,List.mem_range,decide_eq_true_eq]
  constructor
  ·rintro ⟨z,hz,rfl⟩
   have:=nbS_rng hok hz
   refine ⟨by omega,?_⟩
   rw [Int.toNat_of_nonneg this.1];exact hz
  ·rintro ⟨_,h⟩
   exact ⟨_,h,by simp⟩
 have hl:=congrArg List.length hm
 rw [List.length_map] at hl
 rw [hl]
 by_cases hx:x<ls.length
 ·have e1:ls=(List.range ls.length).map fun i=>ls.getD i []:=by
   refine List.ext_getElem (by simp) fun i h1 h2=>?_
   simp [h1]
  conv=>rhs;rw [e1]
  rw [List.countP_map,<- List.countP_eq_length_filter]
  refine List.countP_mono_left fun y hy hd=>?_
  have hyl:=List.mem_range.1 hy
  have:=(steps_nb p ls hx hyl).1 (of_decide_eq_true hd)
  have e2:((List.range ls.length).map fun i=>ls.getD i []).getD x []=ls.getD x []:=by rw [<- e1]
  simp only [Function.comp_apply,e2,Bool.or_eq_true]
  rcases this with h | h
  ·exact .inl h.2
  ·exact .inr h.2
 ·have:((List.range ls.length).filter fun y:Nat=>decide ((y:Int) ∈ nbS (steps p ls) x))=[]:=by
   rw [List.filter_eq_nil_iff]
   intro y hy
   rw [decide_eq_true_eq,nbS_mem]
   rintro (h | h)
   ·have:=hok.rng _ h;simp only at this;omega
   ·have:=hok.rng _ h;simp only at this;omega
  rw [this];simp
def BagI (b:Nat)(s:List Int):Prop:=b<2 ^ 32/\∀ z:Nat,z<64->b.testBit z=decide ((z:Int) ∈ s)
theorem BagI.zero:BagI 0 []:=⟨by decide,fun z _=>by simp⟩
theorem BagI.or {b y:Nat}{s:List Int}(h:BagI b s)(hy:y<32):BagI (b ||| 2 ^ y) (s ++ [(y:Int)]):=by
 refine ⟨Nat.or_lt_two_pow h.1 (Nat.pow_lt_pow_right (by decide) hy),fun z hz=>?_⟩
 rw [Nat.testBit_or,h.2 z hz,Nat.testBit_two_pow]
 by_cases e:y=z
 ·subst e;simp
 ·have e2:¬ ((z:Int)=y):=by omega
  simp [e,e2]
theorem BagI.congr {b:Nat}{s t:List Int}(h:BagI b s)(he:∀ z:Nat,z<64->((z:Int) ∈ s↔(z:Int) ∈ t)):BagI b t :=
 ⟨h.1,fun z hz=>by rw [h.2 z hz];exact decide_eq_decide.2 (he z hz)⟩
def cd163:Cd:=(.seq (.reg [⟨⟨some 4,.assign (.const (.bool false)),none⟩,[]⟩]) (.seq (.seq (.reg [⟨⟨some 5,.assign (.const (.int .i64 0)),none⟩,[]⟩]) (.block 0 (.loop (.seq (.seq (.reg [⟨⟨some 6,.move (.tmp 5),none⟩,[]⟩,
 ⟨⟨some 7,.move (.tmp 0),none⟩,[]⟩,
 ⟨⟨some 8,.call ⟨(.builtin .len),#[.tmp 7],#[27]⟩,none⟩,[]⟩,
 ⟨⟨some 9,.binOp .lss 3 (.tmp 6) (.tmp 8) 3,none⟩,[]⟩]) (.cond (.tmp 9) .skip (.exit 0))) (.seq (.block 1 (.seq (.reg [⟨⟨some 12,.move (.tmp 0),none⟩,[]⟩,
 ⟨⟨some 13,.move (.tmp 5),none⟩,[]⟩,
 ⟨⟨some 14,.indexAddr 27 (.tmp 12) (.tmp 13),none⟩,[]⟩,
 ⟨⟨some 15,.load 3 (.tmp 14),none⟩,[]⟩,
 ⟨⟨some 16,.move (.tmp 1),none⟩,[]⟩,
 ⟨⟨some 17,.binOp .eql 3 (.tmp 15) (.tmp 16) 3,none⟩,[]⟩]) (.cond (.tmp 17) (.seq (.reg [⟨⟨some 4,.assign (.const (.bool true)),none⟩,[]⟩]) .ret) .skip))) (.reg [⟨⟨some 10,.move (.tmp 5),none⟩,[]⟩,
 ⟨⟨some 11,.binOp .add 3 (.tmp 10) (.const (.int .i64 1)) 3,none⟩,[]⟩,
 ⟨⟨some 5,.assign (.tmp 11),none⟩,[]⟩])))))) (.seq (.reg [⟨⟨some 4,.assign (.const (.bool false)),none⟩,[]⟩]) .ret)))
theorem in163:InT Tryz.prog 163 2 [.tmp 4] cd163:=InT.mk (by kernel_rfl) [] Tryz.func163 rfl (by kernel_rfl) (by kernel_rfl) (of_decide_eq_true (by kernel_rfl)) (by kernel_rfl)
end Go.Proofs.YtlcipphiflcaiaaGreat.Ai
namespace Go.Proofs.YtlcipphiflcaiaaGreat.Ai
open Go Go.RowKit
theorem l1Has_c (v:Value)(xs:List Int)(x:Int)(H:AH)(hr:Row 3 H v xs)(hlen:xs.length<=1099511627776):ACalls Tryz.prog 163 [v,.int .i64 x] H fun r H'=>r=.bool (decide (x ∈ xs))/\H=H':=by
 refine in163 rfl ?_
 intro Q hQ
 simp (disch:=omega) only [cd163,SS,eq_self,reduceIte,reduceCtorEq,Nat.reduceEqDiff,Nat.reduceAdd]
 refine LoopH.by (fun m s H'=>∃ i,m+i=xs.length/\s 0=v/\s 1=.int .i64 x/\s 5=.int .i64 ((i:Nat):Int)/\H=H'/\x ∉ xs.take i) xs.length ?_ ?_
 ·exact ⟨0,by simp,rfl,rfl,rfl,rfl,by simp⟩
 ·rintro m s H' ⟨i,hm,h0,h1,h5,rfl,hn⟩
  simp (disch:=omega) only [h0,h1,h5,hr.len Tryz.underlying27,SS,eq_self,reduceIte,reduceCtorEq,Nat.reduceEqDiff,Nat.reduceAdd]
  refine brD.intro (fun g=>?_) (fun g=>?_) <;> simp (disch:=omega) only [h0,h1,h5,hr.ix Tryz.underlying27 cs3,hr.cell,Int.toNat_natCast,SS,eq_self,reduceIte,reduceCtorEq,Nat.reduceEqDiff,Nat.reduceAdd]
  ·have hi:i<xs.length:=by omega
   have hg:xs.getD i 0=xs[i]:=by simp [hi]
   refine brD.intro (fun e=>?_) (fun e=>?_) <;> simp (disch:=omega) only [h0,h1,h5,wrap64,SS,eq_self,reduceIte,reduceCtorEq,Nat.reduceEqDiff,Nat.reduceAdd]
   ·refine hQ _ _ _ ?_
    simp (disch:=omega) only [SS,eq_self,reduceIte,reduceCtorEq,Nat.reduceEqDiff,Nat.reduceAdd]
    rw [hg] at e
    have:x ∈ xs:=e ▸ List.getElem_mem hi
    simp [this]
   ·refine ⟨m - 1,by omega,i+1,by omega,by simp,?_⟩
    rw [List.take_add_one,List.getElem?_eq_getElem hi]
    rw [hg] at e
    simp only [Option.toList_some,List.mem_append,List.mem_singleton,not_or]
    exact ⟨hn,fun e'=>e e'.symm⟩
  ·refine hQ _ _ _ ?_
   simp (disch:=omega) only [SS,eq_self,reduceIte,reduceCtorEq,Nat.reduceEqDiff,Nat.reduceAdd]
   rw [List.take_of_length_le (by omega)] at hn
   simp [hn]
end Go.Proofs.YtlcipphiflcaiaaGreat.Ai
namespace Go.Proofs.YtlcipphiflcaiaaGreat.Ai
open Go Go.RowKit Go.Shelf
attribute [local go_sem] Oper.semAt_some
def SlInts (n₀:Nat)(W:World)(sv:Value)(zs:List Int):Prop :=
 (∃ a c,sv=.slice a 0 c/\zs=[])∨∃ b off cap,sv=.slice (some ⟨b,off,none⟩) zs.length cap/\b<n₀/\∀ j,j<zs.length->W.cell? ⟨b,off+j,none⟩=some (.int .i64 (zs[j]?.getD 0))
theorem SlInts.below {n₀:Nat}{A B:World}(h:Below n₀ A B){sv:Value}{zs:List Int}:SlInts n₀ A sv zs->SlInts n₀ B sv zs
 | .inl e=>.inl e
 | .inr ⟨b,off,cap,e,hb,hc⟩=>.inr ⟨b,off,cap,e,hb,fun j hj=>(h.cell (p:=⟨b,off+j,none⟩) hb).trans (hc j hj)⟩
end Go.Proofs.YtlcipphiflcaiaaGreat.Ai
namespace Go.Proofs.YtlcipphiflcaiaaGreat.Ai
open Go Go.RowKit
end Go.Proofs.YtlcipphiflcaiaaGreat.Ai
namespace Go.Proofs.YtlcipphiflcaiaaGreat.Ai
open Go Go.RowKit
instance (n:Int) (ys:List Int):Decidable (Rsg n ys):=by unfold Rsg;infer_instance
def cd83:Cd:=(.seq (.reg [⟨⟨some 2,.assign (.const (.int .u64 0)),none⟩,[]⟩]) (.seq (.reg [⟨⟨some 3,.assign (.const (.int .u64 0)),none⟩,[]⟩]) (.seq (.seq (.reg [⟨⟨some 6,.move (.tmp 0),none⟩,[]⟩,
 ⟨⟨some 7,.call ⟨(.builtin .len),#[.tmp 6],#[27]⟩,none⟩,[]⟩,
 ⟨⟨some 8,.move (.const (.int .i64 0)),none⟩,[]⟩]) (.block 0 (.loop (.seq (.reg [⟨⟨some 9,.binOp .lss 3 (.tmp 8) (.tmp 7) 3,none⟩,[]⟩]) (.seq (.cond (.tmp 9) .skip (.exit 0)) (.seq (.block 1 (.seq (.reg [⟨⟨some 10,.indexAddr 27 (.tmp 6) (.tmp 8),none⟩,[]⟩,
 ⟨⟨some 11,.load 3 (.tmp 10),none⟩,[]⟩,
 ⟨⟨some 5,.assign (.tmp 11),none⟩,[]⟩]) (.reg [⟨⟨some 12,.move (.tmp 3),none⟩,[]⟩,
 ⟨⟨some 13,.move (.tmp 5),none⟩,[]⟩,
 ⟨⟨some 14,.binOp .shl 95 (.const (.int .u64 1)) (.tmp 13) 3,none⟩,[]⟩,
 ⟨⟨some 15,.binOp .or 95 (.tmp 12) (.tmp 14) 95,none⟩,[]⟩,
 ⟨⟨some 3,.assign (.tmp 15),none⟩,[]⟩]))) (.reg [⟨⟨some 16,.binOp .add 3 (.tmp 8) (.const (.int .i64 1)) 3,none⟩,[]⟩,
 ⟨⟨some 8,.move (.tmp 16),none⟩,[]⟩]))))))) (.seq (.reg [⟨⟨some 17,.move (.tmp 3),none⟩,[]⟩,
 ⟨⟨some 2,.assign (.tmp 17),none⟩,[]⟩]) .ret))))
theorem in83:InT Tryz.prog 83 1 [.tmp 2] cd83:=InT.mk (by kernel_rfl) [] Tryz.func83 rfl (by kernel_rfl) (by kernel_rfl) (of_decide_eq_true (by kernel_rfl)) (by kernel_rfl)
def cd128:Cd:=(.seq (.reg [⟨⟨some 4,.assign (.const (.int .u64 0)),none⟩,[]⟩,⟨⟨some 5,.assign (.const (.int .u64 0)),none⟩,[]⟩]) (.seq (.reg [⟨⟨some 8,.move (.tmp 0),none⟩,[]⟩,⟨⟨some 9,.call ⟨(.value (.func 83)),#[.tmp 8],#[27]⟩,none⟩,[]⟩,⟨⟨some 10,.move (.tmp 1),none⟩,[]⟩,⟨⟨some 11,.call ⟨(.value (.func 83)),#[.tmp 10],#[27]⟩,none⟩,[]⟩,⟨⟨some 6,.assign (.tmp 9),none⟩,[]⟩,⟨⟨some 7,.assign (.tmp 11),none⟩,[]⟩]) (.seq (.reg [⟨⟨some 12,.move (.tmp 6),none⟩,[]⟩,⟨⟨some 13,.move (.tmp 7),none⟩,[]⟩,⟨⟨some 14,.binOp .andNot 95 (.tmp 12) (.tmp 13) 95,none⟩,[]⟩,⟨⟨some 15,.move (.tmp 7),none⟩,[]⟩,⟨⟨some 16,.move (.tmp 6),none⟩,[]⟩,⟨⟨some 17,.binOp .andNot 95 (.tmp 15) (.tmp 16) 95,none⟩,[]⟩,
 ⟨⟨some 4,.assign (.tmp 14),none⟩,[]⟩,
  ⟨⟨some 5,.assign (.tmp 17),none⟩,[]⟩]) .ret)))
theorem in128:InT Tryz.prog 128 2 [.tmp 4,.tmp 5] cd128:=InT.mk (by kernel_rfl) [] Tryz.func128 rfl (by kernel_rfl) (by kernel_rfl) (of_decide_eq_true (by kernel_rfl)) (by kernel_rfl)
end Go.Proofs.YtlcipphiflcaiaaGreat.Ai
namespace Go.Proofs.YtlcipphiflcaiaaGreat.Ai
open Go Go.RowKit
def anN (a b:Nat):Nat:=(BitVec.ofNat 64 a &&& ~~~ BitVec.ofNat 64 b).toNat
theorem anN_bit (a b z:Nat)(hz:z<64):(anN a b).testBit z=(a.testBit z && !b.testBit z):=by
 unfold anN
 rw [BitVec.testBit_toNat,BitVec.getLsbD_and,BitVec.getLsbD_not,BitVec.getLsbD_ofNat,BitVec.getLsbD_ofNat]
 simp [hz]
theorem anN_le (a b:Nat):anN a b<=a:=by
 unfold anN
 rw [BitVec.toNat_and]
 refine Nat.le_trans Nat.and_le_left ?_
 rw [BitVec.toNat_ofNat]
 exact Nat.mod_le _ _
theorem bin_andNot (P:Program)(t:TypeId)(a b:Nat)(ha:a<2 ^ 64):binA P .andNot t (.int .u64 (a:Int)) (.int .u64 (b:Int))=some (.int .u64 ((anN a b:Nat):Int)):=by
 have e:bitsA .andNot .u64 (a:Int) (b:Int)=((anN a b:Nat):Int):=by
  show IntKind.u64.wrap (((BitVec.ofInt 64 (a:Int) &&& ~~~ BitVec.ofInt 64 (b:Int)).toNat:Nat):Int)=_
  rw [BitVec.ofInt_natCast,BitVec.ofInt_natCast]
  show IntKind.u64.wrap ((anN a b:Nat):Int)=_
  have:=anN_le a b
  rw [IntKind.wrap_u64];omega
 simp only [binA,intA,e]
 simp
theorem bagOf_c (w:Value)(xs:List Int)(H:AH)(hr:Row 3 H w xs)(hlen:xs.length<=1048576)(hx:∀ x ∈ xs,0<=x/\x<32) :
  ACalls Tryz.prog 83 [w] H fun r H'=>∃ b:Nat,r=.int .u64 (b:Int)/\BagI b xs/\H=H':=by
 refine in83 rfl ?_
 intro Q hQ
 simp (disch:=omega) only [cd83,hr.len Tryz.underlying27,SS,eq_self,reduceIte,reduceCtorEq,Nat.reduceEqDiff,Nat.reduceAdd]
 refine LoopH.by (fun m s H'=>∃ (i b:Nat),m+i=xs.length/\s 3=.int .u64 (b:Int)/\s 6=w/\s 7=.int .i64 (xs.length:Int)/\s 8=.int .i64 ((i:Nat):Int)/\BagI b (xs.take i)/\H'=H) xs.length ?_ ?_
 ·exact ⟨0,0,by simp,rfl,rfl,rfl,rfl,by simpa using BagI.zero,rfl⟩
 rintro m s H' ⟨i,b,hm,h3,h6,h7,h8,hb,rfl⟩
 simp (disch:=omega) only [h3,h6,h7,h8,SS,eq_self,reduceIte,reduceCtorEq,Nat.reduceEqDiff,Nat.reduceAdd]
 refine brD.intro (fun g=>?_) (fun g=>?_)
 ·have hi:i<xs.length:=by omega
  have hxm:xs.getD i 0 ∈ xs:=by simp [hi]
  have hxr:=hx _ hxm
  obtain ⟨x,hxe⟩:∃ x:Nat,xs.getD i 0=x:=⟨(xs.getD i 0).toNat,by omega⟩
  have hc:=hr.cell hi
  rw [hxe] at hc
  have hb64:b<2 ^ 64:=Nat.lt_of_lt_of_le hb.1 (by decide)
  have hx64:2 ^ x<2 ^ 64:=Nat.pow_lt_pow_right (by decide) (by omega)
  have k1:=bin_shl Tryz.prog 95 x (by omega)
  have k2:=bin_or Tryz.prog 95 b (2 ^ x) hb64 hx64
  have f1:BagI (b ||| 2 ^ x) (xs.take (i+1)):=by
   have e:xs.take (i+1)=xs.take i ++ [(x:Int)]:=by
    rw [List.take_add_one,List.getElem?_eq_getElem hi,<- hxe]
    simp [hi]
   rw [e];exact hb.or (by omega)
  simp (disch:=omega) only [h3,h6,h7,h8,hr.ix Tryz.underlying27 cs3,Int.toNat_natCast,hc,k1,k2,wrap64,SS,eq_self,reduceIte,reduceCtorEq,Nat.reduceEqDiff,Nat.reduceAdd]
  refine ⟨m - 1,by omega,i+1,b ||| 2 ^ x,?_⟩
  (repeat' first | exact f1 | apply And.intro) <;> first | (simp only [Value.int.injEq,true_and];omega) | omega | rfl | assumption | (simp;done) | (simp;omega)
 ·simp (disch:=omega) only [h3,SS,eq_self,reduceIte,reduceCtorEq,Nat.reduceEqDiff,Nat.reduceAdd]
  refine hQ _ _ _ ?_
  simp (disch:=omega) only [SS,eq_self,reduceIte,reduceCtorEq,Nat.reduceEqDiff,Nat.reduceAdd]
  rw [List.take_of_length_le (by omega)] at hb
  exact ⟨b,rfl,hb⟩
theorem moves_c (v w:Value)(xs ys:List Int)(H:AH)(hr:Row 3 H v xs)(hs:Row 3 H w ys)(hlx:xs.length<=1048576)(hly:ys.length<=1048576)(hx:∀ x ∈ xs,0<=x/\x<32)(hy:∀ x ∈ ys,0<=x/\x<32) :
  ACalls Tryz.prog 128 [v,w] H fun r H'=>∃ a b:Nat,r=.tuple (List.toArray [.int .u64 (a:Int),.int .u64 (b:Int)])/\BagI a (xs.filter fun x=>!decide (x ∈ ys))/\BagI b (ys.filter fun x=>!decide (x ∈ xs))/\H=H':=by
 refine in128 rfl ?_
 intro Q hQ
 simp (disch:=omega) only [cd128,SS,eq_self,reduceIte,reduceCtorEq,Nat.reduceEqDiff,Nat.reduceAdd]
 refine CallH.by (bagOf_c v xs H hr hlx hx) ?_
 rintro _ _ ⟨a,rfl,ha,rfl⟩
 simp (disch:=omega) only [SS,eq_self,reduceIte,reduceCtorEq,Nat.reduceEqDiff,Nat.reduceAdd]
 refine CallH.by (bagOf_c w ys H hs hly hy) ?_
 rintro _ _ ⟨b,rfl,hb,rfl⟩
 have ha64:a<2 ^ 64:=Nat.lt_of_lt_of_le ha.1 (by decide)
 have hb64:b<2 ^ 64:=Nat.lt_of_lt_of_le hb.1 (by decide)
 have k1:=bin_andNot Tryz.prog 95 a b ha64
 have k2:=bin_andNot Tryz.prog 95 b a hb64
 simp (disch:=omega) only [k1,k2,SS,eq_self,reduceIte,reduceCtorEq,Nat.reduceEqDiff,Nat.reduceAdd]
 refine hQ _ _ _ ?_
 simp (disch:=omega) only [SS,eq_self,reduceIte,reduceCtorEq,Nat.reduceEqDiff,Nat.reduceAdd]
 refine ⟨_,_,rfl,⟨Nat.lt_of_le_of_lt (anN_le a b) ha.1,fun z hz=>?_⟩,⟨Nat.lt_of_le_of_lt (anN_le b a) hb.1,fun z hz=>?_⟩⟩
 ·rw [anN_bit a b z hz,ha.2 z hz,hb.2 z hz]
  by_cases h1:(z:Int) ∈ xs <;> by_cases h2:(z:Int) ∈ ys <;> simp [h1,h2]
 ·rw [anN_bit b a z hz,ha.2 z hz,hb.2 z hz]
  by_cases h1:(z:Int) ∈ xs <;> by_cases h2:(z:Int) ∈ ys <;> simp [h1,h2]
def cd59:Cd:=(.seq (.reg [⟨⟨some 4,.assign (.const (.bool false)),none⟩,[]⟩]) (.seq (.reg [⟨⟨some 8,.move (.tmp 0),none⟩,[]⟩,⟨⟨some 9,.move (.tmp 1),none⟩,[]⟩,⟨⟨some 10,.call ⟨(.value (.func 128)),#[.tmp 8,.tmp 9],#[27,27]⟩,none⟩,[]⟩,⟨⟨some 7,.move (.tmp 10),none⟩,[]⟩,⟨⟨some 11,.extract (.tmp 7) 0,none⟩,[]⟩,⟨⟨some 12,.extract (.tmp 7) 1,none⟩,[]⟩,⟨⟨some 5,.assign (.tmp 11),none⟩,[]⟩,⟨⟨some 6,.assign (.tmp 12),none⟩,[]⟩]) (.seq (.reg [⟨⟨some 13,.move (.tmp 5),none⟩,[]⟩,⟨⟨some 14,.call ⟨(.value (.func 129)),#[.tmp 13],#[95]⟩,none⟩,[]⟩,⟨⟨some 15,.binOp .eql 3 (.tmp 14) (.const (.int .i64 1)) 3,none⟩,[]⟩,⟨⟨some 16,.move (.tmp 15),none⟩,[]⟩,⟨⟨some 17,.move (.tmp 6),some (16,true)⟩,[]⟩,
 ⟨⟨some 18,.call ⟨(.value (.func 129)),#[.tmp 17],#[95]⟩,some (16,true)⟩,[]⟩,
  ⟨⟨some 19,.binOp .eql 3 (.tmp 18) (.const (.int .i64 1)) 3,some (16,true)⟩,[]⟩,
  ⟨⟨some 20,.pick (.tmp 16) (.tmp 19) (.const (.bool false)),none⟩,[]⟩,
  ⟨⟨some 4,.assign (.tmp 20),none⟩,[]⟩]) .ret)))
theorem in59:InT Tryz.prog 59 2 [.tmp 4] cd59:=InT.mk (by kernel_rfl) [] Tryz.func59 rfl (by kernel_rfl) (by kernel_rfl) (of_decide_eq_true (by kernel_rfl)) (by kernel_rfl)
end Go.Proofs.YtlcipphiflcaiaaGreat.Ai
namespace Go.Proofs.YtlcipphiflcaiaaGreat.Ai
open Go Go.RowKit
def jmpB (x y:List Int):Bool:=decide ((x.filter fun e=>!decide (e ∈ y)).length=1) && decide ((y.filter fun e=>!decide (e ∈ x)).length=1)
theorem nbS_cons (e:Int × Int)(ps:List (Int × Int))(hne:e.1 ≠ e.2)(h1:0<=e.1)(h2:0<=e.2)(x:Nat):(nbS (e :: ps) (x:Int)).length=(nbS ps (x:Int)).length+if (decide (e.1.toNat=x∨e.2.toNat=x))=true then 1 else 0:=by
 unfold nbS
 simp only [List.length_append,List.length_map,List.filter_cons]
 by_cases a:e.1=(x:Int)
 ·have b:¬ e.2=(x:Int):=fun q=>hne (a.trans q.symm)
  have c:decide (e.1.toNat=x∨e.2.toNat=x)=true:=decide_eq_true (.inl (by omega))
  rw [c,decide_eq_false b,decide_eq_true a]
  simp only [Bool.false_eq_true,if_false,if_true,List.length_cons];omega
 ·by_cases b:e.2=(x:Int)
  ·have c:decide (e.1.toNat=x∨e.2.toNat=x)=true:=decide_eq_true (.inr (by omega))
   rw [c,decide_eq_true b,decide_eq_false a]
   simp only [Bool.false_eq_true,if_false,if_true,List.length_cons];omega
  ·have c:decide (e.1.toNat=x∨e.2.toNat=x)=false:=decide_eq_false (by omega)
   rw [c,decide_eq_false b,decide_eq_false a]
   simp only [Bool.false_eq_true,if_false];omega
theorem nbS_sum (n:Nat):∀ ps:List (Int × Int),(∀ e ∈ ps,0<=e.1/\e.1<e.2/\e.2<n)->sumL (fun x=>(nbS ps (x:Int)).length) (List.range n)=2 * ps.length
 | [],_=>by
  have:=sumL_cnt (fun _=>false) (List.range n)
  have e:(fun x:Nat=>(nbS [] (x:Int)).length)=fun v=>if (fun _:Nat=>false) v=true then 1 else 0:=by funext v;rfl
  rw [e,this,List.countP_eq_zero.2 (by simp)];rfl
 | e :: ps,h=>by
  have he:=h e (by simp)
  have ih:=nbS_sum n ps fun f hf=>h f (by simp [hf])
  have hf:(fun x:Nat=>(nbS (e :: ps) (x:Int)).length)=fun x:Nat=>(nbS ps (x:Int)).length+if (fun v=>decide (e.1.toNat=v∨e.2.toNat=v)) x=true then 1 else 0:=by
   funext x
   exact nbS_cons e ps (by omega) he.1 (by omega) x
  rw [hf,sumL_add,ih,sumL_cnt,two_ends List.nodup_range (List.mem_range.2 (by omega)) (List.mem_range.2 (by omega)) (by omega),List.length_cons]
  omega
theorem sumL_le (f:Nat->Nat)(m:Nat):∀ V:List Nat,(∀ v ∈ V,f v<=m)->sumL f V<=m * V.length
 | [],_=>by simp [sumL]
 | v :: V,h=>by
  have:=sumL_le f m V fun x hx=>h x (by simp [hx])
  have:=h v (by simp)
  unfold sumL at *
  rw [List.map_cons,List.foldr_cons,List.length_cons,Nat.mul_succ];omega
theorem steps_le {p:List Int->List Int->Bool}{ls:List (List Int)}{m:Nat}(h:∀ x,x<ls.length->(nbS (steps p ls) (x:Int)).length<=m):2 * (steps p ls).length<=m * ls.length:=by
 rw [<- nbS_sum ls.length (steps p ls) (steps_ok p ls).rng]
 have:=sumL_le (fun x=>(nbS (steps p ls) (x:Int)).length) m (List.range ls.length) fun v hv=>h v (List.mem_range.1 hv)
 rw [List.length_range] at this
 exact this
theorem grd_pwT {n:Int}{es:List (Int × Int)}(hg:Grd n es):es.Pairwise pairLt:=by
 rw [List.pairwise_iff_getElem]
 have at_:∀ i (h:i<es.length),es.getD i (0,0)=es[i]:=fun i h=>by simp [h]
 have key:∀ (k i:Nat),i+k+1<es.length->pairLt (es.getD i (0,0)) (es.getD (i+k+1) (0,0)):=by
  intro k
  induction k with
  | zero =>
   intro i hi
   have:=(hg.2 (i+1) hi).2.2.2 (by omega)
   simpa using this
  | succ k ih =>
   intro i hi
   have h1:=ih i (by omega)
   have h2:=(hg.2 (i+(k+1)+1) hi).2.2.2 (by omega)
   have e:i+(k+1)+1 - 1=i+k+1:=by omega
   rw [e] at h2
   unfold pairLt at *
   omega
 intro i j hi hj hij
 have:=key (j - i - 1) i (by omega)
 rw [show i+(j - i - 1)+1=j by omega,at_ i hi,at_ j hj] at this
 exact this
theorem en_inj {n:Int}{es:List (Int × Int)}(hg:Grd n es){e f:Int}(he:0<=e/\e<es.length)(hf:0<=f/\f<es.length)(h1:enA es e=enA es f)(h2:enB es e=enB es f):e=f:=by
 have a:=(en_eq hg he).1
 have b:=(en_eq hg hf).1
 rw [h1,h2,<- b] at a
 have hp:=List.pairwise_iff_getElem.1 (grd_pwT hg)
 have le:e.toNat<es.length:=by omega
 have lf:f.toNat<es.length:=by omega
 have ea:es.getD e.toNat (0,0)=es[e.toNat]:=by simp [le]
 have eb:es.getD f.toNat (0,0)=es[f.toNat]:=by simp [lf]
 rw [ea,eb] at a
 rcases Nat.lt_trichotomy e.toNat f.toNat with q | q | q
 ·have:=hp _ _ le lf q
  rw [a] at this
  unfold pairLt at this;omega
 ·omega
 ·have:=hp _ _ lf le q
  rw [a] at this
  unfold pairLt at this;omega
theorem SG.of {n:Nat}{es:List (Int × Int)}(hg:Grd (n:Int) es){A:List Int}(ha:A.Pairwise (· < ·))(hA:EdIn es A):SG es A (List.range n):=by
 refine ⟨ha,List.nodup_range,fun e he=>?_,fun e he f hf h1 h2=>en_inj hg (hA e he) (hA f hf) h1 h2⟩
 have:=en_eq hg (hA e he)
 exact ⟨⟨List.mem_range.2 (by omega),List.mem_range.2 (by omega)⟩,this.2.1⟩
theorem LB.tre {n:Nat}(hn:1<=n){es:List (Int × Int)}(hg:Grd (n:Int) es){A:List Int}(hA:EdIn es A){k:Nat}(h:LB es A (List.range n) k):k<=(treA n es).length:=by
 obtain ⟨L,l1,l2,l3⟩:=h
 refine Nat.le_trans l2 (nodup_leB L _ l1 fun T hT=>(treA_iff hn hg T).2 ?_)
 have t:=l3 T hT
 have hl:=t.len
 rw [List.length_range] at hl
 exact ⟨hl,t.asc,fun e he=>hA e (t.sub e he),fun x y hx hy=>t.con x (List.mem_range.2 hx) y (List.mem_range.2 hy)⟩
theorem alls_asc (m:Nat):(alls m).Pairwise (· < ·):=by
 unfold alls
 rw [List.pairwise_map]
 exact List.pairwise_lt_range.imp fun q=>by omega
theorem many_trees {n:Nat}{es:List (Int × Int)}(hg:Grd (n:Int) es)(hb:(n=8/\15<=es.length)∨(n=7/\17<=es.length)){T0:List Int}(hT:T0 ∈ treA n es):301<=(treA n es).length:=by
 have hn:1<=n:=by omega
 have t0:=(treA_iff hn hg T0).1 hT
 have hall:EdIn es (alls es.length):=fun e he=>(alls_mem _ _).1 he
 rcases hb with ⟨rfl,hm⟩ | ⟨rfl,hm⟩
 ·have hsp:=flt_len (fun e:Int=>decide (e ∈ T0)) (alls es.length)
  generalize hR:(alls es.length).filter (fun e=>!decide (e ∈ T0))=R at *
  have hRm:∀ e,e ∈ R↔e ∈ alls es.length/\e ∉ T0:=fun e=>by rw [<- hR,List.mem_filter,Bool.not_eq_true',decide_eq_false_iff_not]
  have tn:T0.Nodup:=t0.2.1.imp fun q e=>by omega
  have an:(alls es.length).Nodup:=(alls_asc _).imp fun q e=>by omega
  have al:(alls es.length).length=es.length:=by simp [alls]
  have hin:((alls es.length).filter fun e=>decide (e ∈ T0)).length<=T0.length:=nodup_leB _ _ (an.sublist List.filter_sublist) fun e he=>of_decide_eq_true (List.mem_filter.1 he).2
  have hTl:=t0.1
  have hRl:8<=R.length:=by omega
  have bn:(T0 ++ R.take 8).Nodup:=by
   rw [List.nodup_append]
   refine ⟨tn,(an.sublist (by rw [<- hR];exact List.filter_sublist)).sublist (List.take_sublist _ _),fun a ha b hb e=>?_⟩
   subst e
   exact ((hRm a).1 (List.mem_of_mem_take hb)).2 ha
  have bl:(T0 ++ R.take 8).length=15:=by rw [List.length_append,List.length_take];omega
  have bsub:∀ e ∈ T0 ++ R.take 8,e ∈ alls es.length:=fun e he=>by
   rcases List.mem_append.1 he with q | q
   ·exact (alls_mem _ _).2 (t0.2.2.1 e q)
   ·exact ((hRm e).1 (List.mem_of_mem_take q)).1
  generalize hB:T0 ++ R.take 8=B at *
  have hTB:∀ e ∈ T0,e ∈ B:=fun e he=>by rw [<- hB];exact List.mem_append_left _ he
  have Al:((alls es.length).filter fun e=>decide (e ∈ B)).length=15:=by
   have h1:=nodup_leB ((alls es.length).filter fun e=>decide (e ∈ B)) B (an.sublist List.filter_sublist) fun e he=>of_decide_eq_true (List.mem_filter.1 he).2
   have h2:=nodup_leB B ((alls es.length).filter fun e=>decide (e ∈ B)) bn fun e he=>List.mem_filter.2 ⟨bsub e he,decide_eq_true he⟩
   omega
  have hAE:EdIn es ((alls es.length).filter fun e=>decide (e ∈ B)):=fun e he=>hall e (List.mem_filter.1 he).1
  refine LB.tre hn hg hAE (lb8 (SG.of hg ((alls_asc _).sublist List.filter_sublist) hAE) (by simp) Al fun x hx y hy=>?_)
  exact (t0.2.2.2 x y (List.mem_range.1 hx) (List.mem_range.1 hy)).mono fun e he=>List.mem_filter.2 ⟨(alls_mem _ _).2 (t0.2.2.1 e he),decide_eq_true (hTB e he)⟩
 ·have hAE:EdIn es ((alls es.length).take 17):=fun e he=>hall e (List.mem_of_mem_take he)
  refine LB.tre hn hg hAE ((lb7 (SG.of hg ((alls_asc _).sublist (List.take_sublist _ _)) hAE) (by simp)).2.2.2 ?_)
  rw [List.length_take]
  have al:(alls es.length).length=es.length:=by simp [alls]
  omega
def farOk:Bool:=(List.range 9).all fun n=>(List.range 29).all fun m=>(decide (n=8/\15<=m) || decide (n=7/\17<=m)) || Nat.ble (farS n (m+1 - n)) 40
theorem farOk_ok:farOk=true:=by decide +kernel
theorem tre_deg {n:Nat}(hn:1<=n){es:List (Int × Int)}(hg:Grd (n:Int) es)(h28:es.length<=28)(hb:¬ ((n=8/\15<=es.length)∨(n=7/\17<=es.length))){T:List Int}(hT:T ∈ treA n es) :
  (treA n es).countP (fun U=>jmpB U T || jmpB T U)<=40:=by
 have tL:=(treA_iff hn hg T).1 hT
 have tr:=tL.tree hg
 have hn8:n<=8:=by have:=hg.1;omega
 let F:List Int:=(alls es.length).filter fun e=>!decide (e ∈ T)
 have hFm:∀ e,e ∈ F↔e ∈ alls es.length/\e ∉ T:=fun e=>by
  show e ∈ (alls es.length).filter _↔_
  rw [List.mem_filter,Bool.not_eq_true',decide_eq_false_iff_not]
 have an:(alls es.length).Nodup:=(alls_asc _).imp fun q e=>by omega
 have al:(alls es.length).length=es.length:=by simp [alls]
 have hFl:F.length=es.length+1 - n:=by
  have hsp:=flt_len (fun e:Int=>decide (e ∈ T)) (alls es.length)
  have h1:=nodup_leB ((alls es.length).filter fun e=>decide (e ∈ T)) T (an.sublist List.filter_sublist) fun e he=>of_decide_eq_true (List.mem_filter.1 he).2
  have h2:=nodup_leB T ((alls es.length).filter fun e=>decide (e ∈ T)) tr.nd fun e he=>List.mem_filter.2 ⟨(alls_mem _ _).2 (tL.2.2.1 e he),decide_eq_true he⟩
  have:=tL.1
  show ((alls es.length).filter fun e=>!decide (e ∈ T)).length=_
  omega
 have hfs:=far_sum tr (by omega) hn8 (F:=F) (an.sublist List.filter_sublist) (fun f hf=>by
   have:=en_eq hg ((alls_mem _ _).1 ((hFm f).1 hf).1)
   omega) (fun f hf g hgF h1 h2=>en_inj hg ((alls_mem _ _).1 ((hFm f).1 hf).1) ((alls_mem _ _).1 ((hFm g).1 hgF).1) h1 h2)
 have hok:=farOk_ok
 unfold farOk at hok
 rw [List.all_eq_true] at hok
 have hok:=hok n (List.mem_range.2 (by omega))
 rw [List.all_eq_true] at hok
 have hok:=hok es.length (List.mem_range.2 (by omega))
 rw [Bool.or_eq_true,Bool.or_eq_true,decide_eq_true_eq,decide_eq_true_eq] at hok
 have h40:=Nat.le_of_ble_eq_true (hok.resolve_left hb)
 rw [hFl] at hfs
 refine Nat.le_trans ?_ (Nat.le_trans hfs h40)
 let prs:List (Int × Int):=F.flatMap fun f=>(T.filter fun e=>pdc (¬ Jn es (wo1 T e) (enA es f) (enB es f))).map fun e=>(f,e)
 have hpl:prs.length=(F.map fun f=>sepC es T (enA es f) (enB es f)).foldr (·+·) 0:=by
  show (F.flatMap _).length=_
  generalize F=G
  induction G with
  | nil=>rfl
  | cons f G ih =>
   rw [List.flatMap_cons,List.length_append,List.length_map,List.map_cons,List.foldr_cons,ih]
   unfold sepC
   rw [List.countP_eq_length_filter]
 rw [<- hpl,List.countP_eq_length_filter]
 let g:List Int->Int × Int:=fun U=>((U.filter fun e=>!decide (e ∈ T)).getD 0 0,(T.filter fun e=>!decide (e ∈ U)).getD 0 0)
 have one:∀ {l:List Int},l.length=1->l=[l.getD 0 0]:=fun {l} h=>by
  match l,h with
  | [a],_=>rfl
 have jb:∀ U,(jmpB U T || jmpB T U)=true->(U.filter fun e=>!decide (e ∈ T)).length=1/\(T.filter fun e=>!decide (e ∈ U)).length=1:=by
  intro U h
  unfold jmpB at h
  rw [Bool.or_eq_true,Bool.and_eq_true,Bool.and_eq_true] at h
  simp only [decide_eq_true_eq] at h
  omega
 have mem1:∀ U,(jmpB U T || jmpB T U)=true->∀ x,(x ∈ U/\x ∉ T↔x=(g U).1)/\(x ∈ T/\x ∉ U↔x=(g U).2):=by
  intro U h x
  obtain ⟨h1,h2⟩:=jb U h
  have a:x ∈ (U.filter fun e=>!decide (e ∈ T))↔x ∈ [(g U).1]:=by rw [<- one h1]
  have b:x ∈ (T.filter fun e=>!decide (e ∈ U))↔x ∈ [(g U).2]:=by rw [<- one h2]
  rw [List.mem_filter,Bool.not_eq_true',decide_eq_false_iff_not,List.mem_singleton] at a b
  exact ⟨a,b⟩
 have:=nodup_leB (((treA n es).filter fun U=>jmpB U T || jmpB T U).map g) prs ?_ ?_
 ·rw [List.length_map] at this;exact this
 ·rw [List.Nodup,List.pairwise_map]
  have hnd:(treA n es).Pairwise (· ≠ ·):=(treA_pw hn hg).imp fun q e=>by rw [e,cmpL_self] at q;omega
  refine List.Pairwise.imp_of_mem ?_ (hnd.sublist List.filter_sublist)
  intro U W hU hW hne heq
  obtain ⟨u1,u2⟩:=List.mem_filter.1 hU
  obtain ⟨w1,w2⟩:=List.mem_filter.1 hW
  have uL:=(treA_iff hn hg U).1 u1
  have wL:=(treA_iff hn hg W).1 w1
  refine hne (asc_ext uL.2.1 wL.2.1 fun x=>?_)
  have mu:=mem1 U u2 x
  have mw:=mem1 W w2 x
  rw [heq] at mu
  by_cases hx:x ∈ T
  ·have k1:x ∈ U↔¬ x=(g W).2:=⟨fun q r=>(mu.2.2 r).2 q,fun q=>Classical.byContradiction fun r=>q (mu.2.1 ⟨hx,r⟩)⟩
   have k2:x ∈ W↔¬ x=(g W).2:=⟨fun q r=>(mw.2.2 r).2 q,fun q=>Classical.byContradiction fun r=>q (mw.2.1 ⟨hx,r⟩)⟩
   rw [k1,k2]
  ·have k1:x ∈ U↔x=(g W).1:=⟨fun q=>mu.1.1 ⟨q,hx⟩,fun q=>(mu.1.2 q).1⟩
   have k2:x ∈ W↔x=(g W).1:=⟨fun q=>mw.1.1 ⟨q,hx⟩,fun q=>(mw.1.2 q).1⟩
   rw [k1,k2]
 ·intro p hp
  obtain ⟨U,hU,rfl⟩:=List.mem_map.1 hp
  obtain ⟨u1,u2⟩:=List.mem_filter.1 hU
  have uL:=(treA_iff hn hg U).1 u1
  have m1:=(mem1 U u2 (g U).1).1.2 rfl
  have m2:=(mem1 U u2 (g U).2).2.2 rfl
  show g U ∈ F.flatMap _
  rw [List.mem_flatMap]
  refine ⟨(g U).1,(hFm _).2 ⟨(alls_mem _ _).2 (uL.2.2.1 _ m1.1),m1.2⟩,?_⟩
  rw [List.mem_map]
  refine ⟨(g U).2,List.mem_filter.2 ⟨m2.1,pdc_iff.2 ?_⟩,rfl⟩
  refine Classical.byContradiction fun hc=>?_
  refine tr.noswap (U:=U) m2.1 (f:=(g U).1) (fun w=>hc w.2) (fun x hx=>?_) uL.2.2.2
  by_cases hxT:x ∈ T
  ·refine .inl (wo1_mem.2 ⟨hxT,fun e=>?_⟩)
   rw [e] at hx
   exact m2.2 hx
  ·exact .inr ((mem1 U u2 x).1.1 ⟨hx,hxT⟩)
def cd50:Cd:=(.seq (.reg [⟨⟨some 2,.assign (.const (.slice none 0 0)),none⟩,[]⟩]) (.seq (.seq (.reg [⟨⟨some 3,.move (.tmp 0),none⟩,[]⟩,
 ⟨⟨some 4,.binOp .eql 27 (.tmp 3) (.const (.slice none 0 0)) 27,none⟩,[]⟩]) (.cond (.tmp 4) (.seq (.reg [⟨⟨some 2,.assign (.const (.slice none 0 0)),none⟩,[]⟩]) .ret) .skip)) (.seq (.reg [⟨⟨some 5,.buildSlice 27 0 #[],none⟩,[]⟩,
 ⟨⟨some 6,.move (.tmp 0),none⟩,[]⟩,
 ⟨⟨some 7,.call ⟨(.builtin .append),#[.tmp 5,.tmp 6],#[27,27]⟩,none⟩,[]⟩,
 ⟨⟨some 2,.assign (.tmp 7),none⟩,[]⟩]) .ret)))
theorem in50:InT Tryz.prog 50 1 [.tmp 2] cd50:=InT.mk (by kernel_rfl) [] Tryz.func50 rfl (by kernel_rfl) (by kernel_rfl) (of_decide_eq_true (by kernel_rfl)) (by kernel_rfl)
end Go.Proofs.YtlcipphiflcaiaaGreat.Ai
namespace Go.Proofs.YtlcipphiflcaiaaGreat.Ai
open Go Go.RowKit
theorem Clone_c (v:Value)(xs:List Int)(H:AH)(hr:Row 3 H v xs)(hlen:xs.length<=1099511627776):ACalls Tryz.prog 50 [v] H fun r H'=>Own 3 H H' r xs/\H<+:H':=by
 refine in50 rfl ?_
 intro Q hQ
 obtain ⟨p,e⟩:=hr.shape
 subst e
 simp (disch:=omega) only [cd50,SS,eq_self,reduceIte,reduceCtorEq,Nat.reduceEqDiff,Nat.reduceAdd]
 refine brH.intro (fun g=>?_) (fun g=>?_) <;> simp (disch:=omega) only [SS,eq_self,reduceIte,reduceCtorEq,Nat.reduceEqDiff,Nat.reduceAdd]
 ·refine hQ _ _ _ ?_
  simp (disch:=omega) only [SS,eq_self,reduceIte,reduceCtorEq,Nat.reduceEqDiff,Nat.reduceAdd]
  have:xs=[]:=by
   rcases hr with h | ⟨o,k,vs,ro,h1,_⟩
   ·exact h.2
   ·cases p with
    | none=>cases h1
    | some p=>cases g
  exact ⟨.inl ⟨rfl,this⟩,List.prefix_refl _⟩
 ·have hp:=List.prefix_append H [AObj.cells [] 3 false]
  have ho:Own 3 H (H ++ [AObj.cells [] 3 false]) (.slice (some ⟨H.length,0,none⟩) 0 0) []:=.inr ⟨H.length,rfl,Nat.le_refl _,at_new ..⟩
  obtain ⟨v',H2,k1,k2,k3,_⟩:=ho.app (P:=Tryz.prog) (t:=27) Tryz.underlying27 cs3 (by rw [by3];decide) zk3 (hr.pre hp) hp (by simp;omega)
  simp (disch:=omega) only [k1,SS,eq_self,reduceIte,reduceCtorEq,Nat.reduceEqDiff,Nat.reduceAdd]
  refine hQ _ _ _ ?_
  simp (disch:=omega) only [k2.row.tup,SS,eq_self,reduceIte,reduceCtorEq,Nat.reduceEqDiff,Nat.reduceAdd]
  exact ⟨k2,k3⟩
structure LSt (HB:AH) (fx:List (Nat × AObj)) (pe:Nat) (F:Nat->Prop) (H:AH) (ed:List Int):Prop where
 fix:∀ q ∈ fx,H[q.1]?=some q.2/\¬ F q.1/\q.1 ≠ pe
 e:∃ oe zs,H[pe]?=some (.cells [.slice (some ⟨oe,0,none⟩) ed.length ed.length] 27 false)/\H[oe]?=some (.cells (ints zs) 3 false)/\zs.take ed.length=ed/\¬ F oe/\oe ≠ pe/\(∀ q ∈ fx,q.1 ≠ oe)/\HB.length<=oe
 out:¬ F pe
 lo:HB.length<=pe
 pre:HB<+:H
section
variable {HB:AH} {fx:List (Nat × AObj)} {pe:Nat} {F F':Nat->Prop} {H H':AH} {ed:List Int}
theorem LSt.cb (h:LSt HB fx pe F H ed)(hlive:∀ o,F o->HB.length<=o)(hF:∀ o,F' o->F o∨H.length<=o)(hk:∀ o y,¬ F o->H[o]?=some y->H'[o]?=some y):LSt HB fx pe F' H' ed:=by
 obtain ⟨oe,zs,e1,e2,e3,e4,e5⟩:=h.e
 have no:∀ {o x},¬ F o->H[o]?=some x->¬ F' o:=fun ho hx hf=>by
  rcases hF _ hf with g | g
  ·exact ho g
  ·have:=at_lt hx;omega
 refine ⟨fun q hq=>?_,⟨oe,zs,hk _ _ h.out e1,hk _ _ e4 e2,e3,no e4 e2,e5⟩,no h.out e1,h.lo,?_⟩
 ·obtain ⟨q1,q2,q3⟩:=h.fix q hq
  exact ⟨hk _ _ q2 q1,no q2 q1,q3⟩
 ·exact prefix_of fun o x hx=>hk o x (fun hf=>by have:=hlive o hf;have:=at_lt hx;omega) (pre_at h.pre hx)
theorem LSt.row (h:LSt HB fx pe F H ed):∃ w,cellA H pe 0=some w/\Row 3 H w ed/\¬ F (rowO w)/\isTup w=false:=by
 obtain ⟨oe,zs,e1,e2,e3,e4,e5⟩:=h.e
 refine ⟨_,cell_of e1 0,?_,e4,rfl⟩
 have hzl:ed.length<=zs.length:=by
  have:=congrArg List.length e3
  rw [List.length_take] at this;omega
 refine .inr ⟨oe,0,ints zs,false,rfl,e2,by rw [ints_len];omega,?_⟩
 rw [List.drop_zero]
 have:(ints zs).take ed.length=ints (zs.take ed.length):=by simp [ints,List.map_take]
 rw [this,e3]
theorem LSt.push (h:LSt HB fx pe F H ed)(hlive:∀ o,F o->o<H.length)(hb:ed.length<=1048576)(x:Int) :
  ∃ w H2 H3,cellA H pe 0=some (.slice (some w) ed.length ed.length)/\appendA Tryz.prog 27 27 (.slice (some w) ed.length ed.length) (.slice (some ⟨H.length,0,none⟩) 1 1) (H ++ [.cells [.int .i64 x] 3 false])=some (.slice (some ⟨H.length+1,0,none⟩) (ed.length+1) (ed.length+1),H2) /\
   storeA Tryz.prog 27 (.pointer (some ⟨pe,0,none⟩)) (.slice (some ⟨H.length+1,0,none⟩) (ed.length+1) (ed.length+1)) H2=some H3/\LSt HB fx pe F H3 (ed ++ [x])/\(∀ o y,F o->H[o]?=some y->H3[o]?=some y)/\H.length<=H3.length /\
   ∀ o y,o ≠ pe->(∀ w',cellA H pe 0=some w'->o ≠ rowO w')->H[o]?=some y->H3[o]?=some y:=by
 obtain ⟨oe,zs,e1,e2,e3,e4,e8,e5,e9⟩:=h.e
 have hzl:ed.length<=zs.length:=by
  have:=congrArg List.length e3
  rw [List.length_take] at this;omega
 have k1:=app_q (P:=Tryz.prog) (t:=27) (k:=0) (n:=ed.length) (c:=ed.length) (x:=x) Tryz.underlying27 cs3 (by rw [by3];decide) zk3 e2 (by omega) (by omega)
 rw [List.drop_zero,e3] at k1
 have at_:∀ {o y},o ≠ oe->H[o]?=some y->(H.set oe .dead ++ [AObj.cells [.int .i64 x] 3 false,.cells (ints (ed ++ [x])) 3 false])[o]?=some y:=by
  intro o y ho hy
  rw [List.getElem?_append_left (by simpa using at_lt hy),List.getElem?_set_ne (fun e=>ho e.symm)]
  exact hy
 have a1:=at_ (fun e=>e8 e.symm) e1
 have hst:=st_at (P:=Tryz.prog) (t:=27) (i:=0) (y:=.slice (some ⟨H.length+1,0,none⟩) (ed.length+1) (ed.length+1)) cs27 a1 (by show 0<1;decide) rfl rfl
 have l1:=at_lt e1
 have l2:=at_lt e2
 have aw:∀ {o y},o ≠ oe->o ≠ pe->H[o]?=some y->((H.set oe .dead ++ [AObj.cells [.int .i64 x] 3 false,.cells (ints (ed ++ [x])) 3 false]).set pe (.cells ([Value.slice (some ⟨oe,0,none⟩) ed.length ed.length].set 0 (.slice (some ⟨H.length+1,0,none⟩) (ed.length+1) (ed.length+1))) 27 false))[o]?=some y:=by
  intro o y ho1 ho2 hy
  rw [List.getElem?_set_ne (fun e=>ho2 e.symm)]
  exact at_ ho1 hy
 have lo:=h.lo
 refine ⟨_,_,_,cell_of e1 0,k1,hst,⟨fun q hq=>?_,⟨H.length+1,ed ++ [x],?_,?_,?_,?_,by omega,fun q hq=>?_,by have:=h.pre.length_le;omega⟩,h.out,h.lo,?_⟩,?_,by simp,?_⟩
 ·obtain ⟨q1,q2,q3⟩:=h.fix q hq
  exact ⟨aw (e5 q hq) q3 q1,q2,q3⟩
 ·rw [List.getElem?_set_self (by simp;omega)]
  simp
 ·rw [List.getElem?_set_ne (by omega),List.getElem?_append_right (by simp)]
  simp
 ·rw [List.take_of_length_le (Nat.le_refl _)]
 ·intro hf;have:=hlive _ hf;omega
 ·have:=at_lt (h.fix q hq).1;omega
 ·exact prefix_of fun o y hy=>aw (by have:=at_lt hy;omega) (by have:=at_lt hy;omega) (pre_at h.pre hy)
 ·intro o y hf hy
  exact aw (fun e=>e4 (e ▸ hf)) (fun e=>h.out (e ▸ hf)) hy
 ·intro o y ho1 ho2 hy
  exact aw (ho2 _ (cell_of e1 0)) ho1 hy
theorem LSt.pop {x:Int}(h:LSt HB fx pe F H (ed ++ [x])) :
  ∃ w c,cellA H pe 0=some (.slice (some w) (ed.length+1) c)/\sliceA Tryz.prog 27 (.slice (some w) (ed.length+1) c) none (some (.int .i64 (ed.length:Int))) none H=some (.slice (some w) ed.length ed.length) /\
   ∃ H3,storeA Tryz.prog 27 (.pointer (some ⟨pe,0,none⟩)) (.slice (some w) ed.length ed.length) H=some H3/\LSt HB fx pe F H3 ed/\(∀ o y,F o->H[o]?=some y->H3[o]?=some y)/\H3.length=H.length:=by
 obtain ⟨oe,zs,e1,e2,e3,e4,e8,e5,e9⟩:=h.e
 have hl:(ed ++ [x]).length=ed.length+1:=by simp
 rw [hl] at e1 e3
 have hz:zs.take ed.length=ed:=by
  have:=congrArg (List.take ed.length) e3
  rw [List.take_take,Nat.min_eq_left (by omega)] at this
  simpa using this
 have hsl:=sl_own (P:=Tryz.prog) (t:=27) (k:=0) (n:=ed.length+1) (c:=ed.length+1) Tryz.underlying27 cs3 e2 lo_none (bound_some (k:=.i64) (i:=(ed.length:Int)) (by omega) (ed.length+1)) (Nat.zero_le _) (by omega)
 simp only [Int.toNat_natCast,Nat.add_zero,Nat.sub_zero] at hsl
 have hst:=st_at (P:=Tryz.prog) (t:=27) (i:=0) (y:=.slice (some ⟨oe,0,none⟩) ed.length ed.length) cs27 e1 (by show 0<1;decide) rfl rfl
 have aw:∀ {o y},o ≠ pe->H[o]?=some y->(H.set pe (.cells ([Value.slice (some ⟨oe,0,none⟩) (ed.length+1) (ed.length+1)].set 0 (.slice (some ⟨oe,0,none⟩) ed.length ed.length)) 27 false))[o]?=some y:=by
  intro o y ho hy
  rw [List.getElem?_set_ne (fun e=>ho e.symm)];exact hy
 have lo:=h.lo
 refine ⟨_,_,cell_of e1 0,hsl,_,hst,⟨fun q hq=>?_,⟨oe,zs,?_,aw e8 e2,hz,e4,e8,e5,e9⟩,h.out,h.lo,?_⟩,fun o y hf hy=>aw (fun e=>h.out (e ▸ hf)) hy,by simp⟩
 ·obtain ⟨q1,q2,q3⟩:=h.fix q hq
  exact ⟨aw q3 q1,q2,q3⟩
 ·rw [List.getElem?_set_self (at_lt e1)];rfl
 ·exact prefix_of fun o y hy=>aw (by have:=at_lt hy;omega) (pre_at h.pre hy)
end
def Obs (o:Nat)(us:List Value)(ls:List (List Int))(j:Nat):Prop:=j=o∨∃ i,i<ls.length/\us.getD i undef ≠ .slice none 0 0/\j=rowO (us.getD i undef)
theorem InU.refit2 {lo hi:Nat}{e2 e:TypeId}{H H':AH}{o:Nat}{us:List Value}{ls:List (List Int)}(h:InU lo hi e2 e H o us ls)(hk:∀ j y,Obs o us ls j->H[j]?=some y->H'[j]?=some y):InU lo H'.length e2 e H' o us ls:=by
 obtain ⟨h1,h2,h3,h4,h5,h6⟩:=h
 have k3:=hk _ _ (.inl rfl) h3
 refine ⟨h1,at_lt k3,k3,h4,fun i hi=>⟨?_,(h5 i hi).2⟩,h6⟩
 rcases (h5 i hi).1 with g | ⟨oo,zs,g1,g2,g3,g4,g5⟩
 ·exact .inl g
 ·have:=hk oo _ (.inr ⟨i,hi,(by rw [g1];intro e;cases e),(by rw [g1];rfl)⟩) g4
  exact .inr ⟨oo,zs,g1,g2,at_lt this,this,g5⟩
theorem InU.obs {lo hi:Nat}{e2 e:TypeId}{H:AH}{o:Nat}{us:List Value}{ls:List (List Int)}(h:InU lo hi e2 e H o us ls){j:Nat}(hj:Obs o us ls j):lo<=j/\j<hi:=by
 obtain ⟨h1,h2,h3,h4,h5,h6⟩:=h
 rcases hj with rfl | ⟨i,hi,hn,rfl⟩
 ·exact ⟨h1,h2⟩
 ·rcases (h5 i hi).1.at_ with g | g
  ·exact absurd g hn
  ·exact g
theorem getD_snoc {us:List Value}{n i:Nat}{c:Value}(hn:n<=us.length):(us.take n ++ [c]).getD i undef=if i<n then us.getD i undef else if i=n then c else undef:=by
 rw [List.getD_eq_getElem?_getD,List.getElem?_append]
 have hl:(us.take n).length=n:=by simp;omega
 rw [hl]
 split
 ·rw [List.getElem?_take,if_pos (by assumption),List.getD_eq_getElem?_getD]
 ·split
  ·rename_i h;subst h;simp
  ·rw [List.getElem?_eq_none (by simp;omega)];rfl
def IOut (HB:AH)(po:Nat)(out:List (List Int))(F:Nat->Prop)(H:AH):Prop :=
 ∃ o us,H[po]?=some (.cells [.slice (some ⟨o,0,none⟩) out.length out.length] 32 false)/\InU HB.length H.length 27 3 H o us out/\HB.length<=po/\¬ Obs o us out po/\F=fun j=>j=po∨Obs o us out j
theorem IOut.live {HB H:AH}{po:Nat}{out:List (List Int)}{F:Nat->Prop}(h:IOut HB po out F H){o:Nat}(ho:F o):o<H.length/\HB.length<=o:=by
 obtain ⟨oo,us,h1,h2,h3,h4,rfl⟩:=h
 have ho':o=po∨Obs oo us out o:=ho
 rcases ho' with rfl | hj
 ·exact ⟨at_lt h1,h3⟩
 ·have:=h2.obs hj
  exact ⟨this.2,this.1⟩
theorem IOut.keep {HB H H':AH}{po:Nat}{out:List (List Int)}{F:Nat->Prop}(h:IOut HB po out F H)(hk:∀ o y,F o->H[o]?=some y->H'[o]?=some y):IOut HB po out F H':=by
 obtain ⟨oo,us,h1,h2,h3,h4,rfl⟩:=h
 exact ⟨oo,us,hk _ _ (.inl rfl) h1,h2.refit2 fun j y hj hy=>hk _ _ (.inr hj) hy,h3,h4,rfl⟩
theorem IOut.push {HB H C:AH}{po:Nat}{out:List (List Int)}{F:Nat->Prop}(h:IOut HB po out F H)(hp:HB<+:H){c:Value}{xs:List Int}(pC:H<+:C)(hc:Own 3 H C c xs)(hb:out.length<=1000000000) :
  ∃ w H3 H4,cellA H po 0=some (.slice (some w) out.length out.length)/\cellA C po 0=some (.slice (some w) out.length out.length)/\buildSliceA Tryz.prog 32 1 [(0,c)] C=some (.slice (some ⟨C.length,0,none⟩) 1 1,C ++ [.cells [c] 27 false]) /\
   appendA Tryz.prog 32 32 (.slice (some w) out.length out.length) (.slice (some ⟨C.length,0,none⟩) 1 1) (C ++ [.cells [c] 27 false])=some (.slice (some ⟨C.length+1,0,none⟩) (out.length+1) (out.length+1),H3) /\
   storeA Tryz.prog 32 (.pointer (some ⟨po,0,none⟩)) (.slice (some ⟨C.length+1,0,none⟩) (out.length+1) (out.length+1)) H3=some H4 /\
   ∃ F',IOut HB po (out ++ [xs]) F' H4/\(∀ o,F' o->F o∨H.length<=o)/\∀ o y,¬ F o->H[o]?=some y->H4[o]?=some y:=by
 obtain ⟨o,us,h2,h3,h4,h7,rfl⟩:=h
 have c2:=pre_at pC h2
 have hinw:=InI.of hc.mine
 obtain ⟨H3,k1,k2,k3,k4⟩:=(h3.pre pC).app1 (P:=Tryz.prog) (t2:=32) Tryz.underlying32 cs27 (by rw [by27];decide) zk27 hinw hp.length_le pC.length_le (Nat.le_refl _) (by omega)
 have hbs:buildSliceA Tryz.prog 32 1 [(0,c)] C=some (.slice (some ⟨C.length,0,none⟩) 1 1,C ++ [.cells [c] 27 false]):=by
  obtain ⟨q,eq⟩:=hc.row.shape
  rw [eq]
  exact bs1 Tryz.underlying32 cs27 ze27 ⟨by kernel_rfl,by kernel_rfl⟩ C rfl
 have lC:=pC.length_le
 have l2:=at_lt h2
 have d2:=k4 po _ (fun e=>h7 (.inl e)) c2
 have hst:=st_at (P:=Tryz.prog) (t:=32) (i:=0) (y:=.slice (some ⟨C.length+1,0,none⟩) (out.length+1) (out.length+1)) cs32 d2 (by show 0<1;decide) rfl rfl
 have e2:(H3.set po (.cells ([Value.slice (some ⟨o,0,none⟩) out.length out.length].set 0 (.slice (some ⟨C.length+1,0,none⟩) (out.length+1) (out.length+1))) 32 false))[po]?=some (.cells [.slice (some ⟨C.length+1,0,none⟩) (out.length+1) (out.length+1)] 32 false):=by
  rw [List.getElem?_set_self (by omega)];rfl
 have hal:(out ++ [xs]).length=out.length+1:=by simp
 have hcO:c=.slice none 0 0∨H.length<=rowO c:=by
  rcases hc with ⟨q,_⟩ | ⟨oc,q,hoc,_⟩
  ·exact .inl q
  ·exact .inr (by rw [q];exact hoc)
 have hul:=h3.2.2.2.1
 have aw2:Away po (C.length+1) (us.take out.length ++ [c]) (out ++ [xs]):=by
  refine ⟨by omega,fun i hi=>?_⟩
  rw [hal] at hi
  rw [getD_snoc hul]
  split
  ·rename_i hi2
   by_cases hn:us.getD i undef=.slice none 0 0
   ·exact .inl hn
   ·exact .inr fun e=>h7 (.inr ⟨i,hi2,hn,e.symm⟩)
  ·rw [if_pos (by omega)]
   exact hcO.imp id fun q=>by omega
 have k2':=(k2.wide (Nat.le_refl _) (Nat.le_of_eq k3.symm):InU HB.length H3.length 27 3 H3 _ _ _)
 refine ⟨_,H3,_,cell_of h2 0,cell_of c2 0,hbs,k1,hst,fun j=>j=po∨Obs (C.length+1) (us.take out.length ++ [c]) (out ++ [xs]) j,⟨C.length+1,us.take out.length ++ [c],by rw [hal];exact e2,?_,h4,?_,rfl⟩,?_,?_⟩
 ·have:=k2'.moveq aw2 (H':=H3.set po (.cells ([Value.slice (some ⟨o,0,none⟩) out.length out.length].set 0 (.slice (some ⟨C.length+1,0,none⟩) (out.length+1) (out.length+1))) 32 false)) (fun j y hj hy=>by rw [List.getElem?_set_ne (fun e=>hj e.symm)];exact hy)
  simpa using this
 ·rintro (e | ⟨i,hi,hn,e⟩)
  ·omega
  ·rcases aw2.2 i hi with q | q
   ·exact hn q
   ·exact q e.symm
 ·rintro j (e | e | ⟨i,hi,hn,e⟩)
  ·exact .inl (.inl e)
  ·exact .inr (by omega)
  ·rw [getD_snoc hul] at hn e
   rw [hal] at hi
   by_cases hi2:i<out.length
   ·rw [if_pos hi2] at hn e
    exact .inl (.inr (.inr ⟨i,hi2,hn,e⟩))
   ·rw [if_neg hi2,if_pos (by omega)] at hn e
    rcases hcO with q | q
    ·exact absurd q hn
    ·exact .inr (by omega)
 ·intro j y hj hy
  rw [List.getElem?_set_ne (fun e=>hj (.inl e.symm))]
  exact k4 j y (fun e=>hj (.inr (.inl e))) (pre_at pC hy)
def Keeps (o:Nat)(H H':AH):Prop:=H.length<=H'.length/\∀ (j:Nat) (y:AObj),j ≠ o->H[j]?=some y->H'[j]?=some y
theorem Keeps.trans {o:Nat}{H H' H'':AH}(h:Keeps o H H')(k:Keeps o H' H''):Keeps o H H'':=⟨Nat.le_trans h.1 k.1,fun j y hj hy=>k.2 j y hj (h.2 j y hj hy)⟩
theorem Keeps.of_pre {o:Nat}{H H':AH}(h:H<+:H'):Keeps o H H':=⟨h.length_le,fun j y _ hy=>pre_at h hy⟩
theorem Own.keeps {e:TypeId}{H0 H H':AH}{o:Nat}{v:Value}{xs:List Int}(h:Own e H0 H v xs)(hk:Keeps o H H')(ho:o<H0.length):Own e H0 H' v xs:=by
 rcases h with q | ⟨oo,q1,q2,q3⟩
 ·exact .inl q
 ·exact .inr ⟨oo,q1,q2,hk.2 _ _ (by omega) q3⟩
theorem cutC {P:Program}{a b:Cd}{Q:Exit->Sl->AH->Prop}{s:Sl}{H:AH}(R:Sl->AH->Prop)(h1:∀ c,(∀ s H,R s H->wpC P c Q s H)->wpC P a (thenA (wpC P c Q) Q) s H)(h2:∀ s H,R s H->wpC P b Q s H):wpC P (.seq a b) Q s H:=h1 b h2
def cd112:Cd:=(.seq (.reg [⟨⟨some 2,.assign (.const (.slice none 0 0)),none⟩,[]⟩]) (.seq (.reg [⟨⟨some 5,.buildSlice 117 0 #[],none⟩,[]⟩,
 ⟨⟨some 3,.assign (.tmp 5),none⟩,[]⟩]) (.seq (.seq (.reg [⟨⟨some 6,.move (.tmp 0),none⟩,[]⟩,
 ⟨⟨some 7,.move (.const (.int .i64 0)),none⟩,[]⟩]) (.block 0 (.loop (.seq (.reg [⟨⟨some 8,.binOp .lss 3 (.tmp 7) (.tmp 6) 3,none⟩,[]⟩]) (.seq (.cond (.tmp 8) .skip (.exit 0)) (.seq (.block 1 (.seq (.reg [⟨⟨some 9,.move (.tmp 7),none⟩,[]⟩,
 ⟨⟨some 4,.assign (.tmp 9),none⟩,[]⟩]) (.reg [⟨⟨some 10,.move (.tmp 3),none⟩,[]⟩,
 ⟨⟨some 11,.move (.tmp 4),none⟩,[]⟩,
 ⟨⟨some 12,.buildSlice 117 1 #[(0,.tmp 11)],none⟩,[]⟩,
 ⟨⟨some 13,.call ⟨(.builtin .append),#[.tmp 10,.tmp 12],#[117,117]⟩,none⟩,[]⟩,
 ⟨⟨some 3,.assign (.tmp 13),none⟩,[]⟩]))) (.reg [⟨⟨some 14,.binOp .add 3 (.tmp 7) (.const (.int .i64 1)) 3,none⟩,[]⟩,
 ⟨⟨some 7,.move (.tmp 14),none⟩,[]⟩]))))))) (.seq (.reg [⟨⟨some 15,.move (.tmp 3),none⟩,[]⟩,
 ⟨⟨some 2,.assign (.tmp 15),none⟩,[]⟩]) .ret))))
theorem in112:InT Tryz.prog 112 1 [.tmp 2] cd112:=InT.mk (by kernel_rfl) [] Tryz.func112 rfl (by kernel_rfl) (by kernel_rfl) (of_decide_eq_true (by kernel_rfl)) (by kernel_rfl)
def cd162:Cd:=(.seq (.reg [⟨⟨some 4,.assign (.const (.int .i64 0)),none⟩,[]⟩]) (.seq (.block 0 (.loop (.seq (.seq (.reg [⟨⟨some 5,.move (.tmp 0),none⟩,[]⟩,
 ⟨⟨some 6,.move (.tmp 1),none⟩,[]⟩,
 ⟨⟨some 7,.indexAddr 117 (.tmp 5) (.tmp 6),none⟩,[]⟩,
 ⟨⟨some 8,.load 3 (.tmp 7),none⟩,[]⟩,
 ⟨⟨some 9,.move (.tmp 1),none⟩,[]⟩,
 ⟨⟨some 10,.binOp .neq 3 (.tmp 8) (.tmp 9) 3,none⟩,[]⟩]) (.cond (.tmp 10) .skip (.exit 0))) (.block 1 (.reg [⟨⟨some 11,.move (.tmp 0),none⟩,[]⟩,
 ⟨⟨some 12,.move (.tmp 1),none⟩,[]⟩,
 ⟨⟨some 13,.indexAddr 117 (.tmp 11) (.tmp 12),none⟩,[]⟩,
 ⟨⟨some 14,.load 3 (.tmp 13),none⟩,[]⟩,
 ⟨⟨some 1,.assign (.tmp 14),none⟩,[]⟩]))))) (.seq (.reg [⟨⟨some 15,.move (.tmp 1),none⟩,[]⟩,
 ⟨⟨some 4,.assign (.tmp 15),none⟩,[]⟩]) .ret)))
theorem in162:InT Tryz.prog 162 2 [.tmp 4] cd162:=InT.mk (by kernel_rfl) [] Tryz.func162 rfl (by kernel_rfl) (by kernel_rfl) (of_decide_eq_true (by kernel_rfl)) (by kernel_rfl)
def cd113:Cd:=(.seq (.reg [⟨⟨some 3,.box 115 (.tmp 1),none⟩,[]⟩,⟨⟨some 4,.assign (.const (.bool false)),none⟩,[]⟩]) (.seq (.reg [⟨⟨some 7,.move (.tmp 0),none⟩,[]⟩,⟨⟨some 8,.indexAddr 115 (.tmp 3) (.const (.int .i64 0)),none⟩,[]⟩,⟨⟨some 9,.load 3 (.tmp 8),none⟩,[]⟩,⟨⟨some 11,.move (.tmp 0),none⟩,[]⟩,⟨⟨some 12,.indexAddr 115 (.tmp 3) (.const (.int .i64 1)),none⟩,[]⟩,⟨⟨some 13,.load 3 (.tmp 12),none⟩,[]⟩,⟨⟨some 10,.call ⟨(.value (.func 162)),#[.tmp 7,.tmp 9],#[117,3]⟩,none⟩,[⟨some 13,.load 3 (.tmp 12),none⟩]⟩,⟨⟨some 14,.call ⟨(.value (.func 162)),#[.tmp 11,.tmp 13],#[117,3]⟩,none⟩,[]⟩,⟨⟨some 5,.assign (.tmp 10),none⟩,[]⟩,⟨⟨some 6,.assign (.tmp 14),none⟩,[]⟩]) (.seq (.reg [⟨⟨some 15,.move (.tmp 0),none⟩,[]⟩,⟨⟨some 16,.move (.tmp 5),none⟩,[]⟩,
 ⟨⟨some 17,.move (.tmp 6),none⟩,[]⟩,
  ⟨⟨some 18,.indexAddr 117 (.tmp 15) (.tmp 16),none⟩,[]⟩,
  ⟨⟨none,.store 3 (.tmp 18) (.tmp 17),none⟩,[]⟩]) (.seq (.reg [⟨⟨some 19,.move (.tmp 5),none⟩,[]⟩,
  ⟨⟨some 20,.move (.tmp 6),none⟩,[]⟩,
  ⟨⟨some 21,.binOp .neq 3 (.tmp 19) (.tmp 20) 3,none⟩,[]⟩,
  ⟨⟨some 4,.assign (.tmp 21),none⟩,[]⟩]) .ret))))
theorem in113:InT Tryz.prog 113 2 [.tmp 4] cd113:=InT.mk (by kernel_rfl) [(1,[(0,false),(1,false),(2,false),(4,false),(5,false),(6,false),(3,true),(7,true),(8,false),(9,false)])] Tryz.func113 rfl (by kernel_rfl) (by kernel_rfl) (of_decide_eq_true (by kernel_rfl)) (by kernel_rfl)
end Go.Proofs.YtlcipphiflcaiaaGreat.Ai
namespace Go.Proofs.YtlcipphiflcaiaaGreat.Ai
open Go Go.RowKit
structure JS (n:Nat) (J:List Int) (rt d:Nat->Nat):Prop where
 len:J.length=n
 nxt:∀ x,x<n->∃ y:Nat,J.getD x 0=(y:Int)/\y<n/\rt y=rt x/\(y=x->rt x=x)/\(y ≠ x->d y<d x)
 top:∀ x,x<n->rt x<n/\J.getD (rt x) 0=(rt x:Int)
theorem JS.rr {n:Nat}{J:List Int}{rt d:Nat->Nat}(h:JS n J rt d){x:Nat}(hx:x<n):rt (rt x)=rt x:=by
 obtain ⟨t1,t2⟩:=h.top x hx
 obtain ⟨y,y1,_,y3,y4,_⟩:=h.nxt (rt x) t1
 exact y4 (by rw [t2] at y1;omega)
theorem alls_at {n x:Nat}(h:x<n):(alls n).getD x 0=(x:Int):=by simp [alls,h]
theorem JS.zero (n:Nat):JS n (alls n) id fun _=>0 :=
 ⟨by simp [alls],fun x hx=>⟨x,alls_at hx,hx,rfl,fun _=>rfl,fun q=>absurd rfl q⟩,fun x hx=>⟨hx,alls_at hx⟩⟩
theorem getD_setI (xs:List Int)(j v:Nat)(d:Int)(hj:j<xs.length):(xs.set j d).getD v 0=if j=v then d else xs.getD v 0:=by
 simp only [List.getD_eq_getElem?_getD,List.getElem?_set]
 split
 ·rename_i e
  subst e
  first | rfl | (rw [if_pos hj];rfl)
 ·rfl
theorem JS.join {n:Nat}{J:List Int}{rt d:Nat->Nat}(h:JS n J rt d){a b:Nat}(ha:a<n)(hb:b<n) :
  ∃ d',JS n (J.set (rt a) (rt b:Int)) (fun x=>if rt x=rt a then rt b else rt x) d':=by
 have ra:=h.rr ha
 have rb:=h.rr hb
 have ta:=h.top a ha
 have tb:=h.top b hb
 have hl:rt a<J.length:=by rw [h.len];exact ta.1
 refine ⟨fun x=>if rt x=rt a/\rt a ≠ rt b then d x+d (rt b)+1 else d x,by rw [List.length_set];exact h.len,fun x hx=>?_,fun x hx=>?_⟩
 ·rw [getD_setI _ _ _ _ hl]
  by_cases e:rt a=x
  ·refine ⟨rt b,if_pos e,tb.1,?_,fun q=>?_,fun q=>?_⟩
   ·show (if rt (rt b)=rt a then rt b else rt (rt b))=if rt x=rt a then rt b else rt x
    rw [rb,<- e,ra,if_pos rfl]
    split <;> rfl
   ·show (if rt x=rt a then rt b else rt x)=x
    rw [<- e,ra,if_pos rfl,q,e]
   ·show (if rt (rt b)=rt a/\rt a ≠ rt b then _ else _)<(if rt x=rt a/\rt a ≠ rt b then _ else _)
    have hne:rt a ≠ rt b:=fun g=>q (by rw [<- g,e])
    rw [rb,if_neg (fun g=>hne g.1.symm),<- e,ra,if_pos ⟨rfl,hne⟩]
    omega
  ·obtain ⟨y,y1,y2,y3,y4,y5⟩:=h.nxt x hx
   refine ⟨y,by rw [if_neg e];exact y1,y2,?_,fun q=>?_,fun q=>?_⟩
   ·show (if rt y=rt a then rt b else rt y)=if rt x=rt a then rt b else rt x
    rw [y3]
   ·show (if rt x=rt a then rt b else rt x)=x
    have:=y4 q
    rw [this,if_neg fun g=>e g.symm]
   ·show (if rt y=rt a/\rt a ≠ rt b then _ else _)<(if rt x=rt a/\rt a ≠ rt b then _ else _)
    have:=y5 q
    rw [y3]
    split <;> omega
 ·show (if rt x=rt a then rt b else rt x)<n/\(J.set (rt a) (rt b:Int)).getD (if rt x=rt a then rt b else rt x) 0=((if rt x=rt a then rt b else rt x:Nat):Int)
  rw [getD_setI _ _ _ _ hl]
  have tx:=h.top x hx
  by_cases e:rt x=rt a
  ·rw [if_pos e]
   refine ⟨tb.1,?_⟩
   split
   ·rfl
   ·exact tb.2
  ·rw [if_neg e,if_neg fun g=>e g.symm]
   exact tx
def JR (es:List (Int × Int))(T:List Int)(n:Nat)(J:List Int):Prop:=∃ rt d,JS n J rt d/\∀ u v,u<n->v<n->(Jn es T u v↔rt u=rt v)
theorem JR.zero (es:List (Int × Int))(n:Nat):JR es [] n (alls n):=⟨_,_,JS.zero n,fun u v _ _=>⟨fun h=>h.nil,fun h=>by have:u=v:=h;subst this;exact .refl u⟩⟩
theorem JR.congr {es:List (Int × Int)}{T U:List Int}{n:Nat}{J:List Int}(h:JR es T n J)(hs:∀ x,x ∈ T↔x ∈ U):JR es U n J:=by
 obtain ⟨rt,d,h1,h2⟩:=h
 exact ⟨rt,d,h1,fun u v hu hv=>⟨fun q=>(h2 u v hu hv).1 (q.mono fun x hx=>(hs x).2 hx),fun q=>((h2 u v hu hv).2 q).mono fun x hx=>(hs x).1 hx⟩⟩
theorem JS.rel {es:List (Int × Int)}{T U:List Int}{n:Nat}{J:List Int}{rt d:Nat->Nat}(h:JS n J rt d)(hr:∀ u v,u<n->v<n->(Jn es T u v↔rt u=rt v)){e:Int}(ha:enA es e<n)(hb:enB es e<n)(hs:∀ x,x ∈ U↔x ∈ T∨x=e) :
  JR es U n (J.set (rt (enA es e)) (rt (enB es e):Int)):=by
 obtain ⟨d',hj⟩:=h.join ha hb
 refine ⟨_,d',hj,fun u v hu hv=>?_⟩
 show _↔(if rt u=rt (enA es e) then rt (enB es e) else rt u)=if rt v=rt (enA es e) then rt (enB es e) else rt v
 have sub:∀ x ∈ T,x ∈ U:=fun x hx=>(hs x).2 (.inl hx)
 constructor
 ·intro hj
  rcases Jn.add (fun x hx=>(hs x).1 hx) hj with q | ⟨q1,q2⟩ | ⟨q1,q2⟩
  ·rw [(hr u v hu hv).1 q]
  ·rw [if_pos ((hr _ _ hu ha).1 q1),<- (hr _ _ hb hv).1 q2]
   split <;> rfl
  ·have e2:=(hr _ _ ha hv).1 q2
   rw [if_pos e2.symm,(hr _ _ hu hb).1 q1]
   split <;> rfl
 ·intro hq
  have ed:Jn es U (enA es e) (enB es e):=.edge e ((hs e).2 (.inr rfl))
  split at hq <;> split at hq
  ·rename_i g1 g2
   exact ((hr u v hu hv).2 (g1.trans g2.symm)).mono sub
  ·rename_i g1 g2
   exact (((hr _ _ hu ha).2 g1).mono sub).trans (ed.trans (((hr _ _ hb hv).2 hq).mono sub))
  ·rename_i g1 g2
   exact (((hr _ _ hu hb).2 hq).mono sub).trans (ed.symm.trans (((hr _ _ ha hv).2 g2.symm).mono sub))
  ·exact ((hr u v hu hv).2 hq).mono sub
theorem newJoiner_c (n:Nat)(H:AH)(hn:n<=1000):ACalls Tryz.prog 112 [.int .i64 (n:Int)] H fun r H'=>Own 3 H H' r (alls n)/\H<+:H':=by
 refine in112 rfl ?_
 intro Q hQ
 simp (disch:=omega) only [cd112,SS,eq_self,reduceIte,reduceCtorEq,Nat.reduceEqDiff,Nat.reduceAdd]
 have hp:=List.prefix_append H [AObj.cells [] 3 false]
 have own0:Own 3 H (H ++ [AObj.cells [] 3 false]) (.slice (some ⟨H.length,0,none⟩) 0 0) (alls 0):=.inr ⟨H.length,rfl,Nat.le_refl _,at_new ..⟩
 refine LoopH.by (fun m s H'=>∃ i:Nat,m+i=n/\s 6=.int .i64 (n:Int)/\s 7=.int .i64 ((i:Nat):Int)/\Own 3 H H' (s 3) (alls i)/\H<+:H') n ?_ ?_
 ·refine ⟨0,?_⟩
  simp (disch:=omega) only [SS,eq_self,reduceIte,reduceCtorEq,Nat.reduceEqDiff,Nat.reduceAdd]
  (repeat' first | exact own0 | exact hp | apply And.intro) <;> first | (simp only [Value.int.injEq,true_and];omega) | omega | rfl | assumption | (simp;done) | (simp;omega)
 rintro m s H' ⟨i,hm,h6,h7,hO,pH⟩
 generalize hU:s 3=U at *
 simp (disch:=omega) only [h6,h7,hU,SS,eq_self,reduceIte,reduceCtorEq,Nat.reduceEqDiff,Nat.reduceAdd]
 refine brD.intro (fun g=>?_) (fun g=>?_)
 ·obtain ⟨w,K,a1,a2,a3,a4,a5,a6⟩:=own1_117 hO pH (by simp [alls];omega) (i:Int)
  have e1:alls (i+1)=alls i ++ [(i:Int)]:=by simp [alls,List.range_succ]
  rw [<- e1] at a2
  simp (disch:=omega) only [h6,h7,hU,a1,wrap64,SS,eq_self,reduceIte,reduceCtorEq,Nat.reduceEqDiff,Nat.reduceAdd]
  refine ⟨m - 1,by omega,i+1,?_⟩
  (repeat' first | exact a2 | exact a3 | apply And.intro) <;> first | (simp only [Value.int.injEq,true_and];omega) | omega | rfl | assumption | (simp;done) | (simp;omega)
 ·have hin:i=n:=by omega
  subst hin
  simp (disch:=omega) only [hU,SS,eq_self,reduceIte,reduceCtorEq,Nat.reduceEqDiff,Nat.reduceAdd]
  refine hQ _ _ _ ?_
  simp (disch:=omega) only [hO.row.tup,SS,eq_self,reduceIte,reduceCtorEq,Nat.reduceEqDiff,Nat.reduceAdd]
  exact ⟨hO,pH⟩
theorem root_c {n:Nat}{J:List Int}{rt d:Nat->Nat}(hj:JS n J rt d)(v:Value)(H:AH)(hr:Row 3 H v J)(x:Nat)(hx:x<n):ACalls Tryz.prog 162 [v,.int .i64 (x:Int)] H fun r H'=>r=.int .i64 (rt x:Int)/\H=H':=by
 refine in162 rfl ?_
 intro Q hQ
 simp (disch:=omega) only [cd162,SS,eq_self,reduceIte,reduceCtorEq,Nat.reduceEqDiff,Nat.reduceAdd]
 refine LoopH.by (fun m s H'=>∃ z:Nat,m=d z/\z<n/\rt z=rt x/\s 0=v/\s 1=.int .i64 (z:Int)/\H=H') (d x) ?_ ?_
 ·exact ⟨x,rfl,hx,rfl,rfl,rfl,rfl⟩
 rintro m s H' ⟨z,rfl,hz,hzr,h0,h1,rfl⟩
 obtain ⟨y,y1,y2,y3,y4,y5⟩:=hj.nxt z hz
 have hzl:z<J.length:=by rw [hj.len];exact hz
 have cc:=hr.cell hzl
 rw [y1] at cc
 simp (disch:=omega) only [h0,h1,hr.ix Tryz.underlying117 cs3,Int.toNat_natCast,cc,SS,eq_self,reduceIte,reduceCtorEq,Nat.reduceEqDiff,Nat.reduceAdd]
 refine brD.intro (fun g=>?_) (fun g=>?_)
 ·simp (disch:=omega) only [h0,h1,hr.ix Tryz.underlying117 cs3,Int.toNat_natCast,cc,SS,eq_self,reduceIte,reduceCtorEq,Nat.reduceEqDiff,Nat.reduceAdd]
  have f1:=y3.trans hzr
  refine ⟨d y,y5 (by omega),y,?_⟩
  (repeat' first | exact rfl | exact y2 | exact f1 | apply And.intro) <;> first | (simp only [Value.int.injEq,true_and];omega) | omega | rfl | assumption | (simp;done) | (simp;omega)
 ·have e:y=z:=by omega
  have:=y4 e
  simp (disch:=omega) only [h1,SS,eq_self,reduceIte,reduceCtorEq,Nat.reduceEqDiff,Nat.reduceAdd]
  refine hQ _ _ _ ?_
  simp (disch:=omega) only [SS,eq_self,reduceIte,reduceCtorEq,Nat.reduceEqDiff,Nat.reduceAdd]
  rw [<- hzr,this]
theorem joinS_c {n:Nat}{J:List Int}{rt d:Nat->Nat}(hj:JS n J rt d)(o:Nat)(H:AH)(ho:H[o]?=some (.cells (ints J) 3 false))(a b:Nat)(ha:a<n)(hb:b<n):ACalls Tryz.prog 113 [.slice (some ⟨o,0,none⟩) n n,.agg (List.toArray [.int .i64 (a:Int),.int .i64 (b:Int)])] H fun r H'=>r=.bool (decide (rt a ≠ rt b))/\H'[o]?=some (.cells (ints (J.set (rt a) (rt b:Int))) 3 false)/\Keeps o H H':=by
 refine in113 rfl ?_
 intro Q hQ
 have bx:∀ H:AH,boxA Tryz.prog 115 (.agg (List.toArray [.int .i64 (a:Int),.int .i64 (b:Int)])) H=some (.pointer (some ⟨H.length,0,none⟩),H ++ [.cells [.int .i64 (a:Int),.int .i64 (b:Int)] 115 false]):=fun H=>by kernel_rfl
 simp (disch:=omega) only [cd113,bx,SS,eq_self,reduceIte,reduceCtorEq,Nat.reduceEqDiff,Nat.reduceAdd]
 generalize hA:H ++ [AObj.cells [.int .i64 (a:Int),.int .i64 (b:Int)] 115 false]=A
 have pA:H<+:A:=by rw [<- hA];exact List.prefix_append _ _
 have cA:A[H.length]?=some (.cells [.int .i64 (a:Int),.int .i64 (b:Int)] 115 false):=by rw [<- hA];exact at_new ..
 have oA:=pre_at pA ho
 have rA:Row 3 A (.slice (some ⟨o,0,none⟩) n n) J:=.inr ⟨o,0,_,false,by rw [hj.len],oA,by simp [ints_len],by rw [List.drop_zero,List.take_of_length_le (by simp [ints_len])]⟩
 simp (disch:=omega) only [cell_of cA,SS,eq_self,reduceIte,reduceCtorEq,Nat.reduceEqDiff,Nat.reduceAdd]
 refine CallH.by (root_c hj _ A rA a ha) ?_
 rintro _ _ ⟨rfl,rfl⟩
 simp (disch:=omega) only [cell_of cA,SS,eq_self,reduceIte,reduceCtorEq,Nat.reduceEqDiff,Nat.reduceAdd]
 refine CallH.by (root_c hj _ A rA b hb) ?_
 rintro _ _ ⟨rfl,rfl⟩
 have hra:rt a<J.length:=by rw [hj.len];exact (hj.top a ha).1
 have hran:rt a<n:=(hj.top a ha).1
 have ix:=rA.ix Tryz.underlying117 cs3 .i64 (i:=(rt a:Int)) (by omega) (by omega)
 have st:=st_ints (P:=Tryz.prog) (t:=3) (x:=(rt b:Int)) cs3 oA hra
 simp (disch:=omega) only [ix,rowO,rowK,Int.toNat_natCast,Nat.zero_add,st,SS,eq_self,reduceIte,reduceCtorEq,Nat.reduceEqDiff,Nat.reduceAdd]
 refine hQ _ _ _ ?_
 simp (disch:=omega) only [SS,eq_self,reduceIte,reduceCtorEq,Nat.reduceEqDiff,Nat.reduceAdd]
 refine ⟨?_,?_,?_⟩
 ·rw [Value.bool.injEq,decide_eq_decide]
  omega
 ·rw [List.getElem?_set_self (at_lt oA)]
 ·exact (Keeps.of_pre pA).trans ⟨by simp,fun j y hj hy=>by rw [List.getElem?_set_ne (fun e=>hj e.symm)];exact hy⟩
theorem join_c {es:List (Int × Int)}{T:List Int}{n:Nat}{J:List Int}(hj:JR es T n J)(o:Nat)(H:AH)(ho:H[o]?=some (.cells (ints J) 3 false))(e:Int)(ha:enA es e<n)(hb:enB es e<n)(h1:(es.getD e.toNat (0,0)).1=(enA es e:Int))(h2:(es.getD e.toNat (0,0)).2=(enB es e:Int)) :
  ACalls Tryz.prog 113 [.slice (some ⟨o,0,none⟩) n n,.agg (List.toArray [.int .i64 (es.getD e.toNat (0,0)).1,.int .i64 (es.getD e.toNat (0,0)).2])] H fun r H'=>∃ (b:Bool) (J':List Int),r=.bool b/\(b=true↔¬ Jn es T (enA es e) (enB es e))/\H'[o]?=some (.cells (ints J') 3 false)/\JR es (T ++ [e]) n J'/\Keeps o H H':=by
 obtain ⟨rt,d,hs,hr⟩:=hj
 rw [h1,h2]
 refine (joinS_c hs o H ho _ _ ha hb).mono fun r H' h=>?_
 refine ⟨_,_,h.1,?_,h.2.1,hs.rel hr ha hb fun x=>by simp,h.2.2⟩
 rw [decide_eq_true_eq,hr _ _ ha hb]
def cd124:Cd:=(.seq (.reg [⟨⟨some 2,.assign (.const (.slice none 0 0)),none⟩,[]⟩]) (.seq (.seq (.reg [⟨⟨some 3,.move (.tmp 0),none⟩,[]⟩,
 ⟨⟨some 4,.binOp .eql 117 (.tmp 3) (.const (.slice none 0 0)) 117,none⟩,[]⟩]) (.cond (.tmp 4) (.seq (.reg [⟨⟨some 2,.assign (.const (.slice none 0 0)),none⟩,[]⟩]) .ret) .skip)) (.seq (.reg [⟨⟨some 5,.buildSlice 117 0 #[],none⟩,[]⟩,
 ⟨⟨some 6,.move (.tmp 0),none⟩,[]⟩,
 ⟨⟨some 7,.call ⟨(.builtin .append),#[.tmp 5,.tmp 6],#[117,117]⟩,none⟩,[]⟩,
 ⟨⟨some 2,.assign (.tmp 7),none⟩,[]⟩]) .ret)))
theorem in124:InT Tryz.prog 124 1 [.tmp 2] cd124:=InT.mk (by kernel_rfl) [] Tryz.func124 rfl (by kernel_rfl) (by kernel_rfl) (of_decide_eq_true (by kernel_rfl)) (by kernel_rfl)
def cd123:Cd:=(.seq (.reg [⟨⟨some 8,.assign (.const (.bool false)),none⟩,[]⟩]) (.seq (.seq (.reg [⟨⟨some 10,.load 27 (.tmp 2),none⟩,[]⟩,⟨⟨some 11,.call ⟨(.builtin .len),#[.tmp 10],#[27]⟩,none⟩,[]⟩,⟨⟨some 12,.fieldAddr 26 (.tmp 3) 0,none⟩,[]⟩,⟨⟨some 13,.load 3 (.tmp 12),none⟩,[]⟩,⟨⟨some 14,.binOp .sub 3 (.tmp 13) (.const (.int .i64 1)) 3,none⟩,[]⟩,⟨⟨some 15,.binOp .eql 3 (.tmp 11) (.tmp 14) 3,none⟩,[]⟩]) (.cond (.tmp 15) (.seq (.reg [⟨⟨some 16,.load 32 (.tmp 4),none⟩,[]⟩,⟨⟨some 17,.load 27 (.tmp 2),none⟩,[]⟩,⟨⟨some 18,.call ⟨(.value (.func 50)),#[.tmp 17],#[27]⟩,none⟩,[⟨some 16,.load 32 (.tmp 4),none⟩]⟩,⟨⟨some 19,.buildSlice 32 1 #[(0,.tmp 18)],none⟩,[]⟩,⟨⟨some 20,.call ⟨(.builtin .append),#[.tmp 16,.tmp 19],#[32,32]⟩,none⟩,[]⟩,⟨⟨none,.store 32 (.tmp 4) (.tmp 20),none⟩,[]⟩]) (.seq (.reg [⟨⟨some 21,.load 32 (.tmp 4),none⟩,[]⟩,⟨⟨some 22,.call ⟨(.builtin .len),#[.tmp 21],#[32]⟩,none⟩,[]⟩,
 ⟨⟨some 23,.binOp .leq 3 (.tmp 22) (.const (.int .i64 300)) 3,none⟩,[]⟩,⟨⟨some 8,.assign (.tmp 23),none⟩,[]⟩]) .ret)) .skip)) (.seq (.seq (.reg [⟨⟨some 24,.fieldAddr 26 (.tmp 3) 1,none⟩,[]⟩,⟨⟨some 25,.load 24 (.tmp 24),none⟩,[]⟩,⟨⟨some 26,.call ⟨(.builtin .len),#[.tmp 25],#[24]⟩,none⟩,[]⟩,⟨⟨some 27,.move (.tmp 0),none⟩,[]⟩,⟨⟨some 28,.binOp .sub 3 (.tmp 26) (.tmp 27) 3,none⟩,[]⟩,⟨⟨some 29,.fieldAddr 26 (.tmp 3) 0,none⟩,[]⟩,⟨⟨some 30,.load 3 (.tmp 29),none⟩,[]⟩,⟨⟨some 31,.binOp .sub 3 (.tmp 30) (.const (.int .i64 1)) 3,none⟩,[]⟩,⟨⟨some 32,.load 27 (.tmp 2),none⟩,[]⟩,⟨⟨some 33,.call ⟨(.builtin .len),#[.tmp 32],#[27]⟩,none⟩,[]⟩,⟨⟨some 34,.binOp .sub 3 (.tmp 31) (.tmp 33) 3,none⟩,[]⟩,
 ⟨⟨some 35,.binOp .lss 3 (.tmp 28) (.tmp 34) 3,none⟩,[]⟩]) (.cond (.tmp 35) (.seq (.reg [⟨⟨some 8,.assign (.const (.bool true)),none⟩,[]⟩]) .ret) .skip)) (.seq (.seq (.reg [⟨⟨some 36,.move (.tmp 1),none⟩,[]⟩,⟨⟨some 37,.call ⟨(.value (.func 124)),#[.tmp 36],#[117]⟩,none⟩,[]⟩,⟨⟨some 9,.assign (.tmp 37),none⟩,[]⟩]) (.seq (.reg [⟨⟨some 38,.move (.tmp 9),none⟩,[]⟩,⟨⟨some 39,.fieldAddr 26 (.tmp 3) 1,none⟩,[]⟩,⟨⟨some 40,.load 24 (.tmp 39),none⟩,[]⟩,⟨⟨some 41,.move (.tmp 0),none⟩,[]⟩,⟨⟨some 42,.indexAddr 24 (.tmp 40) (.tmp 41),none⟩,[]⟩,⟨⟨some 43,.load 115 (.tmp 42),none⟩,[]⟩,⟨⟨some 44,.call ⟨(.value (.func 113)),#[.tmp 38,.tmp 43],#[117,115]⟩,none⟩,[]⟩]) (.cond (.tmp 44) (.seq (.reg [⟨⟨some 45,.load 27 (.tmp 2),none⟩,[]⟩,⟨⟨some 46,.move (.tmp 0),none⟩,[]⟩,⟨⟨some 47,.buildSlice 27 1 #[(0,.tmp 46)],none⟩,[]⟩,⟨⟨some 48,.call ⟨(.builtin .append),#[.tmp 45,.tmp 47],#[27,27]⟩,none⟩,[]⟩,
 ⟨⟨none,.store 27 (.tmp 2) (.tmp 48),none⟩,[]⟩]) (.seq (.seq (.reg [⟨⟨some 49,.load 125 (.tmp 5),none⟩,[]⟩,⟨⟨some 50,.move (.tmp 0),none⟩,[]⟩,⟨⟨some 51,.binOp .add 3 (.tmp 50) (.const (.int .i64 1)) 3,none⟩,[]⟩,⟨⟨some 52,.move (.tmp 9),none⟩,[]⟩,⟨⟨some 53,.call ⟨(.value (.tmp 49)),#[.tmp 51,.tmp 52],#[3,117]⟩,none⟩,[]⟩,⟨⟨some 54,.unOp .not 4 (.tmp 53),none⟩,[]⟩]) (.cond (.tmp 54) (.seq (.reg [⟨⟨some 8,.assign (.const (.bool false)),none⟩,[]⟩]) .ret) .skip)) (.reg [⟨⟨some 55,.load 27 (.tmp 2),none⟩,[]⟩,⟨⟨some 56,.load 27 (.tmp 2),none⟩,[]⟩,⟨⟨some 57,.call ⟨(.builtin .len),#[.tmp 56],#[27]⟩,none⟩,[]⟩,⟨⟨some 58,.binOp .sub 3 (.tmp 57) (.const (.int .i64 1)) 3,none⟩,[]⟩,⟨⟨some 59,.slice 27 (.tmp 55) none (some (.tmp 58)) none,none⟩,[]⟩,⟨⟨none,.store 27 (.tmp 2) (.tmp 59),none⟩,[]⟩]))) .skip))) (.seq (.reg [⟨⟨some 60,.load 125 (.tmp 5),none⟩,[]⟩,⟨⟨some 61,.move (.tmp 0),none⟩,[]⟩,
 ⟨⟨some 62,.binOp .add 3 (.tmp 61) (.const (.int .i64 1)) 3,none⟩,[]⟩,
  ⟨⟨some 63,.move (.tmp 1),none⟩,[]⟩,
  ⟨⟨some 64,.call ⟨(.value (.tmp 60)),#[.tmp 62,.tmp 63],#[3,117]⟩,none⟩,[]⟩,
  ⟨⟨some 8,.assign (.tmp 64),none⟩,[]⟩]) .ret)))))
theorem in123:InT Tryz.prog 123 6 [.tmp 8] cd123:=InT.mk (by kernel_rfl) [(2,[(0,false),(1,false),(2,true),(3,false),(4,true),(5,true)])] Tryz.func123 rfl (by kernel_rfl) (by kernel_rfl) (of_decide_eq_true (by kernel_rfl)) (by kernel_rfl)
def cd54:Cd:=(.seq (.reg [⟨⟨some 1,.box 26 (.tmp 0),none⟩,[]⟩,⟨⟨some 2,.assign (.const (.slice none 0 0)),none⟩,[]⟩,⟨⟨some 3,.assign (.const (.bool false)),none⟩,[]⟩]) (.seq (.reg [⟨⟨some 8,.buildSlice 32 0 #[],none⟩,[]⟩,⟨⟨some 9,.buildSlice 27 0 #[],none⟩,[]⟩,⟨⟨some 4,.alloc 32,none⟩,[]⟩,⟨⟨some 5,.alloc 27,none⟩,[]⟩,⟨⟨none,.store 32 (.tmp 4) (.tmp 8),none⟩,[]⟩,⟨⟨none,.store 27 (.tmp 5) (.tmp 9),none⟩,[]⟩]) (.seq (.reg [⟨⟨some 6,.alloc 125,none⟩,[]⟩]) (.seq (.reg [⟨⟨some 10,.makeFunc (Fn.func 123) #[] #[.tmp 5,.tmp 1,.tmp 4,.tmp 6],none⟩,[]⟩,⟨⟨none,.store 125 (.tmp 6) (.tmp 10),none⟩,[]⟩]) (.seq (.reg [⟨⟨some 11,.load 125 (.tmp 6),none⟩,[]⟩,⟨⟨some 12,.fieldAddr 26 (.tmp 1) 0,none⟩,[]⟩,⟨⟨some 13,.load 3 (.tmp 12),none⟩,[]⟩,⟨⟨some 14,.call ⟨(.value (.func 112)),#[.tmp 13],#[3]⟩,none⟩,[⟨some 11,.load 125 (.tmp 6),none⟩]⟩,
 ⟨⟨some 15,.call ⟨(.value (.tmp 11)),#[(.const (.int .i64 0)),.tmp 14],#[3,117]⟩,none⟩,[]⟩,
  ⟨⟨some 7,.assign (.tmp 15),none⟩,[]⟩]) (.seq (.reg [⟨⟨some 16,.load 32 (.tmp 4),none⟩,[]⟩,
  ⟨⟨some 17,.move (.tmp 7),none⟩,[]⟩,
  ⟨⟨some 18,.move (.tmp 17),none⟩,[]⟩,
  ⟨⟨some 19,.load 32 (.tmp 4),some (18,true)⟩,[]⟩,
  ⟨⟨some 20,.call ⟨(.builtin .len),#[.tmp 19],#[32]⟩,some (18,true)⟩,[]⟩,
  ⟨⟨some 21,.binOp .gtr 3 (.tmp 20) (.const (.int .i64 0)) 3,some (18,true)⟩,[]⟩,
  ⟨⟨some 22,.pick (.tmp 18) (.tmp 21) (.const (.bool false)),none⟩,[]⟩,
  ⟨⟨some 2,.assign (.tmp 16),none⟩,[]⟩,
  ⟨⟨some 3,.assign (.tmp 22),none⟩,[]⟩]) .ret))))))
theorem in54:InT Tryz.prog 54 1 [.tmp 2,.tmp 3] cd54:=InT.mk (by kernel_rfl) [(4,[(0,false),(1,false),(2,false),(3,true),(4,true),(5,false)]),(5,[(0,false),(1,false),(2,false),(3,false),(4,false),(5,false),(6,false),(7,false),(8,false)])] Tryz.func54 rfl (by kernel_rfl) (by kernel_rfl) (of_decide_eq_true (by kernel_rfl)) (by kernel_rfl)
end Go.Proofs.YtlcipphiflcaiaaGreat.Ai
namespace Go.Proofs.YtlcipphiflcaiaaGreat.Ai
open Go Go.RowKit
theorem CloneJ_c (v:Value)(xs:List Int)(H:AH)(hr:Row 3 H v xs)(hlen:xs.length<=1099511627776):ACalls Tryz.prog 124 [v] H fun r H'=>Own 3 H H' r xs/\H<+:H':=by
 refine in124 rfl ?_
 intro Q hQ
 obtain ⟨p,e⟩:=hr.shape
 subst e
 simp (disch:=omega) only [cd124,SS,eq_self,reduceIte,reduceCtorEq,Nat.reduceEqDiff,Nat.reduceAdd]
 refine brH.intro (fun g=>?_) (fun g=>?_) <;> simp (disch:=omega) only [SS,eq_self,reduceIte,reduceCtorEq,Nat.reduceEqDiff,Nat.reduceAdd]
 ·refine hQ _ _ _ ?_
  simp (disch:=omega) only [SS,eq_self,reduceIte,reduceCtorEq,Nat.reduceEqDiff,Nat.reduceAdd]
  have:xs=[]:=by
   rcases hr with h | ⟨o,k,vs,ro,h1,_⟩
   ·exact h.2
   ·cases p with
    | none=>cases h1
    | some p=>cases g
  exact ⟨.inl ⟨rfl,this⟩,List.prefix_refl _⟩
 ·have hp:=List.prefix_append H [AObj.cells [] 3 false]
  have ho:Own 3 H (H ++ [AObj.cells [] 3 false]) (.slice (some ⟨H.length,0,none⟩) 0 0) []:=.inr ⟨H.length,rfl,Nat.le_refl _,at_new ..⟩
  obtain ⟨v',H2,k1,k2,k3,_⟩:=ho.app (P:=Tryz.prog) (t:=117) Tryz.underlying117 cs3 (by rw [by3];decide) zk3 (hr.pre hp) hp (by simp;omega)
  simp (disch:=omega) only [k1,SS,eq_self,reduceIte,reduceCtorEq,Nat.reduceEqDiff,Nat.reduceAdd]
  refine hQ _ _ _ ?_
  simp (disch:=omega) only [k2.row.tup,SS,eq_self,reduceIte,reduceCtorEq,Nat.reduceEqDiff,Nat.reduceAdd]
  exact ⟨k2,k3⟩
theorem agT:isAggA Tryz.prog 125=some false:=by kernel_rfl
theorem csT:Tryz.prog.cellsOf 125=1:=by kernel_rfl
abbrev treClo (pe pg po pf:Nat):Value:=.func (.func 123) #[] (List.toArray [.pointer (some ⟨pe,0,none⟩),.pointer (some ⟨pg,0,none⟩),.pointer (some ⟨po,0,none⟩),.pointer (some ⟨pf,0,none⟩)])
structure TreR (H:AH) (n:Nat) (v:Value) (es:List (Int × Int)) (pe pg po pf:Nat):Prop where
 g:H[pg]?=some (.cells [.int .i64 (n:Int),v] 26 false)
 c:H[pf]?=some (.cells [treClo pe pg po pf] 125 false)
 es:RowP 115 H v es
theorem LSt.less {HB:AH}{fx:List (Nat × AObj)}{x:Nat × AObj}{pe:Nat}{F:Nat->Prop}{H:AH}{ed:List Int}(h:LSt HB (x :: fx) pe F H ed):LSt HB fx pe F H ed:=by
 obtain ⟨oe,zs,e1,e2,e3,e4,e5,e6,e7⟩:=h.e
 exact ⟨fun q hq=>h.fix q (by simp [hq]),⟨oe,zs,e1,e2,e3,e4,e5,fun q hq=>e6 q (by simp [hq]),e7⟩,h.out,h.lo,h.pre⟩
theorem LSt.more {HB:AH}{fx:List (Nat × AObj)}{pe:Nat}{F:Nat->Prop}{H:AH}{ed:List Int}(h:LSt HB fx pe F H ed){o:Nat}{y:AObj}(ho:H[o]?=some y)(hF:¬ F o)(hpe:o ≠ pe)(hw:∀ w,cellA H pe 0=some w->o ≠ rowO w):LSt HB ((o,y) :: fx) pe F H ed:=by
 obtain ⟨oe,zs,e1,e2,e3,e4,e5,e6,e7⟩:=h.e
 have hoe:o ≠ oe:=hw _ (cell_of e1 0)
 refine ⟨fun q hq=>?_,⟨oe,zs,e1,e2,e3,e4,e5,fun q hq=>?_,e7⟩,h.out,h.lo,h.pre⟩
 ·rcases List.mem_cons.1 hq with rfl | hq
  ·exact ⟨ho,hF,hpe⟩
  ·exact h.fix q hq
 ·rcases List.mem_cons.1 hq with rfl | hq
  ·exact hoe
  ·exact e6 q hq
theorem stored0 {t:TypeId}{o:Nat}{p:Option Addr}{n c:Nat}{H H':AH}(h:storeA Tryz.prog t (.pointer (some ⟨o,0,none⟩)) (.slice p n c) H=some H'):cellA H' o 0=some (.slice p n c):=by
 simp only [storeA] at h
 split at h
 ·rename_i vs e hv
  split at h
  ·rename_i hc
   have h':=Option.some.inj h
   subst h'
   simp only [cellA]
   rw [List.getElem?_set_self (at_lt hv)]
   show (putAt vs 0 [Value.slice p n c])[0]?=_
   unfold putAt
   rfl
  ·cases h
 ·cases h
theorem treRec_c {HB:AH}{n:Nat}{es:List (Int × Int)}(hn:1<=n)(hg:Grd (n:Int) es)(pe pg po pf:Nat)(v:Value) :
  ∀ (k:Nat) (T:List Int) (fx:List (Nat × AObj)) (oj:Nat) (J:List Int) (out:List (List Int)) (F:Nat->Prop) (H:AH),
   k<=es.length->Beg n es k T->JR es T n J->(oj,AObj.cells (ints J) 3 false) ∈ fx->(∀ {F:Nat->Prop} {H:AH} {ed:List Int},LSt HB fx pe F H ed->TreR H n v es pe pg po pf)->out.length<=300->IOut HB po out F H->LSt HB fx pe F H T ->
   ACalls Tryz.prog 123 [.int .i64 ((es.length - k:Nat):Int),.slice (some ⟨oj,0,none⟩) n n,.pointer (some ⟨pe,0,none⟩),.pointer (some ⟨pg,0,none⟩),.pointer (some ⟨po,0,none⟩),.pointer (some ⟨pf,0,none⟩)] H fun r H' =>
    r=.bool (decide ((out ++ grA es n k T).length<=300))/\∃ (F':Nat->Prop) (ed':List Int),IOut HB po ((out ++ grA es n k T).take 301) F' H'/\LSt HB fx pe F' H' ed'/\((out ++ grA es n k T).length<=300->ed'=T):=by
 have h28:es.length<=28:=grd_len hg
 have hn8:n<=8:=by have:=hg.1;omega
 intro k
 induction k using Nat.strongRecOn with
 | ind k ih =>
  intro T fx oj J out F H hk hB hJ hfx hR hol hO hL
  have hTn:=hB.len
  obtain ⟨E,hE⟩:∃ E,E=es.length - k:=⟨_,rfl⟩
  rw [<- hE]
  refine in123 rfl ?_
  intro Q hQ
  rw [cd123]
  let SL:Sl->Prop:=fun s=>s 0=.int .i64 (E:Int)/\s 1=.slice (some ⟨oj,0,none⟩) n n/\s 2=.pointer (some ⟨pe,0,none⟩)/\s 3=.pointer (some ⟨pg,0,none⟩)/\s 4=.pointer (some ⟨po,0,none⟩)/\s 5=.pointer (some ⟨pf,0,none⟩)
  have q:=hR hL
  obtain ⟨w,hw1,hw2,hw3,hw4⟩:=hL.row
  have qg:=cell_of q.g
  have ql:=q.es.len (P:=Tryz.prog) Tryz.underlying24
  refine cutC (fun s H'=>SL s/\H=H') (fun c hc=>?_) ?_
  ·simp (disch:=omega) only [SS,eq_self,reduceIte,reduceCtorEq,Nat.reduceEqDiff,Nat.reduceAdd]
   exact hc _ _ ⟨⟨rfl,rfl,rfl,rfl,rfl,rfl⟩,rfl⟩
  rintro s _ ⟨⟨s0,s1,s2,s3,s4,s5⟩,rfl⟩
  refine cutC (fun s H'=>SL s/\H=H'/\T.length+1 ≠ n) (fun c hc=>?_) ?_
  ·simp (disch:=omega) only [s2,s3,hw1,hw2.len Tryz.underlying27,qg,wrap64,SS,eq_self,reduceIte,reduceCtorEq,Nat.reduceEqDiff,Nat.reduceAdd]
   refine brD.intro (fun e=>?_) (fun e=>?_)
   rotate_left
   ·simp (disch:=omega) only [SS,eq_self,reduceIte,reduceCtorEq,Nat.reduceEqDiff,Nat.reduceAdd]
    exact hc _ _ ⟨⟨s0,s1,s2,s3,s4,s5⟩,rfl,by omega⟩
   have hfull:grA es n k T=[T]:=grA_full (by omega) k
   rw [hfull] at hQ
   have hO1:=hO
   obtain ⟨o,us1,hpo,_⟩:=hO1
   simp (disch:=omega) only [s2,s4,cell_of hpo,hw1,SS,eq_self,reduceIte,reduceCtorEq,Nat.reduceEqDiff,Nat.reduceAdd]
   refine CallH.by (Clone_c w T H hw2 (by omega)) ?_
   rintro c2 C ⟨hc2,pC⟩
   obtain ⟨w2,H3,H4,p0,p1,p2,p3,p4,F',hO4,hF4,hk4⟩:=hO.push hL.pre pC hc2 (by omega)
   have hww:=p0.symm.trans (cell_of hpo 0)
   simp only [List.getElem?_cons_zero,Option.some.injEq,Value.slice.injEq] at hww
   obtain ⟨hww,_,_⟩:=hww
   subst hww
   have hO5:=hO4
   obtain ⟨o4,us4,hpo4,_⟩:=hO5
   simp (disch:=omega) only [s4,p1,p2,p3,p4,cell_of hpo4,SS,eq_self,reduceIte,reduceCtorEq,Nat.reduceEqDiff,Nat.reduceAdd]
   refine hQ _ _ _ ?_
   simp (disch:=omega) only [SS,eq_self,reduceIte,reduceCtorEq,Nat.reduceEqDiff,Nat.reduceAdd]
   have e301:(out ++ [T]).take 301=out ++ [T]:=List.take_of_length_le (by simp;omega)
   refine ⟨?_,F',T,by rw [e301];exact hO4,hL.cb (fun o ho=>(hO.live ho).2) hF4 hk4,fun _=>rfl⟩
   congr 1
   exact decide_eq_decide.2 ⟨fun h=>by omega,fun h=>by omega⟩
  rintro s _ ⟨⟨s0,s1,s2,s3,s4,s5⟩,rfl,hne⟩
  refine cutC (fun s H'=>SL s/\H=H'/\n<=T.length+1+k) (fun c hc=>?_) ?_
  ·simp (disch:=omega) only [s0,s2,s3,hw1,hw2.len Tryz.underlying27,qg,ql,wrap64,SS,eq_self,reduceIte,reduceCtorEq,Nat.reduceEqDiff,Nat.reduceAdd]
   refine brD.intro (fun e=>?_) (fun e=>?_)
   rotate_left
   ·simp (disch:=omega) only [SS,eq_self,reduceIte,reduceCtorEq,Nat.reduceEqDiff,Nat.reduceAdd]
    exact hc _ _ ⟨⟨s0,s1,s2,s3,s4,s5⟩,rfl,by omega⟩
   have hfew:grA es n k T=[]:=grA_few k T (by omega)
   rw [hfew,List.append_nil] at hQ
   simp (disch:=omega) only [SS,eq_self,reduceIte,reduceCtorEq,Nat.reduceEqDiff,Nat.reduceAdd]
   refine hQ _ _ _ ?_
   simp (disch:=omega) only [SS,eq_self,reduceIte,reduceCtorEq,Nat.reduceEqDiff,Nat.reduceAdd]
   have e301:out.take 301=out:=List.take_of_length_le (by omega)
   exact ⟨by rw [decide_eq_true hol],F,T,by rw [e301];exact hO,hL,fun _=>rfl⟩
  rintro s _ ⟨⟨s0,s1,s2,s3,s4,s5⟩,rfl,hge⟩
  obtain ⟨k',rfl⟩:∃ k',k=k'+1:=⟨k - 1,by omega⟩
  have heN:((es.length - (k'+1):Nat):Int)+1=((es.length - k':Nat):Int):=by omega
  have heb:(0:Int)<=((es.length - (k'+1):Nat):Int)/\((es.length - (k'+1):Nat):Int)<es.length:=by omega
  have hen:=en_eq hg heb
  have hgr:grA es n (k'+1) T=(if jnB es n T (enA es ((es.length - (k'+1):Nat):Int)) (enB es ((es.length - (k'+1):Nat):Int))=true then [] else grA es n k' (T ++ [((es.length - (k'+1):Nat):Int)])) ++ grA es n k' T:=by
   rw [grA,if_neg hne]
  have hsnoc:=hB.snoc hg hk hne
  have hjB:=jnB_iff hg hB.ed (i:=enA es ((es.length - (k'+1):Nat):Int)) (j:=enB es ((es.length - (k'+1):Nat):Int)) (by omega) (by omega)
  rw [Int.toNat_natCast] at hen
  rw [<- hE] at heN heb hen hgr hsnoc hjB
  refine cutC (fun s H'=>SL s/\∃ (out':List (List Int)) (F':Nat->Prop),out'.length<=300/\out' ++ grA es n k' T=out ++ grA es n (k'+1) T/\IOut HB po out' F' H'/\LSt HB fx pe F' H' T) (fun c hc=>?_) ?_
  ·have hJl:J.length=n:=by obtain ⟨rt,d,h1,_⟩:=hJ;exact h1.len
   have hojH:=(hL.fix _ hfx).1
   have hrJ:Row 3 H (.slice (some ⟨oj,0,none⟩) n n) J:=.inr ⟨oj,0,ints J,false,by rw [hJl],hojH,by rw [ints_len];omega,by rw [List.drop_zero,List.take_of_length_le (by rw [ints_len];exact Nat.le_refl _)]⟩
   simp (disch:=omega) only [s1,SS,eq_self,reduceIte,reduceCtorEq,Nat.reduceEqDiff,Nat.reduceAdd]
   refine CallH.by (CloneJ_c _ J H hrJ (by omega)) ?_
   rintro c2 C ⟨hc2,pC⟩
   obtain ⟨ow,rfl,how,hCow⟩:∃ ow,c2=.slice (some ⟨ow,0,none⟩) n n/\H.length<=ow/\C[ow]?=some (.cells (ints J) 3 false):=by
    rcases hc2 with ⟨_,q2⟩ | ⟨ow,q1,q2,q3⟩
    ·rw [q2] at hJl;simp at hJl;omega
    ·exact ⟨ow,by rw [q1,hJl],q2,q3⟩
   have qC:=pre_at pC q.g
   have rC:=q.es.pre pC
   simp (disch:=omega) only [s0,s3,cell_of qC,rC.ix Tryz.underlying24 cs115,Int.toNat_natCast,rC.ld ag115 cs115 (show E<es.length by omega),SS,eq_self,reduceIte,reduceCtorEq,Nat.reduceEqDiff,Nat.reduceAdd]
   have hj:=join_c hJ ow C hCow (E:Int) (by omega) (by omega) (by rw [Int.toNat_natCast,hen.1]) (by rw [Int.toNat_natCast,hen.1])
   rw [Int.toNat_natCast] at hj
   refine CallH.by hj ?_
   rintro _ D ⟨b,J',rfl,hb,hDow,hJ',kD⟩
   have keep:∀ (o:Nat) (y:AObj),H[o]?=some y->D[o]?=some y:=fun o y hy=>kD.2 o y (by have:=at_lt hy;omega) (pre_at pC hy)
   have lD:H.length<=D.length:=Nat.le_trans pC.length_le kD.1
   have hLD:LSt HB fx pe F D T:=hL.cb (fun o ho=>(hO.live ho).2) (fun o ho=>.inl ho) fun o y _ hy=>keep o y hy
   have hOD:=hO.keep fun o y _ hy=>keep o y hy
   simp (disch:=omega) only [SS,eq_self,reduceIte,reduceCtorEq,Nat.reduceEqDiff,Nat.reduceAdd]
   cases b with
   | false =>
    have hjn:jnB es n T (enA es (E:Int)) (enB es (E:Int))=true:=hjB.2 (Classical.byContradiction fun w=>by have:=hb.2 w;cases this)
    rw [if_pos hjn,List.nil_append] at hgr
    refine brH.intro (fun w=>by cases w) (fun _=>?_)
    simp (disch:=omega) only [SS,eq_self,reduceIte,reduceCtorEq,Nat.reduceEqDiff,Nat.reduceAdd]
    exact hc _ _ ⟨⟨s0,s1,s2,s3,s4,s5⟩,out,F,hol,by rw [hgr],hOD,hLD⟩
   | true =>
    have hnj:=hb.1 rfl
    have hjn:¬ jnB es n T (enA es (E:Int)) (enB es (E:Int))=true:=fun w=>hnj (hjB.1 w)
    rw [if_neg hjn] at hgr
    refine brH.intro (fun _=>?_) (fun w=>by cases w)
    obtain ⟨w3,H2,H3,p0,p1,p2,hL3,hk3,hl3,hk3'⟩:=hLD.push (fun o ho=>(hOD.live ho).1) (by omega) (E:Int)
    have hO3:=hOD.keep hk3
    have hwD:=hLD.row
    obtain ⟨wD,hwD1,hwD2,_,_⟩:=hwD
    have how3:H3[ow]?=some (.cells (ints J') 3 false):=by
     obtain ⟨oe,zs,e1,e2,_⟩:=hL.e
     have hpe:=at_lt e1
     have hoe:=at_lt e2
     refine hk3' ow _ (by omega) (fun w' hw'=>?_) hDow
     have e1D:=keep _ _ e1
     rw [cell_of e1D 0] at hw'
     simp only [List.getElem?_cons_zero,Option.some.injEq] at hw'
     rw [<- hw']
     show ow ≠ oe
     omega
    have hF3:¬ F ow:=fun w=>by have:=(hO.live w).1;omega
    have hpe3:ow ≠ pe:=by
     obtain ⟨oe,zs,e1,e2,_⟩:=hL.e
     have:=at_lt e1;omega
    have hL4:=hL3.more how3 hF3 hpe3 fun w hw=>by
     rw [stored0 p2] at hw
     have hw':=Option.some.inj hw
     rw [<- hw']
     show ow ≠ D.length+1
     have:=at_lt hDow
     omega
    have q3:=hR hL3
    simp (disch:=omega) only [s0,s2,s5,p0,p1,p2,ld_one agT,cell_of q3.c,wrap64,heN,SS,eq_self,reduceIte,reduceCtorEq,Nat.reduceEqDiff,Nat.reduceAdd]
    refine CallH.by (ih k' (by omega) (T ++ [(E:Int)]) _ ow J' out F H3 (by omega) (hsnoc hjn) hJ' (by simp) (fun h=>hR h.less) hol hO3 hL4) ?_
    rintro _ H4 ⟨rfl,F4,ed4,hO4,hL4',hed⟩
    have hL5:=hL4'.less
    by_cases hlen:(out ++ grA es n k' (T ++ [(E:Int)])).length<=300
    ·have hed:=hed hlen
     subst hed
     obtain ⟨w4,c4,r1,r2,H5,r3,hL6,hk6,hl6⟩:=hL5.pop
     have hO6:=hO4.keep hk6
     have e301:(out ++ grA es n k' (T ++ [(E:Int)])).take 301=out ++ grA es n k' (T ++ [(E:Int)]):=List.take_of_length_le (by omega)
     rw [e301] at hO6
     have hcl:((T.length+1:Nat):Int) - 1=(T.length:Int):=by omega
     simp (disch:=omega) only [decide_eq_true hlen,s2,r1,hcl,r2,r3,wrap64,SS,eq_self,reduceIte,reduceCtorEq,Nat.reduceEqDiff,Nat.reduceAdd]
     exact hc _ _ ⟨⟨s0,s1,s2,s3,s4,s5⟩,out ++ grA es n k' (T ++ [(E:Int)]),F4,hlen,by rw [hgr,List.append_assoc],hO6,hL6⟩
    ·simp (disch:=omega) only [decide_eq_false hlen,SS,eq_self,reduceIte,reduceCtorEq,Nat.reduceEqDiff,Nat.reduceAdd]
     refine hQ _ _ _ ?_
     simp (disch:=omega) only [SS,eq_self,reduceIte,reduceCtorEq,Nat.reduceEqDiff,Nat.reduceAdd]
     have hbig:¬ (out ++ grA es n (k'+1) T).length<=300:=by
      rw [hgr,<- List.append_assoc,List.length_append];omega
     have htk:(out ++ grA es n (k'+1) T).take 301=(out ++ grA es n k' (T ++ [(E:Int)])).take 301:=by
      rw [hgr,<- List.append_assoc,List.take_append_of_le_length (by omega)]
     refine ⟨by rw [decide_eq_false hbig],F4,ed4,by rw [htk];exact hO4,hL5,fun w=>absurd w hbig⟩
  rintro s H' ⟨⟨s0,s1,s2,s3,s4,s5⟩,out',F',hol',heq,hO',hL'⟩
  have q':=hR hL'
  simp (disch:=omega) only [s0,s1,s2,s3,s4,s5,ld_one agT,cell_of q'.c,wrap64,heN,SS,eq_self,reduceIte,reduceCtorEq,Nat.reduceEqDiff,Nat.reduceAdd]
  refine CallH.by (ih k' (by omega) T fx oj J out' F' H' (by omega) hB.skip hJ hfx hR hol' hO' hL') ?_
  rintro _ H4 ⟨rfl,F4,ed4,hO4,hL4,hed⟩
  rw [heq] at hO4 hed ⊢
  simp (disch:=omega) only [SS,eq_self,reduceIte,reduceCtorEq,Nat.reduceEqDiff,Nat.reduceAdd]
  refine hQ _ _ _ ?_
  simp (disch:=omega) only [SS,eq_self,reduceIte,reduceCtorEq,Nat.reduceEqDiff,Nat.reduceAdd]
  exact ⟨F4,ed4,hO4,hL4,hed⟩
theorem alloc_slT (H:AH):allocA Tryz.prog 27 H=some (.pointer (some ⟨H.length,0,none⟩),H ++ [.cells [.slice none 0 0] 27 false]):=by kernel_rfl
theorem alloc_llT (H:AH):allocA Tryz.prog 32 H=some (.pointer (some ⟨H.length,0,none⟩),H ++ [.cells [.slice none 0 0] 32 false]):=by kernel_rfl
theorem alloc_fT (H:AH):allocA Tryz.prog 125 H=some (.pointer (some ⟨H.length,0,none⟩),H ++ [.cells [.nilFunc] 125 false]):=by kernel_rfl
theorem mkf_4T (f:Fn)(p q r t:Option Addr):makeFuncA f [] [.pointer p,.pointer q,.pointer r,.pointer t]=some (.func f #[] (List.toArray [.pointer p,.pointer q,.pointer r,.pointer t])):=rfl
def objsT (G:AH)(p:Nat->Bool):List (Nat × AObj):=(List.range G.length).filterMap fun i=>if p i=true then G[i]?.map fun y=>(i,y) else none
theorem objsT_mem {G:AH}{p:Nat->Bool}{q:Nat × AObj}:q ∈ objsT G p↔p q.1=true/\G[q.1]?=some q.2:=by
 unfold objsT
 rw [List.mem_filterMap]
 constructor
 ·rintro ⟨i,hi,h⟩
  split at h
  ·rename_i hp
   rw [Option.map_eq_some_iff] at h
   obtain ⟨y,h1,rfl⟩:=h
   exact ⟨hp,h1⟩
  ·cases h
 ·rintro ⟨h1,h2⟩
  refine ⟨q.1,List.mem_range.2 (at_lt h2),?_⟩
  rw [if_pos h1,h2];rfl
theorem trees_c (n:Nat)(hn:1<=n)(v:Value)(es:List (Int × Int))(H:AH)(hr:RowP 115 H v es)(hg:Grd (n:Int) es) :
  ACalls Tryz.prog 54 [.agg (List.toArray [.int .i64 (n:Int),v])] H fun r H'=>∃ a,r=.tuple (List.toArray [a,.bool (decide ((treA n es).length<=300) && decide (0<(treA n es).length))])/\InL H.length H'.length 27 3 H' a ((treA n es).take 301)/\H<+:H':=by
 have h28:es.length<=28:=grd_len hg
 have hn8:n<=8:=by have:=hg.1;omega
 refine in54 rfl ?_
 intro Q hQ
 simp (disch:=omega) only [cd54,hr.boxG,SS,eq_self,reduceIte,reduceCtorEq,Nat.reduceEqDiff,Nat.reduceAdd]
 generalize hA:H ++ [AObj.cells [.int .i64 n,v] 26 false]=A
 have pA:H<+:A:=by rw [<- hA];exact List.prefix_append _ _
 have cA:A[H.length]?=some (.cells [.int .i64 n,v] 26 false):=by rw [<- hA];exact at_new ..
 have rA:=hr.pre pA
 have lA:A.length=H.length+1:=by rw [<- hA];simp
 generalize hB:A ++ [AObj.cells [] 27 false]=B
 have pB:A<+:B:=by rw [<- hB];exact List.prefix_append _ _
 have cB:B[A.length]?=some (.cells [] 27 false):=by rw [<- hB];exact at_new ..
 have lB:B.length=A.length+1:=by rw [<- hB];simp
 generalize hC:B ++ [AObj.cells [] 3 false]=C
 have pC:B<+:C:=by rw [<- hC];exact List.prefix_append _ _
 have cC:C[B.length]?=some (.cells (ints []) 3 false):=by rw [<- hC];exact at_new ..
 have lC:C.length=B.length+1:=by rw [<- hC];simp
 simp (disch:=omega) only [alloc_llT,alloc_slT,SS,eq_self,reduceIte,reduceCtorEq,Nat.reduceEqDiff,Nat.reduceAdd]
 generalize hD:C ++ [AObj.cells [.slice none 0 0] 32 false]=D
 have pD:C<+:D:=by rw [<- hD];exact List.prefix_append _ _
 have cD:D[C.length]?=some (.cells [.slice none 0 0] 32 false):=by rw [<- hD];exact at_new ..
 have lD:D.length=C.length+1:=by rw [<- hD];simp
 generalize hE:D ++ [AObj.cells [.slice none 0 0] 27 false]=E
 have pE:D<+:E:=by rw [<- hE];exact List.prefix_append _ _
 have cE:E[D.length]?=some (.cells [.slice none 0 0] 27 false):=by rw [<- hE];exact at_new ..
 have lE:E.length=D.length+1:=by rw [<- hE];simp
 have s1:=st_at (P:=Tryz.prog) (t:=32) (i:=0) (y:=.slice (some ⟨A.length,0,none⟩) 0 0) cs32 (pre_at pE cD) (by show 0<1;decide) rfl rfl
 rw [List.set_cons_zero] at s1
 generalize hE3:E.set C.length (.cells [.slice (some ⟨A.length,0,none⟩) 0 0] 32 false)=E3 at *
 have at3:∀ {o y},o ≠ C.length->E[o]?=some y->E3[o]?=some y:=fun ho hy=>by rw [<- hE3,List.getElem?_set_ne (fun e=>ho e.symm)];exact hy
 have l3:E3.length=E.length:=by rw [<- hE3];simp
 have c3:E3[C.length]?=some (.cells [.slice (some ⟨A.length,0,none⟩) 0 0] 32 false):=by rw [<- hE3,List.getElem?_set_self (by omega)]
 have s2:=st_at (P:=Tryz.prog) (t:=27) (i:=0) (y:=.slice (some ⟨B.length,0,none⟩) 0 0) cs27 (at3 (by omega) cE) (by show 0<1;decide) rfl rfl
 rw [List.set_cons_zero] at s2
 generalize hE4:E3.set D.length (.cells [.slice (some ⟨B.length,0,none⟩) 0 0] 27 false)=E4 at *
 have at4:∀ {o y},o ≠ D.length->E3[o]?=some y->E4[o]?=some y:=fun ho hy=>by rw [<- hE4,List.getElem?_set_ne (fun e=>ho e.symm)];exact hy
 have l4:E4.length=E3.length:=by rw [<- hE4];simp
 have c4:E4[D.length]?=some (.cells [.slice (some ⟨B.length,0,none⟩) 0 0] 27 false):=by rw [<- hE4,List.getElem?_set_self (by omega)]
 have old4:∀ {o y},o<C.length->C[o]?=some y->E4[o]?=some y:=fun ho hy=>at4 (by omega) (at3 (by omega) (pre_at (pD.trans pE) hy))
 have pC4:C<+:E4:=prefix_of fun o y hy=>old4 (at_lt hy) hy
 have d4:=at4 (by omega) c3
 have st11:=st_at (P:=Tryz.prog) (t:=125) (i:=0) (y:=treClo D.length H.length C.length E4.length) csT (at_new E4 (.cells [.nilFunc] 125 false)) (by show 0<1;decide) rfl rfl
 rw [set_new,List.set_cons_zero] at st11
 simp (disch:=omega) only [s1,s2,alloc_fT,mkf_4T,st11,ld_one agT,cell_new,SS,eq_self,reduceIte,reduceCtorEq,Nat.reduceEqDiff,Nat.reduceAdd]
 generalize hF:E4 ++ [AObj.cells [treClo D.length H.length C.length E4.length] 125 false]=F
 have pF:E4<+:F:=by rw [<- hF];exact List.prefix_append _ _
 have cF:F[E4.length]?=some (.cells [treClo D.length H.length C.length E4.length] 125 false):=by rw [<- hF];exact at_new ..
 have lF:F.length=E4.length+1:=by rw [<- hF];simp
 have pBC:=pB.trans pC
 have pHF:=pA.trans (pBC.trans (pC4.trans pF))
 simp (disch:=omega) only [cell_of (pre_at (pBC.trans (pC4.trans pF)) cA),SS,eq_self,reduceIte,reduceCtorEq,Nat.reduceEqDiff,Nat.reduceAdd]
 refine CallH.by (newJoiner_c n F (by omega)) ?_
 rintro jv K ⟨hj,pK⟩
 have lK:=pK.length_le
 obtain ⟨oj,rfl,hoj,hKj⟩:∃ oj,jv=.slice (some ⟨oj,0,none⟩) n n/\F.length<=oj/\K[oj]?=some (.cells (ints (alls n)) 3 false):=by
  rcases hj with ⟨_,q2⟩ | ⟨oj,q1,q2,q3⟩
  ·have:=congrArg List.length q2
   simp [alls] at this
   omega
  ·refine ⟨oj,?_,q2,q3⟩
   rw [q1]
   simp [alls]
 have pHK:=pHF.trans pK
 have pFK:=pF.trans pK
 have gpo:=pre_at pFK d4
 have goo:=pre_at pFK (pre_at pC4 (pre_at pC cB))
 have gpe:=pre_at pFK c4
 have goe:=pre_at pFK (pre_at pC4 cC)
 have gg:=pre_at pFK (pre_at pC4 (pre_at pBC cA))
 have gf:=pre_at pK cF
 have nob:∀ j,j ≠ A.length->¬ Obs A.length [] [] j:=by
  rintro j hj (e | ⟨i,hi,_⟩)
  ·exact hj e
  ·simp at hi
 have hO:IOut H C.length [] (fun j=>j=C.length∨Obs A.length [] [] j) K :=
  ⟨A.length,[],gpo,⟨by omega,by omega,goo,Nat.le_refl _,fun i hi=>absurd hi (by simp),fun i j _ hi _=>absurd hi (by simp)⟩,by omega,nob _ (by omega),rfl⟩
 have nF:∀ {j},j ≠ C.length->j ≠ A.length->¬ ((fun j=>j=C.length∨Obs A.length [] [] j) j):=fun h1 h2 h=>h.elim h1 (nob _ h2)
 have hLS:LSt H (objsT K fun i=>decide (i ≠ C.length/\i ≠ A.length/\i ≠ D.length/\i ≠ B.length)) D.length (fun j=>j=C.length∨Obs A.length [] [] j) K []:=by
  refine ⟨fun q hq=>?_,⟨B.length,[],gpe,goe,rfl,nF (by omega) (by omega),by omega,fun q hq=>?_,by omega⟩,nF (by omega) (by omega),by omega,pHK⟩
  ·obtain ⟨q1,q2⟩:=objsT_mem.1 hq
   have q1:=of_decide_eq_true q1
   exact ⟨q2,nF q1.1 q1.2.1,q1.2.2.1⟩
  ·obtain ⟨q1,_⟩:=objsT_mem.1 hq
   exact (of_decide_eq_true q1).2.2.2
 have hR:∀ {F':Nat->Prop} {H':AH} {ed:List Int},LSt H (objsT K fun i=>decide (i ≠ C.length/\i ≠ A.length/\i ≠ D.length/\i ≠ B.length)) D.length F' H' ed->TreR H' n v es D.length H.length C.length E4.length:=by
  intro F' H' ed h
  have keep:∀ {j:Nat} {y:AObj},j ≠ C.length->j ≠ A.length->j ≠ D.length->j ≠ B.length->K[j]?=some y->H'[j]?=some y:=fun h1 h2 h3 h4 hy=>(h.fix (_,_) (objsT_mem.2 ⟨decide_eq_true ⟨h1,h2,h3,h4⟩,hy⟩)).1
  exact ⟨keep (by omega) (by omega) (by omega) (by omega) gg,keep (by omega) (by omega) (by omega) (by omega) gf,hr.pre h.pre⟩
 have hcall:=treRec_c hn hg D.length H.length C.length E4.length v es.length [] _ oj (alls n) [] _ K (Nat.le_refl _) (Beg.nil hn es) (JR.zero es n) (objsT_mem.2 ⟨decide_eq_true ⟨by omega,by omega,by omega,by omega⟩,hKj⟩) hR (by simp) hO hLS
 have e0:((es.length - es.length:Nat):Int)=0:=by rw [Nat.sub_self];rfl
 rw [e0] at hcall
 simp (disch:=omega) only [ld_one agT,cell_of gf,SS,eq_self,reduceIte,reduceCtorEq,Nat.reduceEqDiff,Nat.reduceAdd]
 refine CallH.by hcall ?_
 rintro _ M ⟨rfl,F2,ed2,hO2,hL2,_⟩
 have etr:treA n es=grA es n es.length []:=rfl
 rw [<- etr,List.nil_append] at hO2 ⊢
 obtain ⟨o2,us2,hpo2,hU2,_⟩:=hO2
 generalize treA n es=tr at *
 have pHM:=hL2.pre
 by_cases hl:tr.length<=300
 ·have e301:tr.take 301=tr:=List.take_of_length_le (by omega)
  simp (disch:=omega) only [cell_of hpo2,decide_eq_true hl,SS,eq_self,reduceIte,reduceCtorEq,Nat.reduceEqDiff,Nat.reduceAdd]
  refine hQ _ _ _ ?_
  simp (disch:=omega) only [SS,eq_self,reduceIte,reduceCtorEq,Nat.reduceEqDiff,Nat.reduceAdd]
  refine ⟨_,?_,hU2.inl,pHM⟩
  have e2:decide ((0:Int)<(tr.length:Int))=decide (0<tr.length):=decide_eq_decide.2 ⟨fun h=>by omega,fun h=>by omega⟩
  rw [e301,decide_eq_true hl,Bool.true_and,e2]
 ·simp (disch:=omega) only [cell_of hpo2,decide_eq_false hl,SS,eq_self,reduceIte,reduceCtorEq,Nat.reduceEqDiff,Nat.reduceAdd]
  refine hQ _ _ _ ?_
  simp (disch:=omega) only [SS,eq_self,reduceIte,reduceCtorEq,Nat.reduceEqDiff,Nat.reduceAdd]
  exact ⟨_,by rw [decide_eq_false hl];rfl,hU2.inl,pHM⟩
def cd118:Cd:=(.seq (.reg [⟨⟨some 4,.assign (.const (.slice none 0 0)),none⟩,[]⟩]) (.seq (.reg [⟨⟨some 5,.assign (.const (.int .i64 0)),none⟩,[]⟩]) (.seq (.block 0 (.loop (.seq (.seq (.reg [⟨⟨some 6,.move (.tmp 5),none⟩,[]⟩,⟨⟨some 7,.move (.tmp 0),none⟩,[]⟩,⟨⟨some 8,.call ⟨(.builtin .len),#[.tmp 7],#[27]⟩,none⟩,[]⟩,⟨⟨some 9,.binOp .lss 3 (.tmp 6) (.tmp 8) 3,none⟩,[]⟩,⟨⟨some 10,.move (.tmp 9),none⟩,[]⟩,⟨⟨some 11,.move (.tmp 0),some (10,true)⟩,[]⟩,⟨⟨some 12,.move (.tmp 5),some (10,true)⟩,[]⟩,⟨⟨some 13,.indexAddr 27 (.tmp 11) (.tmp 12),some (10,true)⟩,[]⟩,⟨⟨some 14,.load 3 (.tmp 13),some (10,true)⟩,[]⟩,⟨⟨some 15,.move (.tmp 1),some (10,true)⟩,[]⟩,⟨⟨some 16,.binOp .lss 3 (.tmp 14) (.tmp 15) 3,some (10,true)⟩,[]⟩,⟨⟨some 17,.pick (.tmp 10) (.tmp 16) (.const (.bool false)),none⟩,[]⟩]) (.cond (.tmp 17) .skip (.exit 0))) (.block 1 (.reg [⟨⟨some 18,.move (.tmp 5),none⟩,[]⟩,
 ⟨⟨some 19,.binOp .add 3 (.tmp 18) (.const (.int .i64 1)) 3,none⟩,[]⟩,⟨⟨some 5,.assign (.tmp 19),none⟩,[]⟩]))))) (.seq (.seq (.reg [⟨⟨some 20,.move (.tmp 5),none⟩,[]⟩,⟨⟨some 21,.move (.tmp 0),none⟩,[]⟩,⟨⟨some 22,.call ⟨(.builtin .len),#[.tmp 21],#[27]⟩,none⟩,[]⟩,⟨⟨some 23,.binOp .lss 3 (.tmp 20) (.tmp 22) 3,none⟩,[]⟩,⟨⟨some 24,.move (.tmp 23),none⟩,[]⟩,⟨⟨some 25,.move (.tmp 0),some (24,true)⟩,[]⟩,⟨⟨some 26,.move (.tmp 5),some (24,true)⟩,[]⟩,⟨⟨some 27,.indexAddr 27 (.tmp 25) (.tmp 26),some (24,true)⟩,[]⟩,⟨⟨some 28,.load 3 (.tmp 27),some (24,true)⟩,[]⟩,⟨⟨some 29,.move (.tmp 1),some (24,true)⟩,[]⟩,⟨⟨some 30,.binOp .eql 3 (.tmp 28) (.tmp 29) 3,some (24,true)⟩,[]⟩,
 ⟨⟨some 31,.pick (.tmp 24) (.tmp 30) (.const (.bool false)),none⟩,[]⟩]) (.cond (.tmp 31) (.seq (.reg [⟨⟨some 32,.move (.tmp 0),none⟩,[]⟩,⟨⟨some 4,.assign (.tmp 32),none⟩,[]⟩]) .ret) .skip)) (.seq (.reg [⟨⟨some 33,.buildSlice 27 0 #[],none⟩,[]⟩,⟨⟨some 34,.move (.tmp 0),none⟩,[]⟩,⟨⟨some 35,.move (.tmp 5),none⟩,[]⟩,⟨⟨some 36,.slice 27 (.tmp 34) none (some (.tmp 35)) none,none⟩,[]⟩,⟨⟨some 38,.move (.tmp 1),none⟩,[]⟩,⟨⟨some 39,.buildSlice 27 1 #[(0,.tmp 38)],none⟩,[]⟩,⟨⟨some 41,.move (.tmp 0),none⟩,[]⟩,⟨⟨some 42,.move (.tmp 5),none⟩,[]⟩,⟨⟨some 43,.slice 27 (.tmp 41) (some (.tmp 42)) none none,none⟩,[]⟩,⟨⟨some 37,.call ⟨(.builtin .append),#[.tmp 33,.tmp 36],#[27,27]⟩,none⟩,[⟨some 43,.slice 27 (.tmp 41) (some (.tmp 42)) none none,none⟩,⟨some 39,.buildSlice 27 1 #[(0,.tmp 38)],none⟩]⟩,⟨⟨some 40,.call ⟨(.builtin .append),#[.tmp 37,.tmp 39],#[27,27]⟩,none⟩,[⟨some 43,.slice 27 (.tmp 41) (some (.tmp 42)) none none,none⟩]⟩,
 ⟨⟨some 44,.call ⟨(.builtin .append),#[.tmp 40,.tmp 43],#[27,27]⟩,none⟩,[]⟩,
  ⟨⟨some 4,.assign (.tmp 44),none⟩,[]⟩]) .ret)))))
theorem in118:InT Tryz.prog 118 2 [.tmp 4] cd118:=InT.mk (by kernel_rfl) [(6,[(0,false),(1,false),(2,false),(3,false),(5,false),(6,false),(8,false),(9,false),(10,false),(4,true),(7,true),(11,true),(12,false)])] Tryz.func118 rfl (by kernel_rfl) (by kernel_rfl) (of_decide_eq_true (by kernel_rfl)) (by kernel_rfl)
end Go.Proofs.YtlcipphiflcaiaaGreat.Ai
namespace Go.Proofs.YtlcipphiflcaiaaGreat.Ai
open Go Go.RowKit
theorem l1Put_c (v:Value)(l:List Int)(x:Int)(H:AH)(hr:Row 3 H v l)(hlen:l.length<=1000000)(hx:x ∉ l) :
  ACalls Tryz.prog 118 [v,.int .i64 x] H fun r H'=>Own 3 H H' r (put l x)/\H<+:H':=by
 refine in118 rfl ?_
 intro Q hQ
 simp (disch:=omega) only [cd118,SS,eq_self,reduceIte,reduceCtorEq,Nat.reduceEqDiff,Nat.reduceAdd]
 refine LoopH.by (fun m s H'=>∃ i,m+i=l.length/\s 0=v/\s 1=.int .i64 x/\s 5=.int .i64 ((i:Nat):Int)/\H=H'/\∀ j,j<i->l.getD j 0<x) l.length ?_ ?_
 ·exact ⟨0,by simp,rfl,rfl,rfl,rfl,by omega⟩
 ·rintro m s H' ⟨i,hm,h0,h1,h5,rfl,hlt⟩
  have fin:(i<l.length->x<=l.getD i 0)->put l x=l.take i ++ x :: l.drop i:=by
   intro h
   rw [putAt_eq0 l x i (by omega) hlt h,if_neg]
   rintro ⟨hi,e⟩
   apply hx
   have:l.getD i 0=l[i]:=by simp [hi]
   rw [<- e,this];exact List.getElem_mem hi
  have last:(i<l.length->x<=l.getD i 0)->∀ s':Sl,s' 0=v->s' 1=.int .i64 x->s' 5=.int .i64 ((i:Nat):Int)->True:=fun _ _ _ _ _=>trivial
  have hp1:=List.prefix_append H [AObj.cells [] 3 false]
  have hp2:H<+:H ++ [AObj.cells [] 3 false] ++ [AObj.cells [.int .i64 x] 3 false]:=pre_app hp1 _
  have sl1:∀ H1,H<+:H1->sliceA Tryz.prog 27 v none (some (.int .i64 ((i:Nat):Int))) none H1=some (subV v 0 i)/\Row 3 H1 (subV v 0 i) (l.take i):=by
   intro H1 hp
   have h:=(hr.pre hp).slice Tryz.underlying27 cs3 (lo:=none) (hi:=some (.int .i64 ((i:Nat):Int))) lo_none (bound_some (by omega) _) (by omega) (by simp;omega)
   simp only [Int.toNat_natCast,List.drop_zero,Nat.sub_zero] at h
   exact ⟨h.1,h.2.1⟩
  have sl2:∀ H1,H<+:H1->sliceA Tryz.prog 27 v (some (.int .i64 ((i:Nat):Int))) none none H1=some (subV v i l.length)/\Row 3 H1 (subV v i l.length) (l.drop i):=by
   intro H1 hp
   have h:=(hr.pre hp).slice Tryz.underlying27 cs3 (lo:=some (.int .i64 ((i:Nat):Int))) (hi:=none) (bound_some (by omega) _) (hi_none _) (by simp;omega) (Nat.le_refl _)
   simp only [Int.toNat_natCast] at h
   refine ⟨h.1,?_⟩
   have e:(l.drop i).take (l.length - i)=l.drop i:=List.take_of_length_le (by simp)
   rw [<- e];exact h.2.1
  have ho0:Own 3 H (H ++ [AObj.cells [] 3 false] ++ [AObj.cells [.int .i64 x] 3 false]) (.slice (some ⟨H.length,0,none⟩) 0 0) []:=.inr ⟨H.length,rfl,Nat.le_refl _,at_app (at_new ..) _⟩
  obtain ⟨w1,H3,k1,o1,p1,e1,_⟩:=ho0.app (P:=Tryz.prog) (t:=27) Tryz.underlying27 cs3 (by rw [by3];decide) zk3 (sl1 _ hp2).2 hp2 (by simp;omega)
  simp only [List.nil_append] at o1
  have c3:H3[(H ++ [AObj.cells [] 3 false]).length]?=some (.cells [.int .i64 x] 3 false):=e1 _ _ (.inr (by simp [rowO])) (at_new ..)
  have c2:(H ++ [AObj.cells [] 3 false] ++ [AObj.cells [.int .i64 x] 3 false])[(H ++ [AObj.cells [] 3 false]).length]?=some (.cells [.int .i64 x] 3 false):=at_new ..
  have r39:Row 3 H3 (.slice (some ⟨(H ++ [AObj.cells [] 3 false]).length,0,none⟩) 1 1) [x]:=.inr ⟨_,0,[.int .i64 x],false,rfl,c3,by simp,rfl⟩
  obtain ⟨w2,H4,k2,o2,p2,e2,_⟩:=o1.app (P:=Tryz.prog) (t:=27) Tryz.underlying27 cs3 (by rw [by3];decide) zk3 r39 p1 (by simp;omega)
  obtain ⟨w3,H5,k3,o3,p3,e3,_⟩:=o2.app (P:=Tryz.prog) (t:=27) Tryz.underlying27 cs3 (by rw [by3];decide) zk3 (sl2 _ p2).2 p2 (by simp;omega)
  have hcat:l.take i ++ [x] ++ l.drop i=l.take i ++ x :: l.drop i:=by simp
  simp (disch:=omega) only [h0,h1,h5,hr.len Tryz.underlying27,SS,eq_self,reduceIte,reduceCtorEq,Nat.reduceEqDiff,Nat.reduceAdd]
  refine brD.intro (fun g=>?_) (fun g=>?_)
  ·have hi:i<l.length:=by omega
   simp (disch:=omega) only [g,h0,h1,h5,hr.ix Tryz.underlying27 cs3,hr.cell,Int.toNat_natCast,SS,eq_self,reduceIte,reduceCtorEq,Nat.reduceEqDiff,Nat.reduceAdd]
   refine brD.intro (fun e=>?_) (fun e=>?_)
   ·simp (disch:=omega) only [h0,h1,h5,wrap64,SS,eq_self,reduceIte,reduceCtorEq,Nat.reduceEqDiff,Nat.reduceAdd]
    have fx:∀ j,j<i+1->l.getD j 0<x:=by
     intro j hj
     by_cases ej:j=i
     ·subst ej;exact e
     ·exact hlt j (by omega)
    refine ⟨m - 1,by omega,i+1,?_⟩
    (repeat' apply And.intro) <;> first | exact fx | (simp only [Value.int.injEq,true_and];omega) | omega | rfl | assumption | (simp;done) | (simp;omega)
   ·have hne:¬ l.getD i 0=x:=fun h=>hx (by
     have:l.getD i 0=l[i]:=by simp [hi]
     rw [<- h,this];exact List.getElem_mem hi)
    simp (disch:=omega) only [g,h0,h1,h5,hr.len Tryz.underlying27,hr.ix Tryz.underlying27 cs3,hr.cell,Int.toNat_natCast,SS,eq_self,reduceIte,reduceCtorEq,Nat.reduceEqDiff,Nat.reduceAdd]
    refine brD.intro (fun h=>absurd h hne) (fun hne=>?_)
    simp (disch:=omega) only [hne,g,h0,h1,h5,(sl1 _ hp1).1,(sl2 _ hp2).1,k1,k2,k3,(sl2 _ p1).1,(sl2 _ p2).1,c2,c3,SS,eq_self,reduceIte,reduceCtorEq,Nat.reduceEqDiff,Nat.reduceAdd]
    refine hQ _ _ _ ?_
    simp (disch:=omega) only [o3.row.tup,SS,eq_self,reduceIte,reduceCtorEq,Nat.reduceEqDiff,Nat.reduceAdd]
    rw [fin (fun _=>by omega),<- hcat]
    exact ⟨o3,p3⟩
  ·simp (disch:=omega) only [g,h0,h1,h5,hr.len Tryz.underlying27,SS,eq_self,reduceIte,reduceCtorEq,Nat.reduceEqDiff,Nat.reduceAdd]
   simp (disch:=omega) only [h0,h1,h5,(sl1 _ hp1).1,(sl2 _ hp2).1,k1,k2,k3,(sl2 _ p1).1,(sl2 _ p2).1,c2,c3,g,SS,eq_self,reduceIte,reduceCtorEq,Nat.reduceEqDiff,Nat.reduceAdd]
   refine hQ _ _ _ ?_
   simp (disch:=omega) only [o3.row.tup,SS,eq_self,reduceIte,reduceCtorEq,Nat.reduceEqDiff,Nat.reduceAdd]
   rw [fin (fun _=>by omega),<- hcat]
   exact ⟨o3,p3⟩
def cd117:Cd:=(.seq (.reg [⟨⟨some 2,.assign (.const (.slice none 0 0)),none⟩,[]⟩]) (.seq (.reg [⟨⟨some 3,.buildSlice 27 0 #[],none⟩,[]⟩,
 ⟨⟨some 4,.move (.tmp 0),none⟩,[]⟩,
 ⟨⟨some 5,.call ⟨(.builtin .append),#[.tmp 3,.tmp 4],#[27,27]⟩,none⟩,[]⟩,
 ⟨⟨some 2,.assign (.tmp 5),none⟩,[]⟩]) .ret))
theorem in117:InT Tryz.prog 117 1 [.tmp 2] cd117:=InT.mk (by kernel_rfl) [] Tryz.func117 rfl (by kernel_rfl) (by kernel_rfl) (of_decide_eq_true (by kernel_rfl)) (by kernel_rfl)
end Go.Proofs.YtlcipphiflcaiaaGreat.Ai
namespace Go.Proofs.YtlcipphiflcaiaaGreat.Ai
open Go Go.RowKit
theorem l1Own_c (v:Value)(xs:List Int)(H:AH)(hr:Row 3 H v xs)(hlen:xs.length<=1099511627776):ACalls Tryz.prog 117 [v] H fun r H'=>Own 3 H H' r xs/\H<+:H':=by
 refine in117 rfl ?_
 intro Q hQ
 simp (disch:=omega) only [cd117,SS,eq_self,reduceIte,reduceCtorEq,Nat.reduceEqDiff,Nat.reduceAdd]
 have hp:=List.prefix_append H [AObj.cells [] 3 false]
 have ho:Own 3 H (H ++ [AObj.cells [] 3 false]) (.slice (some ⟨H.length,0,none⟩) 0 0) []:=.inr ⟨H.length,rfl,Nat.le_refl _,at_new ..⟩
 obtain ⟨v',H2,k1,k2,k3,_⟩:=ho.app (P:=Tryz.prog) (t:=27) Tryz.underlying27 cs3 (by rw [by3];decide) zk3 (hr.pre hp) hp (by simp;omega)
 simp (disch:=omega) only [k1,SS,eq_self,reduceIte,reduceCtorEq,Nat.reduceEqDiff,Nat.reduceAdd]
 refine hQ _ _ _ ?_
 simp (disch:=omega) only [k2.row.tup,SS,eq_self,reduceIte,reduceCtorEq,Nat.reduceEqDiff,Nat.reduceAdd]
 exact ⟨k2,k3⟩
def cd164:Cd:=(.seq (.reg [⟨⟨some 3,.box 26 (.tmp 0),none⟩,[]⟩,⟨⟨some 6,.assign (.const (.slice none 0 0)),none⟩,[]⟩]) (.seq (.reg [⟨⟨some 11,.move (.tmp 2),none⟩,[]⟩,⟨⟨some 12,.buildSlice 27 1 #[(0,.tmp 11)],none⟩,[]⟩,⟨⟨some 7,.assign (.tmp 12),none⟩,[]⟩]) (.seq (.seq (.reg [⟨⟨some 8,.assign (.const (.int .i64 0)),none⟩,[]⟩]) (.block 0 (.loop (.seq (.seq (.reg [⟨⟨some 13,.move (.tmp 8),none⟩,[]⟩,⟨⟨some 14,.move (.tmp 1),none⟩,[]⟩,⟨⟨some 15,.call ⟨(.builtin .len),#[.tmp 14],#[27]⟩,none⟩,[]⟩,⟨⟨some 16,.binOp .lss 3 (.tmp 13) (.tmp 15) 3,none⟩,[]⟩]) (.cond (.tmp 16) .skip (.exit 0))) (.seq (.block 1 (.seq (.reg [⟨⟨some 9,.assign (.const (.int .i64 0)),none⟩,[]⟩]) (.block 2 (.loop (.seq (.seq (.reg [⟨⟨some 19,.move (.tmp 9),none⟩,[]⟩,⟨⟨some 20,.move (.tmp 1),none⟩,[]⟩,⟨⟨some 21,.call ⟨(.builtin .len),#[.tmp 20],#[27]⟩,none⟩,[]⟩,⟨⟨some 22,.binOp .lss 3 (.tmp 19) (.tmp 21) 3,none⟩,[]⟩]) (.cond (.tmp 22) .skip (.exit 2))) (.seq (.block 3 (.seq (.reg [⟨⟨some 10,.assign (.const (.int .i64 0)),none⟩,[]⟩]) (.block 4 (.loop (.seq (.seq (.reg [⟨⟨some 25,.move (.tmp 10),none⟩,[]⟩,⟨⟨some 26,.move (.tmp 7),none⟩,[]⟩,⟨⟨some 27,.call ⟨(.builtin .len),#[.tmp 26],#[27]⟩,none⟩,[]⟩,
 ⟨⟨some 28,.binOp .lss 3 (.tmp 25) (.tmp 27) 3,none⟩,[]⟩,⟨⟨some 29,.move (.tmp 28),none⟩,[]⟩,⟨⟨some 30,.move (.tmp 7),some (29,true)⟩,[]⟩,⟨⟨some 31,.move (.tmp 1),some (29,true)⟩,[]⟩,⟨⟨some 32,.move (.tmp 9),some (29,true)⟩,[]⟩,⟨⟨some 33,.indexAddr 27 (.tmp 31) (.tmp 32),some (29,true)⟩,[]⟩,⟨⟨some 34,.load 3 (.tmp 33),some (29,true)⟩,[]⟩,⟨⟨some 35,.call ⟨(.value (.func 163)),#[.tmp 30,.tmp 34],#[27,3]⟩,some (29,true)⟩,[]⟩,⟨⟨some 36,.unOp .not 4 (.tmp 35),some (29,true)⟩,[]⟩,⟨⟨some 37,.pick (.tmp 29) (.tmp 36) (.const (.bool false)),none⟩,[]⟩]) (.cond (.tmp 37) .skip (.exit 4))) (.seq (.block 5 (.seq (.reg [⟨⟨some 40,.load 26 (.tmp 3),none⟩,[]⟩,⟨⟨some 41,.move (.tmp 7),none⟩,[]⟩,⟨⟨some 42,.move (.tmp 10),none⟩,[]⟩,
 ⟨⟨some 43,.indexAddr 27 (.tmp 41) (.tmp 42),none⟩,[]⟩,⟨⟨some 44,.load 3 (.tmp 43),none⟩,[]⟩,⟨⟨some 45,.move (.tmp 1),none⟩,[]⟩,⟨⟨some 46,.move (.tmp 9),none⟩,[]⟩,⟨⟨some 47,.indexAddr 27 (.tmp 45) (.tmp 46),none⟩,[]⟩,⟨⟨some 48,.load 3 (.tmp 47),none⟩,[]⟩,⟨⟨some 49,.call ⟨(.value (.func 175)),#[.tmp 40,.tmp 44,.tmp 48],#[26,3,3]⟩,none⟩,[]⟩]) (.cond (.tmp 49) (.reg [⟨⟨some 50,.move (.tmp 7),none⟩,[]⟩,⟨⟨some 51,.move (.tmp 1),none⟩,[]⟩,⟨⟨some 52,.move (.tmp 9),none⟩,[]⟩,⟨⟨some 53,.indexAddr 27 (.tmp 51) (.tmp 52),none⟩,[]⟩,⟨⟨some 54,.load 3 (.tmp 53),none⟩,[]⟩,⟨⟨some 55,.call ⟨(.value (.func 118)),#[.tmp 50,.tmp 54],#[27,3]⟩,none⟩,[]⟩,
 ⟨⟨some 7,.assign (.tmp 55),none⟩,[]⟩]) .skip))) (.reg [⟨⟨some 38,.move (.tmp 10),none⟩,[]⟩,
  ⟨⟨some 39,.binOp .add 3 (.tmp 38) (.const (.int .i64 1)) 3,none⟩,[]⟩,
  ⟨⟨some 10,.assign (.tmp 39),none⟩,[]⟩]))))))) (.reg [⟨⟨some 23,.move (.tmp 9),none⟩,[]⟩,
  ⟨⟨some 24,.binOp .add 3 (.tmp 23) (.const (.int .i64 1)) 3,none⟩,[]⟩,
  ⟨⟨some 9,.assign (.tmp 24),none⟩,[]⟩]))))))) (.reg [⟨⟨some 17,.move (.tmp 8),none⟩,[]⟩,
  ⟨⟨some 18,.binOp .add 3 (.tmp 17) (.const (.int .i64 1)) 3,none⟩,[]⟩,
  ⟨⟨some 8,.assign (.tmp 18),none⟩,[]⟩])))))) (.seq (.reg [⟨⟨some 56,.move (.tmp 7),none⟩,[]⟩,
  ⟨⟨some 6,.assign (.tmp 56),none⟩,[]⟩]) .ret))))
theorem in164:InT Tryz.prog 164 3 [.tmp 6] cd164:=InT.mk (by kernel_rfl) [(11,[(0,false),(1,false),(2,false),(3,false),(4,false),(5,false),(6,false),(7,false),(8,false),(9,true)])] Tryz.func164 rfl (by kernel_rfl) (by kernel_rfl) (of_decide_eq_true (by kernel_rfl)) (by kernel_rfl)
def cd120:Cd:=(.seq (.reg [⟨⟨some 2,.box 26 (.tmp 0),none⟩,[]⟩,⟨⟨some 4,.assign (.const (.slice none 0 0)),none⟩,[]⟩]) (.seq (.reg [⟨⟨some 10,.buildSlice 32 0 #[],none⟩,[]⟩,⟨⟨some 11,.buildSlice 27 0 #[],none⟩,[]⟩,⟨⟨some 5,.assign (.tmp 10),none⟩,[]⟩,⟨⟨some 6,.assign (.tmp 11),none⟩,[]⟩]) (.seq (.seq (.reg [⟨⟨some 7,.assign (.const (.int .i64 0)),none⟩,[]⟩]) (.block 0 (.loop (.seq (.seq (.reg [⟨⟨some 12,.move (.tmp 7),none⟩,[]⟩,⟨⟨some 13,.move (.tmp 1),none⟩,[]⟩,⟨⟨some 14,.call ⟨(.builtin .len),#[.tmp 13],#[27]⟩,none⟩,[]⟩,⟨⟨some 15,.binOp .lss 3 (.tmp 12) (.tmp 14) 3,none⟩,[]⟩]) (.cond (.tmp 15) .skip (.exit 0))) (.seq (.block 1 (.seq (.seq (.reg [⟨⟨some 18,.move (.tmp 6),none⟩,[]⟩,⟨⟨some 19,.move (.tmp 1),none⟩,[]⟩,⟨⟨some 20,.move (.tmp 7),none⟩,[]⟩,⟨⟨some 21,.indexAddr 27 (.tmp 19) (.tmp 20),none⟩,[]⟩,⟨⟨some 22,.load 3 (.tmp 21),none⟩,[]⟩,
 ⟨⟨some 23,.call ⟨(.value (.func 163)),#[.tmp 18,.tmp 22],#[27,3]⟩,none⟩,[]⟩]) (.cond (.tmp 23) (.exit 1) .skip)) (.seq (.reg [⟨⟨some 24,.load 26 (.tmp 2),none⟩,[]⟩,⟨⟨some 25,.move (.tmp 1),none⟩,[]⟩,⟨⟨some 26,.move (.tmp 1),none⟩,[]⟩,⟨⟨some 27,.move (.tmp 7),none⟩,[]⟩,⟨⟨some 28,.indexAddr 27 (.tmp 26) (.tmp 27),none⟩,[]⟩,⟨⟨some 29,.load 3 (.tmp 28),none⟩,[]⟩,⟨⟨some 30,.call ⟨(.value (.func 164)),#[.tmp 24,.tmp 25,.tmp 29],#[26,27,3]⟩,none⟩,[]⟩,⟨⟨some 8,.assign (.tmp 30),none⟩,[]⟩]) (.seq (.seq (.reg [⟨⟨some 9,.assign (.const (.int .i64 0)),none⟩,[]⟩]) (.block 2 (.loop (.seq (.seq (.reg [⟨⟨some 31,.move (.tmp 9),none⟩,[]⟩,⟨⟨some 32,.move (.tmp 8),none⟩,[]⟩,⟨⟨some 33,.call ⟨(.builtin .len),#[.tmp 32],#[27]⟩,none⟩,[]⟩,⟨⟨some 34,.binOp .lss 3 (.tmp 31) (.tmp 33) 3,none⟩,[]⟩]) (.cond (.tmp 34) .skip (.exit 2))) (.seq (.block 3 (.reg [⟨⟨some 37,.move (.tmp 6),none⟩,[]⟩,⟨⟨some 38,.move (.tmp 8),none⟩,[]⟩,
 ⟨⟨some 39,.move (.tmp 9),none⟩,[]⟩,⟨⟨some 40,.indexAddr 27 (.tmp 38) (.tmp 39),none⟩,[]⟩,⟨⟨some 41,.load 3 (.tmp 40),none⟩,[]⟩,⟨⟨some 42,.call ⟨(.value (.func 118)),#[.tmp 37,.tmp 41],#[27,3]⟩,none⟩,[]⟩,⟨⟨some 6,.assign (.tmp 42),none⟩,[]⟩])) (.reg [⟨⟨some 35,.move (.tmp 9),none⟩,[]⟩,⟨⟨some 36,.binOp .add 3 (.tmp 35) (.const (.int .i64 1)) 3,none⟩,[]⟩,⟨⟨some 9,.assign (.tmp 36),none⟩,[]⟩])))))) (.reg [⟨⟨some 43,.move (.tmp 5),none⟩,[]⟩,⟨⟨some 44,.move (.tmp 8),none⟩,[]⟩,⟨⟨some 45,.buildSlice 32 1 #[(0,.tmp 44)],none⟩,[]⟩,⟨⟨some 46,.call ⟨(.builtin .append),#[.tmp 43,.tmp 45],#[32,32]⟩,none⟩,[]⟩,⟨⟨some 5,.assign (.tmp 46),none⟩,[]⟩]))))) (.reg [⟨⟨some 16,.move (.tmp 7),none⟩,[]⟩,⟨⟨some 17,.binOp .add 3 (.tmp 16) (.const (.int .i64 1)) 3,none⟩,[]⟩,
 ⟨⟨some 7,.assign (.tmp 17),none⟩,[]⟩])))))) (.seq (.reg [⟨⟨some 47,.move (.tmp 5),none⟩,[]⟩,
  ⟨⟨some 4,.assign (.tmp 47),none⟩,[]⟩]) .ret))))
theorem in120:InT Tryz.prog 120 2 [.tmp 4] cd120:=InT.mk (by kernel_rfl) [(6,[(0,false),(1,false),(2,false),(3,false),(4,false),(5,false),(6,true),(7,false)])] Tryz.func120 rfl (by kernel_rfl) (by kernel_rfl) (of_decide_eq_true (by kernel_rfl)) (by kernel_rfl)
end Go.Proofs.YtlcipphiflcaiaaGreat.Ai
namespace Go.Proofs.YtlcipphiflcaiaaGreat.Ai
open Go Go.RowKit
theorem bsRow {H0:AH}{v:Value}{xs:List Int}(h:Row 3 H0 v xs)(K:AH):buildSliceA Tryz.prog 32 1 [(0,v)] K=some (.slice (some ⟨K.length,0,none⟩) 1 1,K ++ [.cells [v] 27 false]):=by
 obtain ⟨q,eq⟩:=h.shape
 rw [eq]
 exact bs1 Tryz.underlying32 cs27 ze27 ⟨by kernel_rfl,by kernel_rfl⟩ K rfl
def Sm (o:List Int):Prop:=o.Pairwise (· < ·)/\∀ z ∈ o,0<=z/\z<8
theorem Sm.len {o:List Int}(h:Sm o):o.length<=8:=by
 have:=nodup_le (a:=o) (b:=(List.range 8).map fun z:Nat=>(z:Int)) (lt_nodup h.1) fun x hx=>by
  have:=h.2 x hx
  exact List.mem_map.2 ⟨x.toNat,List.mem_range.2 (by omega),by omega⟩
 simpa using this
theorem Sm.put {o:List Int}(h:Sm o){x:Int}(hx:0<=x/\x<8):Sm (put o x):=by
 refine ⟨put_sorted _ _ h.1,fun z hz=>?_⟩
 rcases (put_mem _ _ _).1 hz with rfl | hz
 ·exact hx
 ·exact h.2 z hz
theorem Sm.nil:Sm []:=⟨List.Pairwise.nil,fun z hz=>by simp at hz⟩
theorem Sm.one {x:Int}(hx:0<=x/\x<8):Sm [x]:=⟨List.pairwise_singleton _ _,fun z hz=>by simp at hz;subst hz;exact hx⟩
theorem Sm.rcIn {o:List Int}(h:Sm o)(es:List (Int × Int)){y:Int}(hy:0<=y/\y<8):Sm (rcIn es o y):=by
 unfold Ai.rcIn
 split
 ·exact h
 ·split
  ·exact h.put hy
  ·exact h
theorem Sm.fold (es:List (Int × Int)):∀ (l:List Int) {o:List Int},Sm o->(∀ y ∈ l,0<=y/\y<8)->Sm (l.foldl (Ai.rcIn es) o)
 | [],o,h,_=>h
 | y :: ys,o,h,hl=>Sm.fold es ys (h.rcIn es (hl y (by simp))) fun z hz=>hl z (by simp [hz])
theorem Sm.iter (es:List (Int × Int))(set:List Int)(hl:∀ y ∈ set,0<=y/\y<8){x:Int}(hx:0<=x/\x<8):∀ k,Sm (rcIter es set k [x])
 | 0=>Sm.one hx
 | k+1=>Sm.fold es set (Sm.iter es set hl hx k) hl
theorem drop_fold {β:Type}(f:β->Int->β)(l:List Int)(i:Nat)(hi:i<l.length)(o:β):(l.drop i).foldl f o=(l.drop (i+1)).foldl f (f o (l.getD i 0)):=by
 have e:l.getD i 0=l[i]:=by simp [hi]
 rw [List.drop_eq_getElem_cons hi,List.foldl_cons,e]
theorem l2Reach_c (n:Int)(v w:Value)(es:List (Int × Int))(set:List Int)(x:Int)(H:AH)(hr:RowP 115 H v es)(hlen:es.length<=1099511627776)(hs:Row 3 H w set)(hsr:∀ z ∈ set,0<=z/\z<8)(hsl:set.length<=8)(hx:0<=x/\x<8) :
  ACalls Tryz.prog 164 [.agg (List.toArray [.int .i64 n,v]),w,.int .i64 x] H fun r H'=>Own 3 H H' r (reachL es set x)/\H<+:H':=by
 refine in164 rfl ?_
 intro Q hQ
 simp (disch:=omega) only [cd164,hr.boxG,SS,eq_self,reduceIte,reduceCtorEq,Nat.reduceEqDiff,Nat.reduceAdd]
 generalize hA:H ++ [AObj.cells [.int .i64 n,v] 26 false]=A
 have pA:H<+:A:=by rw [<- hA];exact List.prefix_append _ _
 have cA:A[H.length]?=some (.cells [.int .i64 n,v] 26 false):=by rw [<- hA];exact at_new ..
 have rA:=hr.pre pA
 try simp (disch:=omega) only [SS,eq_self,reduceIte,reduceCtorEq,Nat.reduceEqDiff,Nat.reduceAdd]
 refine LoopH.by (fun m s H'=>∃ i,m+i=set.length/\s 1=w/\s 3=.pointer (some ⟨H.length,0,none⟩)/\s 8=.int .i64 ((i:Nat):Int)/\Own 3 A H' (s 7) (rcIter es set i [x])/\A<+:H') set.length ?_ ?_
 ·exact ⟨0,by simp,rfl,rfl,rfl,.inr ⟨A.length,rfl,Nat.le_refl _,at_new ..⟩,List.prefix_append _ _⟩
 rintro m s H' ⟨i,hm,h1,h3,h8,ho,hp⟩
 have hss:=hs.pre (pA.trans hp)
 have hiter:rcIter es set (i+1) [x]=set.foldl (rcIn es) (rcIter es set i [x]):=rfl
 have hsm:=Sm.iter es set hsr hx i
 have hend:i=set.length->rcIter es set i [x]=reachL es set x:=fun e=>by rw [e];rfl
 generalize hw:s 7=u at *
 generalize hR:rcIter es set i [x]=R at *
 simp (disch:=omega) only [h1,h3,h8,hw,hss.len Tryz.underlying27,SS,eq_self,reduceIte,reduceCtorEq,Nat.reduceEqDiff,Nat.reduceAdd]
 refine brD.intro (fun g=>?_) (fun g=>?_)
 rotate_left
 ·simp (disch:=omega) only [hw,SS,eq_self,reduceIte,reduceCtorEq,Nat.reduceEqDiff,Nat.reduceAdd]
  refine hQ _ _ _ ?_
  simp (disch:=omega) only [hw,ho.row.tup,SS,eq_self,reduceIte,reduceCtorEq,Nat.reduceEqDiff,Nat.reduceAdd]
  rw [<- hend (by omega)]
  exact ⟨ho.base pA,pA.trans hp⟩
 simp (disch:=omega) only [h1,h3,h8,hw,SS,eq_self,reduceIte,reduceCtorEq,Nat.reduceEqDiff,Nat.reduceAdd]
 refine LoopH.by (fun m2 s H2=>∃ j R2,m2+j=set.length/\s 1=w/\s 3=.pointer (some ⟨H.length,0,none⟩)/\s 8=.int .i64 ((i:Nat):Int)/\s 9=.int .i64 ((j:Nat):Int)/\Own 3 A H2 (s 7) R2/\A<+:H2/\Sm R2/\(set.drop j).foldl (rcIn es) R2=set.foldl (rcIn es) R) set.length ?_ ?_
 ·refine ⟨0,R,by simp,h1,h3,h8,rfl,?_,hp,hsm,by rw [List.drop_zero]⟩
  simp only [SS,eq_self,reduceIte,reduceCtorEq,Nat.reduceEqDiff,Nat.reduceAdd,hw]
  exact ho
 rintro m2 s H2 ⟨j,R2,hm2,h1,h3,h8,h9,ho2,hp2,hsm2,hf⟩
 have hss2:=hs.pre (pA.trans hp2)
 generalize hw:s 7=u2 at *
 simp (disch:=omega) only [h1,h3,h8,h9,hw,hss2.len Tryz.underlying27,SS,eq_self,reduceIte,reduceCtorEq,Nat.reduceEqDiff,Nat.reduceAdd]
 refine brD.intro (fun g2=>?_) (fun g2=>?_)
 rotate_left
 ·simp (disch:=omega) only [h1,h3,h8,h9,hw,wrap64,SS,eq_self,reduceIte,reduceCtorEq,Nat.reduceEqDiff,Nat.reduceAdd]
  rw [List.drop_of_length_le (by omega),List.foldl_nil,<- hiter] at hf
  refine ⟨m - 1,by omega,i+1,?_⟩
  rw [<- hf]
  (repeat' first | exact ho2 | exact hp2 | apply And.intro) <;> first | (simp only [Value.int.injEq,true_and];omega) | omega | rfl | assumption | (simp;done) | (simp;omega)
 have hj:j<set.length:=by omega
 rw [drop_fold _ set j hj] at hf
 have hym:set.getD j 0 ∈ set:=by simp [hj]
 have hyr:=hsr _ hym
 generalize hy:set.getD j 0=y at *
 simp (disch:=omega) only [h1,h3,h8,h9,hw,SS,eq_self,reduceIte,reduceCtorEq,Nat.reduceEqDiff,Nat.reduceAdd]
 refine LoopH.by (fun m3 s H3=>∃ k R3,m3+k=9/\s 1=w/\s 3=.pointer (some ⟨H.length,0,none⟩)/\s 8=.int .i64 ((i:Nat):Int)/\s 9=.int .i64 ((j:Nat):Int)/\s 10=.int .i64 ((k:Nat):Int)/\Own 3 A H3 (s 7) R3/\A<+:H3/\Sm R3/\rcIn es R3 y=rcIn es R2 y/\(y ∉ R3->∀ l,l<k->l<R3.length->nearB es (R3.getD l 0) y=false)) 9 ?_ ?_
 ·refine ⟨0,R2,by omega,h1,h3,h8,h9,rfl,?_,hp2,hsm2,rfl,fun _ l hl=>absurd hl (Nat.not_lt_zero l)⟩
  simp only [SS,eq_self,reduceIte,reduceCtorEq,Nat.reduceEqDiff,Nat.reduceAdd,hw]
  exact ho2
 rintro m3 s H3 ⟨k,R3,hm3,h1,h3,h8,h9,h10,ho3,hp3,hsm3,hq,hno⟩
 have hss3:=hs.pre (pA.trans hp3)
 have hl3:=hsm3.len
 have hr3:=rA.pre hp3
 have c3:=pre_at hp3 cA
 generalize hw:s 7=u3 at *
 have stay:∀ (H4:AH),A<+:H4->Own 3 A H4 u3 R3->(y ∈ R3∨k ≥ R3.length)->rcIn es R2 y=R3:=by
  intro H4 _ _ hc
  rw [<- hq]
  unfold rcIn
  split
  ·rfl
  ·rename_i hm
   rw [if_neg]
   intro e
   obtain ⟨o,hoo,hn⟩:=List.any_eq_true.1 e
   obtain ⟨l,hl,rfl⟩:=List.mem_iff_getElem.1 hoo
   have h5:=hno hm l (by rcases hc with h | h <;> first | exact absurd h hm | omega) hl
   have e5:R3.getD l 0=R3[l]:=by simp [hl]
   rw [e5,hn] at h5
   exact absurd h5 (by decide)
 simp (disch:=omega) only [h1,h3,h8,h9,h10,hw,ho3.row.len Tryz.underlying27,SS,eq_self,reduceIte,reduceCtorEq,Nat.reduceEqDiff,Nat.reduceAdd]
 refine brD.intro (fun g3=>?_) (fun g3=>?_)
 rotate_left
 ·simp (disch:=omega) only [g3,h1,h3,h8,h9,h10,hw,wrap64,SS,eq_self,reduceIte,reduceCtorEq,Nat.reduceEqDiff,Nat.reduceAdd]
  rw [stay H3 hp3 ho3 (.inr (by omega))] at hf
  refine ⟨m2 - 1,by omega,j+1,R3,?_⟩
  (repeat' first | exact ho3 | exact hp3 | exact hsm3 | exact hf | apply And.intro) <;> first | (simp only [Value.int.injEq,true_and];omega) | omega | rfl | assumption | (simp;done) | (simp;omega)
 have hk:k<R3.length:=by omega
 have hcy:=hss3.cell hj
 rw [hy] at hcy
 simp (disch:=omega) only [g3,h1,h3,h8,h9,h10,hw,hss3.ix Tryz.underlying27 cs3,hcy,Int.toNat_natCast,SS,eq_self,reduceIte,reduceCtorEq,Nat.reduceEqDiff,Nat.reduceAdd]
 refine CallH.by (l1Has_c u3 R3 y H3 ho3.row (by omega)) ?_
 rintro _ _ ⟨rfl,rfl⟩
 simp (disch:=omega) only [g3,SS,eq_self,reduceIte,reduceCtorEq,Nat.reduceEqDiff,Nat.reduceAdd]
 refine brD.intro (fun g4=>?_) (fun g4=>?_)
 ·simp (disch:=omega) only [h1,h3,h8,h9,h10,hw,wrap64,SS,eq_self,reduceIte,reduceCtorEq,Nat.reduceEqDiff,Nat.reduceAdd]
  rw [stay H3 hp3 ho3 (.inl g4)] at hf
  refine ⟨m2 - 1,by omega,j+1,R3,?_⟩
  (repeat' first | exact ho3 | exact hp3 | exact hsm3 | exact hf | apply And.intro) <;> first | (simp only [Value.int.injEq,true_and];omega) | omega | rfl | assumption | (simp;done) | (simp;omega)
 simp (disch:=omega) only [h1,h3,h8,h9,h10,hw,hss3.ix Tryz.underlying27 cs3,hcy,ho3.row.ix Tryz.underlying27 cs3,ho3.row.cell,Int.toNat_natCast,ld_agg ag26 cs26 c3,SS,eq_self,reduceIte,reduceCtorEq,Nat.reduceEqDiff,Nat.reduceAdd]
 refine CallH.by (l2Near_c n v es _ y H3 hr3 hlen) ?_
 rintro _ H4 ⟨rfl,p4⟩
 have hss4:=hss3.pre p4
 have ho4:=ho3.pre p4
 have hp4:=hp3.trans p4
 have hcy4:=hss4.cell hj
 rw [hy] at hcy4
 simp (disch:=omega) only [SS,eq_self,reduceIte,reduceCtorEq,Nat.reduceEqDiff,Nat.reduceAdd]
 refine brH.intro (fun e=>?_) (fun e=>?_)
 ·simp (disch:=omega) only [e,h1,h3,h8,h9,h10,hw,hss4.ix Tryz.underlying27 cs3,hcy4,Int.toNat_natCast,SS,eq_self,reduceIte,reduceCtorEq,Nat.reduceEqDiff,Nat.reduceAdd]
  refine CallH.by (l1Put_c u3 R3 y H4 ho4.row (by omega) g4) ?_
  rintro u5 H5 ⟨ho5,p5⟩
  have ho5':=ho5.base hp4
  have hp5:=hp4.trans p5
  have hsm5:=hsm3.put hyr
  have hmp:y ∈ put R3 y:=(put_mem _ _ _).2 (.inl rfl)
  have hq5:rcIn es (put R3 y) y=rcIn es R2 y:=by
   rw [<- hq]
   have e1:rcIn es R3 y=put R3 y:=by
    unfold rcIn
    rw [if_neg g4,if_pos]
    refine List.any_eq_true.2 ⟨R3.getD k 0,by simp [hk],e⟩
   rw [e1]
   unfold rcIn
   rw [if_pos hmp]
  have hno5:y ∉ put R3 y->∀ l,l<k+1->l<(put R3 y).length->nearB es ((put R3 y).getD l 0) y=false:=fun h=>absurd hmp h
  simp (disch:=omega) only [h1,h3,h8,h9,h10,wrap64,SS,eq_self,reduceIte,reduceCtorEq,Nat.reduceEqDiff,Nat.reduceAdd]
  refine ⟨m3 - 1,by omega,k+1,put R3 y,?_⟩
  (repeat' first | exact ho5' | exact hp5 | exact hsm5 | exact hq5 | exact hno5 | apply And.intro) <;> first | (simp only [Value.int.injEq,true_and];omega) | omega | rfl | assumption | (simp;done) | (simp;omega)
 ·have hno5:y ∉ R3->∀ l,l<k+1->l<R3.length->nearB es (R3.getD l 0) y=false:=by
   intro h l hl1 hl2
   by_cases el:l=k
   ·subst el;exact e
   ·exact hno h l (by omega) hl2
  simp (disch:=omega) only [e,h1,h3,h8,h9,h10,hw,wrap64,SS,eq_self,reduceIte,reduceCtorEq,Nat.reduceEqDiff,Nat.reduceAdd]
  refine ⟨m3 - 1,by omega,k+1,R3,?_⟩
  (repeat' first | exact ho4 | exact hp4 | exact hsm3 | exact hq | exact hno5 | apply And.intro) <;> first | (simp only [Value.int.injEq,true_and];omega) | omega | rfl | assumption | (simp;done) | (simp;omega)
theorem l1PutW_c (v:Value)(l:List Int)(x:Int)(H:AH)(hr:Row 3 H v l)(hlen:l.length<=1000000)(hso:l.Pairwise (· < ·)) :
  ACalls Tryz.prog 118 [v,.int .i64 x] H fun r H'=>((r=v/\put l x=l)∨Own 3 H H' r (put l x))/\H<+:H':=by
 by_cases hx:x ∈ l
 rotate_left
 ·exact (l1Put_c v l x H hr hlen hx).mono fun r H' h=>⟨.inr h.1,h.2⟩
 ·refine in118 rfl ?_
  intro Q hQ
  obtain ⟨q,hq,hqe⟩:=List.mem_iff_getElem.1 hx
  have hqd:l.getD q 0=x:=by simp [hq,hqe]
  have hpt:put l x=l:=by
   have hlt:∀ j,j<q->l.getD j 0<x:=fun j hj=>by
    have:=List.pairwise_iff_getElem.1 hso j q (by omega) hq hj
    have e:l.getD j 0=l[j]:=by simp [show j<l.length by omega]
    rw [e];omega
   rw [putAt_eq0 l x q (by omega) hlt (fun _=>by omega),if_pos ⟨hq,hqd⟩]
  simp (disch:=omega) only [cd118,SS,eq_self,reduceIte,reduceCtorEq,Nat.reduceEqDiff,Nat.reduceAdd]
  refine LoopH.by (fun m s H'=>∃ i,m+i=l.length/\s 0=v/\s 1=.int .i64 x/\s 5=.int .i64 ((i:Nat):Int)/\H=H'/\i<=q) l.length ?_ ?_
  ·exact ⟨0,by simp,rfl,rfl,rfl,rfl,by omega⟩
  ·rintro m s H' ⟨i,hm,h0,h1,h5,rfl,hiq⟩
   have hi:i<l.length:=by omega
   have hle:l.getD i 0<=x/\(i<q->l.getD i 0<x):=by
    have e:l.getD i 0=l[i]:=by simp [hi]
    rw [e]
    by_cases e2:i=q
    ·subst e2;exact ⟨by omega,fun h=>absurd h (by omega)⟩
    ·have:=List.pairwise_iff_getElem.1 hso i q hi hq (by omega)
     exact ⟨by omega,fun _=>by omega⟩
   simp (disch:=omega) only [h0,h1,h5,hr.len Tryz.underlying27,SS,eq_self,reduceIte,reduceCtorEq,Nat.reduceEqDiff,Nat.reduceAdd]
   refine brD.intro (fun g=>?_) (fun g=>absurd (show (i:Int)<l.length by omega) g)
   simp (disch:=omega) only [g,h0,h1,h5,hr.ix Tryz.underlying27 cs3,hr.cell,Int.toNat_natCast,SS,eq_self,reduceIte,reduceCtorEq,Nat.reduceEqDiff,Nat.reduceAdd]
   refine brD.intro (fun e=>?_) (fun e=>?_)
   ·simp (disch:=omega) only [h0,h1,h5,wrap64,SS,eq_self,reduceIte,reduceCtorEq,Nat.reduceEqDiff,Nat.reduceAdd]
    have fx:i+1<=q:=by
     by_cases e2:i=q
     ·subst e2;omega
     ·omega
    refine ⟨m - 1,by omega,i+1,?_⟩
    (repeat' apply And.intro) <;> first | exact fx | (simp only [Value.int.injEq,true_and];omega) | omega | rfl | assumption | (simp;done) | (simp;omega)
   ·have hee:l.getD i 0=x:=by
     by_cases e2:i=q
     ·subst e2;exact hqd
     ·exact absurd (hle.2 (by omega)) e
    simp (disch:=omega) only [g,h0,h1,h5,hr.len Tryz.underlying27,hr.ix Tryz.underlying27 cs3,hr.cell,Int.toNat_natCast,SS,eq_self,reduceIte,reduceCtorEq,Nat.reduceEqDiff,Nat.reduceAdd]
    refine brD.intro (fun h=>?_) (fun h=>absurd hee h)
    simp (disch:=omega) only [h0,SS,eq_self,reduceIte,reduceCtorEq,Nat.reduceEqDiff,Nat.reduceAdd]
    refine hQ _ _ _ ?_
    simp (disch:=omega) only [h0,hr.tup,SS,eq_self,reduceIte,reduceCtorEq,Nat.reduceEqDiff,Nat.reduceAdd]
    exact ⟨.inl hpt,List.prefix_refl _⟩
theorem Sm.puts:∀ (l:List Int) {s:List Int},Sm s->(∀ y ∈ l,0<=y/\y<8)->Sm (l.foldl Ai.put s)
 | [],s,h,_=>h
 | y :: ys,s,h,hl=>Sm.puts ys (h.put (hl y (by simp))) fun z hz=>hl z (by simp [hz])
theorem Sm.reach {es:List (Int × Int)}{set:List Int}(hl:∀ y ∈ set,0<=y/\y<8){x:Int}(hx:0<=x/\x<8):Sm (reachL es set x):=Sm.iter es set hl hx _
theorem l2Pieces_c (n:Int)(v w:Value)(es:List (Int × Int))(set:List Int)(H:AH)(hr:RowP 115 H v es)(hlen:es.length<=1099511627776)(hs:Row 3 H w set)(hsr:∀ z ∈ set,0<=z/\z<8)(hsl:set.length<=8) :
  ACalls Tryz.prog 120 [.agg (List.toArray [.int .i64 n,v]),w] H fun r H'=>InL H.length H'.length 27 3 H' r (piecesL es set)/\H<+:H':=by
 refine in120 rfl ?_
 intro Q hQ
 simp (disch:=omega) only [cd120,hr.boxG,SS,eq_self,reduceIte,reduceCtorEq,Nat.reduceEqDiff,Nat.reduceAdd]
 generalize hA:H ++ [AObj.cells [.int .i64 n,v] 26 false]=A
 have pA:H<+:A:=by rw [<- hA];exact List.prefix_append _ _
 have cA:A[H.length]?=some (.cells [.int .i64 n,v] 26 false):=by rw [<- hA];exact at_new ..
 have rA:=hr.pre pA
 try simp (disch:=omega) only [SS,eq_self,reduceIte,reduceCtorEq,Nat.reduceEqDiff,Nat.reduceAdd]
 have lA:A.length=H.length+1:=by rw [<- hA];simp
 generalize hB:A ++ [AObj.cells [] 27 false]=B
 have pB:A<+:B:=by rw [<- hB];exact List.prefix_append _ _
 have cB:B[A.length]?=some (.cells [] 27 false):=by rw [<- hB];exact at_new ..
 have lB:B.length=A.length+1:=by rw [<- hB];simp
 have uB:InU H.length B.length 27 3 B A.length [] []:=⟨by omega,by omega,cB,Nat.le_refl _,fun i hi=>absurd hi (by simp),fun i j _ hi _=>absurd hi (by simp)⟩
 refine LoopH.by (fun m s H'=>∃ i st oo vs q,m+i=set.length/\s 1=w/\s 2=.pointer (some ⟨H.length,0,none⟩)/\s 7=.int .i64 ((i:Nat):Int)/\s 5=.slice (some ⟨oo,0,none⟩) st.1.length st.1.length/\s 6=.slice (some ⟨q,0,none⟩) st.2.length st.2.length/\(set.drop i).foldl (pcS es set) st=pcK es set set/\InU H.length H'.length 27 3 H' oo vs st.1/\H'[q]?=some (.cells (ints st.2) 3 false)/\q ≠ oo/\A.length<=oo/\A.length<=q/\A<+:H'/\Sm st.2/\st.1.length<=i) set.length ?_ ?_
 ·refine ⟨0,([],[]),A.length,[],B.length,by simp,?_⟩
  simp only [SS,eq_self,reduceIte,reduceCtorEq,Nat.reduceEqDiff,Nat.reduceAdd]
  have q1:=uB.pre (List.prefix_append B [AObj.cells [] 3 false])
  have q1':=q1.wide (Nat.le_refl _) (show B.length<=(B ++ [AObj.cells [] 3 false]).length by simp)
  have q2:(B ++ [AObj.cells [] 3 false])[B.length]?=some (.cells (ints []) 3 false):=at_new ..
  have q3:=pre_app pB [AObj.cells [] 3 false]
  have q4:(set.drop 0).foldl (pcS es set) ([],[])=pcK es set set:=by rw [List.drop_zero];rfl
  have q5:=Sm.nil
  (repeat' first | exact q1' | exact q2 | exact q3 | exact q4 | exact q5 | apply And.intro) <;> first | (simp only [Value.int.injEq,true_and];omega) | omega | rfl | assumption | (simp;done) | (simp;omega)
 rintro m s H' ⟨i,st,oo,vs,q,hm,h1,h2,h7,h5,h6,hf,hu,hq,hqo,hAo,hAq,hp,hsm,hcn⟩
 have hss:=hs.pre (pA.trans hp)
 have hsl6:=hsm.len
 have hlt:=hp.length_le
 have hrq:Row 3 H' (.slice (some ⟨q,0,none⟩) st.2.length st.2.length) st.2:=.inr ⟨q,0,ints st.2,false,rfl,hq,by rw [ints_len];omega,by rw [List.drop_zero,<- ints_len,List.take_length]⟩
 simp (disch:=omega) only [h1,h2,h7,h5,h6,hss.len Tryz.underlying27,SS,eq_self,reduceIte,reduceCtorEq,Nat.reduceEqDiff,Nat.reduceAdd]
 refine brD.intro (fun g=>?_) (fun g=>?_)
 rotate_left
 ·simp (disch:=omega) only [h5,SS,eq_self,reduceIte,reduceCtorEq,Nat.reduceEqDiff,Nat.reduceAdd]
  refine hQ _ _ _ ?_
  simp (disch:=omega) only [h5,SS,eq_self,reduceIte,reduceCtorEq,Nat.reduceEqDiff,Nat.reduceAdd]
  rw [List.drop_of_length_le (by omega),List.foldl_nil] at hf
  have hP:piecesL es set=st.1:=by unfold piecesL;rw [<- hf]
  rw [hP]
  exact ⟨hu.inl,pA.trans hp⟩
 have hi:i<set.length:=by omega
 rw [drop_fold _ set i hi] at hf
 have hym:set.getD i 0 ∈ set:=by simp [hi]
 have hyr:=hsr _ hym
 have hcy:=hss.cell hi
 generalize hy:set.getD i 0=y at *
 simp (disch:=omega) only [h1,h2,h7,h5,h6,hss.ix Tryz.underlying27 cs3,hcy,Int.toNat_natCast,SS,eq_self,reduceIte,reduceCtorEq,Nat.reduceEqDiff,Nat.reduceAdd]
 refine CallH.by (l1Has_c _ st.2 y H' hrq (by omega)) ?_
 rintro _ _ ⟨rfl,rfl⟩
 simp (disch:=omega) only [SS,eq_self,reduceIte,reduceCtorEq,Nat.reduceEqDiff,Nat.reduceAdd]
 refine brD.intro (fun e=>?_) (fun e=>?_)
 ·have hst:pcS es set st y=st:=by unfold pcS;rw [if_pos e]
  rw [hst] at hf
  simp (disch:=omega) only [h1,h2,h7,h5,h6,wrap64,SS,eq_self,reduceIte,reduceCtorEq,Nat.reduceEqDiff,Nat.reduceAdd]
  refine ⟨m - 1,by omega,i+1,st,oo,vs,q,?_⟩
  (repeat' first | exact hf | exact hu | exact hq | exact hp | exact hsm | apply And.intro) <;> first | (simp only [Value.int.injEq,true_and];omega) | omega | rfl | assumption | (simp;done) | (simp;omega)
 have hst:pcS es set st y=(st.1 ++ [reachL es set y],(reachL es set y).foldl put st.2):=by unfold pcS;rw [if_neg e]
 rw [hst] at hf
 have c3:=pre_at hp cA
 simp (disch:=omega) only [h1,h2,h7,h5,h6,hss.ix Tryz.underlying27 cs3,hcy,Int.toNat_natCast,ld_agg ag26 cs26 c3,SS,eq_self,reduceIte,reduceCtorEq,Nat.reduceEqDiff,Nat.reduceAdd]
 refine CallH.by (l2Reach_c n v w es set y H' (rA.pre hp) hlen hss hsr hsl hyr) ?_
 rintro pv H2 ⟨ho2,p2⟩
 have hpm:=ho2.mine
 have hrs:=Sm.reach (es:=es) hsr hyr
 have hrl:=hrs.len
 generalize hR:reachL es set y=R at *
 simp (disch:=omega) only [h1,h2,h7,h5,h6,SS,eq_self,reduceIte,reduceCtorEq,Nat.reduceEqDiff,Nat.reduceAdd]
 have hu2:=hu.pre p2
 have hl2:=p2.length_le
 refine LoopH.by (fun m2 s H3=>∃ k sn q',m2+k=R.length/\s 1=w/\s 2=.pointer (some ⟨H.length,0,none⟩)/\s 7=.int .i64 ((i:Nat):Int)/\s 5=.slice (some ⟨oo,0,none⟩) st.1.length st.1.length/\s 6=.slice (some ⟨q',0,none⟩) sn.length sn.length/\s 8=pv/\s 9=.int .i64 ((k:Nat):Int)/\H3[q']?=some (.cells (ints sn) 3 false)/\q' ≠ oo/\A.length<=q'/\H2<+:H3/\Sm sn/\(R.drop k).foldl put sn=R.foldl put st.2) R.length ?_ ?_
 ·refine ⟨0,st.2,q,by simp,?_⟩
  simp only [SS,eq_self,reduceIte,reduceCtorEq,Nat.reduceEqDiff,Nat.reduceAdd,h1,h2,h7,h5,h6]
  have q2:=pre_at p2 hq
  have q3:=List.prefix_refl H2
  have q4:(R.drop 0).foldl put st.2=R.foldl put st.2:=by rw [List.drop_zero]
  (repeat' first | exact q2 | exact q3 | exact q4 | exact hsm | apply And.intro) <;> first | (simp only [Value.int.injEq,true_and];omega) | omega | rfl | assumption | (simp;done) | (simp;omega)
 rintro m2 s H3 ⟨k,sn,q',hm2,h1,h2,h7,h5,h6,h8,h9,hq',hqo',hAq',hp3,hsn,hfo⟩
 have hpr:=ho2.row.pre hp3
 have hsnl:=hsn.len
 have hrq':Row 3 H3 (.slice (some ⟨q',0,none⟩) sn.length sn.length) sn:=.inr ⟨q',0,ints sn,false,rfl,hq',by rw [ints_len];omega,by rw [List.drop_zero,<- ints_len,List.take_length]⟩
 have hl3:=hp3.length_le
 simp (disch:=omega) only [h1,h2,h7,h5,h6,h8,h9,hpr.len Tryz.underlying27,SS,eq_self,reduceIte,reduceCtorEq,Nat.reduceEqDiff,Nat.reduceAdd]
 refine brD.intro (fun g2=>?_) (fun g2=>?_)
 ·have hk:k<R.length:=by omega
  rw [drop_fold _ R k hk] at hfo
  have hzm:R.getD k 0 ∈ R:=by simp [hk]
  have hzr:=hrs.2 _ hzm
  have hcz:=hpr.cell hk
  generalize hz:R.getD k 0=z at *
  simp (disch:=omega) only [h1,h2,h7,h5,h6,h8,h9,hpr.ix Tryz.underlying27 cs3,hcz,Int.toNat_natCast,SS,eq_self,reduceIte,reduceCtorEq,Nat.reduceEqDiff,Nat.reduceAdd]
  refine CallH.by (l1PutW_c _ sn z H3 hrq' (by omega) hsn.1) ?_
  rintro r4 H4 ⟨hr4,p4⟩
  have hsn4:=hsn.put hzr
  have hp4:=hp3.trans p4
  have hq4:∃ q4,r4=.slice (some ⟨q4,0,none⟩) (put sn z).length (put sn z).length/\H4[q4]?=some (.cells (ints (put sn z)) 3 false)/\q4 ≠ oo/\A.length<=q4:=by
   rcases hr4 with ⟨rfl,e4⟩ | (⟨_,e4⟩ | ⟨q4,e4,g4,c4⟩)
   ·rw [e4]
    exact ⟨q',rfl,pre_at p4 hq',hqo',hAq'⟩
   ·have:z ∈ put sn z:=(put_mem _ _ _).2 (.inl rfl)
    rw [e4] at this;simp at this
   ·have:=hu.2.1
    exact ⟨q4,e4,c4,by omega,by omega⟩
  obtain ⟨q4,rfl,c4,n4,l4⟩:=hq4
  simp (disch:=omega) only [h1,h2,h7,h5,h6,h8,h9,wrap64,SS,eq_self,reduceIte,reduceCtorEq,Nat.reduceEqDiff,Nat.reduceAdd]
  refine ⟨m2 - 1,by omega,k+1,put sn z,q4,?_⟩
  (repeat' first | exact c4 | exact hp4 | exact hsn4 | exact hfo | apply And.intro) <;> first | (simp only [Value.int.injEq,true_and];omega) | omega | rfl | assumption | (simp;done) | (simp;omega)
 ·rw [List.drop_of_length_le (by omega),List.foldl_nil] at hfo
  rw [<- hfo] at hf
  have hu3:=hu2.pre hp3
  have hw3:InI H'.length H3.length 3 H3 pv R:=(InI.of (hpm.pre hp3)).wide (Nat.le_refl _) (Nat.le_refl _)
  have hHA:=pA.length_le
  obtain ⟨K2,k1,k2,k3,k4⟩:=hu3.app1 (P:=Tryz.prog) (t2:=32) Tryz.underlying32 cs27 (by rw [by27];decide) zk27 hw3 (by omega) (by omega) (Nat.le_refl _) (by omega)
  simp (disch:=omega) only [h1,h2,h7,h5,h6,h8,h9,bsRow hpr H3,k1,wrap64,SS,eq_self,reduceIte,reduceCtorEq,Nat.reduceEqDiff,Nat.reduceAdd]
  have g1:(st.1 ++ [R]).length=st.1.length+1:=by simp
  have c1:InU H.length K2.length 27 3 K2 (H3.length+1) (vs.take st.1.length ++ [pv]) (st.1 ++ [R]):=by rw [k3];exact k2
  have c2:K2[q']?=some (.cells (ints sn) 3 false):=k4 _ _ hqo' hq'
  have c5:A<+:K2:=prefix_of fun o z hz=>k4 o z (by have:=at_lt hz;omega) (pre_at (hp.trans (p2.trans hp3)) hz)
  have n1:q' ≠ H3.length+1:=by have:=at_lt hq';omega
  have n2:A.length<=H3.length+1:=by omega
  refine ⟨m - 1,by omega,i+1,(st.1 ++ [R],sn),H3.length+1,vs.take st.1.length ++ [pv],q',?_⟩
  simp only [g1]
  (repeat' first | exact hf | exact c1 | exact c2 | exact c5 | exact n1 | exact n2 | exact hsn | apply And.intro) <;> first | (simp only [Value.int.injEq,true_and];omega) | omega | rfl | assumption | (simp;done) | (simp;omega)
def without (xs ys:List Int):List Int:=xs.filter fun x=>decide (¬ x ∈ ys)
theorem without_step (xs ys:List Int)(i:Nat)(hi:i<xs.length):without (xs.take (i+1)) ys=without (xs.take i) ys ++ if xs.getD i 0 ∈ ys then [] else [xs.getD i 0]:=by
 unfold without
 rw [List.take_add_one,List.getElem?_eq_getElem hi,List.filter_append]
 have hx:xs.getD i 0=xs[i]:=by simp [hi]
 rw [hx]
 by_cases h:xs[i] ∈ ys <;> simp [h]
theorem without_len (xs ys:List Int):(without xs ys).length<=xs.length:=List.length_filter_le _ _
def cd178:Cd:=(.seq (.reg [⟨⟨some 4,.assign (.const (.slice none 0 0)),none⟩,[]⟩]) (.seq (.reg [⟨⟨some 7,.buildSlice 27 0 #[],none⟩,[]⟩,⟨⟨some 5,.assign (.tmp 7),none⟩,[]⟩]) (.seq (.seq (.reg [⟨⟨some 6,.assign (.const (.int .i64 0)),none⟩,[]⟩]) (.block 0 (.loop (.seq (.seq (.reg [⟨⟨some 8,.move (.tmp 6),none⟩,[]⟩,⟨⟨some 9,.move (.tmp 0),none⟩,[]⟩,⟨⟨some 10,.call ⟨(.builtin .len),#[.tmp 9],#[27]⟩,none⟩,[]⟩,⟨⟨some 11,.binOp .lss 3 (.tmp 8) (.tmp 10) 3,none⟩,[]⟩]) (.cond (.tmp 11) .skip (.exit 0))) (.seq (.block 1 (.seq (.reg [⟨⟨some 14,.move (.tmp 1),none⟩,[]⟩,⟨⟨some 15,.move (.tmp 0),none⟩,[]⟩,⟨⟨some 16,.move (.tmp 6),none⟩,[]⟩,⟨⟨some 17,.indexAddr 27 (.tmp 15) (.tmp 16),none⟩,[]⟩,⟨⟨some 18,.load 3 (.tmp 17),none⟩,[]⟩,⟨⟨some 19,.call ⟨(.value (.func 163)),#[.tmp 14,.tmp 18],#[27,3]⟩,none⟩,[]⟩,⟨⟨some 20,.unOp .not 4 (.tmp 19),none⟩,[]⟩]) (.cond (.tmp 20) (.reg [⟨⟨some 21,.move (.tmp 5),none⟩,[]⟩,⟨⟨some 22,.move (.tmp 0),none⟩,[]⟩,
 ⟨⟨some 23,.move (.tmp 6),none⟩,[]⟩,
  ⟨⟨some 24,.indexAddr 27 (.tmp 22) (.tmp 23),none⟩,[]⟩,
  ⟨⟨some 25,.load 3 (.tmp 24),none⟩,[]⟩,
  ⟨⟨some 26,.buildSlice 27 1 #[(0,.tmp 25)],none⟩,[]⟩,
  ⟨⟨some 27,.call ⟨(.builtin .append),#[.tmp 21,.tmp 26],#[27,27]⟩,none⟩,[]⟩,
  ⟨⟨some 5,.assign (.tmp 27),none⟩,[]⟩]) .skip))) (.reg [⟨⟨some 12,.move (.tmp 6),none⟩,[]⟩,
  ⟨⟨some 13,.binOp .add 3 (.tmp 12) (.const (.int .i64 1)) 3,none⟩,[]⟩,
  ⟨⟨some 6,.assign (.tmp 13),none⟩,[]⟩])))))) (.seq (.reg [⟨⟨some 28,.move (.tmp 5),none⟩,[]⟩,
  ⟨⟨some 4,.assign (.tmp 28),none⟩,[]⟩]) .ret))))
theorem in178:InT Tryz.prog 178 2 [.tmp 4] cd178:=InT.mk (by kernel_rfl) [] Tryz.func178 rfl (by kernel_rfl) (by kernel_rfl) (of_decide_eq_true (by kernel_rfl)) (by kernel_rfl)
end Go.Proofs.YtlcipphiflcaiaaGreat.Ai
namespace Go.Proofs.YtlcipphiflcaiaaGreat.Ai
open Go Go.RowKit
theorem l3Only_c (v w:Value)(xs ys:List Int)(H:AH)(hr:Row 3 H v xs)(hy:Row 3 H w ys)(hlen:xs.length<=1000000)(hlen2:ys.length<=1000000) :
  ACalls Tryz.prog 178 [v,w] H fun r H'=>Own 3 H H' r (without xs ys)/\H<+:H':=by
 refine in178 rfl ?_
 intro Q hQ
 simp (disch:=omega) only [cd178,SS,eq_self,reduceIte,reduceCtorEq,Nat.reduceEqDiff,Nat.reduceAdd]
 refine LoopH.by (fun m s H'=>∃ i,m+i=xs.length/\s 0=v/\s 1=w/\s 6=.int .i64 ((i:Nat):Int)/\Own 3 H H' (s 5) (without (xs.take i) ys)/\H<+:H') xs.length ?_ ?_
 ·exact ⟨0,by simp,rfl,rfl,rfl,.inr ⟨H.length,rfl,Nat.le_refl _,at_new ..⟩,List.prefix_append _ _⟩
 ·rintro m s H' ⟨i,hm,h0,h1,h6,ho,hp⟩
  have hr':=hr.pre hp
  have hy':=hy.pre hp
  generalize hu:s 5=u at *
  simp (disch:=omega) only [h0,h1,h6,hu,hr'.len Tryz.underlying27,SS,eq_self,reduceIte,reduceCtorEq,Nat.reduceEqDiff,Nat.reduceAdd]
  refine brD.intro (fun g=>?_) (fun g=>?_)
  ·have hi:i<xs.length:=by omega
   have st:=without_step xs ys i hi
   have le:(without (xs.take i) ys).length<=i:=by
    unfold without
    refine Nat.le_trans (List.length_filter_le _ _) ?_
    simp;omega
   simp (disch:=omega) only [h0,h1,h6,hu,hr'.ix Tryz.underlying27 cs3,hr'.cell,Int.toNat_natCast,SS,eq_self,reduceIte,reduceCtorEq,Nat.reduceEqDiff,Nat.reduceAdd]
   refine CallH.by (l1Has_c w ys _ H' hy' (by omega)) ?_
   rintro _ _ ⟨rfl,rfl⟩
   simp (disch:=omega) only [SS,eq_self,reduceIte,reduceCtorEq,Nat.reduceEqDiff,Nat.reduceAdd]
   refine brD.intro (fun e=>?_) (fun e=>?_)
   ·rw [if_pos e,List.append_nil] at st
    simp (disch:=omega) only [h0,h1,h6,hu,wrap64,SS,eq_self,reduceIte,reduceCtorEq,Nat.reduceEqDiff,Nat.reduceAdd]
    refine ⟨m - 1,by omega,i+1,?_⟩
    rw [st]
    (repeat' apply And.intro) <;> first | exact ho | exact hp | (simp only [Value.int.injEq,true_and];omega) | omega | rfl | assumption | (simp;done) | (simp;omega)
   ·rw [if_neg e] at st
    obtain ⟨v',H2,k1,k2,k3,k4,k5,k6⟩:=own1_27 ho hp (by omega) (xs.getD i 0)
    simp (disch:=omega) only [h0,h1,h6,hu,hr'.ix Tryz.underlying27 cs3,hr'.cell,Int.toNat_natCast,k1,wrap64,SS,eq_self,reduceIte,reduceCtorEq,Nat.reduceEqDiff,Nat.reduceAdd]
    refine ⟨m - 1,by omega,i+1,?_⟩
    rw [st]
    (repeat' apply And.intro) <;> first | exact k2 | exact k3 | (simp only [Value.int.injEq,true_and];omega) | omega | rfl | assumption | (simp;done) | (simp;omega)
  ·simp (disch:=omega) only [hu,SS,eq_self,reduceIte,reduceCtorEq,Nat.reduceEqDiff,Nat.reduceAdd]
   refine hQ _ _ _ ?_
   simp (disch:=omega) only [hu,ho.row.tup,SS,eq_self,reduceIte,reduceCtorEq,Nat.reduceEqDiff,Nat.reduceAdd]
   rw [List.take_of_length_le (by omega)] at ho
   exact ⟨ho,hp⟩
def cd144:Cd:=(.seq (.reg [⟨⟨some 4,.box 26 (.tmp 0),none⟩,[]⟩,⟨⟨some 8,.assign (.const (.bool false)),none⟩,[]⟩]) (.seq (.reg [⟨⟨some 11,.move (.tmp 2),none⟩,[]⟩,⟨⟨some 12,.move (.tmp 3),none⟩,[]⟩,⟨⟨some 13,.call ⟨(.value (.func 178)),#[.tmp 11,.tmp 12],#[27,27]⟩,none⟩,[]⟩,⟨⟨some 14,.move (.tmp 3),none⟩,[]⟩,⟨⟨some 15,.move (.tmp 2),none⟩,[]⟩,⟨⟨some 16,.call ⟨(.value (.func 178)),#[.tmp 14,.tmp 15],#[27,27]⟩,none⟩,[]⟩,⟨⟨some 9,.assign (.tmp 13),none⟩,[]⟩,⟨⟨some 10,.assign (.tmp 16),none⟩,[]⟩]) (.seq (.seq (.reg [⟨⟨some 17,.move (.tmp 1),none⟩,[]⟩,⟨⟨some 18,.binOp .eql 3 (.tmp 17) (.const (.int .i64 2)) 3,none⟩,[]⟩]) (.cond (.tmp 18) (.seq (.reg [⟨⟨some 19,.move (.tmp 9),none⟩,[]⟩,⟨⟨some 20,.call ⟨(.builtin .len),#[.tmp 19],#[27]⟩,none⟩,[]⟩,⟨⟨some 21,.move (.tmp 10),none⟩,[]⟩,
 ⟨⟨some 22,.call ⟨(.builtin .len),#[.tmp 21],#[27]⟩,none⟩,[]⟩,⟨⟨some 23,.binOp .add 3 (.tmp 20) (.tmp 22) 3,none⟩,[]⟩,⟨⟨some 24,.binOp .eql 3 (.tmp 23) (.const (.int .i64 1)) 3,none⟩,[]⟩,⟨⟨some 8,.assign (.tmp 24),none⟩,[]⟩]) .ret) .skip)) (.seq (.reg [⟨⟨some 25,.move (.tmp 9),none⟩,[]⟩,⟨⟨some 26,.call ⟨(.builtin .len),#[.tmp 25],#[27]⟩,none⟩,[]⟩,⟨⟨some 27,.binOp .eql 3 (.tmp 26) (.const (.int .i64 1)) 3,none⟩,[]⟩,⟨⟨some 28,.move (.tmp 27),none⟩,[]⟩,⟨⟨some 29,.move (.tmp 10),some (28,true)⟩,[]⟩,⟨⟨some 30,.call ⟨(.builtin .len),#[.tmp 29],#[27]⟩,some (28,true)⟩,[]⟩,⟨⟨some 31,.binOp .eql 3 (.tmp 30) (.const (.int .i64 1)) 3,some (28,true)⟩,[]⟩,⟨⟨some 32,.pick (.tmp 28) (.tmp 31) (.const (.bool false)),none⟩,[]⟩,⟨⟨some 33,.move (.tmp 32),none⟩,[]⟩,
 ⟨⟨some 34,.move (.tmp 1),some (33,true)⟩,[]⟩,⟨⟨some 35,.binOp .eql 3 (.tmp 34) (.const (.int .i64 1)) 3,some (33,true)⟩,[]⟩,⟨⟨some 36,.move (.tmp 35),some (33,true)⟩,[]⟩,⟨⟨some 37,.load 26 (.tmp 4),some (36,false)⟩,[]⟩,⟨⟨some 38,.move (.tmp 9),some (36,false)⟩,[]⟩,⟨⟨some 39,.indexAddr 27 (.tmp 38) (.const (.int .i64 0)),some (36,false)⟩,[]⟩,⟨⟨some 40,.load 3 (.tmp 39),some (36,false)⟩,[]⟩,⟨⟨some 41,.move (.tmp 10),some (36,false)⟩,[]⟩,⟨⟨some 42,.indexAddr 27 (.tmp 41) (.const (.int .i64 0)),some (36,false)⟩,[]⟩,⟨⟨some 43,.load 3 (.tmp 42),some (36,false)⟩,[]⟩,⟨⟨some 44,.call ⟨(.value (.func 175)),#[.tmp 37,.tmp 40,.tmp 43],#[26,3,3]⟩,some (36,false)⟩,[]⟩,⟨⟨some 45,.pick (.tmp 36) (.const (.bool true)) (.tmp 44),some (33,true)⟩,[]⟩,
 ⟨⟨some 46,.pick (.tmp 33) (.tmp 45) (.const (.bool false)),none⟩,[]⟩,
  ⟨⟨some 8,.assign (.tmp 46),none⟩,[]⟩]) .ret))))
theorem in144:InT Tryz.prog 144 4 [.tmp 8] cd144:=InT.mk (by kernel_rfl) [(4,[(0,false),(1,false),(2,false),(3,false),(4,false),(5,false),(6,false),(7,false),(8,false),(9,false),(10,false),(11,false),(12,false),(13,false),(14,false),(15,false),(16,false),(17,false),(18,false),(19,true),(20,false),(21,false),(22,false)])] Tryz.func144 rfl (by kernel_rfl) (by kernel_rfl) (of_decide_eq_true (by kernel_rfl)) (by kernel_rfl)
def cd77:Cd:=(.seq (.reg [⟨⟨some 3,.box 26 (.tmp 0),none⟩,[]⟩,⟨⟨some 6,.alloc 34,none⟩,[]⟩]) (.seq (.reg [⟨⟨some 10,.move (.tmp 2),none⟩,[]⟩,⟨⟨some 11,.buildSlice 24 0 #[],none⟩,[]⟩,⟨⟨some 12,.build 34 #[(0,.tmp 10),(1,.tmp 11)],none⟩,[]⟩,⟨⟨some 7,.alloc 34,none⟩,[]⟩,⟨⟨none,.store 34 (.tmp 7) (.tmp 12),none⟩,[]⟩]) (.seq (.seq (.reg [⟨⟨some 8,.assign (.const (.int .i64 0)),none⟩,[]⟩]) (.block 0 (.loop (.seq (.seq (.reg [⟨⟨some 13,.move (.tmp 8),none⟩,[]⟩,⟨⟨some 14,.move (.tmp 2),none⟩,[]⟩,⟨⟨some 15,.call ⟨(.builtin .len),#[.tmp 14],#[32]⟩,none⟩,[]⟩,⟨⟨some 16,.binOp .lss 3 (.tmp 13) (.tmp 15) 3,none⟩,[]⟩]) (.cond (.tmp 16) .skip (.exit 0))) (.seq (.block 1 (.seq (.reg [⟨⟨some 19,.move (.tmp 8),none⟩,[]⟩,⟨⟨some 20,.binOp .add 3 (.tmp 19) (.const (.int .i64 1)) 3,none⟩,[]⟩,⟨⟨some 9,.assign (.tmp 20),none⟩,[]⟩]) (.block 2 (.loop (.seq (.seq (.reg [⟨⟨some 21,.move (.tmp 9),none⟩,[]⟩,⟨⟨some 22,.move (.tmp 2),none⟩,[]⟩,
 ⟨⟨some 23,.call ⟨(.builtin .len),#[.tmp 22],#[32]⟩,none⟩,[]⟩,⟨⟨some 24,.binOp .lss 3 (.tmp 21) (.tmp 23) 3,none⟩,[]⟩]) (.cond (.tmp 24) .skip (.exit 2))) (.seq (.block 3 (.seq (.reg [⟨⟨some 27,.load 26 (.tmp 3),none⟩,[]⟩,⟨⟨some 28,.move (.tmp 1),none⟩,[]⟩,⟨⟨some 29,.move (.tmp 2),none⟩,[]⟩,⟨⟨some 30,.move (.tmp 8),none⟩,[]⟩,⟨⟨some 31,.indexAddr 32 (.tmp 29) (.tmp 30),none⟩,[]⟩,⟨⟨some 32,.load 27 (.tmp 31),none⟩,[]⟩,⟨⟨some 33,.move (.tmp 2),none⟩,[]⟩,⟨⟨some 34,.move (.tmp 9),none⟩,[]⟩,⟨⟨some 35,.indexAddr 32 (.tmp 33) (.tmp 34),none⟩,[]⟩,⟨⟨some 36,.load 27 (.tmp 35),none⟩,[]⟩,⟨⟨some 37,.call ⟨(.value (.func 144)),#[.tmp 27,.tmp 28,.tmp 32,.tmp 36],#[26,3,27,27]⟩,none⟩,[]⟩]) (.cond (.tmp 37) (.reg [⟨⟨some 38,.fieldAddr 34 (.tmp 7) 1,none⟩,[]⟩,
 ⟨⟨some 39,.load 24 (.tmp 38),none⟩,[]⟩,⟨⟨some 40,.move (.tmp 8),none⟩,[]⟩,⟨⟨some 41,.move (.tmp 9),none⟩,[]⟩,⟨⟨some 42,.build 115 #[(0,.tmp 40),(1,.tmp 41)],none⟩,[]⟩,⟨⟨some 43,.buildSlice 24 1 #[(0,.tmp 42)],none⟩,[]⟩,⟨⟨some 44,.call ⟨(.builtin .append),#[.tmp 39,.tmp 43],#[24,24]⟩,none⟩,[]⟩,⟨⟨some 45,.fieldAddr 34 (.tmp 7) 1,none⟩,[]⟩,⟨⟨none,.store 24 (.tmp 45) (.tmp 44),none⟩,[]⟩]) .skip))) (.reg [⟨⟨some 25,.move (.tmp 9),none⟩,[]⟩,⟨⟨some 26,.binOp .add 3 (.tmp 25) (.const (.int .i64 1)) 3,none⟩,[]⟩,⟨⟨some 9,.assign (.tmp 26),none⟩,[]⟩]))))))) (.reg [⟨⟨some 17,.move (.tmp 8),none⟩,[]⟩,⟨⟨some 18,.binOp .add 3 (.tmp 17) (.const (.int .i64 1)) 3,none⟩,[]⟩,⟨⟨some 8,.assign (.tmp 18),none⟩,[]⟩])))))) (.seq (.reg [⟨⟨some 46,.load 34 (.tmp 7),none⟩,[]⟩,
 ⟨⟨none,.store 34 (.tmp 6) (.tmp 46),none⟩,[]⟩]) .ret))))
theorem in77:InT Tryz.prog 77 3 [.cell 6 34] cd77:=InT.mk (by kernel_rfl) [(8,[(0,false),(1,false),(2,false),(3,false),(4,false),(5,false),(6,false),(7,false),(8,false),(9,false),(10,true)])] Tryz.func77 rfl (by kernel_rfl) (by kernel_rfl) (of_decide_eq_true (by kernel_rfl)) (by kernel_rfl)
end Go.Proofs.YtlcipphiflcaiaaGreat.Ai
namespace Go.Proofs.YtlcipphiflcaiaaGreat.Ai
open Go Go.RowKit
def stB (es:List (Int × Int))(kd:Int)(x y:List Int):Bool :=
 if kd=2 then decide (((without x y).length:Int)+((without y x).length:Int)=1)
 else decide (((without x y).length:Int)=1) && (decide (((without y x).length:Int)=1) && (decide (kd=1) || nearB es ((without x y).getD 0 0) ((without y x).getD 0 0)))
theorem wo_le (x y:List Int):(without x y).length<=x.length:=by unfold without;exact List.length_filter_le _ _
theorem l3Step_c (n kd:Int)(v w u:Value)(es:List (Int × Int))(xs ys:List Int)(H:AH)(hr:RowP 115 H v es)(hes:es.length<=1099511627776)(hx:Row 3 H w xs)(hy:Row 3 H u ys)(hlx:xs.length<=1000)(hly:ys.length<=1000) :
  ACalls Tryz.prog 144 [.agg (List.toArray [.int .i64 n,v]),.int .i64 kd,w,u] H fun r H'=>r=.bool (stB es kd xs ys)/\H<+:H':=by
 refine in144 rfl ?_
 intro Q hQ
 simp (disch:=omega) only [cd144,hr.boxG,SS,eq_self,reduceIte,reduceCtorEq,Nat.reduceEqDiff,Nat.reduceAdd]
 generalize hA:H ++ [AObj.cells [.int .i64 n,v] 26 false]=A
 have pA:H<+:A:=by rw [<- hA];exact List.prefix_append _ _
 have cA:A[H.length]?=some (.cells [.int .i64 n,v] 26 false):=by rw [<- hA];exact at_new ..
 have rA:=hr.pre pA
 refine CallH.by (l3Only_c w u xs ys A (hx.pre pA) (hy.pre pA) (by omega) (by omega)) ?_
 rintro p B ⟨hp,pB⟩
 simp (disch:=omega) only [SS,eq_self,reduceIte,reduceCtorEq,Nat.reduceEqDiff,Nat.reduceAdd]
 refine CallH.by (l3Only_c u w ys xs B ((hy.pre pA).pre pB) ((hx.pre pA).pre pB) (by omega) (by omega)) ?_
 rintro q C ⟨hq,pC⟩
 have hpC:=hp.row.pre pC
 have hqC:=hq.row
 have cC:=pre_at (pB.trans pC) cA
 have pHC:=pA.trans (pB.trans pC)
 have l1:=wo_le xs ys
 have l2:=wo_le ys xs
 simp (disch:=omega) only [SS,eq_self,reduceIte,reduceCtorEq,Nat.reduceEqDiff,Nat.reduceAdd]
 refine brD.intro (fun e=>?_) (fun e=>?_)
 ·simp (disch:=omega) only [hpC.len Tryz.underlying27,hqC.len Tryz.underlying27,wrap64,SS,eq_self,reduceIte,reduceCtorEq,Nat.reduceEqDiff,Nat.reduceAdd]
  refine hQ _ _ _ ?_
  simp (disch:=omega) only [SS,eq_self,reduceIte,reduceCtorEq,Nat.reduceEqDiff,Nat.reduceAdd]
  exact ⟨by unfold stB;rw [if_pos e],pHC⟩
 by_cases e1:((without xs ys).length:Int)=1
 rotate_left
 ·simp (disch:=omega) only [hpC.len Tryz.underlying27,decide_eq_false e1,SS,eq_self,reduceIte,reduceCtorEq,Nat.reduceEqDiff,Nat.reduceAdd]
  refine hQ _ _ _ ?_
  simp (disch:=omega) only [SS,eq_self,reduceIte,reduceCtorEq,Nat.reduceEqDiff,Nat.reduceAdd]
  exact ⟨by unfold stB;rw [if_neg e,decide_eq_false e1];rfl,pHC⟩
 by_cases e2:((without ys xs).length:Int)=1
 rotate_left
 ·simp (disch:=omega) only [hpC.len Tryz.underlying27,decide_eq_true e1,hqC.len Tryz.underlying27,decide_eq_false e2,SS,eq_self,reduceIte,reduceCtorEq,Nat.reduceEqDiff,Nat.reduceAdd]
  refine hQ _ _ _ ?_
  simp (disch:=omega) only [SS,eq_self,reduceIte,reduceCtorEq,Nat.reduceEqDiff,Nat.reduceAdd]
  exact ⟨by unfold stB;rw [if_neg e,decide_eq_true e1,decide_eq_false e2];rfl,pHC⟩
 by_cases e3:kd=1
 ·simp (disch:=omega) only [hpC.len Tryz.underlying27,decide_eq_true e1,hqC.len Tryz.underlying27,decide_eq_true e2,decide_eq_true e3,SS,eq_self,reduceIte,reduceCtorEq,Nat.reduceEqDiff,Nat.reduceAdd]
  refine hQ _ _ _ ?_
  simp (disch:=omega) only [SS,eq_self,reduceIte,reduceCtorEq,Nat.reduceEqDiff,Nat.reduceAdd]
  exact ⟨by unfold stB;rw [if_neg e,decide_eq_true e1,decide_eq_true e2,decide_eq_true e3];rfl,pHC⟩
 have c1:=hpC.cell (show 0<(without xs ys).length by omega)
 have c2:=hqC.cell (show 0<(without ys xs).length by omega)
 rw [Nat.add_zero] at c1 c2
 simp (disch:=omega) only [hpC.len Tryz.underlying27,decide_eq_true e1,hqC.len Tryz.underlying27,decide_eq_true e2,decide_eq_false e3,ld_agg ag26 cs26 cC,hpC.ix Tryz.underlying27 cs3,hqC.ix Tryz.underlying27 cs3,Int.toNat_zero,Nat.add_zero,c1,c2,SS,eq_self,reduceIte,reduceCtorEq,Nat.reduceEqDiff,Nat.reduceAdd]
 refine CallH.by (l2Near_c n v es _ _ C (hr.pre pHC) hes) ?_
 rintro _ D ⟨rfl,pD⟩
 simp (disch:=omega) only [SS,eq_self,reduceIte,reduceCtorEq,Nat.reduceEqDiff,Nat.reduceAdd]
 refine hQ _ _ _ ?_
 simp (disch:=omega) only [SS,eq_self,reduceIte,reduceCtorEq,Nat.reduceEqDiff,Nat.reduceAdd]
 exact ⟨by unfold stB;rw [if_neg e,decide_eq_true e1,decide_eq_true e2,decide_eq_false e3];rfl,pHC.trans pD⟩
theorem l3Space_c {H0:AH}(n kd:Int)(v:Value)(es:List (Int × Int))(hg:RowP 115 H0 v es)(hes:es.length<=1099511627776){a:Value}{ls:List (List Int)}{lo:Nat}(hL:InL lo H0.length 27 3 H0 a ls)(h9:ls.length<=1000)(hlen:∀ l ∈ ls,l.length<=1000) :
  ACalls Tryz.prog 77 [.agg (List.toArray [.int .i64 n,v]),.int .i64 kd,a] H0 fun r H'=>∃ b,r=.agg (List.toArray [a,b])/\InP H0.length H'.length 115 H' b (steps (stB es kd) ls)/\H0<+:H':=by
 refine in77 rfl ?_
 intro Q hQ
 obtain ⟨us,r1',r2,r3'⟩:=hL.parts
 obtain ⟨pa,hpa⟩:=r1'.shape
 simp (disch:=omega) only [cd77,hg.boxG,alloc_sp,SS,eq_self,reduceIte,reduceCtorEq,Nat.reduceEqDiff,Nat.reduceAdd]
 generalize hH:H0 ++ [AObj.cells [.int .i64 n,v] 26 false]=H
 have pH:H0<+:H:=by rw [<- hH];exact List.prefix_append _ _
 have cH:H[H0.length]?=some (.cells [.int .i64 n,v] 26 false):=by rw [<- hH];exact at_new ..
 have rH:=hg.pre pH
 have r1:=r1'.pre pH
 have r3:∀ i,i<ls.length->Row 3 H (us.getD i undef) (ls.getD i []):=fun i hi=>(r3' i hi).row.1.pre pH
 have lH:H.length=H0.length+1:=by rw [<- hH];simp
 generalize hA:H ++ [AObj.cells [.slice none 0 0,.slice none 0 0] 34 false]=A
 have pA:H<+:A:=by rw [<- hA];exact List.prefix_append _ _
 have cA:A[H.length]?=some (.cells [.slice none 0 0,.slice none 0 0] 34 false):=by rw [<- hA];exact at_new ..
 have lA:A.length=H.length+1:=by rw [<- hA];simp
 generalize hE:A ++ [AObj.cells [] 115 false]=E
 have pE:A<+:E:=by rw [<- hE];exact List.prefix_append _ _
 have lE:E.length=A.length+1:=by rw [<- hE];simp
 have m0:MineP 115 A E (.slice (some ⟨A.length,0,none⟩) 0 0) []:=by rw [<- hE];exact MineP.nil0 (P:=Tryz.prog) A A (Nat.le_refl _)
 have hb2:=bld_sp2 pa (some ⟨A.length,0,none⟩) us.length us.length 0 0
 rw [<- hpa] at hb2
 have st1:=st_ss (at_new E (.cells [.slice none 0 0,.slice none 0 0] 34 false)) rfl pa (some ⟨A.length,0,none⟩) us.length us.length 0 0
 rw [set_new,<- hpa] at st1
 simp (disch:=omega) only [hb2,alloc_sp,st1,SS,eq_self,reduceIte,reduceCtorEq,Nat.reduceEqDiff,Nat.reduceAdd]
 generalize hG:E ++ [AObj.cells [a,.slice (some ⟨A.length,0,none⟩) 0 0] 34 false]=G
 have pG:E<+:G:=by rw [<- hG];exact List.prefix_append _ _
 have cG:G[E.length]?=some (.cells [a,.slice (some ⟨A.length,0,none⟩) 0 0] 34 false):=by rw [<- hG];exact at_new ..
 have lG:G.length=E.length+1:=by rw [<- hG];simp
 have pAG:=pE.trans pG
 have rowA:∀ {H'},A<+:H'->RowV 27 H' a us:=fun hp=>r1.pre (pA.trans hp)
 have rowI:∀ {H'} (i:Nat),i<ls.length->A<+:H'->Row 3 H' (us.getD i undef) (ls.getD i []):=fun i hi hp=>(r3 i hi).pre (pA.trans hp)
 have sm:∀ i,i<ls.length->(ls.getD i []).length<=1000:=fun i hi=>hlen _ (by simp [hi])
 have gG:∀ {H'},A<+:H'->H'[H0.length]?=some (.cells [.int .i64 n,v] 26 false):=fun hp=>pre_at (pA.trans hp) cH
 refine LoopH.by (fun m s H'=>∃ i st,m+i=ls.length/\s 1=.int .i64 kd/\s 2=a/\s 3=.pointer (some ⟨H0.length,0,none⟩)/\s 6=.pointer (some ⟨H.length,0,none⟩)/\s 7=.pointer (some ⟨E.length,0,none⟩)/\s 8=.int .i64 ((i:Nat):Int)/\H'[E.length]?=some (.cells [a,st] 34 false)/\(rowO st=A.length∨G.length<=rowO st)/\st ≠ .slice none 0 0/\MineP 115 A H' st (stpO (stB es kd) ls i)/\A<+:H') ls.length ?_ ?_
 ·exact ⟨0,.slice (some ⟨A.length,0,none⟩) 0 0,by simp,rfl,rfl,rfl,rfl,rfl,rfl,cG,.inl rfl,(by intro e;cases e),m0.pre pG,pAG⟩
 rintro m s H' ⟨i,st,hm,s1,s2,s3,s6,s7,s8,hc5,hst,hsn,hmn,hpp⟩
 simp (disch:=omega) only [s1,s2,s3,s6,s7,s8,(rowA hpp).len Tryz.underlying32,r2,SS,eq_self,reduceIte,reduceCtorEq,Nat.reduceEqDiff,Nat.reduceAdd]
 refine brD.intro (fun g=>?_) (fun g=>?_)
 rotate_left
 ·have hi:i=ls.length:=by omega
  subst hi
  have hrow:SpRow H' a st ls (stpO (stB es kd) ls ls.length):=⟨⟨_,(hL.row.pre pH).pre (pA.trans hpp)⟩,hmn.row⟩
  have cAH:=pre_at hpp cA
  have hstore:=hrow.store cAH rfl
  simp (disch:=omega) only [s1,s2,s3,s6,s7,s8,ld_agg ag34 cs34 hc5,hstore,SS,eq_self,reduceIte,reduceCtorEq,Nat.reduceEqDiff,Nat.reduceAdd]
  have d4:=at_set (d:=.cells [a,st] 34 false) cAH
  have lH':=hpp.length_le
  refine hQ _ _ _ (end_cell _ _ _ _ _ _ (.agg (List.toArray [a,st])) ?_ rfl ⟨st,rfl,?_,?_⟩)
  ·simp (disch:=omega) only [s6,ld_agg ag34 cs34 d4,SS,eq_self,reduceIte,reduceCtorEq,Nat.reduceEqDiff,Nat.reduceAdd]
  ·rcases InP.of hmn with q | ⟨o,zs,q1,q2,q3,q4,q5⟩
   ·exact .inl q
   ·exact .inr ⟨o,zs,q1,by omega,by simpa using q3,by rw [List.getElem?_set_ne (by omega)];exact q4,q5⟩
  ·exact pre_set (pH.trans (pA.trans hpp)) (by omega) _
 have hi:i<ls.length:=by omega
 simp (disch:=omega) only [s1,s2,s3,s6,s7,s8,wrap64,SS,eq_self,reduceIte,reduceCtorEq,Nat.reduceEqDiff,Nat.reduceAdd]
 refine LoopH.by (fun m' s' H''=>∃ j st',m'+j=ls.length - (i+1)/\s' 1=.int .i64 kd/\s' 2=a/\s' 3=.pointer (some ⟨H0.length,0,none⟩)/\s' 6=.pointer (some ⟨H.length,0,none⟩)/\s' 7=.pointer (some ⟨E.length,0,none⟩)/\s' 8=.int .i64 ((i:Nat):Int)/\s' 9=.int .i64 ((i+1+j:Nat):Int)/\H''[E.length]?=some (.cells [a,st'] 34 false)/\(rowO st'=A.length∨G.length<=rowO st')/\st' ≠ .slice none 0 0/\MineP 115 A H'' st' (stpO (stB es kd) ls i ++ stpI (stB es kd) ls i j)/\A<+:H'') (ls.length - (i+1)) ?_ ?_
 ·refine ⟨0,st,by simp,?_⟩
  simp only [SS,eq_self,reduceIte,reduceCtorEq,Nat.reduceEqDiff,Nat.reduceAdd,s1,s2,s3,s6,s7,s8]
  have f0:MineP 115 A H' st (stpO (stB es kd) ls i ++ stpI (stB es kd) ls i 0):=by rw [stpI,List.append_nil];exact hmn
  (repeat' first | exact hc5 | exact hst | exact hsn | exact f0 | exact hpp | apply And.intro) <;> first | (simp only [Value.int.injEq,true_and];omega) | omega | rfl | assumption | (simp;done) | (simp;omega)
 ·rintro m' s' H'' ⟨j,st',hm',g1,g2,g3,g6,g7,g8,g9,hc5',hst',hsn',hmn',hpp'⟩
  simp (disch:=omega) only [g1,g2,g3,g6,g7,g8,g9,(rowA hpp').len Tryz.underlying32,r2,SS,eq_self,reduceIte,reduceCtorEq,Nat.reduceEqDiff,Nat.reduceAdd]
  refine brD.intro (fun q=>?_) (fun q=>?_)
  ·have hj:i+1+j<ls.length:=by omega
   have hci:=(rowA hpp').cell (show i<us.length by omega)
   have hcj:=(rowA hpp').cell (show i+1+j<us.length by omega)
   have hgi:=sm i hi
   have hgj:=sm _ hj
   have cgH:=gG hpp'
   simp (disch:=omega) only [g1,g2,g3,g6,g7,g8,g9,ld_agg ag26 cs26 cgH,(rowA hpp').ix Tryz.underlying32 cs27,Int.toNat_natCast,hci,hcj,SS,eq_self,reduceIte,reduceCtorEq,Nat.reduceEqDiff,Nat.reduceAdd]
   refine CallH.by (l3Step_c n kd v _ _ es _ _ H'' (hg.pre (pH.trans (pA.trans hpp'))) hes (rowI i hi hpp') (rowI (i+1+j) hj hpp') (by omega) (by omega)) ?_
   rintro _ K ⟨rfl,pK⟩
   have hcK:=pre_at pK hc5'
   have hpK:=hpp'.trans pK
   have hmK:=hmn'.pre pK
   have hsl1:=stpO_len (stB es kd) ls i
   have hsl2:=stpI_len (stB es kd) ls i j
   have hmul:i * ls.length<=1000 * 1000:=Nat.mul_le_mul (by omega) (by omega)
   have lK:=hpK.length_le
   have l5:=at_lt hc5'
   have hne:∀ o,o=E.length->o ≠ rowO st':=fun o ho=>by omega
   simp (disch:=omega) only [g1,g2,g3,g6,g7,g8,g9,SS,eq_self,reduceIte,reduceCtorEq,Nat.reduceEqDiff,Nat.reduceAdd]
   refine brH.intro (fun ht=>?_) (fun ht=>?_)
   ·have hstep:stpI (stB es kd) ls i (j+1)=stpI (stB es kd) ls i j ++ [((i:Int),((i+1+j:Nat):Int))]:=by rw [stpI,if_pos ht]
    obtain ⟨st2,H3,k1,k2,k3,k4,k5,k6⟩:=own1_24 hmK hpK (by rw [List.length_append];omega) (i:Int) ((i+1+j:Nat):Int)
    have d5:H3[E.length]?=some (.cells [a,st'] 34 false):=k4 _ _ (.inr (hne _ rfl)) hcK
    obtain ⟨q2,hq2⟩:=k2.row.shape
    have t2:st2.cells.toList=[st2]:=by rw [hq2];rfl
    have hst3:=st_at (P:=Tryz.prog) (t:=24) (i:=1) (y:=st2) cs24 d5 (by show 1<2;decide) k6 t2
    have lGK:G.length<=K.length:=by have:=pK.length_le;omega
    simp (disch:=omega) only [ht,g1,g2,g3,g6,g7,g8,g9,cell_of hcK,build_a2,wrap64,k1,hst3,SS,eq_self,reduceIte,reduceCtorEq,Nat.reduceEqDiff,Nat.reduceAdd]
    have f5:(H3.set E.length (.cells ([a,st'].set 1 st2) 34 false))[E.length]?=some (.cells [a,st2] 34 false):=by
     rw [List.getElem?_set_self (at_lt d5)];rfl
    have fs1:rowO st2=A.length∨G.length<=rowO st2:=.inr (by omega)
    have fs2:st2 ≠ .slice none 0 0:=by
     intro hh
     rw [hh] at k5
     have:rowO (Value.slice none 0 0)=0:=rfl
     omega
    have fm:MineP 115 A (H3.set E.length (.cells ([a,st'].set 1 st2) 34 false)) st2 (stpO (stB es kd) ls i ++ stpI (stB es kd) ls i (j+1)):=by
     rw [hstep,<- List.append_assoc]
     exact k2.keepL fun hl y hy=>by rw [List.getElem?_set_ne (by omega)];exact hy
    have fp:A<+:H3.set E.length (.cells ([a,st'].set 1 st2) 34 false):=pre_set k3 (by omega) _
    refine ⟨m' - 1,by omega,j+1,st2,?_⟩
    (repeat' first | exact f5 | exact fs1 | exact fs2 | exact fm | exact fp | apply And.intro) <;> first | (simp only [Value.int.injEq,true_and];omega) | omega | rfl | assumption | (simp;done) | (simp;omega)
   ·have hstep:stpI (stB es kd) ls i (j+1)=stpI (stB es kd) ls i j:=by rw [stpI,if_neg (by rw [ht];decide),List.append_nil]
    rw [<- hstep] at hmK
    simp (disch:=omega) only [ht,g1,g2,g3,g6,g7,g8,g9,wrap64,SS,eq_self,reduceIte,reduceCtorEq,Nat.reduceEqDiff,Nat.reduceAdd]
    refine ⟨m' - 1,by omega,j+1,st',?_⟩
    (repeat' first | exact hcK | exact hst' | exact hsn' | exact hmK | exact hpK | apply And.intro) <;> first | (simp only [Value.int.injEq,true_and];omega) | omega | rfl | assumption | (simp;done) | (simp;omega)
  ·have hjj:j=ls.length - (i+1):=by omega
   subst hjj
   have hstO:stpO (stB es kd) ls (i+1)=stpO (stB es kd) ls i ++ stpI (stB es kd) ls i (ls.length - (i+1)):=rfl
   rw [<- hstO] at hmn'
   simp (disch:=omega) only [g1,g2,g3,g6,g7,g8,g9,wrap64,SS,eq_self,reduceIte,reduceCtorEq,Nat.reduceEqDiff,Nat.reduceAdd]
   refine ⟨m - 1,by omega,i+1,st',?_⟩
   (repeat' first | exact hc5' | exact hst' | exact hsn' | exact hmn' | exact hpp' | apply And.intro) <;> first | (simp only [Value.int.injEq,true_and];omega) | omega | rfl | assumption | (simp;done) | (simp;omega)
def cd55:Cd:=(.seq (.reg [⟨⟨some 1,.box 34 (.tmp 0),none⟩,[]⟩,⟨⟨some 2,.alloc 34,none⟩,[]⟩,⟨⟨some 3,.assign (.const (.bool false)),none⟩,[]⟩]) (.seq (.seq (.reg [⟨⟨some 4,.fieldAddr 34 (.tmp 1) 0,none⟩,[]⟩,⟨⟨some 5,.load 32 (.tmp 4),none⟩,[]⟩,⟨⟨some 6,.call ⟨(.builtin .len),#[.tmp 5],#[32]⟩,none⟩,[]⟩,⟨⟨some 7,.binOp .gtr 3 (.tmp 6) (.const (.int .i64 300)) 3,none⟩,[]⟩,⟨⟨some 8,.move (.tmp 7),none⟩,[]⟩,⟨⟨some 9,.fieldAddr 34 (.tmp 1) 1,some (8,false)⟩,[]⟩,⟨⟨some 10,.load 24 (.tmp 9),some (8,false)⟩,[]⟩,⟨⟨some 11,.call ⟨(.builtin .len),#[.tmp 10],#[24]⟩,some (8,false)⟩,[]⟩,⟨⟨some 12,.binOp .gtr 3 (.tmp 11) (.const (.int .i64 6000)) 3,some (8,false)⟩,[]⟩,⟨⟨some 13,.pick (.tmp 8) (.const (.bool true)) (.tmp 12),none⟩,[]⟩]) (.cond (.tmp 13) (.seq (.reg [⟨⟨some 14,.build 34 #[],none⟩,[]⟩,
 ⟨⟨none,.store 34 (.tmp 2) (.tmp 14),none⟩,[]⟩,
  ⟨⟨some 3,.assign (.const (.bool false)),none⟩,[]⟩]) .ret) .skip)) (.seq (.reg [⟨⟨some 15,.load 34 (.tmp 1),none⟩,[]⟩,
  ⟨⟨none,.store 34 (.tmp 2) (.tmp 15),none⟩,[]⟩,
  ⟨⟨some 3,.assign (.const (.bool true)),none⟩,[]⟩]) .ret)))
theorem in55:InT Tryz.prog 55 1 [.cell 2 34,.tmp 3] cd55:=InT.mk (by kernel_rfl) [] Tryz.func55 rfl (by kernel_rfl) (by kernel_rfl) (of_decide_eq_true (by kernel_rfl)) (by kernel_rfl)
end Go.Proofs.YtlcipphiflcaiaaGreat.Ai
namespace Go.Proofs.YtlcipphiflcaiaaGreat.Ai
open Go Go.RowKit
theorem orNone_c (a b:Value)(ls:List (List Int))(ps:List (Int × Int))(H:AH)(hr:SpRow H a b ls ps)(hl:ls.length<=300)(hp:ps.length<=6000) :
  ACalls Tryz.prog 55 [.agg (List.toArray [a,b])] H fun r H'=>r=.tuple (List.toArray [.agg (List.toArray [a,b]),.bool true])/\H<+:H':=by
 refine in55 rfl ?_
 intro Q hQ
 simp (disch:=omega) only [cd55,hr.box,SS,eq_self,reduceIte,reduceCtorEq,Nat.reduceEqDiff,Nat.reduceAdd]
 generalize hA0:H ++ [AObj.cells [a,b] 34 false]=A0
 have pA0:H<+:A0:=by rw [<- hA0];exact List.prefix_append _ _
 have cA0:A0[H.length]?=some (.cells [a,b] 34 false):=by rw [<- hA0];exact at_new ..
 simp (disch:=omega) only [alloc_sp,SS,eq_self,reduceIte,reduceCtorEq,Nat.reduceEqDiff,Nat.reduceAdd]
 generalize hA:A0 ++ [AObj.cells [.slice none 0 0,.slice none 0 0] 34 false]=A
 have pA:A0<+:A:=by rw [<- hA];exact List.prefix_append _ _
 have cA:A[A0.length]?=some (.cells [.slice none 0 0,.slice none 0 0] 34 false):=by rw [<- hA];exact at_new ..
 have cB:=pre_at pA cA0
 have rA:=hr.pre (pA0.trans pA)
 obtain ⟨bd,us,r1,r2,r3⟩:=rA.1
 have g1:¬ (300<(us.length:Int)):=by omega
 have g2:¬ (6000<(ps.length:Int)):=by omega
 have hst:=rA.store cA rfl
 simp (disch:=omega) only [cell_of cB,r1.len Tryz.underlying32,rA.2.len Tryz.underlying24,decide_eq_false g1,decide_eq_false g2,ld_agg ag34 cs34 cB,hst,SS,eq_self,reduceIte,reduceCtorEq,Nat.reduceEqDiff,Nat.reduceAdd]
 have d4:=at_set (d:=.cells [a,b] 34 false) cA
 refine hQ _ _ _ (end_cell2 _ _ _ _ _ _ _ (.agg (List.toArray [a,b])) (.bool true) ?_ rfl ?_ rfl ⟨rfl,?_⟩)
 ·simp (disch:=omega) only [ld_agg ag34 cs34 d4,SS,eq_self,reduceIte,reduceCtorEq,Nat.reduceEqDiff,Nat.reduceAdd]
 ·simp (disch:=omega) only [SS,eq_self,reduceIte,reduceCtorEq,Nat.reduceEqDiff,Nat.reduceAdd]
 ·exact pre_set (pA0.trans pA) (by have:=pA0.length_le;omega) _
def cd161:Cd:=(.seq (.reg [⟨⟨some 4,.assign (.const (.int .i64 0)),none⟩,[]⟩]) (.seq (.seq (.reg [⟨⟨some 6,.move (.tmp 0),none⟩,[]⟩,
 ⟨⟨some 7,.call ⟨(.builtin .len),#[.tmp 6],#[27]⟩,none⟩,[]⟩,
 ⟨⟨some 8,.move (.const (.int .i64 0)),none⟩,[]⟩]) (.block 0 (.loop (.seq (.reg [⟨⟨some 9,.binOp .lss 3 (.tmp 8) (.tmp 7) 3,none⟩,[]⟩]) (.seq (.cond (.tmp 9) .skip (.exit 0)) (.seq (.block 1 (.seq (.reg [⟨⟨some 10,.move (.tmp 8),none⟩,[]⟩,
 ⟨⟨some 5,.assign (.tmp 10),none⟩,[]⟩]) (.seq (.reg [⟨⟨some 11,.move (.tmp 1),none⟩,[]⟩,
 ⟨⟨some 12,.move (.tmp 0),none⟩,[]⟩,
 ⟨⟨some 13,.move (.tmp 5),none⟩,[]⟩,
 ⟨⟨some 14,.indexAddr 27 (.tmp 12) (.tmp 13),none⟩,[]⟩,
 ⟨⟨some 15,.load 3 (.tmp 14),none⟩,[]⟩,
 ⟨⟨some 16,.call ⟨(.value (.tmp 11)),#[.tmp 15],#[3]⟩,none⟩,[]⟩]) (.cond (.tmp 16) (.seq (.reg [⟨⟨some 17,.move (.tmp 5),none⟩,[]⟩,
 ⟨⟨some 4,.assign (.tmp 17),none⟩,[]⟩]) .ret) .skip)))) (.reg [⟨⟨some 18,.binOp .add 3 (.tmp 8) (.const (.int .i64 1)) 3,none⟩,[]⟩,
 ⟨⟨some 8,.move (.tmp 18),none⟩,[]⟩]))))))) (.seq (.reg [⟨⟨some 4,.assign (.const (.int .i64 (-1))),none⟩,[]⟩]) .ret)))
theorem in161:InT Tryz.prog 161 2 [.tmp 4] cd161:=InT.mk (by kernel_rfl) [] Tryz.func161 rfl (by kernel_rfl) (by kernel_rfl) (of_decide_eq_true (by kernel_rfl)) (by kernel_rfl)
def cd110:Cd:=(.seq (.reg [⟨⟨some 4,.assign (.const (.bool false)),none⟩,[]⟩]) (.seq (.reg [⟨⟨some 5,.move (.tmp 0),none⟩,[]⟩,
 ⟨⟨some 6,.move (.tmp 1),none⟩,[]⟩,
 ⟨⟨some 7,.call ⟨(.value (.func 161)),#[.tmp 5,.tmp 6],#[27,84]⟩,none⟩,[]⟩,
 ⟨⟨some 8,.binOp .geq 3 (.tmp 7) (.const (.int .i64 0)) 3,none⟩,[]⟩,
 ⟨⟨some 4,.assign (.tmp 8),none⟩,[]⟩]) .ret))
theorem in110:InT Tryz.prog 110 2 [.tmp 4] cd110:=InT.mk (by kernel_rfl) [] Tryz.func110 rfl (by kernel_rfl) (by kernel_rfl) (of_decide_eq_true (by kernel_rfl)) (by kernel_rfl)
end Go.Proofs.YtlcipphiflcaiaaGreat.Ai
namespace Go.Proofs.YtlcipphiflcaiaaGreat.Ai
open Go Go.RowKit
theorem I64.tdiv {x:Int}(h:I64 x):IntKind.i64.wrap (x.tdiv 10)=x.tdiv 10:=by
 obtain ⟨h1,h2⟩:=h
 have hle:(x.tdiv 10).natAbs<=x.natAbs:=by rw [Int.natAbs_tdiv];exact Nat.div_le_self _ _
 by_cases h0:0<=x
 ·have:=Int.tdiv_nonneg h0 (by decide:(0:Int)<=10)
  exact wrap64 (by omega) (by omega)
 ·rw [IntKind.wrap_i64]
  have:(x.tdiv 10).natAbs<=922337203685477580:=by
   rw [Int.natAbs_tdiv]
   show x.natAbs / 10<=_
   omega
  omega
def Crs (x y:Int):Prop:=x.tdiv 10<y.tdiv 10/\y.tdiv 10<x.tmod 10/\x.tmod 10<y.tmod 10∨y.tdiv 10<x.tdiv 10/\x.tdiv 10<y.tmod 10/\y.tmod 10<x.tmod 10
instance (x y:Int):Decidable (Crs x y):=inferInstanceAs (Decidable (_∨_))
theorem IndexFunc_c (v:Value)(xs:List Int)(p:Int->Bool)(g:FuncId)(caps:List Value)(H:AH)(hr:Row 3 H v xs)(hlen:xs.length<=1099511627776)
  (hp:∀ x ∈ xs,ACalls Tryz.prog g (.int .i64 x :: caps) H fun r H'=>r=.bool (p x)/\H=H') :
  ACalls Tryz.prog 161 [v,.func (.func g) #[] (List.toArray caps)] H fun r H'=>r=.int .i64 (idxP p xs 0)/\H=H':=by
 refine in161 rfl ?_
 intro Q hQ
 simp (disch:=omega) only [cd161,hr.len Tryz.underlying27,SS,eq_self,reduceIte,reduceCtorEq,Nat.reduceEqDiff,Nat.reduceAdd]
 refine LoopH.by (fun m s H'=>∃ i,m+i=xs.length/\s 0=v/\s 1=.func (.func g) #[] (List.toArray caps)/\s 8=.int .i64 ((i:Nat):Int)/\s 7=.int .i64 (xs.length:Int)/\H=H'/\idxP p xs 0=idxP p (xs.drop i) i) xs.length ?_ ?_
 ·exact ⟨0,by simp,rfl,rfl,rfl,rfl,rfl,by simp⟩
 ·rintro m s H' ⟨i,hm,h0,h1,h8,h7,rfl,hn⟩
  simp (disch:=omega) only [h0,h1,h8,h7,SS,eq_self,reduceIte,reduceCtorEq,Nat.reduceEqDiff,Nat.reduceAdd]
  refine brD.intro (fun g=>?_) (fun g=>?_) <;> simp (disch:=omega) only [h0,h1,h8,h7,hr.ix Tryz.underlying27 cs3,hr.cell,Int.toNat_natCast,SS,eq_self,reduceIte,reduceCtorEq,Nat.reduceEqDiff,Nat.reduceAdd]
  ·have hi:i<xs.length:=by omega
   have hg:xs.getD i 0=xs[i]:=by simp [hi]
   rw [idxP_step p xs i hi] at hn
   refine CallH.by (hp (xs.getD i 0) (by rw [hg];exact List.getElem_mem hi)) ?_
   rintro _ _ ⟨rfl,rfl⟩
   simp (disch:=omega) only [SS,eq_self,reduceIte,reduceCtorEq,Nat.reduceEqDiff,Nat.reduceAdd]
   refine brH.intro (fun e=>?_) (fun e=>?_) <;> simp (disch:=omega) only [h0,h1,h8,h7,wrap64,SS,eq_self,reduceIte,reduceCtorEq,Nat.reduceEqDiff,Nat.reduceAdd]
   ·refine hQ _ _ _ ?_
    simp (disch:=omega) only [SS,eq_self,reduceIte,reduceCtorEq,Nat.reduceEqDiff,Nat.reduceAdd]
    rw [hn,if_pos e]
   ·rw [if_neg (by rw [e];decide)] at hn
    exact ⟨m - 1,by omega,i+1,by omega,by simp,hn⟩
  ·refine hQ _ _ _ ?_
   simp (disch:=omega) only [SS,eq_self,reduceIte,reduceCtorEq,Nat.reduceEqDiff,Nat.reduceAdd]
   rw [hn,List.drop_of_length_le (by omega)];rfl
theorem ContainsFunc_c (v:Value)(xs:List Int)(p:Int->Bool)(g:FuncId)(caps:List Value)(H:AH)(hr:Row 3 H v xs)(hlen:xs.length<=1099511627776)
  (hp:∀ x ∈ xs,ACalls Tryz.prog g (.int .i64 x :: caps) H fun r H'=>r=.bool (p x)/\H=H') :
  ACalls Tryz.prog 110 [v,.func (.func g) #[] (List.toArray caps)] H fun r H'=>r=.bool (xs.any p)/\H=H':=by
 refine in110 rfl ?_
 intro Q hQ
 simp (disch:=omega) only [cd110,SS,eq_self,reduceIte,reduceCtorEq,Nat.reduceEqDiff,Nat.reduceAdd]
 refine CallH.by (IndexFunc_c v xs p g caps H hr hlen hp) ?_
 rintro _ _ ⟨rfl,rfl⟩
 simp (disch:=omega) only [SS,eq_self,reduceIte,reduceCtorEq,Nat.reduceEqDiff,Nat.reduceAdd]
 refine hQ _ _ _ ?_
 simp (disch:=omega) only [SS,eq_self,reduceIte,reduceCtorEq,Nat.reduceEqDiff,Nat.reduceAdd]
 have:=idxP_any p xs 0
 by_cases h:0<=idxP p xs 0
 ·simp [h,this.1 h]
 ·have h2:xs.any p=false:=by cases e:xs.any p <;> first | rfl | exact absurd (this.2 e) h
  simp [h,h2]
def Diag (n d:Int):Prop:=0<=d/\d.tmod 10<n/\1<d.tmod 10 - d.tdiv 10/\¬ (d.tdiv 10=0/\d.tmod 10=n - 1)
instance (n d:Int):Decidable (Diag n d):=inferInstanceAs (Decidable (_/\_))
theorem rsg_asc (m:Int)(xs:List Int):Rsg m xs↔xs.Pairwise (· < ·)/\∀ e ∈ xs,0<=e/\e<m:=by
 constructor
 ·intro h
  have hmem:∀ e ∈ xs,0<=e/\e<m:=fun e he=>by
   obtain ⟨i,hi,e1⟩:=List.mem_iff_getElem.1 he
   have:=(h i hi).1
   rw [show xs.getD i 0=e by simp [hi,e1]] at this
   omega
  refine ⟨?_,hmem⟩
  rw [List.pairwise_iff_getElem]
  have key:∀ d i:Nat,i+d+1<xs.length->xs.getD i 0<xs.getD (i+d+1) 0:=by
   intro d
   induction d with
   | zero=>intro i hi;have:=(h (i+1) (by omega)).2 (by omega);simpa using this
   | succ d ih =>
    intro i hi
    have h1:=ih i (by omega)
    have h2:=(h (i+(d+1)+1) hi).2 (by omega)
    have e:i+(d+1)+1 - 1=i+d+1:=by omega
    rw [e] at h2
    omega
  intro i j hi hj hij
  have:=key (j - i - 1) i (by omega)
  rw [show i+(j - i - 1)+1=j by omega] at this
  simpa [hi,hj] using this
 ·rintro ⟨h1,h2⟩ i hi
  rw [List.pairwise_iff_getElem] at h1
  have e1:xs.getD i 0=xs[i]:=by simp [hi]
  have:=h2 xs[i] (List.getElem_mem hi)
  refine ⟨by rw [e1];omega,fun h0=>?_⟩
  have:=h1 (i - 1) i (by omega) hi (by omega)
  rw [e1,show xs.getD (i - 1) 0=xs[i - 1]'(by omega) by simp [show i - 1<xs.length by omega]]
  exact this
noncomputable instance (n:Nat) (es:List (Int × Int)) (T:List Int):Decidable (TreL n es T):=Classical.propDecidable _
theorem keepsA {H C G:AH}{o:Nat}(k:Keeps o C G)(hp:H<+:C)(ho:H.length<=o):H<+:G:=prefix_of fun j y hy=>k.2 j y (by have:=at_lt hy;omega) (pre_at hp hy)
theorem mkf_2T (f:Fn)(p q:Option Addr):makeFuncA f [] [.pointer p,.pointer q]=some (.func f #[] (List.toArray [.pointer p,.pointer q])):=rfl
end Go.Proofs.YtlcipphiflcaiaaGreat.Ai
