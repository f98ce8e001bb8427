/- Texts of this claim, joined: Wyw, ArB. -/
import Derived.Test.YtlcipphiflcaiaaGreatProg
import Derived.KernelRfl
import Derived.Test.YtlcipphiflcaiaaGreatMgLawWyw6
set_option linter.unusedVariables false
set_option linter.unusedSimpArgs false
set_option maxHeartbeats 8000000
set_option maxRecDepth 20000
namespace Go.Proofs.YtlcipphiflcaiaaGreat.Ai
open Go Go.RowKit
def cd45:Cd:=(.seq (.reg [⟨⟨some 4,.assign (.const (.bool false)),none⟩,[]⟩]) (.seq (.seq (.reg [⟨⟨some 5,.assign (.const (.int .i64 0)),none⟩,[]⟩]) (.block 0 (.loop (.seq (.seq (.reg [⟨⟨some 6,.move (.tmp 5),none⟩,[]⟩,
 ⟨⟨some 7,.move (.tmp 0),none⟩,[]⟩,
 ⟨⟨some 8,.call ⟨(.builtin .len),#[.tmp 7],#[27]⟩,none⟩,[]⟩,
 ⟨⟨some 9,.binOp .lss 3 (.tmp 6) (.tmp 8) 3,none⟩,[]⟩]) (.cond (.tmp 9) .skip (.exit 0))) (.seq (.block 1 (.seq (.reg [⟨⟨some 12,.move (.tmp 0),none⟩,[]⟩,
 ⟨⟨some 13,.move (.tmp 5),none⟩,[]⟩,
 ⟨⟨some 14,.indexAddr 27 (.tmp 12) (.tmp 13),none⟩,[]⟩,
 ⟨⟨some 15,.load 3 (.tmp 14),none⟩,[]⟩,
 ⟨⟨some 16,.move (.tmp 1),none⟩,[]⟩,
 ⟨⟨some 17,.binOp .eql 3 (.tmp 15) (.tmp 16) 3,none⟩,[]⟩]) (.cond (.tmp 17) (.seq (.reg [⟨⟨some 4,.assign (.const (.bool true)),none⟩,[]⟩]) .ret) .skip))) (.reg [⟨⟨some 10,.move (.tmp 5),none⟩,[]⟩,
 ⟨⟨some 11,.binOp .add 3 (.tmp 10) (.const (.int .i64 1)) 3,none⟩,[]⟩,
 ⟨⟨some 5,.assign (.tmp 11),none⟩,[]⟩])))))) (.seq (.reg [⟨⟨some 4,.assign (.const (.bool false)),none⟩,[]⟩]) .ret)))
theorem in45:InT Tryz.prog 45 2 [.tmp 4] cd45:=InT.mk (by kernel_rfl) [] Tryz.func45 rfl (by kernel_rfl) (by kernel_rfl) (of_decide_eq_true (by kernel_rfl)) (by kernel_rfl)
def cd5:Cd:=(.seq (.reg [⟨⟨some 2,.assign (.const (.bool false)),none⟩,[]⟩]) (.seq (.seq (.reg [⟨⟨some 33,.move (.tmp 0),none⟩,[]⟩,⟨⟨some 34,.call ⟨(.value (.func 6)),#[.tmp 33],#[22]⟩,none⟩,[]⟩]) (.cond (.tmp 34) (.seq (.reg [⟨⟨some 2,.assign (.const (.bool true)),none⟩,[]⟩]) .ret) .skip)) (.seq (.reg [⟨⟨some 36,.move (.tmp 0),none⟩,[]⟩,⟨⟨some 37,.call ⟨(.value (.func 33)),#[.tmp 36],#[22]⟩,none⟩,[]⟩,⟨⟨some 35,.move (.tmp 37),none⟩,[]⟩,⟨⟨some 38,.extract (.tmp 35) 0,none⟩,[]⟩,⟨⟨some 39,.extract (.tmp 35) 1,none⟩,[]⟩,⟨⟨some 40,.extract (.tmp 35) 2,none⟩,[]⟩,⟨⟨some 3,.alloc 26,none⟩,[]⟩,⟨⟨none,.store 26 (.tmp 3) (.tmp 38),none⟩,[]⟩,⟨⟨some 4,.assign (.tmp 39),none⟩,[]⟩,⟨⟨some 5,.assign (.tmp 40),none⟩,[]⟩]) (.seq (.reg [⟨⟨some 42,.load 26 (.tmp 3),none⟩,[]⟩,⟨⟨some 43,.move (.tmp 4),none⟩,[]⟩,
 ⟨⟨some 44,.move (.tmp 5),none⟩,[]⟩,⟨⟨some 45,.call ⟨(.value (.func 34)),#[.tmp 42,.tmp 43,.tmp 44],#[26,3,3]⟩,none⟩,[]⟩,⟨⟨some 41,.move (.tmp 45),none⟩,[]⟩,⟨⟨some 46,.extract (.tmp 41) 0,none⟩,[]⟩,⟨⟨some 47,.extract (.tmp 41) 1,none⟩,[]⟩,⟨⟨some 6,.alloc 34,none⟩,[]⟩,⟨⟨none,.store 34 (.tmp 6) (.tmp 46),none⟩,[]⟩,⟨⟨some 7,.assign (.tmp 47),none⟩,[]⟩]) (.seq (.reg [⟨⟨some 49,.load 26 (.tmp 3),none⟩,[]⟩,⟨⟨some 50,.move (.tmp 4),none⟩,[]⟩,⟨⟨some 51,.move (.tmp 5),none⟩,[]⟩,⟨⟨some 52,.call ⟨(.value (.func 35)),#[.tmp 49,.tmp 50,.tmp 51],#[26,3,3]⟩,none⟩,[]⟩,⟨⟨some 48,.move (.tmp 52),none⟩,[]⟩,
 ⟨⟨some 53,.extract (.tmp 48) 0,none⟩,[]⟩,⟨⟨some 54,.extract (.tmp 48) 1,none⟩,[]⟩,⟨⟨some 8,.alloc 34,none⟩,[]⟩,⟨⟨none,.store 34 (.tmp 8) (.tmp 53),none⟩,[]⟩,⟨⟨some 9,.assign (.tmp 54),none⟩,[]⟩]) (.seq (.reg [⟨⟨some 56,.load 26 (.tmp 3),none⟩,[]⟩,⟨⟨some 57,.move (.tmp 4),none⟩,[]⟩,⟨⟨some 58,.move (.tmp 5),none⟩,[]⟩,⟨⟨some 59,.call ⟨(.value (.func 36)),#[.tmp 56,.tmp 57,.tmp 58],#[26,3,3]⟩,none⟩,[]⟩,⟨⟨some 55,.move (.tmp 59),none⟩,[]⟩,⟨⟨some 60,.extract (.tmp 55) 0,none⟩,[]⟩,⟨⟨some 61,.extract (.tmp 55) 1,none⟩,[]⟩,⟨⟨some 10,.assign (.tmp 60),none⟩,[]⟩,
 ⟨⟨some 11,.assign (.tmp 61),none⟩,[]⟩]) (.seq (.reg [⟨⟨some 63,.load 26 (.tmp 3),none⟩,[]⟩,⟨⟨some 64,.move (.tmp 4),none⟩,[]⟩,⟨⟨some 65,.move (.tmp 5),none⟩,[]⟩,⟨⟨some 66,.call ⟨(.value (.func 37)),#[.tmp 63,.tmp 64,.tmp 65],#[26,3,3]⟩,none⟩,[]⟩,⟨⟨some 62,.move (.tmp 66),none⟩,[]⟩,⟨⟨some 67,.extract (.tmp 62) 0,none⟩,[]⟩,⟨⟨some 68,.extract (.tmp 62) 1,none⟩,[]⟩,⟨⟨some 12,.assign (.tmp 67),none⟩,[]⟩,⟨⟨some 13,.assign (.tmp 68),none⟩,[]⟩]) (.seq (.reg [⟨⟨some 70,.load 26 (.tmp 3),none⟩,[]⟩,⟨⟨some 71,.move (.tmp 4),none⟩,[]⟩,⟨⟨some 72,.move (.tmp 5),none⟩,[]⟩,⟨⟨some 73,.call ⟨(.value (.func 38)),#[.tmp 70,.tmp 71,.tmp 72],#[26,3,3]⟩,none⟩,[]⟩,
 ⟨⟨some 69,.move (.tmp 73),none⟩,[]⟩,⟨⟨some 74,.extract (.tmp 69) 0,none⟩,[]⟩,⟨⟨some 75,.extract (.tmp 69) 1,none⟩,[]⟩,⟨⟨some 14,.assign (.tmp 74),none⟩,[]⟩,⟨⟨some 15,.assign (.tmp 75),none⟩,[]⟩]) (.seq (.reg [⟨⟨some 77,.load 26 (.tmp 3),none⟩,[]⟩,⟨⟨some 78,.move (.tmp 4),none⟩,[]⟩,⟨⟨some 79,.move (.tmp 5),none⟩,[]⟩,⟨⟨some 80,.call ⟨(.value (.func 39)),#[.tmp 77,.tmp 78,.tmp 79],#[26,3,3]⟩,none⟩,[]⟩,⟨⟨some 76,.move (.tmp 80),none⟩,[]⟩,⟨⟨some 81,.extract (.tmp 76) 0,none⟩,[]⟩,⟨⟨some 82,.extract (.tmp 76) 1,none⟩,[]⟩,⟨⟨some 16,.assign (.tmp 81),none⟩,[]⟩,
 ⟨⟨some 17,.assign (.tmp 82),none⟩,[]⟩]) (.seq (.reg [⟨⟨some 84,.load 26 (.tmp 3),none⟩,[]⟩,⟨⟨some 85,.move (.tmp 4),none⟩,[]⟩,⟨⟨some 86,.move (.tmp 5),none⟩,[]⟩,⟨⟨some 87,.call ⟨(.value (.func 40)),#[.tmp 84,.tmp 85,.tmp 86],#[26,3,3]⟩,none⟩,[]⟩,⟨⟨some 83,.move (.tmp 87),none⟩,[]⟩,⟨⟨some 88,.extract (.tmp 83) 0,none⟩,[]⟩,⟨⟨some 89,.extract (.tmp 83) 1,none⟩,[]⟩,⟨⟨some 18,.assign (.tmp 88),none⟩,[]⟩,⟨⟨some 19,.assign (.tmp 89),none⟩,[]⟩]) (.seq (.reg [⟨⟨some 91,.load 26 (.tmp 3),none⟩,[]⟩,⟨⟨some 92,.move (.tmp 4),none⟩,[]⟩,⟨⟨some 93,.move (.tmp 5),none⟩,[]⟩,⟨⟨some 94,.call ⟨(.value (.func 41)),#[.tmp 91,.tmp 92,.tmp 93],#[26,3,3]⟩,none⟩,[]⟩,
 ⟨⟨some 90,.move (.tmp 94),none⟩,[]⟩,⟨⟨some 95,.extract (.tmp 90) 0,none⟩,[]⟩,⟨⟨some 96,.extract (.tmp 90) 1,none⟩,[]⟩,⟨⟨some 20,.assign (.tmp 95),none⟩,[]⟩,⟨⟨some 21,.assign (.tmp 96),none⟩,[]⟩]) (.seq (.reg [⟨⟨some 98,.move (.tmp 0),none⟩,[]⟩,⟨⟨some 99,.call ⟨(.value (.func 26)),#[.tmp 98,(.const (.int .i64 1))],#[22,3]⟩,none⟩,[]⟩,⟨⟨some 100,.call ⟨(.value (.func 42)),#[.tmp 99],#[22]⟩,none⟩,[]⟩,⟨⟨some 97,.move (.tmp 100),none⟩,[]⟩,⟨⟨some 101,.extract (.tmp 97) 0,none⟩,[]⟩,⟨⟨some 102,.extract (.tmp 97) 1,none⟩,[]⟩,⟨⟨some 103,.extract (.tmp 97) 2,none⟩,[]⟩,⟨⟨some 22,.alloc 26,none⟩,[]⟩,
 ⟨⟨none,.store 26 (.tmp 22) (.tmp 101),none⟩,[]⟩,⟨⟨some 23,.assign (.tmp 102),none⟩,[]⟩,⟨⟨some 24,.assign (.tmp 103),none⟩,[]⟩]) (.seq (.reg [⟨⟨some 105,.load 26 (.tmp 22),none⟩,[]⟩,⟨⟨some 106,.move (.tmp 23),none⟩,[]⟩,⟨⟨some 107,.move (.tmp 24),none⟩,[]⟩,⟨⟨some 108,.call ⟨(.value (.func 43)),#[.tmp 105,.tmp 106,.tmp 107],#[26,27,27]⟩,none⟩,[]⟩,⟨⟨some 104,.move (.tmp 108),none⟩,[]⟩,⟨⟨some 109,.extract (.tmp 104) 0,none⟩,[]⟩,⟨⟨some 110,.extract (.tmp 104) 1,none⟩,[]⟩,⟨⟨some 25,.assign (.tmp 109),none⟩,[]⟩,⟨⟨some 26,.assign (.tmp 110),none⟩,[]⟩]) (.seq (.reg [⟨⟨some 112,.load 26 (.tmp 22),none⟩,[]⟩,⟨⟨some 113,.move (.tmp 23),none⟩,[]⟩,
 ⟨⟨some 114,.move (.tmp 24),none⟩,[]⟩,⟨⟨some 115,.call ⟨(.value (.func 44)),#[.tmp 112,.tmp 113,.tmp 114],#[26,27,27]⟩,none⟩,[]⟩,⟨⟨some 111,.move (.tmp 115),none⟩,[]⟩,⟨⟨some 116,.extract (.tmp 111) 0,none⟩,[]⟩,⟨⟨some 117,.extract (.tmp 111) 1,none⟩,[]⟩,⟨⟨some 27,.assign (.tmp 116),none⟩,[]⟩,⟨⟨some 28,.assign (.tmp 117),none⟩,[]⟩]) (.seq (.seq (.reg [⟨⟨some 118,.move (.tmp 7),none⟩,[]⟩,⟨⟨some 119,.move (.tmp 9),none⟩,[]⟩,⟨⟨some 120,.binOp .neq 4 (.tmp 118) (.tmp 119) 4,none⟩,[]⟩,⟨⟨some 121,.move (.tmp 120),none⟩,[]⟩,⟨⟨some 122,.load 34 (.tmp 6),some (121,false)⟩,[]⟩,⟨⟨some 123,.load 34 (.tmp 8),some (121,false)⟩,[]⟩,
 ⟨⟨some 124,.call ⟨(.value (.func 13)),#[.tmp 122,.tmp 123],#[34,34]⟩,some (121,false)⟩,[]⟩,⟨⟨some 125,.unOp .not 4 (.tmp 124),some (121,false)⟩,[]⟩,⟨⟨some 126,.pick (.tmp 121) (.const (.bool true)) (.tmp 125),none⟩,[]⟩,⟨⟨some 127,.move (.tmp 126),none⟩,[]⟩,⟨⟨some 128,.move (.tmp 11),some (127,false)⟩,[]⟩,⟨⟨some 129,.move (.tmp 13),some (127,false)⟩,[]⟩,⟨⟨some 130,.binOp .neq 4 (.tmp 128) (.tmp 129) 4,some (127,false)⟩,[]⟩,⟨⟨some 131,.pick (.tmp 127) (.const (.bool true)) (.tmp 130),none⟩,[]⟩,⟨⟨some 132,.move (.tmp 131),none⟩,[]⟩,⟨⟨some 133,.move (.tmp 10),some (132,false)⟩,[]⟩,⟨⟨some 134,.move (.tmp 12),some (132,false)⟩,[]⟩,⟨⟨some 135,.call ⟨(.value (.func 29)),#[.tmp 133,.tmp 134],#[32,32]⟩,some (132,false)⟩,[]⟩,
 ⟨⟨some 136,.unOp .not 4 (.tmp 135),some (132,false)⟩,[]⟩,⟨⟨some 137,.pick (.tmp 132) (.const (.bool true)) (.tmp 136),none⟩,[]⟩,⟨⟨some 138,.move (.tmp 137),none⟩,[]⟩,⟨⟨some 139,.move (.tmp 14),some (138,false)⟩,[]⟩,⟨⟨some 140,.move (.tmp 16),some (138,false)⟩,[]⟩,⟨⟨some 141,.binOp .neq 3 (.tmp 139) (.tmp 140) 3,some (138,false)⟩,[]⟩,⟨⟨some 142,.pick (.tmp 138) (.const (.bool true)) (.tmp 141),none⟩,[]⟩,⟨⟨some 143,.move (.tmp 142),none⟩,[]⟩,⟨⟨some 144,.move (.tmp 15),some (143,false)⟩,[]⟩,⟨⟨some 145,.move (.tmp 17),some (143,false)⟩,[]⟩,⟨⟨some 146,.binOp .neq 4 (.tmp 144) (.tmp 145) 4,some (143,false)⟩,[]⟩,⟨⟨some 147,.pick (.tmp 143) (.const (.bool true)) (.tmp 146),none⟩,[]⟩,
 ⟨⟨some 148,.move (.tmp 147),none⟩,[]⟩,⟨⟨some 149,.move (.tmp 19),some (148,false)⟩,[]⟩,⟨⟨some 150,.move (.tmp 21),some (148,false)⟩,[]⟩,⟨⟨some 151,.binOp .neq 4 (.tmp 149) (.tmp 150) 4,some (148,false)⟩,[]⟩,⟨⟨some 152,.pick (.tmp 148) (.const (.bool true)) (.tmp 151),none⟩,[]⟩,⟨⟨some 153,.move (.tmp 152),none⟩,[]⟩,⟨⟨some 154,.move (.tmp 18),some (153,false)⟩,[]⟩,⟨⟨some 155,.move (.tmp 20),some (153,false)⟩,[]⟩,⟨⟨some 156,.call ⟨(.value (.func 29)),#[.tmp 154,.tmp 155],#[32,32]⟩,some (153,false)⟩,[]⟩,⟨⟨some 157,.unOp .not 4 (.tmp 156),some (153,false)⟩,[]⟩,⟨⟨some 158,.pick (.tmp 153) (.const (.bool true)) (.tmp 157),none⟩,[]⟩,⟨⟨some 159,.move (.tmp 158),none⟩,[]⟩,
 ⟨⟨some 160,.move (.tmp 26),some (159,false)⟩,[]⟩,⟨⟨some 161,.move (.tmp 28),some (159,false)⟩,[]⟩,⟨⟨some 162,.binOp .neq 4 (.tmp 160) (.tmp 161) 4,some (159,false)⟩,[]⟩,⟨⟨some 163,.pick (.tmp 159) (.const (.bool true)) (.tmp 162),none⟩,[]⟩,⟨⟨some 164,.move (.tmp 163),none⟩,[]⟩,⟨⟨some 165,.move (.tmp 25),some (164,false)⟩,[]⟩,⟨⟨some 166,.move (.tmp 27),some (164,false)⟩,[]⟩,⟨⟨some 167,.call ⟨(.value (.func 29)),#[.tmp 165,.tmp 166],#[32,32]⟩,some (164,false)⟩,[]⟩,⟨⟨some 168,.unOp .not 4 (.tmp 167),some (164,false)⟩,[]⟩,⟨⟨some 169,.pick (.tmp 164) (.const (.bool true)) (.tmp 168),none⟩,[]⟩]) (.cond (.tmp 169) (.seq (.reg [⟨⟨some 2,.assign (.const (.bool false)),none⟩,[]⟩]) .ret) .skip)) (.seq (.seq (.reg [⟨⟨some 170,.move (.tmp 26),none⟩,[]⟩]) (.cond (.tmp 170) (.seq (.reg [⟨⟨some 29,.assign (.const (.int .i64 0)),none⟩,[]⟩]) (.seq (.seq (.reg [⟨⟨some 30,.assign (.const (.int .i64 0)),none⟩,[]⟩]) (.block 0 (.loop (.seq (.seq (.reg [⟨⟨some 171,.move (.tmp 30),none⟩,[]⟩,⟨⟨some 172,.move (.tmp 23),none⟩,[]⟩,⟨⟨some 173,.call ⟨(.builtin .len),#[.tmp 172],#[27]⟩,none⟩,[]⟩,
 ⟨⟨some 174,.binOp .lss 3 (.tmp 171) (.tmp 173) 3,none⟩,[]⟩]) (.cond (.tmp 174) .skip (.exit 0))) (.seq (.block 1 (.seq (.reg [⟨⟨some 177,.move (.tmp 23),none⟩,[]⟩,⟨⟨some 178,.move (.tmp 30),none⟩,[]⟩,⟨⟨some 179,.indexAddr 27 (.tmp 177) (.tmp 178),none⟩,[]⟩,⟨⟨some 180,.load 3 (.tmp 179),none⟩,[]⟩,⟨⟨some 181,.move (.tmp 24),none⟩,[]⟩,⟨⟨some 182,.move (.tmp 30),none⟩,[]⟩,⟨⟨some 183,.indexAddr 27 (.tmp 181) (.tmp 182),none⟩,[]⟩,⟨⟨some 184,.load 3 (.tmp 183),none⟩,[]⟩,⟨⟨some 185,.binOp .neq 3 (.tmp 180) (.tmp 184) 3,none⟩,[]⟩]) (.cond (.tmp 185) (.reg [⟨⟨some 186,.move (.tmp 29),none⟩,[]⟩,⟨⟨some 187,.binOp .add 3 (.tmp 186) (.const (.int .i64 1)) 3,none⟩,[]⟩,⟨⟨some 29,.assign (.tmp 187),none⟩,[]⟩]) .skip))) (.reg [⟨⟨some 175,.move (.tmp 30),none⟩,[]⟩,⟨⟨some 176,.binOp .add 3 (.tmp 175) (.const (.int .i64 1)) 3,none⟩,[]⟩,
 ⟨⟨some 30,.assign (.tmp 176),none⟩,[]⟩])))))) (.seq (.reg [⟨⟨some 188,.move (.tmp 25),none⟩,[]⟩,⟨⟨some 189,.call ⟨(.builtin .len),#[.tmp 188],#[32]⟩,none⟩,[]⟩,⟨⟨some 190,.binOp .sub 3 (.tmp 189) (.const (.int .i64 1)) 3,none⟩,[]⟩,⟨⟨some 191,.move (.tmp 29),none⟩,[]⟩,⟨⟨some 192,.binOp .lss 3 (.tmp 190) (.tmp 191) 3,none⟩,[]⟩]) (.cond (.tmp 192) (.seq (.reg [⟨⟨some 2,.assign (.const (.bool false)),none⟩,[]⟩]) .ret) .skip)))) .skip)) (.seq (.seq (.reg [⟨⟨some 193,.move (.tmp 11),none⟩,[]⟩,⟨⟨some 194,.unOp .not 4 (.tmp 193),none⟩,[]⟩]) (.cond (.tmp 194) (.seq (.reg [⟨⟨some 195,.move (.tmp 15),none⟩,[]⟩,⟨⟨some 196,.unOp .not 4 (.tmp 195),none⟩,[]⟩,⟨⟨some 197,.move (.tmp 196),none⟩,[]⟩,⟨⟨some 198,.move (.tmp 14),some (197,false)⟩,[]⟩,⟨⟨some 199,.binOp .eql 3 (.tmp 198) (.const (.int .i64 0)) 3,some (197,false)⟩,[]⟩,⟨⟨some 200,.pick (.tmp 197) (.const (.bool true)) (.tmp 199),none⟩,[]⟩,⟨⟨some 201,.move (.tmp 200),none⟩,[]⟩,
 ⟨⟨some 202,.move (.tmp 14),some (201,false)⟩,[]⟩,⟨⟨some 203,.binOp .gtr 3 (.tmp 202) (.const (.int .i64 300)) 3,some (201,false)⟩,[]⟩,⟨⟨some 204,.pick (.tmp 201) (.const (.bool true)) (.tmp 203),none⟩,[]⟩,⟨⟨some 2,.assign (.tmp 204),none⟩,[]⟩]) .ret) .skip)) (.seq (.seq (.reg [⟨⟨some 205,.move (.tmp 10),none⟩,[]⟩,⟨⟨some 206,.call ⟨(.builtin .len),#[.tmp 205],#[32]⟩,none⟩,[]⟩,⟨⟨some 207,.move (.tmp 14),none⟩,[]⟩,⟨⟨some 208,.binOp .neq 3 (.tmp 206) (.tmp 207) 3,none⟩,[]⟩,⟨⟨some 209,.move (.tmp 208),none⟩,[]⟩,⟨⟨some 210,.move (.tmp 7),some (209,false)⟩,[]⟩,⟨⟨some 211,.unOp .not 4 (.tmp 210),some (209,false)⟩,[]⟩,⟨⟨some 212,.pick (.tmp 209) (.const (.bool true)) (.tmp 211),none⟩,[]⟩,⟨⟨some 213,.move (.tmp 212),none⟩,[]⟩,
 ⟨⟨some 214,.fieldAddr 34 (.tmp 6) 0,some (213,false)⟩,[]⟩,⟨⟨some 215,.load 32 (.tmp 214),some (213,false)⟩,[]⟩,⟨⟨some 216,.move (.tmp 10),some (213,false)⟩,[]⟩,⟨⟨some 217,.call ⟨(.value (.func 29)),#[.tmp 215,.tmp 216],#[32,32]⟩,some (213,false)⟩,[]⟩,⟨⟨some 218,.unOp .not 4 (.tmp 217),some (213,false)⟩,[]⟩,⟨⟨some 219,.pick (.tmp 213) (.const (.bool true)) (.tmp 218),none⟩,[]⟩]) (.cond (.tmp 219) (.seq (.reg [⟨⟨some 2,.assign (.const (.bool false)),none⟩,[]⟩]) .ret) .skip)) (.seq (.seq (.reg [⟨⟨some 31,.assign (.const (.int .i64 0)),none⟩,[]⟩]) (.block 2 (.loop (.seq (.seq (.reg [⟨⟨some 220,.move (.tmp 31),none⟩,[]⟩,⟨⟨some 221,.move (.tmp 10),none⟩,[]⟩,⟨⟨some 222,.call ⟨(.builtin .len),#[.tmp 221],#[32]⟩,none⟩,[]⟩,⟨⟨some 223,.binOp .lss 3 (.tmp 220) (.tmp 222) 3,none⟩,[]⟩]) (.cond (.tmp 223) .skip (.exit 2))) (.seq (.block 3 (.seq (.seq (.reg [⟨⟨some 226,.move (.tmp 10),none⟩,[]⟩,⟨⟨some 227,.move (.tmp 31),none⟩,[]⟩,⟨⟨some 228,.indexAddr 32 (.tmp 226) (.tmp 227),none⟩,[]⟩,⟨⟨some 229,.load 27 (.tmp 228),none⟩,[]⟩,
 ⟨⟨some 230,.call ⟨(.builtin .len),#[.tmp 229],#[27]⟩,none⟩,[]⟩,⟨⟨some 231,.move (.tmp 18),none⟩,[]⟩,⟨⟨some 232,.call ⟨(.builtin .len),#[.tmp 231],#[32]⟩,none⟩,[]⟩,⟨⟨some 233,.binOp .neq 3 (.tmp 230) (.tmp 232) 3,none⟩,[]⟩]) (.cond (.tmp 233) (.seq (.reg [⟨⟨some 2,.assign (.const (.bool false)),none⟩,[]⟩]) .ret) .skip)) (.seq (.reg [⟨⟨some 32,.assign (.const (.int .i64 0)),none⟩,[]⟩]) (.block 4 (.loop (.seq (.seq (.reg [⟨⟨some 234,.move (.tmp 32),none⟩,[]⟩,⟨⟨some 235,.move (.tmp 18),none⟩,[]⟩,⟨⟨some 236,.call ⟨(.builtin .len),#[.tmp 235],#[32]⟩,none⟩,[]⟩,⟨⟨some 237,.binOp .lss 3 (.tmp 234) (.tmp 236) 3,none⟩,[]⟩]) (.cond (.tmp 237) .skip (.exit 4))) (.seq (.block 5 (.seq (.reg [⟨⟨some 240,.move (.tmp 18),none⟩,[]⟩,⟨⟨some 241,.move (.tmp 32),none⟩,[]⟩,⟨⟨some 242,.indexAddr 32 (.tmp 240) (.tmp 241),none⟩,[]⟩,⟨⟨some 243,.load 27 (.tmp 242),none⟩,[]⟩,⟨⟨some 244,.move (.tmp 10),none⟩,[]⟩,⟨⟨some 245,.move (.tmp 31),none⟩,[]⟩,
 ⟨⟨some 246,.indexAddr 32 (.tmp 244) (.tmp 245),none⟩,[]⟩,
  ⟨⟨some 247,.load 27 (.tmp 246),none⟩,[]⟩,
  ⟨⟨some 248,.move (.tmp 32),none⟩,[]⟩,
  ⟨⟨some 249,.indexAddr 27 (.tmp 247) (.tmp 248),none⟩,[]⟩,
  ⟨⟨some 250,.load 3 (.tmp 249),none⟩,[]⟩,
  ⟨⟨some 251,.call ⟨(.value (.func 45)),#[.tmp 243,.tmp 250],#[27,3]⟩,none⟩,[]⟩,
  ⟨⟨some 252,.unOp .not 4 (.tmp 251),none⟩,[]⟩]) (.cond (.tmp 252) (.seq (.reg [⟨⟨some 2,.assign (.const (.bool false)),none⟩,[]⟩]) .ret) .skip))) (.reg [⟨⟨some 238,.move (.tmp 32),none⟩,[]⟩,
  ⟨⟨some 239,.binOp .add 3 (.tmp 238) (.const (.int .i64 1)) 3,none⟩,[]⟩,
  ⟨⟨some 32,.assign (.tmp 239),none⟩,[]⟩])))))))) (.reg [⟨⟨some 224,.move (.tmp 31),none⟩,[]⟩,
  ⟨⟨some 225,.binOp .add 3 (.tmp 224) (.const (.int .i64 1)) 3,none⟩,[]⟩,
  ⟨⟨some 31,.assign (.tmp 225),none⟩,[]⟩])))))) (.seq (.reg [⟨⟨some 2,.assign (.const (.bool true)),none⟩,[]⟩]) .ret))))))))))))))))))))
theorem in5:InT Tryz.prog 5 1 [.tmp 2] cd5:=InT.mk (by kernel_rfl) [(22,[(0,false),(1,false),(2,false),(3,false),(4,false),(5,false),(6,false),(7,false),(8,false)]),(38,[(0,false),(1,false),(2,false),(3,false),(4,false),(5,false),(6,false),(7,false),(8,false),(9,false),(10,false),(11,true),(12,false)])] Tryz.func5 rfl (by kernel_rfl) (by kernel_rfl) (of_decide_eq_true (by kernel_rfl)) (by kernel_rfl)
end Go.Proofs.YtlcipphiflcaiaaGreat.Ai
namespace Go.Proofs.YtlcipphiflcaiaaGreat.Ai
open Go Go.RowKit
theorem vHas3_c (v:Value)(xs:List Int)(x:Int)(H:AH)(hr:Row 3 H v xs)(hlen:xs.length<=1099511627776):ACalls Tryz.prog 45 [v,.int .i64 x] H fun r H'=>r=.bool (decide (x ∈ xs))/\H=H':=by
 refine in45 rfl ?_
 intro Q hQ
 simp (disch:=omega) only [cd45,SS,eq_self,reduceIte,reduceCtorEq,Nat.reduceEqDiff,Nat.reduceAdd]
 refine LoopH.by (fun m s H'=>∃ i,m+i=xs.length/\s 0=v/\s 1=.int .i64 x/\s 5=.int .i64 ((i:Nat):Int)/\H=H'/\x ∉ xs.take i) xs.length ?_ ?_
 ·exact ⟨0,by simp,rfl,rfl,rfl,rfl,by simp⟩
 ·rintro m s H' ⟨i,hm,h0,h1,h5,rfl,hn⟩
  simp (disch:=omega) only [h0,h1,h5,hr.len Tryz.underlying27,SS,eq_self,reduceIte,reduceCtorEq,Nat.reduceEqDiff,Nat.reduceAdd]
  refine brD.intro (fun g=>?_) (fun g=>?_)
  ·have hi:i<xs.length:=by omega
   have htk:xs.take (i+1)=xs.take i ++ [xs.getD i 0]:=by rw [List.take_succ_eq_append_getElem hi];simp [hi]
   have hm1:xs.getD i 0 ∈ xs:=by simp [hi]
   simp (disch:=omega) only [h0,h1,h5,hr.ix Tryz.underlying27 cs3,hr.cell,Int.toNat_natCast,SS,eq_self,reduceIte,reduceCtorEq,Nat.reduceEqDiff,Nat.reduceAdd]
   refine brD.intro (fun e=>?_) (fun e=>?_)
   ·simp (disch:=omega) only [SS,eq_self,reduceIte,reduceCtorEq,Nat.reduceEqDiff,Nat.reduceAdd]
    refine hQ _ _ _ ?_
    simp (disch:=omega) only [SS,eq_self,reduceIte,reduceCtorEq,Nat.reduceEqDiff,Nat.reduceAdd]
    rw [decide_eq_true (by rw [<- e];exact hm1)]
   ·have f1:x ∉ xs.take (i+1):=by
     rw [htk,List.mem_append,List.mem_singleton]
     rintro (q | q)
     ·exact hn q
     ·exact e q.symm
    simp (disch:=omega) only [h0,h1,h5,wrap64,SS,eq_self,reduceIte,reduceCtorEq,Nat.reduceEqDiff,Nat.reduceAdd]
    refine ⟨m - 1,by omega,i+1,?_⟩
    (repeat' apply And.intro) <;> first | exact f1 | (simp only [Value.int.injEq,true_and];omega) | omega | rfl | assumption | (simp;done) | (simp;omega)
  ·have:i=xs.length:=by omega
   subst this
   rw [List.take_length] at hn
   simp (disch:=omega) only [SS,eq_self,reduceIte,reduceCtorEq,Nat.reduceEqDiff,Nat.reduceAdd]
   refine hQ _ _ _ ?_
   simp (disch:=omega) only [SS,eq_self,reduceIte,reduceCtorEq,Nat.reduceEqDiff,Nat.reduceAdd]
   rw [decide_eq_false hn]
theorem layL_small (n:Int)(es:List (Int × Int))(s t:Int):(layL n es s t).length<=1000000/\∀ l ∈ layL n es s t,l.length<=1000000:=by
 unfold layL
 split
 ·rename_i h
  have h8:=h.1.1
  have hF:=farG_ok (show WsOk n es t s from ⟨h.1,h.2.2,h.2.1⟩)
  have hlo:=hF.lo t.toNat (by have:=h.2.2;omega)
  refine ⟨by rw [List.length_map,List.length_range];omega,fun l hl=>?_⟩
  obtain ⟨d,_,rfl⟩:=List.mem_map.1 hl
  unfold layD
  rw [List.length_map]
  refine Nat.le_trans (List.length_filter_le _ _) ?_
  rw [List.length_range];omega
 ·exact ⟨by simp,by simp⟩
theorem dfF_succ (a b:List Int)(k:Nat):(dfF a b (k+1)).length=(dfF a b k).length+if a.getD k 0=b.getD k 0 then 0 else 1:=by
 simp only [dfF,List.length_append]
 by_cases h:a.getD k 0=b.getD k 0
 ·rw [if_neg (fun q=>q h),if_pos h];rfl
 ·rw [if_pos h,if_neg h];rfl
theorem wwL_small (n:Int)(es:List (Int × Int))(a b:List Int):(wwL n es a b).length<=1000/\∀ l ∈ wwL n es a b,l.length<=1000000:=by
 by_cases h:wwB n es a b=true
 ·refine ⟨(ww_len h).2.2.1,fun l hl=>?_⟩
  unfold wwL at hl
  split at hl
  ·simp at hl
  ·obtain ⟨_,_,⟨k,hk8,hk⟩,_⟩:=wsL_ok (n:=n) (es:=es) (s:=hdI a) (t:=ltI a)
   unfold wkL at hl
   split at hl
   ·obtain ⟨z,_,rfl⟩:=List.mem_map.1 hl
    by_cases q:z.toNat<(wsL n es (hdI a) (ltI a)).length
    ·have:=hk _ (show (wsL n es (hdI a) (ltI a)).getD z.toNat [] ∈ wsL n es (hdI a) (ltI a) by simp [q])
     omega
    ·rw [List.getD_eq_getElem?_getD,List.getElem?_eq_none (by omega)];simp
   ·simp at hl
 ·have z:wwL n es a b=[]:=by
   unfold wwB at h
   unfold wwL
   by_cases e:a=[]
   ·rw [if_pos e]
   ·rw [if_neg e]
    rw [decide_eq_false e] at h
    unfold wkL
    rw [if_neg (fun q=>h (by rw [q];rfl))]
  rw [z]
  exact ⟨by simp,by simp⟩
theorem waylLaw_c (va:Value)(us:List Value)(H:AH)(hr:RowV 5 H va us)(hb:∀ i,i<us.length->∃ b:Nat,us.getD i undef=.int .u8 (b:Int)/\b<256)(hl:(us.length:Int)<=9223372036854775807) :
  ACalls Tryz.prog 5 [va] H fun r H'=>r=.bool true:=by
 refine in5 rfl ?_
 intro Q hQ
 rw [cd5]
 have f1:∀ b:Bool,decide (¬ b=b)=false:=by simp
 have f2:∀ b:Bool,(b != b)=false:=by simp
 have f3:∀ b:Bool,(!decide (b=b))=false:=by simp
 have f4:∀ x:Int,decide (¬ x=x)=false:=by simp
 have f5:∀ x:Int,(!decide (x=x))=false:=by simp
 refine cutC (fun s H'=>s 0=va/\H'=H) (fun c hc=>?_) ?_
 ·simp (maxSteps:=1000000) (disch:=omega) only [SS,eq_self,reduceIte,reduceCtorEq,Nat.reduceEqDiff,Nat.reduceAdd]
  exact hc _ _ ⟨rfl,rfl⟩
 rintro s _ ⟨h0,rfl⟩
 refine cutC (fun s H'=>s 0=va/\Byt H' va us/\us.length<=65536) (fun c hc=>?_) ?_
 ·simp (maxSteps:=1000000) (disch:=omega) only [h0,SS,eq_self,reduceIte,reduceCtorEq,Nat.reduceEqDiff,Nat.reduceAdd]
  refine CallH.by (vBig_c hr hl) ?_
  rintro _ _ ⟨rfl,rfl⟩
  simp (maxSteps:=1000000) (disch:=omega) only [SS,eq_self,reduceIte,reduceCtorEq,Nat.reduceEqDiff,Nat.reduceAdd]
  refine brD.intro (fun g=>?_) (fun g=>?_)
  ·simp (maxSteps:=1000000) (disch:=omega) only [SS,eq_self,reduceIte,reduceCtorEq,Nat.reduceEqDiff,Nat.reduceAdd]
   refine hQ _ _ _ ?_
   simp (maxSteps:=1000000) (disch:=omega) only [SS,eq_self,reduceIte,reduceCtorEq,Nat.reduceEqDiff,Nat.reduceAdd]
  ·simp (maxSteps:=1000000) (disch:=omega) only [SS,eq_self,reduceIte,reduceCtorEq,Nat.reduceEqDiff,Nat.reduceAdd]
   exact hc _ _ ⟨h0,⟨hr,hb,by omega⟩,by omega⟩
 clear h0 hr hb hl s
 rintro s H ⟨h0,hby,hus⟩
 refine cutC (fun s H'=>∃ (gp:Nat) (n s1 t1:Int) (w:Value) (es:List (Int × Int)),s 0=va/\Byt H' va us/\s 3=.pointer (some ⟨gp,0,none⟩)/\s 4=.int .i64 s1/\s 5=.int .i64 t1/\H'[gp]?=some (.cells [.int .i64 n,w] 26 false)/\RowP 115 H' w es/\es.length<=200/\I64 n/\Sml es) (fun c hc=>?_) ?_
 ·simp (maxSteps:=1000000) (disch:=omega) only [h0,SS,eq_self,reduceIte,reduceCtorEq,Nat.reduceEqDiff,Nat.reduceAdd]
  refine CallH.by (DrawWs_c hby) ?_
  rintro _ K ⟨n,s1,t1,w,es,rfl,hw,hel,hn,hs,pK⟩
  have st:=st_G hw (at_new K (.cells [.int .i64 0,.slice none 0 0] 26 false)) rfl n
  rw [set_new] at st
  have p2:K<+:K ++ [AObj.cells [.int .i64 n,w] 26 false]:=List.prefix_append _ _
  simp (maxSteps:=1000000) (disch:=omega) only [alloc_G,st,SS,eq_self,reduceIte,reduceCtorEq,Nat.reduceEqDiff,Nat.reduceAdd]
  exact hc _ _ ⟨K.length,n,s1,t1,w,es,h0,hby.pre (pK.trans p2),rfl,rfl,rfl,at_new ..,hw.pre p2,hel,hn,hs⟩
 clear h0 hby s H
 rintro s H ⟨gp,n,s1,t1,w,es,h0,hby,h3,h4,h5,cg,hw,hel,hn,hs⟩
 have hes:∀ y ∈ es,I64 y.1/\I64 y.2:=fun y hy=>by have:=hs y hy;exact ⟨⟨by omega,by omega⟩,by omega,by omega⟩
 obtain ⟨w1,w9,⟨kk,hk8,hwk⟩,w8⟩:=wsL_ok (n:=n) (es:=es) (s:=s1) (t:=t1)
 have wP:=(ws_walk n es s1 t1).2.2.2
 refine cutC (fun s H'=>∃ (o:Nat) (a b:Value),s 0=va/\Byt H' va us/\s 3=.pointer (some ⟨gp,0,none⟩)/\s 4=.int .i64 s1/\s 5=.int .i64 t1/\H'[gp]?=some (.cells [.int .i64 n,w] 26 false)/\RowP 115 H' w es/\s 6=.pointer (some ⟨o,0,none⟩)/\s 7=.bool (wsB n es s1 t1)/\H'[o]?=some (.cells [a,b] 34 false)/\SpRow H' a b (wsL n es s1 t1) (wsP n es s1 t1)) (fun c hc=>?_) ?_
 ·simp (maxSteps:=1000000) (disch:=omega) only [h3,h4,h5,ld_agg ag26 cs26 cg,SS,eq_self,reduceIte,reduceCtorEq,Nat.reduceEqDiff,Nat.reduceAdd]
  refine CallH.by (WyI_c s1 t1 n w es H hw (by omega) hes hn) ?_
  rintro _ H1 ⟨a,b,rfl,Z,p1⟩
  have Z:=Z.row
  have st:=Z.store (at_new H1 (.cells [.slice none 0 0,.slice none 0 0] 34 false)) rfl
  simp (maxSteps:=1000000) (disch:=omega) only [alloc_sp,st,set_new,SS,eq_self,reduceIte,reduceCtorEq,Nat.reduceEqDiff,Nat.reduceAdd]
  have p2:H1<+:H1 ++ [AObj.cells [a,b] 34 false]:=List.prefix_append _ _
  exact hc _ _ ⟨_,a,b,h0,hby.pre (p1.trans p2),h3,h4,h5,pre_at (p1.trans p2) cg,hw.pre (p1.trans p2),rfl,rfl,at_new ..,Z.pre p2⟩
 clear h0 hby h3 h4 h5 cg hw s H
 rintro s H ⟨o,a,b,h0,hby,h3,h4,h5,cg,hw,h6,h7,co,X⟩
 refine cutC (fun s H'=>∃ (o2:Nat) (a2 b2:Value),s 0=va/\Byt H' va us/\s 3=.pointer (some ⟨gp,0,none⟩)/\s 4=.int .i64 s1/\s 5=.int .i64 t1/\H'[gp]?=some (.cells [.int .i64 n,w] 26 false)/\RowP 115 H' w es/\s 6=.pointer (some ⟨o,0,none⟩)/\s 7=.bool (wsB n es s1 t1)/\H'[o]?=some (.cells [a,b] 34 false)/\SpRow H' a b (wsL n es s1 t1) (wsP n es s1 t1)/\s 8=.pointer (some ⟨o2,0,none⟩)/\s 9=.bool (wsB n es s1 t1)/\H'[o2]?=some (.cells [a2,b2] 34 false)/\SpRow H' a2 b2 (wsL n es s1 t1) (wsP n es s1 t1)) (fun c hc=>?_) ?_
 ·simp (maxSteps:=1000000) (disch:=omega) only [h3,h4,h5,ld_agg ag26 cs26 cg,SS,eq_self,reduceIte,reduceCtorEq,Nat.reduceEqDiff,Nat.reduceAdd]
  refine CallH.by (WyS_c s1 t1 n w es H hw (by omega) hes hn) ?_
  rintro _ H1 ⟨a2,b2,rfl,Z,p1⟩
  have Z:=Z.row
  have st:=Z.store (at_new H1 (.cells [.slice none 0 0,.slice none 0 0] 34 false)) rfl
  simp (maxSteps:=1000000) (disch:=omega) only [alloc_sp,st,set_new,SS,eq_self,reduceIte,reduceCtorEq,Nat.reduceEqDiff,Nat.reduceAdd]
  have p2:H1<+:H1 ++ [AObj.cells [a2,b2] 34 false]:=List.prefix_append _ _
  exact hc _ _ ⟨_,a2,b2,h0,hby.pre (p1.trans p2),h3,h4,h5,pre_at (p1.trans p2) cg,hw.pre (p1.trans p2),h6,h7,pre_at (p1.trans p2) co,X.pre (p1.trans p2),rfl,rfl,at_new ..,Z.pre p2⟩
 clear h0 hby h3 h4 h5 cg hw h6 h7 co X s H
 rintro s H ⟨o2,a2,b2,h0,hby,h3,h4,h5,cg,hw,h6,h7,co,X,h8,h9,co2,Y⟩
 refine cutC (fun s H'=>∃ (g1:Value) (bW1:Nat),s 0=va/\Byt H' va us/\s 3=.pointer (some ⟨gp,0,none⟩)/\s 4=.int .i64 s1/\s 5=.int .i64 t1/\H'[gp]?=some (.cells [.int .i64 n,w] 26 false)/\RowP 115 H' w es/\s 6=.pointer (some ⟨o,0,none⟩)/\s 7=.bool (wsB n es s1 t1)/\H'[o]?=some (.cells [a,b] 34 false)/\SpRow H' a b (wsL n es s1 t1) (wsP n es s1 t1)/\s 8=.pointer (some ⟨o2,0,none⟩)/\s 9=.bool (wsB n es s1 t1)/\H'[o2]?=some (.cells [a2,b2] 34 false)/\SpRow H' a2 b2 (wsL n es s1 t1) (wsP n es s1 t1)/\s 10=g1/\s 11=.bool (decide (0<(wsL n es s1 t1).length))/\RowLB bW1 27 3 H' g1 (wsL n es s1 t1)) (fun c hc=>?_) ?_
 ·simp (maxSteps:=1000000) (disch:=omega) only [h3,h4,h5,ld_agg ag26 cs26 cg,SS,eq_self,reduceIte,reduceCtorEq,Nat.reduceEqDiff,Nat.reduceAdd]
  refine CallH.by (ShortestWays_c n w es s1 t1 H hw (by omega)) ?_
  rintro _ H1 ⟨⟨g1,rfl,hin⟩,p1⟩
  simp (maxSteps:=1000000) (disch:=omega) only [SS,eq_self,reduceIte,reduceCtorEq,Nat.reduceEqDiff,Nat.reduceAdd]
  exact hc _ _ ⟨g1,_,h0,hby.pre p1,h3,h4,h5,pre_at p1 cg,hw.pre p1,h6,h7,pre_at p1 co,X.pre p1,h8,h9,pre_at p1 co2,Y.pre p1,rfl,rfl,hin.row⟩
 clear h0 hby h3 h4 h5 cg hw h6 h7 co X h8 h9 co2 Y s H
 rintro s H ⟨g1,bW1,h0,hby,h3,h4,h5,cg,hw,h6,h7,co,X,h8,h9,co2,Y,h10,h11,W1⟩
 refine cutC (fun s H'=>∃ (g2:Value) (bW2:Nat),s 0=va/\Byt H' va us/\s 3=.pointer (some ⟨gp,0,none⟩)/\s 4=.int .i64 s1/\s 5=.int .i64 t1/\H'[gp]?=some (.cells [.int .i64 n,w] 26 false)/\RowP 115 H' w es/\s 6=.pointer (some ⟨o,0,none⟩)/\s 7=.bool (wsB n es s1 t1)/\H'[o]?=some (.cells [a,b] 34 false)/\SpRow H' a b (wsL n es s1 t1) (wsP n es s1 t1)/\s 8=.pointer (some ⟨o2,0,none⟩)/\s 9=.bool (wsB n es s1 t1)/\H'[o2]?=some (.cells [a2,b2] 34 false)/\SpRow H' a2 b2 (wsL n es s1 t1) (wsP n es s1 t1)/\s 10=g1/\s 11=.bool (decide (0<(wsL n es s1 t1).length))/\RowLB bW1 27 3 H' g1 (wsL n es s1 t1)/\s 12=g2/\s 13=.bool (decide (0<(wsL n es s1 t1).length))/\RowLB bW2 27 3 H' g2 (wsL n es s1 t1)) (fun c hc=>?_) ?_
 ·simp (maxSteps:=1000000) (disch:=omega) only [h3,h4,h5,ld_agg ag26 cs26 cg,SS,eq_self,reduceIte,reduceCtorEq,Nat.reduceEqDiff,Nat.reduceAdd]
  refine CallH.by (SwS_c n w es s1 t1 H hw (by omega)) ?_
  rintro _ H1 ⟨⟨g2,rfl,hin⟩,p1⟩
  simp (maxSteps:=1000000) (disch:=omega) only [SS,eq_self,reduceIte,reduceCtorEq,Nat.reduceEqDiff,Nat.reduceAdd]
  exact hc _ _ ⟨g2,_,h0,hby.pre p1,h3,h4,h5,pre_at p1 cg,hw.pre p1,h6,h7,pre_at p1 co,X.pre p1,h8,h9,pre_at p1 co2,Y.pre p1,h10,h11,W1.pre p1,rfl,rfl,hin.row⟩
 clear h0 hby h3 h4 h5 cg hw h6 h7 co X h8 h9 co2 Y h10 h11 W1 s H
 rintro s H ⟨g2,bW2,h0,hby,h3,h4,h5,cg,hw,h6,h7,co,X,h8,h9,co2,Y,h10,h11,W1,h12,h13,W2⟩
 refine cutC (fun s H'=>s 0=va/\Byt H' va us/\s 3=.pointer (some ⟨gp,0,none⟩)/\s 4=.int .i64 s1/\s 5=.int .i64 t1/\H'[gp]?=some (.cells [.int .i64 n,w] 26 false)/\RowP 115 H' w es/\s 6=.pointer (some ⟨o,0,none⟩)/\s 7=.bool (wsB n es s1 t1)/\H'[o]?=some (.cells [a,b] 34 false)/\SpRow H' a b (wsL n es s1 t1) (wsP n es s1 t1)/\s 8=.pointer (some ⟨o2,0,none⟩)/\s 9=.bool (wsB n es s1 t1)/\H'[o2]?=some (.cells [a2,b2] 34 false)/\SpRow H' a2 b2 (wsL n es s1 t1) (wsP n es s1 t1)/\s 10=g1/\s 11=.bool (decide (0<(wsL n es s1 t1).length))/\RowLB bW1 27 3 H' g1 (wsL n es s1 t1)/\s 12=g2/\s 13=.bool (decide (0<(wsL n es s1 t1).length))/\RowLB bW2 27 3 H' g2 (wsL n es s1 t1)/\s 14=.int .i64 ((wsL n es s1 t1).length:Int)/\s 15=.bool (decide (WsOk n es s1 t1))) (fun c hc=>?_) ?_
 ·simp (maxSteps:=1000000) (disch:=omega) only [h3,h4,h5,ld_agg ag26 cs26 cg,SS,eq_self,reduceIte,reduceCtorEq,Nat.reduceEqDiff,Nat.reduceAdd]
  refine CallH.by (CwI_c n w es s1 t1 H hw (by omega)) ?_
  rintro _ H1 ⟨rfl,p1⟩
  simp (maxSteps:=1000000) (disch:=omega) only [SS,eq_self,reduceIte,reduceCtorEq,Nat.reduceEqDiff,Nat.reduceAdd]
  exact hc _ _ ⟨h0,hby.pre p1,h3,h4,h5,pre_at p1 cg,hw.pre p1,h6,h7,pre_at p1 co,X.pre p1,h8,h9,pre_at p1 co2,Y.pre p1,h10,h11,W1.pre p1,h12,h13,W2.pre p1,rfl,rfl⟩
 clear h0 hby h3 h4 h5 cg hw h6 h7 co X h8 h9 co2 Y h10 h11 W1 h12 h13 W2 s H
 rintro s H ⟨h0,hby,h3,h4,h5,cg,hw,h6,h7,co,X,h8,h9,co2,Y,h10,h11,W1,h12,h13,W2,h14,h15⟩
 refine cutC (fun s H'=>s 0=va/\Byt H' va us/\s 3=.pointer (some ⟨gp,0,none⟩)/\s 4=.int .i64 s1/\s 5=.int .i64 t1/\H'[gp]?=some (.cells [.int .i64 n,w] 26 false)/\RowP 115 H' w es/\s 6=.pointer (some ⟨o,0,none⟩)/\s 7=.bool (wsB n es s1 t1)/\H'[o]?=some (.cells [a,b] 34 false)/\SpRow H' a b (wsL n es s1 t1) (wsP n es s1 t1)/\s 8=.pointer (some ⟨o2,0,none⟩)/\s 9=.bool (wsB n es s1 t1)/\H'[o2]?=some (.cells [a2,b2] 34 false)/\SpRow H' a2 b2 (wsL n es s1 t1) (wsP n es s1 t1)/\s 10=g1/\s 11=.bool (decide (0<(wsL n es s1 t1).length))/\RowLB bW1 27 3 H' g1 (wsL n es s1 t1)/\s 12=g2/\s 13=.bool (decide (0<(wsL n es s1 t1).length))/\RowLB bW2 27 3 H' g2 (wsL n es s1 t1)/\s 14=.int .i64 ((wsL n es s1 t1).length:Int)/\s 15=.bool (decide (WsOk n es s1 t1))/\s 16=.int .i64 ((wsL n es s1 t1).length:Int)/\s 17=.bool (decide (WsOk n es s1 t1))) (fun c hc=>?_) ?_
 ·simp (maxSteps:=1000000) (disch:=omega) only [h3,h4,h5,ld_agg ag26 cs26 cg,SS,eq_self,reduceIte,reduceCtorEq,Nat.reduceEqDiff,Nat.reduceAdd]
  refine CallH.by (CwS_c n w es s1 t1 H hw (by omega)) ?_
  rintro _ H1 ⟨rfl,p1⟩
  simp (maxSteps:=1000000) (disch:=omega) only [SS,eq_self,reduceIte,reduceCtorEq,Nat.reduceEqDiff,Nat.reduceAdd]
  exact hc _ _ ⟨h0,hby.pre p1,h3,h4,h5,pre_at p1 cg,hw.pre p1,h6,h7,pre_at p1 co,X.pre p1,h8,h9,pre_at p1 co2,Y.pre p1,h10,h11,W1.pre p1,h12,h13,W2.pre p1,h14,h15,rfl,rfl⟩
 clear h0 hby h3 h4 h5 cg hw h6 h7 co X h8 h9 co2 Y h10 h11 W1 h12 h13 W2 h14 h15 s H
 rintro s H ⟨h0,hby,h3,h4,h5,cg,hw,h6,h7,co,X,h8,h9,co2,Y,h10,h11,W1,h12,h13,W2,h14,h15,h16,h17⟩
 refine cutC (fun s H'=>∃ (g3:Value) (bW3:Nat),s 0=va/\Byt H' va us/\s 3=.pointer (some ⟨gp,0,none⟩)/\s 4=.int .i64 s1/\s 5=.int .i64 t1/\H'[gp]?=some (.cells [.int .i64 n,w] 26 false)/\RowP 115 H' w es/\s 6=.pointer (some ⟨o,0,none⟩)/\s 7=.bool (wsB n es s1 t1)/\H'[o]?=some (.cells [a,b] 34 false)/\SpRow H' a b (wsL n es s1 t1) (wsP n es s1 t1)/\s 8=.pointer (some ⟨o2,0,none⟩)/\s 9=.bool (wsB n es s1 t1)/\H'[o2]?=some (.cells [a2,b2] 34 false)/\SpRow H' a2 b2 (wsL n es s1 t1) (wsP n es s1 t1)/\s 10=g1/\s 11=.bool (decide (0<(wsL n es s1 t1).length))/\RowLB bW1 27 3 H' g1 (wsL n es s1 t1)/\s 12=g2/\s 13=.bool (decide (0<(wsL n es s1 t1).length))/\RowLB bW2 27 3 H' g2 (wsL n es s1 t1)/\s 14=.int .i64 ((wsL n es s1 t1).length:Int)/\s 15=.bool (decide (WsOk n es s1 t1))/\s 16=.int .i64 ((wsL n es s1 t1).length:Int)/\s 17=.bool (decide (WsOk n es s1 t1))/\s 18=g3/\s 19=.bool (decide (WsOk n es s1 t1))/\RowLB bW3 27 3 H' g3 (layL n es s1 t1)) (fun c hc=>?_) ?_
 ·simp (maxSteps:=1000000) (disch:=omega) only [h3,h4,h5,ld_agg ag26 cs26 cg,SS,eq_self,reduceIte,reduceCtorEq,Nat.reduceEqDiff,Nat.reduceAdd]
  refine CallH.by (LoI_c n w es s1 t1 H hw (by omega)) ?_
  rintro _ H1 ⟨⟨g3,rfl,hin⟩,p1⟩
  simp (maxSteps:=1000000) (disch:=omega) only [SS,eq_self,reduceIte,reduceCtorEq,Nat.reduceEqDiff,Nat.reduceAdd]
  exact hc _ _ ⟨g3,_,h0,hby.pre p1,h3,h4,h5,pre_at p1 cg,hw.pre p1,h6,h7,pre_at p1 co,X.pre p1,h8,h9,pre_at p1 co2,Y.pre p1,h10,h11,W1.pre p1,h12,h13,W2.pre p1,h14,h15,h16,h17,rfl,rfl,hin.row⟩
 clear h0 hby h3 h4 h5 cg hw h6 h7 co X h8 h9 co2 Y h10 h11 W1 h12 h13 W2 h14 h15 h16 h17 s H
 rintro s H ⟨g3,bW3,h0,hby,h3,h4,h5,cg,hw,h6,h7,co,X,h8,h9,co2,Y,h10,h11,W1,h12,h13,W2,h14,h15,h16,h17,h18,h19,W3⟩
 refine cutC (fun s H'=>∃ (g4:Value) (bW4:Nat),s 0=va/\Byt H' va us/\s 6=.pointer (some ⟨o,0,none⟩)/\s 7=.bool (wsB n es s1 t1)/\H'[o]?=some (.cells [a,b] 34 false)/\SpRow H' a b (wsL n es s1 t1) (wsP n es s1 t1)/\s 8=.pointer (some ⟨o2,0,none⟩)/\s 9=.bool (wsB n es s1 t1)/\H'[o2]?=some (.cells [a2,b2] 34 false)/\SpRow H' a2 b2 (wsL n es s1 t1) (wsP n es s1 t1)/\s 10=g1/\s 11=.bool (decide (0<(wsL n es s1 t1).length))/\RowLB bW1 27 3 H' g1 (wsL n es s1 t1)/\s 12=g2/\s 13=.bool (decide (0<(wsL n es s1 t1).length))/\RowLB bW2 27 3 H' g2 (wsL n es s1 t1)/\s 14=.int .i64 ((wsL n es s1 t1).length:Int)/\s 15=.bool (decide (WsOk n es s1 t1))/\s 16=.int .i64 ((wsL n es s1 t1).length:Int)/\s 17=.bool (decide (WsOk n es s1 t1))/\s 18=g3/\s 19=.bool (decide (WsOk n es s1 t1))/\RowLB bW3 27 3 H' g3 (layL n es s1 t1)/\s 20=g4/\s 21=.bool (decide (WsOk n es s1 t1))/\RowLB bW4 27 3 H' g4 (layL n es s1 t1)) (fun c hc=>?_) ?_
 ·simp (maxSteps:=1000000) (disch:=omega) only [h3,h4,h5,ld_agg ag26 cs26 cg,SS,eq_self,reduceIte,reduceCtorEq,Nat.reduceEqDiff,Nat.reduceAdd]
  refine CallH.by (LoS_c n w es s1 t1 H hw (by omega)) ?_
  rintro _ H1 ⟨⟨g4,rfl,hin⟩,p1⟩
  simp (maxSteps:=1000000) (disch:=omega) only [SS,eq_self,reduceIte,reduceCtorEq,Nat.reduceEqDiff,Nat.reduceAdd]
  exact hc _ _ ⟨g4,_,h0,hby.pre p1,h6,h7,pre_at p1 co,X.pre p1,h8,h9,pre_at p1 co2,Y.pre p1,h10,h11,W1.pre p1,h12,h13,W2.pre p1,h14,h15,h16,h17,h18,h19,W3.pre p1,rfl,rfl,hin.row⟩
 clear h0 hby h3 h4 h5 cg hw h6 h7 co X h8 h9 co2 Y h10 h11 W1 h12 h13 W2 h14 h15 h16 h17 h18 h19 W3 s H
 rintro s H ⟨g4,bW4,h0,hby,h6,h7,co,X,h8,h9,co2,Y,h10,h11,W1,h12,h13,W2,h14,h15,h16,h17,h18,h19,W3,h20,h21,W4⟩
 refine cutC (fun s H'=>∃ (gq:Nat) (m:Int) (w2 va2 vb2:Value) (es2:List (Int × Int)) (xs ys:List Int),s 6=.pointer (some ⟨o,0,none⟩)/\s 7=.bool (wsB n es s1 t1)/\H'[o]?=some (.cells [a,b] 34 false)/\SpRow H' a b (wsL n es s1 t1) (wsP n es s1 t1)/\s 8=.pointer (some ⟨o2,0,none⟩)/\s 9=.bool (wsB n es s1 t1)/\H'[o2]?=some (.cells [a2,b2] 34 false)/\SpRow H' a2 b2 (wsL n es s1 t1) (wsP n es s1 t1)/\s 10=g1/\s 11=.bool (decide (0<(wsL n es s1 t1).length))/\RowLB bW1 27 3 H' g1 (wsL n es s1 t1)/\s 12=g2/\s 13=.bool (decide (0<(wsL n es s1 t1).length))/\RowLB bW2 27 3 H' g2 (wsL n es s1 t1)/\s 14=.int .i64 ((wsL n es s1 t1).length:Int)/\s 15=.bool (decide (WsOk n es s1 t1))/\s 16=.int .i64 ((wsL n es s1 t1).length:Int)/\s 17=.bool (decide (WsOk n es s1 t1))/\s 18=g3/\s 19=.bool (decide (WsOk n es s1 t1))/\RowLB bW3 27 3 H' g3 (layL n es s1 t1)/\s 20=g4/\s 21=.bool (decide (WsOk n es s1 t1))/\RowLB bW4 27 3 H' g4 (layL n es s1 t1)/\s 22=.pointer (some ⟨gq,0,none⟩)/\s 23=va2/\s 24=vb2/\H'[gq]?=some (.cells [.int .i64 m,w2] 26 false)/\RowP 115 H' w2 es2/\Row 3 H' va2 xs/\Row 3 H' vb2 ys/\es2.length<=200/\I64 m/\Sml es2/\LsOk xs/\LsOk ys) (fun c hc=>?_) ?_
 ·have hle2:=hus
  simp (maxSteps:=1000000) (disch:=omega) only [h0,SS,eq_self,reduceIte,reduceCtorEq,Nat.reduceEqDiff,Nat.reduceAdd]
  refine CallH.by (vCut_c hby (by omega)) ?_
  rintro vb K ⟨ws2,hb2,pK⟩
  simp (maxSteps:=1000000) (disch:=omega) only [SS,eq_self,reduceIte,reduceCtorEq,Nat.reduceEqDiff,Nat.reduceAdd]
  refine CallH.by (DrawWw_c hb2) ?_
  rintro _ K2 ⟨m,w2,va2,vb2,es2,xs,ys,rfl,hw2,hel2,hm,hs2,hx,kx,hy,ky,pK2⟩
  have st:=st_G hw2 (at_new K2 (.cells [.int .i64 0,.slice none 0 0] 26 false)) rfl m
  rw [set_new] at st
  have p2:K2<+:K2 ++ [AObj.cells [.int .i64 m,w2] 26 false]:=List.prefix_append _ _
  simp (maxSteps:=1000000) (disch:=omega) only [alloc_G,st,SS,eq_self,reduceIte,reduceCtorEq,Nat.reduceEqDiff,Nat.reduceAdd]
  have pAll:=pK.trans (pK2.trans p2)
  exact hc _ _ ⟨K2.length,m,w2,va2,vb2,es2,xs,ys,h6,h7,pre_at pAll co,X.pre pAll,h8,h9,pre_at pAll co2,Y.pre pAll,h10,h11,W1.pre pAll,h12,h13,W2.pre pAll,h14,h15,h16,h17,h18,h19,W3.pre pAll,h20,h21,W4.pre pAll,rfl,rfl,rfl,at_new ..,hw2.pre p2,hx.pre p2,hy.pre p2,hel2,hm,hs2,kx,ky⟩
 clear h0 hby h6 h7 co X h8 h9 co2 Y h10 h11 W1 h12 h13 W2 h14 h15 h16 h17 h18 h19 W3 h20 h21 W4 s H
 rintro s H ⟨gq,m,w2,va2,vb2,es2,xs,ys,h6,h7,co,X,h8,h9,co2,Y,h10,h11,W1,h12,h13,W2,h14,h15,h16,h17,h18,h19,W3,h20,h21,W4,h22,h23,h24,cg2,hw2,hx,hy,hel2,hm,hs2,kx,ky⟩
 have hes2:∀ y ∈ es2,I64 y.1/\I64 y.2:=fun y hy=>by have:=hs2 y hy;exact ⟨⟨by omega,by omega⟩,by omega,by omega⟩
 obtain ⟨kx1,kx2⟩:=kx
 obtain ⟨ky1,ky2⟩:=ky
 obtain ⟨wl1,wl2⟩:=wwL_small m es2 xs ys
 refine cutC (fun s H'=>∃ (g5:Value) (bW5:Nat),s 6=.pointer (some ⟨o,0,none⟩)/\s 7=.bool (wsB n es s1 t1)/\H'[o]?=some (.cells [a,b] 34 false)/\SpRow H' a b (wsL n es s1 t1) (wsP n es s1 t1)/\s 8=.pointer (some ⟨o2,0,none⟩)/\s 9=.bool (wsB n es s1 t1)/\H'[o2]?=some (.cells [a2,b2] 34 false)/\SpRow H' a2 b2 (wsL n es s1 t1) (wsP n es s1 t1)/\s 10=g1/\s 11=.bool (decide (0<(wsL n es s1 t1).length))/\RowLB bW1 27 3 H' g1 (wsL n es s1 t1)/\s 12=g2/\s 13=.bool (decide (0<(wsL n es s1 t1).length))/\RowLB bW2 27 3 H' g2 (wsL n es s1 t1)/\s 14=.int .i64 ((wsL n es s1 t1).length:Int)/\s 15=.bool (decide (WsOk n es s1 t1))/\s 16=.int .i64 ((wsL n es s1 t1).length:Int)/\s 17=.bool (decide (WsOk n es s1 t1))/\s 18=g3/\s 19=.bool (decide (WsOk n es s1 t1))/\RowLB bW3 27 3 H' g3 (layL n es s1 t1)/\s 20=g4/\s 21=.bool (decide (WsOk n es s1 t1))/\RowLB bW4 27 3 H' g4 (layL n es s1 t1)/\s 22=.pointer (some ⟨gq,0,none⟩)/\s 23=va2/\s 24=vb2/\H'[gq]?=some (.cells [.int .i64 m,w2] 26 false)/\RowP 115 H' w2 es2/\Row 3 H' va2 xs/\Row 3 H' vb2 ys/\s 25=g5/\s 26=.bool (wwB m es2 xs ys)/\RowLB bW5 27 3 H' g5 (wwL m es2 xs ys)) (fun c hc=>?_) ?_
 ·simp (maxSteps:=1000000) (disch:=omega) only [h22,h23,h24,ld_agg ag26 cs26 cg2,SS,eq_self,reduceIte,reduceCtorEq,Nat.reduceEqDiff,Nat.reduceAdd]
  refine CallH.by (WwI_c m w2 va2 vb2 es2 xs ys H hw2 (by omega) hes2 hx (by omega) kx2 hy (by omega) ky2 hm) ?_
  rintro _ H1 ⟨g5,rfl,hin,p1⟩
  simp (maxSteps:=1000000) (disch:=omega) only [SS,eq_self,reduceIte,reduceCtorEq,Nat.reduceEqDiff,Nat.reduceAdd]
  exact hc _ _ ⟨g5,_,h6,h7,pre_at p1 co,X.pre p1,h8,h9,pre_at p1 co2,Y.pre p1,h10,h11,W1.pre p1,h12,h13,W2.pre p1,h14,h15,h16,h17,h18,h19,W3.pre p1,h20,h21,W4.pre p1,h22,h23,h24,pre_at p1 cg2,hw2.pre p1,hx.pre p1,hy.pre p1,rfl,rfl,hin.row⟩
 clear h6 h7 co X h8 h9 co2 Y h10 h11 W1 h12 h13 W2 h14 h15 h16 h17 h18 h19 W3 h20 h21 W4 h22 h23 h24 cg2 hw2 hx hy s H
 rintro s H ⟨g5,bW5,h6,h7,co,X,h8,h9,co2,Y,h10,h11,W1,h12,h13,W2,h14,h15,h16,h17,h18,h19,W3,h20,h21,W4,h22,h23,h24,cg2,hw2,hx,hy,h25,h26,W5⟩
 refine cutC (fun s H'=>∃ (g6:Value) (bW6:Nat),s 6=.pointer (some ⟨o,0,none⟩)/\s 7=.bool (wsB n es s1 t1)/\H'[o]?=some (.cells [a,b] 34 false)/\SpRow H' a b (wsL n es s1 t1) (wsP n es s1 t1)/\s 8=.pointer (some ⟨o2,0,none⟩)/\s 9=.bool (wsB n es s1 t1)/\H'[o2]?=some (.cells [a2,b2] 34 false)/\SpRow H' a2 b2 (wsL n es s1 t1) (wsP n es s1 t1)/\s 10=g1/\s 11=.bool (decide (0<(wsL n es s1 t1).length))/\RowLB bW1 27 3 H' g1 (wsL n es s1 t1)/\s 12=g2/\s 13=.bool (decide (0<(wsL n es s1 t1).length))/\RowLB bW2 27 3 H' g2 (wsL n es s1 t1)/\s 14=.int .i64 ((wsL n es s1 t1).length:Int)/\s 15=.bool (decide (WsOk n es s1 t1))/\s 16=.int .i64 ((wsL n es s1 t1).length:Int)/\s 17=.bool (decide (WsOk n es s1 t1))/\s 18=g3/\s 19=.bool (decide (WsOk n es s1 t1))/\RowLB bW3 27 3 H' g3 (layL n es s1 t1)/\s 20=g4/\s 21=.bool (decide (WsOk n es s1 t1))/\RowLB bW4 27 3 H' g4 (layL n es s1 t1)/\s 23=va2/\s 24=vb2/\Row 3 H' va2 xs/\Row 3 H' vb2 ys/\s 25=g5/\s 26=.bool (wwB m es2 xs ys)/\RowLB bW5 27 3 H' g5 (wwL m es2 xs ys)/\s 27=g6/\s 28=.bool (wwB m es2 xs ys)/\RowLB bW6 27 3 H' g6 (wwL m es2 xs ys)) (fun c hc=>?_) ?_
 ·simp (maxSteps:=1000000) (disch:=omega) only [h22,h23,h24,ld_agg ag26 cs26 cg2,SS,eq_self,reduceIte,reduceCtorEq,Nat.reduceEqDiff,Nat.reduceAdd]
  refine CallH.by (WwS_c m w2 va2 vb2 es2 xs ys H hw2 (by omega) hes2 hx (by omega) kx2 hy (by omega) ky2 hm) ?_
  rintro _ H1 ⟨g6,rfl,hin,p1⟩
  simp (maxSteps:=1000000) (disch:=omega) only [SS,eq_self,reduceIte,reduceCtorEq,Nat.reduceEqDiff,Nat.reduceAdd]
  exact hc _ _ ⟨g6,_,h6,h7,pre_at p1 co,X.pre p1,h8,h9,pre_at p1 co2,Y.pre p1,h10,h11,W1.pre p1,h12,h13,W2.pre p1,h14,h15,h16,h17,h18,h19,W3.pre p1,h20,h21,W4.pre p1,h23,h24,hx.pre p1,hy.pre p1,h25,h26,W5.pre p1,rfl,rfl,hin.row⟩
 clear h6 h7 co X h8 h9 co2 Y h10 h11 W1 h12 h13 W2 h14 h15 h16 h17 h18 h19 W3 h20 h21 W4 h22 h23 h24 cg2 hw2 hx hy h25 h26 W5 s H
 rintro s H ⟨g6,bW6,h6,h7,co,X,h8,h9,co2,Y,h10,h11,W1,h12,h13,W2,h14,h15,h16,h17,h18,h19,W3,h20,h21,W4,h23,h24,hx,hy,h25,h26,W5,h27,h28,W6⟩
 have lyl:(layL n es s1 t1).length<=1000000/\∀ l ∈ layL n es s1 t1,l.length<=1000000:=layL_small n es s1 t1
 have wll:∀ l ∈ wsL n es s1 t1,l.length<=1000000:=fun l hl=>by have:=hwk l hl;omega
 refine cutC (fun s H'=>s 6=.pointer (some ⟨o,0,none⟩)/\s 7=.bool (wsB n es s1 t1)/\H'[o]?=some (.cells [a,b] 34 false)/\SpRow H' a b (wsL n es s1 t1) (wsP n es s1 t1)/\s 10=g1/\s 11=.bool (decide (0<(wsL n es s1 t1).length))/\RowLB bW1 27 3 H' g1 (wsL n es s1 t1)/\s 14=.int .i64 ((wsL n es s1 t1).length:Int)/\s 15=.bool (decide (WsOk n es s1 t1))/\s 18=g3/\RowLB bW3 27 3 H' g3 (layL n es s1 t1)/\s 23=va2/\s 24=vb2/\Row 3 H' va2 xs/\Row 3 H' vb2 ys/\s 25=g5/\s 26=.bool (wwB m es2 xs ys)/\RowLB bW5 27 3 H' g5 (wwL m es2 xs ys)) (fun c hc=>?_) ?_
 ·simp (maxSteps:=1000000) (disch:=omega) only [h6,h7,h8,h9,h10,h11,h12,h13,h14,h15,h16,h17,h18,h19,h20,h21,h25,h26,h27,h28,f1,f2,f3,f4,f5,ld_agg ag34 cs34 co,ld_agg ag34 cs34 co2,SS,eq_self,reduceIte,reduceCtorEq,Nat.reduceEqDiff,Nat.reduceAdd]
  refine CallH.by (vSpace_c X Y (by omega) wll (by omega)) ?_
  rintro _ H1 ⟨rfl,p1⟩
  simp (maxSteps:=1000000) (disch:=omega) only [h6,h7,h8,h9,h10,h11,h12,h13,h14,h15,h16,h17,h18,h19,h20,h21,h25,h26,h27,h28,f1,f2,f3,f4,f5,SS,eq_self,reduceIte,reduceCtorEq,Nat.reduceEqDiff,Nat.reduceAdd]
  refine CallH.by (vTable_c g1 g2 _ H1 (W1.pre p1) (W2.pre p1) (by omega) wll) ?_
  rintro _ _ ⟨rfl,rfl⟩
  simp (maxSteps:=1000000) (disch:=omega) only [h6,h7,h8,h9,h10,h11,h12,h13,h14,h15,h16,h17,h18,h19,h20,h21,h25,h26,h27,h28,f1,f2,f3,f4,f5,SS,eq_self,reduceIte,reduceCtorEq,Nat.reduceEqDiff,Nat.reduceAdd]
  refine CallH.by (vTable_c g3 g4 _ H1 (W3.pre p1) (W4.pre p1) lyl.1 lyl.2) ?_
  rintro _ _ ⟨rfl,rfl⟩
  simp (maxSteps:=1000000) (disch:=omega) only [h6,h7,h8,h9,h10,h11,h12,h13,h14,h15,h16,h17,h18,h19,h20,h21,h25,h26,h27,h28,f1,f2,f3,f4,f5,SS,eq_self,reduceIte,reduceCtorEq,Nat.reduceEqDiff,Nat.reduceAdd]
  refine CallH.by (vTable_c g5 g6 _ H1 (W5.pre p1) (W6.pre p1) (by omega) wl2) ?_
  rintro _ _ ⟨rfl,rfl⟩
  simp (maxSteps:=1000000) (disch:=omega) only [SS,eq_self,reduceIte,reduceCtorEq,Nat.reduceEqDiff,Nat.reduceAdd]
  exact hc _ _ ⟨h6,h7,pre_at p1 co,X.pre p1,h10,h11,W1.pre p1,h14,h15,h18,W3.pre p1,h23,h24,hx.pre p1,hy.pre p1,h25,h26,W5.pre p1⟩
 clear h6 h7 co X h8 h9 co2 Y h10 h11 W1 h12 h13 W2 h14 h15 h16 h17 h18 h19 W3 h20 h21 W4 h23 h24 hx hy h25 h26 W5 h27 h28 W6 s H
 rintro s H ⟨h6,h7,co,X,h10,h11,W1,h14,h15,h18,W3,h23,h24,hx,hy,h25,h26,W5⟩
 refine cutC (fun s H'=>s 6=.pointer (some ⟨o,0,none⟩)/\s 7=.bool (wsB n es s1 t1)/\H'[o]?=some (.cells [a,b] 34 false)/\SpRow H' a b (wsL n es s1 t1) (wsP n es s1 t1)/\s 10=g1/\s 11=.bool (decide (0<(wsL n es s1 t1).length))/\RowLB bW1 27 3 H' g1 (wsL n es s1 t1)/\s 14=.int .i64 ((wsL n es s1 t1).length:Int)/\s 15=.bool (decide (WsOk n es s1 t1))/\s 18=g3/\RowLB bW3 27 3 H' g3 (layL n es s1 t1)) (fun c hc=>?_) ?_
 ·by_cases hww:wwB m es2 xs ys=true
  rotate_left
  ·rw [Bool.not_eq_true] at hww
   simp (maxSteps:=1000000) (disch:=omega) only [h26,hww,SS,eq_self,reduceIte,reduceCtorEq,Nat.reduceEqDiff,Nat.reduceAdd]
   exact hc _ _ ⟨h6,h7,co,X,h10,h11,W1,h14,h15,h18,W3⟩
  obtain ⟨q1,q2,q3,q4⟩:=ww_len hww
  simp (maxSteps:=1000000) (disch:=omega) only [h26,hww,SS,eq_self,reduceIte,reduceCtorEq,Nat.reduceEqDiff,Nat.reduceAdd]
  refine LoopH.by (fun m s K=>∃ i:Nat,m+i=xs.length/\s 6=.pointer (some ⟨o,0,none⟩)/\s 7=.bool (wsB n es s1 t1)/\s 10=g1/\s 11=.bool (decide (0<(wsL n es s1 t1).length))/\s 14=.int .i64 ((wsL n es s1 t1).length:Int)/\s 15=.bool (decide (WsOk n es s1 t1))/\s 18=g3/\s 23=va2/\s 24=vb2/\s 25=g5/\s 29=.int .i64 ((dfF xs ys i).length:Int)/\s 30=.int .i64 (i:Int)/\H=K) xs.length ?_ ?_
  ·refine ⟨0,by omega,?_⟩
   have z0:((dfF xs ys 0).length:Int)=0:=rfl
   simp (maxSteps:=1000000) (disch:=omega) only [h6,h7,h10,h11,h14,h15,h18,h23,h24,h25,z0,SS,eq_self,reduceIte,reduceCtorEq,Nat.reduceEqDiff,Nat.reduceAdd]
   (repeat' first | exact rfl | apply And.intro) <;> first | (simp only [Value.int.injEq,true_and];omega) | omega | rfl | assumption | (simp;done) | (simp;omega)
  rintro m2 s K ⟨i,hm2,g6,g7,g10,g11,g14,g15,g18,g23,g24,g25,g29,g30,rfl⟩
  simp (maxSteps:=1000000) (disch:=omega) only [g6,g7,g10,g11,g14,g15,g18,g23,g24,g25,g29,g30,hx.len Tryz.underlying27,SS,eq_self,reduceIte,reduceCtorEq,Nat.reduceEqDiff,Nat.reduceAdd]
  refine brD.intro (fun g=>?_) (fun g=>?_)
  ·have hi:i<xs.length:=by omega
   have c1:=hx.cell hi
   have c2:=hy.cell (show i<ys.length by omega)
   have hst:=dfF_succ xs ys i
   have hle:=dfF_len xs ys i
   by_cases q:xs.getD i 0=ys.getD i 0
   ·rw [if_pos q,Nat.add_zero] at hst
    simp (maxSteps:=1000000) (disch:=omega) only [g6,g7,g10,g11,g14,g15,g18,g23,g24,g25,g29,g30,hx.ix Tryz.underlying27 cs3,hy.ix Tryz.underlying27 cs3,q2,Int.toNat_natCast,c1,c2,decide_eq_false (fun h:¬ xs.getD i 0=ys.getD i 0=>h q),wrap64,SS,eq_self,reduceIte,reduceCtorEq,Nat.reduceEqDiff,Nat.reduceAdd]
    refine ⟨m2 - 1,by omega,i+1,?_⟩
    rw [hst]
    (repeat' first | exact rfl | apply And.intro) <;> first | (simp only [Value.int.injEq,true_and];omega) | omega | rfl | assumption | (simp;done) | (simp;omega)
   ·rw [if_neg q] at hst
    have hwr:IntKind.i64.wrap (((dfF xs ys i).length:Int)+1)=((dfF xs ys (i+1)).length:Int):=by rw [hst];exact wrap64 (by omega) (by omega)
    simp (maxSteps:=1000000) (disch:=omega) only [g6,g7,g10,g11,g14,g15,g18,g23,g24,g25,g29,g30,hx.ix Tryz.underlying27 cs3,hy.ix Tryz.underlying27 cs3,q2,Int.toNat_natCast,c1,c2,decide_eq_true (show ¬ xs.getD i 0=ys.getD i 0 from q),hwr,wrap64,SS,eq_self,reduceIte,reduceCtorEq,Nat.reduceEqDiff,Nat.reduceAdd]
    refine ⟨m2 - 1,by omega,i+1,?_⟩
    (repeat' first | exact rfl | apply And.intro) <;> first | (simp only [Value.int.injEq,true_and];omega) | omega | rfl | assumption | (simp;done) | (simp;omega)
  ·have hi:i=xs.length:=by omega
   subst hi
   obtain ⟨us5,v1,_,v2,_⟩:=W5
   have hge:¬ (((wwL m es2 xs ys).length:Int) - 1)<((dfF xs ys xs.length).length:Int):=by omega
   simp (maxSteps:=1000000) (disch:=omega) only [g6,g7,g10,g11,g14,g15,g18,g23,g24,g25,g29,v1.len Tryz.underlying32,v2,wrap64,decide_eq_false hge,SS,eq_self,reduceIte,reduceCtorEq,Nat.reduceEqDiff,Nat.reduceAdd]
   exact hc _ _ ⟨g6,g7,co,X,g10,g11,W1,g14,g15,g18,W3⟩
 clear h6 h7 co X h10 h11 W1 h14 h15 h18 W3 h23 h24 hx hy h25 h26 W5 s H
 rintro s H ⟨h6,h7,co,X,h10,h11,W1,h14,h15,h18,W3⟩
 by_cases hpos:0<(wsL n es s1 t1).length
 rotate_left
 ·have hz:(wsL n es s1 t1).length=0:=by omega
  have hz2:((wsL n es s1 t1).length:Int)=0:=by omega
  by_cases e:WsOk n es s1 t1
  ·simp (maxSteps:=1000000) (disch:=omega) only [h11,decide_eq_false hpos,h14,h15,decide_eq_true e,decide_eq_true hz2,SS,eq_self,reduceIte,reduceCtorEq,Nat.reduceEqDiff,Nat.reduceAdd]
   refine hQ _ _ _ ?_
   simp (maxSteps:=1000000) (disch:=omega) only [SS,eq_self,reduceIte,reduceCtorEq,Nat.reduceEqDiff,Nat.reduceAdd]
  ·simp (maxSteps:=1000000) (disch:=omega) only [h11,decide_eq_false hpos,h14,h15,decide_eq_false e,SS,eq_self,reduceIte,reduceCtorEq,Nat.reduceEqDiff,Nat.reduceAdd]
   refine hQ _ _ _ ?_
   simp (maxSteps:=1000000) (disch:=omega) only [SS,eq_self,reduceIte,reduceCtorEq,Nat.reduceEqDiff,Nat.reduceAdd]
 have hws:WsOk n es s1 t1:=by
  unfold wsL at hpos
  split at hpos
  ·rename_i q;exact q.1
  ·simp at hpos
 obtain ⟨lw1,lw2,lw3⟩:=lay_ways hws
 have hB:wsB n es s1 t1=true:=decide_eq_true hpos
 refine cutC (fun s H'=>s 6=.pointer (some ⟨o,0,none⟩)/\s 7=.bool (wsB n es s1 t1)/\H'[o]?=some (.cells [a,b] 34 false)/\SpRow H' a b (wsL n es s1 t1) (wsP n es s1 t1)/\s 10=g1/\RowLB bW1 27 3 H' g1 (wsL n es s1 t1)/\s 14=.int .i64 ((wsL n es s1 t1).length:Int)/\s 15=.bool (decide (WsOk n es s1 t1))/\s 18=g3/\RowLB bW3 27 3 H' g3 (layL n es s1 t1)) (fun c hc=>?_) ?_
 ·simp (maxSteps:=1000000) (disch:=omega) only [h11,decide_eq_true hpos,SS,eq_self,reduceIte,reduceCtorEq,Nat.reduceEqDiff,Nat.reduceAdd]
  exact hc _ _ ⟨h6,h7,co,X,h10,W1,h14,h15,h18,W3⟩
 clear h6 h7 co X h10 h11 W1 h14 h15 h18 W3 s H
 rintro s H ⟨h6,h7,co,X,h10,W1,h14,h15,h18,W3⟩
 refine cutC (fun s H'=>s 10=g1/\RowLB bW1 27 3 H' g1 (wsL n es s1 t1)/\s 18=g3/\RowLB bW3 27 3 H' g3 (layL n es s1 t1)) (fun c hc=>?_) ?_
 ·obtain ⟨vs1,v1,_,v2,_⟩:=id W1
  have hfa:=cell_of co
  simp (maxSteps:=1000000) (disch:=omega) only [h6,h7,h10,h14,h15,decide_eq_true hpos,hB,v1.len Tryz.underlying32,v2,hfa,f1,f2,f3,f4,f5,SS,eq_self,reduceIte,reduceCtorEq,Nat.reduceEqDiff,Nat.reduceAdd]
  obtain ⟨⟨bX,X1⟩,X2⟩:=X
  refine CallH.by (vTable_c a g1 _ H X1 W1 (by omega) wll) ?_
  rintro _ _ ⟨rfl,rfl⟩
  simp (maxSteps:=1000000) (disch:=omega) only [SS,eq_self,reduceIte,reduceCtorEq,Nat.reduceEqDiff,Nat.reduceAdd]
  exact hc _ _ ⟨h10,W1,h18,W3⟩
 clear h6 h7 co X h10 W1 h14 h15 h18 W3 s H
 rintro s H ⟨h10,W1,h18,W3⟩
 obtain ⟨vs1,v1,_,v2,v3⟩:=W1
 obtain ⟨vs3,u1,_,u2,u3⟩:=W3
 simp (maxSteps:=1000000) (disch:=omega) only [h10,h18,SS,eq_self,reduceIte,reduceCtorEq,Nat.reduceEqDiff,Nat.reduceAdd]
 refine LoopH.by (fun m s K=>∃ i:Nat,m+i=(wsL n es s1 t1).length/\s 10=g1/\s 18=g3/\s 31=.int .i64 (i:Int)/\H=K) (wsL n es s1 t1).length ?_ ?_
 ·refine ⟨0,by omega,?_⟩
  simp (maxSteps:=1000000) (disch:=omega) only [h10,h18,SS,eq_self,reduceIte,reduceCtorEq,Nat.reduceEqDiff,Nat.reduceAdd]
  (repeat' first | exact rfl | apply And.intro) <;> first | (simp only [Value.int.injEq,true_and];omega) | omega | rfl | assumption | (simp;done) | (simp;omega)
 clear h10 h18 s
 rintro m2 s K ⟨i,hm2,h10,h18,h31,rfl⟩
 simp (maxSteps:=1000000) (disch:=omega) only [h10,h18,h31,v1.len Tryz.underlying32,v2,SS,eq_self,reduceIte,reduceCtorEq,Nat.reduceEqDiff,Nat.reduceAdd]
 refine brD.intro (fun g=>?_) (fun g=>?_)
 rotate_left
 ·simp (maxSteps:=1000000) (disch:=omega) only [SS,eq_self,reduceIte,reduceCtorEq,Nat.reduceEqDiff,Nat.reduceAdd]
  refine hQ _ _ _ ?_
  simp (maxSteps:=1000000) (disch:=omega) only [SS,eq_self,reduceIte,reduceCtorEq,Nat.reduceEqDiff,Nat.reduceAdd]
 have hi:i<(wsL n es s1 t1).length:=by omega
 have hmi:(wsL n es s1 t1).getD i [] ∈ wsL n es s1 t1:=by simp [hi]
 have hli:=lw1 _ hmi
 have hri:=(v3 i hi).1
 have hci:=v1.cell (show i<vs1.length by omega)
 have f6:=decide_eq_false (fun h:¬ (((layL n es s1 t1).length:Nat):Int)=(((layL n es s1 t1).length:Nat):Int)=>h rfl)
 simp (maxSteps:=1000000) (disch:=omega) only [h10,h18,h31,v1.ix Tryz.underlying32 cs27,v2,Int.toNat_natCast,hci,hri.len Tryz.underlying27,hli,u1.len Tryz.underlying32,u2,f4,f5,f6,SS,eq_self,reduceIte,reduceCtorEq,Nat.reduceEqDiff,Nat.reduceAdd]
 refine LoopH.by (fun m s K=>∃ d:Nat,m+d=(layL n es s1 t1).length/\s 10=g1/\s 18=g3/\s 31=.int .i64 (i:Int)/\s 32=.int .i64 (d:Int)/\H=K) (layL n es s1 t1).length ?_ ?_
 ·refine ⟨0,by omega,?_⟩
  simp (maxSteps:=1000000) (disch:=omega) only [h10,h18,h31,SS,eq_self,reduceIte,reduceCtorEq,Nat.reduceEqDiff,Nat.reduceAdd]
  (repeat' first | exact rfl | apply And.intro) <;> first | (simp only [Value.int.injEq,true_and];omega) | omega | rfl | assumption | (simp;done) | (simp;omega)
 clear h10 h18 h31 s
 rintro m3 s K ⟨d,hm3,h10,h18,h31,h32,rfl⟩
 simp (maxSteps:=1000000) (disch:=omega) only [h10,h18,h31,h32,u1.len Tryz.underlying32,u2,SS,eq_self,reduceIte,reduceCtorEq,Nat.reduceEqDiff,Nat.reduceAdd]
 refine brD.intro (fun g=>?_) (fun g=>?_)
 rotate_left
 ·simp (maxSteps:=1000000) (disch:=omega) only [h10,h18,h31,wrap64,SS,eq_self,reduceIte,reduceCtorEq,Nat.reduceEqDiff,Nat.reduceAdd]
  refine ⟨m2 - 1,by omega,i+1,?_⟩
  (repeat' first | exact rfl | apply And.intro) <;> first | (simp only [Value.int.injEq,true_and];omega) | omega | rfl | assumption | (simp;done) | (simp;omega)
 have hd:d<(layL n es s1 t1).length:=by omega
 obtain ⟨l1,l2⟩:=lw3 d hd
 have hmem:((wsL n es s1 t1).getD i []).getD d 0 ∈ (layL n es s1 t1).getD d []:=by rw [l1,l2];exact ⟨_,hmi,rfl⟩
 have hld:((layL n es s1 t1).getD d []).length<=1000000:=lyl.2 _ (by simp [hd])
 have hcd:=u1.cell (show d<vs3.length by omega)
 have hcw:=hri.cell (show d<((wsL n es s1 t1).getD i []).length by omega)
 simp (maxSteps:=1000000) (disch:=omega) only [h10,h18,h31,h32,u1.ix Tryz.underlying32 cs27,u2,v1.ix Tryz.underlying32 cs27,v2,hri.ix Tryz.underlying27 cs3,hli,Int.toNat_natCast,hcd,hci,hcw,SS,eq_self,reduceIte,reduceCtorEq,Nat.reduceEqDiff,Nat.reduceAdd]
 refine CallH.by (vHas3_c _ _ _ H (u3 d hd).1 (by omega)) ?_
 rintro _ _ ⟨rfl,rfl⟩
 simp (maxSteps:=1000000) (disch:=omega) only [decide_eq_true hmem,h10,h18,h31,h32,wrap64,SS,eq_self,reduceIte,reduceCtorEq,Nat.reduceEqDiff,Nat.reduceAdd]
 refine ⟨m3 - 1,by omega,d+1,?_⟩
 (repeat' first | exact rfl | apply And.intro) <;> first | (simp only [Value.int.injEq,true_and];omega) | omega | rfl | assumption | (simp;done) | (simp;omega)
def byts (zs:List Int):List Value:=zs.map fun z=>.int .u8 z
theorem byts_len (xs:List Int):(byts xs).length=xs.length:=by simp [byts]
theorem byts_at (xs:List Int){i:Nat}(h:i<xs.length):(byts xs)[i]?=some (.int .u8 (xs.getD i 0)):=by
 simp [byts,h,List.getElem?_eq_getElem]
theorem Args.addBytes {P:Program}{t e:TypeId}{W:World}{base:Nat}{a:Option Addr}{len cap:Nat}{zs:List Int}{μ:Mu}{H:AH}(h:Args P μ H W)(hc:P.cellsOf e=1)(hu:P.underlying t=some (.slice e))
  (hok:Value.okWide P W .any base t (.slice a len cap))(hrow:IsRow .u8 W a len cap zs) :
  ∃ (μ':Mu) (obj:AObj) (va:Value) (us:List Value),Args P μ' (H ++ [obj]) W/\μ.Le μ'/\TRel μ' va (.slice a len cap)/\RowV e (H ++ [obj]) va us/\(∀ i,i<us.length->∃ b:Nat,us.getD i undef=.int .u8 (b:Int)/\b<256)/\(us.length:Int)<=9223372036854775807:=by
 rcases hrow with ⟨rfl,rfl,rfl,rfl⟩ | ⟨x,rfl,hl,hm,hz,hcell,hwf⟩
 ·refine ⟨μ,.dead,.slice none 0 0,[],⟨h.rel.phantom .dead,?_⟩,Mu.Le.refl _,⟨rfl,rfl,rfl⟩,.inl ⟨rfl,rfl⟩,fun i hi=>absurd hi (by simp),by simp⟩
  intro o y hy
  rw [getElem?_snoc] at hy
  split at hy
  ·cases hy;rfl
  ·exact h.ro o y hy
 ·simp only [Value.okWide,hu,Cell.okWide,Cell.ok] at hok
  obtain ⟨_,_,_,hspot,row,cells,hsh,_⟩:=hok
  have hblk:x.block<W.heap.size:=by
   unfold World.shape? at hsh
   cases hb:W.heap[x.block]? with
   | none=>rw [hb] at hsh;cases hsh
   | some o=>exact (Array.getElem?_eq_some_iff.1 hb).1
  have hx:∀ i,x.add i=⟨x.block,x.off+i,none⟩:=by intro i;cases x;simp_all [Addr.add]
  have hfree:μ H.length=none:=h.rel.dom _ (Nat.le_refl _)
  have hle:=Mu.le_put (L:=⟨x.block,x.off,cap,1⟩) hfree
  have hro:∀ (o:Nat) (y:AObj),(H ++ [AObj.cells (byts zs) e true])[o]?=some y->y.wr=false:=by
   intro o y hy
   rw [getElem?_snoc] at hy
   split at hy
   ·cases hy;rfl
   ·exact h.ro o y hy
  refine ⟨μ.put H.length ⟨x.block,x.off,cap,1⟩,.cells (byts zs) e true,.slice (some ⟨H.length,0,none⟩) len len,byts (zs.take len),⟨?_,hro⟩,hle,?_,?_,?_,?_⟩
  ·refine ⟨?_,?_,?_,?_⟩
   ·intro o ho
    simp only [List.length_append,List.length_cons,List.length_nil] at ho
    rw [Mu.put_other _ _ _ (by omega)];exact h.rel.dom o (by omega)
   ·intro o vs t' ro L ho hL
    rw [getElem?_snoc] at ho
    split at ho
    ·rename_i eo
     subst eo
     simp only [Option.some.injEq,AObj.cells.injEq] at ho
     obtain ⟨rfl,rfl,rfl⟩:=ho
     rw [Mu.put_same] at hL
     cases hL
     refine ⟨hblk,by simp,hc.symm,by rw [byts_len];show zs.length<=cap;omega,?_,fun h=>by cases h⟩
     intro i v hv
     have hi:i<zs.length:=by have:=(List.getElem?_eq_some_iff.1 hv).1;rwa [byts_len] at this
     rw [byts_at zs hi] at hv
     cases hv
     refine ⟨_,?_,rfl⟩
     rw [<- hx];exact hcell i hi
    ·rename_i eo
     rw [Mu.put_other _ _ _ eo] at hL
     obtain ⟨h2,h3,h4,h5,h6,h7⟩:=h.rel.cells_ o vs t' ro L ho hL
     refine ⟨h2,h3,h4,h5,?_,h7⟩
     intro i v hv
     obtain ⟨cv,g1,g2⟩:=h6 i v hv
     exact ⟨cv,g1,g2.mono hle⟩
   ·intro o es L ho hL
    rw [getElem?_snoc] at ho
    split at ho
    ·cases ho
    ·have:=h.ro o _ ho
     cases this
   ·intro o o' y y' L L' hne ho ho' hw
    have:=hro o y ho
    rw [this] at hw;cases hw
  ·refine ⟨rfl,rfl,x,cap,rfl,hl,.inr ⟨⟨x.block,x.off,cap,1⟩,Mu.put_same _ _ _,?_,by simp⟩⟩
   have:=hx 0
   cases x
   simp_all
  ·refine .inr ⟨H.length,0,byts zs,true,?_,at_new ..,?_,?_⟩
   ·have:(byts (zs.take len)).length=len:=by rw [byts_len];simp;omega
    rw [this]
   ·rw [byts_len,byts_len];simp;omega
   ·have:(byts (zs.take len)).length=len:=by rw [byts_len];simp;omega
    rw [this,List.drop_zero]
    simp [byts,List.map_take]
  ·intro i hi
   rw [byts_len] at hi
   have h1:=byts_at (zs.take len) hi
   have hm2:(zs.take len).getD i 0 ∈ zs.take len:=by
    rw [List.getD_eq_getElem?_getD,List.getElem?_eq_getElem hi]
    exact List.getElem_mem hi
   have:=hwf _ (List.mem_of_mem_take hm2)
   simp [Lit.wf,IntKind.min,IntKind.max,IntKind.signed,IntKind.bits] at this
   rw [List.getD_eq_getElem?_getD,h1]
   have h0:0<=(zs.take len).getD i 0/\(zs.take len).getD i 0<256:=by
    simp only [List.getD_eq_getElem?_getD,List.getElem?_take] at this ⊢
    omega
   exact ⟨((zs.take len).getD i 0).toNat,by rw [Int.toNat_of_nonneg h0.1];rfl,by omega⟩
  ·rw [byts_len,List.length_take]
   unfold maxLen at hm
   omega
end Go.Proofs.YtlcipphiflcaiaaGreat.Ai
