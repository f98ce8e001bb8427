/- Texts of this claim, joined: TrbB, TrbC, TrbD, AppL, Spc, Adj, MarkL, MarkS, SpR, StpP, Dix, Has, Seq, Perm, DfB, Jmp, TrbE, Clone, Lst, Kps, Joi. -/
import Derived.Test.YtlcipphiflcaiaaProg
import Derived.KernelRfl
import Derived.RangeFuncBox
import Derived.RangeFuncLeaves
import Derived.Shelf.Abstract
import Derived.WalkKit
import Derived.OwnWalkIn
import Derived.TacticsInMore
import Derived.LoopNIn
import Derived.LoopIn
import Derived.Maps.AppendAt
import Derived.Test.YtlcipphiflcaiaaMgLawLgs4
namespace Go.Proofs.Ytlcipphiflcaiaa.Ai
open Go
set_option linter.unusedVariables false
def pr6 : List (Nat × Nat) := [(0, 1), (0, 2), (1, 2), (0, 3), (1, 3), (2, 3), (0, 4), (1, 4), (2, 4), (3, 4), (0, 5), (1, 5), (2, 5), (3, 5), (4, 5)]
def pid (i j : Nat) : Nat := j * (j - 1) / 2 + i
/-- all trees of six nodes, by the greatest node that is joined to the last one -/
def sg1 : List Nat := [1099, 1101, 1102, 1107, 1109, 1110, 1114, 1116, 1123, 1125, 1126, 1129, 1132, 1137, 1138, 1144, 1163, 1165, 1166, 1171, 1173, 1174, 1178, 1180,
  1187, 1189, 1190, 1193, 1196, 1201, 1202, 1208, 1226, 1228, 1234, 1236, 1250, 1252, 1256, 1264, 1291, 1293, 1294, 1299, 1301, 1302, 1306, 1308,
  1315, 1317, 1318, 1321, 1324, 1329, 1330, 1336, 1353, 1356, 1361, 1364, 1368, 1377, 1380, 1392, 1417, 1418, 1425, 1426, 1432, 1441, 1442, 1448,
  1480, 1488, 1504, 1547, 1549, 1550, 1555, 1557, 1558, 1562, 1564, 1571, 1573, 1574, 1577, 1580, 1585, 1586, 1592, 1603, 1605, 1606, 1618, 1620,
  1633, 1636, 1648, 1667, 1669, 1670, 1674, 1676, 1697, 1698, 1704, 1730, 1732, 1760, 1795, 1797, 1798, 1801, 1804, 1809, 1810, 1816, 1857, 1860,
  1872, 1921, 1922, 1928, 1984]
def sg2 : List Nat := [2123, 2125, 2126, 2131, 2133, 2134, 2138, 2140, 2147, 2149, 2150, 2153, 2156, 2161, 2162, 2168, 2187, 2189, 2190, 2195, 2197, 2198, 2202, 2204,
  2211, 2213, 2214, 2217, 2220, 2225, 2226, 2232, 2250, 2252, 2258, 2260, 2274, 2276, 2280, 2288, 2315, 2317, 2318, 2323, 2325, 2326, 2330, 2332,
  2339, 2341, 2342, 2345, 2348, 2353, 2354, 2360, 2377, 2380, 2385, 2388, 2392, 2401, 2404, 2416, 2441, 2442, 2449, 2450, 2456, 2465, 2466, 2472,
  2504, 2512, 2528, 2571, 2573, 2574, 2579, 2581, 2582, 2586, 2588, 2595, 2597, 2598, 2601, 2604, 2609, 2610, 2616, 2627, 2629, 2630, 2642, 2644,
  2657, 2660, 2672, 2691, 2693, 2694, 2698, 2700, 2721, 2722, 2728, 2754, 2756, 2784, 2819, 2821, 2822, 2825, 2828, 2833, 2834, 2840, 2881, 2884,
  2896, 2945, 2946, 2952, 3008, 3146, 3148, 3154, 3156, 3170, 3172, 3176, 3184, 3210, 3212, 3218, 3220, 3234, 3236, 3240, 3248, 3338, 3340, 3346,
  3348, 3362, 3364, 3368, 3376, 3400, 3408, 3424, 3464, 3472, 3488, 3594, 3596, 3602, 3604, 3618, 3620, 3624, 3632, 3650, 3652, 3680, 3714, 3716,
  3744, 3842, 3844, 3848, 3856, 3904, 3968]
def sg3 : List Nat := [4171, 4173, 4174, 4179, 4181, 4182, 4186, 4188, 4195, 4197, 4198, 4201, 4204, 4209, 4210, 4216, 4235, 4237, 4238, 4243, 4245, 4246, 4250, 4252,
  4259, 4261, 4262, 4265, 4268, 4273, 4274, 4280, 4298, 4300, 4306, 4308, 4322, 4324, 4328, 4336, 4363, 4365, 4366, 4371, 4373, 4374, 4378, 4380,
  4387, 4389, 4390, 4393, 4396, 4401, 4402, 4408, 4425, 4428, 4433, 4436, 4440, 4449, 4452, 4464, 4489, 4490, 4497, 4498, 4504, 4513, 4514, 4520,
  4552, 4560, 4576, 4619, 4621, 4622, 4627, 4629, 4630, 4634, 4636, 4643, 4645, 4646, 4649, 4652, 4657, 4658, 4664, 4675, 4677, 4678, 4690, 4692,
  4705, 4708, 4720, 4739, 4741, 4742, 4746, 4748, 4769, 4770, 4776, 4802, 4804, 4832, 4867, 4869, 4870, 4873, 4876, 4881, 4882, 4888, 4929, 4932,
  4944, 4993, 4994, 5000, 5056, 5193, 5196, 5201, 5204, 5208, 5217, 5220, 5232, 5257, 5260, 5265, 5268, 5272, 5281, 5284, 5296, 5320, 5328, 5344,
  5385, 5388, 5393, 5396, 5400, 5409, 5412, 5424, 5512, 5520, 5536, 5641, 5644, 5649, 5652, 5656, 5665, 5668, 5680, 5697, 5700, 5712, 5761, 5764,
  5768, 5792, 5824, 5889, 5892, 5904, 6016, 6217, 6218, 6225, 6226, 6232, 6241, 6242, 6248, 6281, 6282, 6289, 6290, 6296, 6305, 6306, 6312, 6344,
  6352, 6368, 6409, 6410, 6417, 6418, 6424, 6433, 6434, 6440, 6472, 6480, 6496, 6665, 6666, 6673, 6674, 6680, 6689, 6690, 6696, 6721, 6722, 6736,
  6752, 6785, 6786, 6792, 6848, 6913, 6914, 6920, 6976, 7240, 7248, 7264, 7304, 7312, 7328, 7432, 7440, 7456, 7688, 7696, 7712, 7744, 7808, 7936]
def sg4 : List Nat := [8267, 8269, 8270, 8275, 8277, 8278, 8282, 8284, 8291, 8293, 8294, 8297, 8300, 8305, 8306, 8312, 8331, 8333, 8334, 8339, 8341, 8342, 8346, 8348,
  8355, 8357, 8358, 8361, 8364, 8369, 8370, 8376, 8394, 8396, 8402, 8404, 8418, 8420, 8424, 8432, 8459, 8461, 8462, 8467, 8469, 8470, 8474, 8476,
  8483, 8485, 8486, 8489, 8492, 8497, 8498, 8504, 8521, 8524, 8529, 8532, 8536, 8545, 8548, 8560, 8585, 8586, 8593, 8594, 8600, 8609, 8610, 8616,
  8648, 8656, 8672, 8715, 8717, 8718, 8723, 8725, 8726, 8730, 8732, 8739, 8741, 8742, 8745, 8748, 8753, 8754, 8760, 8771, 8773, 8774, 8786, 8788,
  8801, 8804, 8816, 8835, 8837, 8838, 8842, 8844, 8865, 8866, 8872, 8898, 8900, 8928, 8963, 8965, 8966, 8969, 8972, 8977, 8978, 8984, 9025, 9028,
  9040, 9089, 9090, 9096, 9152, 9283, 9285, 9286, 9298, 9300, 9313, 9316, 9328, 9347, 9349, 9350, 9362, 9364, 9377, 9380, 9392, 9410, 9412, 9440,
  9475, 9477, 9478, 9490, 9492, 9505, 9508, 9520, 9537, 9540, 9552, 9601, 9602, 9616, 9632, 9664, 9731, 9733, 9734, 9746, 9748, 9761, 9764, 9776,
  9858, 9860, 9888, 9985, 9988, 10000, 10112, 10307, 10309, 10310, 10314, 10316, 10337, 10338, 10344, 10371, 10373, 10374, 10378, 10380, 10401, 10402, 10408, 10434,
  10436, 10464, 10499, 10501, 10502, 10506, 10508, 10529, 10530, 10536, 10561, 10564, 10568, 10592, 10625, 10626, 10632, 10688, 10755, 10757, 10758, 10762, 10764, 10785,
  10786, 10792, 10818, 10820, 10848, 11009, 11010, 11016, 11072, 11330, 11332, 11360, 11394, 11396, 11424, 11522, 11524, 11552, 11584, 11648, 11778, 11780, 11808, 12032,
  12355, 12357, 12358, 12361, 12364, 12369, 12370, 12376, 12419, 12421, 12422, 12425, 12428, 12433, 12434, 12440, 12482, 12484, 12488, 12496, 12547, 12549, 12550, 12553,
  12556, 12561, 12562, 12568, 12609, 12612, 12624, 12673, 12674, 12680, 12736, 12803, 12805, 12806, 12809, 12812, 12817, 12818, 12824, 12865, 12868, 12880, 12929, 12930,
  12936, 12992, 13377, 13380, 13392, 13441, 13444, 13456, 13504, 13569, 13572, 13584, 13696, 13825, 13828, 13840, 13952, 14401, 14402, 14408, 14465, 14466, 14472, 14528,
  14593, 14594, 14600, 14656, 14849, 14850, 14856, 14912, 15424, 15488, 15616, 15872]
def sg5 : List Nat := [16459, 16461, 16462, 16467, 16469, 16470, 16474, 16476, 16483, 16485, 16486, 16489, 16492, 16497, 16498, 16504, 16523, 16525, 16526, 16531, 16533, 16534, 16538, 16540,
  16547, 16549, 16550, 16553, 16556, 16561, 16562, 16568, 16586, 16588, 16594, 16596, 16610, 16612, 16616, 16624, 16651, 16653, 16654, 16659, 16661, 16662, 16666, 16668,
  16675, 16677, 16678, 16681, 16684, 16689, 16690, 16696, 16713, 16716, 16721, 16724, 16728, 16737, 16740, 16752, 16777, 16778, 16785, 16786, 16792, 16801, 16802, 16808,
  16840, 16848, 16864, 16907, 16909, 16910, 16915, 16917, 16918, 16922, 16924, 16931, 16933, 16934, 16937, 16940, 16945, 16946, 16952, 16963, 16965, 16966, 16978, 16980,
  16993, 16996, 17008, 17027, 17029, 17030, 17034, 17036, 17057, 17058, 17064, 17090, 17092, 17120, 17155, 17157, 17158, 17161, 17164, 17169, 17170, 17176, 17217, 17220,
  17232, 17281, 17282, 17288, 17344, 17419, 17421, 17422, 17427, 17429, 17430, 17434, 17436, 17443, 17445, 17446, 17449, 17452, 17457, 17458, 17464, 17546, 17548, 17554,
  17556, 17570, 17572, 17576, 17584, 17673, 17676, 17681, 17684, 17688, 17697, 17700, 17712, 17800, 17808, 17824, 17923, 17925, 17926, 17938, 17940, 17953, 17956, 17968,
  18050, 18052, 18080, 18177, 18180, 18192, 18304, 18443, 18445, 18446, 18451, 18453, 18454, 18458, 18460, 18467, 18469, 18470, 18473, 18476, 18481, 18482, 18488, 18506,
  18508, 18514, 18516, 18530, 18532, 18536, 18544, 18697, 18698, 18705, 18706, 18712, 18721, 18722, 18728, 18760, 18768, 18784, 18947, 18949, 18950, 18954, 18956, 18977,
  18978, 18984, 19010, 19012, 19040, 19201, 19202, 19208, 19264, 19466, 19468, 19474, 19476, 19490, 19492, 19496, 19504, 19720, 19728, 19744, 19970, 19972, 20000, 20224,
  20491, 20493, 20494, 20499, 20501, 20502, 20506, 20508, 20515, 20517, 20518, 20521, 20524, 20529, 20530, 20536, 20553, 20556, 20561, 20564, 20568, 20577, 20580, 20592,
  20617, 20618, 20625, 20626, 20632, 20641, 20642, 20648, 20680, 20688, 20704, 20995, 20997, 20998, 21001, 21004, 21009, 21010, 21016, 21057, 21060, 21072, 21121, 21122,
  21128, 21184, 21513, 21516, 21521, 21524, 21528, 21537, 21540, 21552, 21640, 21648, 21664, 22017, 22020, 22032, 22144, 22537, 22538, 22545, 22546, 22552, 22561, 22562,
  22568, 22600, 22608, 22624, 23041, 23042, 23048, 23104, 23560, 23568, 23584, 24064, 24587, 24589, 24590, 24595, 24597, 24598, 24602, 24604, 24611, 24613, 24614, 24617,
  24620, 24625, 24626, 24632, 24643, 24645, 24646, 24658, 24660, 24673, 24676, 24688, 24707, 24709, 24710, 24714, 24716, 24737, 24738, 24744, 24770, 24772, 24800, 24835,
  24837, 24838, 24841, 24844, 24849, 24850, 24856, 24897, 24900, 24912, 24961, 24962, 24968, 25024, 25603, 25605, 25606, 25618, 25620, 25633, 25636, 25648, 25730, 25732,
  25760, 25857, 25860, 25872, 25984, 26627, 26629, 26630, 26634, 26636, 26657, 26658, 26664, 26690, 26692, 26720, 26881, 26882, 26888, 26944, 27650, 27652, 27680, 27904,
  28675, 28677, 28678, 28681, 28684, 28689, 28690, 28696, 28737, 28740, 28752, 28801, 28802, 28808, 28864, 29697, 29700, 29712, 29824, 30721, 30722, 30728, 30784, 31744]
def pat6 : Nat → List Nat
  | 0 => []
  | 1 => sg1
  | 2 => sg1 ++ sg2
  | 3 => sg1 ++ (sg2 ++ sg3)
  | 4 => sg1 ++ (sg2 ++ (sg3 ++ sg4))
  | _ => sg1 ++ (sg2 ++ (sg3 ++ (sg4 ++ sg5)))
def bt (p i : Nat) : Bool := Nat.beq ((p >>> i) % 2) 1
/-- what is reached by some pairs -/
def cl6 (p : Nat) (r : Nat) : Nat := (List.range 15).foldl (fun r i => if bt p i && (bt r (pr6.getD i (0, 0)).1 || bt r (pr6.getD i (0, 0)).2) then r ||| (1 <<< (pr6.getD i (0, 0)).1 ||| 1 <<< (pr6.getD i (0, 0)).2) else r) r
def con6 (p : Nat) : Bool := Nat.beq (cl6 p (cl6 p (cl6 p (cl6 p (cl6 p 1))))) 63
def cnt6 (p : Nat) : Nat := (List.range 15).countP (bt p)
def asc6 : List Nat → Bool
  | [] => true
  | [_] => true
  | a :: b :: l => Nat.blt a b && asc6 (b :: l)
set_option maxRecDepth 100000 in
theorem pat6_ok : ((pat6 5).all fun p => con6 p && (Nat.beq (cnt6 p) 5 && Nat.blt p 32768)) = true := by decide +kernel
set_option maxRecDepth 100000 in
theorem pat6_asc : asc6 (pat6 5) = true := by decide +kernel
def toN : List Bool → Nat
  | [] => 0
  | b :: l => (if b then 1 else 0) + 2 * toN l
def allB : Nat → List (List Bool)
  | 0 => [[]]
  | n + 1 => (allB n).flatMap fun l => [false :: l, true :: l]
def F6 (m d : Nat) : Nat :=
  if m = 9 then (if 2 ≤ d then 48 else 0) else
  if m = 10 then (if d = 0 then 0 else if d = 1 then 75 else if d = 2 then 96 else 121) else
  if m = 11 then 125 else if m = 12 then 300 else if m = 13 then 540 else if m = 14 then 864 else if m = 15 then 1296 else 0
def tch (u i : Nat) : Bool := Nat.beq (pr6.getD i (0, 0)).1 u || Nat.beq (pr6.getD i (0, 0)).2 u
def deg6 (p u : Nat) : Nat := (List.range 15).countP fun i => bt p i && tch u i
def b6 (m i : Nat) : Nat := (m >>> i) % 2
/-- the degrees, and the number of pairs, quick to compute -/
def dq6 (m : Nat) : Nat → Nat
  | 0 => b6 m 0 + b6 m 1 + b6 m 3 + b6 m 6 + b6 m 10
  | 1 => b6 m 0 + b6 m 2 + b6 m 4 + b6 m 7 + b6 m 11
  | 2 => b6 m 1 + b6 m 2 + b6 m 5 + b6 m 8 + b6 m 12
  | 3 => b6 m 3 + b6 m 4 + b6 m 5 + b6 m 9 + b6 m 13
  | 4 => b6 m 6 + b6 m 7 + b6 m 8 + b6 m 9 + b6 m 14
  | _ => 0
def cq6 (m : Nat) : Nat := b6 m 0 + b6 m 1 + b6 m 2 + b6 m 3 + b6 m 4 + b6 m 5 + b6 m 6 + b6 m 7 + b6 m 8 + b6 m 9 + b6 m 10 + b6 m 11 + b6 m 12 + b6 m 13 + b6 m 14
/-- at least so many of a list lie in a word -/
def atL (m : Nat) : List Nat → Nat → Bool
  | _, 0 => true
  | [], _ + 1 => false
  | p :: l, k + 1 => cond (Nat.beq (Nat.land p m) p) (atL m l k) (atL m l (k + 1))
/-- the pairs of the first five nodes, and those of the last one with the first d -/
def msk (d : Nat) (bs : List Bool) : Nat := toN bs + (2 ^ d - 1) * 1024
def chk6 (d : Nat) (bs : List Bool) : Bool :=
  !(Nat.ble d (dq6 (msk d bs) 0) && (Nat.ble d (dq6 (msk d bs) 1) && (Nat.ble d (dq6 (msk d bs) 2) && (Nat.ble d (dq6 (msk d bs) 3) && Nat.ble d (dq6 (msk d bs) 4))))) || atL (msk d bs) (pat6 d) (F6 (cq6 (msk d bs)) d)
set_option maxRecDepth 100000 in
theorem chk6_0 : (allB 10).all (chk6 0) = true := by decide +kernel
set_option maxRecDepth 100000 in
theorem chk6_1 : (allB 10).all (chk6 1) = true := by decide +kernel
set_option maxRecDepth 100000 in
theorem chk6_2 : (allB 10).all (chk6 2) = true := by decide +kernel
set_option maxRecDepth 100000 in
theorem chk6_3 : (allB 10).all (chk6 3) = true := by decide +kernel
set_option maxRecDepth 100000 in
theorem chk6_4 : (allB 10).all (chk6 4) = true := by decide +kernel
set_option maxRecDepth 100000 in
theorem chk6_5 : (allB 10).all (chk6 5) = true := by decide +kernel
theorem chk6_ok {d : Nat} (h : d ≤ 5) : (allB 10).all (chk6 d) = true := by
  have : d = 0 ∨ d = 1 ∨ d = 2 ∨ d = 3 ∨ d = 4 ∨ d = 5 := by omega
  rcases this with rfl | rfl | rfl | rfl | rfl | rfl
  · exact chk6_0
  · exact chk6_1
  · exact chk6_2
  · exact chk6_3
  · exact chk6_4
  · exact chk6_5
theorem atL_ok (m : Nat) : ∀ (l : List Nat) (k : Nat), atL m l k = true → k ≤ l.countP fun p => decide (p &&& m = p)
  | _, 0, _ => Nat.zero_le _
  | [], k + 1, h => by simp [atL] at h
  | p :: l, k + 1, h => by
    unfold atL at h
    rw [List.countP_cons]
    by_cases e : p &&& m = p
    · have e2 : Nat.beq (Nat.land p m) p = true := by rw [Nat.beq_eq]; exact e
      rw [e2, cond_true] at h
      have := atL_ok m l k h
      rw [decide_eq_true e, if_pos rfl]; omega
    · have e2 : Nat.beq (Nat.land p m) p = false := by
        rw [← Bool.not_eq_true, Nat.beq_eq]; exact e
      rw [e2, cond_false] at h
      have := atL_ok m l (k + 1) h
      rw [decide_eq_false e]; simp only [Bool.false_eq_true, if_false]; omega
theorem pat6_sub {d : Nat} (h : d ≤ 5) : (pat6 d).Sublist (pat6 5) := by
  have a : ∀ (l m n : List Nat), m.Sublist n → (l ++ m).Sublist (l ++ n) := fun l m n q => (List.append_sublist_append_left l).2 q
  have hd : d = 0 ∨ d = 1 ∨ d = 2 ∨ d = 3 ∨ d = 4 ∨ d = 5 := by omega
  rcases hd with rfl | rfl | rfl | rfl | rfl | rfl
  · exact List.nil_sublist _
  · exact List.sublist_append_left _ _
  · exact a _ _ _ (List.sublist_append_left _ _)
  · exact a _ _ _ (a _ _ _ (List.sublist_append_left _ _))
  · exact a _ _ _ (a _ _ _ (a _ _ _ (List.sublist_append_left _ _)))
  · exact List.Sublist.refl _
theorem allB_mem : ∀ (n : Nat) (bs : List Bool), bs.length = n → bs ∈ allB n
  | 0, bs, h => by rw [List.eq_nil_of_length_eq_zero h]; simp [allB]
  | n + 1, [], h => by simp at h
  | n + 1, b :: bs, h => by
    unfold allB
    rw [List.mem_flatMap]
    exact ⟨bs, allB_mem n bs (by simpa using h), by cases b <;> simp⟩
theorem b6_bt (m i : Nat) : b6 m i = if bt m i = true then 1 else 0 := by
  unfold b6 bt
  have h : (m >>> i) % 2 = 0 ∨ (m >>> i) % 2 = 1 := by omega
  rcases h with h | h <;> rw [h] <;> rfl
theorem cq6_ok (m : Nat) : cnt6 m = cq6 m := by
  unfold cnt6 cq6
  simp only [b6_bt, List.range, List.range.loop, List.countP_cons, List.countP_nil]
  omega
theorem dq6_ok (m : Nat) {u : Nat} (hu : u < 5) : deg6 m u = dq6 m u := by
  have h : ∀ i, (if (bt m i && true) = true then 1 else 0) = b6 m i := fun i => by rw [b6_bt, Bool.and_true]
  have h0 : ∀ i, (if (bt m i && false) = true then 1 else 0) = 0 := fun i => by rw [Bool.and_false]; rfl
  have hc : u = 0 ∨ u = 1 ∨ u = 2 ∨ u = 3 ∨ u = 4 := by omega
  rcases hc with rfl | rfl | rfl | rfl | rfl
  · have t : (List.range 15).map (tch 0) = [true, true, false, true, false, false, true, false, false, false, true, false, false, false, false] := by decide
    simp only [List.range, List.range.loop, List.map_cons, List.map_nil, List.cons.injEq, and_true] at t
    obtain ⟨t0, t1, t2, t3, t4, t5, t6, t7, t8, t9, t10, t11, t12, t13, t14⟩ := t
    unfold deg6
    simp only [List.range, List.range.loop, List.countP_cons, List.countP_nil, t0, t1, t2, t3, t4, t5, t6, t7, t8, t9, t10, t11, t12, t13, t14, h, h0, dq6]
    omega
  · have t : (List.range 15).map (tch 1) = [true, false, true, false, true, false, false, true, false, false, false, true, false, false, false] := by decide
    simp only [List.range, List.range.loop, List.map_cons, List.map_nil, List.cons.injEq, and_true] at t
    obtain ⟨t0, t1, t2, t3, t4, t5, t6, t7, t8, t9, t10, t11, t12, t13, t14⟩ := t
    unfold deg6
    simp only [List.range, List.range.loop, List.countP_cons, List.countP_nil, t0, t1, t2, t3, t4, t5, t6, t7, t8, t9, t10, t11, t12, t13, t14, h, h0, dq6]
    omega
  · have t : (List.range 15).map (tch 2) = [false, true, true, false, false, true, false, false, true, false, false, false, true, false, false] := by decide
    simp only [List.range, List.range.loop, List.map_cons, List.map_nil, List.cons.injEq, and_true] at t
    obtain ⟨t0, t1, t2, t3, t4, t5, t6, t7, t8, t9, t10, t11, t12, t13, t14⟩ := t
    unfold deg6
    simp only [List.range, List.range.loop, List.countP_cons, List.countP_nil, t0, t1, t2, t3, t4, t5, t6, t7, t8, t9, t10, t11, t12, t13, t14, h, h0, dq6]
    omega
  · have t : (List.range 15).map (tch 3) = [false, false, false, true, true, true, false, false, false, true, false, false, false, true, false] := by decide
    simp only [List.range, List.range.loop, List.map_cons, List.map_nil, List.cons.injEq, and_true] at t
    obtain ⟨t0, t1, t2, t3, t4, t5, t6, t7, t8, t9, t10, t11, t12, t13, t14⟩ := t
    unfold deg6
    simp only [List.range, List.range.loop, List.countP_cons, List.countP_nil, t0, t1, t2, t3, t4, t5, t6, t7, t8, t9, t10, t11, t12, t13, t14, h, h0, dq6]
    omega
  · have t : (List.range 15).map (tch 4) = [false, false, false, false, false, false, true, true, true, true, false, false, false, false, true] := by decide
    simp only [List.range, List.range.loop, List.map_cons, List.map_nil, List.cons.injEq, and_true] at t
    obtain ⟨t0, t1, t2, t3, t4, t5, t6, t7, t8, t9, t10, t11, t12, t13, t14⟩ := t
    unfold deg6
    simp only [List.range, List.range.loop, List.countP_cons, List.countP_nil, t0, t1, t2, t3, t4, t5, t6, t7, t8, t9, t10, t11, t12, t13, t14, h, h0, dq6]
    omega
theorem bt_iff (p i : Nat) : bt p i = p.testBit i := by
  unfold bt
  rw [Nat.testBit_eq_decide_div_mod_eq, ← Nat.shiftRight_eq_div_pow, Bool.eq_iff_iff, Nat.beq_eq, decide_eq_true_eq]
theorem toN_bit : ∀ (bs : List Bool) (i : Nat), (toN bs).testBit i = bs.getD i false
  | [], i => by simp [toN]
  | b :: bs, 0 => by
    rw [Nat.testBit_zero]
    simp only [toN]
    cases b <;> simp <;> omega
  | b :: bs, i + 1 => by
    rw [Nat.testBit_succ]
    have : toN (b :: bs) / 2 = toN bs := by simp only [toN]; cases b <;> simp <;> omega
    rw [this, toN_bit bs i]; rfl
theorem toN_lt : ∀ (bs : List Bool), toN bs < 2 ^ bs.length
  | [] => by simp [toN]
  | b :: bs => by
    have := toN_lt bs
    simp only [toN]
    rw [List.length_cons, Nat.pow_succ]
    cases b <;> simp <;> omega
theorem msk_bit {d : Nat} {bs : List Bool} (hb : bs.length = 10) (hd : d ≤ 5) (i : Nat) : (msk d bs).testBit i = if i < 10 then bs.getD i false else decide (i < 10 + d) := by
  have h1 := toN_lt bs
  rw [hb] at h1
  unfold msk
  rw [show (1024 : Nat) = 2 ^ 10 from rfl, Nat.add_comm, Nat.mul_comm, Nat.testBit_two_pow_mul_add _ h1]
  split
  · exact toN_bit bs i
  · rw [Nat.testBit_two_pow_sub_one, decide_eq_decide]; omega
theorem asc6_ok : ∀ (l : List Nat), asc6 l = true → l.Pairwise (· < ·)
  | [], _ => .nil
  | [a], _ => by simp
  | a :: b :: l, h => by
    unfold asc6 at h
    rw [Bool.and_eq_true] at h
    have ih := asc6_ok (b :: l) h.2
    have hab : a < b := by have := h.1; unfold Nat.blt at this; exact Nat.le_of_ble_eq_true this
    refine List.pairwise_cons.2 ⟨fun x hx => ?_, ih⟩
    rcases List.mem_cons.1 hx with rfl | hx
    · exact hab
    · have := (List.pairwise_cons.1 ih).1 x hx; omega
/-- what is reached is joined -/
theorem cl6_ok {R : Nat → Nat → Prop} (rr : R 0 0) (rs : ∀ {a b}, R a b → R b a) (rt : ∀ {a b c}, R a b → R b c → R a c) {p : Nat} (hp : ∀ i, i < 15 → p.testBit i = true → R (pr6.getD i (0, 0)).1 (pr6.getD i (0, 0)).2)
    {r : Nat} (h : ∀ x, r.testBit x = true → R 0 x) : ∀ x, (cl6 p r).testBit x = true → R 0 x := by
  unfold cl6
  have key : ∀ (l : List Nat) (r : Nat), (∀ i ∈ l, i < 15) → (∀ x, r.testBit x = true → R 0 x) → ∀ x, (l.foldl (fun r i => if bt p i && (bt r (pr6.getD i (0, 0)).1 || bt r (pr6.getD i (0, 0)).2) then r ||| (1 <<< (pr6.getD i (0, 0)).1 ||| 1 <<< (pr6.getD i (0, 0)).2) else r) r).testBit x = true → R 0 x := by
    intro l
    induction l with
    | nil => intro r _ h x hx; exact h x hx
    | cons i l ih =>
      intro r hl h
      rw [List.foldl_cons]
      refine ih _ (fun j hj => hl j (by simp [hj])) ?_
      intro x hx
      split at hx
      · rename_i g
        rw [Bool.and_eq_true, Bool.or_eq_true, bt_iff, bt_iff, bt_iff] at g
        have e := hp i (hl i (by simp)) g.1
        have both : R 0 (pr6.getD i (0, 0)).1 ∧ R 0 (pr6.getD i (0, 0)).2 := by
          rcases g.2 with q | q
          · exact ⟨h _ q, rt (h _ q) e⟩
          · exact ⟨rt (h _ q) (rs e), h _ q⟩
        rw [Nat.testBit_or, Nat.testBit_or, Nat.one_shiftLeft, Nat.one_shiftLeft, Nat.testBit_two_pow, Nat.testBit_two_pow, Bool.or_eq_true, Bool.or_eq_true, decide_eq_true_eq, decide_eq_true_eq] at hx
        rcases hx with q | q | q
        · exact h x q
        · rw [← q]; exact both.1
        · rw [← q]; exact both.2
      · exact h x hx
  exact key _ r (fun i hi => List.mem_range.1 hi) h
theorem con6_ok {R : Nat → Nat → Prop} (rr : R 0 0) (rs : ∀ {a b}, R a b → R b a) (rt : ∀ {a b c}, R a b → R b c → R a c) {p : Nat} (hc : con6 p = true) (hp : ∀ i, i < 15 → p.testBit i = true → R (pr6.getD i (0, 0)).1 (pr6.getD i (0, 0)).2) : ∀ x, x < 6 → R 0 x := by
  intro x hx
  have h0 : ∀ x, (1 : Nat).testBit x = true → R 0 x := by
    intro x hx
    have : x = 0 := by
      rw [show (1 : Nat) = 2 ^ 0 from rfl, Nat.testBit_two_pow, decide_eq_true_eq] at hx
      exact hx.symm
    subst this; exact rr
  have h5 := cl6_ok rr rs rt hp (cl6_ok rr rs rt hp (cl6_ok rr rs rt hp (cl6_ok rr rs rt hp (cl6_ok rr rs rt hp h0))))
  have e := Nat.eq_of_beq_eq_true hc
  refine h5 x ?_
  rw [e, show (63 : Nat) = 2 ^ 6 - 1 from rfl, Nat.testBit_two_pow_sub_one]
  exact decide_eq_true hx
end Go.Proofs.Ytlcipphiflcaiaa.Ai
namespace Go.Proofs.Ytlcipphiflcaiaa.Ai
open Go
set_option linter.unusedVariables false
theorem asc_ext : ∀ {l m : List Int}, l.Pairwise (· < ·) → m.Pairwise (· < ·) → (∀ x, x ∈ l ↔ x ∈ m) → l = m
  | [], [], _, _, _ => rfl
  | [], b :: m, _, _, h => by have := (h b).2 (by simp); simp at this
  | a :: l, [], _, _, h => by have := (h a).1 (by simp); simp at this
  | a :: l, b :: m, hl, hm, h => by
    have hl' := List.pairwise_cons.1 hl
    have hm' := List.pairwise_cons.1 hm
    have e : a = b := by
      have h1 := (h a).1 (by simp)
      have h2 := (h b).2 (by simp)
      rcases List.mem_cons.1 h1 with q | q
      · exact q
      · rcases List.mem_cons.1 h2 with p | p
        · exact p.symm
        · have := hm'.1 a q
          have := hl'.1 b p
          omega
    subst e
    rw [asc_ext hl'.2 hm'.2 fun x => ?_]
    have := h x
    constructor
    · intro hx
      rcases List.mem_cons.1 (this.1 (by simp [hx])) with q | q
      · have := hl'.1 x hx; omega
      · exact q
    · intro hx
      rcases List.mem_cons.1 (this.2 (by simp [hx])) with q | q
      · have := hm'.1 x hx; omega
      · exact q
def inc (es : List (Int × Int)) (v : Nat) (e : Int) : Bool := decide (enA es e = v ∨ enB es e = v)
theorem inc_iff {es : List (Int × Int)} {v : Nat} {e : Int} : inc es v e = true ↔ enA es e = v ∨ enB es e = v := by unfold inc; exact decide_eq_true_iff
/-- some edges with all their ends among some nodes -/
structure SG (es : List (Int × Int)) (A : List Int) (V : List Nat) : Prop where
  asc : A.Pairwise (· < ·)
  nd : V.Nodup
  ends : ∀ e ∈ A, (enA es e ∈ V ∧ enB es e ∈ V) ∧ enA es e < enB es e
  inj : ∀ e ∈ A, ∀ f ∈ A, enA es e = enA es f → enB es e = enB es f → e = f
def dgA (es : List (Int × Int)) (A : List Int) (v : Nat) : Nat := A.countP (inc es v)
def cutV (es : List (Int × Int)) (A : List Int) (v : Nat) : List Int := A.filter fun e => !inc es v e
theorem cutV_mem {es : List (Int × Int)} {A : List Int} {v : Nat} {e : Int} : e ∈ cutV es A v ↔ e ∈ A ∧ ¬ (enA es e = v ∨ enB es e = v) := by
  unfold cutV
  rw [List.mem_filter, Bool.not_eq_true', ← Bool.not_eq_true, inc_iff]
theorem SG.ndA {es : List (Int × Int)} {A : List Int} {V : List Nat} (h : SG es A V) : A.Nodup := h.asc.imp fun q e => by omega
theorem SG.cut {es : List (Int × Int)} {A : List Int} {V : List Nat} (h : SG es A V) (v : Nat) : SG es (cutV es A v) (V.erase v) := by
  refine ⟨h.asc.sublist List.filter_sublist, h.nd.sublist List.erase_sublist, fun e he => ?_, fun e he f hf => h.inj e (cutV_mem.1 he).1 f (cutV_mem.1 hf).1⟩
  obtain ⟨h1, h2⟩ := cutV_mem.1 he
  obtain ⟨⟨h3, h4⟩, h5⟩ := h.ends e h1
  exact ⟨⟨(List.mem_erase_of_ne fun q => h2 (.inl q)).2 h3, (List.mem_erase_of_ne fun q => h2 (.inr q)).2 h4⟩, h5⟩
theorem cut_len (es : List (Int × Int)) (v : Nat) : ∀ A : List Int, (cutV es A v).length + dgA es A v = A.length
  | [] => rfl
  | e :: A => by
    have := cut_len es v A
    unfold cutV dgA at *
    rw [List.filter_cons, List.countP_cons]
    cases inc es v e <;> simp <;> omega
theorem SG.cut_dg {es : List (Int × Int)} {A : List Int} {V : List Nat} (h : SG es A V) {u v : Nat} (hne : u ≠ v) : dgA es A u ≤ dgA es (cutV es A v) u + 1 := by
  have h1 : ∀ B : List Int, dgA es B u = dgA es (cutV es B v) u + B.countP fun e => inc es u e && inc es v e := by
    intro B
    induction B with
    | nil => rfl
    | cons e B ih =>
      unfold dgA cutV at *
      rw [List.countP_cons, List.filter_cons, List.countP_cons]
      cases hu : inc es u e <;> cases hv : inc es v e <;> simp [hu] <;> omega
  have h2 : (A.countP fun e => inc es u e && inc es v e) ≤ 1 := by
    rw [List.countP_eq_length_filter]
    have hn := (h.ndA.sublist (List.filter_sublist (p := fun e => inc es u e && inc es v e)))
    have hall : ∀ e ∈ A.filter (fun e => inc es u e && inc es v e), ∀ f ∈ A.filter (fun e => inc es u e && inc es v e), e = f := by
      intro e he f hf
      rw [List.mem_filter, Bool.and_eq_true, inc_iff, inc_iff] at he hf
      have l1 := (h.ends e he.1).2
      have l2 := (h.ends f hf.1).2
      refine h.inj e he.1 f hf.1 ?_ ?_ <;> omega
    generalize A.filter (fun e => inc es u e && inc es v e) = l at *
    match l, hn, hall with
    | [], _, _ => simp
    | [a], _, _ => simp
    | a :: b :: l, hn, hall =>
      have := hall a (by simp) b (by simp)
      subst this
      simp at hn
  have := h1 A
  omega
def sumL (f : Nat → Nat) (V : List Nat) : Nat := (V.map f).foldr (· + ·) 0
theorem sumL_add (f g : Nat → Nat) : ∀ V, sumL (fun v => f v + g v) V = sumL f V + sumL g V
  | [] => rfl
  | v :: V => by
    have := sumL_add f g V
    unfold sumL at *
    simp only [List.map_cons, List.foldr_cons]; omega
theorem sumL_cnt (p : Nat → Bool) : ∀ V, sumL (fun v => if p v = true then 1 else 0) V = V.countP p
  | [] => rfl
  | v :: V => by
    have := sumL_cnt p V
    unfold sumL at *
    rw [List.map_cons, List.foldr_cons, List.countP_cons, this]; omega
theorem sumL_ge (f : Nat → Nat) (m : Nat) : ∀ V, (∀ v ∈ V, m ≤ f v) → m * V.length ≤ sumL f V
  | [], _ => by simp [sumL]
  | v :: V, h => by
    have := sumL_ge f m V fun x hx => h x (by simp [hx])
    have := h v (by simp)
    unfold sumL at *
    rw [List.map_cons, List.foldr_cons, List.length_cons, Nat.mul_succ]; omega
theorem two_ends {V : List Nat} (hn : V.Nodup) {a b : Nat} (ha : a ∈ V) (hb : b ∈ V) (hne : a ≠ b) : (V.countP fun v => decide (a = v ∨ b = v)) = 2 := by
  rw [List.countP_eq_length_filter]
  have h1 := nodup_leB (V.filter fun v => decide (a = v ∨ b = v)) [a, b] (hn.sublist List.filter_sublist) fun x hx => by
    rw [List.mem_filter, decide_eq_true_eq] at hx
    rcases hx.2 with q | q <;> simp [q]
  have h2 := nodup_leB [a, b] (V.filter fun v => decide (a = v ∨ b = v)) (by simp [hne]) fun x hx => by
    rw [List.mem_filter, decide_eq_true_eq]
    simp only [List.mem_cons, List.not_mem_nil, or_false] at hx
    rcases hx with rfl | rfl
    · exact ⟨ha, .inl rfl⟩
    · exact ⟨hb, .inr rfl⟩
  simp only [List.length_cons, List.length_nil] at h1 h2
  omega
theorem handshake {es : List (Int × Int)} {V : List Nat} (hn : V.Nodup) : ∀ A : List Int, (∀ e ∈ A, (enA es e ∈ V ∧ enB es e ∈ V) ∧ enA es e < enB es e) → sumL (dgA es A) V = 2 * A.length
  | [], _ => by
    have := sumL_cnt (fun _ => false) V
    have e : (dgA es []) = fun v => if (fun _ : Nat => false) v = true then 1 else 0 := by funext v; rfl
    rw [e, this, List.countP_eq_zero.2 (by simp)]; rfl
  | e :: A, h => by
    have ih := handshake hn A fun f hf => h f (by simp [hf])
    obtain ⟨⟨h1, h2⟩, h3⟩ := h e (by simp)
    have hd : dgA es (e :: A) = fun v => dgA es A v + if (fun v => decide (enA es e = v ∨ enB es e = v)) v = true then 1 else 0 := by
      funext v
      unfold dgA
      rw [List.countP_cons]; rfl
    rw [hd, sumL_add, ih, sumL_cnt, two_ends hn h1 h2 (by omega), List.length_cons]; omega
theorem exists_min (f : Nat → Nat) : ∀ V : List Nat, V ≠ [] → ∃ v ∈ V, ∀ u ∈ V, f v ≤ f u
  | [], h => absurd rfl h
  | [v], _ => ⟨v, by simp, by simp⟩
  | v :: w :: V, _ => by
    obtain ⟨x, h1, h2⟩ := exists_min f (w :: V) (by simp)
    by_cases g : f v ≤ f x
    · refine ⟨v, by simp, fun u hu => ?_⟩
      rcases List.mem_cons.1 hu with rfl | hu
      · exact Nat.le_refl _
      · exact Nat.le_trans g (h2 u hu)
    · refine ⟨x, List.mem_cons_of_mem _ h1, fun u hu => ?_⟩
      rcases List.mem_cons.1 hu with rfl | hu
      · omega
      · exact h2 u hu
theorem SG.min {es : List (Int × Int)} {A : List Int} {V : List Nat} (h : SG es A V) (hV : V ≠ []) : ∃ v ∈ V, (∀ u ∈ V, dgA es A v ≤ dgA es A u) ∧ dgA es A v * V.length ≤ 2 * A.length := by
  obtain ⟨v, h1, h2⟩ := exists_min (dgA es A) V hV
  refine ⟨v, h1, h2, ?_⟩
  rw [← handshake h.nd A h.ends]
  exact sumL_ge _ _ _ h2
/-- a tree of some nodes by some edges -/
structure STr (es : List (Int × Int)) (A : List Int) (V : List Nat) (T : List Int) : Prop where
  asc : T.Pairwise (· < ·)
  sub : ∀ e ∈ T, e ∈ A
  len : T.length + 1 = V.length
  con : ∀ x ∈ V, ∀ y ∈ V, Jn es T x y
/-- so many trees at least -/
def LB (es : List (Int × Int)) (A : List Int) (V : List Nat) (k : Nat) : Prop := ∃ L : List (List Int), L.Nodup ∧ k ≤ L.length ∧ ∀ T ∈ L, STr es A V T
theorem LB.mono {es : List (Int × Int)} {A B : List Int} {V : List Nat} {k m : Nat} (h : LB es A V k) (hs : ∀ e ∈ A, e ∈ B) (hm : m ≤ k) : LB es B V m := by
  obtain ⟨L, h1, h2, h3⟩ := h
  exact ⟨L, h1, by omega, fun T hT => ⟨(h3 T hT).asc, fun e he => hs e ((h3 T hT).sub e he), (h3 T hT).len, (h3 T hT).con⟩⟩
theorem LB.leaf {es : List (Int × Int)} {A : List Int} {V : List Nat} (h : SG es A V) {v : Nat} (hv : v ∈ V) {k : Nat} (hL : LB es (cutV es A v) (V.erase v) k) : LB es A V (dgA es A v * k) := by
  obtain ⟨L, l1, l2, l3⟩ := hL
  have hlen := List.length_erase_of_mem hv
  have hpos := List.length_pos_of_mem hv
  have key : ∀ I : List Int, I.Nodup → (∀ e ∈ I, e ∈ A ∧ inc es v e = true) → ∃ M : List (List Int), M.Nodup ∧ I.length * k ≤ M.length ∧ ∀ U ∈ M, STr es A V U ∧ ∃ e ∈ I, e ∈ U ∧ ∀ f ∈ U, inc es v f = true → f = e := by
    intro I
    induction I with
    | nil => intro _ _; exact ⟨[], .nil, by simp, by simp⟩
    | cons e I ih =>
      intro hn hI
      have hn' := List.nodup_cons.1 hn
      obtain ⟨M, m1, m2, m3⟩ := ih hn'.2 fun f hf => hI f (by simp [hf])
      obtain ⟨heA, hev⟩ := hI e (by simp)
      have notin : ∀ T ∈ L, ∀ f ∈ T, inc es v f = false := by
        intro T hT f hf
        have := (cutV_mem.1 ((l3 T hT).sub f hf)).2
        rw [← Bool.not_eq_true, inc_iff]; exact this
      have heT : ∀ T ∈ L, e ∉ T := fun T hT q => by have := notin T hT e q; rw [hev] at this; cases this
      have hput : ∀ T ∈ L, STr es A V (put T e) := by
        intro T hT
        have t := l3 T hT
        have up : ∀ {x y}, Jn es T x y → Jn es (put T e) x y := fun q => q.mono fun f hf => (put_mem _ _ _).2 (.inr hf)
        have hE : Jn es (put T e) (enA es e) (enB es e) := .edge e ((put_mem _ _ _).2 (.inl rfl))
        obtain ⟨w, hw, hwv, hjw⟩ : ∃ w, w ∈ V ∧ w ≠ v ∧ Jn es (put T e) v w := by
          have hen := h.ends e heA
          rcases inc_iff.1 hev with q | q
          · exact ⟨enB es e, hen.1.2, by omega, by rw [q] at hE; exact hE⟩
          · exact ⟨enA es e, hen.1.1, by omega, by rw [q] at hE; exact hE.symm⟩
        have hall : ∀ x ∈ V, Jn es (put T e) x w := by
          intro x hx
          by_cases g : x = v
          · subst g; exact hjw
          · exact up (t.con x ((List.mem_erase_of_ne g).2 hx) w ((List.mem_erase_of_ne hwv).2 hw))
        refine ⟨put_sorted _ _ t.asc, fun f hf => ?_, ?_, fun x hx y hy => (hall x hx).trans (hall y hy).symm⟩
        · rcases (put_mem _ _ _).1 hf with rfl | q
          · exact heA
          · exact (cutV_mem.1 (t.sub f q)).1
        · have := (put_perm T e (heT T hT)).length_eq
          rw [List.length_cons] at this
          have := t.len
          omega
      refine ⟨L.map (fun T => put T e) ++ M, ?_, ?_, ?_⟩
      · rw [List.nodup_append]
        refine ⟨?_, m1, ?_⟩
        · rw [List.Nodup, List.pairwise_map]
          refine List.Pairwise.imp_of_mem ?_ l1
          intro T U hT hU hne heq
          refine hne (asc_ext (l3 T hT).asc (l3 U hU).asc fun x => ?_)
          have hx : x ∈ put T e ↔ x ∈ put U e := by rw [heq]
          rw [put_mem, put_mem] at hx
          constructor
          · intro q
            rcases hx.1 (.inr q) with r | r
            · subst r; exact absurd q (heT T hT)
            · exact r
          · intro q
            rcases hx.2 (.inr q) with r | r
            · subst r; exact absurd q (heT U hU)
            · exact r
        · intro U hU W hW heq
          subst heq
          obtain ⟨T, hT, rfl⟩ := List.mem_map.1 hU
          obtain ⟨f, f1, f2, f3⟩ := (m3 _ hW).2
          have := f3 e ((put_mem _ _ _).2 (.inl rfl)) hev
          subst this
          exact hn'.1 f1
      · rw [List.length_append, List.length_map, List.length_cons, Nat.succ_mul]; omega
      · intro U hU
        rcases List.mem_append.1 hU with q | q
        · obtain ⟨T, hT, rfl⟩ := List.mem_map.1 q
          refine ⟨hput T hT, e, by simp, (put_mem _ _ _).2 (.inl rfl), fun f hf hi => ?_⟩
          rcases (put_mem _ _ _).1 hf with r | r
          · exact r
          · have := notin T hT f r; rw [hi] at this; cases this
        · obtain ⟨s, f, f1, f2, f3⟩ := m3 U q
          exact ⟨s, f, by simp [f1], f2, f3⟩
  obtain ⟨M, m1, m2, m3⟩ := key (A.filter (inc es v)) (h.ndA.sublist List.filter_sublist) fun e he => List.mem_filter.1 he
  refine ⟨M, m1, ?_, fun U hU => (m3 U hU).1⟩
  have : dgA es A v = (A.filter (inc es v)).length := List.countP_eq_length_filter ..
  rw [this]; exact m2
end Go.Proofs.Ytlcipphiflcaiaa.Ai
namespace Go.Proofs.Ytlcipphiflcaiaa.Ai
open Go
set_option linter.unusedVariables false
theorem flt_len {α : Type} (p : α → Bool) : ∀ l : List α, (l.filter p).length + (l.filter fun x => !p x).length = l.length
  | [] => rfl
  | x :: l => by
    have := flt_len p l
    rw [List.filter_cons, List.filter_cons]
    cases p x <;> simp <;> omega
theorem nodup_at {l : List Nat} (h : l.Nodup) {i j : Nat} (hi : i < l.length) (hj : j < l.length) (e : l.getD i 0 = l.getD j 0) : i = j := by
  have e1 : l.getD i 0 = l[i] := by simp [hi]
  have e2 : l.getD j 0 = l[j] := by simp [hj]
  rw [e1, e2] at e
  have hp := List.pairwise_iff_getElem.1 h
  rcases Nat.lt_trichotomy i j with q | q | q
  · exact absurd e (hp i j hi hj q)
  · exact q
  · exact absurd e.symm (hp j i hj hi q)
theorem idx_at {l : List Nat} {x : Nat} (hx : x ∈ l) : l.idxOf x < l.length ∧ l.getD (l.idxOf x) 0 = x := by
  have h1 := List.idxOf_lt_length_iff.2 hx
  refine ⟨h1, ?_⟩
  rw [List.getD_eq_getElem?_getD, List.getElem?_eq_getElem h1, Option.getD_some]
  exact List.getElem_idxOf h1
theorem pid_ok : ∀ j : Fin 6, ∀ i : Fin 6, i.val < j.val → pid i.val j.val < 15 ∧ pr6.getD (pid i.val j.val) (0, 0) = (i.val, j.val) := by decide
theorem tch_last : ∀ i : Fin 10, tch 5 i.val = false := by decide
theorem tch_star : ∀ u : Fin 5, tch 5 (10 + u.val) = true ∧ pr6.getD (10 + u.val) (0, 0) = (u.val, 5) ∧ pid u.val 5 = 10 + u.val := by decide
theorem star_cnt : ∀ d : Fin 6, (List.range 15).countP (fun i => decide (10 ≤ i ∧ i < 10 + d.val)) = d.val := by decide
theorem pr6_lt : ∀ i : Fin 15, (pr6.getD i.val (0, 0)).1 < (pr6.getD i.val (0, 0)).2 ∧ (pr6.getD i.val (0, 0)).2 < 6 := by decide
/-- the place of an edge among the pairs of six nodes in some order -/
def pix (es : List (Int × Int)) (ord : List Nat) (e : Int) : Nat :=
  if ord.idxOf (enA es e) < ord.idxOf (enB es e) then pid (ord.idxOf (enA es e)) (ord.idxOf (enB es e)) else pid (ord.idxOf (enB es e)) (ord.idxOf (enA es e))
structure Or6 (es : List (Int × Int)) (A : List Int) (V ord : List Nat) : Prop where
  sg : SG es A V
  nd : ord.Nodup
  len : ord.length = 6
  mem : ∀ x, x ∈ ord ↔ x ∈ V
theorem Or6.pix {es : List (Int × Int)} {A : List Int} {V ord : List Nat} (h : Or6 es A V ord) {e : Int} (he : e ∈ A) :
    pix es ord e < 15 ∧ ((ord.getD (pr6.getD (pix es ord e) (0, 0)).1 0 = enA es e ∧ ord.getD (pr6.getD (pix es ord e) (0, 0)).2 0 = enB es e) ∨ (ord.getD (pr6.getD (pix es ord e) (0, 0)).1 0 = enB es e ∧ ord.getD (pr6.getD (pix es ord e) (0, 0)).2 0 = enA es e)) := by
  obtain ⟨⟨h1, h2⟩, h3⟩ := h.sg.ends e he
  obtain ⟨a1, a2⟩ := idx_at ((h.mem _).2 h1)
  obtain ⟨b1, b2⟩ := idx_at ((h.mem _).2 h2)
  have hl := h.len
  have hne : ord.idxOf (enA es e) ≠ ord.idxOf (enB es e) := fun q => by rw [q, b2] at a2; omega
  unfold Ai.pix
  split
  · rename_i q
    have := pid_ok ⟨ord.idxOf (enB es e), by omega⟩ ⟨ord.idxOf (enA es e), by omega⟩ q
    simp only at this
    rw [this.2]
    exact ⟨this.1, .inl ⟨a2, b2⟩⟩
  · rename_i q
    have := pid_ok ⟨ord.idxOf (enA es e), by omega⟩ ⟨ord.idxOf (enB es e), by omega⟩ (show ord.idxOf (enB es e) < ord.idxOf (enA es e) by omega)
    simp only at this
    rw [this.2]
    exact ⟨this.1, .inr ⟨b2, a2⟩⟩
theorem Or6.inj {es : List (Int × Int)} {A : List Int} {V ord : List Nat} (h : Or6 es A V ord) {e f : Int} (he : e ∈ A) (hf : f ∈ A) (hp : Ai.pix es ord e = Ai.pix es ord f) : e = f := by
  have h1 := (h.pix he).2
  have h2 := (h.pix hf).2
  rw [hp] at h1
  have l1 := (h.sg.ends e he).2
  have l2 := (h.sg.ends f hf).2
  refine h.sg.inj e he f hf ?_ ?_ <;> omega
/-- is there an edge at a place -/
def bb6 (es : List (Int × Int)) (A : List Int) (ord : List Nat) (i : Nat) : Bool := A.any fun e => decide (pix es ord e = i)
theorem bb6_iff {es : List (Int × Int)} {A : List Int} {ord : List Nat} {i : Nat} : bb6 es A ord i = true ↔ ∃ e ∈ A, pix es ord e = i := by
  unfold bb6
  rw [List.any_eq_true]
  simp only [decide_eq_true_eq]
theorem Or6.cnt {es : List (Int × Int)} {A : List Int} {V ord : List Nat} (h : Or6 es A V ord) (q : Nat → Bool) : (A.countP fun e => q (Ai.pix es ord e)) = (List.range 15).countP fun i => bb6 es A ord i && q i := by
  rw [List.countP_eq_length_filter, List.countP_eq_length_filter]
  have hn : ((A.filter fun e => q (Ai.pix es ord e)).map (Ai.pix es ord)).Nodup := by
    rw [List.Nodup, List.pairwise_map]
    refine List.Pairwise.imp_of_mem ?_ (h.sg.ndA.sublist List.filter_sublist)
    intro e f he hf hne heq
    exact hne (h.inj (List.mem_filter.1 he).1 (List.mem_filter.1 hf).1 heq)
  have h1 := nodup_leB _ ((List.range 15).filter fun i => bb6 es A ord i && q i) hn fun i hi => by
    obtain ⟨e, he, rfl⟩ := List.mem_map.1 hi
    obtain ⟨he, hq⟩ := List.mem_filter.1 he
    rw [List.mem_filter, List.mem_range, Bool.and_eq_true]
    exact ⟨(h.pix he).1, bb6_iff.2 ⟨e, he, rfl⟩, hq⟩
  have h2 := nodup_leB ((List.range 15).filter fun i => bb6 es A ord i && q i) ((A.filter fun e => q (Ai.pix es ord e)).map (Ai.pix es ord)) (List.nodup_range.sublist List.filter_sublist) fun i hi => by
    rw [List.mem_filter, Bool.and_eq_true] at hi
    obtain ⟨e, he, rfl⟩ := bb6_iff.1 hi.2.1
    exact List.mem_map.2 ⟨e, List.mem_filter.2 ⟨he, hi.2.2⟩, rfl⟩
  rw [List.length_map] at h1 h2
  omega
theorem Or6.deg {es : List (Int × Int)} {A : List Int} {V ord : List Nat} (h : Or6 es A V ord) {u : Nat} (hu : u < 6) : dgA es A (ord.getD u 0) = (List.range 15).countP fun i => bb6 es A ord i && tch u i := by
  rw [← h.cnt]
  unfold dgA
  refine List.countP_congr fun e he => ?_
  obtain ⟨p1, p2⟩ := h.pix he
  have hr := pr6_lt ⟨Ai.pix es ord e, p1⟩
  simp only at hr
  have hl := h.len
  rw [inc_iff]
  unfold tch
  rw [Bool.or_eq_true, Nat.beq_eq, Nat.beq_eq]
  have key : ∀ k, k < 6 → (ord.getD k 0 = ord.getD u 0 ↔ k = u) := fun k hk => ⟨fun q => nodup_at h.nd (by omega) (by omega) q, fun q => by rw [q]⟩
  rw [← key _ (by omega), ← key _ hr.2]
  rcases p2 with ⟨q1, q2⟩ | ⟨q1, q2⟩ <;> rw [q1, q2]
  exact Or.comm
/-- the trees that patterns tell -/
theorem Or6.lb {es : List (Int × Int)} {A : List Int} {V ord : List Nat} (h : Or6 es A V ord) {m : Nat} (hm : ∀ i, i < 15 → m.testBit i = bb6 es A ord i) {d : Nat} (hd : d ≤ 5) : LB es A V ((pat6 d).countP fun p => decide (p &&& m = p)) := by
  let Tp : Nat → List Int := fun p => A.filter fun e => p.testBit (Ai.pix es ord e)
  have hVl : V.length = 6 := by
    have h1 := nodup_leB ord V h.nd fun x hx => (h.mem x).1 hx
    have h2 := nodup_leB V ord h.sg.nd fun x hx => (h.mem x).2 hx
    have := h.len
    omega
  have hsub : ∀ p, p &&& m = p → ∀ i, p.testBit i = true → m.testBit i = true := by
    intro p hp i hi
    have : (p &&& m).testBit i = true := by rw [hp]; exact hi
    rw [Nat.testBit_and, Bool.and_eq_true] at this
    exact this.2
  have hpat : ∀ p ∈ pat6 d, con6 p = true ∧ cnt6 p = 5 ∧ p < 32768 := by
    intro p hp
    have := pat6_ok
    rw [List.all_eq_true] at this
    have := this p ((pat6_sub hd).subset hp)
    rw [Bool.and_eq_true, Bool.and_eq_true] at this
    refine ⟨this.1, Nat.eq_of_beq_eq_true this.2.1, ?_⟩
    have := this.2.2
    unfold Nat.blt at this
    exact Nat.le_of_ble_eq_true this
  have h15 : ∀ p, p < 32768 → ∀ i, p.testBit i = true → i < 15 := by
    intro p hp i hi
    refine Nat.lt_of_not_le fun q => ?_
    have : p.testBit i = false := Nat.testBit_lt_two_pow (Nat.lt_of_lt_of_le hp (by
      rw [show (32768 : Nat) = 2 ^ 15 from rfl]
      exact Nat.pow_le_pow_right (by omega) q))
    rw [hi] at this
    cases this
  refine ⟨((pat6 d).filter fun p => decide (p &&& m = p)).map Tp, ?_, ?_, ?_⟩
  · rw [List.Nodup, List.pairwise_map]
    have hnd : (pat6 d).Pairwise (· ≠ ·) := ((asc6_ok _ pat6_asc).sublist (pat6_sub hd)).imp fun q => by omega
    refine List.Pairwise.imp_of_mem ?_ (hnd.sublist List.filter_sublist)
    intro p p' hp hp' hne heq
    obtain ⟨hp, hpm⟩ := List.mem_filter.1 hp
    obtain ⟨hp', hpm'⟩ := List.mem_filter.1 hp'
    rw [decide_eq_true_eq] at hpm hpm'
    refine hne (Nat.eq_of_testBit_eq fun i => ?_)
    have key : ∀ p p' : Nat, p &&& m = p → p < 32768 → Tp p = Tp p' → p.testBit i = true → p'.testBit i = true := by
      intro p p' hpm hlt heq hi
      have hi15 := h15 p hlt i hi
      have := hsub p hpm i hi
      rw [hm i hi15] at this
      obtain ⟨e, he, hpe⟩ := bb6_iff.1 this
      have h1 : e ∈ Tp p := List.mem_filter.2 ⟨he, by show p.testBit (Ai.pix es ord e) = true; rw [hpe]; exact hi⟩
      rw [heq] at h1
      have := (List.mem_filter.1 h1).2
      rw [hpe] at this
      exact this
    rw [Bool.eq_iff_iff]
    exact ⟨key p p' hpm (hpat p hp).2.2 heq, key p' p hpm' (hpat p' hp').2.2 heq.symm⟩
  · rw [List.length_map, List.countP_eq_length_filter]
    exact Nat.le_refl _
  · intro T hT
    obtain ⟨p, hp, rfl⟩ := List.mem_map.1 hT
    obtain ⟨hp, hpm⟩ := List.mem_filter.1 hp
    rw [decide_eq_true_eq] at hpm
    obtain ⟨c1, c2, c3⟩ := hpat p hp
    refine ⟨h.sg.asc.sublist List.filter_sublist, fun e he => (List.mem_filter.1 he).1, ?_, ?_⟩
    · have := h.cnt fun i => p.testBit i
      rw [List.countP_eq_length_filter] at this
      have e2 : ((List.range 15).countP fun i => bb6 es A ord i && p.testBit i) = cnt6 p := by
        unfold cnt6
        refine List.countP_congr fun i hi => ?_
        rw [bt_iff, Bool.and_eq_true]
        refine ⟨fun q => q.2, fun q => ⟨?_, q⟩⟩
        rw [← hm i (List.mem_range.1 hi)]
        exact hsub p hpm i q
      show (A.filter fun e => p.testBit (Ai.pix es ord e)).length + 1 = V.length
      omega
    · have hcon := con6_ok (R := fun x y => Jn es (Tp p) (ord.getD x 0) (ord.getD y 0)) (.refl _) (fun q => q.symm) (fun q r => q.trans r) c1 fun i hi15 hi => by
        have := hsub p hpm i hi
        rw [hm i hi15] at this
        obtain ⟨e, he, hpe⟩ := bb6_iff.1 this
        have h1 : e ∈ Tp p := List.mem_filter.2 ⟨he, by show p.testBit (Ai.pix es ord e) = true; rw [hpe]; exact hi⟩
        have h2 := (h.pix he).2
        rw [hpe] at h2
        rcases h2 with ⟨q1, q2⟩ | ⟨q1, q2⟩
        · rw [q1, q2]; exact .edge e h1
        · rw [q1, q2]; exact .symm (.edge e h1)
      intro x hx y hy
      obtain ⟨x1, x2⟩ := idx_at ((h.mem x).2 hx)
      obtain ⟨y1, y2⟩ := idx_at ((h.mem y).2 hy)
      have hl := h.len
      have a := hcon (ord.idxOf x) (by omega)
      have b := hcon (ord.idxOf y) (by omega)
      rw [x2] at a
      rw [y2] at b
      exact a.symm.trans b
theorem base6 {es : List (Int × Int)} {A : List Int} {V : List Nat} (h : SG es A V) (hV : V.length = 6) : ∃ d, (∃ v ∈ V, dgA es A v = d) ∧ (∀ u ∈ V, d ≤ dgA es A u) ∧ A.length ≤ 15 ∧ LB es A V (F6 A.length d) := by
  obtain ⟨v, hv, hmin, _⟩ := h.min (fun q => by rw [q] at hV; simp at hV)
  let adj : Nat → Bool := fun u => A.any fun e => inc es u e && inc es v e
  have hadj : ∀ u, adj u = true ↔ ∃ e ∈ A, inc es u e = true ∧ inc es v e = true := by
    intro u
    show (A.any fun e => inc es u e && inc es v e) = true ↔ _
    rw [List.any_eq_true]
    simp only [Bool.and_eq_true]
  have hWl := List.length_erase_of_mem hv
  have hWn : (V.erase v).Nodup := h.nd.sublist List.erase_sublist
  have hWv : ∀ x, x ∈ V.erase v ↔ x ∈ V ∧ x ≠ v := by
    intro x
    by_cases q : x = v
    · subst q
      refine ⟨fun r => ?_, fun r => absurd rfl r.2⟩
      exfalso
      have h1 := nodup_leB (x :: (V.erase x).erase x) (V.erase x) (List.nodup_cons.2 ⟨fun w => ?_, hWn.sublist List.erase_sublist⟩) (fun y hy => by
        rcases List.mem_cons.1 hy with rfl | hy
        · exact r
        · exact List.mem_of_mem_erase hy)
      · have h2 := (List.Nodup.mem_erase_iff h.nd).1 r
        exact h2.1 rfl
      · have h2 := (List.Nodup.mem_erase_iff h.nd).1 r
        exact h2.1 rfl
    · rw [List.mem_erase_of_ne q]
      exact ⟨fun r => ⟨r, q⟩, fun r => r.1⟩
  generalize hW : V.erase v = W at *
  have hsp := flt_len adj W
  generalize hNs : W.filter adj = Ns at *
  generalize hOs : (W.filter fun x => !adj x) = Os at *
  have nsm : ∀ x, x ∈ Ns ↔ x ∈ W ∧ adj x = true := fun x => by rw [← hNs, List.mem_filter]
  have osm : ∀ x, x ∈ Os ↔ x ∈ W ∧ adj x = false := fun x => by rw [← hOs, List.mem_filter, Bool.not_eq_true']
  have nsn : Ns.Nodup := by rw [← hNs]; exact hWn.sublist List.filter_sublist
  have osn : Os.Nodup := by rw [← hOs]; exact hWn.sublist List.filter_sublist
  have ho : Or6 es A V (Ns ++ (Os ++ [v])) := by
    refine ⟨h, ?_, by simp only [List.length_append, List.length_singleton]; omega, fun x => ?_⟩
    · rw [List.nodup_append, List.nodup_append]
      refine ⟨nsn, ⟨osn, by simp, fun a ha b hb => ?_⟩, fun a ha b hb => ?_⟩
      · rw [List.mem_singleton] at hb
        subst hb
        exact ((hWv a).1 ((osm a).1 ha).1).2
      · rintro rfl
        rcases List.mem_append.1 hb with q | q
        · have h1 := ((nsm a).1 ha).2
          have h2 := ((osm a).1 q).2
          rw [h1] at h2; cases h2
        · rw [List.mem_singleton] at q
          exact ((hWv a).1 ((nsm a).1 ha).1).2 q
    · rw [List.mem_append, List.mem_append, List.mem_singleton, nsm, osm, hWv]
      constructor
      · rintro (q | q | q)
        · exact q.1.1
        · exact q.1.1
        · rw [q]; exact hv
      · intro q
        by_cases e : x = v
        · exact .inr (.inr e)
        · cases hb : adj x with
          | true => exact .inl ⟨⟨q, e⟩, rfl⟩
          | false => exact .inr (.inl ⟨⟨q, e⟩, rfl⟩)
  have hlenO := ho.len
  have hd5 : Ns.length ≤ 5 := by omega
  have at5 : (Ns ++ (Os ++ [v])).getD 5 0 = v := by
    rw [List.getD_eq_getElem?_getD, List.getElem?_append_right (by omega), List.getElem?_append_right (by omega)]
    have : 5 - Ns.length - Os.length = 0 := by omega
    rw [this]; rfl
  have atN : ∀ u, u < 5 → ((Ns ++ (Os ++ [v])).getD u 0 ∈ W ∧ (adj ((Ns ++ (Os ++ [v])).getD u 0) = true ↔ u < Ns.length)) := by
    intro u hu
    by_cases q : u < Ns.length
    · have e : (Ns ++ (Os ++ [v])).getD u 0 = Ns.getD u 0 := by
        rw [List.getD_eq_getElem?_getD, List.getElem?_append_left q, ← List.getD_eq_getElem?_getD]
      have hm : Ns.getD u 0 ∈ Ns := by simp [q]
      rw [e]
      exact ⟨((nsm _).1 hm).1, ⟨fun _ => q, fun _ => ((nsm _).1 hm).2⟩⟩
    · have e : (Ns ++ (Os ++ [v])).getD u 0 = Os.getD (u - Ns.length) 0 := by
        rw [List.getD_eq_getElem?_getD, List.getElem?_append_right (by omega), List.getElem?_append_left (by omega), ← List.getD_eq_getElem?_getD]
      have hm : Os.getD (u - Ns.length) 0 ∈ Os := by simp [show u - Ns.length < Os.length by omega]
      rw [e]
      refine ⟨((osm _).1 hm).1, ⟨fun w => ?_, fun w => absurd w q⟩⟩
      have := ((osm _).1 hm).2
      rw [w] at this; cases this
  generalize hor : Ns ++ (Os ++ [v]) = ord at *
  have star : ∀ u, u < 5 → bb6 es A ord (10 + u) = decide (10 + u < 10 + Ns.length) := by
    intro u hu
    obtain ⟨t1, t2, t3⟩ := tch_star ⟨u, hu⟩
    simp only at t1 t2 t3
    rw [Bool.eq_iff_iff, decide_eq_true_eq]
    have hiff := (atN u hu).2
    rw [hadj] at hiff
    constructor
    · intro hb
      obtain ⟨e, he, hp⟩ := bb6_iff.1 hb
      have h2 := (ho.pix he).2
      rw [hp, t2] at h2
      simp only [at5] at h2
      have : u < Ns.length := hiff.1 ⟨e, he, by
        rw [inc_iff, inc_iff]
        rcases h2 with ⟨q1, q2⟩ | ⟨q1, q2⟩
        · exact ⟨.inl q1.symm, .inr q2.symm⟩
        · exact ⟨.inr q1.symm, .inl q2.symm⟩⟩
      omega
    · intro hlt
      obtain ⟨e, he, i1, i2⟩ := hiff.2 (by omega)
      rw [inc_iff] at i1 i2
      have hne : ord.getD u 0 ≠ v := ((hWv _).1 (atN u hu).1).2
      have iu : ord.idxOf (ord.getD u 0) = u := by
        have hm : ord.getD u 0 ∈ ord := by simp [show u < ord.length by omega]
        obtain ⟨x1, x2⟩ := idx_at hm
        exact nodup_at ho.nd x1 (by omega) x2
      have iv : ord.idxOf v = 5 := by
        have hm : v ∈ ord := (ho.mem v).2 hv
        obtain ⟨x1, x2⟩ := idx_at hm
        exact nodup_at ho.nd x1 (by omega) (by rw [x2, at5])
      refine bb6_iff.2 ⟨e, he, ?_⟩
      rw [← t3]
      unfold Ai.pix
      have hends : (enA es e = ord.getD u 0 ∧ enB es e = v) ∨ (enA es e = v ∧ enB es e = ord.getD u 0) := by omega
      rcases hends with ⟨q1, q2⟩ | ⟨q1, q2⟩
      · rw [q1, q2, iu, iv, if_pos hu]
      · rw [q1, q2, iu, iv, if_neg (by omega)]
  have hdv : dgA es A v = Ns.length := by
    have h1 := ho.deg (u := 5) (by omega)
    rw [at5] at h1
    rw [h1]
    refine Eq.trans ?_ (star_cnt ⟨Ns.length, by omega⟩)
    refine List.countP_congr fun i hi => ?_
    have hi := List.mem_range.1 hi
    rw [Bool.and_eq_true, decide_eq_true_eq]
    by_cases q : i < 10
    · have := tch_last ⟨i, q⟩
      simp only at this
      rw [this]
      exact ⟨fun w => absurd w.2 (by simp), fun w => by omega⟩
    · have e : 10 + (i - 10) = i := by omega
      have h2 := star (i - 10) (by omega)
      have h3 := (tch_star ⟨i - 10, by omega⟩).1
      simp only at h3
      rw [e] at h2 h3
      rw [h2, h3, decide_eq_true_eq]
      exact ⟨fun w => ⟨by omega, w.1⟩, fun w => ⟨w.2, rfl⟩⟩
  let bs : List Bool := (List.range 10).map (bb6 es A ord)
  have hbs : bs.length = 10 := by simp [bs]
  have hmask : ∀ i, i < 15 → (msk Ns.length bs).testBit i = bb6 es A ord i := by
    intro i hi
    rw [msk_bit hbs hd5]
    split
    · rename_i q
      simp [bs, q]
    · rename_i q
      have e : 10 + (i - 10) = i := by omega
      have h2 := star (i - 10) (by omega)
      rw [e] at h2
      rw [h2]
  have hcnt : cnt6 (msk Ns.length bs) = A.length := by
    have h1 := ho.cnt fun _ => true
    rw [List.countP_eq_length.2 (fun _ _ => rfl)] at h1
    rw [h1]
    unfold cnt6
    refine List.countP_congr fun i hi => ?_
    rw [bt_iff, hmask i (List.mem_range.1 hi), Bool.and_true]
  have hdeg : ∀ u, u < 5 → deg6 (msk Ns.length bs) u = dgA es A (ord.getD u 0) := by
    intro u hu
    rw [ho.deg (by omega)]
    unfold deg6
    refine List.countP_congr fun i hi => ?_
    rw [bt_iff, hmask i (List.mem_range.1 hi)]
  have hge : ∀ u, u < 5 → Nat.ble Ns.length (dq6 (msk Ns.length bs) u) = true := by
    intro u hu
    refine Nat.ble_eq_true_of_le ?_
    rw [← dq6_ok _ hu, hdeg u hu, ← hdv]
    exact hmin _ ((hWv _).1 (atN u hu).1).1
  have hck := chk6_ok hd5
  rw [List.all_eq_true] at hck
  have hck := hck bs (allB_mem 10 bs hbs)
  unfold chk6 at hck
  rw [hge 0 (by omega), hge 1 (by omega), hge 2 (by omega), hge 3 (by omega), hge 4 (by omega)] at hck
  simp only [Bool.and_self, Bool.not_true, Bool.false_or] at hck
  have hfin := atL_ok _ _ _ hck
  rw [← cq6_ok, hcnt] at hfin
  refine ⟨Ns.length, ⟨v, hv, hdv⟩, fun u hu => by rw [← hdv]; exact hmin u hu, ?_, (ho.lb hmask hd5).mono (fun _ q => q) hfin⟩
  rw [← hcnt]
  unfold cnt6
  have := List.countP_le_length (p := bt (msk Ns.length bs)) (l := List.range 15)
  rw [List.length_range] at this
  exact this
theorem SG.cut_len {es : List (Int × Int)} {A : List Int} {V : List Nat} (h : SG es A V) {v : Nat} (hv : v ∈ V) : (V.erase v).length + 1 = V.length := by
  have := List.length_erase_of_mem hv
  have := List.length_pos_of_mem hv
  omega
theorem SG.low {es : List (Int × Int)} {A : List Int} {V : List Nat} (h : SG es A V) {v : Nat} {k : Nat} (hk : ∀ u ∈ V, k ≤ dgA es A u) : ∀ u ∈ V.erase v, k - 1 ≤ dgA es (cutV es A v) u := by
  intro u hu
  have h1 := (List.Nodup.mem_erase_iff h.nd).1 hu
  have := h.cut_dg h1.1
  have := hk u h1.2
  omega
theorem lb7 {es : List (Int × Int)} {A : List Int} {V : List Nat} (h : SG es A V) (hV : V.length = 7) :
    (A.length = 14 → (∀ u ∈ V, 1 ≤ dgA es A u) → LB es A V 301) ∧ (A.length = 13 → (∀ u ∈ V, 1 ≤ dgA es A u) → LB es A V 151) ∧ (A.length = 12 → (∀ u ∈ V, 2 ≤ dgA es A u) → LB es A V 101) ∧ (A.length = 17 → LB es A V 301) := by
  obtain ⟨v, hv, hmin, hle⟩ := h.min (fun q => by rw [q] at hV; simp at hV)
  have hl := h.cut_len hv
  have hcl := Ai.cut_len es v A
  obtain ⟨d, ⟨w, hw, hwd⟩, hd, h15, hLB⟩ := base6 (h.cut v) (by omega)
  have hlow := h.low (v := v) (k := dgA es A v) hmin
  have hlw := hlow w hw
  rw [hwd] at hlw
  rw [hV] at hle
  have key : ∀ k, k ≤ dgA es A v * F6 (cutV es A v).length d → LB es A V k := fun k hk => (LB.leaf h hv hLB).mono (fun _ q => q) hk
  generalize hDe : dgA es A v = D at *
  generalize (cutV es A v).length = m at *
  refine ⟨fun hA h1 => ?_, fun hA h1 => ?_, fun hA h1 => ?_, fun hA => ?_⟩
  · have hD1 : 1 ≤ D := by have := h1 v hv; omega
    refine key _ ?_
    have : D = 1 ∨ D = 2 ∨ D = 3 ∨ D = 4 := by omega
    rcases this with rfl | rfl | rfl | rfl
    · have : m = 13 := by omega
      subst this; simp [F6]
    · have : m = 12 := by omega
      subst this; simp [F6]
    · have : m = 11 := by omega
      subst this; simp [F6]
    · have : m = 10 := by omega
      subst this
      unfold F6
      rw [if_neg (by omega), if_pos rfl, if_neg (by omega), if_neg (by omega), if_neg (by omega)]; omega
  · have hD1 : 1 ≤ D := by have := h1 v hv; omega
    refine key _ ?_
    have : D = 1 ∨ D = 2 ∨ D = 3 := by omega
    rcases this with rfl | rfl | rfl
    · have : m = 12 := by omega
      subst this; simp [F6]
    · have : m = 11 := by omega
      subst this; simp [F6]
    · have : m = 10 := by omega
      subst this
      unfold F6
      rw [if_neg (by omega), if_pos rfl, if_neg (by omega), if_neg (by omega)]
      split <;> omega
  · have hD1 : 2 ≤ D := by have := h1 v hv; omega
    refine key _ ?_
    have : D = 2 ∨ D = 3 := by omega
    rcases this with rfl | rfl
    · have : m = 10 := by omega
      subst this
      unfold F6
      rw [if_neg (by omega), if_pos rfl, if_neg (by omega)]
      repeat' split
      all_goals omega
    · have : m = 9 := by omega
      subst this
      unfold F6
      rw [if_pos rfl, if_pos (by omega)]; omega
  · refine key _ ?_
    have : D = 2 ∨ D = 3 ∨ D = 4 := by omega
    rcases this with rfl | rfl | rfl
    · have : m = 15 := by omega
      subst this; simp [F6]
    · have : m = 14 := by omega
      subst this; simp [F6]
    · have : m = 13 := by omega
      subst this; simp [F6]
/-- eight nodes, joined by fifteen edges -/
theorem lb8 {es : List (Int × Int)} {A : List Int} {V : List Nat} (h : SG es A V) (hV : V.length = 8) (hA : A.length = 15) (hc : ∀ x ∈ V, ∀ y ∈ V, Jn es A x y) : LB es A V 301 := by
  obtain ⟨v, hv, hmin, hle⟩ := h.min (fun q => by rw [q] at hV; simp at hV)
  have hl := h.cut_len hv
  have hcl := Ai.cut_len es v A
  rw [hV, hA] at hle
  have closed : ∀ (S : List Nat), S.length < 8 → (∃ x, x ∈ V ∧ x ∈ S) → ¬ ∀ e ∈ A, (enA es e ∈ S ↔ enB es e ∈ S) := by
    rintro S hS ⟨x, hx, hxS⟩ hall
    obtain ⟨y, hy, hyS⟩ : ∃ y, y ∈ V ∧ y ∉ S := by
      refine Classical.byContradiction fun q => ?_
      have := nodup_leB V S h.nd fun z hz => Classical.byContradiction fun q2 => q ⟨z, hz, q2⟩
      omega
    exact hyS ((jn_inv (p := fun z => z ∈ S) hall (hc x hx y hy)).1 hxS)
  have pos : ∀ u ∈ V, 1 ≤ dgA es A u := by
    intro u hu
    refine Nat.pos_of_ne_zero fun q => ?_
    unfold dgA at q
    rw [List.countP_eq_zero] at q
    refine closed [u] (by simp) ⟨u, hu, by simp⟩ fun e he => ?_
    have := q e he
    rw [inc_iff] at this
    simp only [List.mem_singleton]
    exact ⟨fun w => absurd (.inl w) this, fun w => absurd (.inr w) this⟩
  have low := h.low (v := v) (k := dgA es A v) hmin
  obtain ⟨l1, l2, l3, _⟩ := lb7 (h.cut v) (by omega)
  have hD1 := pos v hv
  have hD : dgA es A v = 1 ∨ dgA es A v = 2 ∨ dgA es A v = 3 := by omega
  rcases hD with hD | hD | hD
  · -- the only neighbour of v has another one
    have h14 : LB es (cutV es A v) (V.erase v) 301 := by
      refine l1 (by omega) fun u hu => Nat.pos_of_ne_zero fun q => ?_
      have hu' := (List.Nodup.mem_erase_iff h.nd).1 hu
      unfold dgA at q
      rw [List.countP_eq_zero] at q
      have onlyv : ∀ e ∈ A, inc es u e = true → inc es v e = true := by
        intro e he hi
        refine Classical.byContradiction fun w => ?_
        exact q e (cutV_mem.2 ⟨he, fun r => w (inc_iff.2 r)⟩) hi
      obtain ⟨e0, he0, hi0⟩ : ∃ e, e ∈ A ∧ inc es u e = true := by
        have := pos u hu'.2
        unfold dgA at this
        exact List.countP_pos_iff.1 this
      have one : ∀ e ∈ A, inc es v e = true → e = e0 := by
        intro e he hi
        unfold dgA at hD
        rw [List.countP_eq_length_filter] at hD
        have m1 : e ∈ A.filter (inc es v) := List.mem_filter.2 ⟨he, hi⟩
        have m2 : e0 ∈ A.filter (inc es v) := List.mem_filter.2 ⟨he0, onlyv e0 he0 hi0⟩
        match hL : A.filter (inc es v), hD with
        | [x], _ =>
          rw [hL, List.mem_singleton] at m1 m2
          rw [m1, m2]
      have i0 := inc_iff.1 hi0
      have iv := inc_iff.1 (onlyv e0 he0 hi0)
      have ne := hu'.1
      refine closed [u, v] (by simp) ⟨u, hu'.2, by simp⟩ fun e he => ?_
      simp only [List.mem_cons, List.not_mem_nil, or_false]
      by_cases q0 : e = e0
      · subst q0; omega
      · have n1 : ¬ (enA es e = v ∨ enB es e = v) := fun w => q0 (one e he (inc_iff.2 w))
        have n2 : ¬ (enA es e = u ∨ enB es e = u) := fun w => q0 (one e he (onlyv e he (inc_iff.2 w)))
        omega
    have := LB.leaf h hv h14
    rw [hD] at this
    exact this.mono (fun _ q => q) (by omega)
  · have := LB.leaf h hv (l2 (by omega) fun u hu => by have := low u hu; omega)
    rw [hD] at this
    exact this.mono (fun _ q => q) (by omega)
  · have := LB.leaf h hv (l3 (by omega) fun u hu => by have := low u hu; omega)
    rw [hD] at this
    exact this.mono (fun _ q => q) (by omega)
end Go.Proofs.Ytlcipphiflcaiaa.Ai
namespace Go.Proofs.Ytlcipphiflcaiaa.Ai
open Go Go.RowKit
set_option linter.unusedVariables false
/-- the lists of a list of lists -/
theorem InL.parts {lo hi : Nat} {e2 e : TypeId} {H : AH} {v : Value} {ls : List (List Int)} (h : InL lo hi e2 e H v ls) : ∃ us : List Value, RowV e2 H v us ∧ us.length = ls.length ∧ ∀ i, i < ls.length → InI lo hi e H (us.getD i undef) (ls.getD i []) := by
  rcases h with ⟨h1, h2⟩ | ⟨o, us, h0, h1, h2, h3, h4, h5, h6⟩
  · subst h1; subst h2; exact ⟨[], .inl ⟨rfl, rfl⟩, rfl, fun i hi => absurd hi (by simp)⟩
  · refine ⟨us.take ls.length, .inr ⟨o, 0, us, false, by simp [h0, Nat.min_eq_left h4], h3, by simp; omega, by simp [Nat.min_eq_left h4]⟩, by simp; omega, fun i hi => ?_⟩
    have : (us.take ls.length).getD i undef = us.getD i undef := by
      rw [List.getD_eq_getElem?_getD, List.getD_eq_getElem?_getD, List.getElem?_take, if_pos hi]
    rw [this]
    exact (h5 i hi).1
end Go.Proofs.Ytlcipphiflcaiaa.Ai
namespace Go.Proofs.Ytlcipphiflcaiaa.Ai
open Go
def ords27 : List (Nat × List (Nat × Bool)) := []
def cd27 : Cd := (.seq (.reg [⟨⟨some 4, Op.alloc 29, none⟩, []⟩]) (.seq (.reg [⟨⟨some 10, Op.move (Operand.tmp 0), none⟩, []⟩,
  ⟨⟨some 11, Op.build 29 #[(0, (Operand.tmp 10))], none⟩, []⟩,
  ⟨⟨some 5, Op.alloc 29, none⟩, []⟩,
  ⟨⟨none, Op.store 29 (Operand.tmp 5) (Operand.tmp 11), none⟩, []⟩]) (.seq (.reg [⟨⟨some 12, Op.fieldAddr 29 (Operand.tmp 5) 0, none⟩, []⟩,
  ⟨⟨some 13, Op.load 27 (Operand.tmp 12), none⟩, []⟩,
  ⟨⟨some 14, Op.call { callee := (Callee.value (Operand.func 54)), args := #[(Operand.tmp 13), (Operand.func 55)], argTypes := #[27, 45] }, none⟩, []⟩]) (.seq (.seq (.reg [⟨⟨some 15, Op.fieldAddr 29 (Operand.tmp 5) 0, none⟩, []⟩,
  ⟨⟨some 16, Op.load 27 (Operand.tmp 15), none⟩, []⟩,
  ⟨⟨some 17, Op.call { callee := (Callee.builtin Builtin.len), args := #[(Operand.tmp 16)], argTypes := #[27] }, none⟩, []⟩,
  ⟨⟨some 18, Op.move (Operand.const (Value.int IntKind.i64 0)), none⟩, []⟩]) (.block 0 (.loop (.seq (.reg [⟨⟨some 19, Op.binOp BinOp.lss 3 (Operand.tmp 18) (Operand.tmp 17) 3, none⟩, []⟩]) (.seq (.cond (Operand.tmp 19) .skip (.exit 0)) (.seq (.block 1 (.seq (.reg [⟨⟨some 20, Op.move (Operand.tmp 18), none⟩, []⟩,
  ⟨⟨some 21, Op.indexAddr 27 (Operand.tmp 16) (Operand.tmp 18), none⟩, []⟩,
  ⟨⟨some 22, Op.load 25 (Operand.tmp 21), none⟩, []⟩,
  ⟨⟨some 6, Op.assign (Operand.tmp 20), none⟩, []⟩,
  ⟨⟨some 7, Op.assign (Operand.tmp 22), none⟩, []⟩]) (.seq (.reg [⟨⟨some 23, Op.fieldAddr 29 (Operand.tmp 5) 0, none⟩, []⟩,
  ⟨⟨some 24, Op.load 27 (Operand.tmp 23), none⟩, []⟩,
  ⟨⟨some 25, Op.move (Operand.tmp 6), none⟩, []⟩,
  ⟨⟨some 26, Op.binOp BinOp.add 3 (Operand.tmp 25) (Operand.const (Value.int IntKind.i64 1)) 3, none⟩, []⟩,
  ⟨⟨some 27, Op.slice 27 (Operand.tmp 24) (some (Operand.tmp 26)) none none, none⟩, []⟩,
  ⟨⟨some 28, Op.call { callee := (Callee.builtin Builtin.len), args := #[(Operand.tmp 27)], argTypes := #[27] }, none⟩, []⟩,
  ⟨⟨some 29, Op.move (Operand.const (Value.int IntKind.i64 0)), none⟩, []⟩]) (.block 2 (.loop (.seq (.reg [⟨⟨some 30, Op.binOp BinOp.lss 3 (Operand.tmp 29) (Operand.tmp 28) 3, none⟩, []⟩]) (.seq (.cond (Operand.tmp 30) .skip (.exit 2)) (.seq (.block 3 (.seq (.reg [⟨⟨some 31, Op.move (Operand.tmp 29), none⟩, []⟩,
  ⟨⟨some 32, Op.indexAddr 27 (Operand.tmp 27) (Operand.tmp 29), none⟩, []⟩,
  ⟨⟨some 33, Op.load 25 (Operand.tmp 32), none⟩, []⟩,
  ⟨⟨some 8, Op.assign (Operand.tmp 31), none⟩, []⟩,
  ⟨⟨some 9, Op.assign (Operand.tmp 33), none⟩, []⟩]) (.seq (.reg [⟨⟨some 34, Op.move (Operand.tmp 1), none⟩, []⟩,
  ⟨⟨some 35, Op.move (Operand.tmp 7), none⟩, []⟩,
  ⟨⟨some 36, Op.move (Operand.tmp 9), none⟩, []⟩,
  ⟨⟨some 37, Op.call { callee := (Callee.value (Operand.tmp 34)), args := #[(Operand.tmp 35), (Operand.tmp 36)], argTypes := #[25, 25] }, none⟩, []⟩]) (.cond (Operand.tmp 37) (.reg [⟨⟨some 38, Op.fieldAddr 29 (Operand.tmp 5) 1, none⟩, []⟩,
  ⟨⟨some 39, Op.load 22 (Operand.tmp 38), none⟩, []⟩,
  ⟨⟨some 40, Op.move (Operand.tmp 6), none⟩, []⟩,
  ⟨⟨some 41, Op.move (Operand.tmp 6), none⟩, []⟩,
  ⟨⟨some 42, Op.binOp BinOp.add 3 (Operand.tmp 41) (Operand.const (Value.int IntKind.i64 1)) 3, none⟩, []⟩,
  ⟨⟨some 43, Op.move (Operand.tmp 8), none⟩, []⟩,
  ⟨⟨some 44, Op.binOp BinOp.add 3 (Operand.tmp 42) (Operand.tmp 43) 3, none⟩, []⟩,
  ⟨⟨some 45, Op.build 65 #[(0, (Operand.tmp 40)), (1, (Operand.tmp 44))], none⟩, []⟩,
  ⟨⟨some 46, Op.buildSlice 22 1 #[(0, (Operand.tmp 45))], none⟩, []⟩,
  ⟨⟨some 47, Op.call { callee := (Callee.builtin Builtin.append), args := #[(Operand.tmp 39), (Operand.tmp 46)], argTypes := #[22, 22] }, none⟩, []⟩,
  ⟨⟨some 48, Op.fieldAddr 29 (Operand.tmp 5) 1, none⟩, []⟩,
  ⟨⟨none, Op.store 22 (Operand.tmp 48) (Operand.tmp 47), none⟩, []⟩]) .skip)))) (.reg [⟨⟨some 49, Op.binOp BinOp.add 3 (Operand.tmp 29) (Operand.const (Value.int IntKind.i64 1)) 3, none⟩, []⟩,
  ⟨⟨some 29, Op.move (Operand.tmp 49), none⟩, []⟩]))))))))) (.reg [⟨⟨some 50, Op.binOp BinOp.add 3 (Operand.tmp 18) (Operand.const (Value.int IntKind.i64 1)) 3, none⟩, []⟩,
  ⟨⟨some 18, Op.move (Operand.tmp 50), none⟩, []⟩]))))))) (.seq (.reg [⟨⟨some 51, Op.load 29 (Operand.tmp 5), none⟩, []⟩,
  ⟨⟨none, Op.store 29 (Operand.tmp 4) (Operand.tmp 51), none⟩, []⟩]) .ret)))))
theorem sl27 : slim Try.f27.ntmps ords27 (Try.f27.body.getD .skip) = some cd27 := by kernel_rfl
set_option maxRecDepth 20000 in
theorem in27 {args : List Value} {H : AH} {R : Value → AH → Prop} (hl : args.length = 2) (h : ∀ (Q : Exit → Sl → AH → Prop), (∀ e s H, endA Try.prog [ResultVar.cell 4 29] R e s H → Q e s H) → wpC Try.prog cd27 Q (enterA args) H) : ACalls Try.prog 27 args H R :=
  ACalls.intro (by kernel_rfl) Try.func27 rfl (by kernel_rfl) sl27 hl (of_decide_eq_true (by kernel_rfl)) (by kernel_rfl) h
end Go.Proofs.Ytlcipphiflcaiaa.Ai
namespace Go.Proofs.Ytlcipphiflcaiaa.Ai
open Go Go.RowKit
set_option linter.unusedVariables false
set_option linter.unusedSimpArgs false
theorem alloc_sp (H : AH) : allocA Try.prog 29 H = some (.pointer (some ⟨H.length, 0, none⟩), H ++ [.cells [.slice none 0 0, .slice none 0 0] 29 false]) := by kernel_rfl
theorem bld_sp1 (p : Option Addr) (n c : Nat) : buildA Try.prog 29 [(0, .slice p n c)] = some (.agg (List.toArray [.slice p n c, .slice none 0 0])) := by kernel_rfl
theorem bld_sp2 (p q : Option Addr) (n c m d : Nat) : buildA Try.prog 29 [(0, .slice p n c), (1, .slice q m d)] = some (.agg (List.toArray [.slice p n c, .slice q m d])) := by kernel_rfl
theorem bld_sp0 : buildA Try.prog 29 [] = some (.agg (List.toArray [.slice none 0 0, .slice none 0 0])) := by kernel_rfl
theorem st_ss {e : TypeId} {H : AH} {o : Nat} {vs : List Value} (ho : H[o]? = some (.cells vs e false)) (hv : vs.length = 2) (p q : Option Addr) (n c m d : Nat) :
    storeA Try.prog 29 (.pointer (some ⟨o, 0, none⟩)) (.agg (List.toArray [.slice p n c, .slice q m d])) H = some (H.set o (.cells [.slice p n c, .slice q m d] e false)) := by
  simp only [storeA, ho, cs29]
  have hcl : (Value.agg (List.toArray [.slice p n c, .slice q m d])).cells.toList = [.slice p n c, .slice q m d] := rfl
  rw [hcl, if_pos ⟨rfl, rfl, by decide, by rw [hv]; exact Nat.le_refl 2⟩]
  have : putAt vs 0 [.slice p n c, .slice q m d] = [.slice p n c, .slice q m d] := by
    unfold putAt
    rw [List.take_zero, List.nil_append, List.drop_of_length_le (by simp; omega), List.append_nil]
  rw [this]
/-- the end of a function with a variable and a value as results -/
theorem end_cell2 (P : Program) (a b : Nat) (t : TypeId) (R : Value → AH → Prop) (s : Sl) (H : AH) (v w : Value) (h : loadA P t (s a) H = some v) (ht : isTup v = false) (hb : s b = w) (hw : isTup w = false) (hr : R (.tuple (List.toArray [v, w])) H) : endA P [.cell a t, .tmp b] R .ret s H := by
  subst hb
  simp only [endA, resA, h, ht]
  simp [hw, outA]
  exact hr
/-- the steps between lists of which something is so -/
def stpI (p : List Int → List Int → Bool) (ls : List (List Int)) (i : Nat) : Nat → List (Int × Int)
  | 0 => []
  | k + 1 => stpI p ls i k ++ if p (ls.getD i []) (ls.getD (i + 1 + k) []) = true then [((i : Int), ((i + 1 + k : Nat) : Int))] else []
def stpO (p : List Int → List Int → Bool) (ls : List (List Int)) : Nat → List (Int × Int)
  | 0 => []
  | i + 1 => stpO p ls i ++ stpI p ls i (ls.length - (i + 1))
theorem stpI_len (p : List Int → List Int → Bool) (ls : List (List Int)) (i k : Nat) : (stpI p ls i k).length ≤ k := by
  induction k with
  | zero => simp [stpI]
  | succ k ih => simp only [stpI, List.length_append]; split <;> simp <;> omega
theorem stpO_len (p : List Int → List Int → Bool) (ls : List (List Int)) (i : Nat) : (stpO p ls i).length ≤ i * ls.length := by
  induction i with
  | zero => simp [stpO]
  | succ i ih =>
    have := stpI_len p ls i (ls.length - (i + 1))
    simp only [stpO, List.length_append, Nat.add_mul, Nat.one_mul]
    omega
abbrev steps (p : List Int → List Int → Bool) (ls : List (List Int)) : List (Int × Int) := stpO p ls ls.length
/-- is a step between two lists: a function of the program's -/
def StepFn (HB : AH) (fS : FuncId) (caps : List Value) (ls : List (List Int)) (p : List Int → List Int → Bool) : Prop :=
  ∀ (a b : Value) (x y : List Int) (H : AH), HB <+: H → Row 3 H a x → Row 3 H b y → x ∈ ls → y ∈ ls → ACalls Try.prog fS (a :: b :: caps) H fun r H' => r = .bool (p x y) ∧ H <+: H'
set_option maxRecDepth 20000 in
set_option maxHeartbeats 4000000 in
theorem spaceOf_c {HB H : AH} {v : Value} {us : List Value} {ls : List (List Int)} (h : Sts H v us ls) (hls : ls.length ≤ 1000) (fS : FuncId) (caps : List Value) (p : List Int → List Int → Bool) (hS : StepFn HB fS caps ls p) (hp : HB <+: H) :
    ACalls Try.prog 27 [v, .func (.func fS) #[] (List.toArray caps)] H fun r H' => ∃ st, r = .agg (List.toArray [v, st]) ∧ MineP 65 H H' st (steps p ls) ∧ H <+: H' := by
  refine in27 rfl ?_
  intro Q hQ
  have hul := h.len
  obtain ⟨pv, hpv⟩ := h.row.shape
  have hb1 := bld_sp1 pv us.length us.length
  rw [← hpv] at hb1
  simp (maxSteps := 1000000) (disch := omega) only [cd27, alloc_sp, hb1, S, S1, S2, S3, S4, S5, ST, eq_self, reduceIte, reduceCtorEq, Nat.reduceEqDiff, Nat.reduceAdd]
  generalize hA : H ++ [AObj.cells [.slice none 0 0, .slice none 0 0] 29 false] = A
  have pA : H <+: A := by rw [← hA]; exact List.prefix_append _ _
  have cA : A[H.length]? = some (.cells [.slice none 0 0, .slice none 0 0] 29 false) := by rw [← hA]; exact at_new ..
  have lA : A.length = H.length + 1 := by rw [← hA]; simp
  have st1 := st_ss (at_new A (.cells [.slice none 0 0, .slice none 0 0] 29 false)) rfl pv none us.length us.length 0 0
  rw [set_new, ← hpv] at st1
  simp (maxSteps := 1000000) (disch := omega) only [st1, cell_new, S, S1, S2, S3, S4, S5, ST, eq_self, reduceIte, reduceCtorEq, Nat.reduceEqDiff, Nat.reduceAdd]
  generalize hB : A ++ [AObj.cells [v, .slice none 0 0] 29 false] = B
  have pB : A <+: B := by rw [← hB]; exact List.prefix_append _ _
  have cB : B[A.length]? = some (.cells [v, .slice none 0 0] 29 false) := by rw [← hB]; exact at_new ..
  have lB : B.length = A.length + 1 := by rw [← hB]; simp
  have pHB := pA.trans pB
  refine CallH.by (SortFunc_c (h.pre pHB)) ?_
  rintro _ C pC
  have pHC := pHB.trans pC
  have lC := pC.length_le
  have cC := pre_at pC cB
  have cC0 := pre_at (pB.trans pC) cA
  simp (maxSteps := 1000000) (disch := omega) only [cell_of cC, h.row.len Try.underlying27, hul, S, S1, S2, S3, S4, S5, ST, eq_self, reduceIte, reduceCtorEq, Nat.reduceEqDiff, Nat.reduceAdd]
  refine LoopH.by (fun m s H' => ∃ i st, m + i = ls.length ∧ s 1 = .func (.func fS) #[] (List.toArray caps) ∧ s 4 = .pointer (some ⟨H.length, 0, none⟩) ∧ s 5 = .pointer (some ⟨A.length, 0, none⟩) ∧ s 16 = v ∧ s 17 = .int .i64 (ls.length : Int) ∧ s 18 = .int .i64 ((i : Nat) : Int) ∧ H'[A.length]? = some (.cells [v, st] 29 false) ∧ H'[H.length]? = some (.cells [.slice none 0 0, .slice none 0 0] 29 false) ∧ (st = .slice none 0 0 ∨ B.length ≤ rowO st) ∧ MineP 65 H H' st (stpO p ls i) ∧ H <+: H') ls.length ?_ ?_
  · exact ⟨0, .slice none 0 0, by simp, rfl, rfl, rfl, rfl, rfl, rfl, cC, cC0, .inl rfl, .inl ⟨rfl, rfl⟩, pHC⟩
  rintro m s H' ⟨i, st, hm, s1, s4, s5, s16, s17, s18, hc5, hc4, hst, hmn, hpp⟩
  simp (maxSteps := 1000000) (disch := omega) only [s1, s4, s5, s16, s17, s18, S, S1, S2, S3, S4, S5, ST, eq_self, reduceIte, reduceCtorEq, Nat.reduceEqDiff, Nat.reduceAdd]
  refine brD.intro (fun g => ?_) (fun g => ?_)
  rotate_left
  · have hi : i = ls.length := by omega
    subst hi
    have hst2 : isTup st = false := hmn.row.tup
    obtain ⟨q, hq⟩ := hmn.row.shape
    have hstA := st_ss hc4 rfl pv q us.length us.length (stpO p ls ls.length).length (stpO p ls ls.length).length
    rw [← hpv, ← hq] at hstA
    simp (maxSteps := 1000000) (disch := omega) only [s4, s5, ld_agg ag29 cs29 hc5, hstA, S, S1, S2, S3, S4, S5, ST, eq_self, reduceIte, reduceCtorEq, Nat.reduceEqDiff, Nat.reduceAdd]
    have d4 := at_set (d := .cells [v, st] 29 false) hc4
    refine hQ _ _ _ (end_cell _ _ _ _ _ _ (.agg (List.toArray [v, st])) ?_ rfl ⟨st, rfl, ?_, ?_⟩)
    · simp (maxSteps := 1000000) (disch := omega) only [s4, ld_agg ag29 cs29 d4, S, S1, S2, S3, S4, S5, ST, eq_self, reduceIte, reduceCtorEq, Nat.reduceEqDiff, Nat.reduceAdd]
    · rcases hst with e | e
      · rcases hmn with hm0 | ⟨o, zs, q1, _⟩
        · exact .inl hm0
        · rw [e] at q1; cases q1
      · refine hmn.keepL ?_
        intro hl y hy
        rw [List.getElem?_set_ne (by omega)]
        exact hy
    · exact pre_set hpp (Nat.le_refl _) _
  have hi : i < ls.length := by omega
  have hH' := h.pre hpp
  have hci := hH'.cell hi
  have hri := hH'.each i hi
  have hmi : ls.getD i [] ∈ ls := by simp [hi]
  have hsl := hH'.row.slice (P := Try.prog) (t := 27) Try.underlying27 cs25 (bound_some (k := .i64) (i := (i : Int) + 1) (by omega) 0) (hi_none us.length) (show ((i : Int) + 1).toNat ≤ us.length by omega) (Nat.le_refl _)
  have hi1 : ((i : Int) + 1).toNat = i + 1 := by omega
  rw [hi1] at hsl
  obtain ⟨hsl1, hsl2, hsl3⟩ := hsl
  have hdl : (us.drop (i + 1)).take (us.length - (i + 1)) = us.drop (i + 1) := by rw [List.take_of_length_le (by simp)]
  rw [hdl] at hsl2
  have hdn : ((us.drop (i + 1)).length : Int) = ((ls.length - (i + 1) : Nat) : Int) := by simp; omega
  simp (maxSteps := 1000000) (disch := omega) only [s1, s4, s5, s16, s17, s18, hH'.row.ix Try.underlying27 cs25, Int.toNat_natCast, hci, cell_of hc5, wrap64, hsl1, hsl2.len Try.underlying27, hdn, S, S1, S2, S3, S4, S5, ST, eq_self, reduceIte, reduceCtorEq, Nat.reduceEqDiff, Nat.reduceAdd]
  refine LoopH.by (fun m' s' H'' => ∃ j st', m' + j = ls.length - (i + 1) ∧ s' 1 = .func (.func fS) #[] (List.toArray caps) ∧ s' 4 = .pointer (some ⟨H.length, 0, none⟩) ∧ s' 5 = .pointer (some ⟨A.length, 0, none⟩) ∧ s' 6 = .int .i64 ((i : Nat) : Int) ∧ s' 7 = us.getD i undef ∧ s' 16 = v ∧ s' 17 = .int .i64 (ls.length : Int) ∧ s' 18 = .int .i64 ((i : Nat) : Int) ∧ s' 27 = subV v (i + 1) us.length ∧ s' 28 = .int .i64 ((ls.length - (i + 1) : Nat) : Int) ∧ s' 29 = .int .i64 ((j : Nat) : Int) ∧ H''[A.length]? = some (.cells [v, st'] 29 false) ∧ H''[H.length]? = some (.cells [.slice none 0 0, .slice none 0 0] 29 false) ∧ (st' = .slice none 0 0 ∨ B.length ≤ rowO st') ∧ MineP 65 H H'' st' (stpO p ls i ++ stpI p ls i j) ∧ H <+: H'') (ls.length - (i + 1)) ?_ ?_
  · refine ⟨0, st, by simp, ?_⟩
    simp only [S, S1, S2, S3, S4, S5, ST, eq_self, reduceIte, reduceCtorEq, Nat.reduceEqDiff, Nat.reduceAdd, s1, s4, s5, s16, s17, s18]
    have f0 : MineP 65 H H' st (stpO p ls i ++ stpI p ls i 0) := by rw [stpI, List.append_nil]; exact hmn
    (repeat' first | exact hc5 | exact hc4 | exact hst | exact f0 | exact hpp | apply And.intro) <;> first | (simp only [Value.int.injEq, true_and]; omega) | omega | rfl | assumption | (simp; done) | (simp; omega)
  · rintro m' s' H'' ⟨j, st', hm', g1, g4, g5, g6, g7, g16, g17, g18, g27, g28, g29, hc5', hc4', hst', hmn', hpp'⟩
    simp (maxSteps := 1000000) (disch := omega) only [g1, g4, g5, g6, g7, g16, g17, g18, g27, g28, g29, S, S1, S2, S3, S4, S5, ST, eq_self, reduceIte, reduceCtorEq, Nat.reduceEqDiff, Nat.reduceAdd]
    refine brD.intro (fun q => ?_) (fun q => ?_)
    · have hj : i + 1 + j < ls.length := by omega
      have hH2 := h.pre hpp'
      have hsl' := hH2.row.slice (P := Try.prog) (t := 27) Try.underlying27 cs25 (bound_some (k := .i64) (i := (i : Int) + 1) (by omega) 0) (hi_none us.length) (show ((i : Int) + 1).toNat ≤ us.length by omega) (Nat.le_refl _)
      rw [hi1, hdl] at hsl'
      obtain ⟨_, hsr, _⟩ := hsl'
      have hjd : j < (us.drop (i + 1)).length := by simp; omega
      have hcj := hsr.cell hjd
      have hdd : (us.drop (i + 1)).getD j undef = us.getD (i + 1 + j) undef := by
        rw [List.getD_eq_getElem?_getD, List.getD_eq_getElem?_getD, List.getElem?_drop]
      rw [hdd] at hcj
      have hmj : ls.getD (i + 1 + j) [] ∈ ls := by simp [hj]
      simp (maxSteps := 1000000) (disch := omega) only [g1, g4, g5, g6, g7, g16, g17, g18, g27, g28, g29, hsr.ix Try.underlying27 cs25, Int.toNat_natCast, hcj, S, S1, S2, S3, S4, S5, ST, eq_self, reduceIte, reduceCtorEq, Nat.reduceEqDiff, Nat.reduceAdd]
      refine CallH.by (hS _ _ _ _ H'' (hp.trans hpp') (hH2.each i hi) (hH2.each (i + 1 + j) hj) hmi hmj) ?_
      rintro _ D ⟨rfl, pD⟩
      have hcD5 := pre_at pD hc5'
      have hcD4 := pre_at pD hc4'
      have hpD := hpp'.trans pD
      have hmD := hmn'.pre pD
      have hsl1 := stpO_len p ls i
      have hsl2 := stpI_len p ls i j
      have hmul : i * ls.length ≤ 1000 * 1000 := Nat.mul_le_mul (by omega) hls
      have lD := hpD.length_le
      have l5 := at_lt hc5'
      simp (maxSteps := 1000000) (disch := omega) only [S, S1, S2, S3, S4, S5, ST, eq_self, reduceIte, reduceCtorEq, Nat.reduceEqDiff, Nat.reduceAdd]
      refine brH.intro (fun e => ?_) (fun e => ?_)
      · have hstep : stpI p ls i (j + 1) = stpI p ls i j ++ [((i : Int), ((i + 1 + j : Nat) : Int))] := by rw [stpI, if_pos e]
        obtain ⟨st2, H3, k1, k2, k3, k4, k5, k6⟩ := own1_22 hmD hpD (by rw [List.length_append]; omega) (i : Int) ((i + 1 + j : Nat) : Int)
        have hne : st' = .slice none 0 0 ∨ ∀ o, o < B.length → o ≠ rowO st' := hst'.imp id fun q o ho => by omega
        have d5 : H3[A.length]? = some (.cells [v, st'] 29 false) := k4 _ _ (hne.imp id fun q => q _ (by omega)) hcD5
        have d4 : H3[H.length]? = some (.cells [.slice none 0 0, .slice none 0 0] 29 false) := k4 _ _ (hne.imp id fun q => q _ (by omega)) hcD4
        obtain ⟨q2, hq2⟩ := k2.row.shape
        have t1 : isTup st2 = false := k6
        have t2 : st2.cells.toList = [st2] := by rw [hq2]; rfl
        have hst3 := st_at (P := Try.prog) (t := 22) (i := 1) (y := st2) cs22 d5 (by show 1 < 2; decide) t1 t2
        have hidx : (i : Int) + 1 + (j : Int) = ((i + 1 + j : Nat) : Int) := by omega
        have lDB : B.length ≤ D.length := by have := hpp'.length_le; have := pD.length_le; omega
        simp (maxSteps := 1000000) (disch := omega) only [e, g1, g4, g5, g6, g7, g16, g17, g18, g27, g28, g29, cell_of hcD5, build_a2, wrap64, hidx, k1, hst3, S, S1, S2, S3, S4, S5, ST, eq_self, reduceIte, reduceCtorEq, Nat.reduceEqDiff, Nat.reduceAdd]
        have f5 : (H3.set A.length (.cells ([v, st'].set 1 st2) 29 false))[A.length]? = some (.cells [v, st2] 29 false) := by
          rw [List.getElem?_set_self (at_lt d5)]; rfl
        have f4 : (H3.set A.length (.cells ([v, st'].set 1 st2) 29 false))[H.length]? = some (.cells [.slice none 0 0, .slice none 0 0] 29 false) := by
          rw [List.getElem?_set_ne (by omega)]; exact d4
        have fs' : st2 = .slice none 0 0 ∨ B.length ≤ rowO st2 := .inr (by omega)
        have fm : MineP 65 H (H3.set A.length (.cells ([v, st'].set 1 st2) 29 false)) st2 (stpO p ls i ++ stpI p ls i (j + 1)) := by
          rw [hstep, ← List.append_assoc]
          exact k2.keepL fun hl y hy => by rw [List.getElem?_set_ne (by omega)]; exact hy
        have fp : H <+: H3.set A.length (.cells ([v, st'].set 1 st2) 29 false) := pre_set k3 (by omega) _
        refine ⟨m' - 1, by omega, j + 1, st2, ?_⟩
        (repeat' first | exact f5 | exact f4 | exact fs' | exact fm | exact fp | apply And.intro) <;> first | (simp only [Value.int.injEq, true_and]; omega) | omega | rfl | assumption | (simp; done) | (simp; omega)
      · have hstep : stpI p ls i (j + 1) = stpI p ls i j := by rw [stpI, if_neg (by rw [e]; decide), List.append_nil]
        rw [← hstep] at hmD
        simp (maxSteps := 1000000) (disch := omega) only [e, g1, g4, g5, g6, g7, g16, g17, g18, g27, g28, g29, wrap64, S, S1, S2, S3, S4, S5, ST, eq_self, reduceIte, reduceCtorEq, Nat.reduceEqDiff, Nat.reduceAdd]
        refine ⟨m' - 1, by omega, j + 1, st', ?_⟩
        (repeat' first | exact hcD5 | exact hcD4 | exact hst' | exact hmD | exact hpD | apply And.intro) <;> first | (simp only [Value.int.injEq, true_and]; omega) | omega | rfl | assumption | (simp; done) | (simp; omega)
    · have hjj : j = ls.length - (i + 1) := by omega
      subst hjj
      have hstO : stpO p ls (i + 1) = stpO p ls i ++ stpI p ls i (ls.length - (i + 1)) := rfl
      rw [← hstO] at hmn'
      simp (maxSteps := 1000000) (disch := omega) only [g1, g4, g5, g6, g7, g16, g17, g18, g27, g28, g29, wrap64, S, S1, S2, S3, S4, S5, ST, eq_self, reduceIte, reduceCtorEq, Nat.reduceEqDiff, Nat.reduceAdd]
      refine ⟨m - 1, by omega, i + 1, st', ?_⟩
      (repeat' first | exact hc5' | exact hc4' | exact hst' | exact hmn' | exact hpp' | apply And.intro) <;> first | (simp only [Value.int.injEq, true_and]; omega) | omega | rfl | assumption | (simp; done) | (simp; omega)
end Go.Proofs.Ytlcipphiflcaiaa.Ai
namespace Go.Proofs.Ytlcipphiflcaiaa.Ai
open Go Go.RowKit
set_option linter.unusedVariables false
set_option linter.unusedSimpArgs false
theorem own_base {e : TypeId} {H0 H1 H : AH} {v : Value} {xs : List Int} (h : Own e H0 H v xs) (hl : H1.length ≤ H0.length) : Own e H1 H v xs := by
  rcases h with h | ⟨o, h1, h2, h3⟩
  · exact .inl h
  · exact .inr ⟨o, h1, by omega, h3⟩
theorem own_keep {e : TypeId} {H0 H H' : AH} {v : Value} {xs : List Int} (h : Own e H0 H v xs) (hh : ∀ y, v ≠ .slice none 0 0 → H[rowO v]? = some y → H'[rowO v]? = some y) : Own e H0 H' v xs := by
  rcases h with h | ⟨o, h1, h2, h3⟩
  · exact .inl h
  · exact .inr ⟨o, h1, h2, by subst h1; exact hh _ (by intro e; cases e) h3⟩
theorem own_nil {e : TypeId} {H0 H : AH} {v : Value} {xs : List Int} (h : Own e H0 H v xs) : v = .slice none 0 0 ∨ (H0.length ≤ rowO v ∧ rowO v < H.length) := by
  rcases h with h | ⟨o, h1, h2, h3⟩
  · exact .inl h.1
  · subst h1; exact .inr ⟨h2, at_lt h3⟩
/-- lists of neighbours that grow -/
structure Adj (C G : AH) (o : Nat) (us : List Value) (L : List (List Int)) : Prop where
  at_ : G[o]? = some (.cells us 25 false)
  olt : o < C.length
  len : us.length = L.length
  el : ∀ i, i < L.length → Own 3 C G (us.getD i undef) (L.getD i [])
  ap : ∀ i j, i ≠ j → i < L.length → j < L.length → Apart (us.getD i undef) (us.getD j undef)
  keep : ∀ (j : Nat) (y : AObj), j ≠ o → C[j]? = some y → G[j]? = some y
  le : C.length ≤ G.length
theorem Adj.ne {C G : AH} {o : Nat} {us : List Value} {L : List (List Int)} (h : Adj C G o us L) {i : Nat} (hi : i < L.length) : us.getD i undef = .slice none 0 0 ∨ rowO (us.getD i undef) ≠ o := by
  rcases own_nil (h.el i hi) with g | g
  · exact .inl g
  · right; have := h.olt; omega
theorem Adj.pre {C G G' : AH} {o : Nat} {us : List Value} {L : List (List Int)} (h : Adj C G o us L) (hp : G <+: G') : Adj C G' o us L :=
  ⟨pre_at hp h.at_, h.olt, h.len, fun i hi => own_keep (h.el i hi) fun y _ hy => pre_at hp hy, h.ap, fun j y hj hy => pre_at hp (h.keep j y hj hy), Nat.le_trans h.le hp.length_le⟩
/-- one more, at one place -/
theorem Adj.upd1 {C G K : AH} {o x : Nat} {us : List Value} {L : List (List Int)} (h : Adj C G o us L) (hx : x < L.length) {v1 : Value} {l1 : List Int}
    (h1 : Own 3 C K v1 l1) (g1 : G.length ≤ rowO v1) (hl : G.length ≤ K.length)
    (hk : ∀ (j : Nat) (z : AObj), (us.getD x undef = .slice none 0 0 ∨ j ≠ rowO (us.getD x undef)) → G[j]? = some z → K[j]? = some z) :
    Adj C (K.set o (.cells (us.set x v1) 25 false)) o (us.set x v1) (L.set x l1) := by
  have hol := h.olt
  have hle := h.le
  have hul := h.len
  have ax : us.getD x undef = .slice none 0 0 ∨ o ≠ rowO (us.getD x undef) := (h.ne hx).imp id fun e => fun q => e q.symm
  have ko := hk o _ ax h.at_
  have gu : ∀ i, (us.set x v1).getD i undef = if x = i then (if x < us.length then v1 else undef) else us.getD i undef := by
    intro i
    rw [List.getD_eq_getElem?_getD, List.getElem?_set]
    by_cases e1 : x = i
    · rw [if_pos e1, if_pos e1, if_pos (by omega), if_pos (by omega)]; rfl
    · rw [if_neg e1, if_neg e1, List.getD_eq_getElem?_getD]
  have gl : ∀ i, (L.set x l1).getD i [] = if x = i then (if x < L.length then l1 else []) else L.getD i [] := by
    intro i
    rw [List.getD_eq_getElem?_getD, List.getElem?_set]
    by_cases e1 : x = i
    · rw [if_pos e1, if_pos e1, if_pos (by omega), if_pos (by omega)]; rfl
    · rw [if_neg e1, if_neg e1, List.getD_eq_getElem?_getD]
  have setk : ∀ {j : Nat} {z : AObj}, j ≠ o → K[j]? = some z → (K.set o (.cells (us.set x v1) 25 false))[j]? = some z := fun hj hz => by
    rw [List.getElem?_set_ne (fun e => hj e.symm)]; exact hz
  have old : ∀ i, i < L.length → i ≠ x → us.getD i undef ≠ .slice none 0 0 → rowO (us.getD i undef) < G.length ∧ ∀ z, G[rowO (us.getD i undef)]? = some z → K[rowO (us.getD i undef)]? = some z := by
    intro i hi ix hn
    rcases own_nil (h.el i hi) with q | q
    · exact absurd q hn
    refine ⟨q.2, fun z hz => hk _ _ ?_ hz⟩
    rcases h.ap i x ix hi hx with q1 | q1 | q1
    · exact .inl q1
    · exact absurd q1 hn
    · exact .inr q1
  refine ⟨at_set ko, hol, by simp [hul], fun i hi => ?_, fun i j hij hi hj => ?_, fun j z hj hz => ?_, by simp; omega⟩
  · rw [List.length_set] at hi
    rw [gu, gl]
    by_cases e1 : x = i
    · rw [if_pos e1, if_pos e1, if_pos (by omega), if_pos (by omega)]
      exact own_keep h1 fun z _ hz => setk (by omega) hz
    · rw [if_neg e1, if_neg e1]
      refine own_keep (h.el i hi) fun z hn hz => ?_
      have hq := old i hi (fun e => e1 e.symm) hn
      refine setk ?_ (hq.2 z hz)
      rcases h.ne hi with q | q
      · exact absurd q hn
      · exact q
  · rw [List.length_set] at hi hj
    have far : ∀ (q : Nat) (v : Value), q < L.length → q ≠ x → G.length ≤ rowO v → us.getD q undef = .slice none 0 0 ∨ rowO (us.getD q undef) ≠ rowO v := by
      intro q v hq qx hv
      by_cases hn : us.getD q undef = .slice none 0 0
      · exact .inl hn
      · right; have := (old q hq qx hn).1; omega
    rw [gu, gu]
    by_cases e1 : x = i
    · rw [if_pos e1, if_pos (by omega), if_neg (show ¬ x = j by omega)]
      rcases far j v1 hj (by omega) g1 with q | q
      · exact .inl q
      · exact .inr (.inr fun e => q e.symm)
    · rw [if_neg e1]
      by_cases e4 : x = j
      · rw [if_pos e4, if_pos (by omega)]
        rcases far i v1 hi (fun e => e1 e.symm) g1 with q | q
        · exact .inr (.inl q)
        · exact .inr (.inr q)
      · rw [if_neg e4]; exact h.ap i j hij hi hj
  · refine setk hj ?_
    have hC : us.getD x undef = .slice none 0 0 ∨ j ≠ rowO (us.getD x undef) := by
      have hjl := at_lt hz
      rcases own_nil (h.el x hx) with g | g
      · exact .inl g
      · right; omega
    exact hk j z hC (h.keep j z hj hz)
/-- one of the lists is touched, and is as before -/
theorem Adj.same {C G K : AH} {o x : Nat} {us : List Value} {L : List (List Int)} (h : Adj C G o us L) (hx : x < L.length) (h1 : Own 3 C K (us.getD x undef) (L.getD x [])) (he : Else (us.getD x undef) G K) : Adj C K o us L := by
  have ax : us.getD x undef = .slice none 0 0 ∨ o ≠ rowO (us.getD x undef) := (h.ne hx).imp id fun e => fun q => e q.symm
  refine ⟨he.2 _ _ ax h.at_, h.olt, h.len, fun i hi => ?_, h.ap, fun j z hj hz => he.2 _ _ ?_ (h.keep j z hj hz), by rw [he.1]; exact h.le⟩
  · by_cases e : i = x
    · subst e; exact h1
    · refine own_keep (h.el i hi) fun z hn hz => he.2 _ _ ?_ hz
      rcases h.ap i x e hi hx with q | q | q
      · exact .inl q
      · exact absurd q hn
      · exact .inr q
  · have hjl := at_lt hz
    rcases own_nil (h.el x hx) with g | g
    · exact .inl g
    · right; omega
/-- appending a number to one of the lists -/
theorem Adj.app1 {C G : AH} {o x : Nat} {us : List Value} {L : List (List Int)} (h : Adj C G o us L) (hx : x < L.length) (hb : (L.getD x []).length ≤ 1000000) (y : Int) :
    ∃ v K, appendA Try.prog 25 25 (us.getD x undef) (.slice (some ⟨G.length, 0, none⟩) 1 1) (G ++ [.cells [.int .i64 y] 3 false]) = some (v, K) ∧
      (∀ (j : Nat) (z : AObj), (us.getD x undef = .slice none 0 0 ∨ j ≠ rowO (us.getD x undef)) → G[j]? = some z → K[j]? = some z) ∧ K[o]? = some (.cells us 25 false) ∧ isTup v = false ∧ v.cells.toList = [v] ∧
      Adj C (K.set o (.cells (us.set x v) 25 false)) o (us.set x v) (L.set x (L.getD x [] ++ [y])) := by
  have hox := h.el x hx
  have hle := h.le
  have hlC : (G.take C.length).length = C.length := by simp; omega
  have ox2 : Own 3 (G.take C.length) G (us.getD x undef) (L.getD x []) := own_base hox (by omega)
  obtain ⟨v, K, j1, j2, j3, j4, j5, j6⟩ := own1_25 ox2 (List.take_prefix _ _) (by omega) y
  have hjC : Own 3 C K v (L.getD x [] ++ [y]) := own_base j2 (by omega)
  have ax : us.getD x undef = .slice none 0 0 ∨ o ≠ rowO (us.getD x undef) := (h.ne hx).imp id fun e => fun q => e q.symm
  have hlK : G.length ≤ K.length := by
    rcases own_nil hjC with q | q
    · have h1 : (L.getD x [] ++ [y]).length = 0 := by
        rcases hjC with ⟨_, q1⟩ | ⟨o', q1, _⟩
        · rw [q1]; rfl
        · rw [q1] at q; cases q
      simp at h1
    · omega
  obtain ⟨p, hp⟩ := j2.row.shape
  exact ⟨v, K, j1, fun j z hj hz => j4 j z hj hz, j4 o _ ax h.at_, j6, by rw [hp]; rfl, h.upd1 hx hjC j5 hlK fun j z hj hz => j4 j z hj hz⟩
end Go.Proofs.Ytlcipphiflcaiaa.Ai
namespace Go.Proofs.Ytlcipphiflcaiaa.Ai
open Go
def ords31 : List (Nat × List (Nat × Bool)) := [(6, [(0, false), (1, false), (2, false), (3, false), (4, false), (5, false), (6, false), (7, false), (8, true), (9, false)])]
def cd31 : Cd := (.seq (.reg [⟨⟨some 4, Op.assign (Operand.const (Value.bool false)), none⟩, []⟩]) (.seq (.seq (.reg [⟨⟨some 6, Op.move (Operand.tmp 0), none⟩, []⟩,
  ⟨⟨some 7, Op.call { callee := (Callee.builtin Builtin.len), args := #[(Operand.tmp 6)], argTypes := #[27] }, none⟩, []⟩,
  ⟨⟨some 8, Op.move (Operand.tmp 1), none⟩, []⟩,
  ⟨⟨some 9, Op.call { callee := (Callee.builtin Builtin.len), args := #[(Operand.tmp 8)], argTypes := #[27] }, none⟩, []⟩,
  ⟨⟨some 10, Op.binOp BinOp.neq 3 (Operand.tmp 7) (Operand.tmp 9) 3, none⟩, []⟩]) (.cond (Operand.tmp 10) (.seq (.reg [⟨⟨some 4, Op.assign (Operand.const (Value.bool false)), none⟩, []⟩]) .ret) .skip)) (.seq (.seq (.reg [⟨⟨some 5, Op.assign (Operand.const (Value.int IntKind.i64 0)), none⟩, []⟩]) (.block 0 (.loop (.seq (.seq (.reg [⟨⟨some 11, Op.move (Operand.tmp 5), none⟩, []⟩,
  ⟨⟨some 12, Op.move (Operand.tmp 0), none⟩, []⟩,
  ⟨⟨some 13, Op.call { callee := (Callee.builtin Builtin.len), args := #[(Operand.tmp 12)], argTypes := #[27] }, none⟩, []⟩,
  ⟨⟨some 14, Op.binOp BinOp.lss 3 (Operand.tmp 11) (Operand.tmp 13) 3, none⟩, []⟩]) (.cond (Operand.tmp 14) .skip (.exit 0))) (.seq (.block 1 (.seq (.reg [⟨⟨some 17, Op.move (Operand.tmp 0), none⟩, []⟩,
  ⟨⟨some 18, Op.move (Operand.tmp 5), none⟩, []⟩,
  ⟨⟨some 19, Op.indexAddr 27 (Operand.tmp 17) (Operand.tmp 18), none⟩, []⟩,
  ⟨⟨some 20, Op.load 25 (Operand.tmp 19), none⟩, []⟩,
  ⟨⟨some 21, Op.move (Operand.tmp 1), none⟩, []⟩,
  ⟨⟨some 22, Op.move (Operand.tmp 5), none⟩, []⟩,
  ⟨⟨some 23, Op.indexAddr 27 (Operand.tmp 21) (Operand.tmp 22), none⟩, []⟩,
  ⟨⟨some 24, Op.load 25 (Operand.tmp 23), none⟩, []⟩,
  ⟨⟨some 25, Op.call { callee := (Callee.value (Operand.func 11)), args := #[(Operand.tmp 20), (Operand.tmp 24)], argTypes := #[25, 25] }, none⟩, []⟩,
  ⟨⟨some 26, Op.unOp UnOp.not 4 (Operand.tmp 25), none⟩, []⟩]) (.cond (Operand.tmp 26) (.seq (.reg [⟨⟨some 4, Op.assign (Operand.const (Value.bool false)), none⟩, []⟩]) .ret) .skip))) (.reg [⟨⟨some 15, Op.move (Operand.tmp 5), none⟩, []⟩,
  ⟨⟨some 16, Op.binOp BinOp.add 3 (Operand.tmp 15) (Operand.const (Value.int IntKind.i64 1)) 3, none⟩, []⟩,
  ⟨⟨some 5, Op.assign (Operand.tmp 16), none⟩, []⟩])))))) (.seq (.reg [⟨⟨some 4, Op.assign (Operand.const (Value.bool true)), none⟩, []⟩]) .ret))))
theorem sl31 : slim Try.f31.ntmps ords31 (Try.f31.body.getD .skip) = some cd31 := by kernel_rfl
theorem in31 {args : List Value} {H : AH} {R : Value → AH → Prop} (hl : args.length = 2) (h : ∀ (Q : Exit → Sl → AH → Prop), (∀ e s H, endA Try.prog [ResultVar.tmp 4] R e s H → Q e s H) → wpC Try.prog cd31 Q (enterA args) H) : ACalls Try.prog 31 args H R :=
  ACalls.intro (by kernel_rfl) Try.func31 rfl (by kernel_rfl) sl31 hl (of_decide_eq_true (by kernel_rfl)) (by kernel_rfl) h
def ords35 : List (Nat × List (Nat × Bool)) := []
def cd35 : Cd := (.seq (.reg [⟨⟨some 4, Op.assign (Operand.const (Value.int IntKind.i64 0)), none⟩, []⟩]) (.seq (.seq (.reg [⟨⟨some 5, Op.assign (Operand.const (Value.int IntKind.i64 0)), none⟩, []⟩]) (.block 0 (.loop (.seq (.seq (.reg [⟨⟨some 6, Op.move (Operand.tmp 5), none⟩, []⟩,
  ⟨⟨some 7, Op.move (Operand.tmp 0), none⟩, []⟩,
  ⟨⟨some 8, Op.call { callee := (Callee.builtin Builtin.len), args := #[(Operand.tmp 7)], argTypes := #[27] }, none⟩, []⟩,
  ⟨⟨some 9, Op.binOp BinOp.lss 3 (Operand.tmp 6) (Operand.tmp 8) 3, none⟩, []⟩]) (.cond (Operand.tmp 9) .skip (.exit 0))) (.seq (.block 1 (.seq (.reg [⟨⟨some 12, Op.move (Operand.tmp 0), none⟩, []⟩,
  ⟨⟨some 13, Op.move (Operand.tmp 5), none⟩, []⟩,
  ⟨⟨some 14, Op.indexAddr 27 (Operand.tmp 12) (Operand.tmp 13), none⟩, []⟩,
  ⟨⟨some 15, Op.load 25 (Operand.tmp 14), none⟩, []⟩,
  ⟨⟨some 16, Op.move (Operand.tmp 1), none⟩, []⟩,
  ⟨⟨some 17, Op.call { callee := (Callee.value (Operand.func 60)), args := #[(Operand.tmp 15), (Operand.tmp 16)], argTypes := #[25, 3] }, none⟩, []⟩,
  ⟨⟨some 1, Op.assign (Operand.tmp 17), none⟩, []⟩]) (.seq (.reg [⟨⟨some 18, Op.move (Operand.tmp 1), none⟩, []⟩,
  ⟨⟨some 19, Op.binOp BinOp.lss 3 (Operand.tmp 18) (Operand.const (Value.int IntKind.i64 0)) 3, none⟩, []⟩]) (.cond (Operand.tmp 19) (.seq (.reg [⟨⟨some 4, Op.assign (Operand.const (Value.int IntKind.i64 (-1))), none⟩, []⟩]) .ret) .skip)))) (.reg [⟨⟨some 10, Op.move (Operand.tmp 5), none⟩, []⟩,
  ⟨⟨some 11, Op.binOp BinOp.add 3 (Operand.tmp 10) (Operand.const (Value.int IntKind.i64 1)) 3, none⟩, []⟩,
  ⟨⟨some 5, Op.assign (Operand.tmp 11), none⟩, []⟩])))))) (.seq (.reg [⟨⟨some 20, Op.move (Operand.tmp 1), none⟩, []⟩,
  ⟨⟨some 4, Op.assign (Operand.tmp 20), none⟩, []⟩]) .ret)))
theorem sl35 : slim Try.f35.ntmps ords35 (Try.f35.body.getD .skip) = some cd35 := by kernel_rfl
theorem in35 {args : List Value} {H : AH} {R : Value → AH → Prop} (hl : args.length = 2) (h : ∀ (Q : Exit → Sl → AH → Prop), (∀ e s H, endA Try.prog [ResultVar.tmp 4] R e s H → Q e s H) → wpC Try.prog cd35 Q (enterA args) H) : ACalls Try.prog 35 args H R :=
  ACalls.intro (by kernel_rfl) Try.func35 rfl (by kernel_rfl) sl35 hl (of_decide_eq_true (by kernel_rfl)) (by kernel_rfl) h
def ords34 : List (Nat × List (Nat × Bool)) := []
def cd34 : Cd := (.seq (.reg [⟨⟨some 4, Op.assign (Operand.const (Value.int IntKind.i64 0)), none⟩, []⟩]) (.seq (.seq (.reg [⟨⟨some 5, Op.assign (Operand.const (Value.int IntKind.i64 0)), none⟩, []⟩]) (.block 0 (.loop (.seq (.seq (.reg [⟨⟨some 6, Op.move (Operand.tmp 5), none⟩, []⟩,
  ⟨⟨some 7, Op.move (Operand.tmp 0), none⟩, []⟩,
  ⟨⟨some 8, Op.call { callee := (Callee.builtin Builtin.len), args := #[(Operand.tmp 7)], argTypes := #[27] }, none⟩, []⟩,
  ⟨⟨some 9, Op.binOp BinOp.lss 3 (Operand.tmp 6) (Operand.tmp 8) 3, none⟩, []⟩]) (.cond (Operand.tmp 9) .skip (.exit 0))) (.seq (.block 1 (.reg [⟨⟨some 12, Op.move (Operand.tmp 0), none⟩, []⟩,
  ⟨⟨some 13, Op.move (Operand.tmp 5), none⟩, []⟩,
  ⟨⟨some 14, Op.indexAddr 27 (Operand.tmp 12) (Operand.tmp 13), none⟩, []⟩,
  ⟨⟨some 15, Op.load 25 (Operand.tmp 14), none⟩, []⟩,
  ⟨⟨some 16, Op.move (Operand.tmp 1), none⟩, []⟩,
  ⟨⟨some 17, Op.call { callee := (Callee.value (Operand.func 13)), args := #[(Operand.tmp 15), (Operand.tmp 16)], argTypes := #[25, 3] }, none⟩, []⟩,
  ⟨⟨some 1, Op.assign (Operand.tmp 17), none⟩, []⟩])) (.reg [⟨⟨some 10, Op.move (Operand.tmp 5), none⟩, []⟩,
  ⟨⟨some 11, Op.binOp BinOp.add 3 (Operand.tmp 10) (Operand.const (Value.int IntKind.i64 1)) 3, none⟩, []⟩,
  ⟨⟨some 5, Op.assign (Operand.tmp 11), none⟩, []⟩])))))) (.seq (.reg [⟨⟨some 18, Op.move (Operand.tmp 1), none⟩, []⟩,
  ⟨⟨some 4, Op.assign (Operand.tmp 18), none⟩, []⟩]) .ret)))
theorem sl34 : slim Try.f34.ntmps ords34 (Try.f34.body.getD .skip) = some cd34 := by kernel_rfl
theorem in34 {args : List Value} {H : AH} {R : Value → AH → Prop} (hl : args.length = 2) (h : ∀ (Q : Exit → Sl → AH → Prop), (∀ e s H, endA Try.prog [ResultVar.tmp 4] R e s H → Q e s H) → wpC Try.prog cd34 Q (enterA args) H) : ACalls Try.prog 34 args H R :=
  ACalls.intro (by kernel_rfl) Try.func34 rfl (by kernel_rfl) sl34 hl (of_decide_eq_true (by kernel_rfl)) (by kernel_rfl) h
end Go.Proofs.Ytlcipphiflcaiaa.Ai
namespace Go.Proofs.Ytlcipphiflcaiaa.Ai
open Go Go.RowKit
set_option linter.unusedVariables false
set_option linter.unusedSimpArgs false
set_option maxHeartbeats 1000000 in
theorem eqIntSS_c (v w : Value) (ls ms : List (List Int)) (H : AH) {b b' : Nat} (hr : RowLB b 25 3 H v ls) (hr2 : RowLB b' 25 3 H w ms) (hlen : ls.length ≤ 1099511627776) (hsz : sizeL ls ≤ 1099511627776) :
    ACalls Try.prog 31 [v, w] H fun r H' => r = .bool (decide (ls = ms)) ∧ H = H' := by
  obtain ⟨us, hv, _, hul, hu⟩ := hr
  obtain ⟨ws, hw, _, hwl, hwr⟩ := hr2
  have hvl := hv.len Try.underlying27
  have hwln := hw.len Try.underlying27
  rw [hul] at hvl
  rw [hwl] at hwln
  refine in31 rfl ?_
  intro Q hQ
  simp (maxSteps := 1000000) (disch := omega) only [cd31, hvl, hwln, S, S1, S2, S3, S4, S5, ST, eq_self, reduceIte, reduceCtorEq, Nat.reduceEqDiff, Nat.reduceAdd]
  refine brD.intro (fun g => ?_) (fun g => ?_) <;> simp (maxSteps := 1000000) (disch := omega) only [hvl, S, S1, S2, S3, S4, S5, ST, eq_self, reduceIte, reduceCtorEq, Nat.reduceEqDiff, Nat.reduceAdd]
  · refine hQ _ _ _ ?_
    simp (maxSteps := 1000000) (disch := omega) only [S, S1, S2, S3, S4, S5, ST, eq_self, reduceIte, reduceCtorEq, Nat.reduceEqDiff, Nat.reduceAdd]
    have : ls ≠ ms := fun e => g (by rw [e])
    simp [this]
  · have hl : ls.length = ms.length := by omega
    refine LoopH.by (fun m s H' => ∃ i, m + i = ls.length ∧ s 0 = v ∧ s 1 = w ∧ s 5 = .int .i64 ((i : Nat) : Int) ∧ H = H' ∧ ls.take i = ms.take i) ls.length ?_ ?_
    · exact ⟨0, by simp, rfl, rfl, rfl, rfl, by simp⟩
    · rintro m s H' ⟨i, hm, h0, h1, h5, rfl, hn⟩
      simp (maxSteps := 1000000) (disch := omega) only [h0, h1, h5, hvl, S, S1, S2, S3, S4, S5, ST, eq_self, reduceIte, reduceCtorEq, Nat.reduceEqDiff, Nat.reduceAdd]
      refine brD.intro (fun g => ?_) (fun g => ?_) <;> simp (maxSteps := 1000000) (disch := omega) only [h0, h1, h5, hv.ix Try.underlying27 cs25, hv.cell, hw.ix Try.underlying27 cs25, hw.cell, Int.toNat_natCast, S, S1, S2, S3, S4, S5, ST, eq_self, reduceIte, reduceCtorEq, Nat.reduceEqDiff, Nat.reduceAdd]
      · have hi : i < ls.length := by omega
        have hg : ls.getD i [] = ls[i] := by simp [hi]
        have hg2 : ms.getD i [] = ms[i] := by simp [hl ▸ hi]
        have h1l := sizeL_take ls i hi
        have h2l := sizeL_le ls (i + 1)
        refine CallH.by (eqIntS_c _ _ _ _ H (hu i hi).1 (hwr i (by omega)).1 (by omega)) ?_
        rintro _ _ ⟨rfl, rfl⟩
        simp (maxSteps := 1000000) (disch := omega) only [S, S1, S2, S3, S4, S5, ST, eq_self, reduceIte, reduceCtorEq, Nat.reduceEqDiff, Nat.reduceAdd]
        refine brD.intro (fun e => ?_) (fun e => ?_) <;> simp (maxSteps := 1000000) (disch := omega) only [h0, h1, h5, wrap64, S, S1, S2, S3, S4, S5, ST, eq_self, reduceIte, reduceCtorEq, Nat.reduceEqDiff, Nat.reduceAdd]
        · have fx : ls.take (i + 1) = ms.take (i + 1) := by
            rw [List.take_add_one, List.take_add_one, hn, List.getElem?_eq_getElem hi, List.getElem?_eq_getElem (hl ▸ hi)]
            rw [hg, hg2] at e
            rw [e]
          refine ⟨m - 1, by omega, i + 1, ?_⟩
          (repeat' first | exact fx | apply And.intro) <;> first | (simp only [Value.int.injEq, true_and]; omega) | omega | rfl | assumption | (simp; done) | (simp; omega)
        · refine hQ _ _ _ ?_
          simp (maxSteps := 1000000) (disch := omega) only [S, S1, S2, S3, S4, S5, ST, eq_self, reduceIte, reduceCtorEq, Nat.reduceEqDiff, Nat.reduceAdd]
          have : ls ≠ ms := by
            intro e'
            subst e'
            exact e rfl
          simp [this]
      · refine hQ _ _ _ ?_
        simp (maxSteps := 1000000) (disch := omega) only [S, S1, S2, S3, S4, S5, ST, eq_self, reduceIte, reduceCtorEq, Nat.reduceEqDiff, Nat.reduceAdd]
        rw [List.take_of_length_le (by omega), List.take_of_length_le (by omega)] at hn
        simp [hn]
theorem heldIntSS_c (v : Value) (ls : List (List Int)) (k : Int) (H : AH) {b : Nat} (hr : RowLB b 25 3 H v (runL k ls)) (hlen : ls.length ≤ 1099511627776) (hsz : sizeL ls ≤ 1099511627776) (hk : 0 ≤ k ∧ k ≤ 1099511627776) :
    ACalls Try.prog 35 [v, .int .i64 k] H fun r H' => r = .int .i64 (k + sizeL ls) ∧ H = H' := by
  obtain ⟨us, hv, _, hul, hu⟩ := hr
  rw [runL_len] at hul hu
  have hvl := hv.len Try.underlying27
  rw [hul] at hvl
  refine in35 rfl ?_
  intro Q hQ
  simp (maxSteps := 1000000) (disch := omega) only [cd35, S, S1, S2, S3, S4, S5, ST, eq_self, reduceIte, reduceCtorEq, Nat.reduceEqDiff, Nat.reduceAdd]
  refine LoopH.by (fun m s H' => ∃ i, m + i = ls.length ∧ s 0 = v ∧ s 1 = .int .i64 (k + (sizeL (ls.take i) : Nat)) ∧ s 5 = .int .i64 ((i : Nat) : Int) ∧ H = H') ls.length ?_ ?_
  · exact ⟨0, by simp, rfl, by simp [S, S1, S2, S3, S4, S5, ST, eq_self, reduceIte, reduceCtorEq, Nat.reduceEqDiff, Nat.reduceAdd, sizeL], rfl, rfl⟩
  · rintro m s H' ⟨i, hm, h0, h1, h5, rfl⟩
    simp (maxSteps := 1000000) (disch := omega) only [h0, h1, h5, hvl, S, S1, S2, S3, S4, S5, ST, eq_self, reduceIte, reduceCtorEq, Nat.reduceEqDiff, Nat.reduceAdd]
    refine brD.intro (fun g => ?_) (fun g => ?_) <;> simp (maxSteps := 1000000) (disch := omega) only [h0, h1, h5, hv.ix Try.underlying27 cs25, hv.cell, Int.toNat_natCast, S, S1, S2, S3, S4, S5, ST, eq_self, reduceIte, reduceCtorEq, Nat.reduceEqDiff, Nat.reduceAdd]
    · have hi : i < ls.length := by omega
      have h1l := sizeL_take ls i hi
      have h2l := sizeL_le ls (i + 1)
      have hrow := (hu i hi).1
      rw [runL_at k ls i hi] at hrow
      refine CallH.by (heldIntS_c _ _ (k + (sizeL (ls.take i) : Nat)) H hrow (by rw [runI_len]; omega) (by omega) (by rw [runI_len])) ?_
      rintro _ _ ⟨rfl, rfl⟩
      simp (maxSteps := 1000000) (disch := omega) only [runI_len, S, S1, S2, S3, S4, S5, ST, eq_self, reduceIte, reduceCtorEq, Nat.reduceEqDiff, Nat.reduceAdd]
      refine brD.intro (fun h => absurd h (by omega)) (fun _ => ?_)
      simp (maxSteps := 1000000) (disch := omega) only [h0, h1, h5, wrap64, S, S1, S2, S3, S4, S5, ST, eq_self, reduceIte, reduceCtorEq, Nat.reduceEqDiff, Nat.reduceAdd]
      refine ⟨m - 1, by omega, i + 1, by omega, ?_⟩
      rw [h1l]
      (repeat' first | apply And.intro) <;> first | (simp only [Value.int.injEq, true_and]; omega) | omega | rfl | assumption | (simp; done) | (simp; omega)
    · refine hQ _ _ _ ?_
      simp (maxSteps := 1000000) (disch := omega) only [h1, S, S1, S2, S3, S4, S5, ST, eq_self, reduceIte, reduceCtorEq, Nat.reduceEqDiff, Nat.reduceAdd]
      have : ls.take i = ls := List.take_of_length_le (by omega)
      rw [this]
/-- the lists as far as i are marked -/
def mixL (k : Int) (ls : List (List Int)) (i : Nat) : List (List Int) := (runL k ls).take i ++ ls.drop i
theorem mixL_len (k : Int) (ls : List (List Int)) (i : Nat) : (mixL k ls i).length = ls.length := by
  unfold mixL
  simp [runL_len]; omega
theorem mixL_at (k : Int) (ls : List (List Int)) (i j : Nat) (hj : j < ls.length) : (mixL k ls i).getD j [] = if j < i then runI (k + sizeL (ls.take j)) (ls.getD j []).length else ls.getD j [] := by
  unfold mixL
  have hl : ((runL k ls).take i).length = min i ls.length := by simp [runL_len]
  by_cases h : j < i
  · rw [if_pos h, List.getD_eq_getElem?_getD, List.getElem?_append_left (by rw [hl]; omega), List.getElem?_take, if_pos h, ← List.getD_eq_getElem?_getD, runL_at k ls j hj]
  · rw [if_neg h, List.getD_eq_getElem?_getD, List.getElem?_append_right (by rw [hl]; omega), hl, List.getElem?_drop, ← List.getD_eq_getElem?_getD]
    congr 1; omega
set_option maxHeartbeats 1000000 in
theorem markIntSS_B (v : Value) (ls : List (List Int)) (k : Int) (lo hi : Nat) (H : AH) (h : InL lo hi 25 3 H v ls) (hlen : ls.length ≤ 1099511627776) (hsz : sizeL ls ≤ 1099511627776) (hk : 0 ≤ k ∧ k ≤ 1099511627776) :
    ACalls Try.prog 34 [v, .int .i64 k] H fun r H' => r = .int .i64 (k + sizeL ls) ∧ InL lo hi 25 3 H' v (runL k ls) ∧ ElseR lo hi H H' := by
  refine in34 rfl ?_
  intro Q hQ
  rcases h with ⟨rfl, rfl⟩ | ⟨o, us, rfl, hin⟩
  · simp (maxSteps := 1000000) (disch := omega) only [cd34, S, S1, S2, S3, S4, S5, ST, eq_self, reduceIte, reduceCtorEq, Nat.reduceEqDiff, Nat.reduceAdd]
    refine LoopH.by (fun m s H' => s 0 = .slice none 0 0 ∧ s 1 = .int .i64 k ∧ s 5 = .int .i64 0 ∧ H = H') 0 ?_ ?_
    · exact ⟨rfl, rfl, rfl, rfl⟩
    · rintro m s H' ⟨h0, h1, h5, rfl⟩
      simp (maxSteps := 1000000) (disch := omega) only [h0, h1, h5, S, S1, S2, S3, S4, S5, ST, eq_self, reduceIte, reduceCtorEq, Nat.reduceEqDiff, Nat.reduceAdd]
      refine brD.intro (fun g => absurd g (by decide)) (fun g => ?_)
      simp (maxSteps := 1000000) (disch := omega) only [h1, S, S1, S2, S3, S4, S5, ST, eq_self, reduceIte, reduceCtorEq, Nat.reduceEqDiff, Nat.reduceAdd]
      refine hQ _ _ _ ?_
      simp (maxSteps := 1000000) (disch := omega) only [h1, S, S1, S2, S3, S4, S5, ST, eq_self, reduceIte, reduceCtorEq, Nat.reduceEqDiff, Nat.reduceAdd]
      exact ⟨by simp [sizeL], .inl ⟨rfl, rfl⟩, ElseR.refl _ _ _⟩
  · simp (maxSteps := 1000000) (disch := omega) only [cd34, S, S1, S2, S3, S4, S5, ST, eq_self, reduceIte, reduceCtorEq, Nat.reduceEqDiff, Nat.reduceAdd]
    refine LoopH.by (fun m s H' => ∃ i, m + i = ls.length ∧ s 0 = .slice (some ⟨o, 0, none⟩) ls.length ls.length ∧ s 1 = .int .i64 (k + (sizeL (ls.take i) : Nat)) ∧ s 5 = .int .i64 ((i : Nat) : Int) ∧ InU lo hi 25 3 H' o us (mixL k ls i) ∧ ElseR lo hi H H') ls.length ?_ ?_
    · refine ⟨0, by simp, rfl, by simp [S, S1, S2, S3, S4, S5, ST, eq_self, reduceIte, reduceCtorEq, Nat.reduceEqDiff, Nat.reduceAdd, sizeL], rfl, ?_, ElseR.refl _ _ _⟩
      have : mixL k ls 0 = ls := by simp [mixL]
      rw [this]; exact hin
    · rintro m s H' ⟨i, hm, h0, h1, h5, hin', hel⟩
      have hrow := hin'.row
      rw [mixL_len] at hrow
      obtain ⟨ws, hv, _, hul, hu⟩ := hrow
      rw [mixL_len] at hul
      simp (maxSteps := 1000000) (disch := omega) only [h0, h1, h5, S, S1, S2, S3, S4, S5, ST, eq_self, reduceIte, reduceCtorEq, Nat.reduceEqDiff, Nat.reduceAdd]
      refine brD.intro (fun g => ?_) (fun g => ?_)
      · have hi' : i < ls.length := by omega
        have h1l := sizeL_take ls i hi'
        have h2l := sizeL_le ls (i + 1)
        obtain ⟨q1, q2, q3, q4, q5, q6⟩ := hin'
        rw [mixL_len] at q4 q5 q6
        have hcell : cellA H' o i = some (us.getD i undef) := by
          rw [cell_of q3, List.getD_eq_getElem?_getD, List.getElem?_eq_getElem (by omega)]; rfl
        obtain ⟨r1, r2⟩ := q5 i hi'
        rw [mixL_at k ls i i hi', if_neg (Nat.lt_irrefl _)] at r1
        simp (maxSteps := 1000000) (disch := omega) only [h0, h1, h5, hcell, Int.toNat_natCast, Nat.zero_add, S, S1, S2, S3, S4, S5, ST, eq_self, reduceIte, reduceCtorEq, Nat.reduceEqDiff, Nat.reduceAdd]
        have mk := markIntS_B (us.getD i undef) (ls.getD i []) (k + (sizeL (ls.take i) : Nat)) lo hi H' r1 (by omega) (by omega)
        have mk2 := markIntS_c (us.getD i undef) (ls.getD i []) (k + (sizeL (ls.take i) : Nat)) (List.replicate lo AObj.dead) H' (by
          rcases r1 with h | ⟨o', zs, h1, h2, h3, h4, h5⟩
          · exact .inl h
          · exact .inr ⟨o', zs, h1, by simpa using h2, h4, h5⟩) (by omega) (by omega)
        refine CallH.by mk2 ?_
        rintro _ H2 ⟨rfl, hmine, hels⟩
        simp (maxSteps := 1000000) (disch := omega) only [h0, h1, h5, wrap64, S, S1, S2, S3, S4, S5, ST, eq_self, reduceIte, reduceCtorEq, Nat.reduceEqDiff, Nat.reduceAdd]
        have keepo : H2[o]? = some (.cells us 25 false) := by
          refine hels.2 o _ ?_ q3
          rcases r2 with g | g
          · exact .inl g
          · exact .inr (fun e => g e.symm)
        have fel : ElseR lo hi H H2 := by
          refine hel.trans ⟨hels.1, fun j x hj hx => hels.2 j x ?_ hx⟩
          rcases r1.at_ with g | g
          · exact .inl g
          · exact .inr (by omega)
        have r1' : InI lo hi 3 H2 (us.getD i undef) (runI (k + (sizeL (ls.take i) : Nat)) (ls.getD i []).length) := by
          rcases r1 with ⟨g1, g2⟩ | ⟨o', zs, g1, g2, g3, g4, g5⟩
          · rw [g2]; exact .inl ⟨g1, rfl⟩
          · rcases hmine with ⟨f1, f2⟩ | ⟨o2, zs2, f1, f2, f3, f4⟩
            · rw [g1] at f1; cases f1
            · have e : o2 = o' := by
                rw [g1] at f1
                simp only [Value.slice.injEq, Option.some.injEq, Addr.mk.injEq] at f1
                exact f1.1.1.symm
              subst e
              exact .inr ⟨o2, zs2, f1, g2, g3, f3, f4⟩
        have fin : InU lo hi 25 3 H2 o us (mixL k ls (i + 1)) := by
          refine ⟨q1, q2, keepo, by rw [mixL_len]; exact q4, fun j hj => ?_, fun a b hab ha hb => q6 a b hab (by rw [mixL_len] at ha; exact ha) (by rw [mixL_len] at hb; exact hb)⟩
          rw [mixL_len] at hj
          obtain ⟨w1, w2⟩ := q5 j hj
          refine ⟨?_, w2⟩
          rw [mixL_at k ls i j hj] at w1
          rw [mixL_at k ls (i + 1) j hj]
          by_cases e : j = i
          · subst e; rw [if_pos (by omega)]; exact r1'
          · have : (if j < i then runI (k + sizeL (ls.take j)) (ls.getD j []).length else ls.getD j []) = (if j < i + 1 then runI (k + sizeL (ls.take j)) (ls.getD j []).length else ls.getD j []) := by
              by_cases c : j < i
              · rw [if_pos c, if_pos (by omega)]
              · rw [if_neg c, if_neg (by omega)]
            rw [← this]
            refine w1.move fun y hn hy => hels.2 _ _ ?_ hy
            rcases q6 j i e hj hi' with g | g | g
            · exact .inl g
            · exact absurd g hn
            · exact .inr g
        refine ⟨m - 1, by omega, i + 1, by omega, ?_⟩
        rw [h1l]
        (repeat' first | exact fin | exact fel | apply And.intro) <;> first | (simp only [Value.int.injEq, true_and]; omega) | omega | rfl | assumption | (simp; done) | (simp; omega)
      · simp (maxSteps := 1000000) (disch := omega) only [h1, S, S1, S2, S3, S4, S5, ST, eq_self, reduceIte, reduceCtorEq, Nat.reduceEqDiff, Nat.reduceAdd]
        refine hQ _ _ _ ?_
        simp (maxSteps := 1000000) (disch := omega) only [h1, S, S1, S2, S3, S4, S5, ST, eq_self, reduceIte, reduceCtorEq, Nat.reduceEqDiff, Nat.reduceAdd]
        have e1 : ls.take i = ls := List.take_of_length_le (by omega)
        have e2 : mixL k ls i = runL k ls := by
          unfold mixL
          rw [List.take_of_length_le (by rw [runL_len]; omega), List.drop_of_length_le (by omega), List.append_nil]
        rw [e2] at hin'
        rw [e1]
        exact ⟨rfl, by have := hin'.inl; rw [runL_len] at this; exact .inr ⟨o, us, by rw [runL_len], hin'⟩, hel⟩
end Go.Proofs.Ytlcipphiflcaiaa.Ai
namespace Go.Proofs.Ytlcipphiflcaiaa.Ai
open Go
def ords9 : List (Nat × List (Nat × Bool)) := []
def cd9 : Cd := (.seq (.reg [⟨⟨some 2, Op.box 29 (Operand.tmp 0), none⟩, []⟩,
  ⟨⟨some 3, Op.box 29 (Operand.tmp 1), none⟩, []⟩,
  ⟨⟨some 4, Op.assign (Operand.const (Value.bool false)), none⟩, []⟩]) (.seq (.seq (.reg [⟨⟨some 5, Op.fieldAddr 29 (Operand.tmp 2) 0, none⟩, []⟩,
  ⟨⟨some 6, Op.load 27 (Operand.tmp 5), none⟩, []⟩,
  ⟨⟨some 7, Op.fieldAddr 29 (Operand.tmp 3) 0, none⟩, []⟩,
  ⟨⟨some 8, Op.load 27 (Operand.tmp 7), none⟩, []⟩,
  ⟨⟨some 9, Op.call { callee := (Callee.value (Operand.func 31)), args := #[(Operand.tmp 6), (Operand.tmp 8)], argTypes := #[27, 27] }, none⟩, []⟩,
  ⟨⟨some 10, Op.unOp UnOp.not 4 (Operand.tmp 9), none⟩, []⟩]) (.cond (Operand.tmp 10) (.seq (.reg [⟨⟨some 4, Op.assign (Operand.const (Value.bool false)), none⟩, []⟩]) .ret) .skip)) (.seq (.seq (.reg [⟨⟨some 11, Op.fieldAddr 29 (Operand.tmp 2) 1, none⟩, []⟩,
  ⟨⟨some 12, Op.load 22 (Operand.tmp 11), none⟩, []⟩,
  ⟨⟨some 13, Op.fieldAddr 29 (Operand.tmp 3) 1, none⟩, []⟩,
  ⟨⟨some 14, Op.load 22 (Operand.tmp 13), none⟩, []⟩,
  ⟨⟨some 15, Op.call { callee := (Callee.value (Operand.func 32)), args := #[(Operand.tmp 12), (Operand.tmp 14)], argTypes := #[22, 22] }, none⟩, []⟩,
  ⟨⟨some 16, Op.unOp UnOp.not 4 (Operand.tmp 15), none⟩, []⟩]) (.cond (Operand.tmp 16) (.seq (.reg [⟨⟨some 4, Op.assign (Operand.const (Value.bool false)), none⟩, []⟩]) .ret) .skip)) (.seq (.reg [⟨⟨some 4, Op.assign (Operand.const (Value.bool true)), none⟩, []⟩]) .ret))))
theorem sl9 : slim Try.f9.ntmps ords9 (Try.f9.body.getD .skip) = some cd9 := by kernel_rfl
theorem in9 {args : List Value} {H : AH} {R : Value → AH → Prop} (hl : args.length = 2) (h : ∀ (Q : Exit → Sl → AH → Prop), (∀ e s H, endA Try.prog [ResultVar.tmp 4] R e s H → Q e s H) → wpC Try.prog cd9 Q (enterA args) H) : ACalls Try.prog 9 args H R :=
  ACalls.intro (by kernel_rfl) Try.func9 rfl (by kernel_rfl) sl9 hl (of_decide_eq_true (by kernel_rfl)) (by kernel_rfl) h
def ords14 : List (Nat × List (Nat × Bool)) := []
def cd14 : Cd := (.seq (.reg [⟨⟨some 2, Op.box 29 (Operand.tmp 0), none⟩, []⟩,
  ⟨⟨some 4, Op.assign (Operand.const (Value.int IntKind.i64 0)), none⟩, []⟩]) (.seq (.reg [⟨⟨some 5, Op.fieldAddr 29 (Operand.tmp 2) 0, none⟩, []⟩,
  ⟨⟨some 6, Op.load 27 (Operand.tmp 5), none⟩, []⟩,
  ⟨⟨some 7, Op.move (Operand.tmp 1), none⟩, []⟩,
  ⟨⟨some 8, Op.call { callee := (Callee.value (Operand.func 34)), args := #[(Operand.tmp 6), (Operand.tmp 7)], argTypes := #[27, 3] }, none⟩, []⟩,
  ⟨⟨some 1, Op.assign (Operand.tmp 8), none⟩, []⟩]) (.seq (.reg [⟨⟨some 9, Op.fieldAddr 29 (Operand.tmp 2) 1, none⟩, []⟩,
  ⟨⟨some 10, Op.load 22 (Operand.tmp 9), none⟩, []⟩,
  ⟨⟨some 11, Op.move (Operand.tmp 1), none⟩, []⟩,
  ⟨⟨some 12, Op.call { callee := (Callee.value (Operand.func 33)), args := #[(Operand.tmp 10), (Operand.tmp 11)], argTypes := #[22, 3] }, none⟩, []⟩,
  ⟨⟨some 1, Op.assign (Operand.tmp 12), none⟩, []⟩]) (.seq (.reg [⟨⟨some 13, Op.move (Operand.tmp 1), none⟩, []⟩,
  ⟨⟨some 4, Op.assign (Operand.tmp 13), none⟩, []⟩]) .ret))))
theorem sl14 : slim Try.f14.ntmps ords14 (Try.f14.body.getD .skip) = some cd14 := by kernel_rfl
theorem in14 {args : List Value} {H : AH} {R : Value → AH → Prop} (hl : args.length = 2) (h : ∀ (Q : Exit → Sl → AH → Prop), (∀ e s H, endA Try.prog [ResultVar.tmp 4] R e s H → Q e s H) → wpC Try.prog cd14 Q (enterA args) H) : ACalls Try.prog 14 args H R :=
  ACalls.intro (by kernel_rfl) Try.func14 rfl (by kernel_rfl) sl14 hl (of_decide_eq_true (by kernel_rfl)) (by kernel_rfl) h
def ords15 : List (Nat × List (Nat × Bool)) := []
def cd15 : Cd := (.seq (.reg [⟨⟨some 2, Op.box 29 (Operand.tmp 0), none⟩, []⟩,
  ⟨⟨some 4, Op.assign (Operand.const (Value.int IntKind.i64 0)), none⟩, []⟩]) (.seq (.reg [⟨⟨some 5, Op.fieldAddr 29 (Operand.tmp 2) 0, none⟩, []⟩,
  ⟨⟨some 6, Op.load 27 (Operand.tmp 5), none⟩, []⟩,
  ⟨⟨some 7, Op.move (Operand.tmp 1), none⟩, []⟩,
  ⟨⟨some 8, Op.call { callee := (Callee.value (Operand.func 35)), args := #[(Operand.tmp 6), (Operand.tmp 7)], argTypes := #[27, 3] }, none⟩, []⟩,
  ⟨⟨some 1, Op.assign (Operand.tmp 8), none⟩, []⟩]) (.seq (.seq (.reg [⟨⟨some 9, Op.move (Operand.tmp 1), none⟩, []⟩,
  ⟨⟨some 10, Op.binOp BinOp.lss 3 (Operand.tmp 9) (Operand.const (Value.int IntKind.i64 0)) 3, none⟩, []⟩]) (.cond (Operand.tmp 10) (.seq (.reg [⟨⟨some 4, Op.assign (Operand.const (Value.int IntKind.i64 (-1))), none⟩, []⟩]) .ret) .skip)) (.seq (.reg [⟨⟨some 11, Op.fieldAddr 29 (Operand.tmp 2) 1, none⟩, []⟩,
  ⟨⟨some 12, Op.load 22 (Operand.tmp 11), none⟩, []⟩,
  ⟨⟨some 13, Op.move (Operand.tmp 1), none⟩, []⟩,
  ⟨⟨some 14, Op.call { callee := (Callee.value (Operand.func 36)), args := #[(Operand.tmp 12), (Operand.tmp 13)], argTypes := #[22, 3] }, none⟩, []⟩,
  ⟨⟨some 1, Op.assign (Operand.tmp 14), none⟩, []⟩]) (.seq (.seq (.reg [⟨⟨some 15, Op.move (Operand.tmp 1), none⟩, []⟩,
  ⟨⟨some 16, Op.binOp BinOp.lss 3 (Operand.tmp 15) (Operand.const (Value.int IntKind.i64 0)) 3, none⟩, []⟩]) (.cond (Operand.tmp 16) (.seq (.reg [⟨⟨some 4, Op.assign (Operand.const (Value.int IntKind.i64 (-1))), none⟩, []⟩]) .ret) .skip)) (.seq (.reg [⟨⟨some 17, Op.move (Operand.tmp 1), none⟩, []⟩,
  ⟨⟨some 4, Op.assign (Operand.tmp 17), none⟩, []⟩]) .ret))))))
theorem sl15 : slim Try.f15.ntmps ords15 (Try.f15.body.getD .skip) = some cd15 := by kernel_rfl
theorem in15 {args : List Value} {H : AH} {R : Value → AH → Prop} (hl : args.length = 2) (h : ∀ (Q : Exit → Sl → AH → Prop), (∀ e s H, endA Try.prog [ResultVar.tmp 4] R e s H → Q e s H) → wpC Try.prog cd15 Q (enterA args) H) : ACalls Try.prog 15 args H R :=
  ACalls.intro (by kernel_rfl) Try.func15 rfl (by kernel_rfl) sl15 hl (of_decide_eq_true (by kernel_rfl)) (by kernel_rfl) h
end Go.Proofs.Ytlcipphiflcaiaa.Ai
namespace Go.Proofs.Ytlcipphiflcaiaa.Ai
open Go Go.RowKit
set_option linter.unusedVariables false
set_option linter.unusedSimpArgs false
/-- a space's two lists in memory -/
def SpRow (H : AH) (a b : Value) (ls : List (List Int)) (ps : List (Int × Int)) : Prop := (∃ bd, RowLB bd 25 3 H a ls) ∧ RowP 65 H b ps
/-- .. of one's own: the states below mid, the steps from mid on -/
def SpIn (lo hi : Nat) (H : AH) (a b : Value) (ls : List (List Int)) (ps : List (Int × Int)) : Prop := ∃ mid, lo ≤ mid ∧ mid ≤ hi ∧ InL lo mid 25 3 H a ls ∧ InP mid hi 65 H b ps
theorem SpIn.row {lo hi : Nat} {H : AH} {a b : Value} {ls : List (List Int)} {ps : List (Int × Int)} (h : SpIn lo hi H a b ls ps) : SpRow H a b ls ps := by
  obtain ⟨mid, h1, h2, h3, h4⟩ := h
  exact ⟨⟨_, h3.row⟩, h4.row.1⟩
theorem SpIn.pre {lo hi : Nat} {H H' : AH} {a b : Value} {ls : List (List Int)} {ps : List (Int × Int)} (h : SpIn lo hi H a b ls ps) (hp : H <+: H') : SpIn lo hi H' a b ls ps := by
  obtain ⟨mid, h1, h2, h3, h4⟩ := h
  exact ⟨mid, h1, h2, h3.pre hp, h4.pre hp⟩
theorem SpIn.keep {lo hi lo' hi' : Nat} {H H' : AH} {a b : Value} {ls : List (List Int)} {ps : List (Int × Int)} (h : SpIn lo hi H a b ls ps) (he : ElseR lo' hi' H H') (hl : hi ≤ lo' ∨ hi' ≤ lo) : SpIn lo hi H' a b ls ps := by
  obtain ⟨mid, h1, h2, h3, h4⟩ := h
  exact ⟨mid, h1, h2, h3.keep he (by omega), h4.keep he (by omega)⟩
theorem SpRow.pre {H H' : AH} {a b : Value} {ls : List (List Int)} {ps : List (Int × Int)} (h : SpRow H a b ls ps) (hp : H <+: H') : SpRow H' a b ls ps := ⟨h.1.imp fun _ q => q.pre hp, h.2.pre hp⟩
theorem SpRow.shape {H : AH} {a b : Value} {ls : List (List Int)} {ps : List (Int × Int)} (h : SpRow H a b ls ps) : (∃ p n c, a = .slice p n c) ∧ ∃ p n c, b = .slice p n c := by
  obtain ⟨⟨bd, us, h1, _⟩, h2⟩ := h
  obtain ⟨p, e⟩ := h1.shape
  obtain ⟨q, e2⟩ := h2.shape
  exact ⟨⟨_, _, _, e⟩, ⟨_, _, _, e2⟩⟩
theorem SpRow.box {H G : AH} {a b : Value} {ls : List (List Int)} {ps : List (Int × Int)} (h : SpRow G a b ls ps) : boxA Try.prog 29 (.agg (List.toArray [a, b])) H = some (.pointer (some ⟨H.length, 0, none⟩), H ++ [.cells [a, b] 29 false]) := by
  obtain ⟨⟨p, n, c, rfl⟩, ⟨q, m, d, rfl⟩⟩ := h.shape
  kernel_rfl
theorem SpRow.store {e : TypeId} {H G : AH} {o : Nat} {vs : List Value} {a b : Value} {ls : List (List Int)} {ps : List (Int × Int)} (h : SpRow G a b ls ps) (ho : H[o]? = some (.cells vs e false)) (hv : vs.length = 2) :
    storeA Try.prog 29 (.pointer (some ⟨o, 0, none⟩)) (.agg (List.toArray [a, b])) H = some (H.set o (.cells [a, b] e false)) := by
  obtain ⟨⟨p, n, c, rfl⟩, ⟨q, m, d, rfl⟩⟩ := h.shape
  exact st_ss ho hv p q n c m d
theorem eqSpace_c (a b c d : Value) (ls ms : List (List Int)) (ps qs : List (Int × Int)) (H : AH) (hr : SpRow H a b ls ps) (hr2 : SpRow H c d ms qs) (hl : ls.length ≤ 1099511627776) (hs : sizeL ls ≤ 1099511627776) (hp : ps.length ≤ 1099511627776) :
    ACalls Try.prog 9 [.agg (List.toArray [a, b]), .agg (List.toArray [c, d])] H fun r H' => r = .bool (decide (ls = ms ∧ ps = qs)) ∧ H <+: H' := by
  refine in9 rfl ?_
  intro Q hQ
  simp (maxSteps := 1000000) (disch := omega) only [cd9, hr.box, hr2.box, S, S1, S2, S3, S4, S5, ST, eq_self, reduceIte, reduceCtorEq, Nat.reduceEqDiff, Nat.reduceAdd]
  generalize hA : H ++ [AObj.cells [a, b] 29 false] = A
  have pA : H <+: A := by rw [← hA]; exact List.prefix_append _ _
  have a0 : A[H.length]? = some (.cells [a, b] 29 false) := by rw [← hA]; exact at_new ..
  generalize hB : A ++ [AObj.cells [c, d] 29 false] = B
  have pB : A <+: B := by rw [← hB]; exact List.prefix_append _ _
  have b0 := pre_at pB a0
  have b1 : B[A.length]? = some (.cells [c, d] 29 false) := by rw [← hB]; exact at_new ..
  have pHB := pA.trans pB
  obtain ⟨⟨bd, r1⟩, r2⟩ := hr.pre pHB
  obtain ⟨⟨bd2, r3⟩, r4⟩ := hr2.pre pHB
  simp (maxSteps := 1000000) (disch := omega) only [cell_of b0, cell_of b1, S, S1, S2, S3, S4, S5, ST, eq_self, reduceIte, reduceCtorEq, Nat.reduceEqDiff, Nat.reduceAdd]
  refine CallH.by (eqIntSS_c a c ls ms B r1 r3 hl hs) ?_
  rintro _ _ ⟨rfl, rfl⟩
  simp (maxSteps := 1000000) (disch := omega) only [S, S1, S2, S3, S4, S5, ST, eq_self, reduceIte, reduceCtorEq, Nat.reduceEqDiff, Nat.reduceAdd]
  refine brD.intro (fun g => ?_) (fun g => ?_) <;> simp (maxSteps := 1000000) (disch := omega) only [g, cell_of b0, cell_of b1, S, S1, S2, S3, S4, S5, ST, eq_self, reduceIte, reduceCtorEq, Nat.reduceEqDiff, Nat.reduceAdd]
  · refine CallH.by (eqIntA2S_c b d ps qs B r2 r4 hp) ?_
    rintro _ C ⟨rfl, pC⟩
    have pHC := pHB.trans pC
    simp (maxSteps := 1000000) (disch := omega) only [S, S1, S2, S3, S4, S5, ST, eq_self, reduceIte, reduceCtorEq, Nat.reduceEqDiff, Nat.reduceAdd]
    refine brD.intro (fun e => ?_) (fun e => ?_) <;> simp (maxSteps := 1000000) (disch := omega) only [e, S, S1, S2, S3, S4, S5, ST, eq_self, reduceIte, reduceCtorEq, Nat.reduceEqDiff, Nat.reduceAdd]
    · refine hQ _ _ _ ?_
      simp (maxSteps := 1000000) (disch := omega) only [S, S1, S2, S3, S4, S5, ST, eq_self, reduceIte, reduceCtorEq, Nat.reduceEqDiff, Nat.reduceAdd]
      exact ⟨by rw [decide_eq_true ⟨g, e⟩], pHC⟩
    · refine hQ _ _ _ ?_
      simp (maxSteps := 1000000) (disch := omega) only [S, S1, S2, S3, S4, S5, ST, eq_self, reduceIte, reduceCtorEq, Nat.reduceEqDiff, Nat.reduceAdd]
      exact ⟨by rw [decide_eq_false (fun h => e h.2)], pHC⟩
  · refine hQ _ _ _ ?_
    simp (maxSteps := 1000000) (disch := omega) only [S, S1, S2, S3, S4, S5, ST, eq_self, reduceIte, reduceCtorEq, Nat.reduceEqDiff, Nat.reduceAdd]
    exact ⟨by rw [decide_eq_false (fun h => g h.1)], pHB⟩
theorem markSpace_B (a b : Value) (ls : List (List Int)) (ps : List (Int × Int)) (k : Int) (lo hi : Nat) (H : AH) (h : SpIn lo hi H a b ls ps) (hl : ls.length ≤ 1099511627776) (hs : sizeL ls ≤ 549755813888) (hp : ps.length ≤ 1099511627776) (hk : 0 ≤ k ∧ k ≤ 1000000) (hb : hi ≤ H.length) :
    ACalls Try.prog 14 [.agg (List.toArray [a, b]), .int .i64 k] H fun r H' => r = .int .i64 (k + sizeL ls + 2 * ps.length) ∧ ∃ Hm, SpIn lo hi Hm a b (runL k ls) (runP (k + sizeL ls) ps.length) ∧ ElseR lo hi H Hm ∧ Hm <+: H' := by
  refine in14 rfl ?_
  intro Q hQ
  have hrow := h.row
  simp (maxSteps := 1000000) (disch := omega) only [cd14, hrow.box, cell_new, S, S1, S2, S3, S4, S5, ST, eq_self, reduceIte, reduceCtorEq, Nat.reduceEqDiff, Nat.reduceAdd]
  generalize hA : H ++ [AObj.cells [a, b] 29 false] = A
  have pA : H <+: A := by rw [← hA]; exact List.prefix_append _ _
  have cA : A[H.length]? = some (.cells [a, b] 29 false) := by rw [← hA]; exact at_new ..
  have lA : A.length = H.length + 1 := by rw [← hA]; simp
  obtain ⟨mid, m1, m2, m3, m4⟩ := h.pre pA
  refine CallH.by (markIntSS_B a ls k lo mid A m3 hl (by omega) (by omega)) ?_
  rintro _ B ⟨rfl, m5, e1⟩
  have m6 := m4.keep e1 (.inr (Nat.le_refl _))
  have cB := e1.2 _ _ (.inr (by omega)) cA
  simp (maxSteps := 1000000) (disch := omega) only [cell_of cB, S, S1, S2, S3, S4, S5, ST, eq_self, reduceIte, reduceCtorEq, Nat.reduceEqDiff, Nat.reduceAdd]
  refine CallH.by (markIntA2S_B b ps (k + sizeL ls) mid hi B m6 hp (by omega)) ?_
  rintro _ C ⟨rfl, m7, e2⟩
  have m8 := m5.keep e2 (.inl (Nat.le_refl _))
  simp (maxSteps := 1000000) (disch := omega) only [S, S1, S2, S3, S4, S5, ST, eq_self, reduceIte, reduceCtorEq, Nat.reduceEqDiff, Nat.reduceAdd]
  refine hQ _ _ _ ?_
  simp (maxSteps := 1000000) (disch := omega) only [S, S1, S2, S3, S4, S5, ST, eq_self, reduceIte, reduceCtorEq, Nat.reduceEqDiff, Nat.reduceAdd]
  have eAll : ElseR lo hi A C := ⟨e2.1.trans e1.1, fun o x ho hx => e2.2 o x (by omega) (e1.2 o x (by omega) hx)⟩
  have hC : ∀ o, o < H.length → (C.take H.length)[o]? = C[o]? := fun o ho => List.getElem?_take_of_lt ho
  refine ⟨C.take H.length, ⟨mid, m1, m2, ?_, ?_⟩, ⟨?_, ?_⟩, List.take_prefix _ _⟩
  · rcases m8 with q | ⟨o, us, q1, q2⟩
    · exact .inl q
    · exact .inr ⟨o, us, q1, q2.move fun j y hj1 hj2 hy => by rw [hC j (by omega)]; exact hy⟩
  · rcases m7 with q | ⟨o, zs, q1, q2, q3, q4, q5⟩
    · exact .inl q
    · exact .inr ⟨o, zs, q1, q2, q3, by rw [hC o (by omega)]; exact q4, q5⟩
  · have := eAll.1
    rw [List.length_take]; omega
  · intro o x ho hx
    rw [hC o (at_lt hx)]
    exact eAll.2 o x ho (pre_at pA hx)
theorem heldSpace_c (a b : Value) (ls : List (List Int)) (n : Nat) (k : Int) (H : AH) (h : SpRow H a b (runL k ls) (runP (k + sizeL ls) n)) (hl : ls.length ≤ 1099511627776) (hs : sizeL ls ≤ 549755813888) (hn : n ≤ 1099511627776) (hk : 0 ≤ k ∧ k ≤ 1000000) :
    ACalls Try.prog 15 [.agg (List.toArray [a, b]), .int .i64 k] H fun r H' => r = .int .i64 (k + sizeL ls + 2 * n) ∧ H <+: H' := by
  refine in15 rfl ?_
  intro Q hQ
  simp (maxSteps := 1000000) (disch := omega) only [cd15, h.box, cell_new, S, S1, S2, S3, S4, S5, ST, eq_self, reduceIte, reduceCtorEq, Nat.reduceEqDiff, Nat.reduceAdd]
  generalize hA : H ++ [AObj.cells [a, b] 29 false] = A
  have pA : H <+: A := by rw [← hA]; exact List.prefix_append _ _
  have cA : A[H.length]? = some (.cells [a, b] 29 false) := by rw [← hA]; exact at_new ..
  obtain ⟨⟨bd, r1⟩, r2⟩ := h.pre pA
  refine CallH.by (heldIntSS_c a ls k A r1 hl (by omega) (by omega)) ?_
  rintro _ _ ⟨rfl, rfl⟩
  simp (maxSteps := 1000000) (disch := omega) only [S, S1, S2, S3, S4, S5, ST, eq_self, reduceIte, reduceCtorEq, Nat.reduceEqDiff, Nat.reduceAdd]
  refine brD.intro (fun g => absurd g (by omega)) (fun g => ?_)
  simp (maxSteps := 1000000) (disch := omega) only [cell_of cA, S, S1, S2, S3, S4, S5, ST, eq_self, reduceIte, reduceCtorEq, Nat.reduceEqDiff, Nat.reduceAdd]
  refine CallH.by (heldIntA2S_c b n (k + sizeL ls) A r2 hn (by omega)) ?_
  rintro _ _ ⟨rfl, rfl⟩
  simp (maxSteps := 1000000) (disch := omega) only [S, S1, S2, S3, S4, S5, ST, eq_self, reduceIte, reduceCtorEq, Nat.reduceEqDiff, Nat.reduceAdd]
  refine brD.intro (fun g => absurd g (by omega)) (fun g => ?_)
  simp (maxSteps := 1000000) (disch := omega) only [S, S1, S2, S3, S4, S5, ST, eq_self, reduceIte, reduceCtorEq, Nat.reduceEqDiff, Nat.reduceAdd]
  refine hQ _ _ _ ?_
  simp (maxSteps := 1000000) (disch := omega) only [S, S1, S2, S3, S4, S5, ST, eq_self, reduceIte, reduceCtorEq, Nat.reduceEqDiff, Nat.reduceAdd]
  exact pA
end Go.Proofs.Ytlcipphiflcaiaa.Ai
namespace Go.Proofs.Ytlcipphiflcaiaa.Ai
open Go Go.RowKit
set_option linter.unusedVariables false
set_option linter.unusedSimpArgs false
/-- the places that steps join with one -/
def nbS (ps : List (Int × Int)) (x : Int) : List Int := (ps.filter fun e => decide (e.2 = x)).map (·.1) ++ (ps.filter fun e => decide (e.1 = x)).map (·.2)
theorem nbS_mem (ps : List (Int × Int)) (x y : Int) : y ∈ nbS ps x ↔ (y, x) ∈ ps ∨ (x, y) ∈ ps := by
  unfold nbS
  simp only [List.mem_append, List.mem_map, List.mem_filter, decide_eq_true_eq]
  constructor
  · rintro (⟨e, ⟨h1, h2⟩, rfl⟩ | ⟨e, ⟨h1, h2⟩, rfl⟩)
    · left; rw [← h2]; exact h1
    · right; rw [← h2]; exact h1
  · rintro (h | h)
    · exact .inl ⟨_, ⟨h, rfl⟩, rfl⟩
    · exact .inr ⟨_, ⟨h, rfl⟩, rfl⟩
/-- steps between n places, in order -/
structure StpOk (n : Nat) (ps : List (Int × Int)) : Prop where
  rng : ∀ e ∈ ps, 0 ≤ e.1 ∧ e.1 < e.2 ∧ e.2 < n
  srt : ps.Pairwise pairLt
theorem nbS_asc {n : Nat} {ps : List (Int × Int)} (h : StpOk n ps) (x : Int) : (nbS ps x).Pairwise (· < ·) := by
  unfold nbS
  rw [List.pairwise_append]
  refine ⟨?_, ?_, ?_⟩
  · rw [List.pairwise_map]
    refine List.Pairwise.imp_of_mem ?_ (h.srt.filter _)
    intro a b ha hb hab
    have h1 := (List.mem_filter.1 ha).2
    have h2 := (List.mem_filter.1 hb).2
    simp only [decide_eq_true_eq] at h1 h2
    unfold pairLt at hab; omega
  · rw [List.pairwise_map]
    refine List.Pairwise.imp_of_mem ?_ (h.srt.filter _)
    intro a b ha hb hab
    have h1 := (List.mem_filter.1 ha).2
    have h2 := (List.mem_filter.1 hb).2
    simp only [decide_eq_true_eq] at h1 h2
    unfold pairLt at hab; omega
  · intro y hy z hz
    obtain ⟨a, ha, rfl⟩ := List.mem_map.1 hy
    obtain ⟨b, hb, rfl⟩ := List.mem_map.1 hz
    have h1 := List.mem_filter.1 ha
    have h2 := List.mem_filter.1 hb
    have h3 := h1.2
    have h4 := h2.2
    simp only [decide_eq_true_eq] at h3 h4
    have := h.rng a h1.1
    have := h.rng b h2.1
    omega
theorem nbS_rng {n : Nat} {ps : List (Int × Int)} (h : StpOk n ps) {x y : Int} (hy : y ∈ nbS ps x) : 0 ≤ y ∧ y < n := by
  rcases (nbS_mem ps x y).1 hy with q | q
  · have := h.rng _ q; simp only at this; omega
  · have := h.rng _ q; simp only at this; omega
theorem StpOk.take {n : Nat} {ps : List (Int × Int)} (h : StpOk n ps) (i : Nat) : StpOk n (ps.take i) := ⟨fun e he => h.rng e (List.mem_of_mem_take he), h.srt.sublist (List.take_sublist _ _)⟩
end Go.Proofs.Ytlcipphiflcaiaa.Ai
namespace Go.Proofs.Ytlcipphiflcaiaa.Ai
open Go
set_option linter.unusedVariables false
theorem stpI_mem {p : List Int → List Int → Bool} {ls : List (List Int)} {i : Nat} {e : Int × Int} : ∀ k, e ∈ stpI p ls i k ↔ e.1 = i ∧ ((i : Int) < e.2 ∧ e.2 < i + 1 + k) ∧ p (ls.getD i []) (ls.getD e.2.toNat []) = true
  | 0 => by simp [stpI]; omega
  | k + 1 => by
    rw [stpI, List.mem_append, stpI_mem k]
    constructor
    · rintro (⟨h1, h2, h3⟩ | h)
      · exact ⟨h1, by omega, h3⟩
      · split at h
        · rename_i hp
          rw [List.mem_singleton] at h
          subst h
          exact ⟨rfl, by simp only; omega, by rw [Int.toNat_natCast]; exact hp⟩
        · simp at h
    · rintro ⟨h1, h2, h3⟩
      by_cases q : e.2 = ((i + 1 + k : Nat) : Int)
      · right
        rw [q, Int.toNat_natCast] at h3
        rw [if_pos h3, List.mem_singleton]
        exact Prod.ext h1 q
      · exact .inl ⟨h1, by omega, h3⟩
theorem stpI_srt (p : List Int → List Int → Bool) (ls : List (List Int)) (i : Nat) : ∀ k, (stpI p ls i k).Pairwise pairLt
  | 0 => .nil
  | k + 1 => by
    rw [stpI, List.pairwise_append]
    refine ⟨stpI_srt p ls i k, by split <;> simp, fun a ha b hb => ?_⟩
    have h1 := (stpI_mem k).1 ha
    split at hb
    · rw [List.mem_singleton] at hb
      subst hb
      unfold pairLt; simp only; omega
    · simp at hb
theorem stpO_mem {p : List Int → List Int → Bool} {ls : List (List Int)} {e : Int × Int} : ∀ i, i ≤ ls.length → (e ∈ stpO p ls i ↔ (0 ≤ e.1 ∧ e.1 < i) ∧ (e.1 < e.2 ∧ e.2 < ls.length) ∧ p (ls.getD e.1.toNat []) (ls.getD e.2.toNat []) = true)
  | 0, _ => by simp [stpO]; omega
  | i + 1, hi => by
    rw [stpO, List.mem_append, stpO_mem i (by omega), stpI_mem]
    constructor
    · rintro (⟨h1, h2, h3⟩ | ⟨h1, h2, h3⟩)
      · exact ⟨by omega, h2, h3⟩
      · refine ⟨by omega, by omega, ?_⟩
        rw [h1, Int.toNat_natCast]; exact h3
    · rintro ⟨h1, h2, h3⟩
      by_cases q : e.1 = i
      · right
        rw [q, Int.toNat_natCast] at h3
        exact ⟨q, by omega, h3⟩
      · exact .inl ⟨by omega, h2, h3⟩
theorem stpO_srt (p : List Int → List Int → Bool) (ls : List (List Int)) : ∀ i, i ≤ ls.length → (stpO p ls i).Pairwise pairLt
  | 0, _ => .nil
  | i + 1, hi => by
    rw [stpO, List.pairwise_append]
    refine ⟨stpO_srt p ls i (by omega), stpI_srt p ls i _, fun a ha b hb => ?_⟩
    have h1 := (stpO_mem i (by omega)).1 ha
    have h2 := (stpI_mem _).1 hb
    unfold pairLt; omega
theorem steps_ok (p : List Int → List Int → Bool) (ls : List (List Int)) : StpOk ls.length (steps p ls) :=
  ⟨fun e he => by have := (stpO_mem _ (Nat.le_refl _)).1 he; omega, stpO_srt p ls _ (Nat.le_refl _)⟩
theorem steps_nb (p : List Int → List Int → Bool) (ls : List (List Int)) {x y : Nat} (hx : x < ls.length) (hy : y < ls.length) : (y : Int) ∈ nbS (steps p ls) x ↔ (y < x ∧ p (ls.getD y []) (ls.getD x []) = true) ∨ (x < y ∧ p (ls.getD x []) (ls.getD y []) = true) := by
  rw [nbS_mem, stpO_mem _ (Nat.le_refl _), stpO_mem _ (Nat.le_refl _)]
  simp only [Int.toNat_natCast]
  constructor
  · rintro (⟨h1, h2, h3⟩ | ⟨h1, h2, h3⟩)
    · exact .inl ⟨by omega, h3⟩
    · exact .inr ⟨by omega, h3⟩
  · rintro (⟨h1, h2⟩ | ⟨h1, h2⟩)
    · exact .inl ⟨by omega, by omega, h2⟩
    · exact .inr ⟨by omega, by omega, h2⟩
/-- how many are joined with one -/
theorem nbS_cnt (p : List Int → List Int → Bool) (ls : List (List Int)) (x : Nat) : (nbS (steps p ls) x).length ≤ ls.countP fun m => p m (ls.getD x []) || p (ls.getD x []) m := by
  have hok := steps_ok p ls
  have hasc := nbS_asc hok (x : Int)
  have hm : (nbS (steps p ls) x).map (fun z => z.toNat) = ((List.range ls.length).filter fun y : Nat => decide ((y : Int) ∈ nbS (steps p ls) x)) := by
    have hs : ((nbS (steps p ls) x).map (fun z => z.toNat)).Pairwise (· < ·) := by
      rw [List.pairwise_map]
      refine List.Pairwise.imp_of_mem ?_ hasc
      intro a b ha hb hab
      have := nbS_rng hok ha; omega
    have hs2 := (List.pairwise_lt_range (n := ls.length)).filter (fun y : Nat => decide ((y : Int) ∈ nbS (steps p ls) x))
    refine List.Perm.eq_of_pairwise (le := (· < ·)) (fun a b _ _ h3 h4 => by omega) hs hs2 ?_
    rw [List.perm_ext_iff_of_nodup (hs.imp fun h => by omega) (hs2.imp fun h => by omega)]
    intro y
    simp only [List.mem_map, List.mem_filter, List.mem_range, decide_eq_true_eq]
    constructor
    · rintro ⟨z, hz, rfl⟩
      have := nbS_rng hok hz
      refine ⟨by omega, ?_⟩
      rw [Int.toNat_of_nonneg this.1]; exact hz
    · rintro ⟨_, h⟩
      exact ⟨_, h, by simp⟩
  have hl := congrArg List.length hm
  rw [List.length_map] at hl
  rw [hl]
  by_cases hx : x < ls.length
  · have e1 : ls = (List.range ls.length).map fun i => ls.getD i [] := by
      refine List.ext_getElem (by simp) fun i h1 h2 => ?_
      simp [h1]
    conv => rhs; rw [e1]
    rw [List.countP_map, ← List.countP_eq_length_filter]
    refine List.countP_mono_left fun y hy hd => ?_
    have hyl := List.mem_range.1 hy
    have := (steps_nb p ls hx hyl).1 (of_decide_eq_true hd)
    have e2 : ((List.range ls.length).map fun i => ls.getD i []).getD x [] = ls.getD x [] := by rw [← e1]
    simp only [Function.comp_apply, e2, Bool.or_eq_true]
    rcases this with h | h
    · exact .inl h.2
    · exact .inr h.2
  · have : ((List.range ls.length).filter fun y : Nat => decide ((y : Int) ∈ nbS (steps p ls) x)) = [] := by
      rw [List.filter_eq_nil_iff]
      intro y hy
      rw [decide_eq_true_eq, nbS_mem]
      rintro (h | h)
      · have := hok.rng _ h; simp only at this; omega
      · have := hok.rng _ h; simp only at this; omega
    rw [this]; simp
end Go.Proofs.Ytlcipphiflcaiaa.Ai
namespace Go.Proofs.Ytlcipphiflcaiaa.Ai
open Go
set_option linter.unusedVariables false
/-- the numbers in a bag are those below 64 in a list -/
def BagI (b : Nat) (s : List Int) : Prop := b < 2 ^ 32 ∧ ∀ z : Nat, z < 64 → b.testBit z = decide ((z : Int) ∈ s)
theorem BagI.zero : BagI 0 [] := ⟨by decide, fun z _ => by simp⟩
theorem BagI.or {b y : Nat} {s : List Int} (h : BagI b s) (hy : y < 32) : BagI (b ||| 2 ^ y) (s ++ [(y : Int)]) := by
  refine ⟨Nat.or_lt_two_pow h.1 (Nat.pow_lt_pow_right (by decide) hy), fun z hz => ?_⟩
  rw [Nat.testBit_or, h.2 z hz, Nat.testBit_two_pow]
  by_cases e : y = z
  · subst e; simp
  · have e2 : ¬ ((z : Int) = y) := by omega
    simp [e, e2]
theorem BagI.congr {b : Nat} {s t : List Int} (h : BagI b s) (he : ∀ z : Nat, z < 64 → ((z : Int) ∈ s ↔ (z : Int) ∈ t)) : BagI b t :=
  ⟨h.1, fun z hz => by rw [h.2 z hz]; exact decide_eq_decide.2 (he z hz)⟩
end Go.Proofs.Ytlcipphiflcaiaa.Ai
namespace Go.Proofs.Ytlcipphiflcaiaa.Ai
open Go
def ords93 : List (Nat × List (Nat × Bool)) := []
def cd93 : Cd := (.seq (.reg [⟨⟨some 4, Op.assign (Operand.const (Value.bool false)), none⟩, []⟩]) (.seq (.seq (.reg [⟨⟨some 5, Op.assign (Operand.const (Value.int IntKind.i64 0)), none⟩, []⟩]) (.block 0 (.loop (.seq (.seq (.reg [⟨⟨some 6, Op.move (Operand.tmp 5), none⟩, []⟩,
  ⟨⟨some 7, Op.move (Operand.tmp 0), none⟩, []⟩,
  ⟨⟨some 8, Op.call { callee := (Callee.builtin Builtin.len), args := #[(Operand.tmp 7)], argTypes := #[25] }, none⟩, []⟩,
  ⟨⟨some 9, Op.binOp BinOp.lss 3 (Operand.tmp 6) (Operand.tmp 8) 3, none⟩, []⟩]) (.cond (Operand.tmp 9) .skip (.exit 0))) (.seq (.block 1 (.seq (.reg [⟨⟨some 12, Op.move (Operand.tmp 0), none⟩, []⟩,
  ⟨⟨some 13, Op.move (Operand.tmp 5), none⟩, []⟩,
  ⟨⟨some 14, Op.indexAddr 25 (Operand.tmp 12) (Operand.tmp 13), none⟩, []⟩,
  ⟨⟨some 15, Op.load 3 (Operand.tmp 14), none⟩, []⟩,
  ⟨⟨some 16, Op.move (Operand.tmp 1), none⟩, []⟩,
  ⟨⟨some 17, Op.binOp BinOp.eql 3 (Operand.tmp 15) (Operand.tmp 16) 3, none⟩, []⟩]) (.cond (Operand.tmp 17) (.seq (.reg [⟨⟨some 4, Op.assign (Operand.const (Value.bool true)), none⟩, []⟩]) .ret) .skip))) (.reg [⟨⟨some 10, Op.move (Operand.tmp 5), none⟩, []⟩,
  ⟨⟨some 11, Op.binOp BinOp.add 3 (Operand.tmp 10) (Operand.const (Value.int IntKind.i64 1)) 3, none⟩, []⟩,
  ⟨⟨some 5, Op.assign (Operand.tmp 11), none⟩, []⟩])))))) (.seq (.reg [⟨⟨some 4, Op.assign (Operand.const (Value.bool false)), none⟩, []⟩]) .ret)))
theorem sl93 : slim Try.f93.ntmps ords93 (Try.f93.body.getD .skip) = some cd93 := by kernel_rfl
theorem in93 {args : List Value} {H : AH} {R : Value → AH → Prop} (hl : args.length = 2) (h : ∀ (Q : Exit → Sl → AH → Prop), (∀ e s H, endA Try.prog [ResultVar.tmp 4] R e s H → Q e s H) → wpC Try.prog cd93 Q (enterA args) H) : ACalls Try.prog 93 args H R :=
  ACalls.intro (by kernel_rfl) Try.func93 rfl (by kernel_rfl) sl93 hl (of_decide_eq_true (by kernel_rfl)) (by kernel_rfl) h
end Go.Proofs.Ytlcipphiflcaiaa.Ai
namespace Go.Proofs.Ytlcipphiflcaiaa.Ai
open Go Go.RowKit
set_option linter.unusedVariables false
set_option linter.unusedSimpArgs false
theorem l1Has_c (v : Value) (xs : List Int) (x : Int) (H : AH) (hr : Row 3 H v xs) (hlen : xs.length ≤ 1099511627776) : ACalls Try.prog 93 [v, .int .i64 x] H fun r H' => r = .bool (decide (x ∈ xs)) ∧ H = H' := by
  refine in93 rfl ?_
  intro Q hQ
  simp (maxSteps := 1000000) (disch := omega) only [cd93, S, S1, S2, S3, S4, S5, ST, eq_self, reduceIte, reduceCtorEq, Nat.reduceEqDiff, Nat.reduceAdd]
  refine LoopH.by (fun m s H' => ∃ i, m + i = xs.length ∧ s 0 = v ∧ s 1 = .int .i64 x ∧ s 5 = .int .i64 ((i : Nat) : Int) ∧ H = H' ∧ x ∉ xs.take i) xs.length ?_ ?_
  · exact ⟨0, by simp, rfl, rfl, rfl, rfl, by simp⟩
  · rintro m s H' ⟨i, hm, h0, h1, h5, rfl, hn⟩
    simp (maxSteps := 1000000) (disch := omega) only [h0, h1, h5, hr.len Try.underlying25, S, S1, S2, S3, S4, S5, ST, eq_self, reduceIte, reduceCtorEq, Nat.reduceEqDiff, Nat.reduceAdd]
    refine brD.intro (fun g => ?_) (fun g => ?_) <;> simp (maxSteps := 1000000) (disch := omega) only [h0, h1, h5, hr.ix Try.underlying25 cs3, hr.cell, Int.toNat_natCast, S, S1, S2, S3, S4, S5, ST, eq_self, reduceIte, reduceCtorEq, Nat.reduceEqDiff, Nat.reduceAdd]
    · have hi : i < xs.length := by omega
      have hg : xs.getD i 0 = xs[i] := by simp [hi]
      refine brD.intro (fun e => ?_) (fun e => ?_) <;> simp (maxSteps := 1000000) (disch := omega) only [h0, h1, h5, wrap64, S, S1, S2, S3, S4, S5, ST, eq_self, reduceIte, reduceCtorEq, Nat.reduceEqDiff, Nat.reduceAdd]
      · refine hQ _ _ _ ?_
        simp (maxSteps := 1000000) (disch := omega) only [S, S1, S2, S3, S4, S5, ST, eq_self, reduceIte, reduceCtorEq, Nat.reduceEqDiff, Nat.reduceAdd]
        rw [hg] at e
        have : x ∈ xs := e ▸ List.getElem_mem hi
        simp [this]
      · refine ⟨m - 1, by omega, i + 1, by omega, by simp, ?_⟩
        rw [List.take_add_one, List.getElem?_eq_getElem hi]
        rw [hg] at e
        simp only [Option.toList_some, List.mem_append, List.mem_singleton, not_or]
        exact ⟨hn, fun e' => e e'.symm⟩
    · refine hQ _ _ _ ?_
      simp (maxSteps := 1000000) (disch := omega) only [S, S1, S2, S3, S4, S5, ST, eq_self, reduceIte, reduceCtorEq, Nat.reduceEqDiff, Nat.reduceAdd]
      rw [List.take_of_length_le (by omega)] at hn
      simp [hn]
end Go.Proofs.Ytlcipphiflcaiaa.Ai
namespace Go.Proofs.Ytlcipphiflcaiaa.Ai
open Go Go.RowKit Go.Shelf
set_option linter.unusedVariables false
set_option linter.unusedSimpArgs false
attribute [local go_sem] Oper.semAt_some
/-- a slice value that holds ints, in a block below n₀; or it is nil -/
def SlInts (n₀ : Nat) (W : World) (sv : Value) (zs : List Int) : Prop :=
  (∃ a c, sv = .slice a 0 c ∧ zs = []) ∨ ∃ b off cap, sv = .slice (some ⟨b, off, none⟩) zs.length cap ∧ b < n₀ ∧ ∀ j, j < zs.length → W.cell? ⟨b, off + j, none⟩ = some (.int .i64 (zs[j]?.getD 0))
theorem SlInts.below {n₀ : Nat} {A B : World} (h : Below n₀ A B) {sv : Value} {zs : List Int} : SlInts n₀ A sv zs → SlInts n₀ B sv zs
  | .inl e => .inl e
  | .inr ⟨b, off, cap, e, hb, hc⟩ => .inr ⟨b, off, cap, e, hb, fun j hj => (h.cell (p := ⟨b, off + j, none⟩) hb).trans (hc j hj)⟩
end Go.Proofs.Ytlcipphiflcaiaa.Ai
namespace Go.Proofs.Ytlcipphiflcaiaa.Ai
open Go Go.RowKit
set_option linter.unusedVariables false
set_option linter.unusedSimpArgs false
instance (n : Int) (ys : List Int) : Decidable (Rsg n ys) := by unfold Rsg; infer_instance
end Go.Proofs.Ytlcipphiflcaiaa.Ai
namespace Go.Proofs.Ytlcipphiflcaiaa.Ai
open Go
def ords71 : List (Nat × List (Nat × Bool)) := []
def cd71 : Cd := (.seq (.reg [⟨⟨some 2, Op.assign (Operand.const (Value.int IntKind.u64 0)), none⟩, []⟩]) (.seq (.reg [⟨⟨some 3, Op.assign (Operand.const (Value.int IntKind.u64 0)), none⟩, []⟩]) (.seq (.seq (.reg [⟨⟨some 6, Op.move (Operand.tmp 0), none⟩, []⟩,
  ⟨⟨some 7, Op.call { callee := (Callee.builtin Builtin.len), args := #[(Operand.tmp 6)], argTypes := #[25] }, none⟩, []⟩,
  ⟨⟨some 8, Op.move (Operand.const (Value.int IntKind.i64 0)), none⟩, []⟩]) (.block 0 (.loop (.seq (.reg [⟨⟨some 9, Op.binOp BinOp.lss 3 (Operand.tmp 8) (Operand.tmp 7) 3, none⟩, []⟩]) (.seq (.cond (Operand.tmp 9) .skip (.exit 0)) (.seq (.block 1 (.seq (.reg [⟨⟨some 10, Op.indexAddr 25 (Operand.tmp 6) (Operand.tmp 8), none⟩, []⟩,
  ⟨⟨some 11, Op.load 3 (Operand.tmp 10), none⟩, []⟩,
  ⟨⟨some 5, Op.assign (Operand.tmp 11), none⟩, []⟩]) (.reg [⟨⟨some 12, Op.move (Operand.tmp 3), none⟩, []⟩,
  ⟨⟨some 13, Op.move (Operand.tmp 5), none⟩, []⟩,
  ⟨⟨some 14, Op.binOp BinOp.shl 77 (Operand.const (Value.int IntKind.u64 1)) (Operand.tmp 13) 3, none⟩, []⟩,
  ⟨⟨some 15, Op.binOp BinOp.or 77 (Operand.tmp 12) (Operand.tmp 14) 77, none⟩, []⟩,
  ⟨⟨some 3, Op.assign (Operand.tmp 15), none⟩, []⟩]))) (.reg [⟨⟨some 16, Op.binOp BinOp.add 3 (Operand.tmp 8) (Operand.const (Value.int IntKind.i64 1)) 3, none⟩, []⟩,
  ⟨⟨some 8, Op.move (Operand.tmp 16), none⟩, []⟩]))))))) (.seq (.reg [⟨⟨some 17, Op.move (Operand.tmp 3), none⟩, []⟩,
  ⟨⟨some 2, Op.assign (Operand.tmp 17), none⟩, []⟩]) .ret))))
theorem sl71 : slim Try.f71.ntmps ords71 (Try.f71.body.getD .skip) = some cd71 := by kernel_rfl
theorem in71 {args : List Value} {H : AH} {R : Value → AH → Prop} (hl : args.length = 1) (h : ∀ (Q : Exit → Sl → AH → Prop), (∀ e s H, endA Try.prog [ResultVar.tmp 2] R e s H → Q e s H) → wpC Try.prog cd71 Q (enterA args) H) : ACalls Try.prog 71 args H R :=
  ACalls.intro (by kernel_rfl) Try.func71 rfl (by kernel_rfl) sl71 hl (of_decide_eq_true (by kernel_rfl)) (by kernel_rfl) h
def ords57 : List (Nat × List (Nat × Bool)) := []
def cd57 : Cd := (.seq (.reg [⟨⟨some 4, Op.assign (Operand.const (Value.int IntKind.u64 0)), none⟩, []⟩,
  ⟨⟨some 5, Op.assign (Operand.const (Value.int IntKind.u64 0)), none⟩, []⟩]) (.seq (.reg [⟨⟨some 8, Op.move (Operand.tmp 0), none⟩, []⟩,
  ⟨⟨some 9, Op.call { callee := (Callee.value (Operand.func 71)), args := #[(Operand.tmp 8)], argTypes := #[25] }, none⟩, []⟩,
  ⟨⟨some 10, Op.move (Operand.tmp 1), none⟩, []⟩,
  ⟨⟨some 11, Op.call { callee := (Callee.value (Operand.func 71)), args := #[(Operand.tmp 10)], argTypes := #[25] }, none⟩, []⟩,
  ⟨⟨some 6, Op.assign (Operand.tmp 9), none⟩, []⟩,
  ⟨⟨some 7, Op.assign (Operand.tmp 11), none⟩, []⟩]) (.seq (.reg [⟨⟨some 12, Op.move (Operand.tmp 6), none⟩, []⟩,
  ⟨⟨some 13, Op.move (Operand.tmp 7), none⟩, []⟩,
  ⟨⟨some 14, Op.binOp BinOp.andNot 77 (Operand.tmp 12) (Operand.tmp 13) 77, none⟩, []⟩,
  ⟨⟨some 15, Op.move (Operand.tmp 7), none⟩, []⟩,
  ⟨⟨some 16, Op.move (Operand.tmp 6), none⟩, []⟩,
  ⟨⟨some 17, Op.binOp BinOp.andNot 77 (Operand.tmp 15) (Operand.tmp 16) 77, none⟩, []⟩,
  ⟨⟨some 4, Op.assign (Operand.tmp 14), none⟩, []⟩,
  ⟨⟨some 5, Op.assign (Operand.tmp 17), none⟩, []⟩]) .ret)))
theorem sl57 : slim Try.f57.ntmps ords57 (Try.f57.body.getD .skip) = some cd57 := by kernel_rfl
theorem in57 {args : List Value} {H : AH} {R : Value → AH → Prop} (hl : args.length = 2) (h : ∀ (Q : Exit → Sl → AH → Prop), (∀ e s H, endA Try.prog [ResultVar.tmp 4, ResultVar.tmp 5] R e s H → Q e s H) → wpC Try.prog cd57 Q (enterA args) H) : ACalls Try.prog 57 args H R :=
  ACalls.intro (by kernel_rfl) Try.func57 rfl (by kernel_rfl) sl57 hl (of_decide_eq_true (by kernel_rfl)) (by kernel_rfl) h
end Go.Proofs.Ytlcipphiflcaiaa.Ai
namespace Go.Proofs.Ytlcipphiflcaiaa.Ai
open Go Go.RowKit
set_option linter.unusedVariables false
set_option linter.unusedSimpArgs false
/-- one without another -/
def anN (a b : Nat) : Nat := (BitVec.ofNat 64 a &&& ~~~ BitVec.ofNat 64 b).toNat
theorem anN_bit (a b z : Nat) (hz : z < 64) : (anN a b).testBit z = (a.testBit z && !b.testBit z) := by
  unfold anN
  rw [BitVec.testBit_toNat, BitVec.getLsbD_and, BitVec.getLsbD_not, BitVec.getLsbD_ofNat, BitVec.getLsbD_ofNat]
  simp [hz]
theorem anN_le (a b : Nat) : anN a b ≤ a := by
  unfold anN
  rw [BitVec.toNat_and]
  refine Nat.le_trans Nat.and_le_left ?_
  rw [BitVec.toNat_ofNat]
  exact Nat.mod_le _ _
theorem bin_andNot (P : Program) (t : TypeId) (a b : Nat) (ha : a < 2 ^ 64) : binA P .andNot t (.int .u64 (a : Int)) (.int .u64 (b : Int)) = some (.int .u64 ((anN a b : Nat) : Int)) := by
  have e : bitsA .andNot .u64 (a : Int) (b : Int) = ((anN a b : Nat) : Int) := by
    show IntKind.u64.wrap (((BitVec.ofInt 64 (a : Int) &&& ~~~ BitVec.ofInt 64 (b : Int)).toNat : Nat) : Int) = _
    rw [BitVec.ofInt_natCast, BitVec.ofInt_natCast]
    show IntKind.u64.wrap ((anN a b : Nat) : Int) = _
    have := anN_le a b
    rw [IntKind.wrap_u64]; omega
  simp only [binA, intA, e]
  simp
set_option maxHeartbeats 1000000 in
theorem bagOf_c (w : Value) (xs : List Int) (H : AH) (hr : Row 3 H w xs) (hlen : xs.length ≤ 1048576) (hx : ∀ x ∈ xs, 0 ≤ x ∧ x < 32) :
    ACalls Try.prog 71 [w] H fun r H' => ∃ b : Nat, r = .int .u64 (b : Int) ∧ BagI b xs ∧ H = H' := by
  refine in71 rfl ?_
  intro Q hQ
  simp (maxSteps := 1000000) (disch := omega) only [cd71, hr.len Try.underlying25, S, S1, S2, S3, S4, S5, ST, eq_self, reduceIte, reduceCtorEq, Nat.reduceEqDiff, Nat.reduceAdd]
  refine LoopH.by (fun m s H' => ∃ (i b : Nat), m + i = xs.length ∧ s 3 = .int .u64 (b : Int) ∧ s 6 = w ∧ s 7 = .int .i64 (xs.length : Int) ∧ s 8 = .int .i64 ((i : Nat) : Int) ∧ BagI b (xs.take i) ∧ H' = H) xs.length ?_ ?_
  · exact ⟨0, 0, by simp, rfl, rfl, rfl, rfl, by simpa using BagI.zero, rfl⟩
  rintro m s H' ⟨i, b, hm, h3, h6, h7, h8, hb, rfl⟩
  simp (maxSteps := 1000000) (disch := omega) only [h3, h6, h7, h8, S, S1, S2, S3, S4, S5, ST, eq_self, reduceIte, reduceCtorEq, Nat.reduceEqDiff, Nat.reduceAdd]
  refine brD.intro (fun g => ?_) (fun g => ?_)
  · have hi : i < xs.length := by omega
    have hxm : xs.getD i 0 ∈ xs := by simp [hi]
    have hxr := hx _ hxm
    obtain ⟨x, hxe⟩ : ∃ x : Nat, xs.getD i 0 = x := ⟨(xs.getD i 0).toNat, by omega⟩
    have hc := hr.cell hi
    rw [hxe] at hc
    have hb64 : b < 2 ^ 64 := Nat.lt_of_lt_of_le hb.1 (by decide)
    have hx64 : 2 ^ x < 2 ^ 64 := Nat.pow_lt_pow_right (by decide) (by omega)
    have k1 := bin_shl Try.prog 77 x (by omega)
    have k2 := bin_or Try.prog 77 b (2 ^ x) hb64 hx64
    have f1 : BagI (b ||| 2 ^ x) (xs.take (i + 1)) := by
      have e : xs.take (i + 1) = xs.take i ++ [(x : Int)] := by
        rw [List.take_add_one, List.getElem?_eq_getElem hi, ← hxe]
        simp [hi]
      rw [e]; exact hb.or (by omega)
    simp (maxSteps := 1000000) (disch := omega) only [h3, h6, h7, h8, hr.ix Try.underlying25 cs3, Int.toNat_natCast, hc, k1, k2, wrap64, S, S1, S2, S3, S4, S5, ST, eq_self, reduceIte, reduceCtorEq, Nat.reduceEqDiff, Nat.reduceAdd]
    refine ⟨m - 1, by omega, i + 1, b ||| 2 ^ x, ?_⟩
    (repeat' first | exact f1 | apply And.intro) <;> first | (simp only [Value.int.injEq, true_and]; omega) | omega | rfl | assumption | (simp; done) | (simp; omega)
  · simp (maxSteps := 1000000) (disch := omega) only [h3, S, S1, S2, S3, S4, S5, ST, eq_self, reduceIte, reduceCtorEq, Nat.reduceEqDiff, Nat.reduceAdd]
    refine hQ _ _ _ ?_
    simp (maxSteps := 1000000) (disch := omega) only [S, S1, S2, S3, S4, S5, ST, eq_self, reduceIte, reduceCtorEq, Nat.reduceEqDiff, Nat.reduceAdd]
    rw [List.take_of_length_le (by omega)] at hb
    exact ⟨b, rfl, hb⟩
theorem moves_c (v w : Value) (xs ys : List Int) (H : AH) (hr : Row 3 H v xs) (hs : Row 3 H w ys) (hlx : xs.length ≤ 1048576) (hly : ys.length ≤ 1048576) (hx : ∀ x ∈ xs, 0 ≤ x ∧ x < 32) (hy : ∀ x ∈ ys, 0 ≤ x ∧ x < 32) :
    ACalls Try.prog 57 [v, w] H fun r H' => ∃ a b : Nat, r = .tuple (List.toArray [.int .u64 (a : Int), .int .u64 (b : Int)]) ∧ BagI a (xs.filter fun x => !decide (x ∈ ys)) ∧ BagI b (ys.filter fun x => !decide (x ∈ xs)) ∧ H = H' := by
  refine in57 rfl ?_
  intro Q hQ
  simp (maxSteps := 1000000) (disch := omega) only [cd57, S, S1, S2, S3, S4, S5, ST, eq_self, reduceIte, reduceCtorEq, Nat.reduceEqDiff, Nat.reduceAdd]
  refine CallH.by (bagOf_c v xs H hr hlx hx) ?_
  rintro _ _ ⟨a, rfl, ha, rfl⟩
  simp (maxSteps := 1000000) (disch := omega) only [S, S1, S2, S3, S4, S5, ST, eq_self, reduceIte, reduceCtorEq, Nat.reduceEqDiff, Nat.reduceAdd]
  refine CallH.by (bagOf_c w ys H hs hly hy) ?_
  rintro _ _ ⟨b, rfl, hb, rfl⟩
  have ha64 : a < 2 ^ 64 := Nat.lt_of_lt_of_le ha.1 (by decide)
  have hb64 : b < 2 ^ 64 := Nat.lt_of_lt_of_le hb.1 (by decide)
  have k1 := bin_andNot Try.prog 77 a b ha64
  have k2 := bin_andNot Try.prog 77 b a hb64
  simp (maxSteps := 1000000) (disch := omega) only [k1, k2, S, S1, S2, S3, S4, S5, ST, eq_self, reduceIte, reduceCtorEq, Nat.reduceEqDiff, Nat.reduceAdd]
  refine hQ _ _ _ ?_
  simp (maxSteps := 1000000) (disch := omega) only [S, S1, S2, S3, S4, S5, ST, eq_self, reduceIte, reduceCtorEq, Nat.reduceEqDiff, Nat.reduceAdd]
  refine ⟨_, _, rfl, ⟨Nat.lt_of_le_of_lt (anN_le a b) ha.1, fun z hz => ?_⟩, ⟨Nat.lt_of_le_of_lt (anN_le b a) hb.1, fun z hz => ?_⟩⟩
  · rw [anN_bit a b z hz, ha.2 z hz, hb.2 z hz]
    by_cases h1 : (z : Int) ∈ xs <;> by_cases h2 : (z : Int) ∈ ys <;> simp [h1, h2]
  · rw [anN_bit b a z hz, ha.2 z hz, hb.2 z hz]
    by_cases h1 : (z : Int) ∈ xs <;> by_cases h2 : (z : Int) ∈ ys <;> simp [h1, h2]
end Go.Proofs.Ytlcipphiflcaiaa.Ai
namespace Go.Proofs.Ytlcipphiflcaiaa.Ai
open Go
def ords30 : List (Nat × List (Nat × Bool)) := []
def cd30 : Cd := (.seq (.reg [⟨⟨some 4, Op.assign (Operand.const (Value.bool false)), none⟩, []⟩]) (.seq (.reg [⟨⟨some 8, Op.move (Operand.tmp 0), none⟩, []⟩,
  ⟨⟨some 9, Op.move (Operand.tmp 1), none⟩, []⟩,
  ⟨⟨some 10, Op.call { callee := (Callee.value (Operand.func 57)), args := #[(Operand.tmp 8), (Operand.tmp 9)], argTypes := #[25, 25] }, none⟩, []⟩,
  ⟨⟨some 7, Op.move (Operand.tmp 10), none⟩, []⟩,
  ⟨⟨some 11, Op.extract (Operand.tmp 7) 0, none⟩, []⟩,
  ⟨⟨some 12, Op.extract (Operand.tmp 7) 1, none⟩, []⟩,
  ⟨⟨some 5, Op.assign (Operand.tmp 11), none⟩, []⟩,
  ⟨⟨some 6, Op.assign (Operand.tmp 12), none⟩, []⟩]) (.seq (.reg [⟨⟨some 13, Op.move (Operand.tmp 5), none⟩, []⟩,
  ⟨⟨some 14, Op.call { callee := (Callee.value (Operand.func 58)), args := #[(Operand.tmp 13)], argTypes := #[77] }, none⟩, []⟩,
  ⟨⟨some 15, Op.binOp BinOp.eql 3 (Operand.tmp 14) (Operand.const (Value.int IntKind.i64 1)) 3, none⟩, []⟩,
  ⟨⟨some 16, Op.move (Operand.tmp 15), none⟩, []⟩,
  ⟨⟨some 17, Op.move (Operand.tmp 6), some (16, true)⟩, []⟩,
  ⟨⟨some 18, Op.call { callee := (Callee.value (Operand.func 58)), args := #[(Operand.tmp 17)], argTypes := #[77] }, some (16, true)⟩, []⟩,
  ⟨⟨some 19, Op.binOp BinOp.eql 3 (Operand.tmp 18) (Operand.const (Value.int IntKind.i64 1)) 3, some (16, true)⟩, []⟩,
  ⟨⟨some 20, Op.pick (Operand.tmp 16) (Operand.tmp 19) (Operand.const (Value.bool false)), none⟩, []⟩,
  ⟨⟨some 4, Op.assign (Operand.tmp 20), none⟩, []⟩]) .ret)))
theorem sl30 : slim Try.f30.ntmps ords30 (Try.f30.body.getD .skip) = some cd30 := by kernel_rfl
theorem in30 {args : List Value} {H : AH} {R : Value → AH → Prop} (hl : args.length = 2) (h : ∀ (Q : Exit → Sl → AH → Prop), (∀ e s H, endA Try.prog [ResultVar.tmp 4] R e s H → Q e s H) → wpC Try.prog cd30 Q (enterA args) H) : ACalls Try.prog 30 args H R :=
  ACalls.intro (by kernel_rfl) Try.func30 rfl (by kernel_rfl) sl30 hl (of_decide_eq_true (by kernel_rfl)) (by kernel_rfl) h
end Go.Proofs.Ytlcipphiflcaiaa.Ai
namespace Go.Proofs.Ytlcipphiflcaiaa.Ai
open Go Go.RowKit
set_option linter.unusedVariables false
set_option linter.unusedSimpArgs false
/-- one edge of each is not in the other -/
def jmpB (x y : List Int) : Bool := decide ((x.filter fun e => !decide (e ∈ y)).length = 1) && decide ((y.filter fun e => !decide (e ∈ x)).length = 1)
end Go.Proofs.Ytlcipphiflcaiaa.Ai
namespace Go.Proofs.Ytlcipphiflcaiaa.Ai
open Go
set_option linter.unusedVariables false
theorem nbS_cons (e : Int × Int) (ps : List (Int × Int)) (hne : e.1 ≠ e.2) (h1 : 0 ≤ e.1) (h2 : 0 ≤ e.2) (x : Nat) : (nbS (e :: ps) (x : Int)).length = (nbS ps (x : Int)).length + if (decide (e.1.toNat = x ∨ e.2.toNat = x)) = true then 1 else 0 := by
  unfold nbS
  simp only [List.length_append, List.length_map, List.filter_cons]
  by_cases a : e.1 = (x : Int)
  · have b : ¬ e.2 = (x : Int) := fun q => hne (a.trans q.symm)
    have c : decide (e.1.toNat = x ∨ e.2.toNat = x) = true := decide_eq_true (.inl (by omega))
    rw [c, decide_eq_false b, decide_eq_true a]
    simp only [Bool.false_eq_true, if_false, if_true, List.length_cons]; omega
  · by_cases b : e.2 = (x : Int)
    · have c : decide (e.1.toNat = x ∨ e.2.toNat = x) = true := decide_eq_true (.inr (by omega))
      rw [c, decide_eq_true b, decide_eq_false a]
      simp only [Bool.false_eq_true, if_false, if_true, List.length_cons]; omega
    · have c : decide (e.1.toNat = x ∨ e.2.toNat = x) = false := decide_eq_false (by omega)
      rw [c, decide_eq_false b, decide_eq_false a]
      simp only [Bool.false_eq_true, if_false]; omega
theorem nbS_sum (n : Nat) : ∀ ps : List (Int × Int), (∀ e ∈ ps, 0 ≤ e.1 ∧ e.1 < e.2 ∧ e.2 < n) → sumL (fun x => (nbS ps (x : Int)).length) (List.range n) = 2 * ps.length
  | [], _ => by
    have := sumL_cnt (fun _ => false) (List.range n)
    have e : (fun x : Nat => (nbS [] (x : Int)).length) = fun v => if (fun _ : Nat => false) v = true then 1 else 0 := by funext v; rfl
    rw [e, this, List.countP_eq_zero.2 (by simp)]; rfl
  | e :: ps, h => by
    have he := h e (by simp)
    have ih := nbS_sum n ps fun f hf => h f (by simp [hf])
    have hf : (fun x : Nat => (nbS (e :: ps) (x : Int)).length) = fun x : Nat => (nbS ps (x : Int)).length + if (fun v => decide (e.1.toNat = v ∨ e.2.toNat = v)) x = true then 1 else 0 := by
      funext x
      exact nbS_cons e ps (by omega) he.1 (by omega) x
    rw [hf, sumL_add, ih, sumL_cnt, two_ends List.nodup_range (List.mem_range.2 (by omega)) (List.mem_range.2 (by omega)) (by omega), List.length_cons]
    omega
theorem sumL_le (f : Nat → Nat) (m : Nat) : ∀ V : List Nat, (∀ v ∈ V, f v ≤ m) → sumL f V ≤ m * V.length
  | [], _ => by simp [sumL]
  | v :: V, h => by
    have := sumL_le f m V fun x hx => h x (by simp [hx])
    have := h v (by simp)
    unfold sumL at *
    rw [List.map_cons, List.foldr_cons, List.length_cons, Nat.mul_succ]; omega
theorem steps_le {p : List Int → List Int → Bool} {ls : List (List Int)} {m : Nat} (h : ∀ x, x < ls.length → (nbS (steps p ls) (x : Int)).length ≤ m) : 2 * (steps p ls).length ≤ m * ls.length := by
  rw [← nbS_sum ls.length (steps p ls) (steps_ok p ls).rng]
  have := sumL_le (fun x => (nbS (steps p ls) (x : Int)).length) m (List.range ls.length) fun v hv => h v (List.mem_range.1 hv)
  rw [List.length_range] at this
  exact this
theorem grd_pwT {n : Int} {es : List (Int × Int)} (hg : Grd n es) : es.Pairwise pairLt := by
  rw [List.pairwise_iff_getElem]
  have at_ : ∀ i (h : i < es.length), es.getD i (0, 0) = es[i] := fun i h => by simp [h]
  have key : ∀ (k i : Nat), i + k + 1 < es.length → pairLt (es.getD i (0, 0)) (es.getD (i + k + 1) (0, 0)) := by
    intro k
    induction k with
    | zero =>
      intro i hi
      have := (hg.2 (i + 1) hi).2.2.2 (by omega)
      simpa using this
    | succ k ih =>
      intro i hi
      have h1 := ih i (by omega)
      have h2 := (hg.2 (i + (k + 1) + 1) hi).2.2.2 (by omega)
      have e : i + (k + 1) + 1 - 1 = i + k + 1 := by omega
      rw [e] at h2
      unfold pairLt at *
      omega
  intro i j hi hj hij
  have := key (j - i - 1) i (by omega)
  rw [show i + (j - i - 1) + 1 = j by omega, at_ i hi, at_ j hj] at this
  exact this
theorem en_inj {n : Int} {es : List (Int × Int)} (hg : Grd n es) {e f : Int} (he : 0 ≤ e ∧ e < es.length) (hf : 0 ≤ f ∧ f < es.length) (h1 : enA es e = enA es f) (h2 : enB es e = enB es f) : e = f := by
  have a := (en_eq hg he).1
  have b := (en_eq hg hf).1
  rw [h1, h2, ← b] at a
  have hp := List.pairwise_iff_getElem.1 (grd_pwT hg)
  have le : e.toNat < es.length := by omega
  have lf : f.toNat < es.length := by omega
  have ea : es.getD e.toNat (0, 0) = es[e.toNat] := by simp [le]
  have eb : es.getD f.toNat (0, 0) = es[f.toNat] := by simp [lf]
  rw [ea, eb] at a
  rcases Nat.lt_trichotomy e.toNat f.toNat with q | q | q
  · have := hp _ _ le lf q
    rw [a] at this
    unfold pairLt at this; omega
  · omega
  · have := hp _ _ lf le q
    rw [a] at this
    unfold pairLt at this; omega
theorem SG.of {n : Nat} {es : List (Int × Int)} (hg : Grd (n : Int) es) {A : List Int} (ha : A.Pairwise (· < ·)) (hA : EdIn es A) : SG es A (List.range n) := by
  refine ⟨ha, List.nodup_range, fun e he => ?_, fun e he f hf h1 h2 => en_inj hg (hA e he) (hA f hf) h1 h2⟩
  have := en_eq hg (hA e he)
  exact ⟨⟨List.mem_range.2 (by omega), List.mem_range.2 (by omega)⟩, this.2.1⟩
theorem LB.tre {n : Nat} (hn : 1 ≤ n) {es : List (Int × Int)} (hg : Grd (n : Int) es) {A : List Int} (hA : EdIn es A) {k : Nat} (h : LB es A (List.range n) k) : k ≤ (treA n es).length := by
  obtain ⟨L, l1, l2, l3⟩ := h
  refine Nat.le_trans l2 (nodup_leB L _ l1 fun T hT => (treA_iff hn hg T).2 ?_)
  have t := l3 T hT
  have hl := t.len
  rw [List.length_range] at hl
  exact ⟨hl, t.asc, fun e he => hA e (t.sub e he), fun x y hx hy => t.con x (List.mem_range.2 hx) y (List.mem_range.2 hy)⟩
theorem alls_asc (m : Nat) : (alls m).Pairwise (· < ·) := by
  unfold alls
  rw [List.pairwise_map]
  exact List.pairwise_lt_range.imp fun q => by omega
/-- a graph of seven or eight nodes with many edges has many trees -/
theorem many_trees {n : Nat} {es : List (Int × Int)} (hg : Grd (n : Int) es) (hb : (n = 8 ∧ 15 ≤ es.length) ∨ (n = 7 ∧ 17 ≤ es.length)) {T0 : List Int} (hT : T0 ∈ treA n es) : 301 ≤ (treA n es).length := by
  have hn : 1 ≤ n := by omega
  have t0 := (treA_iff hn hg T0).1 hT
  have hall : EdIn es (alls es.length) := fun e he => (alls_mem _ _).1 he
  rcases hb with ⟨rfl, hm⟩ | ⟨rfl, hm⟩
  · have hsp := flt_len (fun e : Int => decide (e ∈ T0)) (alls es.length)
    generalize hR : (alls es.length).filter (fun e => !decide (e ∈ T0)) = R at *
    have hRm : ∀ e, e ∈ R ↔ e ∈ alls es.length ∧ e ∉ T0 := fun e => by rw [← hR, List.mem_filter, Bool.not_eq_true', decide_eq_false_iff_not]
    have tn : T0.Nodup := t0.2.1.imp fun q e => by omega
    have an : (alls es.length).Nodup := (alls_asc _).imp fun q e => by omega
    have al : (alls es.length).length = es.length := by simp [alls]
    have hin : ((alls es.length).filter fun e => decide (e ∈ T0)).length ≤ T0.length := nodup_leB _ _ (an.sublist List.filter_sublist) fun e he => of_decide_eq_true (List.mem_filter.1 he).2
    have hTl := t0.1
    have hRl : 8 ≤ R.length := by omega
    have bn : (T0 ++ R.take 8).Nodup := by
      rw [List.nodup_append]
      refine ⟨tn, (an.sublist (by rw [← hR]; exact List.filter_sublist)).sublist (List.take_sublist _ _), fun a ha b hb e => ?_⟩
      subst e
      exact ((hRm a).1 (List.mem_of_mem_take hb)).2 ha
    have bl : (T0 ++ R.take 8).length = 15 := by rw [List.length_append, List.length_take]; omega
    have bsub : ∀ e ∈ T0 ++ R.take 8, e ∈ alls es.length := fun e he => by
      rcases List.mem_append.1 he with q | q
      · exact (alls_mem _ _).2 (t0.2.2.1 e q)
      · exact ((hRm e).1 (List.mem_of_mem_take q)).1
    generalize hB : T0 ++ R.take 8 = B at *
    have hTB : ∀ e ∈ T0, e ∈ B := fun e he => by rw [← hB]; exact List.mem_append_left _ he
    have Al : ((alls es.length).filter fun e => decide (e ∈ B)).length = 15 := by
      have h1 := nodup_leB ((alls es.length).filter fun e => decide (e ∈ B)) B (an.sublist List.filter_sublist) fun e he => of_decide_eq_true (List.mem_filter.1 he).2
      have h2 := nodup_leB B ((alls es.length).filter fun e => decide (e ∈ B)) bn fun e he => List.mem_filter.2 ⟨bsub e he, decide_eq_true he⟩
      omega
    have hAE : EdIn es ((alls es.length).filter fun e => decide (e ∈ B)) := fun e he => hall e (List.mem_filter.1 he).1
    refine LB.tre hn hg hAE (lb8 (SG.of hg ((alls_asc _).sublist List.filter_sublist) hAE) (by simp) Al fun x hx y hy => ?_)
    exact (t0.2.2.2 x y (List.mem_range.1 hx) (List.mem_range.1 hy)).mono fun e he => List.mem_filter.2 ⟨(alls_mem _ _).2 (t0.2.2.1 e he), decide_eq_true (hTB e he)⟩
  · have hAE : EdIn es ((alls es.length).take 17) := fun e he => hall e (List.mem_of_mem_take he)
    refine LB.tre hn hg hAE ((lb7 (SG.of hg ((alls_asc _).sublist (List.take_sublist _ _)) hAE) (by simp)).2.2.2 ?_)
    rw [List.length_take]
    have al : (alls es.length).length = es.length := by simp [alls]
    omega
def farOk : Bool := (List.range 9).all fun n => (List.range 29).all fun m => (decide (n = 8 ∧ 15 ≤ m) || decide (n = 7 ∧ 17 ≤ m)) || Nat.ble (farS n (m + 1 - n)) 40
theorem farOk_ok : farOk = true := by decide +kernel
/-- from a tree lead at most 40 exchanges, but in such graphs -/
theorem tre_deg {n : Nat} (hn : 1 ≤ n) {es : List (Int × Int)} (hg : Grd (n : Int) es) (h28 : es.length ≤ 28) (hb : ¬ ((n = 8 ∧ 15 ≤ es.length) ∨ (n = 7 ∧ 17 ≤ es.length))) {T : List Int} (hT : T ∈ treA n es) :
    (treA n es).countP (fun U => jmpB U T || jmpB T U) ≤ 40 := by
  have tL := (treA_iff hn hg T).1 hT
  have tr := tL.tree hg
  have hn8 : n ≤ 8 := by have := hg.1; omega
  let F : List Int := (alls es.length).filter fun e => !decide (e ∈ T)
  have hFm : ∀ e, e ∈ F ↔ e ∈ alls es.length ∧ e ∉ T := fun e => by
    show e ∈ (alls es.length).filter _ ↔ _
    rw [List.mem_filter, Bool.not_eq_true', decide_eq_false_iff_not]
  have an : (alls es.length).Nodup := (alls_asc _).imp fun q e => by omega
  have al : (alls es.length).length = es.length := by simp [alls]
  have hFl : F.length = es.length + 1 - n := by
    have hsp := flt_len (fun e : Int => decide (e ∈ T)) (alls es.length)
    have h1 := nodup_leB ((alls es.length).filter fun e => decide (e ∈ T)) T (an.sublist List.filter_sublist) fun e he => of_decide_eq_true (List.mem_filter.1 he).2
    have h2 := nodup_leB T ((alls es.length).filter fun e => decide (e ∈ T)) tr.nd fun e he => List.mem_filter.2 ⟨(alls_mem _ _).2 (tL.2.2.1 e he), decide_eq_true he⟩
    have := tL.1
    show ((alls es.length).filter fun e => !decide (e ∈ T)).length = _
    omega
  have hfs := far_sum tr (by omega) hn8 (F := F) (an.sublist List.filter_sublist) (fun f hf => by
      have := en_eq hg ((alls_mem _ _).1 ((hFm f).1 hf).1)
      omega) (fun f hf g hgF h1 h2 => en_inj hg ((alls_mem _ _).1 ((hFm f).1 hf).1) ((alls_mem _ _).1 ((hFm g).1 hgF).1) h1 h2)
  have hok := farOk_ok
  unfold farOk at hok
  rw [List.all_eq_true] at hok
  have hok := hok n (List.mem_range.2 (by omega))
  rw [List.all_eq_true] at hok
  have hok := hok es.length (List.mem_range.2 (by omega))
  rw [Bool.or_eq_true, Bool.or_eq_true, decide_eq_true_eq, decide_eq_true_eq] at hok
  have h40 := Nat.le_of_ble_eq_true (hok.resolve_left hb)
  rw [hFl] at hfs
  refine Nat.le_trans ?_ (Nat.le_trans hfs h40)
  -- an exchange is told by what comes and what goes
  let prs : List (Int × Int) := F.flatMap fun f => (T.filter fun e => pdc (¬ Jn es (wo1 T e) (enA es f) (enB es f))).map fun e => (f, e)
  have hpl : prs.length = (F.map fun f => sepC es T (enA es f) (enB es f)).foldr (· + ·) 0 := by
    show (F.flatMap _).length = _
    generalize F = G
    induction G with
    | nil => rfl
    | cons f G ih =>
      rw [List.flatMap_cons, List.length_append, List.length_map, List.map_cons, List.foldr_cons, ih]
      unfold sepC
      rw [List.countP_eq_length_filter]
  rw [← hpl, List.countP_eq_length_filter]
  let g : List Int → Int × Int := fun U => ((U.filter fun e => !decide (e ∈ T)).getD 0 0, (T.filter fun e => !decide (e ∈ U)).getD 0 0)
  have one : ∀ {l : List Int}, l.length = 1 → l = [l.getD 0 0] := fun {l} h => by
    match l, h with
    | [a], _ => rfl
  have jb : ∀ U, (jmpB U T || jmpB T U) = true → (U.filter fun e => !decide (e ∈ T)).length = 1 ∧ (T.filter fun e => !decide (e ∈ U)).length = 1 := by
    intro U h
    unfold jmpB at h
    rw [Bool.or_eq_true, Bool.and_eq_true, Bool.and_eq_true] at h
    simp only [decide_eq_true_eq] at h
    omega
  have mem1 : ∀ U, (jmpB U T || jmpB T U) = true → ∀ x, (x ∈ U ∧ x ∉ T ↔ x = (g U).1) ∧ (x ∈ T ∧ x ∉ U ↔ x = (g U).2) := by
    intro U h x
    obtain ⟨h1, h2⟩ := jb U h
    have a : x ∈ (U.filter fun e => !decide (e ∈ T)) ↔ x ∈ [(g U).1] := by rw [← one h1]
    have b : x ∈ (T.filter fun e => !decide (e ∈ U)) ↔ x ∈ [(g U).2] := by rw [← one h2]
    rw [List.mem_filter, Bool.not_eq_true', decide_eq_false_iff_not, List.mem_singleton] at a b
    exact ⟨a, b⟩
  have := nodup_leB (((treA n es).filter fun U => jmpB U T || jmpB T U).map g) prs ?_ ?_
  · rw [List.length_map] at this; exact this
  · rw [List.Nodup, List.pairwise_map]
    have hnd : (treA n es).Pairwise (· ≠ ·) := (treA_pw hn hg).imp fun q e => by rw [e, cmpL_self] at q; omega
    refine List.Pairwise.imp_of_mem ?_ (hnd.sublist List.filter_sublist)
    intro U W hU hW hne heq
    obtain ⟨u1, u2⟩ := List.mem_filter.1 hU
    obtain ⟨w1, w2⟩ := List.mem_filter.1 hW
    have uL := (treA_iff hn hg U).1 u1
    have wL := (treA_iff hn hg W).1 w1
    refine hne (asc_ext uL.2.1 wL.2.1 fun x => ?_)
    have mu := mem1 U u2 x
    have mw := mem1 W w2 x
    rw [heq] at mu
    by_cases hx : x ∈ T
    · have k1 : x ∈ U ↔ ¬ x = (g W).2 := ⟨fun q r => (mu.2.2 r).2 q, fun q => Classical.byContradiction fun r => q (mu.2.1 ⟨hx, r⟩)⟩
      have k2 : x ∈ W ↔ ¬ x = (g W).2 := ⟨fun q r => (mw.2.2 r).2 q, fun q => Classical.byContradiction fun r => q (mw.2.1 ⟨hx, r⟩)⟩
      rw [k1, k2]
    · have k1 : x ∈ U ↔ x = (g W).1 := ⟨fun q => mu.1.1 ⟨q, hx⟩, fun q => (mu.1.2 q).1⟩
      have k2 : x ∈ W ↔ x = (g W).1 := ⟨fun q => mw.1.1 ⟨q, hx⟩, fun q => (mw.1.2 q).1⟩
      rw [k1, k2]
  · intro p hp
    obtain ⟨U, hU, rfl⟩ := List.mem_map.1 hp
    obtain ⟨u1, u2⟩ := List.mem_filter.1 hU
    have uL := (treA_iff hn hg U).1 u1
    have m1 := (mem1 U u2 (g U).1).1.2 rfl
    have m2 := (mem1 U u2 (g U).2).2.2 rfl
    show g U ∈ F.flatMap _
    rw [List.mem_flatMap]
    refine ⟨(g U).1, (hFm _).2 ⟨(alls_mem _ _).2 (uL.2.2.1 _ m1.1), m1.2⟩, ?_⟩
    rw [List.mem_map]
    refine ⟨(g U).2, List.mem_filter.2 ⟨m2.1, pdc_iff.2 ?_⟩, rfl⟩
    refine Classical.byContradiction fun hc => ?_
    refine tr.noswap (U := U) m2.1 (f := (g U).1) (fun w => hc w.2) (fun x hx => ?_) uL.2.2.2
    by_cases hxT : x ∈ T
    · refine .inl (wo1_mem.2 ⟨hxT, fun e => ?_⟩)
      rw [e] at hx
      exact m2.2 hx
    · exact .inr ((mem1 U u2 x).1.1 ⟨hx, hxT⟩)
end Go.Proofs.Ytlcipphiflcaiaa.Ai
namespace Go.Proofs.Ytlcipphiflcaiaa.Ai
open Go
def ords50 : List (Nat × List (Nat × Bool)) := []
def cd50 : Cd := (.seq (.reg [⟨⟨some 2, Op.assign (Operand.const (Value.slice none 0 0)), none⟩, []⟩]) (.seq (.seq (.reg [⟨⟨some 3, Op.move (Operand.tmp 0), none⟩, []⟩,
  ⟨⟨some 4, Op.binOp BinOp.eql 25 (Operand.tmp 3) (Operand.const (Value.slice none 0 0)) 25, none⟩, []⟩]) (.cond (Operand.tmp 4) (.seq (.reg [⟨⟨some 2, Op.assign (Operand.const (Value.slice none 0 0)), none⟩, []⟩]) .ret) .skip)) (.seq (.reg [⟨⟨some 5, Op.buildSlice 25 0 #[], none⟩, []⟩,
  ⟨⟨some 6, Op.move (Operand.tmp 0), none⟩, []⟩,
  ⟨⟨some 7, Op.call { callee := (Callee.builtin Builtin.append), args := #[(Operand.tmp 5), (Operand.tmp 6)], argTypes := #[25, 25] }, none⟩, []⟩,
  ⟨⟨some 2, Op.assign (Operand.tmp 7), none⟩, []⟩]) .ret)))
theorem sl50 : slim Try.f50.ntmps ords50 (Try.f50.body.getD .skip) = some cd50 := by kernel_rfl
theorem in50 {args : List Value} {H : AH} {R : Value → AH → Prop} (hl : args.length = 1) (h : ∀ (Q : Exit → Sl → AH → Prop), (∀ e s H, endA Try.prog [ResultVar.tmp 2] R e s H → Q e s H) → wpC Try.prog cd50 Q (enterA args) H) : ACalls Try.prog 50 args H R :=
  ACalls.intro (by kernel_rfl) Try.func50 rfl (by kernel_rfl) sl50 hl (of_decide_eq_true (by kernel_rfl)) (by kernel_rfl) h
end Go.Proofs.Ytlcipphiflcaiaa.Ai
namespace Go.Proofs.Ytlcipphiflcaiaa.Ai
open Go Go.RowKit
set_option linter.unusedVariables false
set_option linter.unusedSimpArgs false
set_option maxRecDepth 20000 in
theorem Clone_c (v : Value) (xs : List Int) (H : AH) (hr : Row 3 H v xs) (hlen : xs.length ≤ 1099511627776) : ACalls Try.prog 50 [v] H fun r H' => Own 3 H H' r xs ∧ H <+: H' := by
  refine in50 rfl ?_
  intro Q hQ
  obtain ⟨p, e⟩ := hr.shape
  subst e
  simp (maxSteps := 1000000) (disch := omega) only [cd50, S, S1, S2, S3, S4, S5, ST, eq_self, reduceIte, reduceCtorEq, Nat.reduceEqDiff, Nat.reduceAdd]
  refine brH.intro (fun g => ?_) (fun g => ?_) <;> simp (maxSteps := 1000000) (disch := omega) only [S, S1, S2, S3, S4, S5, ST, eq_self, reduceIte, reduceCtorEq, Nat.reduceEqDiff, Nat.reduceAdd]
  · refine hQ _ _ _ ?_
    simp (maxSteps := 1000000) (disch := omega) only [S, S1, S2, S3, S4, S5, ST, eq_self, reduceIte, reduceCtorEq, Nat.reduceEqDiff, Nat.reduceAdd]
    have : xs = [] := by
      rcases hr with h | ⟨o, k, vs, ro, h1, _⟩
      · exact h.2
      · cases p with
        | none => cases h1
        | some p => cases g
    exact ⟨.inl ⟨rfl, this⟩, List.prefix_refl _⟩
  · have hp := List.prefix_append H [AObj.cells [] 3 false]
    have ho : Own 3 H (H ++ [AObj.cells [] 3 false]) (.slice (some ⟨H.length, 0, none⟩) 0 0) [] := .inr ⟨H.length, rfl, Nat.le_refl _, at_new ..⟩
    obtain ⟨v', H2, k1, k2, k3, _⟩ := ho.app (P := Try.prog) (t := 25) Try.underlying25 cs3 (by rw [by3]; decide) zk3 (hr.pre hp) hp (by simp; omega)
    simp (maxSteps := 1000000) (disch := omega) only [k1, S, S1, S2, S3, S4, S5, ST, eq_self, reduceIte, reduceCtorEq, Nat.reduceEqDiff, Nat.reduceAdd]
    refine hQ _ _ _ ?_
    simp (maxSteps := 1000000) (disch := omega) only [k2.row.tup, S, S1, S2, S3, S4, S5, ST, eq_self, reduceIte, reduceCtorEq, Nat.reduceEqDiff, Nat.reduceAdd]
    exact ⟨k2, k3⟩
end Go.Proofs.Ytlcipphiflcaiaa.Ai
namespace Go.Proofs.Ytlcipphiflcaiaa.Ai
open Go Go.RowKit
set_option linter.unusedVariables false
set_option linter.unusedSimpArgs false
/-- the list so far in the variable pe, and what stays (fx) -/
structure LSt (HB : AH) (fx : List (Nat × AObj)) (pe : Nat) (F : Nat → Prop) (H : AH) (ed : List Int) : Prop where
  fix : ∀ q ∈ fx, H[q.1]? = some q.2 ∧ ¬ F q.1 ∧ q.1 ≠ pe
  e : ∃ oe zs, H[pe]? = some (.cells [.slice (some ⟨oe, 0, none⟩) ed.length ed.length] 25 false) ∧ H[oe]? = some (.cells (ints zs) 3 false) ∧ zs.take ed.length = ed ∧ ¬ F oe ∧ oe ≠ pe ∧ (∀ q ∈ fx, q.1 ≠ oe) ∧ HB.length ≤ oe
  out : ¬ F pe
  lo : HB.length ≤ pe
  pre : HB <+: H
section
variable {HB : AH} {fx : List (Nat × AObj)} {pe : Nat} {F F' : Nat → Prop} {H H' : AH} {ed : List Int}
/-- what changes other objects leaves all this -/
theorem LSt.cb (h : LSt HB fx pe F H ed) (hlive : ∀ o, F o → HB.length ≤ o) (hF : ∀ o, F' o → F o ∨ H.length ≤ o) (hk : ∀ o y, ¬ F o → H[o]? = some y → H'[o]? = some y) : LSt HB fx pe F' H' ed := by
  obtain ⟨oe, zs, e1, e2, e3, e4, e5⟩ := h.e
  have no : ∀ {o x}, ¬ F o → H[o]? = some x → ¬ F' o := fun ho hx hf => by
    rcases hF _ hf with g | g
    · exact ho g
    · have := at_lt hx; omega
  refine ⟨fun q hq => ?_, ⟨oe, zs, hk _ _ h.out e1, hk _ _ e4 e2, e3, no e4 e2, e5⟩, no h.out e1, h.lo, ?_⟩
  · obtain ⟨q1, q2, q3⟩ := h.fix q hq
    exact ⟨hk _ _ q2 q1, no q2 q1, q3⟩
  · exact prefix_of fun o x hx => hk o x (fun hf => by have := hlive o hf; have := at_lt hx; omega) (pre_at h.pre hx)
theorem LSt.row (h : LSt HB fx pe F H ed) : ∃ w, cellA H pe 0 = some w ∧ Row 3 H w ed ∧ ¬ F (rowO w) ∧ isTup w = false := by
  obtain ⟨oe, zs, e1, e2, e3, e4, e5⟩ := h.e
  refine ⟨_, cell_of e1 0, ?_, e4, rfl⟩
  have hzl : ed.length ≤ zs.length := by
    have := congrArg List.length e3
    rw [List.length_take] at this; omega
  refine .inr ⟨oe, 0, ints zs, false, rfl, e2, by rw [ints_len]; omega, ?_⟩
  rw [List.drop_zero]
  have : (ints zs).take ed.length = ints (zs.take ed.length) := by simp [ints, List.map_take]
  rw [this, e3]
/-- one more -/
theorem LSt.push (h : LSt HB fx pe F H ed) (hlive : ∀ o, F o → o < H.length) (hb : ed.length ≤ 1048576) (x : Int) :
    ∃ w H2 H3, cellA H pe 0 = some (.slice (some w) ed.length ed.length) ∧ appendA Try.prog 25 25 (.slice (some w) ed.length ed.length) (.slice (some ⟨H.length, 0, none⟩) 1 1) (H ++ [.cells [.int .i64 x] 3 false]) = some (.slice (some ⟨H.length + 1, 0, none⟩) (ed.length + 1) (ed.length + 1), H2) ∧
      storeA Try.prog 25 (.pointer (some ⟨pe, 0, none⟩)) (.slice (some ⟨H.length + 1, 0, none⟩) (ed.length + 1) (ed.length + 1)) H2 = some H3 ∧ LSt HB fx pe F H3 (ed ++ [x]) ∧ (∀ o y, F o → H[o]? = some y → H3[o]? = some y) ∧ H.length ≤ H3.length ∧
      ∀ o y, o ≠ pe → (∀ w', cellA H pe 0 = some w' → o ≠ rowO w') → H[o]? = some y → H3[o]? = some y := by
  obtain ⟨oe, zs, e1, e2, e3, e4, e8, e5, e9⟩ := h.e
  have hzl : ed.length ≤ zs.length := by
    have := congrArg List.length e3
    rw [List.length_take] at this; omega
  have k1 := app_q (P := Try.prog) (t := 25) (k := 0) (n := ed.length) (c := ed.length) (x := x) Try.underlying25 cs3 (by rw [by3]; decide) zk3 e2 (by omega) (by omega)
  rw [List.drop_zero, e3] at k1
  have at_ : ∀ {o y}, o ≠ oe → H[o]? = some y → (H.set oe .dead ++ [AObj.cells [.int .i64 x] 3 false, .cells (ints (ed ++ [x])) 3 false])[o]? = some y := by
    intro o y ho hy
    rw [List.getElem?_append_left (by simpa using at_lt hy), List.getElem?_set_ne (fun e => ho e.symm)]
    exact hy
  have a1 := at_ (fun e => e8 e.symm) e1
  have hst := st_at (P := Try.prog) (t := 25) (i := 0) (y := .slice (some ⟨H.length + 1, 0, none⟩) (ed.length + 1) (ed.length + 1)) cs25 a1 (by show 0 < 1; decide) rfl rfl
  have l1 := at_lt e1
  have l2 := at_lt e2
  have aw : ∀ {o y}, o ≠ oe → o ≠ pe → H[o]? = some y → ((H.set oe .dead ++ [AObj.cells [.int .i64 x] 3 false, .cells (ints (ed ++ [x])) 3 false]).set pe (.cells ([Value.slice (some ⟨oe, 0, none⟩) ed.length ed.length].set 0 (.slice (some ⟨H.length + 1, 0, none⟩) (ed.length + 1) (ed.length + 1))) 25 false))[o]? = some y := by
    intro o y ho1 ho2 hy
    rw [List.getElem?_set_ne (fun e => ho2 e.symm)]
    exact at_ ho1 hy
  have lo := h.lo
  refine ⟨_, _, _, cell_of e1 0, k1, hst, ⟨fun q hq => ?_, ⟨H.length + 1, ed ++ [x], ?_, ?_, ?_, ?_, by omega, fun q hq => ?_, by have := h.pre.length_le; omega⟩, h.out, h.lo, ?_⟩, ?_, by simp, ?_⟩
  · obtain ⟨q1, q2, q3⟩ := h.fix q hq
    exact ⟨aw (e5 q hq) q3 q1, q2, q3⟩
  · rw [List.getElem?_set_self (by simp; omega)]
    simp
  · rw [List.getElem?_set_ne (by omega), List.getElem?_append_right (by simp)]
    simp
  · rw [List.take_of_length_le (Nat.le_refl _)]
  · intro hf; have := hlive _ hf; omega
  · have := at_lt (h.fix q hq).1; omega
  · exact prefix_of fun o y hy => aw (by have := at_lt hy; omega) (by have := at_lt hy; omega) (pre_at h.pre hy)
  · intro o y hf hy
    exact aw (fun e => e4 (e ▸ hf)) (fun e => h.out (e ▸ hf)) hy
  · intro o y ho1 ho2 hy
    exact aw (ho2 _ (cell_of e1 0)) ho1 hy
/-- the last one away -/
theorem LSt.pop {x : Int} (h : LSt HB fx pe F H (ed ++ [x])) :
    ∃ w c, cellA H pe 0 = some (.slice (some w) (ed.length + 1) c) ∧ sliceA Try.prog 25 (.slice (some w) (ed.length + 1) c) none (some (.int .i64 (ed.length : Int))) none H = some (.slice (some w) ed.length ed.length) ∧
      ∃ H3, storeA Try.prog 25 (.pointer (some ⟨pe, 0, none⟩)) (.slice (some w) ed.length ed.length) H = some H3 ∧ LSt HB fx pe F H3 ed ∧ (∀ o y, F o → H[o]? = some y → H3[o]? = some y) ∧ H3.length = H.length := by
  obtain ⟨oe, zs, e1, e2, e3, e4, e8, e5, e9⟩ := h.e
  have hl : (ed ++ [x]).length = ed.length + 1 := by simp
  rw [hl] at e1 e3
  have hz : zs.take ed.length = ed := by
    have := congrArg (List.take ed.length) e3
    rw [List.take_take, Nat.min_eq_left (by omega)] at this
    simpa using this
  have hsl := sl_own (P := Try.prog) (t := 25) (k := 0) (n := ed.length + 1) (c := ed.length + 1) Try.underlying25 cs3 e2 lo_none (bound_some (k := .i64) (i := (ed.length : Int)) (by omega) (ed.length + 1)) (Nat.zero_le _) (by omega)
  simp only [Int.toNat_natCast, Nat.add_zero, Nat.sub_zero] at hsl
  have hst := st_at (P := Try.prog) (t := 25) (i := 0) (y := .slice (some ⟨oe, 0, none⟩) ed.length ed.length) cs25 e1 (by show 0 < 1; decide) rfl rfl
  have aw : ∀ {o y}, o ≠ pe → H[o]? = some y → (H.set pe (.cells ([Value.slice (some ⟨oe, 0, none⟩) (ed.length + 1) (ed.length + 1)].set 0 (.slice (some ⟨oe, 0, none⟩) ed.length ed.length)) 25 false))[o]? = some y := by
    intro o y ho hy
    rw [List.getElem?_set_ne (fun e => ho e.symm)]; exact hy
  have lo := h.lo
  refine ⟨_, _, cell_of e1 0, hsl, _, hst, ⟨fun q hq => ?_, ⟨oe, zs, ?_, aw e8 e2, hz, e4, e8, e5, e9⟩, h.out, h.lo, ?_⟩, fun o y hf hy => aw (fun e => h.out (e ▸ hf)) hy, by simp⟩
  · obtain ⟨q1, q2, q3⟩ := h.fix q hq
    exact ⟨aw q3 q1, q2, q3⟩
  · rw [List.getElem?_set_self (at_lt e1)]; rfl
  · exact prefix_of fun o y hy => aw (by have := at_lt hy; omega) (pre_at h.pre hy)
end
/-- the objects of a list of lists -/
def Obs (o : Nat) (us : List Value) (ls : List (List Int)) (j : Nat) : Prop := j = o ∨ ∃ i, i < ls.length ∧ us.getD i undef ≠ .slice none 0 0 ∧ j = rowO (us.getD i undef)
theorem InU.refit2 {lo hi : Nat} {e2 e : TypeId} {H H' : AH} {o : Nat} {us : List Value} {ls : List (List Int)} (h : InU lo hi e2 e H o us ls) (hk : ∀ j y, Obs o us ls j → H[j]? = some y → H'[j]? = some y) : InU lo H'.length e2 e H' o us ls := by
  obtain ⟨h1, h2, h3, h4, h5, h6⟩ := h
  have k3 := hk _ _ (.inl rfl) h3
  refine ⟨h1, at_lt k3, k3, h4, fun i hi => ⟨?_, (h5 i hi).2⟩, h6⟩
  rcases (h5 i hi).1 with g | ⟨oo, zs, g1, g2, g3, g4, g5⟩
  · exact .inl g
  · have := hk oo _ (.inr ⟨i, hi, (by rw [g1]; intro e; cases e), (by rw [g1]; rfl)⟩) g4
    exact .inr ⟨oo, zs, g1, g2, at_lt this, this, g5⟩
theorem InU.obs {lo hi : Nat} {e2 e : TypeId} {H : AH} {o : Nat} {us : List Value} {ls : List (List Int)} (h : InU lo hi e2 e H o us ls) {j : Nat} (hj : Obs o us ls j) : lo ≤ j ∧ j < hi := by
  obtain ⟨h1, h2, h3, h4, h5, h6⟩ := h
  rcases hj with rfl | ⟨i, hi, hn, rfl⟩
  · exact ⟨h1, h2⟩
  · rcases (h5 i hi).1.at_ with g | g
    · exact absurd g hn
    · exact g
theorem getD_snoc {us : List Value} {n i : Nat} {c : Value} (hn : n ≤ us.length) : (us.take n ++ [c]).getD i undef = if i < n then us.getD i undef else if i = n then c else undef := by
  rw [List.getD_eq_getElem?_getD, List.getElem?_append]
  have hl : (us.take n).length = n := by simp; omega
  rw [hl]
  split
  · rw [List.getElem?_take, if_pos (by assumption), List.getD_eq_getElem?_getD]
  · split
    · rename_i h; subst h; simp
    · rw [List.getElem?_eq_none (by simp; omega)]; rfl
/-- the lists found so far, in the variable po -/
def IOut (HB : AH) (po : Nat) (out : List (List Int)) (F : Nat → Prop) (H : AH) : Prop :=
  ∃ o us, H[po]? = some (.cells [.slice (some ⟨o, 0, none⟩) out.length out.length] 27 false) ∧ InU HB.length H.length 25 3 H o us out ∧ HB.length ≤ po ∧ ¬ Obs o us out po ∧ F = fun j => j = po ∨ Obs o us out j
theorem IOut.live {HB H : AH} {po : Nat} {out : List (List Int)} {F : Nat → Prop} (h : IOut HB po out F H) {o : Nat} (ho : F o) : o < H.length ∧ HB.length ≤ o := by
  obtain ⟨oo, us, h1, h2, h3, h4, rfl⟩ := h
  have ho' : o = po ∨ Obs oo us out o := ho
  rcases ho' with rfl | hj
  · exact ⟨at_lt h1, h3⟩
  · have := h2.obs hj
    exact ⟨this.2, this.1⟩
theorem IOut.keep {HB H H' : AH} {po : Nat} {out : List (List Int)} {F : Nat → Prop} (h : IOut HB po out F H) (hk : ∀ o y, F o → H[o]? = some y → H'[o]? = some y) : IOut HB po out F H' := by
  obtain ⟨oo, us, h1, h2, h3, h4, rfl⟩ := h
  exact ⟨oo, us, hk _ _ (.inl rfl) h1, h2.refit2 fun j y hj hy => hk _ _ (.inr hj) hy, h3, h4, rfl⟩
/-- one more list, a copy -/
theorem IOut.push {HB H C : AH} {po : Nat} {out : List (List Int)} {F : Nat → Prop} (h : IOut HB po out F H) (hp : HB <+: H) {c : Value} {xs : List Int} (pC : H <+: C) (hc : Own 3 H C c xs) (hb : out.length ≤ 1000000000) :
    ∃ w H3 H4, cellA H po 0 = some (.slice (some w) out.length out.length) ∧ cellA C po 0 = some (.slice (some w) out.length out.length) ∧ buildSliceA Try.prog 27 1 [(0, c)] C = some (.slice (some ⟨C.length, 0, none⟩) 1 1, C ++ [.cells [c] 25 false]) ∧
      appendA Try.prog 27 27 (.slice (some w) out.length out.length) (.slice (some ⟨C.length, 0, none⟩) 1 1) (C ++ [.cells [c] 25 false]) = some (.slice (some ⟨C.length + 1, 0, none⟩) (out.length + 1) (out.length + 1), H3) ∧
      storeA Try.prog 27 (.pointer (some ⟨po, 0, none⟩)) (.slice (some ⟨C.length + 1, 0, none⟩) (out.length + 1) (out.length + 1)) H3 = some H4 ∧
      ∃ F', IOut HB po (out ++ [xs]) F' H4 ∧ (∀ o, F' o → F o ∨ H.length ≤ o) ∧ ∀ o y, ¬ F o → H[o]? = some y → H4[o]? = some y := by
  obtain ⟨o, us, h2, h3, h4, h7, rfl⟩ := h
  have c2 := pre_at pC h2
  have hinw := InI.of hc.mine
  obtain ⟨H3, k1, k2, k3, k4⟩ := (h3.pre pC).app1 (P := Try.prog) (t2 := 27) Try.underlying27 cs25 (by rw [by25]; decide) zk25 hinw hp.length_le pC.length_le (Nat.le_refl _) (by omega)
  have hbs : buildSliceA Try.prog 27 1 [(0, c)] C = some (.slice (some ⟨C.length, 0, none⟩) 1 1, C ++ [.cells [c] 25 false]) := by
    obtain ⟨q, eq⟩ := hc.row.shape
    rw [eq]
    exact bs1 Try.underlying27 cs25 ze25 ⟨by kernel_rfl, by kernel_rfl⟩ C rfl
  have lC := pC.length_le
  have l2 := at_lt h2
  have d2 := k4 po _ (fun e => h7 (.inl e)) c2
  have hst := st_at (P := Try.prog) (t := 27) (i := 0) (y := .slice (some ⟨C.length + 1, 0, none⟩) (out.length + 1) (out.length + 1)) cs27 d2 (by show 0 < 1; decide) rfl rfl
  have e2 : (H3.set po (.cells ([Value.slice (some ⟨o, 0, none⟩) out.length out.length].set 0 (.slice (some ⟨C.length + 1, 0, none⟩) (out.length + 1) (out.length + 1))) 27 false))[po]? = some (.cells [.slice (some ⟨C.length + 1, 0, none⟩) (out.length + 1) (out.length + 1)] 27 false) := by
    rw [List.getElem?_set_self (by omega)]; rfl
  have hal : (out ++ [xs]).length = out.length + 1 := by simp
  have hcO : c = .slice none 0 0 ∨ H.length ≤ rowO c := by
    rcases hc with ⟨q, _⟩ | ⟨oc, q, hoc, _⟩
    · exact .inl q
    · exact .inr (by rw [q]; exact hoc)
  have hul := h3.2.2.2.1
  have aw2 : Away po (C.length + 1) (us.take out.length ++ [c]) (out ++ [xs]) := by
    refine ⟨by omega, fun i hi => ?_⟩
    rw [hal] at hi
    rw [getD_snoc hul]
    split
    · rename_i hi2
      by_cases hn : us.getD i undef = .slice none 0 0
      · exact .inl hn
      · exact .inr fun e => h7 (.inr ⟨i, hi2, hn, e.symm⟩)
    · rw [if_pos (by omega)]
      exact hcO.imp id fun q => by omega
  have k2' := (k2.wide (Nat.le_refl _) (Nat.le_of_eq k3.symm) : InU HB.length H3.length 25 3 H3 _ _ _)
  refine ⟨_, H3, _, cell_of h2 0, cell_of c2 0, hbs, k1, hst, fun j => j = po ∨ Obs (C.length + 1) (us.take out.length ++ [c]) (out ++ [xs]) j, ⟨C.length + 1, us.take out.length ++ [c], by rw [hal]; exact e2, ?_, h4, ?_, rfl⟩, ?_, ?_⟩
  · have := k2'.moveq aw2 (H' := H3.set po (.cells ([Value.slice (some ⟨o, 0, none⟩) out.length out.length].set 0 (.slice (some ⟨C.length + 1, 0, none⟩) (out.length + 1) (out.length + 1))) 27 false)) (fun j y hj hy => by rw [List.getElem?_set_ne (fun e => hj e.symm)]; exact hy)
    simpa using this
  · rintro (e | ⟨i, hi, hn, e⟩)
    · omega
    · rcases aw2.2 i hi with q | q
      · exact hn q
      · exact q e.symm
  · rintro j (e | e | ⟨i, hi, hn, e⟩)
    · exact .inl (.inl e)
    · exact .inr (by omega)
    · rw [getD_snoc hul] at hn e
      rw [hal] at hi
      by_cases hi2 : i < out.length
      · rw [if_pos hi2] at hn e
        exact .inl (.inr (.inr ⟨i, hi2, hn, e⟩))
      · rw [if_neg hi2, if_pos (by omega)] at hn e
        rcases hcO with q | q
        · exact absurd q hn
        · exact .inr (by omega)
  · intro j y hj hy
    rw [List.getElem?_set_ne (fun e => hj (.inl e.symm))]
    exact k4 j y (fun e => hj (.inr (.inl e))) (pre_at pC hy)
end Go.Proofs.Ytlcipphiflcaiaa.Ai
namespace Go.Proofs.Ytlcipphiflcaiaa.Ai
open Go Go.RowKit
set_option linter.unusedVariables false
/-- all but one object stays -/
def Keeps (o : Nat) (H H' : AH) : Prop := H.length ≤ H'.length ∧ ∀ (j : Nat) (y : AObj), j ≠ o → H[j]? = some y → H'[j]? = some y
theorem Keeps.trans {o : Nat} {H H' H'' : AH} (h : Keeps o H H') (k : Keeps o H' H'') : Keeps o H H'' := ⟨Nat.le_trans h.1 k.1, fun j y hj hy => k.2 j y hj (h.2 j y hj hy)⟩
theorem Keeps.of_pre {o : Nat} {H H' : AH} (h : H <+: H') : Keeps o H H' := ⟨h.length_le, fun j y _ hy => pre_at h hy⟩
theorem cutC {P : Program} {a b : Cd} {Q : Exit → Sl → AH → Prop} {s : Sl} {H : AH} (R : Sl → AH → Prop) (h1 : ∀ c, (∀ s H, R s H → wpC P c Q s H) → wpC P a (thenA (wpC P c Q) Q) s H) (h2 : ∀ s H, R s H → wpC P b Q s H) : wpC P (.seq a b) Q s H := h1 b h2
end Go.Proofs.Ytlcipphiflcaiaa.Ai
namespace Go.Proofs.Ytlcipphiflcaiaa.Ai
open Go
def ords53 : List (Nat × List (Nat × Bool)) := []
def cd53 : Cd := (.seq (.reg [⟨⟨some 2, Op.assign (Operand.const (Value.slice none 0 0)), none⟩, []⟩]) (.seq (.reg [⟨⟨some 5, Op.buildSlice 70 0 #[], none⟩, []⟩,
  ⟨⟨some 3, Op.assign (Operand.tmp 5), none⟩, []⟩]) (.seq (.seq (.reg [⟨⟨some 6, Op.move (Operand.tmp 0), none⟩, []⟩,
  ⟨⟨some 7, Op.move (Operand.const (Value.int IntKind.i64 0)), none⟩, []⟩]) (.block 0 (.loop (.seq (.reg [⟨⟨some 8, Op.binOp BinOp.lss 3 (Operand.tmp 7) (Operand.tmp 6) 3, none⟩, []⟩]) (.seq (.cond (Operand.tmp 8) .skip (.exit 0)) (.seq (.block 1 (.seq (.reg [⟨⟨some 9, Op.move (Operand.tmp 7), none⟩, []⟩,
  ⟨⟨some 4, Op.assign (Operand.tmp 9), none⟩, []⟩]) (.reg [⟨⟨some 10, Op.move (Operand.tmp 3), none⟩, []⟩,
  ⟨⟨some 11, Op.move (Operand.tmp 4), none⟩, []⟩,
  ⟨⟨some 12, Op.buildSlice 70 1 #[(0, (Operand.tmp 11))], none⟩, []⟩,
  ⟨⟨some 13, Op.call { callee := (Callee.builtin Builtin.append), args := #[(Operand.tmp 10), (Operand.tmp 12)], argTypes := #[70, 70] }, none⟩, []⟩,
  ⟨⟨some 3, Op.assign (Operand.tmp 13), none⟩, []⟩]))) (.reg [⟨⟨some 14, Op.binOp BinOp.add 3 (Operand.tmp 7) (Operand.const (Value.int IntKind.i64 1)) 3, none⟩, []⟩,
  ⟨⟨some 7, Op.move (Operand.tmp 14), none⟩, []⟩]))))))) (.seq (.reg [⟨⟨some 15, Op.move (Operand.tmp 3), none⟩, []⟩,
  ⟨⟨some 2, Op.assign (Operand.tmp 15), none⟩, []⟩]) .ret))))
theorem sl53 : slim Try.f53.ntmps ords53 (Try.f53.body.getD .skip) = some cd53 := by kernel_rfl
theorem in53 {args : List Value} {H : AH} {R : Value → AH → Prop} (hl : args.length = 1) (h : ∀ (Q : Exit → Sl → AH → Prop), (∀ e s H, endA Try.prog [ResultVar.tmp 2] R e s H → Q e s H) → wpC Try.prog cd53 Q (enterA args) H) : ACalls Try.prog 53 args H R :=
  ACalls.intro (by kernel_rfl) Try.func53 rfl (by kernel_rfl) sl53 hl (of_decide_eq_true (by kernel_rfl)) (by kernel_rfl) h
def ords67 : List (Nat × List (Nat × Bool)) := []
def cd67 : Cd := (.seq (.reg [⟨⟨some 4, Op.assign (Operand.const (Value.int IntKind.i64 0)), none⟩, []⟩]) (.seq (.block 0 (.loop (.seq (.seq (.reg [⟨⟨some 5, Op.move (Operand.tmp 0), none⟩, []⟩,
  ⟨⟨some 6, Op.move (Operand.tmp 1), none⟩, []⟩,
  ⟨⟨some 7, Op.indexAddr 70 (Operand.tmp 5) (Operand.tmp 6), none⟩, []⟩,
  ⟨⟨some 8, Op.load 3 (Operand.tmp 7), none⟩, []⟩,
  ⟨⟨some 9, Op.move (Operand.tmp 1), none⟩, []⟩,
  ⟨⟨some 10, Op.binOp BinOp.neq 3 (Operand.tmp 8) (Operand.tmp 9) 3, none⟩, []⟩]) (.cond (Operand.tmp 10) .skip (.exit 0))) (.block 1 (.reg [⟨⟨some 11, Op.move (Operand.tmp 0), none⟩, []⟩,
  ⟨⟨some 12, Op.move (Operand.tmp 1), none⟩, []⟩,
  ⟨⟨some 13, Op.indexAddr 70 (Operand.tmp 11) (Operand.tmp 12), none⟩, []⟩,
  ⟨⟨some 14, Op.load 3 (Operand.tmp 13), none⟩, []⟩,
  ⟨⟨some 1, Op.assign (Operand.tmp 14), none⟩, []⟩]))))) (.seq (.reg [⟨⟨some 15, Op.move (Operand.tmp 1), none⟩, []⟩,
  ⟨⟨some 4, Op.assign (Operand.tmp 15), none⟩, []⟩]) .ret)))
theorem sl67 : slim Try.f67.ntmps ords67 (Try.f67.body.getD .skip) = some cd67 := by kernel_rfl
theorem in67 {args : List Value} {H : AH} {R : Value → AH → Prop} (hl : args.length = 2) (h : ∀ (Q : Exit → Sl → AH → Prop), (∀ e s H, endA Try.prog [ResultVar.tmp 4] R e s H → Q e s H) → wpC Try.prog cd67 Q (enterA args) H) : ACalls Try.prog 67 args H R :=
  ACalls.intro (by kernel_rfl) Try.func67 rfl (by kernel_rfl) sl67 hl (of_decide_eq_true (by kernel_rfl)) (by kernel_rfl) h
def ords52 : List (Nat × List (Nat × Bool)) := [(1, [(0, false), (1, false), (2, false), (4, false), (5, false), (6, false), (3, true), (7, true), (8, false), (9, false)])]
def cd52 : Cd := (.seq (.reg [⟨⟨some 3, Op.box 65 (Operand.tmp 1), none⟩, []⟩,
  ⟨⟨some 4, Op.assign (Operand.const (Value.bool false)), none⟩, []⟩]) (.seq (.reg [⟨⟨some 7, Op.move (Operand.tmp 0), none⟩, []⟩,
  ⟨⟨some 8, Op.indexAddr 65 (Operand.tmp 3) (Operand.const (Value.int IntKind.i64 0)), none⟩, []⟩,
  ⟨⟨some 9, Op.load 3 (Operand.tmp 8), none⟩, []⟩,
  ⟨⟨some 11, Op.move (Operand.tmp 0), none⟩, []⟩,
  ⟨⟨some 12, Op.indexAddr 65 (Operand.tmp 3) (Operand.const (Value.int IntKind.i64 1)), none⟩, []⟩,
  ⟨⟨some 13, Op.load 3 (Operand.tmp 12), none⟩, []⟩,
  ⟨⟨some 10, Op.call { callee := (Callee.value (Operand.func 67)), args := #[(Operand.tmp 7), (Operand.tmp 9)], argTypes := #[70, 3] }, none⟩, [⟨some 13, Op.load 3 (Operand.tmp 12), none⟩]⟩,
  ⟨⟨some 14, Op.call { callee := (Callee.value (Operand.func 67)), args := #[(Operand.tmp 11), (Operand.tmp 13)], argTypes := #[70, 3] }, none⟩, []⟩,
  ⟨⟨some 5, Op.assign (Operand.tmp 10), none⟩, []⟩,
  ⟨⟨some 6, Op.assign (Operand.tmp 14), none⟩, []⟩]) (.seq (.reg [⟨⟨some 15, Op.move (Operand.tmp 0), none⟩, []⟩,
  ⟨⟨some 16, Op.move (Operand.tmp 5), none⟩, []⟩,
  ⟨⟨some 17, Op.move (Operand.tmp 6), none⟩, []⟩,
  ⟨⟨some 18, Op.indexAddr 70 (Operand.tmp 15) (Operand.tmp 16), none⟩, []⟩,
  ⟨⟨none, Op.store 3 (Operand.tmp 18) (Operand.tmp 17), none⟩, []⟩]) (.seq (.reg [⟨⟨some 19, Op.move (Operand.tmp 5), none⟩, []⟩,
  ⟨⟨some 20, Op.move (Operand.tmp 6), none⟩, []⟩,
  ⟨⟨some 21, Op.binOp BinOp.neq 3 (Operand.tmp 19) (Operand.tmp 20) 3, none⟩, []⟩,
  ⟨⟨some 4, Op.assign (Operand.tmp 21), none⟩, []⟩]) .ret))))
theorem sl52 : slim Try.f52.ntmps ords52 (Try.f52.body.getD .skip) = some cd52 := by kernel_rfl
theorem in52 {args : List Value} {H : AH} {R : Value → AH → Prop} (hl : args.length = 2) (h : ∀ (Q : Exit → Sl → AH → Prop), (∀ e s H, endA Try.prog [ResultVar.tmp 4] R e s H → Q e s H) → wpC Try.prog cd52 Q (enterA args) H) : ACalls Try.prog 52 args H R :=
  ACalls.intro (by kernel_rfl) Try.func52 rfl (by kernel_rfl) sl52 hl (of_decide_eq_true (by kernel_rfl)) (by kernel_rfl) h
end Go.Proofs.Ytlcipphiflcaiaa.Ai
namespace Go.Proofs.Ytlcipphiflcaiaa.Ai
open Go Go.RowKit
set_option linter.unusedVariables false
set_option linter.unusedSimpArgs false
/-- a forest: whither each node points, its root, its height -/
structure JS (n : Nat) (J : List Int) (rt d : Nat → Nat) : Prop where
  len : J.length = n
  nxt : ∀ x, x < n → ∃ y : Nat, J.getD x 0 = (y : Int) ∧ y < n ∧ rt y = rt x ∧ (y = x → rt x = x) ∧ (y ≠ x → d y < d x)
  top : ∀ x, x < n → rt x < n ∧ J.getD (rt x) 0 = (rt x : Int)
theorem JS.rr {n : Nat} {J : List Int} {rt d : Nat → Nat} (h : JS n J rt d) {x : Nat} (hx : x < n) : rt (rt x) = rt x := by
  obtain ⟨t1, t2⟩ := h.top x hx
  obtain ⟨y, y1, _, y3, y4, _⟩ := h.nxt (rt x) t1
  exact y4 (by rw [t2] at y1; omega)
theorem alls_at {n x : Nat} (h : x < n) : (alls n).getD x 0 = (x : Int) := by simp [alls, h]
theorem JS.zero (n : Nat) : JS n (alls n) id fun _ => 0 :=
  ⟨by simp [alls], fun x hx => ⟨x, alls_at hx, hx, rfl, fun _ => rfl, fun q => absurd rfl q⟩, fun x hx => ⟨hx, alls_at hx⟩⟩
theorem getD_setI (xs : List Int) (j v : Nat) (d : Int) (hj : j < xs.length) : (xs.set j d).getD v 0 = if j = v then d else xs.getD v 0 := by
  simp only [List.getD_eq_getElem?_getD, List.getElem?_set]
  split
  · rename_i e
    subst e
    first | rfl | (rw [if_pos hj]; rfl)
  · rfl
theorem JS.join {n : Nat} {J : List Int} {rt d : Nat → Nat} (h : JS n J rt d) {a b : Nat} (ha : a < n) (hb : b < n) :
    ∃ d', JS n (J.set (rt a) (rt b : Int)) (fun x => if rt x = rt a then rt b else rt x) d' := by
  have ra := h.rr ha
  have rb := h.rr hb
  have ta := h.top a ha
  have tb := h.top b hb
  have hl : rt a < J.length := by rw [h.len]; exact ta.1
  refine ⟨fun x => if rt x = rt a ∧ rt a ≠ rt b then d x + d (rt b) + 1 else d x, by rw [List.length_set]; exact h.len, fun x hx => ?_, fun x hx => ?_⟩
  · rw [getD_setI _ _ _ _ hl]
    by_cases e : rt a = x
    · refine ⟨rt b, if_pos e, tb.1, ?_, fun q => ?_, fun q => ?_⟩
      · show (if rt (rt b) = rt a then rt b else rt (rt b)) = if rt x = rt a then rt b else rt x
        rw [rb, ← e, ra, if_pos rfl]
        split <;> rfl
      · show (if rt x = rt a then rt b else rt x) = x
        rw [← e, ra, if_pos rfl, q, e]
      · show (if rt (rt b) = rt a ∧ rt a ≠ rt b then _ else _) < (if rt x = rt a ∧ rt a ≠ rt b then _ else _)
        have hne : rt a ≠ rt b := fun g => q (by rw [← g, e])
        rw [rb, if_neg (fun g => hne g.1.symm), ← e, ra, if_pos ⟨rfl, hne⟩]
        omega
    · obtain ⟨y, y1, y2, y3, y4, y5⟩ := h.nxt x hx
      refine ⟨y, by rw [if_neg e]; exact y1, y2, ?_, fun q => ?_, fun q => ?_⟩
      · show (if rt y = rt a then rt b else rt y) = if rt x = rt a then rt b else rt x
        rw [y3]
      · show (if rt x = rt a then rt b else rt x) = x
        have := y4 q
        rw [this, if_neg fun g => e g.symm]
      · show (if rt y = rt a ∧ rt a ≠ rt b then _ else _) < (if rt x = rt a ∧ rt a ≠ rt b then _ else _)
        have := y5 q
        rw [y3]
        split <;> omega
  · show (if rt x = rt a then rt b else rt x) < n ∧ (J.set (rt a) (rt b : Int)).getD (if rt x = rt a then rt b else rt x) 0 = ((if rt x = rt a then rt b else rt x : Nat) : Int)
    rw [getD_setI _ _ _ _ hl]
    have tx := h.top x hx
    by_cases e : rt x = rt a
    · rw [if_pos e]
      refine ⟨tb.1, ?_⟩
      split
      · rfl
      · exact tb.2
    · rw [if_neg e, if_neg fun g => e g.symm]
      exact tx
/-- a joiner after some edges -/
def JR (es : List (Int × Int)) (T : List Int) (n : Nat) (J : List Int) : Prop := ∃ rt d, JS n J rt d ∧ ∀ u v, u < n → v < n → (Jn es T u v ↔ rt u = rt v)
theorem JR.zero (es : List (Int × Int)) (n : Nat) : JR es [] n (alls n) := ⟨_, _, JS.zero n, fun u v _ _ => ⟨fun h => h.nil, fun h => by have : u = v := h; subst this; exact .refl u⟩⟩
theorem JR.congr {es : List (Int × Int)} {T U : List Int} {n : Nat} {J : List Int} (h : JR es T n J) (hs : ∀ x, x ∈ T ↔ x ∈ U) : JR es U n J := by
  obtain ⟨rt, d, h1, h2⟩ := h
  exact ⟨rt, d, h1, fun u v hu hv => ⟨fun q => (h2 u v hu hv).1 (q.mono fun x hx => (hs x).2 hx), fun q => ((h2 u v hu hv).2 q).mono fun x hx => (hs x).1 hx⟩⟩
theorem JS.rel {es : List (Int × Int)} {T U : List Int} {n : Nat} {J : List Int} {rt d : Nat → Nat} (h : JS n J rt d) (hr : ∀ u v, u < n → v < n → (Jn es T u v ↔ rt u = rt v)) {e : Int} (ha : enA es e < n) (hb : enB es e < n) (hs : ∀ x, x ∈ U ↔ x ∈ T ∨ x = e) :
    JR es U n (J.set (rt (enA es e)) (rt (enB es e) : Int)) := by
  obtain ⟨d', hj⟩ := h.join ha hb
  refine ⟨_, d', hj, fun u v hu hv => ?_⟩
  show _ ↔ (if rt u = rt (enA es e) then rt (enB es e) else rt u) = if rt v = rt (enA es e) then rt (enB es e) else rt v
  have sub : ∀ x ∈ T, x ∈ U := fun x hx => (hs x).2 (.inl hx)
  constructor
  · intro hj
    rcases Jn.add (fun x hx => (hs x).1 hx) hj with q | ⟨q1, q2⟩ | ⟨q1, q2⟩
    · rw [(hr u v hu hv).1 q]
    · rw [if_pos ((hr _ _ hu ha).1 q1), ← (hr _ _ hb hv).1 q2]
      split <;> rfl
    · have e2 := (hr _ _ ha hv).1 q2
      rw [if_pos e2.symm, (hr _ _ hu hb).1 q1]
      split <;> rfl
  · intro hq
    have ed : Jn es U (enA es e) (enB es e) := .edge e ((hs e).2 (.inr rfl))
    split at hq <;> split at hq
    · rename_i g1 g2
      exact ((hr u v hu hv).2 (g1.trans g2.symm)).mono sub
    · rename_i g1 g2
      exact (((hr _ _ hu ha).2 g1).mono sub).trans (ed.trans (((hr _ _ hb hv).2 hq).mono sub))
    · rename_i g1 g2
      exact (((hr _ _ hu hb).2 hq).mono sub).trans (ed.symm.trans (((hr _ _ ha hv).2 g2.symm).mono sub))
    · exact ((hr u v hu hv).2 hq).mono sub
theorem newJoiner_c (n : Nat) (H : AH) (hn : n ≤ 1000) : ACalls Try.prog 53 [.int .i64 (n : Int)] H fun r H' => Own 3 H H' r (alls n) ∧ H <+: H' := by
  refine in53 rfl ?_
  intro Q hQ
  simp (maxSteps := 1000000) (disch := omega) only [cd53, S, S1, S2, S3, S4, S5, ST, eq_self, reduceIte, reduceCtorEq, Nat.reduceEqDiff, Nat.reduceAdd]
  have hp := List.prefix_append H [AObj.cells [] 3 false]
  have own0 : Own 3 H (H ++ [AObj.cells [] 3 false]) (.slice (some ⟨H.length, 0, none⟩) 0 0) (alls 0) := .inr ⟨H.length, rfl, Nat.le_refl _, at_new ..⟩
  refine LoopH.by (fun m s H' => ∃ i : Nat, m + i = n ∧ s 6 = .int .i64 (n : Int) ∧ s 7 = .int .i64 ((i : Nat) : Int) ∧ Own 3 H H' (s 3) (alls i) ∧ H <+: H') n ?_ ?_
  · refine ⟨0, ?_⟩
    simp (maxSteps := 1000000) (disch := omega) only [S, S1, S2, S3, S4, S5, ST, eq_self, reduceIte, reduceCtorEq, Nat.reduceEqDiff, Nat.reduceAdd]
    (repeat' first | exact own0 | exact hp | apply And.intro) <;> first | (simp only [Value.int.injEq, true_and]; omega) | omega | rfl | assumption | (simp; done) | (simp; omega)
  rintro m s H' ⟨i, hm, h6, h7, hO, pH⟩
  generalize hU : s 3 = U at *
  simp (maxSteps := 1000000) (disch := omega) only [h6, h7, hU, S, S1, S2, S3, S4, S5, ST, eq_self, reduceIte, reduceCtorEq, Nat.reduceEqDiff, Nat.reduceAdd]
  refine brD.intro (fun g => ?_) (fun g => ?_)
  · obtain ⟨w, K, a1, a2, a3, a4, a5, a6⟩ := own1_70 hO pH (by simp [alls]; omega) (i : Int)
    have e1 : alls (i + 1) = alls i ++ [(i : Int)] := by simp [alls, List.range_succ]
    rw [← e1] at a2
    simp (maxSteps := 1000000) (disch := omega) only [h6, h7, hU, a1, wrap64, S, S1, S2, S3, S4, S5, ST, eq_self, reduceIte, reduceCtorEq, Nat.reduceEqDiff, Nat.reduceAdd]
    refine ⟨m - 1, by omega, i + 1, ?_⟩
    (repeat' first | exact a2 | exact a3 | apply And.intro) <;> first | (simp only [Value.int.injEq, true_and]; omega) | omega | rfl | assumption | (simp; done) | (simp; omega)
  · have hin : i = n := by omega
    subst hin
    simp (maxSteps := 1000000) (disch := omega) only [hU, S, S1, S2, S3, S4, S5, ST, eq_self, reduceIte, reduceCtorEq, Nat.reduceEqDiff, Nat.reduceAdd]
    refine hQ _ _ _ ?_
    simp (maxSteps := 1000000) (disch := omega) only [hO.row.tup, S, S1, S2, S3, S4, S5, ST, eq_self, reduceIte, reduceCtorEq, Nat.reduceEqDiff, Nat.reduceAdd]
    exact ⟨hO, pH⟩
theorem root_c {n : Nat} {J : List Int} {rt d : Nat → Nat} (hj : JS n J rt d) (v : Value) (H : AH) (hr : Row 3 H v J) (x : Nat) (hx : x < n) : ACalls Try.prog 67 [v, .int .i64 (x : Int)] H fun r H' => r = .int .i64 (rt x : Int) ∧ H = H' := by
  refine in67 rfl ?_
  intro Q hQ
  simp (maxSteps := 1000000) (disch := omega) only [cd67, S, S1, S2, S3, S4, S5, ST, eq_self, reduceIte, reduceCtorEq, Nat.reduceEqDiff, Nat.reduceAdd]
  refine LoopH.by (fun m s H' => ∃ z : Nat, m = d z ∧ z < n ∧ rt z = rt x ∧ s 0 = v ∧ s 1 = .int .i64 (z : Int) ∧ H = H') (d x) ?_ ?_
  · exact ⟨x, rfl, hx, rfl, rfl, rfl, rfl⟩
  rintro m s H' ⟨z, rfl, hz, hzr, h0, h1, rfl⟩
  obtain ⟨y, y1, y2, y3, y4, y5⟩ := hj.nxt z hz
  have hzl : z < J.length := by rw [hj.len]; exact hz
  have cc := hr.cell hzl
  rw [y1] at cc
  simp (maxSteps := 1000000) (disch := omega) only [h0, h1, hr.ix Try.underlying70 cs3, Int.toNat_natCast, cc, S, S1, S2, S3, S4, S5, ST, eq_self, reduceIte, reduceCtorEq, Nat.reduceEqDiff, Nat.reduceAdd]
  refine brD.intro (fun g => ?_) (fun g => ?_)
  · simp (maxSteps := 1000000) (disch := omega) only [h0, h1, hr.ix Try.underlying70 cs3, Int.toNat_natCast, cc, S, S1, S2, S3, S4, S5, ST, eq_self, reduceIte, reduceCtorEq, Nat.reduceEqDiff, Nat.reduceAdd]
    have f1 := y3.trans hzr
    refine ⟨d y, y5 (by omega), y, ?_⟩
    (repeat' first | exact rfl | exact y2 | exact f1 | apply And.intro) <;> first | (simp only [Value.int.injEq, true_and]; omega) | omega | rfl | assumption | (simp; done) | (simp; omega)
  · have e : y = z := by omega
    have := y4 e
    simp (maxSteps := 1000000) (disch := omega) only [h1, S, S1, S2, S3, S4, S5, ST, eq_self, reduceIte, reduceCtorEq, Nat.reduceEqDiff, Nat.reduceAdd]
    refine hQ _ _ _ ?_
    simp (maxSteps := 1000000) (disch := omega) only [S, S1, S2, S3, S4, S5, ST, eq_self, reduceIte, reduceCtorEq, Nat.reduceEqDiff, Nat.reduceAdd]
    rw [← hzr, this]
set_option maxHeartbeats 1000000 in
theorem joinS_c {n : Nat} {J : List Int} {rt d : Nat → Nat} (hj : JS n J rt d) (o : Nat) (H : AH) (ho : H[o]? = some (.cells (ints J) 3 false)) (a b : Nat) (ha : a < n) (hb : b < n) : ACalls Try.prog 52 [.slice (some ⟨o, 0, none⟩) n n, .agg (List.toArray [.int .i64 (a : Int), .int .i64 (b : Int)])] H fun r H' => r = .bool (decide (rt a ≠ rt b)) ∧ H'[o]? = some (.cells (ints (J.set (rt a) (rt b : Int))) 3 false) ∧ Keeps o H H' := by
  refine in52 rfl ?_
  intro Q hQ
  have bx : ∀ H : AH, boxA Try.prog 65 (.agg (List.toArray [.int .i64 (a : Int), .int .i64 (b : Int)])) H = some (.pointer (some ⟨H.length, 0, none⟩), H ++ [.cells [.int .i64 (a : Int), .int .i64 (b : Int)] 65 false]) := fun H => by kernel_rfl
  simp (maxSteps := 1000000) (disch := omega) only [cd52, bx, S, S1, S2, S3, S4, S5, ST, eq_self, reduceIte, reduceCtorEq, Nat.reduceEqDiff, Nat.reduceAdd]
  generalize hA : H ++ [AObj.cells [.int .i64 (a : Int), .int .i64 (b : Int)] 65 false] = A
  have pA : H <+: A := by rw [← hA]; exact List.prefix_append _ _
  have cA : A[H.length]? = some (.cells [.int .i64 (a : Int), .int .i64 (b : Int)] 65 false) := by rw [← hA]; exact at_new ..
  have oA := pre_at pA ho
  have rA : Row 3 A (.slice (some ⟨o, 0, none⟩) n n) J := .inr ⟨o, 0, _, false, by rw [hj.len], oA, by simp [ints_len], by rw [List.drop_zero, List.take_of_length_le (by simp [ints_len])]⟩
  simp (maxSteps := 1000000) (disch := omega) only [cell_of cA, S, S1, S2, S3, S4, S5, ST, eq_self, reduceIte, reduceCtorEq, Nat.reduceEqDiff, Nat.reduceAdd]
  refine CallH.by (root_c hj _ A rA a ha) ?_
  rintro _ _ ⟨rfl, rfl⟩
  simp (maxSteps := 1000000) (disch := omega) only [cell_of cA, S, S1, S2, S3, S4, S5, ST, eq_self, reduceIte, reduceCtorEq, Nat.reduceEqDiff, Nat.reduceAdd]
  refine CallH.by (root_c hj _ A rA b hb) ?_
  rintro _ _ ⟨rfl, rfl⟩
  have hra : rt a < J.length := by rw [hj.len]; exact (hj.top a ha).1
  have hran : rt a < n := (hj.top a ha).1
  have ix := rA.ix Try.underlying70 cs3 .i64 (i := (rt a : Int)) (by omega) (by omega)
  have st := st_ints (P := Try.prog) (t := 3) (x := (rt b : Int)) cs3 oA hra
  simp (maxSteps := 1000000) (disch := omega) only [ix, rowO, rowK, Int.toNat_natCast, Nat.zero_add, st, S, S1, S2, S3, S4, S5, ST, eq_self, reduceIte, reduceCtorEq, Nat.reduceEqDiff, Nat.reduceAdd]
  refine hQ _ _ _ ?_
  simp (maxSteps := 1000000) (disch := omega) only [S, S1, S2, S3, S4, S5, ST, eq_self, reduceIte, reduceCtorEq, Nat.reduceEqDiff, Nat.reduceAdd]
  refine ⟨?_, ?_, ?_⟩
  · rw [Value.bool.injEq, decide_eq_decide]
    omega
  · rw [List.getElem?_set_self (at_lt oA)]
  · exact (Keeps.of_pre pA).trans ⟨by simp, fun j y hj hy => by rw [List.getElem?_set_ne (fun e => hj e.symm)]; exact hy⟩
/-- one edge more -/
theorem join_c {es : List (Int × Int)} {T : List Int} {n : Nat} {J : List Int} (hj : JR es T n J) (o : Nat) (H : AH) (ho : H[o]? = some (.cells (ints J) 3 false)) (e : Int) (ha : enA es e < n) (hb : enB es e < n) (h1 : (es.getD e.toNat (0, 0)).1 = (enA es e : Int)) (h2 : (es.getD e.toNat (0, 0)).2 = (enB es e : Int)) :
    ACalls Try.prog 52 [.slice (some ⟨o, 0, none⟩) n n, .agg (List.toArray [.int .i64 (es.getD e.toNat (0, 0)).1, .int .i64 (es.getD e.toNat (0, 0)).2])] H fun r H' => ∃ (b : Bool) (J' : List Int), r = .bool b ∧ (b = true ↔ ¬ Jn es T (enA es e) (enB es e)) ∧ H'[o]? = some (.cells (ints J') 3 false) ∧ JR es (T ++ [e]) n J' ∧ Keeps o H H' := by
  obtain ⟨rt, d, hs, hr⟩ := hj
  rw [h1, h2]
  refine (joinS_c hs o H ho _ _ ha hb).mono fun r H' h => ?_
  refine ⟨_, _, h.1, ?_, h.2.1, hs.rel hr ha hb fun x => by simp, h.2.2⟩
  rw [decide_eq_true_eq, hr _ _ ha hb]
end Go.Proofs.Ytlcipphiflcaiaa.Ai
