/-
  No cell of these rows narrows 'for every input' (looked for: loops, veiled, ifaces, maps, wideKeys, modest, calm, conditions, laid).
  DERIVED. THE GIVEN ROWS OF THIS SEAT. 3 by the template 'for every input the law returns true; each argument reads behind the call as it read before'; 0 by the template 'total and deterministic' (their statements: YtjnefjchconebaaGreatTotals.lean).
  GIVEN WITH THE SEED: the statements are not yours to turn. If you find one false, say at which input.
  Laid BY PROGRAM, IN A SANDBOX (cutbox-rows.mjs): the forced cells as the released guide's own fill.sh prints them over the translation 792ac47c83aaf93d… (all of the seat's roots in one cut). By AI agents, Wed Nov 11 2026. No macro, syntax, notation, axiom, sorry.
-/
import Derived.Test.YtjnefjchconebaaGreatChecked
import GoSem.Claim
import GoSem.ClaimJoined
import GoSem.ClaimMapViews
import Derived.JoinedTies
import Derived.KernelRfl
namespace Go.Proofs.YtjnefjchconebaaGreat
/- THE CELL 'sum', in the pinned program and in every row, IS THE sha256 OF THE DUMP (.gsa) THAT YtjnefjchconebaaGreatProg.lean LOADS. Nothing in Lean hashes anything: it is a label: what it is worth is what the hold of that sum in a sandbox is worth. -/
noncomputable def Tryz.pinned : Pinned := { name := "ytjnefjchconebaagreat", sum := "792ac47c83aaf93daaa9bd3da1823c6af18712e1ff748eeea02671908c42ea6b", checked := Tryz.checked }
namespace Rows
def none {H : Type} : Left H := { results := [], args := [] }

/-- 'laws.FnTokenSwaps': WHATEVER THE INPUT: true; the input reads as it did. -/
def fnTokenSwapsSpec : ChangeSpec := { name := "fnTokenSwaps", fn := fun _ => fun
  | [d] => { results := [.lit (.bool true)], args := [d] }
  | _ => none }
def fnTokenSwapsRow : OpenClaim := { program := "ytjnefjchconebaagreat", sum := "792ac47c83aaf93daaa9bd3da1823c6af18712e1ff748eeea02671908c42ea6b", func := "loop.example/g01128/laws.FnTokenSwaps", spec := "fnTokenSwaps", unfollowed := true, recurses := true, apart := false }
def FnTokenSwapsSaid : Prop := fnTokenSwapsRow.holds Tryz.pinned (OpenSpec.ofChange fnTokenSwapsSpec)

/-- ITS FALSE NEIGHBOUR: 'it returns false'. Refute it at one input. -/
def fnTokenSwapsWrong : ChangeSpec := { name := "fnTokenSwaps", fn := fun _ => fun
  | [d] => { results := [.lit (.bool false)], args := [d] }
  | _ => none }
def FnTokenSwapsWrongFalsely : Prop := fnTokenSwapsRow.holds Tryz.pinned (OpenSpec.ofChange fnTokenSwapsWrong)

/-- 'laws.FnFlipDistances': WHATEVER THE INPUT: true; the input reads as it did. -/
def fnFlipDistancesSpec : ChangeSpec := { name := "fnFlipDistances", fn := fun _ => fun
  | [d] => { results := [.lit (.bool true)], args := [d] }
  | _ => none }
def fnFlipDistancesRow : OpenClaim := { program := "ytjnefjchconebaagreat", sum := "792ac47c83aaf93daaa9bd3da1823c6af18712e1ff748eeea02671908c42ea6b", func := "loop.example/g01128/laws.FnFlipDistances", spec := "fnFlipDistances", unfollowed := true, recurses := true, apart := false }
def FnFlipDistancesSaid : Prop := fnFlipDistancesRow.holds Tryz.pinned (OpenSpec.ofChange fnFlipDistancesSpec)

/-- ITS FALSE NEIGHBOUR: 'it returns false'. Refute it at one input. -/
def fnFlipDistancesWrong : ChangeSpec := { name := "fnFlipDistances", fn := fun _ => fun
  | [d] => { results := [.lit (.bool false)], args := [d] }
  | _ => none }
def FnFlipDistancesWrongFalsely : Prop := fnFlipDistancesRow.holds Tryz.pinned (OpenSpec.ofChange fnFlipDistancesWrong)

/-- 'laws.FnWays': WHATEVER THE INPUT: true; the input reads as it did. -/
def fnWaysSpec : ChangeSpec := { name := "fnWays", fn := fun _ => fun
  | [d] => { results := [.lit (.bool true)], args := [d] }
  | _ => none }
def fnWaysRow : OpenClaim := { program := "ytjnefjchconebaagreat", sum := "792ac47c83aaf93daaa9bd3da1823c6af18712e1ff748eeea02671908c42ea6b", func := "loop.example/g01128/laws.FnWays", spec := "fnWays", unfollowed := true, recurses := true, apart := false }
def FnWaysSaid : Prop := fnWaysRow.holds Tryz.pinned (OpenSpec.ofChange fnWaysSpec)

/-- ITS FALSE NEIGHBOUR: 'it returns false'. Refute it at one input. -/
def fnWaysWrong : ChangeSpec := { name := "fnWays", fn := fun _ => fun
  | [d] => { results := [.lit (.bool false)], args := [d] }
  | _ => none }
def FnWaysWrongFalsely : Prop := fnWaysRow.holds Tryz.pinned (OpenSpec.ofChange fnWaysWrong)

/- THE SECOND FORM. 'bulk': how many values and letters a reading holds, each counted each time it is reached (what is shared counts as often as it is met; a slice's spare places count too). A statement '..UptoSaid' is the law's where the arguments, and the package variables that the reading takes, are together of bulk at most 1048576: NARROWER than '..Said'. Prove '..Said' where nothing that the law and all that it calls make is longer than what came in: it says more and counts as full. Else prove '..UptoSaid'. A law counts once. -/
mutual
def uptoBulk {H : Type} : DataW H → Nat
  | .lit (.string bytes) => bytes.length + 1
  | .lit _ => 1
  | .nil => 1
  | .ptr d => uptoBulk d + 1
  | .slice elems spare => uptoBulkAll elems + uptoBulkAll spare + 1
  | .agg parts => uptoBulkAll parts + 1
  | .iface _ d => uptoBulk d + 1
  | .map entries => uptoBulkEntries entries + 1
  | .held _ => 1
def uptoBulkAll {H : Type} : List (DataW H) → Nat
  | [] => 0
  | d :: r => uptoBulk d + uptoBulkAll r
def uptoBulkEntries {H : Type} : List (Lit × DataW H) → Nat
  | [] => 0
  | x :: r => uptoBulkEntry x + uptoBulkEntries r
def uptoBulkEntry {H : Type} : Lit × DataW H → Nat
  | (.string bytes, d) => bytes.length + uptoBulk d + 1
  | (_, d) => uptoBulk d + 1
 end
def uptoSmall : (H : Type) → List (DataW H) → Bool := fun _ ds => decide (uptoBulkAll ds ≤ 1048576)
def OpenSpec.upto (s : _root_.Go.ChangeSpec) : _root_.Go.OpenSpec := { _root_.Go.OpenSpec.ofChange s with cond := some uptoSmall }

/-- 'laws.FnTokenSwaps', WHERE WHAT IT READS IS OF BULK AT MOST 1048576: true; the input reads as it did. -/
def fnTokenSwapsUptoRow : OpenClaim := { program := "ytjnefjchconebaagreat", sum := "792ac47c83aaf93daaa9bd3da1823c6af18712e1ff748eeea02671908c42ea6b", func := "loop.example/g01128/laws.FnTokenSwaps", spec := "fnTokenSwaps", unfollowed := true, recurses := true, apart := false, narrowed := true }
def FnTokenSwapsUptoSaid : Prop := fnTokenSwapsUptoRow.holds Tryz.pinned (OpenSpec.upto fnTokenSwapsSpec)

/-- 'laws.FnFlipDistances', WHERE WHAT IT READS IS OF BULK AT MOST 1048576: true; the input reads as it did. -/
def fnFlipDistancesUptoRow : OpenClaim := { program := "ytjnefjchconebaagreat", sum := "792ac47c83aaf93daaa9bd3da1823c6af18712e1ff748eeea02671908c42ea6b", func := "loop.example/g01128/laws.FnFlipDistances", spec := "fnFlipDistances", unfollowed := true, recurses := true, apart := false, narrowed := true }
def FnFlipDistancesUptoSaid : Prop := fnFlipDistancesUptoRow.holds Tryz.pinned (OpenSpec.upto fnFlipDistancesSpec)

/-- 'laws.FnWays', WHERE WHAT IT READS IS OF BULK AT MOST 1048576: true; the input reads as it did. -/
def fnWaysUptoRow : OpenClaim := { program := "ytjnefjchconebaagreat", sum := "792ac47c83aaf93daaa9bd3da1823c6af18712e1ff748eeea02671908c42ea6b", func := "loop.example/g01128/laws.FnWays", spec := "fnWays", unfollowed := true, recurses := true, apart := false, narrowed := true }
def FnWaysUptoSaid : Prop := fnWaysUptoRow.holds Tryz.pinned (OpenSpec.upto fnWaysSpec)

end Rows
end Go.Proofs.YtjnefjchconebaaGreat
