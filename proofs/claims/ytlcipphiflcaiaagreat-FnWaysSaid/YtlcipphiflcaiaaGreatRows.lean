/-
  No cell of these rows narrows 'for every input' (looked for: loops, veiled, ifaces, maps, wideKeys, modest, calm, conditions, laid).
  DERIVED. THE GIVEN ROWS OF THIS SEAT. 3 by the template 'for every input the law returns true; each argument reads behind the call as it read before'; 0 by the template 'total and deterministic' (their statements: YtlcipphiflcaiaaGreatTotals.lean).
  GIVEN WITH THE SEED: the statements are not yours to turn. If you find one false, say at which input.
  Laid BY PROGRAM, IN A SANDBOX (cutbox-rows.mjs): the forced cells as the released guide's own fill.sh prints them over the translation 2e49da0f1ac440a3… (all of the seat's roots in one cut). By AI agents, Wed Nov 11 2026. No macro, syntax, notation, axiom, sorry.
-/
import Derived.Test.YtlcipphiflcaiaaGreatChecked
import GoSem.Claim
import GoSem.ClaimJoined
import GoSem.ClaimMapViews
import Derived.JoinedTies
import Derived.KernelRfl
namespace Go.Proofs.YtlcipphiflcaiaaGreat
/- THE CELL 'sum', in the pinned program and in every row, IS THE sha256 OF THE DUMP (.gsa) THAT YtlcipphiflcaiaaGreatProg.lean LOADS. Nothing in Lean hashes anything: it is a label: what it is worth is what the hold of that sum in a sandbox is worth. -/
noncomputable def Tryz.pinned : Pinned := { name := "ytlcipphiflcaiaagreat", sum := "2e49da0f1ac440a36ae06430c59dc3205e6debf5342c588b0760a8c9a3964ebc", checked := Tryz.checked }
namespace Rows
def none {H : Type} : Left H := { results := [], args := [] }

/-- 'laws.FnLightTrees': WHATEVER THE INPUT: true; the input reads as it did. -/
def fnLightTreesSpec : ChangeSpec := { name := "fnLightTrees", fn := fun _ => fun
  | [d] => { results := [.lit (.bool true)], args := [d] }
  | _ => none }
def fnLightTreesRow : OpenClaim := { program := "ytlcipphiflcaiaagreat", sum := "2e49da0f1ac440a36ae06430c59dc3205e6debf5342c588b0760a8c9a3964ebc", func := "loop.example/g01128/laws.FnLightTrees", spec := "fnLightTrees", unfollowed := true, recurses := true, apart := false }
def FnLightTreesSaid : Prop := fnLightTreesRow.holds Tryz.pinned (OpenSpec.ofChange fnLightTreesSpec)

/-- ITS FALSE NEIGHBOUR: 'it returns false'. Refute it at one input. -/
def fnLightTreesWrong : ChangeSpec := { name := "fnLightTrees", fn := fun _ => fun
  | [d] => { results := [.lit (.bool false)], args := [d] }
  | _ => none }
def FnLightTreesWrongFalsely : Prop := fnLightTreesRow.holds Tryz.pinned (OpenSpec.ofChange fnLightTreesWrong)

/-- 'laws.FnTokenWalks': WHATEVER THE INPUT: true; the input reads as it did. -/
def fnTokenWalksSpec : ChangeSpec := { name := "fnTokenWalks", fn := fun _ => fun
  | [d] => { results := [.lit (.bool true)], args := [d] }
  | _ => none }
def fnTokenWalksRow : OpenClaim := { program := "ytlcipphiflcaiaagreat", sum := "2e49da0f1ac440a36ae06430c59dc3205e6debf5342c588b0760a8c9a3964ebc", func := "loop.example/g01128/laws.FnTokenWalks", spec := "fnTokenWalks", unfollowed := true, recurses := true, apart := false }
def FnTokenWalksSaid : Prop := fnTokenWalksRow.holds Tryz.pinned (OpenSpec.ofChange fnTokenWalksSpec)

/-- ITS FALSE NEIGHBOUR: 'it returns false'. Refute it at one input. -/
def fnTokenWalksWrong : ChangeSpec := { name := "fnTokenWalks", fn := fun _ => fun
  | [d] => { results := [.lit (.bool false)], args := [d] }
  | _ => none }
def FnTokenWalksWrongFalsely : Prop := fnTokenWalksRow.holds Tryz.pinned (OpenSpec.ofChange fnTokenWalksWrong)

/-- 'laws.FnWays': WHATEVER THE INPUT: true; the input reads as it did. -/
def fnWaysSpec : ChangeSpec := { name := "fnWays", fn := fun _ => fun
  | [d] => { results := [.lit (.bool true)], args := [d] }
  | _ => none }
def fnWaysRow : OpenClaim := { program := "ytlcipphiflcaiaagreat", sum := "2e49da0f1ac440a36ae06430c59dc3205e6debf5342c588b0760a8c9a3964ebc", func := "loop.example/g01128/laws.FnWays", spec := "fnWays", unfollowed := true, recurses := true, apart := false }
def FnWaysSaid : Prop := fnWaysRow.holds Tryz.pinned (OpenSpec.ofChange fnWaysSpec)

/-- ITS FALSE NEIGHBOUR: 'it returns false'. Refute it at one input. -/
def fnWaysWrong : ChangeSpec := { name := "fnWays", fn := fun _ => fun
  | [d] => { results := [.lit (.bool false)], args := [d] }
  | _ => none }
def FnWaysWrongFalsely : Prop := fnWaysRow.holds Tryz.pinned (OpenSpec.ofChange fnWaysWrong)

/- THE SECOND FORM. 'bulk': how many values and letters a reading holds, each counted each time it is reached (what is shared counts as often as it is met; a slice's spare places count too). A statement '..UptoSaid' is the law's where the arguments, and the package variables that the reading takes, are together of bulk at most 1048576: NARROWER than '..Said'. Prove '..Said' where nothing that the law and all that it calls make is longer than what came in: it says more and counts as full. Else prove '..UptoSaid'. A law counts once. -/
mutual
def uptoBulk {H : Type} : DataW H → Nat
  | .lit (.string bytes) => bytes.length + 1
  | .lit _ => 1
  | .nil => 1
  | .ptr d => uptoBulk d + 1
  | .slice elems spare => uptoBulkAll elems + uptoBulkAll spare + 1
  | .agg parts => uptoBulkAll parts + 1
  | .iface _ d => uptoBulk d + 1
  | .map entries => uptoBulkEntries entries + 1
  | .held _ => 1
def uptoBulkAll {H : Type} : List (DataW H) → Nat
  | [] => 0
  | d :: r => uptoBulk d + uptoBulkAll r
def uptoBulkEntries {H : Type} : List (Lit × DataW H) → Nat
  | [] => 0
  | x :: r => uptoBulkEntry x + uptoBulkEntries r
def uptoBulkEntry {H : Type} : Lit × DataW H → Nat
  | (.string bytes, d) => bytes.length + uptoBulk d + 1
  | (_, d) => uptoBulk d + 1
 end
def uptoSmall : (H : Type) → List (DataW H) → Bool := fun _ ds => decide (uptoBulkAll ds ≤ 1048576)
def OpenSpec.upto (s : _root_.Go.ChangeSpec) : _root_.Go.OpenSpec := { _root_.Go.OpenSpec.ofChange s with cond := some uptoSmall }

/-- 'laws.FnLightTrees', WHERE WHAT IT READS IS OF BULK AT MOST 1048576: true; the input reads as it did. -/
def fnLightTreesUptoRow : OpenClaim := { program := "ytlcipphiflcaiaagreat", sum := "2e49da0f1ac440a36ae06430c59dc3205e6debf5342c588b0760a8c9a3964ebc", func := "loop.example/g01128/laws.FnLightTrees", spec := "fnLightTrees", unfollowed := true, recurses := true, apart := false, narrowed := true }
def FnLightTreesUptoSaid : Prop := fnLightTreesUptoRow.holds Tryz.pinned (OpenSpec.upto fnLightTreesSpec)

/-- 'laws.FnTokenWalks', WHERE WHAT IT READS IS OF BULK AT MOST 1048576: true; the input reads as it did. -/
def fnTokenWalksUptoRow : OpenClaim := { program := "ytlcipphiflcaiaagreat", sum := "2e49da0f1ac440a36ae06430c59dc3205e6debf5342c588b0760a8c9a3964ebc", func := "loop.example/g01128/laws.FnTokenWalks", spec := "fnTokenWalks", unfollowed := true, recurses := true, apart := false, narrowed := true }
def FnTokenWalksUptoSaid : Prop := fnTokenWalksUptoRow.holds Tryz.pinned (OpenSpec.upto fnTokenWalksSpec)

/-- 'laws.FnWays', WHERE WHAT IT READS IS OF BULK AT MOST 1048576: true; the input reads as it did. -/
def fnWaysUptoRow : OpenClaim := { program := "ytlcipphiflcaiaagreat", sum := "2e49da0f1ac440a36ae06430c59dc3205e6debf5342c588b0760a8c9a3964ebc", func := "loop.example/g01128/laws.FnWays", spec := "fnWays", unfollowed := true, recurses := true, apart := false, narrowed := true }
def FnWaysUptoSaid : Prop := fnWaysUptoRow.holds Tryz.pinned (OpenSpec.upto fnWaysSpec)

end Rows
end Go.Proofs.YtlcipphiflcaiaaGreat
