/-
  No cell of these rows narrows 'for every input' (looked for: loops, veiled, ifaces, maps, wideKeys, modest, calm, conditions, laid).
  DERIVED. THE GIVEN ROWS OF THIS SEAT. 11 by the template 'for every input the law returns true; each argument reads behind the call as it read before'; 0 by the template 'total and deterministic' (their statements: YtedlnjcfacadgaaTotals.lean).
  GIVEN WITH THE SEED: the statements are not yours to turn. If you find one false, say at which input.
  Laid BY PROGRAM, IN A SANDBOX (cutbox-rows.mjs): the forced cells as the released guide's own fill.sh prints them over the translation 1c56c75c3fddffa3… (all of the seat's roots in one cut). By AI agents, Wed Nov 11 2026. No macro, syntax, notation, axiom, sorry.
-/
import Derived.Test.YtedlnjcfacadgaaChecked
import GoSem.Claim
import GoSem.ClaimJoined
import GoSem.ClaimMapViews
import Derived.JoinedTies
import Derived.KernelRfl
namespace Go.Proofs.Ytedlnjcfacadgaa
/- THE CELL 'sum', in the pinned program and in every row, IS THE sha256 OF THE DUMP (.gsa) THAT YtedlnjcfacadgaaProg.lean LOADS. Nothing in Lean hashes anything: it is a label: what it is worth is what the hold of that sum in a sandbox is worth. -/
noncomputable def Try.pinned : Pinned := { name := "ytedlnjcfacadgaa", sum := "1c56c75c3fddffa3e5aa5955445be22f01684f10b32ab27682651e291235885a", checked := Try.checked }
namespace Rows
def none {H : Type} : Left H := { results := [], args := [] }

/-- 'laws.FnExactCountTriangulations': WHATEVER THE INPUT: true; the input reads as it did. -/
def fnExactCountTriangulationsSpec : ChangeSpec := { name := "fnExactCountTriangulations", fn := fun _ => fun
  | [d] => { results := [.lit (.bool true)], args := [d] }
  | _ => none }
def fnExactCountTriangulationsRow : OpenClaim := { program := "ytedlnjcfacadgaa", sum := "1c56c75c3fddffa3e5aa5955445be22f01684f10b32ab27682651e291235885a", func := "loop.example/g01128/laws.FnExactCountTriangulations", spec := "fnExactCountTriangulations", apart := false }
def FnExactCountTriangulationsSaid : Prop := fnExactCountTriangulationsRow.holds Try.pinned (OpenSpec.ofChange fnExactCountTriangulationsSpec)

/-- ITS FALSE NEIGHBOUR: 'it returns false'. Refute it at one input. -/
def fnExactCountTriangulationsWrong : ChangeSpec := { name := "fnExactCountTriangulations", fn := fun _ => fun
  | [d] => { results := [.lit (.bool false)], args := [d] }
  | _ => none }
def FnExactCountTriangulationsWrongFalsely : Prop := fnExactCountTriangulationsRow.holds Try.pinned (OpenSpec.ofChange fnExactCountTriangulationsWrong)

/-- 'laws.FnExactIsClosedWalk': WHATEVER THE INPUT: true; the input reads as it did. -/
def fnExactIsClosedWalkSpec : ChangeSpec := { name := "fnExactIsClosedWalk", fn := fun _ => fun
  | [d1, d2, d3] => { results := [.lit (.bool true)], args := [d1, d2, d3] }
  | _ => none }
def fnExactIsClosedWalkRow : OpenClaim := { program := "ytedlnjcfacadgaa", sum := "1c56c75c3fddffa3e5aa5955445be22f01684f10b32ab27682651e291235885a", func := "loop.example/g01128/laws.FnExactIsClosedWalk", spec := "fnExactIsClosedWalk", apart := false }
def FnExactIsClosedWalkSaid : Prop := fnExactIsClosedWalkRow.holds Try.pinned (OpenSpec.ofChange fnExactIsClosedWalkSpec)

/-- ITS FALSE NEIGHBOUR: 'it returns false'. Refute it at one input. -/
def fnExactIsClosedWalkWrong : ChangeSpec := { name := "fnExactIsClosedWalk", fn := fun _ => fun
  | [d1, d2, d3] => { results := [.lit (.bool false)], args := [d1, d2, d3] }
  | _ => none }
def FnExactIsClosedWalkWrongFalsely : Prop := fnExactIsClosedWalkRow.holds Try.pinned (OpenSpec.ofChange fnExactIsClosedWalkWrong)

/-- 'laws.FnExactWalkWinding': WHATEVER THE INPUT: true; the input reads as it did. -/
def fnExactWalkWindingSpec : ChangeSpec := { name := "fnExactWalkWinding", fn := fun _ => fun
  | [d1, d2] => { results := [.lit (.bool true)], args := [d1, d2] }
  | _ => none }
def fnExactWalkWindingRow : OpenClaim := { program := "ytedlnjcfacadgaa", sum := "1c56c75c3fddffa3e5aa5955445be22f01684f10b32ab27682651e291235885a", func := "loop.example/g01128/laws.FnExactWalkWinding", spec := "fnExactWalkWinding", apart := false }
def FnExactWalkWindingSaid : Prop := fnExactWalkWindingRow.holds Try.pinned (OpenSpec.ofChange fnExactWalkWindingSpec)

/-- ITS FALSE NEIGHBOUR: 'it returns false'. Refute it at one input. -/
def fnExactWalkWindingWrong : ChangeSpec := { name := "fnExactWalkWinding", fn := fun _ => fun
  | [d1, d2] => { results := [.lit (.bool false)], args := [d1, d2] }
  | _ => none }
def FnExactWalkWindingWrongFalsely : Prop := fnExactWalkWindingRow.holds Try.pinned (OpenSpec.ofChange fnExactWalkWindingWrong)

/-- 'laws.FnExactFanOf': WHATEVER THE INPUT: true; the input reads as it did. -/
def fnExactFanOfSpec : ChangeSpec := { name := "fnExactFanOf", fn := fun _ => fun
  | [d1, d2] => { results := [.lit (.bool true)], args := [d1, d2] }
  | _ => none }
def fnExactFanOfRow : OpenClaim := { program := "ytedlnjcfacadgaa", sum := "1c56c75c3fddffa3e5aa5955445be22f01684f10b32ab27682651e291235885a", func := "loop.example/g01128/laws.FnExactFanOf", spec := "fnExactFanOf", unfollowed := true, recurses := true, apart := false }
def FnExactFanOfSaid : Prop := fnExactFanOfRow.holds Try.pinned (OpenSpec.ofChange fnExactFanOfSpec)

/-- ITS FALSE NEIGHBOUR: 'it returns false'. Refute it at one input. -/
def fnExactFanOfWrong : ChangeSpec := { name := "fnExactFanOf", fn := fun _ => fun
  | [d1, d2] => { results := [.lit (.bool false)], args := [d1, d2] }
  | _ => none }
def FnExactFanOfWrongFalsely : Prop := fnExactFanOfRow.holds Try.pinned (OpenSpec.ofChange fnExactFanOfWrong)

/-- 'laws.FnExactHeightsOf': WHATEVER THE INPUT: true; the input reads as it did. -/
def fnExactHeightsOfSpec : ChangeSpec := { name := "fnExactHeightsOf", fn := fun _ => fun
  | [d1, d2] => { results := [.lit (.bool true)], args := [d1, d2] }
  | _ => none }
def fnExactHeightsOfRow : OpenClaim := { program := "ytedlnjcfacadgaa", sum := "1c56c75c3fddffa3e5aa5955445be22f01684f10b32ab27682651e291235885a", func := "loop.example/g01128/laws.FnExactHeightsOf", spec := "fnExactHeightsOf", apart := false }
def FnExactHeightsOfSaid : Prop := fnExactHeightsOfRow.holds Try.pinned (OpenSpec.ofChange fnExactHeightsOfSpec)

/-- ITS FALSE NEIGHBOUR: 'it returns false'. Refute it at one input. -/
def fnExactHeightsOfWrong : ChangeSpec := { name := "fnExactHeightsOf", fn := fun _ => fun
  | [d1, d2] => { results := [.lit (.bool false)], args := [d1, d2] }
  | _ => none }
def FnExactHeightsOfWrongFalsely : Prop := fnExactHeightsOfRow.holds Try.pinned (OpenSpec.ofChange fnExactHeightsOfWrong)

/-- 'laws.FnExactIsTriangulation': WHATEVER THE INPUT: true; the input reads as it did. -/
def fnExactIsTriangulationSpec : ChangeSpec := { name := "fnExactIsTriangulation", fn := fun _ => fun
  | [d1, d2] => { results := [.lit (.bool true)], args := [d1, d2] }
  | _ => none }
def fnExactIsTriangulationRow : OpenClaim := { program := "ytedlnjcfacadgaa", sum := "1c56c75c3fddffa3e5aa5955445be22f01684f10b32ab27682651e291235885a", func := "loop.example/g01128/laws.FnExactIsTriangulation", spec := "fnExactIsTriangulation", unfollowed := true, recurses := true, apart := false }
def FnExactIsTriangulationSaid : Prop := fnExactIsTriangulationRow.holds Try.pinned (OpenSpec.ofChange fnExactIsTriangulationSpec)

/-- ITS FALSE NEIGHBOUR: 'it returns false'. Refute it at one input. -/
def fnExactIsTriangulationWrong : ChangeSpec := { name := "fnExactIsTriangulation", fn := fun _ => fun
  | [d1, d2] => { results := [.lit (.bool false)], args := [d1, d2] }
  | _ => none }
def FnExactIsTriangulationWrongFalsely : Prop := fnExactIsTriangulationRow.holds Try.pinned (OpenSpec.ofChange fnExactIsTriangulationWrong)

/-- 'laws.FnExactTurnWalk': WHATEVER THE INPUT: true; the input reads as it did. -/
def fnExactTurnWalkSpec : ChangeSpec := { name := "fnExactTurnWalk", fn := fun _ => fun
  | [d1, d2, d3] => { results := [.lit (.bool true)], args := [d1, d2, d3] }
  | _ => none }
def fnExactTurnWalkRow : OpenClaim := { program := "ytedlnjcfacadgaa", sum := "1c56c75c3fddffa3e5aa5955445be22f01684f10b32ab27682651e291235885a", func := "loop.example/g01128/laws.FnExactTurnWalk", spec := "fnExactTurnWalk", apart := false }
def FnExactTurnWalkSaid : Prop := fnExactTurnWalkRow.holds Try.pinned (OpenSpec.ofChange fnExactTurnWalkSpec)

/-- ITS FALSE NEIGHBOUR: 'it returns false'. Refute it at one input. -/
def fnExactTurnWalkWrong : ChangeSpec := { name := "fnExactTurnWalk", fn := fun _ => fun
  | [d1, d2, d3] => { results := [.lit (.bool false)], args := [d1, d2, d3] }
  | _ => none }
def FnExactTurnWalkWrongFalsely : Prop := fnExactTurnWalkRow.holds Try.pinned (OpenSpec.ofChange fnExactTurnWalkWrong)

/-- 'laws.FnExactSlackOf': WHATEVER THE INPUT: true; the input reads as it did. -/
def fnExactSlackOfSpec : ChangeSpec := { name := "fnExactSlackOf", fn := fun _ => fun
  | [d1, d2] => { results := [.lit (.bool true)], args := [d1, d2] }
  | _ => none }
def fnExactSlackOfRow : OpenClaim := { program := "ytedlnjcfacadgaa", sum := "1c56c75c3fddffa3e5aa5955445be22f01684f10b32ab27682651e291235885a", func := "loop.example/g01128/laws.FnExactSlackOf", spec := "fnExactSlackOf", apart := false }
def FnExactSlackOfSaid : Prop := fnExactSlackOfRow.holds Try.pinned (OpenSpec.ofChange fnExactSlackOfSpec)

/-- ITS FALSE NEIGHBOUR: 'it returns false'. Refute it at one input. -/
def fnExactSlackOfWrong : ChangeSpec := { name := "fnExactSlackOf", fn := fun _ => fun
  | [d1, d2] => { results := [.lit (.bool false)], args := [d1, d2] }
  | _ => none }
def FnExactSlackOfWrongFalsely : Prop := fnExactSlackOfRow.holds Try.pinned (OpenSpec.ofChange fnExactSlackOfWrong)

/-- 'laws.FnExactBackWalk': WHATEVER THE INPUT: true; the input reads as it did. -/
def fnExactBackWalkSpec : ChangeSpec := { name := "fnExactBackWalk", fn := fun _ => fun
  | [d1, d2] => { results := [.lit (.bool true)], args := [d1, d2] }
  | _ => none }
def fnExactBackWalkRow : OpenClaim := { program := "ytedlnjcfacadgaa", sum := "1c56c75c3fddffa3e5aa5955445be22f01684f10b32ab27682651e291235885a", func := "loop.example/g01128/laws.FnExactBackWalk", spec := "fnExactBackWalk", apart := false }
def FnExactBackWalkSaid : Prop := fnExactBackWalkRow.holds Try.pinned (OpenSpec.ofChange fnExactBackWalkSpec)

/-- ITS FALSE NEIGHBOUR: 'it returns false'. Refute it at one input. -/
def fnExactBackWalkWrong : ChangeSpec := { name := "fnExactBackWalk", fn := fun _ => fun
  | [d1, d2] => { results := [.lit (.bool false)], args := [d1, d2] }
  | _ => none }
def FnExactBackWalkWrongFalsely : Prop := fnExactBackWalkRow.holds Try.pinned (OpenSpec.ofChange fnExactBackWalkWrong)

/-- 'laws.FnExactCrossingsOf': WHATEVER THE INPUT: true; the input reads as it did. -/
def fnExactCrossingsOfSpec : ChangeSpec := { name := "fnExactCrossingsOf", fn := fun _ => fun
  | [d1, d2, d3] => { results := [.lit (.bool true)], args := [d1, d2, d3] }
  | _ => none }
def fnExactCrossingsOfRow : OpenClaim := { program := "ytedlnjcfacadgaa", sum := "1c56c75c3fddffa3e5aa5955445be22f01684f10b32ab27682651e291235885a", func := "loop.example/g01128/laws.FnExactCrossingsOf", spec := "fnExactCrossingsOf", unfollowed := true, recurses := true, apart := false }
def FnExactCrossingsOfSaid : Prop := fnExactCrossingsOfRow.holds Try.pinned (OpenSpec.ofChange fnExactCrossingsOfSpec)

/-- ITS FALSE NEIGHBOUR: 'it returns false'. Refute it at one input. -/
def fnExactCrossingsOfWrong : ChangeSpec := { name := "fnExactCrossingsOf", fn := fun _ => fun
  | [d1, d2, d3] => { results := [.lit (.bool false)], args := [d1, d2, d3] }
  | _ => none }
def FnExactCrossingsOfWrongFalsely : Prop := fnExactCrossingsOfRow.holds Try.pinned (OpenSpec.ofChange fnExactCrossingsOfWrong)

/-- 'laws.FnExactSameClass': WHATEVER THE INPUT: true; the input reads as it did. -/
def fnExactSameClassSpec : ChangeSpec := { name := "fnExactSameClass", fn := fun _ => fun
  | [d1, d2, d3] => { results := [.lit (.bool true)], args := [d1, d2, d3] }
  | _ => none }
def fnExactSameClassRow : OpenClaim := { program := "ytedlnjcfacadgaa", sum := "1c56c75c3fddffa3e5aa5955445be22f01684f10b32ab27682651e291235885a", func := "loop.example/g01128/laws.FnExactSameClass", spec := "fnExactSameClass", apart := false }
def FnExactSameClassSaid : Prop := fnExactSameClassRow.holds Try.pinned (OpenSpec.ofChange fnExactSameClassSpec)

/-- ITS FALSE NEIGHBOUR: 'it returns false'. Refute it at one input. -/
def fnExactSameClassWrong : ChangeSpec := { name := "fnExactSameClass", fn := fun _ => fun
  | [d1, d2, d3] => { results := [.lit (.bool false)], args := [d1, d2, d3] }
  | _ => none }
def FnExactSameClassWrongFalsely : Prop := fnExactSameClassRow.holds Try.pinned (OpenSpec.ofChange fnExactSameClassWrong)

/- THE SECOND FORM. 'bulk': how many values and letters a reading holds, each counted each time it is reached (what is shared counts as often as it is met; a slice's spare places count too). A statement '..UptoSaid' is the law's where the arguments, and the package variables that the reading takes, are together of bulk at most 1048576: NARROWER than '..Said'. Prove '..Said' where nothing that the law and all that it calls make is longer than what came in: it says more and counts as full. Else prove '..UptoSaid'. A law counts once. -/
mutual
def uptoBulk {H : Type} : DataW H → Nat
  | .lit (.string bytes) => bytes.length + 1
  | .lit _ => 1
  | .nil => 1
  | .ptr d => uptoBulk d + 1
  | .slice elems spare => uptoBulkAll elems + uptoBulkAll spare + 1
  | .agg parts => uptoBulkAll parts + 1
  | .iface _ d => uptoBulk d + 1
  | .map entries => uptoBulkEntries entries + 1
  | .held _ => 1
def uptoBulkAll {H : Type} : List (DataW H) → Nat
  | [] => 0
  | d :: r => uptoBulk d + uptoBulkAll r
def uptoBulkEntries {H : Type} : List (Lit × DataW H) → Nat
  | [] => 0
  | x :: r => uptoBulkEntry x + uptoBulkEntries r
def uptoBulkEntry {H : Type} : Lit × DataW H → Nat
  | (.string bytes, d) => bytes.length + uptoBulk d + 1
  | (_, d) => uptoBulk d + 1
 end
def uptoSmall : (H : Type) → List (DataW H) → Bool := fun _ ds => decide (uptoBulkAll ds ≤ 1048576)
def OpenSpec.upto (s : _root_.Go.ChangeSpec) : _root_.Go.OpenSpec := { _root_.Go.OpenSpec.ofChange s with cond := some uptoSmall }

/-- 'laws.FnExactCountTriangulations', WHERE WHAT IT READS IS OF BULK AT MOST 1048576: true; the input reads as it did. -/
def fnExactCountTriangulationsUptoRow : OpenClaim := { program := "ytedlnjcfacadgaa", sum := "1c56c75c3fddffa3e5aa5955445be22f01684f10b32ab27682651e291235885a", func := "loop.example/g01128/laws.FnExactCountTriangulations", spec := "fnExactCountTriangulations", apart := false, narrowed := true }
def FnExactCountTriangulationsUptoSaid : Prop := fnExactCountTriangulationsUptoRow.holds Try.pinned (OpenSpec.upto fnExactCountTriangulationsSpec)

/-- 'laws.FnExactIsClosedWalk', WHERE WHAT IT READS IS OF BULK AT MOST 1048576: true; the input reads as it did. -/
def fnExactIsClosedWalkUptoRow : OpenClaim := { program := "ytedlnjcfacadgaa", sum := "1c56c75c3fddffa3e5aa5955445be22f01684f10b32ab27682651e291235885a", func := "loop.example/g01128/laws.FnExactIsClosedWalk", spec := "fnExactIsClosedWalk", apart := false, narrowed := true }
def FnExactIsClosedWalkUptoSaid : Prop := fnExactIsClosedWalkUptoRow.holds Try.pinned (OpenSpec.upto fnExactIsClosedWalkSpec)

/-- 'laws.FnExactWalkWinding', WHERE WHAT IT READS IS OF BULK AT MOST 1048576: true; the input reads as it did. -/
def fnExactWalkWindingUptoRow : OpenClaim := { program := "ytedlnjcfacadgaa", sum := "1c56c75c3fddffa3e5aa5955445be22f01684f10b32ab27682651e291235885a", func := "loop.example/g01128/laws.FnExactWalkWinding", spec := "fnExactWalkWinding", apart := false, narrowed := true }
def FnExactWalkWindingUptoSaid : Prop := fnExactWalkWindingUptoRow.holds Try.pinned (OpenSpec.upto fnExactWalkWindingSpec)

/-- 'laws.FnExactFanOf', WHERE WHAT IT READS IS OF BULK AT MOST 1048576: true; the input reads as it did. -/
def fnExactFanOfUptoRow : OpenClaim := { program := "ytedlnjcfacadgaa", sum := "1c56c75c3fddffa3e5aa5955445be22f01684f10b32ab27682651e291235885a", func := "loop.example/g01128/laws.FnExactFanOf", spec := "fnExactFanOf", unfollowed := true, recurses := true, apart := false, narrowed := true }
def FnExactFanOfUptoSaid : Prop := fnExactFanOfUptoRow.holds Try.pinned (OpenSpec.upto fnExactFanOfSpec)

/-- 'laws.FnExactHeightsOf', WHERE WHAT IT READS IS OF BULK AT MOST 1048576: true; the input reads as it did. -/
def fnExactHeightsOfUptoRow : OpenClaim := { program := "ytedlnjcfacadgaa", sum := "1c56c75c3fddffa3e5aa5955445be22f01684f10b32ab27682651e291235885a", func := "loop.example/g01128/laws.FnExactHeightsOf", spec := "fnExactHeightsOf", apart := false, narrowed := true }
def FnExactHeightsOfUptoSaid : Prop := fnExactHeightsOfUptoRow.holds Try.pinned (OpenSpec.upto fnExactHeightsOfSpec)

/-- 'laws.FnExactIsTriangulation', WHERE WHAT IT READS IS OF BULK AT MOST 1048576: true; the input reads as it did. -/
def fnExactIsTriangulationUptoRow : OpenClaim := { program := "ytedlnjcfacadgaa", sum := "1c56c75c3fddffa3e5aa5955445be22f01684f10b32ab27682651e291235885a", func := "loop.example/g01128/laws.FnExactIsTriangulation", spec := "fnExactIsTriangulation", unfollowed := true, recurses := true, apart := false, narrowed := true }
def FnExactIsTriangulationUptoSaid : Prop := fnExactIsTriangulationUptoRow.holds Try.pinned (OpenSpec.upto fnExactIsTriangulationSpec)

/-- 'laws.FnExactTurnWalk', WHERE WHAT IT READS IS OF BULK AT MOST 1048576: true; the input reads as it did. -/
def fnExactTurnWalkUptoRow : OpenClaim := { program := "ytedlnjcfacadgaa", sum := "1c56c75c3fddffa3e5aa5955445be22f01684f10b32ab27682651e291235885a", func := "loop.example/g01128/laws.FnExactTurnWalk", spec := "fnExactTurnWalk", apart := false, narrowed := true }
def FnExactTurnWalkUptoSaid : Prop := fnExactTurnWalkUptoRow.holds Try.pinned (OpenSpec.upto fnExactTurnWalkSpec)

/-- 'laws.FnExactSlackOf', WHERE WHAT IT READS IS OF BULK AT MOST 1048576: true; the input reads as it did. -/
def fnExactSlackOfUptoRow : OpenClaim := { program := "ytedlnjcfacadgaa", sum := "1c56c75c3fddffa3e5aa5955445be22f01684f10b32ab27682651e291235885a", func := "loop.example/g01128/laws.FnExactSlackOf", spec := "fnExactSlackOf", apart := false, narrowed := true }
def FnExactSlackOfUptoSaid : Prop := fnExactSlackOfUptoRow.holds Try.pinned (OpenSpec.upto fnExactSlackOfSpec)

/-- 'laws.FnExactBackWalk', WHERE WHAT IT READS IS OF BULK AT MOST 1048576: true; the input reads as it did. -/
def fnExactBackWalkUptoRow : OpenClaim := { program := "ytedlnjcfacadgaa", sum := "1c56c75c3fddffa3e5aa5955445be22f01684f10b32ab27682651e291235885a", func := "loop.example/g01128/laws.FnExactBackWalk", spec := "fnExactBackWalk", apart := false, narrowed := true }
def FnExactBackWalkUptoSaid : Prop := fnExactBackWalkUptoRow.holds Try.pinned (OpenSpec.upto fnExactBackWalkSpec)

/-- 'laws.FnExactCrossingsOf', WHERE WHAT IT READS IS OF BULK AT MOST 1048576: true; the input reads as it did. -/
def fnExactCrossingsOfUptoRow : OpenClaim := { program := "ytedlnjcfacadgaa", sum := "1c56c75c3fddffa3e5aa5955445be22f01684f10b32ab27682651e291235885a", func := "loop.example/g01128/laws.FnExactCrossingsOf", spec := "fnExactCrossingsOf", unfollowed := true, recurses := true, apart := false, narrowed := true }
def FnExactCrossingsOfUptoSaid : Prop := fnExactCrossingsOfUptoRow.holds Try.pinned (OpenSpec.upto fnExactCrossingsOfSpec)

/-- 'laws.FnExactSameClass', WHERE WHAT IT READS IS OF BULK AT MOST 1048576: true; the input reads as it did. -/
def fnExactSameClassUptoRow : OpenClaim := { program := "ytedlnjcfacadgaa", sum := "1c56c75c3fddffa3e5aa5955445be22f01684f10b32ab27682651e291235885a", func := "loop.example/g01128/laws.FnExactSameClass", spec := "fnExactSameClass", apart := false, narrowed := true }
def FnExactSameClassUptoSaid : Prop := fnExactSameClassUptoRow.holds Try.pinned (OpenSpec.upto fnExactSameClassSpec)

end Rows
end Go.Proofs.Ytedlnjcfacadgaa
