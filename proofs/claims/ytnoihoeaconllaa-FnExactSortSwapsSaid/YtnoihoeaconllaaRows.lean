/-
  No cell of these rows narrows 'for every input' (looked for: loops, veiled, ifaces, maps, wideKeys, modest, calm, conditions, laid).
  DERIVED. THE GIVEN ROWS OF THIS SEAT. 12 by the template 'for every input the law returns true; each argument reads behind the call as it read before'; 0 by the template 'total and deterministic' (their statements: YtnoihoeaconllaaTotals.lean).
  GIVEN WITH THE SEED: the statements are not yours to turn. If you find one false, say at which input.
  Laid BY PROGRAM, IN A SANDBOX (cutbox-rows.mjs): the forced cells as the released guide's own fill.sh prints them over the translation a63e657b2117230e… (all of the seat's roots in one cut). By AI agents, Wed Nov 11 2026. No macro, syntax, notation, axiom, sorry.
-/
import Derived.Test.YtnoihoeaconllaaChecked
import GoSem.Claim
import GoSem.ClaimJoined
import GoSem.ClaimMapViews
import Derived.JoinedTies
import Derived.KernelRfl
namespace Go.Proofs.Ytnoihoeaconllaa
/- THE CELL 'sum', in the pinned program and in every row, IS THE sha256 OF THE DUMP (.gsa) THAT YtnoihoeaconllaaProg.lean LOADS. Nothing in Lean hashes anything: it is a label: what it is worth is what the hold of that sum in a sandbox is worth. -/
noncomputable def Try.pinned : Pinned := { name := "ytnoihoeaconllaa", sum := "a63e657b2117230e111a231fb50d22d323d624495a039b0a8f2d08bf23789759", checked := Try.checked }
namespace Rows
def none {H : Type} : Left H := { results := [], args := [] }

/-- 'laws.FnExactFanBound': WHATEVER THE INPUT: true; the input reads as it did. -/
def fnExactFanBoundSpec : ChangeSpec := { name := "fnExactFanBound", fn := fun _ => fun
  | [d1, d2, d3] => { results := [.lit (.bool true)], args := [d1, d2, d3] }
  | _ => none }
def fnExactFanBoundRow : OpenClaim := { program := "ytnoihoeaconllaa", sum := "a63e657b2117230e111a231fb50d22d323d624495a039b0a8f2d08bf23789759", func := "loop.example/g01128/laws.FnExactFanBound", spec := "fnExactFanBound", unfollowed := true, recurses := true, apart := false }
def FnExactFanBoundSaid : Prop := fnExactFanBoundRow.holds Try.pinned (OpenSpec.ofChange fnExactFanBoundSpec)

/-- ITS FALSE NEIGHBOUR: 'it returns false'. Refute it at one input. -/
def fnExactFanBoundWrong : ChangeSpec := { name := "fnExactFanBound", fn := fun _ => fun
  | [d1, d2, d3] => { results := [.lit (.bool false)], args := [d1, d2, d3] }
  | _ => none }
def FnExactFanBoundWrongFalsely : Prop := fnExactFanBoundRow.holds Try.pinned (OpenSpec.ofChange fnExactFanBoundWrong)

/-- 'laws.FnExactCommonDiagonals': WHATEVER THE INPUT: true; the input reads as it did. -/
def fnExactCommonDiagonalsSpec : ChangeSpec := { name := "fnExactCommonDiagonals", fn := fun _ => fun
  | [d1, d2, d3] => { results := [.lit (.bool true)], args := [d1, d2, d3] }
  | _ => none }
def fnExactCommonDiagonalsRow : OpenClaim := { program := "ytnoihoeaconllaa", sum := "a63e657b2117230e111a231fb50d22d323d624495a039b0a8f2d08bf23789759", func := "loop.example/g01128/laws.FnExactCommonDiagonals", spec := "fnExactCommonDiagonals", unfollowed := true, recurses := true, apart := false }
def FnExactCommonDiagonalsSaid : Prop := fnExactCommonDiagonalsRow.holds Try.pinned (OpenSpec.ofChange fnExactCommonDiagonalsSpec)

/-- ITS FALSE NEIGHBOUR: 'it returns false'. Refute it at one input. -/
def fnExactCommonDiagonalsWrong : ChangeSpec := { name := "fnExactCommonDiagonals", fn := fun _ => fun
  | [d1, d2, d3] => { results := [.lit (.bool false)], args := [d1, d2, d3] }
  | _ => none }
def FnExactCommonDiagonalsWrongFalsely : Prop := fnExactCommonDiagonalsRow.holds Try.pinned (OpenSpec.ofChange fnExactCommonDiagonalsWrong)

/-- 'laws.FnExactEarsOf': WHATEVER THE INPUT: true; the input reads as it did. -/
def fnExactEarsOfSpec : ChangeSpec := { name := "fnExactEarsOf", fn := fun _ => fun
  | [d1, d2] => { results := [.lit (.bool true)], args := [d1, d2] }
  | _ => none }
def fnExactEarsOfRow : OpenClaim := { program := "ytnoihoeaconllaa", sum := "a63e657b2117230e111a231fb50d22d323d624495a039b0a8f2d08bf23789759", func := "loop.example/g01128/laws.FnExactEarsOf", spec := "fnExactEarsOf", unfollowed := true, recurses := true, apart := false }
def FnExactEarsOfSaid : Prop := fnExactEarsOfRow.holds Try.pinned (OpenSpec.ofChange fnExactEarsOfSpec)

/-- ITS FALSE NEIGHBOUR: 'it returns false'. Refute it at one input. -/
def fnExactEarsOfWrong : ChangeSpec := { name := "fnExactEarsOf", fn := fun _ => fun
  | [d1, d2] => { results := [.lit (.bool false)], args := [d1, d2] }
  | _ => none }
def FnExactEarsOfWrongFalsely : Prop := fnExactEarsOfRow.holds Try.pinned (OpenSpec.ofChange fnExactEarsOfWrong)

/-- 'laws.FnExactIsPermutation': WHATEVER THE INPUT: true; the input reads as it did. -/
def fnExactIsPermutationSpec : ChangeSpec := { name := "fnExactIsPermutation", fn := fun _ => fun
  | [d] => { results := [.lit (.bool true)], args := [d] }
  | _ => none }
def fnExactIsPermutationRow : OpenClaim := { program := "ytnoihoeaconllaa", sum := "a63e657b2117230e111a231fb50d22d323d624495a039b0a8f2d08bf23789759", func := "loop.example/g01128/laws.FnExactIsPermutation", spec := "fnExactIsPermutation", unfollowed := true, recurses := true, apart := false }
def FnExactIsPermutationSaid : Prop := fnExactIsPermutationRow.holds Try.pinned (OpenSpec.ofChange fnExactIsPermutationSpec)

/-- ITS FALSE NEIGHBOUR: 'it returns false'. Refute it at one input. -/
def fnExactIsPermutationWrong : ChangeSpec := { name := "fnExactIsPermutation", fn := fun _ => fun
  | [d] => { results := [.lit (.bool false)], args := [d] }
  | _ => none }
def FnExactIsPermutationWrongFalsely : Prop := fnExactIsPermutationRow.holds Try.pinned (OpenSpec.ofChange fnExactIsPermutationWrong)

/-- 'laws.FnExactInversionCount': WHATEVER THE INPUT: true; the input reads as it did. -/
def fnExactInversionCountSpec : ChangeSpec := { name := "fnExactInversionCount", fn := fun _ => fun
  | [d] => { results := [.lit (.bool true)], args := [d] }
  | _ => none }
def fnExactInversionCountRow : OpenClaim := { program := "ytnoihoeaconllaa", sum := "a63e657b2117230e111a231fb50d22d323d624495a039b0a8f2d08bf23789759", func := "loop.example/g01128/laws.FnExactInversionCount", spec := "fnExactInversionCount", unfollowed := true, recurses := true, apart := false }
def FnExactInversionCountSaid : Prop := fnExactInversionCountRow.holds Try.pinned (OpenSpec.ofChange fnExactInversionCountSpec)

/-- ITS FALSE NEIGHBOUR: 'it returns false'. Refute it at one input. -/
def fnExactInversionCountWrong : ChangeSpec := { name := "fnExactInversionCount", fn := fun _ => fun
  | [d] => { results := [.lit (.bool false)], args := [d] }
  | _ => none }
def FnExactInversionCountWrongFalsely : Prop := fnExactInversionCountRow.holds Try.pinned (OpenSpec.ofChange fnExactInversionCountWrong)

/-- 'laws.FnExactSwapCount': WHATEVER THE INPUT: true; the input reads as it did. -/
def fnExactSwapCountSpec : ChangeSpec := { name := "fnExactSwapCount", fn := fun _ => fun
  | [d] => { results := [.lit (.bool true)], args := [d] }
  | _ => none }
def fnExactSwapCountRow : OpenClaim := { program := "ytnoihoeaconllaa", sum := "a63e657b2117230e111a231fb50d22d323d624495a039b0a8f2d08bf23789759", func := "loop.example/g01128/laws.FnExactSwapCount", spec := "fnExactSwapCount", unfollowed := true, recurses := true, apart := false }
def FnExactSwapCountSaid : Prop := fnExactSwapCountRow.holds Try.pinned (OpenSpec.ofChange fnExactSwapCountSpec)

/-- ITS FALSE NEIGHBOUR: 'it returns false'. Refute it at one input. -/
def fnExactSwapCountWrong : ChangeSpec := { name := "fnExactSwapCount", fn := fun _ => fun
  | [d] => { results := [.lit (.bool false)], args := [d] }
  | _ => none }
def FnExactSwapCountWrongFalsely : Prop := fnExactSwapCountRow.holds Try.pinned (OpenSpec.ofChange fnExactSwapCountWrong)

/-- 'laws.FnExactCyclesOf': WHATEVER THE INPUT: true; the input reads as it did. -/
def fnExactCyclesOfSpec : ChangeSpec := { name := "fnExactCyclesOf", fn := fun _ => fun
  | [d] => { results := [.lit (.bool true)], args := [d] }
  | _ => none }
def fnExactCyclesOfRow : OpenClaim := { program := "ytnoihoeaconllaa", sum := "a63e657b2117230e111a231fb50d22d323d624495a039b0a8f2d08bf23789759", func := "loop.example/g01128/laws.FnExactCyclesOf", spec := "fnExactCyclesOf", unfollowed := true, recurses := true, apart := false }
def FnExactCyclesOfSaid : Prop := fnExactCyclesOfRow.holds Try.pinned (OpenSpec.ofChange fnExactCyclesOfSpec)

/-- ITS FALSE NEIGHBOUR: 'it returns false'. Refute it at one input. -/
def fnExactCyclesOfWrong : ChangeSpec := { name := "fnExactCyclesOf", fn := fun _ => fun
  | [d] => { results := [.lit (.bool false)], args := [d] }
  | _ => none }
def FnExactCyclesOfWrongFalsely : Prop := fnExactCyclesOfRow.holds Try.pinned (OpenSpec.ofChange fnExactCyclesOfWrong)

/-- 'laws.FnExactTurnTriangulation': WHATEVER THE INPUT: true; the input reads as it did. -/
def fnExactTurnTriangulationSpec : ChangeSpec := { name := "fnExactTurnTriangulation", fn := fun _ => fun
  | [d1, d2, d3, d4] => { results := [.lit (.bool true)], args := [d1, d2, d3, d4] }
  | _ => none }
def fnExactTurnTriangulationRow : OpenClaim := { program := "ytnoihoeaconllaa", sum := "a63e657b2117230e111a231fb50d22d323d624495a039b0a8f2d08bf23789759", func := "loop.example/g01128/laws.FnExactTurnTriangulation", spec := "fnExactTurnTriangulation", unfollowed := true, recurses := true, apart := false }
def FnExactTurnTriangulationSaid : Prop := fnExactTurnTriangulationRow.holds Try.pinned (OpenSpec.ofChange fnExactTurnTriangulationSpec)

/-- ITS FALSE NEIGHBOUR: 'it returns false'. Refute it at one input. -/
def fnExactTurnTriangulationWrong : ChangeSpec := { name := "fnExactTurnTriangulation", fn := fun _ => fun
  | [d1, d2, d3, d4] => { results := [.lit (.bool false)], args := [d1, d2, d3, d4] }
  | _ => none }
def FnExactTurnTriangulationWrongFalsely : Prop := fnExactTurnTriangulationRow.holds Try.pinned (OpenSpec.ofChange fnExactTurnTriangulationWrong)

/-- 'laws.FnExactSortSwaps': WHATEVER THE INPUT: true; the input reads as it did. -/
def fnExactSortSwapsSpec : ChangeSpec := { name := "fnExactSortSwaps", fn := fun _ => fun
  | [d] => { results := [.lit (.bool true)], args := [d] }
  | _ => none }
def fnExactSortSwapsRow : OpenClaim := { program := "ytnoihoeaconllaa", sum := "a63e657b2117230e111a231fb50d22d323d624495a039b0a8f2d08bf23789759", func := "loop.example/g01128/laws.FnExactSortSwaps", spec := "fnExactSortSwaps", unfollowed := true, recurses := true, apart := false }
def FnExactSortSwapsSaid : Prop := fnExactSortSwapsRow.holds Try.pinned (OpenSpec.ofChange fnExactSortSwapsSpec)

/-- ITS FALSE NEIGHBOUR: 'it returns false'. Refute it at one input. -/
def fnExactSortSwapsWrong : ChangeSpec := { name := "fnExactSortSwaps", fn := fun _ => fun
  | [d] => { results := [.lit (.bool false)], args := [d] }
  | _ => none }
def FnExactSortSwapsWrongFalsely : Prop := fnExactSortSwapsRow.holds Try.pinned (OpenSpec.ofChange fnExactSortSwapsWrong)

/-- 'laws.FnExactSwapPlaces': WHATEVER THE INPUT: true; the input reads as it did. -/
def fnExactSwapPlacesSpec : ChangeSpec := { name := "fnExactSwapPlaces", fn := fun _ => fun
  | [d1, d2] => { results := [.lit (.bool true)], args := [d1, d2] }
  | _ => none }
def fnExactSwapPlacesRow : OpenClaim := { program := "ytnoihoeaconllaa", sum := "a63e657b2117230e111a231fb50d22d323d624495a039b0a8f2d08bf23789759", func := "loop.example/g01128/laws.FnExactSwapPlaces", spec := "fnExactSwapPlaces", unfollowed := true, recurses := true, apart := false }
def FnExactSwapPlacesSaid : Prop := fnExactSwapPlacesRow.holds Try.pinned (OpenSpec.ofChange fnExactSwapPlacesSpec)

/-- ITS FALSE NEIGHBOUR: 'it returns false'. Refute it at one input. -/
def fnExactSwapPlacesWrong : ChangeSpec := { name := "fnExactSwapPlaces", fn := fun _ => fun
  | [d1, d2] => { results := [.lit (.bool false)], args := [d1, d2] }
  | _ => none }
def FnExactSwapPlacesWrongFalsely : Prop := fnExactSwapPlacesRow.holds Try.pinned (OpenSpec.ofChange fnExactSwapPlacesWrong)

/-- 'laws.FnExactFlipDiagonal': WHATEVER THE INPUT: true; the input reads as it did. -/
def fnExactFlipDiagonalSpec : ChangeSpec := { name := "fnExactFlipDiagonal", fn := fun _ => fun
  | [d1, d2, d3] => { results := [.lit (.bool true)], args := [d1, d2, d3] }
  | _ => none }
def fnExactFlipDiagonalRow : OpenClaim := { program := "ytnoihoeaconllaa", sum := "a63e657b2117230e111a231fb50d22d323d624495a039b0a8f2d08bf23789759", func := "loop.example/g01128/laws.FnExactFlipDiagonal", spec := "fnExactFlipDiagonal", unfollowed := true, recurses := true, apart := false }
def FnExactFlipDiagonalSaid : Prop := fnExactFlipDiagonalRow.holds Try.pinned (OpenSpec.ofChange fnExactFlipDiagonalSpec)

/-- ITS FALSE NEIGHBOUR: 'it returns false'. Refute it at one input. -/
def fnExactFlipDiagonalWrong : ChangeSpec := { name := "fnExactFlipDiagonal", fn := fun _ => fun
  | [d1, d2, d3] => { results := [.lit (.bool false)], args := [d1, d2, d3] }
  | _ => none }
def FnExactFlipDiagonalWrongFalsely : Prop := fnExactFlipDiagonalRow.holds Try.pinned (OpenSpec.ofChange fnExactFlipDiagonalWrong)

/-- 'laws.FnExactIsMatching': WHATEVER THE INPUT: true; the input reads as it did. -/
def fnExactIsMatchingSpec : ChangeSpec := { name := "fnExactIsMatching", fn := fun _ => fun
  | [d1, d2] => { results := [.lit (.bool true)], args := [d1, d2] }
  | _ => none }
def fnExactIsMatchingRow : OpenClaim := { program := "ytnoihoeaconllaa", sum := "a63e657b2117230e111a231fb50d22d323d624495a039b0a8f2d08bf23789759", func := "loop.example/g01128/laws.FnExactIsMatching", spec := "fnExactIsMatching", apart := false }
def FnExactIsMatchingSaid : Prop := fnExactIsMatchingRow.holds Try.pinned (OpenSpec.ofChange fnExactIsMatchingSpec)

/-- ITS FALSE NEIGHBOUR: 'it returns false'. Refute it at one input. -/
def fnExactIsMatchingWrong : ChangeSpec := { name := "fnExactIsMatching", fn := fun _ => fun
  | [d1, d2] => { results := [.lit (.bool false)], args := [d1, d2] }
  | _ => none }
def FnExactIsMatchingWrongFalsely : Prop := fnExactIsMatchingRow.holds Try.pinned (OpenSpec.ofChange fnExactIsMatchingWrong)

/- THE SECOND FORM. 'bulk': how many values and letters a reading holds, each counted each time it is reached (what is shared counts as often as it is met; a slice's spare places count too). A statement '..UptoSaid' is the law's where the arguments, and the package variables that the reading takes, are together of bulk at most 1048576: NARROWER than '..Said'. Prove '..Said' where nothing that the law and all that it calls make is longer than what came in: it says more and counts as full. Else prove '..UptoSaid'. A law counts once. -/
mutual
def uptoBulk {H : Type} : DataW H → Nat
  | .lit (.string bytes) => bytes.length + 1
  | .lit _ => 1
  | .nil => 1
  | .ptr d => uptoBulk d + 1
  | .slice elems spare => uptoBulkAll elems + uptoBulkAll spare + 1
  | .agg parts => uptoBulkAll parts + 1
  | .iface _ d => uptoBulk d + 1
  | .map entries => uptoBulkEntries entries + 1
  | .held _ => 1
def uptoBulkAll {H : Type} : List (DataW H) → Nat
  | [] => 0
  | d :: r => uptoBulk d + uptoBulkAll r
def uptoBulkEntries {H : Type} : List (Lit × DataW H) → Nat
  | [] => 0
  | x :: r => uptoBulkEntry x + uptoBulkEntries r
def uptoBulkEntry {H : Type} : Lit × DataW H → Nat
  | (.string bytes, d) => bytes.length + uptoBulk d + 1
  | (_, d) => uptoBulk d + 1
 end
def uptoSmall : (H : Type) → List (DataW H) → Bool := fun _ ds => decide (uptoBulkAll ds ≤ 1048576)
def OpenSpec.upto (s : _root_.Go.ChangeSpec) : _root_.Go.OpenSpec := { _root_.Go.OpenSpec.ofChange s with cond := some uptoSmall }

/-- 'laws.FnExactFanBound', WHERE WHAT IT READS IS OF BULK AT MOST 1048576: true; the input reads as it did. -/
def fnExactFanBoundUptoRow : OpenClaim := { program := "ytnoihoeaconllaa", sum := "a63e657b2117230e111a231fb50d22d323d624495a039b0a8f2d08bf23789759", func := "loop.example/g01128/laws.FnExactFanBound", spec := "fnExactFanBound", unfollowed := true, recurses := true, apart := false, narrowed := true }
def FnExactFanBoundUptoSaid : Prop := fnExactFanBoundUptoRow.holds Try.pinned (OpenSpec.upto fnExactFanBoundSpec)

/-- 'laws.FnExactCommonDiagonals', WHERE WHAT IT READS IS OF BULK AT MOST 1048576: true; the input reads as it did. -/
def fnExactCommonDiagonalsUptoRow : OpenClaim := { program := "ytnoihoeaconllaa", sum := "a63e657b2117230e111a231fb50d22d323d624495a039b0a8f2d08bf23789759", func := "loop.example/g01128/laws.FnExactCommonDiagonals", spec := "fnExactCommonDiagonals", unfollowed := true, recurses := true, apart := false, narrowed := true }
def FnExactCommonDiagonalsUptoSaid : Prop := fnExactCommonDiagonalsUptoRow.holds Try.pinned (OpenSpec.upto fnExactCommonDiagonalsSpec)

/-- 'laws.FnExactEarsOf', WHERE WHAT IT READS IS OF BULK AT MOST 1048576: true; the input reads as it did. -/
def fnExactEarsOfUptoRow : OpenClaim := { program := "ytnoihoeaconllaa", sum := "a63e657b2117230e111a231fb50d22d323d624495a039b0a8f2d08bf23789759", func := "loop.example/g01128/laws.FnExactEarsOf", spec := "fnExactEarsOf", unfollowed := true, recurses := true, apart := false, narrowed := true }
def FnExactEarsOfUptoSaid : Prop := fnExactEarsOfUptoRow.holds Try.pinned (OpenSpec.upto fnExactEarsOfSpec)

/-- 'laws.FnExactIsPermutation', WHERE WHAT IT READS IS OF BULK AT MOST 1048576: true; the input reads as it did. -/
def fnExactIsPermutationUptoRow : OpenClaim := { program := "ytnoihoeaconllaa", sum := "a63e657b2117230e111a231fb50d22d323d624495a039b0a8f2d08bf23789759", func := "loop.example/g01128/laws.FnExactIsPermutation", spec := "fnExactIsPermutation", unfollowed := true, recurses := true, apart := false, narrowed := true }
def FnExactIsPermutationUptoSaid : Prop := fnExactIsPermutationUptoRow.holds Try.pinned (OpenSpec.upto fnExactIsPermutationSpec)

/-- 'laws.FnExactInversionCount', WHERE WHAT IT READS IS OF BULK AT MOST 1048576: true; the input reads as it did. -/
def fnExactInversionCountUptoRow : OpenClaim := { program := "ytnoihoeaconllaa", sum := "a63e657b2117230e111a231fb50d22d323d624495a039b0a8f2d08bf23789759", func := "loop.example/g01128/laws.FnExactInversionCount", spec := "fnExactInversionCount", unfollowed := true, recurses := true, apart := false, narrowed := true }
def FnExactInversionCountUptoSaid : Prop := fnExactInversionCountUptoRow.holds Try.pinned (OpenSpec.upto fnExactInversionCountSpec)

/-- 'laws.FnExactSwapCount', WHERE WHAT IT READS IS OF BULK AT MOST 1048576: true; the input reads as it did. -/
def fnExactSwapCountUptoRow : OpenClaim := { program := "ytnoihoeaconllaa", sum := "a63e657b2117230e111a231fb50d22d323d624495a039b0a8f2d08bf23789759", func := "loop.example/g01128/laws.FnExactSwapCount", spec := "fnExactSwapCount", unfollowed := true, recurses := true, apart := false, narrowed := true }
def FnExactSwapCountUptoSaid : Prop := fnExactSwapCountUptoRow.holds Try.pinned (OpenSpec.upto fnExactSwapCountSpec)

/-- 'laws.FnExactCyclesOf', WHERE WHAT IT READS IS OF BULK AT MOST 1048576: true; the input reads as it did. -/
def fnExactCyclesOfUptoRow : OpenClaim := { program := "ytnoihoeaconllaa", sum := "a63e657b2117230e111a231fb50d22d323d624495a039b0a8f2d08bf23789759", func := "loop.example/g01128/laws.FnExactCyclesOf", spec := "fnExactCyclesOf", unfollowed := true, recurses := true, apart := false, narrowed := true }
def FnExactCyclesOfUptoSaid : Prop := fnExactCyclesOfUptoRow.holds Try.pinned (OpenSpec.upto fnExactCyclesOfSpec)

/-- 'laws.FnExactTurnTriangulation', WHERE WHAT IT READS IS OF BULK AT MOST 1048576: true; the input reads as it did. -/
def fnExactTurnTriangulationUptoRow : OpenClaim := { program := "ytnoihoeaconllaa", sum := "a63e657b2117230e111a231fb50d22d323d624495a039b0a8f2d08bf23789759", func := "loop.example/g01128/laws.FnExactTurnTriangulation", spec := "fnExactTurnTriangulation", unfollowed := true, recurses := true, apart := false, narrowed := true }
def FnExactTurnTriangulationUptoSaid : Prop := fnExactTurnTriangulationUptoRow.holds Try.pinned (OpenSpec.upto fnExactTurnTriangulationSpec)

/-- 'laws.FnExactSortSwaps', WHERE WHAT IT READS IS OF BULK AT MOST 1048576: true; the input reads as it did. -/
def fnExactSortSwapsUptoRow : OpenClaim := { program := "ytnoihoeaconllaa", sum := "a63e657b2117230e111a231fb50d22d323d624495a039b0a8f2d08bf23789759", func := "loop.example/g01128/laws.FnExactSortSwaps", spec := "fnExactSortSwaps", unfollowed := true, recurses := true, apart := false, narrowed := true }
def FnExactSortSwapsUptoSaid : Prop := fnExactSortSwapsUptoRow.holds Try.pinned (OpenSpec.upto fnExactSortSwapsSpec)

/-- 'laws.FnExactSwapPlaces', WHERE WHAT IT READS IS OF BULK AT MOST 1048576: true; the input reads as it did. -/
def fnExactSwapPlacesUptoRow : OpenClaim := { program := "ytnoihoeaconllaa", sum := "a63e657b2117230e111a231fb50d22d323d624495a039b0a8f2d08bf23789759", func := "loop.example/g01128/laws.FnExactSwapPlaces", spec := "fnExactSwapPlaces", unfollowed := true, recurses := true, apart := false, narrowed := true }
def FnExactSwapPlacesUptoSaid : Prop := fnExactSwapPlacesUptoRow.holds Try.pinned (OpenSpec.upto fnExactSwapPlacesSpec)

/-- 'laws.FnExactFlipDiagonal', WHERE WHAT IT READS IS OF BULK AT MOST 1048576: true; the input reads as it did. -/
def fnExactFlipDiagonalUptoRow : OpenClaim := { program := "ytnoihoeaconllaa", sum := "a63e657b2117230e111a231fb50d22d323d624495a039b0a8f2d08bf23789759", func := "loop.example/g01128/laws.FnExactFlipDiagonal", spec := "fnExactFlipDiagonal", unfollowed := true, recurses := true, apart := false, narrowed := true }
def FnExactFlipDiagonalUptoSaid : Prop := fnExactFlipDiagonalUptoRow.holds Try.pinned (OpenSpec.upto fnExactFlipDiagonalSpec)

/-- 'laws.FnExactIsMatching', WHERE WHAT IT READS IS OF BULK AT MOST 1048576: true; the input reads as it did. -/
def fnExactIsMatchingUptoRow : OpenClaim := { program := "ytnoihoeaconllaa", sum := "a63e657b2117230e111a231fb50d22d323d624495a039b0a8f2d08bf23789759", func := "loop.example/g01128/laws.FnExactIsMatching", spec := "fnExactIsMatching", apart := false, narrowed := true }
def FnExactIsMatchingUptoSaid : Prop := fnExactIsMatchingUptoRow.holds Try.pinned (OpenSpec.upto fnExactIsMatchingSpec)

end Rows
end Go.Proofs.Ytnoihoeaconllaa
