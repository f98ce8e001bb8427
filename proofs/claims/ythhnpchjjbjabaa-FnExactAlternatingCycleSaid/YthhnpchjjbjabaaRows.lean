/-
  No cell of these rows narrows 'for every input' (looked for: loops, veiled, ifaces, maps, wideKeys, modest, calm, conditions, laid).
  DERIVED. THE GIVEN ROWS OF THIS SEAT. 12 by the template 'for every input the law returns true; each argument reads behind the call as it read before'; 0 by the template 'total and deterministic' (their statements: YthhnpchjjbjabaaTotals.lean).
  GIVEN WITH THE SEED: the statements are not yours to turn. If you find one false, say at which input.
  Laid BY PROGRAM, IN A SANDBOX (cutbox-rows.mjs): the forced cells as the released guide's own fill.sh prints them over the translation 7e5ce41ae233f149… (all of the seat's roots in one cut). By AI agents, Wed Nov 11 2026. No macro, syntax, notation, axiom, sorry.
-/
import Derived.Test.YthhnpchjjbjabaaChecked
import GoSem.Claim
import GoSem.ClaimJoined
import GoSem.ClaimMapViews
import Derived.JoinedTies
import Derived.KernelRfl
namespace Go.Proofs.Ythhnpchjjbjabaa
/- THE CELL 'sum', in the pinned program and in every row, IS THE sha256 OF THE DUMP (.gsa) THAT YthhnpchjjbjabaaProg.lean LOADS. Nothing in Lean hashes anything: it is a label: what it is worth is what the hold of that sum in a sandbox is worth. -/
noncomputable def Try.pinned : Pinned := { name := "ythhnpchjjbjabaa", sum := "7e5ce41ae233f149d26a2143ec56e98bececec5e652f63dd058245831ce817d8", checked := Try.checked }
namespace Rows
def none {H : Type} : Left H := { results := [], args := [] }

/-- 'laws.FnExactIsTwofold': WHATEVER THE INPUT: true; the input reads as it did. -/
def fnExactIsTwofoldSpec : ChangeSpec := { name := "fnExactIsTwofold", fn := fun _ => fun
  | [d] => { results := [.lit (.bool true)], args := [d] }
  | _ => none }
def fnExactIsTwofoldRow : OpenClaim := { program := "ythhnpchjjbjabaa", sum := "7e5ce41ae233f149d26a2143ec56e98bececec5e652f63dd058245831ce817d8", func := "loop.example/g01128/laws.FnExactIsTwofold", spec := "fnExactIsTwofold", recurses := true, apart := false }
def FnExactIsTwofoldSaid : Prop := fnExactIsTwofoldRow.holds Try.pinned (OpenSpec.ofChange fnExactIsTwofoldSpec)

/-- ITS FALSE NEIGHBOUR: 'it returns false'. Refute it at one input. -/
def fnExactIsTwofoldWrong : ChangeSpec := { name := "fnExactIsTwofold", fn := fun _ => fun
  | [d] => { results := [.lit (.bool false)], args := [d] }
  | _ => none }
def FnExactIsTwofoldWrongFalsely : Prop := fnExactIsTwofoldRow.holds Try.pinned (OpenSpec.ofChange fnExactIsTwofoldWrong)

/-- 'laws.FnExactIsEven': WHATEVER THE INPUT: true; the input reads as it did. -/
def fnExactIsEvenSpec : ChangeSpec := { name := "fnExactIsEven", fn := fun _ => fun
  | [d] => { results := [.lit (.bool true)], args := [d] }
  | _ => none }
def fnExactIsEvenRow : OpenClaim := { program := "ythhnpchjjbjabaa", sum := "7e5ce41ae233f149d26a2143ec56e98bececec5e652f63dd058245831ce817d8", func := "loop.example/g01128/laws.FnExactIsEven", spec := "fnExactIsEven", unfollowed := true, recurses := true, apart := false }
def FnExactIsEvenSaid : Prop := fnExactIsEvenRow.holds Try.pinned (OpenSpec.ofChange fnExactIsEvenSpec)

/-- ITS FALSE NEIGHBOUR: 'it returns false'. Refute it at one input. -/
def fnExactIsEvenWrong : ChangeSpec := { name := "fnExactIsEven", fn := fun _ => fun
  | [d] => { results := [.lit (.bool false)], args := [d] }
  | _ => none }
def FnExactIsEvenWrongFalsely : Prop := fnExactIsEvenRow.holds Try.pinned (OpenSpec.ofChange fnExactIsEvenWrong)

/-- 'laws.FnExactTokenDistance': WHATEVER THE INPUT: true; the input reads as it did. -/
def fnExactTokenDistanceSpec : ChangeSpec := { name := "fnExactTokenDistance", fn := fun _ => fun
  | [d1, d2] => { results := [.lit (.bool true)], args := [d1, d2] }
  | _ => none }
def fnExactTokenDistanceRow : OpenClaim := { program := "ythhnpchjjbjabaa", sum := "7e5ce41ae233f149d26a2143ec56e98bececec5e652f63dd058245831ce817d8", func := "loop.example/g01128/laws.FnExactTokenDistance", spec := "fnExactTokenDistance", unfollowed := true, recurses := true, apart := false }
def FnExactTokenDistanceSaid : Prop := fnExactTokenDistanceRow.holds Try.pinned (OpenSpec.ofChange fnExactTokenDistanceSpec)

/-- ITS FALSE NEIGHBOUR: 'it returns false'. Refute it at one input. -/
def fnExactTokenDistanceWrong : ChangeSpec := { name := "fnExactTokenDistance", fn := fun _ => fun
  | [d1, d2] => { results := [.lit (.bool false)], args := [d1, d2] }
  | _ => none }
def FnExactTokenDistanceWrongFalsely : Prop := fnExactTokenDistanceRow.holds Try.pinned (OpenSpec.ofChange fnExactTokenDistanceWrong)

/-- 'laws.FnExactBoardsReached': WHATEVER THE INPUT: true; the input reads as it did. -/
def fnExactBoardsReachedSpec : ChangeSpec := { name := "fnExactBoardsReached", fn := fun _ => fun
  | [d1, d2] => { results := [.lit (.bool true)], args := [d1, d2] }
  | _ => none }
def fnExactBoardsReachedRow : OpenClaim := { program := "ythhnpchjjbjabaa", sum := "7e5ce41ae233f149d26a2143ec56e98bececec5e652f63dd058245831ce817d8", func := "loop.example/g01128/laws.FnExactBoardsReached", spec := "fnExactBoardsReached", unfollowed := true, recurses := true, apart := false }
def FnExactBoardsReachedSaid : Prop := fnExactBoardsReachedRow.holds Try.pinned (OpenSpec.ofChange fnExactBoardsReachedSpec)

/-- ITS FALSE NEIGHBOUR: 'it returns false'. Refute it at one input. -/
def fnExactBoardsReachedWrong : ChangeSpec := { name := "fnExactBoardsReached", fn := fun _ => fun
  | [d1, d2] => { results := [.lit (.bool false)], args := [d1, d2] }
  | _ => none }
def FnExactBoardsReachedWrongFalsely : Prop := fnExactBoardsReachedRow.holds Try.pinned (OpenSpec.ofChange fnExactBoardsReachedWrong)

/-- 'laws.FnExactTokenSpace': WHATEVER THE INPUT: true; the input reads as it did. -/
def fnExactTokenSpaceSpec : ChangeSpec := { name := "fnExactTokenSpace", fn := fun _ => fun
  | [d] => { results := [.lit (.bool true)], args := [d] }
  | _ => none }
def fnExactTokenSpaceRow : OpenClaim := { program := "ythhnpchjjbjabaa", sum := "7e5ce41ae233f149d26a2143ec56e98bececec5e652f63dd058245831ce817d8", func := "loop.example/g01128/laws.FnExactTokenSpace", spec := "fnExactTokenSpace", unfollowed := true, recurses := true, apart := false }
def FnExactTokenSpaceSaid : Prop := fnExactTokenSpaceRow.holds Try.pinned (OpenSpec.ofChange fnExactTokenSpaceSpec)

/-- ITS FALSE NEIGHBOUR: 'it returns false'. Refute it at one input. -/
def fnExactTokenSpaceWrong : ChangeSpec := { name := "fnExactTokenSpace", fn := fun _ => fun
  | [d] => { results := [.lit (.bool false)], args := [d] }
  | _ => none }
def FnExactTokenSpaceWrongFalsely : Prop := fnExactTokenSpaceRow.holds Try.pinned (OpenSpec.ofChange fnExactTokenSpaceWrong)

/-- 'laws.FnExactSlideDistance': WHATEVER THE INPUT: true; the input reads as it did. -/
def fnExactSlideDistanceSpec : ChangeSpec := { name := "fnExactSlideDistance", fn := fun _ => fun
  | [d1, d2, d3] => { results := [.lit (.bool true)], args := [d1, d2, d3] }
  | _ => none }
def fnExactSlideDistanceRow : OpenClaim := { program := "ythhnpchjjbjabaa", sum := "7e5ce41ae233f149d26a2143ec56e98bececec5e652f63dd058245831ce817d8", func := "loop.example/g01128/laws.FnExactSlideDistance", spec := "fnExactSlideDistance", unfollowed := true, recurses := true, apart := false }
def FnExactSlideDistanceSaid : Prop := fnExactSlideDistanceRow.holds Try.pinned (OpenSpec.ofChange fnExactSlideDistanceSpec)

/-- ITS FALSE NEIGHBOUR: 'it returns false'. Refute it at one input. -/
def fnExactSlideDistanceWrong : ChangeSpec := { name := "fnExactSlideDistance", fn := fun _ => fun
  | [d1, d2, d3] => { results := [.lit (.bool false)], args := [d1, d2, d3] }
  | _ => none }
def FnExactSlideDistanceWrongFalsely : Prop := fnExactSlideDistanceRow.holds Try.pinned (OpenSpec.ofChange fnExactSlideDistanceWrong)

/-- 'laws.FnExactTokenSwaps': WHATEVER THE INPUT: true; the input reads as it did. -/
def fnExactTokenSwapsSpec : ChangeSpec := { name := "fnExactTokenSwaps", fn := fun _ => fun
  | [d1, d2] => { results := [.lit (.bool true)], args := [d1, d2] }
  | _ => none }
def fnExactTokenSwapsRow : OpenClaim := { program := "ythhnpchjjbjabaa", sum := "7e5ce41ae233f149d26a2143ec56e98bececec5e652f63dd058245831ce817d8", func := "loop.example/g01128/laws.FnExactTokenSwaps", spec := "fnExactTokenSwaps", unfollowed := true, recurses := true, apart := false }
def FnExactTokenSwapsSaid : Prop := fnExactTokenSwapsRow.holds Try.pinned (OpenSpec.ofChange fnExactTokenSwapsSpec)

/-- ITS FALSE NEIGHBOUR: 'it returns false'. Refute it at one input. -/
def fnExactTokenSwapsWrong : ChangeSpec := { name := "fnExactTokenSwaps", fn := fun _ => fun
  | [d1, d2] => { results := [.lit (.bool false)], args := [d1, d2] }
  | _ => none }
def FnExactTokenSwapsWrongFalsely : Prop := fnExactTokenSwapsRow.holds Try.pinned (OpenSpec.ofChange fnExactTokenSwapsWrong)

/-- 'laws.FnExactBoardsTold': WHATEVER THE INPUT: true; the input reads as it did. -/
def fnExactBoardsToldSpec : ChangeSpec := { name := "fnExactBoardsTold", fn := fun _ => fun
  | [d] => { results := [.lit (.bool true)], args := [d] }
  | _ => none }
def fnExactBoardsToldRow : OpenClaim := { program := "ythhnpchjjbjabaa", sum := "7e5ce41ae233f149d26a2143ec56e98bececec5e652f63dd058245831ce817d8", func := "loop.example/g01128/laws.FnExactBoardsTold", spec := "fnExactBoardsTold", unfollowed := true, recurses := true, apart := false }
def FnExactBoardsToldSaid : Prop := fnExactBoardsToldRow.holds Try.pinned (OpenSpec.ofChange fnExactBoardsToldSpec)

/-- ITS FALSE NEIGHBOUR: 'it returns false'. Refute it at one input. -/
def fnExactBoardsToldWrong : ChangeSpec := { name := "fnExactBoardsTold", fn := fun _ => fun
  | [d] => { results := [.lit (.bool false)], args := [d] }
  | _ => none }
def FnExactBoardsToldWrongFalsely : Prop := fnExactBoardsToldRow.holds Try.pinned (OpenSpec.ofChange fnExactBoardsToldWrong)

/-- 'laws.FnExactDifferencePieces': WHATEVER THE INPUT: true; the input reads as it did. -/
def fnExactDifferencePiecesSpec : ChangeSpec := { name := "fnExactDifferencePieces", fn := fun _ => fun
  | [d1, d2, d3] => { results := [.lit (.bool true)], args := [d1, d2, d3] }
  | _ => none }
def fnExactDifferencePiecesRow : OpenClaim := { program := "ythhnpchjjbjabaa", sum := "7e5ce41ae233f149d26a2143ec56e98bececec5e652f63dd058245831ce817d8", func := "loop.example/g01128/laws.FnExactDifferencePieces", spec := "fnExactDifferencePieces", unfollowed := true, recurses := true, apart := false }
def FnExactDifferencePiecesSaid : Prop := fnExactDifferencePiecesRow.holds Try.pinned (OpenSpec.ofChange fnExactDifferencePiecesSpec)

/-- ITS FALSE NEIGHBOUR: 'it returns false'. Refute it at one input. -/
def fnExactDifferencePiecesWrong : ChangeSpec := { name := "fnExactDifferencePieces", fn := fun _ => fun
  | [d1, d2, d3] => { results := [.lit (.bool false)], args := [d1, d2, d3] }
  | _ => none }
def FnExactDifferencePiecesWrongFalsely : Prop := fnExactDifferencePiecesRow.holds Try.pinned (OpenSpec.ofChange fnExactDifferencePiecesWrong)

/-- 'laws.FnExactMatchingSpace': WHATEVER THE INPUT: true; the input reads as it did. -/
def fnExactMatchingSpaceSpec : ChangeSpec := { name := "fnExactMatchingSpace", fn := fun _ => fun
  | [d1, d2] => { results := [.lit (.bool true)], args := [d1, d2] }
  | _ => none }
def fnExactMatchingSpaceRow : OpenClaim := { program := "ythhnpchjjbjabaa", sum := "7e5ce41ae233f149d26a2143ec56e98bececec5e652f63dd058245831ce817d8", func := "loop.example/g01128/laws.FnExactMatchingSpace", spec := "fnExactMatchingSpace", unfollowed := true, recurses := true, apart := false }
def FnExactMatchingSpaceSaid : Prop := fnExactMatchingSpaceRow.holds Try.pinned (OpenSpec.ofChange fnExactMatchingSpaceSpec)

/-- ITS FALSE NEIGHBOUR: 'it returns false'. Refute it at one input. -/
def fnExactMatchingSpaceWrong : ChangeSpec := { name := "fnExactMatchingSpace", fn := fun _ => fun
  | [d1, d2] => { results := [.lit (.bool false)], args := [d1, d2] }
  | _ => none }
def FnExactMatchingSpaceWrongFalsely : Prop := fnExactMatchingSpaceRow.holds Try.pinned (OpenSpec.ofChange fnExactMatchingSpaceWrong)

/-- 'laws.FnExactSlidePlan': WHATEVER THE INPUT: true; the input reads as it did. -/
def fnExactSlidePlanSpec : ChangeSpec := { name := "fnExactSlidePlan", fn := fun _ => fun
  | [d1, d2, d3] => { results := [.lit (.bool true)], args := [d1, d2, d3] }
  | _ => none }
def fnExactSlidePlanRow : OpenClaim := { program := "ythhnpchjjbjabaa", sum := "7e5ce41ae233f149d26a2143ec56e98bececec5e652f63dd058245831ce817d8", func := "loop.example/g01128/laws.FnExactSlidePlan", spec := "fnExactSlidePlan", unfollowed := true, recurses := true, apart := false }
def FnExactSlidePlanSaid : Prop := fnExactSlidePlanRow.holds Try.pinned (OpenSpec.ofChange fnExactSlidePlanSpec)

/-- ITS FALSE NEIGHBOUR: 'it returns false'. Refute it at one input. -/
def fnExactSlidePlanWrong : ChangeSpec := { name := "fnExactSlidePlan", fn := fun _ => fun
  | [d1, d2, d3] => { results := [.lit (.bool false)], args := [d1, d2, d3] }
  | _ => none }
def FnExactSlidePlanWrongFalsely : Prop := fnExactSlidePlanRow.holds Try.pinned (OpenSpec.ofChange fnExactSlidePlanWrong)

/-- 'laws.FnExactAlternatingCycle': WHATEVER THE INPUT: true; the input reads as it did. -/
def fnExactAlternatingCycleSpec : ChangeSpec := { name := "fnExactAlternatingCycle", fn := fun _ => fun
  | [d1, d2, d3] => { results := [.lit (.bool true)], args := [d1, d2, d3] }
  | _ => none }
def fnExactAlternatingCycleRow : OpenClaim := { program := "ythhnpchjjbjabaa", sum := "7e5ce41ae233f149d26a2143ec56e98bececec5e652f63dd058245831ce817d8", func := "loop.example/g01128/laws.FnExactAlternatingCycle", spec := "fnExactAlternatingCycle", unfollowed := true, recurses := true, apart := false }
def FnExactAlternatingCycleSaid : Prop := fnExactAlternatingCycleRow.holds Try.pinned (OpenSpec.ofChange fnExactAlternatingCycleSpec)

/-- ITS FALSE NEIGHBOUR: 'it returns false'. Refute it at one input. -/
def fnExactAlternatingCycleWrong : ChangeSpec := { name := "fnExactAlternatingCycle", fn := fun _ => fun
  | [d1, d2, d3] => { results := [.lit (.bool false)], args := [d1, d2, d3] }
  | _ => none }
def FnExactAlternatingCycleWrongFalsely : Prop := fnExactAlternatingCycleRow.holds Try.pinned (OpenSpec.ofChange fnExactAlternatingCycleWrong)

/- THE SECOND FORM. 'bulk': how many values and letters a reading holds, each counted each time it is reached (what is shared counts as often as it is met; a slice's spare places count too). A statement '..UptoSaid' is the law's where the arguments, and the package variables that the reading takes, are together of bulk at most 1048576: NARROWER than '..Said'. Prove '..Said' where nothing that the law and all that it calls make is longer than what came in: it says more and counts as full. Else prove '..UptoSaid'. A law counts once. -/
mutual
def uptoBulk {H : Type} : DataW H → Nat
  | .lit (.string bytes) => bytes.length + 1
  | .lit _ => 1
  | .nil => 1
  | .ptr d => uptoBulk d + 1
  | .slice elems spare => uptoBulkAll elems + uptoBulkAll spare + 1
  | .agg parts => uptoBulkAll parts + 1
  | .iface _ d => uptoBulk d + 1
  | .map entries => uptoBulkEntries entries + 1
  | .held _ => 1
def uptoBulkAll {H : Type} : List (DataW H) → Nat
  | [] => 0
  | d :: r => uptoBulk d + uptoBulkAll r
def uptoBulkEntries {H : Type} : List (Lit × DataW H) → Nat
  | [] => 0
  | x :: r => uptoBulkEntry x + uptoBulkEntries r
def uptoBulkEntry {H : Type} : Lit × DataW H → Nat
  | (.string bytes, d) => bytes.length + uptoBulk d + 1
  | (_, d) => uptoBulk d + 1
 end
def uptoSmall : (H : Type) → List (DataW H) → Bool := fun _ ds => decide (uptoBulkAll ds ≤ 1048576)
def OpenSpec.upto (s : _root_.Go.ChangeSpec) : _root_.Go.OpenSpec := { _root_.Go.OpenSpec.ofChange s with cond := some uptoSmall }

/-- 'laws.FnExactIsTwofold', WHERE WHAT IT READS IS OF BULK AT MOST 1048576: true; the input reads as it did. -/
def fnExactIsTwofoldUptoRow : OpenClaim := { program := "ythhnpchjjbjabaa", sum := "7e5ce41ae233f149d26a2143ec56e98bececec5e652f63dd058245831ce817d8", func := "loop.example/g01128/laws.FnExactIsTwofold", spec := "fnExactIsTwofold", recurses := true, apart := false, narrowed := true }
def FnExactIsTwofoldUptoSaid : Prop := fnExactIsTwofoldUptoRow.holds Try.pinned (OpenSpec.upto fnExactIsTwofoldSpec)

/-- 'laws.FnExactIsEven', WHERE WHAT IT READS IS OF BULK AT MOST 1048576: true; the input reads as it did. -/
def fnExactIsEvenUptoRow : OpenClaim := { program := "ythhnpchjjbjabaa", sum := "7e5ce41ae233f149d26a2143ec56e98bececec5e652f63dd058245831ce817d8", func := "loop.example/g01128/laws.FnExactIsEven", spec := "fnExactIsEven", unfollowed := true, recurses := true, apart := false, narrowed := true }
def FnExactIsEvenUptoSaid : Prop := fnExactIsEvenUptoRow.holds Try.pinned (OpenSpec.upto fnExactIsEvenSpec)

/-- 'laws.FnExactTokenDistance', WHERE WHAT IT READS IS OF BULK AT MOST 1048576: true; the input reads as it did. -/
def fnExactTokenDistanceUptoRow : OpenClaim := { program := "ythhnpchjjbjabaa", sum := "7e5ce41ae233f149d26a2143ec56e98bececec5e652f63dd058245831ce817d8", func := "loop.example/g01128/laws.FnExactTokenDistance", spec := "fnExactTokenDistance", unfollowed := true, recurses := true, apart := false, narrowed := true }
def FnExactTokenDistanceUptoSaid : Prop := fnExactTokenDistanceUptoRow.holds Try.pinned (OpenSpec.upto fnExactTokenDistanceSpec)

/-- 'laws.FnExactBoardsReached', WHERE WHAT IT READS IS OF BULK AT MOST 1048576: true; the input reads as it did. -/
def fnExactBoardsReachedUptoRow : OpenClaim := { program := "ythhnpchjjbjabaa", sum := "7e5ce41ae233f149d26a2143ec56e98bececec5e652f63dd058245831ce817d8", func := "loop.example/g01128/laws.FnExactBoardsReached", spec := "fnExactBoardsReached", unfollowed := true, recurses := true, apart := false, narrowed := true }
def FnExactBoardsReachedUptoSaid : Prop := fnExactBoardsReachedUptoRow.holds Try.pinned (OpenSpec.upto fnExactBoardsReachedSpec)

/-- 'laws.FnExactTokenSpace', WHERE WHAT IT READS IS OF BULK AT MOST 1048576: true; the input reads as it did. -/
def fnExactTokenSpaceUptoRow : OpenClaim := { program := "ythhnpchjjbjabaa", sum := "7e5ce41ae233f149d26a2143ec56e98bececec5e652f63dd058245831ce817d8", func := "loop.example/g01128/laws.FnExactTokenSpace", spec := "fnExactTokenSpace", unfollowed := true, recurses := true, apart := false, narrowed := true }
def FnExactTokenSpaceUptoSaid : Prop := fnExactTokenSpaceUptoRow.holds Try.pinned (OpenSpec.upto fnExactTokenSpaceSpec)

/-- 'laws.FnExactSlideDistance', WHERE WHAT IT READS IS OF BULK AT MOST 1048576: true; the input reads as it did. -/
def fnExactSlideDistanceUptoRow : OpenClaim := { program := "ythhnpchjjbjabaa", sum := "7e5ce41ae233f149d26a2143ec56e98bececec5e652f63dd058245831ce817d8", func := "loop.example/g01128/laws.FnExactSlideDistance", spec := "fnExactSlideDistance", unfollowed := true, recurses := true, apart := false, narrowed := true }
def FnExactSlideDistanceUptoSaid : Prop := fnExactSlideDistanceUptoRow.holds Try.pinned (OpenSpec.upto fnExactSlideDistanceSpec)

/-- 'laws.FnExactTokenSwaps', WHERE WHAT IT READS IS OF BULK AT MOST 1048576: true; the input reads as it did. -/
def fnExactTokenSwapsUptoRow : OpenClaim := { program := "ythhnpchjjbjabaa", sum := "7e5ce41ae233f149d26a2143ec56e98bececec5e652f63dd058245831ce817d8", func := "loop.example/g01128/laws.FnExactTokenSwaps", spec := "fnExactTokenSwaps", unfollowed := true, recurses := true, apart := false, narrowed := true }
def FnExactTokenSwapsUptoSaid : Prop := fnExactTokenSwapsUptoRow.holds Try.pinned (OpenSpec.upto fnExactTokenSwapsSpec)

/-- 'laws.FnExactBoardsTold', WHERE WHAT IT READS IS OF BULK AT MOST 1048576: true; the input reads as it did. -/
def fnExactBoardsToldUptoRow : OpenClaim := { program := "ythhnpchjjbjabaa", sum := "7e5ce41ae233f149d26a2143ec56e98bececec5e652f63dd058245831ce817d8", func := "loop.example/g01128/laws.FnExactBoardsTold", spec := "fnExactBoardsTold", unfollowed := true, recurses := true, apart := false, narrowed := true }
def FnExactBoardsToldUptoSaid : Prop := fnExactBoardsToldUptoRow.holds Try.pinned (OpenSpec.upto fnExactBoardsToldSpec)

/-- 'laws.FnExactDifferencePieces', WHERE WHAT IT READS IS OF BULK AT MOST 1048576: true; the input reads as it did. -/
def fnExactDifferencePiecesUptoRow : OpenClaim := { program := "ythhnpchjjbjabaa", sum := "7e5ce41ae233f149d26a2143ec56e98bececec5e652f63dd058245831ce817d8", func := "loop.example/g01128/laws.FnExactDifferencePieces", spec := "fnExactDifferencePieces", unfollowed := true, recurses := true, apart := false, narrowed := true }
def FnExactDifferencePiecesUptoSaid : Prop := fnExactDifferencePiecesUptoRow.holds Try.pinned (OpenSpec.upto fnExactDifferencePiecesSpec)

/-- 'laws.FnExactMatchingSpace', WHERE WHAT IT READS IS OF BULK AT MOST 1048576: true; the input reads as it did. -/
def fnExactMatchingSpaceUptoRow : OpenClaim := { program := "ythhnpchjjbjabaa", sum := "7e5ce41ae233f149d26a2143ec56e98bececec5e652f63dd058245831ce817d8", func := "loop.example/g01128/laws.FnExactMatchingSpace", spec := "fnExactMatchingSpace", unfollowed := true, recurses := true, apart := false, narrowed := true }
def FnExactMatchingSpaceUptoSaid : Prop := fnExactMatchingSpaceUptoRow.holds Try.pinned (OpenSpec.upto fnExactMatchingSpaceSpec)

/-- 'laws.FnExactSlidePlan', WHERE WHAT IT READS IS OF BULK AT MOST 1048576: true; the input reads as it did. -/
def fnExactSlidePlanUptoRow : OpenClaim := { program := "ythhnpchjjbjabaa", sum := "7e5ce41ae233f149d26a2143ec56e98bececec5e652f63dd058245831ce817d8", func := "loop.example/g01128/laws.FnExactSlidePlan", spec := "fnExactSlidePlan", unfollowed := true, recurses := true, apart := false, narrowed := true }
def FnExactSlidePlanUptoSaid : Prop := fnExactSlidePlanUptoRow.holds Try.pinned (OpenSpec.upto fnExactSlidePlanSpec)

/-- 'laws.FnExactAlternatingCycle', WHERE WHAT IT READS IS OF BULK AT MOST 1048576: true; the input reads as it did. -/
def fnExactAlternatingCycleUptoRow : OpenClaim := { program := "ythhnpchjjbjabaa", sum := "7e5ce41ae233f149d26a2143ec56e98bececec5e652f63dd058245831ce817d8", func := "loop.example/g01128/laws.FnExactAlternatingCycle", spec := "fnExactAlternatingCycle", unfollowed := true, recurses := true, apart := false, narrowed := true }
def FnExactAlternatingCycleUptoSaid : Prop := fnExactAlternatingCycleUptoRow.holds Try.pinned (OpenSpec.upto fnExactAlternatingCycleSpec)

end Rows
end Go.Proofs.Ythhnpchjjbjabaa
