/-
  No cell of these rows narrows 'for every input' (looked for: loops, veiled, ifaces, maps, wideKeys, modest, calm, conditions, laid).
  DERIVED. THE GIVEN ROWS OF THIS SEAT. 12 by the template 'for every input the law returns true; each argument reads behind the call as it read before'; 0 by the template 'total and deterministic' (their statements: YtahakecifgjcnaaTotals.lean).
  GIVEN WITH THE SEED: the statements are not yours to turn. If you find one false, say at which input.
  Laid BY PROGRAM, IN A SANDBOX (cutbox-rows.mjs): the forced cells as the released guide's own fill.sh prints them over the translation 48dc90892fc32260… (all of the seat's roots in one cut). By AI agents, Wed Nov 11 2026. No macro, syntax, notation, axiom, sorry.
-/
import Derived.Test.YtahakecifgjcnaaChecked
import GoSem.Claim
import GoSem.ClaimJoined
import GoSem.ClaimMapViews
import Derived.JoinedTies
import Derived.KernelRfl
namespace Go.Proofs.Ytahakecifgjcnaa
/- THE CELL 'sum', in the pinned program and in every row, IS THE sha256 OF THE DUMP (.gsa) THAT YtahakecifgjcnaaProg.lean LOADS. Nothing in Lean hashes anything: it is a label: what it is worth is what the hold of that sum in a sandbox is worth. -/
noncomputable def Try.pinned : Pinned := { name := "ytahakecifgjcnaa", sum := "48dc90892fc32260034f7135974bd0f02698a2b4ceaea78121c02335993e795b", checked := Try.checked }
namespace Rows
def none {H : Type} : Left H := { results := [], args := [] }

/-- 'laws.FnExactSwapPlaces': WHATEVER THE INPUT: true; the input reads as it did. -/
def fnExactSwapPlacesSpec : ChangeSpec := { name := "fnExactSwapPlaces", fn := fun _ => fun
  | [d1, d2] => { results := [.lit (.bool true)], args := [d1, d2] }
  | _ => none }
def fnExactSwapPlacesRow : OpenClaim := { program := "ytahakecifgjcnaa", sum := "48dc90892fc32260034f7135974bd0f02698a2b4ceaea78121c02335993e795b", func := "loop.example/g01128/laws.FnExactSwapPlaces", spec := "fnExactSwapPlaces", unfollowed := true, recurses := true, apart := false }
def FnExactSwapPlacesSaid : Prop := fnExactSwapPlacesRow.holds Try.pinned (OpenSpec.ofChange fnExactSwapPlacesSpec)

/-- ITS FALSE NEIGHBOUR: 'it returns false'. Refute it at one input. -/
def fnExactSwapPlacesWrong : ChangeSpec := { name := "fnExactSwapPlaces", fn := fun _ => fun
  | [d1, d2] => { results := [.lit (.bool false)], args := [d1, d2] }
  | _ => none }
def FnExactSwapPlacesWrongFalsely : Prop := fnExactSwapPlacesRow.holds Try.pinned (OpenSpec.ofChange fnExactSwapPlacesWrong)

/-- 'laws.FnExactFlipDiagonal': WHATEVER THE INPUT: true; the input reads as it did. -/
def fnExactFlipDiagonalSpec : ChangeSpec := { name := "fnExactFlipDiagonal", fn := fun _ => fun
  | [d1, d2, d3] => { results := [.lit (.bool true)], args := [d1, d2, d3] }
  | _ => none }
def fnExactFlipDiagonalRow : OpenClaim := { program := "ytahakecifgjcnaa", sum := "48dc90892fc32260034f7135974bd0f02698a2b4ceaea78121c02335993e795b", func := "loop.example/g01128/laws.FnExactFlipDiagonal", spec := "fnExactFlipDiagonal", unfollowed := true, recurses := true, apart := false }
def FnExactFlipDiagonalSaid : Prop := fnExactFlipDiagonalRow.holds Try.pinned (OpenSpec.ofChange fnExactFlipDiagonalSpec)

/-- ITS FALSE NEIGHBOUR: 'it returns false'. Refute it at one input. -/
def fnExactFlipDiagonalWrong : ChangeSpec := { name := "fnExactFlipDiagonal", fn := fun _ => fun
  | [d1, d2, d3] => { results := [.lit (.bool false)], args := [d1, d2, d3] }
  | _ => none }
def FnExactFlipDiagonalWrongFalsely : Prop := fnExactFlipDiagonalRow.holds Try.pinned (OpenSpec.ofChange fnExactFlipDiagonalWrong)

/-- 'laws.FnExactIsMatching': WHATEVER THE INPUT: true; the input reads as it did. -/
def fnExactIsMatchingSpec : ChangeSpec := { name := "fnExactIsMatching", fn := fun _ => fun
  | [d1, d2] => { results := [.lit (.bool true)], args := [d1, d2] }
  | _ => none }
def fnExactIsMatchingRow : OpenClaim := { program := "ytahakecifgjcnaa", sum := "48dc90892fc32260034f7135974bd0f02698a2b4ceaea78121c02335993e795b", func := "loop.example/g01128/laws.FnExactIsMatching", spec := "fnExactIsMatching", apart := false }
def FnExactIsMatchingSaid : Prop := fnExactIsMatchingRow.holds Try.pinned (OpenSpec.ofChange fnExactIsMatchingSpec)

/-- ITS FALSE NEIGHBOUR: 'it returns false'. Refute it at one input. -/
def fnExactIsMatchingWrong : ChangeSpec := { name := "fnExactIsMatching", fn := fun _ => fun
  | [d1, d2] => { results := [.lit (.bool false)], args := [d1, d2] }
  | _ => none }
def FnExactIsMatchingWrongFalsely : Prop := fnExactIsMatchingRow.holds Try.pinned (OpenSpec.ofChange fnExactIsMatchingWrong)

/-- 'laws.FnExactIsTwofold': WHATEVER THE INPUT: true; the input reads as it did. -/
def fnExactIsTwofoldSpec : ChangeSpec := { name := "fnExactIsTwofold", fn := fun _ => fun
  | [d] => { results := [.lit (.bool true)], args := [d] }
  | _ => none }
def fnExactIsTwofoldRow : OpenClaim := { program := "ytahakecifgjcnaa", sum := "48dc90892fc32260034f7135974bd0f02698a2b4ceaea78121c02335993e795b", func := "loop.example/g01128/laws.FnExactIsTwofold", spec := "fnExactIsTwofold", recurses := true, apart := false }
def FnExactIsTwofoldSaid : Prop := fnExactIsTwofoldRow.holds Try.pinned (OpenSpec.ofChange fnExactIsTwofoldSpec)

/-- ITS FALSE NEIGHBOUR: 'it returns false'. Refute it at one input. -/
def fnExactIsTwofoldWrong : ChangeSpec := { name := "fnExactIsTwofold", fn := fun _ => fun
  | [d] => { results := [.lit (.bool false)], args := [d] }
  | _ => none }
def FnExactIsTwofoldWrongFalsely : Prop := fnExactIsTwofoldRow.holds Try.pinned (OpenSpec.ofChange fnExactIsTwofoldWrong)

/-- 'laws.FnExactIsEven': WHATEVER THE INPUT: true; the input reads as it did. -/
def fnExactIsEvenSpec : ChangeSpec := { name := "fnExactIsEven", fn := fun _ => fun
  | [d] => { results := [.lit (.bool true)], args := [d] }
  | _ => none }
def fnExactIsEvenRow : OpenClaim := { program := "ytahakecifgjcnaa", sum := "48dc90892fc32260034f7135974bd0f02698a2b4ceaea78121c02335993e795b", func := "loop.example/g01128/laws.FnExactIsEven", spec := "fnExactIsEven", unfollowed := true, recurses := true, apart := false }
def FnExactIsEvenSaid : Prop := fnExactIsEvenRow.holds Try.pinned (OpenSpec.ofChange fnExactIsEvenSpec)

/-- ITS FALSE NEIGHBOUR: 'it returns false'. Refute it at one input. -/
def fnExactIsEvenWrong : ChangeSpec := { name := "fnExactIsEven", fn := fun _ => fun
  | [d] => { results := [.lit (.bool false)], args := [d] }
  | _ => none }
def FnExactIsEvenWrongFalsely : Prop := fnExactIsEvenRow.holds Try.pinned (OpenSpec.ofChange fnExactIsEvenWrong)

/-- 'laws.FnExactPolygonSpace': WHATEVER THE INPUT: true; the input reads as it did. -/
def fnExactPolygonSpaceSpec : ChangeSpec := { name := "fnExactPolygonSpace", fn := fun _ => fun
  | [d] => { results := [.lit (.bool true)], args := [d] }
  | _ => none }
def fnExactPolygonSpaceRow : OpenClaim := { program := "ytahakecifgjcnaa", sum := "48dc90892fc32260034f7135974bd0f02698a2b4ceaea78121c02335993e795b", func := "loop.example/g01128/laws.FnExactPolygonSpace", spec := "fnExactPolygonSpace", unfollowed := true, recurses := true, apart := false }
def FnExactPolygonSpaceSaid : Prop := fnExactPolygonSpaceRow.holds Try.pinned (OpenSpec.ofChange fnExactPolygonSpaceSpec)

/-- ITS FALSE NEIGHBOUR: 'it returns false'. Refute it at one input. -/
def fnExactPolygonSpaceWrong : ChangeSpec := { name := "fnExactPolygonSpace", fn := fun _ => fun
  | [d] => { results := [.lit (.bool false)], args := [d] }
  | _ => none }
def FnExactPolygonSpaceWrongFalsely : Prop := fnExactPolygonSpaceRow.holds Try.pinned (OpenSpec.ofChange fnExactPolygonSpaceWrong)

/-- 'laws.FnExactLargestMatching': WHATEVER THE INPUT: true; the input reads as it did. -/
def fnExactLargestMatchingSpec : ChangeSpec := { name := "fnExactLargestMatching", fn := fun _ => fun
  | [d] => { results := [.lit (.bool true)], args := [d] }
  | _ => none }
def fnExactLargestMatchingRow : OpenClaim := { program := "ytahakecifgjcnaa", sum := "48dc90892fc32260034f7135974bd0f02698a2b4ceaea78121c02335993e795b", func := "loop.example/g01128/laws.FnExactLargestMatching", spec := "fnExactLargestMatching", unfollowed := true, recurses := true, apart := false }
def FnExactLargestMatchingSaid : Prop := fnExactLargestMatchingRow.holds Try.pinned (OpenSpec.ofChange fnExactLargestMatchingSpec)

/-- ITS FALSE NEIGHBOUR: 'it returns false'. Refute it at one input. -/
def fnExactLargestMatchingWrong : ChangeSpec := { name := "fnExactLargestMatching", fn := fun _ => fun
  | [d] => { results := [.lit (.bool false)], args := [d] }
  | _ => none }
def FnExactLargestMatchingWrongFalsely : Prop := fnExactLargestMatchingRow.holds Try.pinned (OpenSpec.ofChange fnExactLargestMatchingWrong)

/-- 'laws.FnExactPerfectMatchings': WHATEVER THE INPUT: true; the input reads as it did. -/
def fnExactPerfectMatchingsSpec : ChangeSpec := { name := "fnExactPerfectMatchings", fn := fun _ => fun
  | [d] => { results := [.lit (.bool true)], args := [d] }
  | _ => none }
def fnExactPerfectMatchingsRow : OpenClaim := { program := "ytahakecifgjcnaa", sum := "48dc90892fc32260034f7135974bd0f02698a2b4ceaea78121c02335993e795b", func := "loop.example/g01128/laws.FnExactPerfectMatchings", spec := "fnExactPerfectMatchings", unfollowed := true, recurses := true, apart := false }
def FnExactPerfectMatchingsSaid : Prop := fnExactPerfectMatchingsRow.holds Try.pinned (OpenSpec.ofChange fnExactPerfectMatchingsSpec)

/-- ITS FALSE NEIGHBOUR: 'it returns false'. Refute it at one input. -/
def fnExactPerfectMatchingsWrong : ChangeSpec := { name := "fnExactPerfectMatchings", fn := fun _ => fun
  | [d] => { results := [.lit (.bool false)], args := [d] }
  | _ => none }
def FnExactPerfectMatchingsWrongFalsely : Prop := fnExactPerfectMatchingsRow.holds Try.pinned (OpenSpec.ofChange fnExactPerfectMatchingsWrong)

/-- 'laws.FnExactSlideTokens': WHATEVER THE INPUT: true; the input reads as it did. -/
def fnExactSlideTokensSpec : ChangeSpec := { name := "fnExactSlideTokens", fn := fun _ => fun
  | [d1, d2, d3] => { results := [.lit (.bool true)], args := [d1, d2, d3] }
  | _ => none }
def fnExactSlideTokensRow : OpenClaim := { program := "ytahakecifgjcnaa", sum := "48dc90892fc32260034f7135974bd0f02698a2b4ceaea78121c02335993e795b", func := "loop.example/g01128/laws.FnExactSlideTokens", spec := "fnExactSlideTokens", unfollowed := true, recurses := true, apart := false }
def FnExactSlideTokensSaid : Prop := fnExactSlideTokensRow.holds Try.pinned (OpenSpec.ofChange fnExactSlideTokensSpec)

/-- ITS FALSE NEIGHBOUR: 'it returns false'. Refute it at one input. -/
def fnExactSlideTokensWrong : ChangeSpec := { name := "fnExactSlideTokens", fn := fun _ => fun
  | [d1, d2, d3] => { results := [.lit (.bool false)], args := [d1, d2, d3] }
  | _ => none }
def FnExactSlideTokensWrongFalsely : Prop := fnExactSlideTokensRow.holds Try.pinned (OpenSpec.ofChange fnExactSlideTokensWrong)

/-- 'laws.FnExactTokenDistance': WHATEVER THE INPUT: true; the input reads as it did. -/
def fnExactTokenDistanceSpec : ChangeSpec := { name := "fnExactTokenDistance", fn := fun _ => fun
  | [d1, d2] => { results := [.lit (.bool true)], args := [d1, d2] }
  | _ => none }
def fnExactTokenDistanceRow : OpenClaim := { program := "ytahakecifgjcnaa", sum := "48dc90892fc32260034f7135974bd0f02698a2b4ceaea78121c02335993e795b", func := "loop.example/g01128/laws.FnExactTokenDistance", spec := "fnExactTokenDistance", unfollowed := true, recurses := true, apart := false }
def FnExactTokenDistanceSaid : Prop := fnExactTokenDistanceRow.holds Try.pinned (OpenSpec.ofChange fnExactTokenDistanceSpec)

/-- ITS FALSE NEIGHBOUR: 'it returns false'. Refute it at one input. -/
def fnExactTokenDistanceWrong : ChangeSpec := { name := "fnExactTokenDistance", fn := fun _ => fun
  | [d1, d2] => { results := [.lit (.bool false)], args := [d1, d2] }
  | _ => none }
def FnExactTokenDistanceWrongFalsely : Prop := fnExactTokenDistanceRow.holds Try.pinned (OpenSpec.ofChange fnExactTokenDistanceWrong)

/-- 'laws.FnExactBoardsReached': WHATEVER THE INPUT: true; the input reads as it did. -/
def fnExactBoardsReachedSpec : ChangeSpec := { name := "fnExactBoardsReached", fn := fun _ => fun
  | [d1, d2] => { results := [.lit (.bool true)], args := [d1, d2] }
  | _ => none }
def fnExactBoardsReachedRow : OpenClaim := { program := "ytahakecifgjcnaa", sum := "48dc90892fc32260034f7135974bd0f02698a2b4ceaea78121c02335993e795b", func := "loop.example/g01128/laws.FnExactBoardsReached", spec := "fnExactBoardsReached", unfollowed := true, recurses := true, apart := false }
def FnExactBoardsReachedSaid : Prop := fnExactBoardsReachedRow.holds Try.pinned (OpenSpec.ofChange fnExactBoardsReachedSpec)

/-- ITS FALSE NEIGHBOUR: 'it returns false'. Refute it at one input. -/
def fnExactBoardsReachedWrong : ChangeSpec := { name := "fnExactBoardsReached", fn := fun _ => fun
  | [d1, d2] => { results := [.lit (.bool false)], args := [d1, d2] }
  | _ => none }
def FnExactBoardsReachedWrongFalsely : Prop := fnExactBoardsReachedRow.holds Try.pinned (OpenSpec.ofChange fnExactBoardsReachedWrong)

/-- 'laws.FnExactTokenHalf': WHATEVER THE INPUT: true; the input reads as it did. -/
def fnExactTokenHalfSpec : ChangeSpec := { name := "fnExactTokenHalf", fn := fun _ => fun
  | [d1, d2] => { results := [.lit (.bool true)], args := [d1, d2] }
  | _ => none }
def fnExactTokenHalfRow : OpenClaim := { program := "ytahakecifgjcnaa", sum := "48dc90892fc32260034f7135974bd0f02698a2b4ceaea78121c02335993e795b", func := "loop.example/g01128/laws.FnExactTokenHalf", spec := "fnExactTokenHalf", unfollowed := true, recurses := true, apart := false }
def FnExactTokenHalfSaid : Prop := fnExactTokenHalfRow.holds Try.pinned (OpenSpec.ofChange fnExactTokenHalfSpec)

/-- ITS FALSE NEIGHBOUR: 'it returns false'. Refute it at one input. -/
def fnExactTokenHalfWrong : ChangeSpec := { name := "fnExactTokenHalf", fn := fun _ => fun
  | [d1, d2] => { results := [.lit (.bool false)], args := [d1, d2] }
  | _ => none }
def FnExactTokenHalfWrongFalsely : Prop := fnExactTokenHalfRow.holds Try.pinned (OpenSpec.ofChange fnExactTokenHalfWrong)

/- THE SECOND FORM. 'bulk': how many values and letters a reading holds, each counted each time it is reached (what is shared counts as often as it is met; a slice's spare places count too). A statement '..UptoSaid' is the law's where the arguments, and the package variables that the reading takes, are together of bulk at most 1048576: NARROWER than '..Said'. Prove '..Said' where nothing that the law and all that it calls make is longer than what came in: it says more and counts as full. Else prove '..UptoSaid'. A law counts once. -/
mutual
def uptoBulk {H : Type} : DataW H → Nat
  | .lit (.string bytes) => bytes.length + 1
  | .lit _ => 1
  | .nil => 1
  | .ptr d => uptoBulk d + 1
  | .slice elems spare => uptoBulkAll elems + uptoBulkAll spare + 1
  | .agg parts => uptoBulkAll parts + 1
  | .iface _ d => uptoBulk d + 1
  | .map entries => uptoBulkEntries entries + 1
  | .held _ => 1
def uptoBulkAll {H : Type} : List (DataW H) → Nat
  | [] => 0
  | d :: r => uptoBulk d + uptoBulkAll r
def uptoBulkEntries {H : Type} : List (Lit × DataW H) → Nat
  | [] => 0
  | x :: r => uptoBulkEntry x + uptoBulkEntries r
def uptoBulkEntry {H : Type} : Lit × DataW H → Nat
  | (.string bytes, d) => bytes.length + uptoBulk d + 1
  | (_, d) => uptoBulk d + 1
 end
def uptoSmall : (H : Type) → List (DataW H) → Bool := fun _ ds => decide (uptoBulkAll ds ≤ 1048576)
def OpenSpec.upto (s : _root_.Go.ChangeSpec) : _root_.Go.OpenSpec := { _root_.Go.OpenSpec.ofChange s with cond := some uptoSmall }

/-- 'laws.FnExactSwapPlaces', WHERE WHAT IT READS IS OF BULK AT MOST 1048576: true; the input reads as it did. -/
def fnExactSwapPlacesUptoRow : OpenClaim := { program := "ytahakecifgjcnaa", sum := "48dc90892fc32260034f7135974bd0f02698a2b4ceaea78121c02335993e795b", func := "loop.example/g01128/laws.FnExactSwapPlaces", spec := "fnExactSwapPlaces", unfollowed := true, recurses := true, apart := false, narrowed := true }
def FnExactSwapPlacesUptoSaid : Prop := fnExactSwapPlacesUptoRow.holds Try.pinned (OpenSpec.upto fnExactSwapPlacesSpec)

/-- 'laws.FnExactFlipDiagonal', WHERE WHAT IT READS IS OF BULK AT MOST 1048576: true; the input reads as it did. -/
def fnExactFlipDiagonalUptoRow : OpenClaim := { program := "ytahakecifgjcnaa", sum := "48dc90892fc32260034f7135974bd0f02698a2b4ceaea78121c02335993e795b", func := "loop.example/g01128/laws.FnExactFlipDiagonal", spec := "fnExactFlipDiagonal", unfollowed := true, recurses := true, apart := false, narrowed := true }
def FnExactFlipDiagonalUptoSaid : Prop := fnExactFlipDiagonalUptoRow.holds Try.pinned (OpenSpec.upto fnExactFlipDiagonalSpec)

/-- 'laws.FnExactIsMatching', WHERE WHAT IT READS IS OF BULK AT MOST 1048576: true; the input reads as it did. -/
def fnExactIsMatchingUptoRow : OpenClaim := { program := "ytahakecifgjcnaa", sum := "48dc90892fc32260034f7135974bd0f02698a2b4ceaea78121c02335993e795b", func := "loop.example/g01128/laws.FnExactIsMatching", spec := "fnExactIsMatching", apart := false, narrowed := true }
def FnExactIsMatchingUptoSaid : Prop := fnExactIsMatchingUptoRow.holds Try.pinned (OpenSpec.upto fnExactIsMatchingSpec)

/-- 'laws.FnExactIsTwofold', WHERE WHAT IT READS IS OF BULK AT MOST 1048576: true; the input reads as it did. -/
def fnExactIsTwofoldUptoRow : OpenClaim := { program := "ytahakecifgjcnaa", sum := "48dc90892fc32260034f7135974bd0f02698a2b4ceaea78121c02335993e795b", func := "loop.example/g01128/laws.FnExactIsTwofold", spec := "fnExactIsTwofold", recurses := true, apart := false, narrowed := true }
def FnExactIsTwofoldUptoSaid : Prop := fnExactIsTwofoldUptoRow.holds Try.pinned (OpenSpec.upto fnExactIsTwofoldSpec)

/-- 'laws.FnExactIsEven', WHERE WHAT IT READS IS OF BULK AT MOST 1048576: true; the input reads as it did. -/
def fnExactIsEvenUptoRow : OpenClaim := { program := "ytahakecifgjcnaa", sum := "48dc90892fc32260034f7135974bd0f02698a2b4ceaea78121c02335993e795b", func := "loop.example/g01128/laws.FnExactIsEven", spec := "fnExactIsEven", unfollowed := true, recurses := true, apart := false, narrowed := true }
def FnExactIsEvenUptoSaid : Prop := fnExactIsEvenUptoRow.holds Try.pinned (OpenSpec.upto fnExactIsEvenSpec)

/-- 'laws.FnExactPolygonSpace', WHERE WHAT IT READS IS OF BULK AT MOST 1048576: true; the input reads as it did. -/
def fnExactPolygonSpaceUptoRow : OpenClaim := { program := "ytahakecifgjcnaa", sum := "48dc90892fc32260034f7135974bd0f02698a2b4ceaea78121c02335993e795b", func := "loop.example/g01128/laws.FnExactPolygonSpace", spec := "fnExactPolygonSpace", unfollowed := true, recurses := true, apart := false, narrowed := true }
def FnExactPolygonSpaceUptoSaid : Prop := fnExactPolygonSpaceUptoRow.holds Try.pinned (OpenSpec.upto fnExactPolygonSpaceSpec)

/-- 'laws.FnExactLargestMatching', WHERE WHAT IT READS IS OF BULK AT MOST 1048576: true; the input reads as it did. -/
def fnExactLargestMatchingUptoRow : OpenClaim := { program := "ytahakecifgjcnaa", sum := "48dc90892fc32260034f7135974bd0f02698a2b4ceaea78121c02335993e795b", func := "loop.example/g01128/laws.FnExactLargestMatching", spec := "fnExactLargestMatching", unfollowed := true, recurses := true, apart := false, narrowed := true }
def FnExactLargestMatchingUptoSaid : Prop := fnExactLargestMatchingUptoRow.holds Try.pinned (OpenSpec.upto fnExactLargestMatchingSpec)

/-- 'laws.FnExactPerfectMatchings', WHERE WHAT IT READS IS OF BULK AT MOST 1048576: true; the input reads as it did. -/
def fnExactPerfectMatchingsUptoRow : OpenClaim := { program := "ytahakecifgjcnaa", sum := "48dc90892fc32260034f7135974bd0f02698a2b4ceaea78121c02335993e795b", func := "loop.example/g01128/laws.FnExactPerfectMatchings", spec := "fnExactPerfectMatchings", unfollowed := true, recurses := true, apart := false, narrowed := true }
def FnExactPerfectMatchingsUptoSaid : Prop := fnExactPerfectMatchingsUptoRow.holds Try.pinned (OpenSpec.upto fnExactPerfectMatchingsSpec)

/-- 'laws.FnExactSlideTokens', WHERE WHAT IT READS IS OF BULK AT MOST 1048576: true; the input reads as it did. -/
def fnExactSlideTokensUptoRow : OpenClaim := { program := "ytahakecifgjcnaa", sum := "48dc90892fc32260034f7135974bd0f02698a2b4ceaea78121c02335993e795b", func := "loop.example/g01128/laws.FnExactSlideTokens", spec := "fnExactSlideTokens", unfollowed := true, recurses := true, apart := false, narrowed := true }
def FnExactSlideTokensUptoSaid : Prop := fnExactSlideTokensUptoRow.holds Try.pinned (OpenSpec.upto fnExactSlideTokensSpec)

/-- 'laws.FnExactTokenDistance', WHERE WHAT IT READS IS OF BULK AT MOST 1048576: true; the input reads as it did. -/
def fnExactTokenDistanceUptoRow : OpenClaim := { program := "ytahakecifgjcnaa", sum := "48dc90892fc32260034f7135974bd0f02698a2b4ceaea78121c02335993e795b", func := "loop.example/g01128/laws.FnExactTokenDistance", spec := "fnExactTokenDistance", unfollowed := true, recurses := true, apart := false, narrowed := true }
def FnExactTokenDistanceUptoSaid : Prop := fnExactTokenDistanceUptoRow.holds Try.pinned (OpenSpec.upto fnExactTokenDistanceSpec)

/-- 'laws.FnExactBoardsReached', WHERE WHAT IT READS IS OF BULK AT MOST 1048576: true; the input reads as it did. -/
def fnExactBoardsReachedUptoRow : OpenClaim := { program := "ytahakecifgjcnaa", sum := "48dc90892fc32260034f7135974bd0f02698a2b4ceaea78121c02335993e795b", func := "loop.example/g01128/laws.FnExactBoardsReached", spec := "fnExactBoardsReached", unfollowed := true, recurses := true, apart := false, narrowed := true }
def FnExactBoardsReachedUptoSaid : Prop := fnExactBoardsReachedUptoRow.holds Try.pinned (OpenSpec.upto fnExactBoardsReachedSpec)

/-- 'laws.FnExactTokenHalf', WHERE WHAT IT READS IS OF BULK AT MOST 1048576: true; the input reads as it did. -/
def fnExactTokenHalfUptoRow : OpenClaim := { program := "ytahakecifgjcnaa", sum := "48dc90892fc32260034f7135974bd0f02698a2b4ceaea78121c02335993e795b", func := "loop.example/g01128/laws.FnExactTokenHalf", spec := "fnExactTokenHalf", unfollowed := true, recurses := true, apart := false, narrowed := true }
def FnExactTokenHalfUptoSaid : Prop := fnExactTokenHalfUptoRow.holds Try.pinned (OpenSpec.upto fnExactTokenHalfSpec)

end Rows
end Go.Proofs.Ytahakecifgjcnaa
