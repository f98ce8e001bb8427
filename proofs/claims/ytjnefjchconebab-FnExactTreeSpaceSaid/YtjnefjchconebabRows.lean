/-
  No cell of these rows narrows 'for every input' (looked for: loops, veiled, ifaces, maps, wideKeys, modest, calm, conditions, laid).
  DERIVED. THE GIVEN ROWS OF THIS SEAT. 2 by the template 'for every input the law returns true; each argument reads behind the call as it read before'; 0 by the template 'total and deterministic' (their statements: YtjnefjchconebabTotals.lean).
  GIVEN WITH THE SEED: the statements are not yours to turn. If you find one false, say at which input.
  Laid BY PROGRAM, IN A SANDBOX (cutbox-rows.mjs): the forced cells as the released guide's own fill.sh prints them over the translation 031d216c2ea7f356… (all of the seat's roots in one cut). By AI agents, Wed Nov 11 2026. No macro, syntax, notation, axiom, sorry.
-/
import Derived.Test.YtjnefjchconebabChecked
import GoSem.Claim
import GoSem.ClaimJoined
import GoSem.ClaimMapViews
import Derived.JoinedTies
import Derived.KernelRfl
namespace Go.Proofs.Ytjnefjchconebab
/- THE CELL 'sum', in the pinned program and in every row, IS THE sha256 OF THE DUMP (.gsa) THAT YtjnefjchconebabProg.lean LOADS. Nothing in Lean hashes anything: it is a label: what it is worth is what the hold of that sum in a sandbox is worth. -/
noncomputable def Try.pinned : Pinned := { name := "ytjnefjchconebab", sum := "031d216c2ea7f35666ec33e5bc6773a168ba3ebb17c00407c1ba934e62384345", checked := Try.checked }
namespace Rows
def none {H : Type} : Left H := { results := [], args := [] }

/-- 'laws.FnExactTreeSpace': WHATEVER THE INPUT: true; the input reads as it did. -/
def fnExactTreeSpaceSpec : ChangeSpec := { name := "fnExactTreeSpace", fn := fun _ => fun
  | [d] => { results := [.lit (.bool true)], args := [d] }
  | _ => none }
def fnExactTreeSpaceRow : OpenClaim := { program := "ytjnefjchconebab", sum := "031d216c2ea7f35666ec33e5bc6773a168ba3ebb17c00407c1ba934e62384345", func := "loop.example/g01128/laws.FnExactTreeSpace", spec := "fnExactTreeSpace", unfollowed := true, recurses := true, apart := false }
def FnExactTreeSpaceSaid : Prop := fnExactTreeSpaceRow.holds Try.pinned (OpenSpec.ofChange fnExactTreeSpaceSpec)

/-- ITS FALSE NEIGHBOUR: 'it returns false'. Refute it at one input. -/
def fnExactTreeSpaceWrong : ChangeSpec := { name := "fnExactTreeSpace", fn := fun _ => fun
  | [d] => { results := [.lit (.bool false)], args := [d] }
  | _ => none }
def FnExactTreeSpaceWrongFalsely : Prop := fnExactTreeSpaceRow.holds Try.pinned (OpenSpec.ofChange fnExactTreeSpaceWrong)

/-- 'laws.FnExactLightSpace': WHATEVER THE INPUT: true; the input reads as it did. -/
def fnExactLightSpaceSpec : ChangeSpec := { name := "fnExactLightSpace", fn := fun _ => fun
  | [d1, d2] => { results := [.lit (.bool true)], args := [d1, d2] }
  | _ => none }
def fnExactLightSpaceRow : OpenClaim := { program := "ytjnefjchconebab", sum := "031d216c2ea7f35666ec33e5bc6773a168ba3ebb17c00407c1ba934e62384345", func := "loop.example/g01128/laws.FnExactLightSpace", spec := "fnExactLightSpace", unfollowed := true, recurses := true, apart := false }
def FnExactLightSpaceSaid : Prop := fnExactLightSpaceRow.holds Try.pinned (OpenSpec.ofChange fnExactLightSpaceSpec)

/-- ITS FALSE NEIGHBOUR: 'it returns false'. Refute it at one input. -/
def fnExactLightSpaceWrong : ChangeSpec := { name := "fnExactLightSpace", fn := fun _ => fun
  | [d1, d2] => { results := [.lit (.bool false)], args := [d1, d2] }
  | _ => none }
def FnExactLightSpaceWrongFalsely : Prop := fnExactLightSpaceRow.holds Try.pinned (OpenSpec.ofChange fnExactLightSpaceWrong)

/- THE SECOND FORM. 'bulk': how many values and letters a reading holds, each counted each time it is reached (what is shared counts as often as it is met; a slice's spare places count too). A statement '..UptoSaid' is the law's where the arguments, and the package variables that the reading takes, are together of bulk at most 1048576: NARROWER than '..Said'. Prove '..Said' where nothing that the law and all that it calls make is longer than what came in: it says more and counts as full. Else prove '..UptoSaid'. A law counts once. -/
mutual
def uptoBulk {H : Type} : DataW H → Nat
  | .lit (.string bytes) => bytes.length + 1
  | .lit _ => 1
  | .nil => 1
  | .ptr d => uptoBulk d + 1
  | .slice elems spare => uptoBulkAll elems + uptoBulkAll spare + 1
  | .agg parts => uptoBulkAll parts + 1
  | .iface _ d => uptoBulk d + 1
  | .map entries => uptoBulkEntries entries + 1
  | .held _ => 1
def uptoBulkAll {H : Type} : List (DataW H) → Nat
  | [] => 0
  | d :: r => uptoBulk d + uptoBulkAll r
def uptoBulkEntries {H : Type} : List (Lit × DataW H) → Nat
  | [] => 0
  | x :: r => uptoBulkEntry x + uptoBulkEntries r
def uptoBulkEntry {H : Type} : Lit × DataW H → Nat
  | (.string bytes, d) => bytes.length + uptoBulk d + 1
  | (_, d) => uptoBulk d + 1
 end
def uptoSmall : (H : Type) → List (DataW H) → Bool := fun _ ds => decide (uptoBulkAll ds ≤ 1048576)
def OpenSpec.upto (s : _root_.Go.ChangeSpec) : _root_.Go.OpenSpec := { _root_.Go.OpenSpec.ofChange s with cond := some uptoSmall }

/-- 'laws.FnExactTreeSpace', WHERE WHAT IT READS IS OF BULK AT MOST 1048576: true; the input reads as it did. -/
def fnExactTreeSpaceUptoRow : OpenClaim := { program := "ytjnefjchconebab", sum := "031d216c2ea7f35666ec33e5bc6773a168ba3ebb17c00407c1ba934e62384345", func := "loop.example/g01128/laws.FnExactTreeSpace", spec := "fnExactTreeSpace", unfollowed := true, recurses := true, apart := false, narrowed := true }
def FnExactTreeSpaceUptoSaid : Prop := fnExactTreeSpaceUptoRow.holds Try.pinned (OpenSpec.upto fnExactTreeSpaceSpec)

/-- 'laws.FnExactLightSpace', WHERE WHAT IT READS IS OF BULK AT MOST 1048576: true; the input reads as it did. -/
def fnExactLightSpaceUptoRow : OpenClaim := { program := "ytjnefjchconebab", sum := "031d216c2ea7f35666ec33e5bc6773a168ba3ebb17c00407c1ba934e62384345", func := "loop.example/g01128/laws.FnExactLightSpace", spec := "fnExactLightSpace", unfollowed := true, recurses := true, apart := false, narrowed := true }
def FnExactLightSpaceUptoSaid : Prop := fnExactLightSpaceUptoRow.holds Try.pinned (OpenSpec.upto fnExactLightSpaceSpec)

end Rows
end Go.Proofs.Ytjnefjchconebab
