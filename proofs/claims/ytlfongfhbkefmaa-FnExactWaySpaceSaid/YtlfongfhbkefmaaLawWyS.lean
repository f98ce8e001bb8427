/- The row of FnExactWaySpace. -/
import Derived.Test.YtlfongfhbkefmaaRows
import Derived.Test.YtlfongfhbkefmaaMgLawWyS6
namespace Go.Proofs.Ytlfongfhbkefmaa.fnExactWaySpace
open Go Go.ChangeShapes Go.WideShapes Go.ChangeAt Go.RowKit Go.Proofs.Ytlfongfhbkefmaa.Ai
open Go.ChangeMaps (open_string shut_string)
set_option linter.unusedVariables false
theorem own : ownKnob Try.prog.godebug = none := by kernel_rfl
theorem laidOut : laidOutB Try.prog = true := by kernel_rfl
set_option maxRecDepth 100000 in
set_option maxHeartbeats 4000000 in
theorem lifted (os : Os) (started : os.Started) (H : Type) (enc : TypeId × Value → H) :
    ReturnsInHanded {} Try.checked os 7 .any (Rows.fnExactWaySpaceSpec.pre6 enc Try.prog Try.f7 Rows.fnExactWaySpaceRow.domain false) (Rows.fnExactWaySpaceSpec.post enc Try.prog Try.f7 false true false false) := by
  refine returnsInHanded_of_change_sized (C := Try.checked) own started (by kernel_rfl) Try.func7
    (ChangeSpec.witness6 (enc := enc) (C := Try.checked) false ⟨#[], #[.agg #[.int .i64 0, .slice none 0 0], .int .i64 0, .int .i64 0], []⟩ 8 (by kernel_rfl) (by kernel_rfl) (by kernel_rfl) (by kernel_rfl)) ?_
  intro W base args ds gs before hval0 hW hcnd hsz0 _
  have hsz : (DataW.weightsEach Try.prog (Try.f7.params.toList ++ Rows.fnExactWaySpaceSpec.plain.varTypes Try.prog) (ds ++ gs)).all (· ≤ reachBytes) = true := hsz0
  have hval : ∀ (j : Nat) t v, Try.f7.params[j]? = some t → args[j]? = some v → Value.okWide Try.prog W .any base t v := hval0
  have hW' := hW
  obtain ⟨p, q, hA0, hV, rfl, hfz, hnd⟩ := hW
  have hA : DataW.TrodAll enc Try.prog W 0 (fun _ => true) true Try.f7.params.toList args.toList ds p := hA0
  rw [Try.params7] at hA hval hsz
  obtain ⟨v0, vs0, d0, ds0, p0, q0, hargs, rfl, rfl, h0, r0⟩ := trodAll_cons hA
  obtain ⟨v1, vs1, d1, ds1, p1, q1, rfl, rfl, rfl, h1, r1⟩ := trodAll_cons r0
  obtain ⟨v2, vs2, d2, ds2, p2, q2, rfl, rfl, rfl, h2, r2⟩ := trodAll_cons r1
  obtain ⟨rfl, rfl, rfl⟩ := trodAll_nil r2
  obtain rfl : args = #[v0, v1, v2] := by cases args; simp_all
  obtain ⟨rfl, rfl⟩ := trodVars_none hV
  have ok0 := hval 0 24 v0 rfl rfl
  simp only [Value.okWide, Try.underlying24] at ok0
  obtain ⟨⟨cs0⟩, rfl, sz0, _⟩ := ok0
  have sz0' : cs0.length = 2 := by simpa [show Try.prog.cellsOf 24 = 2 from by kernel_rfl] using sz0
  obtain ⟨c0, cc0, rfl⟩ := two_of cs0 sz0'
  have k0 := h0
  have lt0 : ∀ x ∈ p0, x.block < W.heap.size := by obtain ⟨m, hm⟩ := k0; exact DataW.trod_lt m _ _ _ hm
  obtain ⟨⟨gn0, gz0⟩, fuel0, y0, hf0⟩ : (∃ z : Int, c0 = .int .i64 z ∧ (Lit.int .i64 z).wf = true) ∧ ∃ fuel y, DataW.trod enc Try.prog W 0 (fun _ => true) true fuel 22 [cc0] = some y := by
    obtain ⟨fuel, hf⟩ := h0
    exact open_graph (n0 := "") (n1 := "") Try.underlying24 rfl rfl rfl rfl rfl Try.underlying3 (by kernel_rfl) (by kernel_rfl) hf
  obtain ⟨rfl, wn0⟩ := gz0
  obtain ⟨a0, len0, cap0, rfl⟩ : ∃ a l c, cc0 = .slice a l c := by
    rcases DataW.trod_slice Try.underlying22 hf0 with ⟨e, _⟩ | ⟨x, l, c, _, _, _, _, e, _⟩
    · simp at e; exact ⟨_, _, _, e⟩
    · simp at e; exact ⟨_, _, _, e⟩
  have bn0 : I64 gn0 := by
    simp [Lit.wf, IntKind.min, IntKind.max, IntKind.signed, IntKind.bits] at wn0
    exact ⟨by omega, by omega⟩
  obtain ⟨z0, w0⟩ : ∃ zs, IsRowP W a0 len0 cap0 zs := open_pairs Try.underlying22 Try.underlying81 Try.underlying3 (by kernel_rfl) (by kernel_rfl) hf0
  obtain ⟨a1, rfl, rfl, rfl, w1⟩ := open_int Try.underlying3 (hval 1 3 v1 rfl rfl) h1
  obtain ⟨a2, rfl, rfl, rfl, w2⟩ := open_int Try.underlying3 (hval 2 3 v2 rfl rfl) h2
  clear hA0 hval0 hsz0 hsz
  have A0 := Args.nil0 Try.prog W
  obtain ⟨μ0, obj0, va0, xs0, A1, le0, crel0, row0, wf0, pa0, rfl⟩ := A0.addPairs (e := 81) (by kernel_rfl) w0
  have rel0 : TRel μ0 (.agg (List.toArray [.int .i64 gn0, .slice pa0 len0 len0])) (.agg (List.toArray [.int .i64 gn0, .slice a0 len0 cap0])) := ⟨_, rfl, rfl, crel0, trivial⟩
  have hcall := (wySLaw_c a1 a2 gn0 (.slice pa0 len0 len0) xs0 _ row0 wf0 bn0).calls A1.rel (cargs := #[.agg (List.toArray [.int .i64 gn0, .slice a0 len0 cap0]), .int .i64 a1, .int .i64 a2]) ⟨rel0, rfl, rfl, trivial⟩ (Nat.le_refl W.heap.size) A1.wr
  refine hcall.mono fun e W' ⟨μ', r, H', cr, he, hr, _, bel, hres⟩ => ?_
  subst he
  subst hres
  obtain rfl : cr = .bool true := hr
  exact ⟨_, rfl, _, _, _, [], _, [], hW', trodAll_mk1 (shut_bool Try.underlying4 _), (trodAll_cons_mk (Below.trod laidOut (by kernel_rfl) (of_decide_eq_true (by kernel_rfl)) k0 bel lt0) (trodAll_cons_mk (shut_int Try.underlying3 w1) (trodAll_cons_mk (shut_int Try.underlying3 w2) trodAll_mk0))), rfl, bel.frame _, fun h => by cases h⟩
theorem over : Rows.fnExactWaySpaceRow.holds Try.pinned (OpenSpec.ofChange Rows.fnExactWaySpaceSpec) :=
  OpenClaim.holds_of_wide 7 Try.f7 rfl rfl rfl rfl rfl rfl rfl ⟨rfl, rfl, rfl, rfl, rfl⟩ rfl rfl rfl rfl rfl (by kernel_rfl) Try.func7 (by kernel_rfl)
    (of_decide_eq_true (by kernel_rfl)) (by unfold Func.isWrapper; first | (rw [if_pos (by decide +kernel)]; kernel_rfl) | (rw [if_neg (by decide +kernel)]; exact ⟨rfl, rfl⟩))
    (fun os started H enc _ => lifted os started H enc)
theorem proved : Rows.FnExactWaySpaceSaid := over
#print axioms proved
end Go.Proofs.Ytlfongfhbkefmaa.fnExactWaySpace
namespace Go.Proofs.Ytlfongfhbkefmaa
/-- The row, under a short name, for the claim. -/
theorem fnExactWaySpace_holds : Rows.FnExactWaySpaceSaid := fnExactWaySpace.proved
end Go.Proofs.Ytlfongfhbkefmaa
