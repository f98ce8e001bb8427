/- The rules of values and of lists in memory (S2, and what a type's facts give). No condition. -/
import Derived.Test.YtnoihoeaconllaaAiD
namespace Go.Proofs.Ytnoihoeaconllaa.Ai
open Go Go.RowKit
set_option linter.unusedVariables false
set_option linter.unusedSimpArgs false

theorem S2 :
    (∀ (P : Program) t k a b, binA P .add t (.int k a) (.int k b) = some (.int k (k.wrap (a + b)))) ∧ (∀ (P : Program) t k a b, binA P .sub t (.int k a) (.int k b) = some (.int k (k.wrap (a - b)))) ∧ (∀ (P : Program) t k a b, binA P .mul t (.int k a) (.int k b) = some (.int k (k.wrap (a * b)))) ∧
    (∀ (P : Program) t k a b, b ≠ 0 → binA P .quo t (.int k a) (.int k b) = some (.int k (k.wrap (a.tdiv b)))) ∧ (∀ (P : Program) t k a b, b ≠ 0 → binA P .rem t (.int k a) (.int k b) = some (.int k (a.tmod b))) ∧
    (∀ (P : Program) t k a b, binA P .eql t (.int k a) (.int k b) = some (.bool (decide (a = b)))) ∧ (∀ (P : Program) t k a b, binA P .neq t (.int k a) (.int k b) = some (.bool (decide (a ≠ b)))) ∧
    (∀ (P : Program) t k a b, binA P .lss t (.int k a) (.int k b) = some (.bool (decide (a < b)))) ∧ (∀ (P : Program) t k a b, binA P .leq t (.int k a) (.int k b) = some (.bool (decide (a ≤ b)))) ∧
    (∀ (P : Program) t k a b, binA P .gtr t (.int k a) (.int k b) = some (.bool (decide (b < a)))) ∧ (∀ (P : Program) t k a b, binA P .geq t (.int k a) (.int k b) = some (.bool (decide (b ≤ a)))) ∧
    (∀ b, unA .not (.bool b) = some (.bool (!b))) ∧ (∀ k n, unA .neg (.int k n) = some (.int k (k.wrap (0 - n)))) ∧
    (∀ k n, isOne (.int k n) = true) ∧ (∀ b, isOne (.bool b) = true) ∧ (∀ p n c, isOne (.slice p n c) = true) ∧ (∀ p, isOne (.pointer p) = true) ∧ (∀ k n, isTup (.int k n) = false) ∧ (∀ b, isTup (.bool b) = false) ∧ (∀ p n c, isTup (.slice p n c) = false) ∧ (∀ p, isTup (.pointer p) = false) ∧ (∀ cs, isTup (.agg cs) = false) ∧
    (∀ (Q : Nat → Value → Prop) (x : Value), True) := by
  refine ⟨?_, ?_, ?_, ?_, ?_, ?_, ?_, ?_, ?_, ?_, ?_, ?_, ?_, ?_, ?_, ?_, ?_, ?_, ?_, ?_, ?_, ?_, ?_⟩
  all_goals intros
  all_goals first
    | rfl
    | trivial
    | (simp [binA, intA, *]; done)
    | (rename_i a b; by_cases h : a = b <;> simp [binA, intA, h]; done)

/-- .. of endings -/
theorem S3 :
    (∀ (P : Program) a R s H, endA P [.tmp a] R .ret s H = (isTup (s a) = false ∧ R (s a) H)) ∧ (∀ (P : Program) a R s H, endA P [.tmp a] R .normal s H = (isTup (s a) = false ∧ R (s a) H)) ∧
    (∀ (P : Program) a b R s H, endA P [.tmp a, .tmp b] R .ret s H = ((isTup (s a) = false ∧ isTup (s b) = false) ∧ R (.tuple (List.toArray [s a, s b])) H)) ∧
    (∀ (P : Program) a b c R s H, endA P [.tmp a, .tmp b, .tmp c] R .ret s H = ((isTup (s a) = false ∧ isTup (s b) = false ∧ isTup (s c) = false) ∧ R (.tuple (List.toArray [s a, s b, s c])) H)) ∧
    (∀ (P : Program) R s H, endA P [] R .ret s H = R (.tuple #[]) H) ∧ (∀ (P : Program) R s H, endA P [] R .normal s H = R (.tuple #[]) H) ∧
    (∀ (l : List Value) i, enterA l i = l.getD i undef) := by
  refine ⟨?_, ?_, ?_, ?_, ?_, ?_, ?_⟩
  all_goals intros
  all_goals first
    | rfl
    | skip
  all_goals simp only [endA, resA]
  · rename_i P a R s H
    cases h : isTup (s a) <;> simp [outA]
  · rename_i P a R s H
    cases h : isTup (s a) <;> simp [outA]
  · rename_i P a b R s H
    cases h : isTup (s a) <;> cases h2 : isTup (s b) <;> simp [outA]
  · rename_i P a b c R s H
    cases h : isTup (s a) <;> cases h2 : isTup (s b) <;> cases h3 : isTup (s c) <;> simp [outA]

/-- what must be as it was -/
def keptA (v : Value) (H H' : AH) : Prop := match idOf v with | some o => H'[o]? = H[o]? | none => True

/-- .. of watches, of the least and the greatest -/
theorem S4 :
    (∀ (P : Program) s H H' d t a, watch1 P ⟨some d, .load t a, none⟩ s H H' = (loadA P t (evalA s a) H' = some (s d))) ∧
    (∀ (P : Program) s H H' d t a g b, watch1 P ⟨some d, .load t a, some (g, b)⟩ s H H' = (s g = .bool b → loadA P t (evalA s a) H' = some (s d))) ∧
    (∀ (P : Program) s H H' d t x lo hi, watch1 P ⟨some d, .slice t x lo hi none, none⟩ s H H' = (sliceA P t (evalA s x) (lo.map (evalA s)) (hi.map (evalA s)) none H' = some (s d))) ∧
    (∀ (P : Program) s H H' d t x lo hi g b, watch1 P ⟨some d, .slice t x lo hi none, some (g, b)⟩ s H H' = (s g = .bool b → sliceA P t (evalA s x) (lo.map (evalA s)) (hi.map (evalA s)) none H' = some (s d))) ∧
    (∀ (P : Program) s H H' d e g, watch1 P ⟨some d, .alloc e, g⟩ s H H' = keptA (s d) H H') ∧
    (∀ (P : Program) s H H' d e x g, watch1 P ⟨some d, .box e x, g⟩ s H H' = keptA (s d) H H') ∧
    (∀ (P : Program) s H H' d t n ps g, watch1 P ⟨some d, .buildSlice t n ps, g⟩ s H H' = keptA (s d) H H') ∧
    (∀ (P : Program) s H H' d t n c g, watch1 P ⟨some d, .makeSlice t n c, g⟩ s H H' = keptA (s d) H H') ∧
    (∀ p n c H H', keptA (.slice (some p) n c) H H' = (H'[p.block]? = H[p.block]?)) ∧ (∀ n c H H', keptA (.slice none n c) H H' = True) ∧
    (∀ p H H', keptA (.pointer (some p)) H H' = (H'[p.block]? = H[p.block]?)) ∧ (∀ vs H H', keptA (.tuple vs) H H' = True) ∧
    (∀ f k a b, minmaxA f [.int k a, .int k b] = some (.int k (f a b))) := by
  refine ⟨?_, ?_, ?_, ?_, ?_, ?_, ?_, ?_, ?_, ?_, ?_, ?_, ?_⟩
  all_goals intros
  all_goals first
    | rfl
    | (simp only [watch1, isMk, grdOn, stepA]; simp; done)
    | skip

theorem wrap64 {n : Int} (h1 : -9223372036854775808 ≤ n) (h2 : n ≤ 9223372036854775807) : IntKind.i64.wrap n = n := by
  rw [IntKind.wrap_i64]; omega

/-- ints in a row -/
def ints (xs : List Int) : List Value := xs.map (.int .i64)
theorem ints_len (xs : List Int) : (ints xs).length = xs.length := by simp [ints]
theorem ints_nil : ints [] = [] := rfl
theorem ints_cons (x : Int) (xs : List Int) : ints (x :: xs) = .int .i64 x :: ints xs := rfl
theorem ints_app (xs ys : List Int) : ints (xs ++ ys) = ints xs ++ ints ys := by simp [ints]
theorem ints_at (xs : List Int) {i : Nat} (h : i < xs.length) : (ints xs)[i]? = some (.int .i64 (xs.getD i 0)) := by
  simp [ints, h, List.getElem?_eq_getElem]
theorem ints_inj {xs ys : List Int} (h : ints xs = ints ys) : xs = ys := by
  induction xs generalizing ys with
  | nil => cases ys <;> first | rfl | cases h
  | cons x xs ih =>
    cases ys with
    | nil => cases h
    | cons y ys => simp only [ints_cons, List.cons.injEq, Value.int.injEq, true_and] at h; rw [h.1, ih h.2]

/-- an object's cell -/
def cellA (H : AH) (o i : Nat) : Option Value := match H[o]? with | some (.cells vs _ _) => vs[i]? | _ => none

theorem ld_one {P : Program} {t : TypeId} (h : isAggA P t = some false) (p : Addr) (H : AH) : loadA P t (.pointer (some p)) H = cellA H p.block p.off := by
  simp only [loadA, cellA, h]
  cases H[p.block]? with
  | none => rfl
  | some x => cases x <;> rfl

theorem cell_of {H : AH} {o : Nat} {vs : List Value} {t : TypeId} {ro : Bool} (h : H[o]? = some (.cells vs t ro)) (i : Nat) : cellA H o i = vs[i]? := by simp only [cellA, h]
theorem cell_ints {H : AH} {o : Nat} {xs : List Int} {t : TypeId} {ro : Bool} (h : H[o]? = some (.cells (ints xs) t ro)) {i : Nat} (hi : i < xs.length) : cellA H o i = some (.int .i64 (xs.getD i 0)) := by rw [cell_of h, ints_at xs hi]

theorem ix_one {P : Program} {t e : TypeId} (hu : P.underlying t = some (.slice e)) (hc : P.cellsOf e = 1) (p : Addr) (n c : Nat) (k : IntKind) {i : Int} (h0 : 0 ≤ i) (h1 : i < (n : Int)) :
    indexAddrA P t (.slice (some p) n c) (.int k i) = some (.pointer (some ⟨p.block, p.off + i.toNat, none⟩)) := by
  simp [indexAddrA, hu, hc, h0, h1]

theorem ix_arr {P : Program} {t e : TypeId} {n : Nat} (hu : P.underlying t = some (.array n e)) (hc : P.cellsOf e = 1) (p : Addr) (k : IntKind) {i : Int} (h0 : 0 ≤ i) (h1 : i < (n : Int)) :
    indexAddrA P t (.pointer (some p)) (.int k i) = some (.pointer (some ⟨p.block, p.off + i.toNat, none⟩)) := by
  simp [indexAddrA, hu, hc, h0, h1]

theorem ln_sl {P : Program} {t e : TypeId} (hu : P.underlying t = some (.slice e)) (p : Option Addr) (n c : Nat) : lenA P t (.slice p n c) = some (.int .i64 n) := by
  simp [lenA, hu]

theorem eq_bool_eql {P : Program} {t : TypeId} (hu : P.underlying t = some .bool) (a b : Bool) : binA P .eql t (.bool a) (.bool b) = some (.bool (decide (a = b))) := by
  simp only [binA, eqA, hu]; cases a <;> cases b <;> rfl
theorem eq_bool_neq {P : Program} {t : TypeId} (hu : P.underlying t = some .bool) (a b : Bool) : binA P .neq t (.bool a) (.bool b) = some (.bool (decide (a ≠ b))) := by
  simp only [binA, eqA, hu]; cases a <;> cases b <;> rfl
theorem eq_nil_eql {P : Program} {t e : TypeId} (hu : P.underlying t = some (.slice e)) (a : Option Addr) (n c m d : Nat) : binA P .eql t (.slice a n c) (.slice none m d) = some (.bool a.isNone) := by
  simp only [binA, eqA, hu]; rfl
theorem eq_nil_neq {P : Program} {t e : TypeId} (hu : P.underlying t = some (.slice e)) (a : Option Addr) (n c m d : Nat) : binA P .neq t (.slice a n c) (.slice none m d) = some (.bool (!a.isNone)) := by
  simp only [binA, eqA, hu]; rfl
/-- a literal of 0 to 3 elements of one cell -/
theorem bs0 {P : Program} {t e : TypeId} {z : Value} (hu : P.underlying t = some (.slice e)) (hc : P.cellsOf e = 1) (hz : zeroA P e = some z) (hp : plainCs z = true ∧ z.cells.size = 1) (H : AH) :
    buildSliceA P t 0 [] H = some (.slice (some ⟨H.length, 0, none⟩) 0 0, H ++ [.cells [] e false]) := by
  have hp' : plainCs z = true ∧ z.cells.size = P.cellsOf e := by rw [hc]; exact hp
  simp only [buildSliceA, hu, hc, hz]
  rw [if_pos (by simp), if_pos hp]
  simp [Instr.fill, zerosA]

theorem bs1 {P : Program} {t e : TypeId} {z : Value} (hu : P.underlying t = some (.slice e)) (hc : P.cellsOf e = 1) (hz : zeroA P e = some z) (hp : plainCs z = true ∧ z.cells.size = 1) (H : AH) {a : Value} (ha : isOne a = true) :
    buildSliceA P t 1 [(0, a)] H = some (.slice (some ⟨H.length, 0, none⟩) 1 1, H ++ [.cells [a] e false]) := by
  simp only [buildSliceA, hu, hc, hz]
  have ht : isTup a = false := by cases a <;> first | rfl | cases ha
  have hcl : a.cells = #[a] := by cases a <;> first | rfl | cases ha
  rw [if_pos (by simp [ht]), if_pos hp]
  simp [Instr.fill, zerosA, hcl, Array.range]

theorem bs2 {P : Program} {t e : TypeId} {z : Value} (hu : P.underlying t = some (.slice e)) (hc : P.cellsOf e = 1) (hz : zeroA P e = some z) (hp : plainCs z = true ∧ z.cells.size = 1) (H : AH) {a b : Value} (ha : isOne a = true) (hb : isOne b = true) :
    buildSliceA P t 2 [(0, a), (1, b)] H = some (.slice (some ⟨H.length, 0, none⟩) 2 2, H ++ [.cells [a, b] e false]) := by
  simp only [buildSliceA, hu, hc, hz]
  have ht : isTup a = false := by cases a <;> first | rfl | cases ha
  have hcl : a.cells = #[a] := by cases a <;> first | rfl | cases ha
  have ht2 : isTup b = false := by cases b <;> first | rfl | cases hb
  have hcl2 : b.cells = #[b] := by cases b <;> first | rfl | cases hb
  rw [if_pos (by simp [ht, ht2]), if_pos hp]
  simp [Instr.fill, zerosA, hcl, hcl2, Array.range]

theorem bs3 {P : Program} {t e : TypeId} {z : Value} (hu : P.underlying t = some (.slice e)) (hc : P.cellsOf e = 1) (hz : zeroA P e = some z) (hp : plainCs z = true ∧ z.cells.size = 1) (H : AH) {a b c : Value} (ha : isOne a = true) (hb : isOne b = true) (hcc : isOne c = true) :
    buildSliceA P t 3 [(0, a), (1, b), (2, c)] H = some (.slice (some ⟨H.length, 0, none⟩) 3 3, H ++ [.cells [a, b, c] e false]) := by
  simp only [buildSliceA, hu, hc, hz]
  have ht : isTup a = false := by cases a <;> first | rfl | cases ha
  have hcl : a.cells = #[a] := by cases a <;> first | rfl | cases ha
  have ht2 : isTup b = false := by cases b <;> first | rfl | cases hb
  have hcl2 : b.cells = #[b] := by cases b <;> first | rfl | cases hb
  have ht3 : isTup c = false := by cases c <;> first | rfl | cases hcc
  have hcl3 : c.cells = #[c] := by cases c <;> first | rfl | cases hcc
  rw [if_pos (by simp [ht, ht2, ht3]), if_pos hp]
  simp [Instr.fill, zerosA, hcl, hcl2, hcl3, Array.range]

theorem app_one {P : Program} {t e : TypeId} (hu : P.underlying t = some (.slice e)) (hc : P.cellsOf e = 1) (hby : P.bytesOf e ≤ 64) (hz : zeroOk P e = true) {H : AH} {o : Nat} {vs : List Value} {v : Value} {n c : Nat} (ho : H[o]? = some (.cells vs e false)) (hn : vs.length = n) (hb : n ≤ 1099511627776) :
    appendA P t t (.slice (some ⟨o, 0, none⟩) n c) (.slice (some ⟨H.length, 0, none⟩) 1 1) (H ++ [.cells [v] e false]) = some (.slice (some ⟨H.length + 1, 0, none⟩) (n + 1) (n + 1), H.set o .dead ++ [.cells [v] e false, .cells (vs ++ [v]) e false]) := by
  have hlt : o < H.length := (List.getElem?_eq_some_iff.1 ho).1
  have hb2 : (n + 1) * P.bytesOf e ≤ 140737488355328 := by
    refine Nat.le_trans (Nat.mul_le_mul_left _ hby) ?_
    omega
  have ho2 : (H ++ [AObj.cells [v] e false])[o]? = some (.cells vs e false) := by rw [List.getElem?_append_left hlt]; exact ho
  simp only [appendA, hu, hc, sliceCells]
  simp [hlt, ho2, hz, hn, hb2]
  refine ⟨by omega, ?_⟩
  exact List.take_of_length_le (by omega)
theorem pre_app {H0 H : AH} (h : H0 <+: H) (l : AH) : H0 <+: H ++ l := h.trans (List.prefix_append _ _)
theorem pre_set {H0 H : AH} (h : H0 <+: H) {o : Nat} (ho : H0.length ≤ o) (x : AObj) : H0 <+: H.set o x := by
  obtain ⟨l, rfl⟩ := h
  rw [List.set_append_right _ _ ho]
  exact List.prefix_append _ _
theorem pre_at {H0 H : AH} (h : H0 <+: H) {o : Nat} {x : AObj} (ho : H0[o]? = some x) : H[o]? = some x := by
  obtain ⟨l, rfl⟩ := h
  rw [List.getElem?_append_left (List.getElem?_eq_some_iff.1 ho).1]; exact ho
theorem at_new1 (H : AH) (o : Nat) (d a b : AObj) : (H.set o d ++ [a, b])[H.length + 1]? = some b := by
  rw [List.getElem?_append_right (by simp)]; simp
theorem at_new (H : AH) (a : AObj) : (H ++ [a])[H.length]? = some a := by simp
theorem at_old {H : AH} {o o' : Nat} {x d : AObj} (h : H[o']? = some x) (hne : o ≠ o') (l : AH) : (H.set o d ++ l)[o']? = some x := by
  have hlt := (List.getElem?_eq_some_iff.1 h).1
  rw [List.getElem?_append_left (by simpa using hlt), List.getElem?_set_ne hne]; exact h
theorem at_app {H : AH} {o : Nat} {x : AObj} (h : H[o]? = some x) (l : AH) : (H ++ l)[o]? = some x := by
  rw [List.getElem?_append_left (List.getElem?_eq_some_iff.1 h).1]; exact h
theorem at_lt {H : AH} {o : Nat} {x : AObj} (h : H[o]? = some x) : o < H.length := (List.getElem?_eq_some_iff.1 h).1
theorem putAt_ints (xs : List Int) (i : Nat) (x : Int) (h : i < xs.length) : putAt (ints xs) i [.int .i64 x] = ints (xs.set i x) := by
  unfold putAt ints
  simp only [List.length_cons, List.length_nil]
  rw [List.set_eq_take_append_cons_drop, if_pos h]
  simp
/-- a store into a row of ints -/
theorem st_ints {P : Program} {t t' : TypeId} (hc : P.cellsOf t = 1) {H : AH} {o i : Nat} {xs : List Int} {x : Int} (ho : H[o]? = some (.cells (ints xs) t' false)) (hi : i < xs.length) :
    storeA P t (.pointer (some ⟨o, i, none⟩)) (.int .i64 x) H = some (H.set o (.cells (ints (xs.set i x)) t' false)) := by
  simp only [storeA, ho]
  have hcl : (Value.int IntKind.i64 x).cells.toList = [.int .i64 x] := rfl
  rw [hcl, if_pos ⟨rfl, by rw [hc]; rfl, by omega, by rw [ints_len]; simp; omega⟩, putAt_ints xs i x hi]
/-- a whole value into a new variable -/
theorem st_new {P : Program} {t e : TypeId} {H : AH} {vs : List Value} {y : Value} (h1 : isTup y = false) (h2 : y.cells.toList.length = P.cellsOf t) (h3 : 0 < P.cellsOf t) (h4 : vs.length = P.cellsOf t) :
    storeA P t (.pointer (some ⟨H.length, 0, none⟩)) y (H ++ [.cells vs e false]) = some (H ++ [.cells y.cells.toList e false]) := by
  simp only [storeA, at_new]
  rw [if_pos ⟨h1, h2, h3, by omega⟩]
  have : putAt vs 0 y.cells.toList = y.cells.toList := by
    unfold putAt
    rw [List.take_zero, List.nil_append, List.drop_of_length_le (by omega), List.append_nil]
  rw [this]
  simp
theorem set_new (H : AH) (a b : AObj) : (H ++ [a]).set H.length b = H ++ [b] := by simp
theorem at_set {H : AH} {o : Nat} {x d : AObj} (h : H[o]? = some x) : (H.set o d)[o]? = some d := by
  rw [List.getElem?_set_self (at_lt h)]
end Go.Proofs.Ytnoihoeaconllaa.Ai
