/- Rows of ints that are read (Row), rows of a function's own (Own), appending to them. No condition. -/
import Derived.Test.YtnoihoeaconllaaAiE
namespace Go.Proofs.Ytnoihoeaconllaa.Ai
open Go Go.RowKit
set_option linter.unusedVariables false
set_option linter.unusedSimpArgs false

def rowO : Value → Nat
  | .slice (some p) _ _ => p.block
  | _ => 0
def rowK : Value → Nat
  | .slice (some p) _ _ => p.off
  | _ => 0

/-- a slice that shows xs -/
def Row (e : TypeId) (H : AH) (v : Value) (xs : List Int) : Prop :=
  (v = .slice none 0 0 ∧ xs = []) ∨ ∃ o k vs ro, v = .slice (some ⟨o, k, none⟩) xs.length xs.length ∧ H[o]? = some (.cells vs e ro) ∧ k + xs.length ≤ vs.length ∧ (vs.drop k).take xs.length = ints xs

/-- a slice of one's own that shows xs -/
def Own (e : TypeId) (H0 H : AH) (v : Value) (xs : List Int) : Prop :=
  (v = .slice none 0 0 ∧ xs = []) ∨ ∃ o, v = .slice (some ⟨o, 0, none⟩) xs.length xs.length ∧ H0.length ≤ o ∧ H[o]? = some (.cells (ints xs) e false)

theorem Own.row {e : TypeId} {H0 H : AH} {v : Value} {xs : List Int} (h : Own e H0 H v xs) : Row e H v xs := by
  rcases h with h | ⟨o, h1, h2, h3⟩
  · exact .inl h
  · refine .inr ⟨o, 0, _, _, h1, h3, by simp [ints_len], ?_⟩
    rw [List.drop_zero, List.take_of_length_le (by simp [ints_len])]

theorem Row.mono {e : TypeId} {H H' : AH} {v : Value} {xs : List Int} (h : Row e H v xs) (hh : ∀ x, H[rowO v]? = some x → H'[rowO v]? = some x) : Row e H' v xs := by
  rcases h with h | ⟨o, k, vs, ro, h1, h2, h3⟩
  · exact .inl h
  · subst h1; exact .inr ⟨o, k, vs, ro, rfl, hh _ h2, h3⟩
theorem Row.pre {e : TypeId} {H H' : AH} {v : Value} {xs : List Int} (h : Row e H v xs) (hp : H <+: H') : Row e H' v xs := h.mono fun x hx => pre_at hp hx

theorem Row.shape {e : TypeId} {H : AH} {v : Value} {xs : List Int} (h : Row e H v xs) : ∃ p, v = .slice p xs.length xs.length := by
  rcases h with ⟨h1, h2⟩ | ⟨o, k, vs, ro, h1, _⟩
  · subst h2; exact ⟨_, h1⟩
  · exact ⟨_, h1⟩
theorem Row.tup {e : TypeId} {H : AH} {v : Value} {xs : List Int} (h : Row e H v xs) : isTup v = false := by
  obtain ⟨p, rfl⟩ := h.shape; rfl
theorem Row.len {P : Program} {t e : TypeId} (hu : P.underlying t = some (.slice e)) {H : AH} {v : Value} {xs : List Int} (h : Row e H v xs) : lenA P t v = some (.int .i64 xs.length) := by
  obtain ⟨p, rfl⟩ := h.shape; exact ln_sl hu _ _ _
theorem Row.ix {P : Program} {t e : TypeId} (hu : P.underlying t = some (.slice e)) (hc : P.cellsOf e = 1) {H : AH} {v : Value} {xs : List Int} (h : Row e H v xs) (k : IntKind) {i : Int} (h0 : 0 ≤ i) (h1 : i < (xs.length : Int)) :
    indexAddrA P t v (.int k i) = some (.pointer (some ⟨rowO v, rowK v + i.toNat, none⟩)) := by
  rcases h with ⟨_, h2⟩ | ⟨o, k2, vs, ro, e1, _⟩
  · subst h2; simp at h1; omega
  · subst e1; exact ix_one hu hc _ _ _ _ h0 h1
theorem Row.cell {e : TypeId} {H : AH} {v : Value} {xs : List Int} (h : Row e H v xs) {j : Nat} (hj : j < xs.length) : cellA H (rowO v) (rowK v + j) = some (.int .i64 (xs.getD j 0)) := by
  rcases h with ⟨_, h2⟩ | ⟨o, k, vs, ro, e1, h2, h3, h4⟩
  · subst h2; simp at hj
  · subst e1
    rw [show cellA H (rowO _) _ = cellA H o (k + j) from rfl, cell_of h2]
    have := congrArg (·[j]?) h4
    simp only [List.getElem?_take, List.getElem?_drop, if_pos hj] at this
    rw [this, ints_at xs hj]
theorem Row.cells {P : Program} {e : TypeId} (hc : P.cellsOf e = 1) {H : AH} {v : Value} {xs : List Int} (h : Row e H v xs) : sliceCells P e v H = some (xs.length, ints xs) := by
  rcases h with ⟨h1, h2⟩ | ⟨o, k, vs, ro, e1, h2, h3, h4⟩
  · subst h1; subst h2; rfl
  · subst e1
    simp only [sliceCells, h2, hc, Nat.mul_one]
    rw [if_pos ⟨h3, trivial⟩, h4]

/-- a part of a row -/
def subV (v : Value) (l h : Nat) : Value :=
  match v with
  | .slice (some p) _ _ => .slice (some ⟨p.block, p.off + l, none⟩) (h - l) (h - l)
  | _ => .slice none 0 0
theorem Row.slice {P : Program} {t e : TypeId} (hu : P.underlying t = some (.slice e)) (hc : P.cellsOf e = 1) {H : AH} {v : Value} {xs : List Int} (h : Row e H v xs) {lo hi : Option Value} {l r : Nat} (h1 : boundA lo 0 = some l) (h2 : boundA hi xs.length = some r) (hl : l ≤ r) (hr : r ≤ xs.length) :
    sliceA P t v lo hi none H = some (subV v l r) ∧ Row e H (subV v l r) ((xs.drop l).take (r - l)) ∧ (rowO (subV v l r) = rowO v) := by
  rcases h with ⟨e1, e2⟩ | ⟨o, k, vs, ro, e1, g2, g3, g4⟩
  · subst e1; subst e2
    have hr0 : r = 0 := by simpa using hr
    have hl0 : l = 0 := by omega
    subst hr0; subst hl0
    refine ⟨?_, .inl ⟨rfl, by simp⟩, rfl⟩
    simp only [List.length_nil] at h2
    simp only [sliceA, hu, h1, h2, hc, subV]; rfl
  · subst e1
    refine ⟨?_, .inr ⟨o, k + l, vs, ro, ?_, g2, ?_, ?_⟩, rfl⟩
    · simp only [sliceA, hu, h1, h2, g2, hc, Nat.mul_one, subV]
      rw [if_pos ⟨hl, hr, trivial, Nat.one_pos⟩]
    · simp only [subV, List.length_take, List.length_drop]
      rw [Nat.min_eq_left (by omega)]
    · simp only [List.length_take, List.length_drop]; omega
    · have e3 : ((xs.drop l).take (r - l)).length = r - l := by simp; omega
      rw [e3, ← List.drop_drop]
      have e4 : ints ((xs.drop l).take (r - l)) = ((ints xs).drop l).take (r - l) := by simp [ints, List.map_drop, List.map_take]
      rw [e4, ← g4, List.drop_take, List.take_take, Nat.min_eq_left (by omega)]

theorem lo_none : boundA none 0 = some 0 := rfl
theorem hi_none (n : Nat) : boundA none n = some n := rfl
theorem bound_some {k : IntKind} {i : Int} (h : 0 ≤ i) (d : Nat) : boundA (some (.int k i)) d = some i.toNat := by simp [boundA, h]

/-- appending a row to one's own -/
theorem Own.app {P : Program} {t e : TypeId} (hu : P.underlying t = some (.slice e)) (hc : P.cellsOf e = 1) (hby : P.bytesOf e ≤ 64) (hz : zeroOk P e = true) {H0 H : AH} {v x : Value} {ys xs : List Int} (h : Own e H0 H v ys) (hx : Row e H x xs) (hp : H0 <+: H) (hb : ys.length + xs.length ≤ 1099511627776) :
    ∃ v' H', appendA P t t v x H = some (v', H') ∧ Own e H0 H' v' (ys ++ xs) ∧ H0 <+: H' ∧ (∀ o y, (v = .slice none 0 0 ∨ o ≠ rowO v) → H[o]? = some y → H'[o]? = some y) ∧ (H.length ≤ rowO v' ∨ (v' = v ∧ H' = H)) := by
  have hcells := hx.cells (P := P) hc
  have hb2 : (ys.length + xs.length) * P.bytesOf e ≤ 140737488355328 := by
    refine Nat.le_trans (Nat.mul_le_mul_left _ hby) ?_
    omega
  by_cases hm : xs.length = 0
  · have hx0 : xs = [] := List.eq_nil_of_length_eq_zero hm
    subst hx0
    refine ⟨v, H, ?_, by simpa using h, hp, fun o y _ hy => hy, .inr ⟨rfl, rfl⟩⟩
    have hsl : isSl v = true := by rcases h with ⟨h1, _⟩ | ⟨o, h1, _⟩ <;> subst h1 <;> rfl
    simp only [appendA, hu, hc, hcells, hsl]
    simp
  · rcases h with ⟨h1, h2⟩ | ⟨o, h1, h2, h3⟩
    · subst h1; subst h2
      refine ⟨.slice (some ⟨H.length, 0, none⟩) xs.length xs.length, H ++ [.cells (ints xs) e false], ?_, .inr ⟨H.length, rfl, hp.length_le, at_new ..⟩, pre_app hp _, fun o y _ hy => at_app hy _, .inl (Nat.le_refl _)⟩
      simp only [appendA, hu, hc, hcells, hz]
      simp only [List.length_nil, Nat.zero_add] at hb hb2
      simp [hm, hb2]; omega
    · subst h1
      refine ⟨.slice (some ⟨H.length, 0, none⟩) (ys.length + xs.length) (ys.length + xs.length), H.set o .dead ++ [.cells (ints (ys ++ xs)) e false], ?_, .inr ⟨H.length, by simp, hp.length_le, ?_⟩, pre_app (pre_set hp h2 _) _, ?_, .inl (Nat.le_refl _)⟩
      · simp only [appendA, hu, hc, hcells, hz, h3]
        rw [if_pos (by simp), if_neg hm, if_pos ⟨trivial, by simp [ints_len], hb2, by omega, trivial⟩]
        simp only [Nat.mul_one, List.drop_zero, ints_app]
        rw [List.take_of_length_le (by simp [ints_len])]
      · simp
      · intro o' y hne hy
        refine at_old hy ?_ _
        rcases hne with hne | hne
        · cases hne
        · exact fun e => hne e.symm

theorem Own.keep {e : TypeId} {H0 H H' : AH} {v : Value} {xs : List Int} (h : Own e H0 H v xs) (hh : ∀ y, H[rowO v]? = some y → H'[rowO v]? = some y) : Own e H0 H' v xs := by
  rcases h with h | ⟨o, h1, h2, h3⟩
  · exact .inl h
  · subst h1; exact .inr ⟨o, rfl, h2, hh _ h3⟩
theorem Own.pre {e : TypeId} {H0 H H' : AH} {v : Value} {xs : List Int} (h : Own e H0 H v xs) (hp : H <+: H') : Own e H0 H' v xs := h.keep fun _ hy => pre_at hp hy
theorem Own.base {e : TypeId} {H0 H1 H : AH} {v : Value} {xs : List Int} (h : Own e H1 H v xs) (hp : H0 <+: H1) : Own e H0 H v xs := by
  rcases h with h | ⟨o, h1, h2, h3⟩
  · exact .inl h
  · exact .inr ⟨o, h1, Nat.le_trans hp.length_le h2, h3⟩
/-- an old row is not one's own -/
theorem Row.apart {e : TypeId} {H0 H : AH} {x v : Value} {xs ys : List Int} (hx : Row e H0 x xs) (h : Own e H0 H v ys) : v = .slice none 0 0 ∨ x = .slice none 0 0 ∨ rowO x ≠ rowO v := by
  rcases h with h | ⟨o, h1, h2, h3⟩
  · exact .inl h.1
  · rcases hx with hx | ⟨o', k, vs, ro, g1, g2, _⟩
    · exact .inr (.inl hx.1)
    · subst h1; subst g1
      refine .inr (.inr ?_)
      have := at_lt g2
      show o' ≠ o
      omega
theorem Row.low {e : TypeId} {H0 : AH} {x : Value} {xs : List Int} (hx : Row e H0 x xs) : x = .slice none 0 0 ∨ rowO x < H0.length := by
  rcases hx with hx | ⟨o', k, vs, ro, g1, g2, _⟩
  · exact .inl hx.1
  · subst g1; exact .inr (at_lt g2)
/-- a new row of zeros -/
theorem mk_ints {P : Program} {t e : TypeId} (hu : P.underlying t = some (.slice e)) (hc : P.cellsOf e = 1) (hby : P.bytesOf e ≤ 64) (hz : zeroA P e = some (.int .i64 0)) {n : Int} (h0 : 0 ≤ n) (h1 : n ≤ 1099511627776) (H : AH) :
    makeSliceA P t (.int .i64 n) (.int .i64 n) H = some (.slice (some ⟨H.length, 0, none⟩) n.toNat n.toNat, H ++ [.cells (ints (List.replicate n.toNat 0)) e false]) := by
  have hb2 : n.toNat * P.bytesOf e ≤ 281474976710656 := by
    refine Nat.le_trans (Nat.mul_le_mul_left _ hby) ?_
    omega
  have hzc : (Value.int IntKind.i64 0).cells = #[.int .i64 0] := rfl
  have hzs : zerosA (.int .i64 0) (n.toNat * 1) = ints (List.replicate n.toNat 0) := by
    unfold zerosA ints
    rw [hzc, Nat.mul_one, List.map_replicate]
    apply List.ext_getElem
    · simp
    · intro i h1 h2
      simp [Nat.mod_one]
  simp only [makeSliceA, hu, hc, hz]
  rw [if_pos ⟨trivial, h0, by omega, hb2, by omega⟩, if_pos ⟨by simp [plainCs, hzc, plainC], by simp [hzc]⟩, hzs]
end Go.Proofs.Ytnoihoeaconllaa.Ai
