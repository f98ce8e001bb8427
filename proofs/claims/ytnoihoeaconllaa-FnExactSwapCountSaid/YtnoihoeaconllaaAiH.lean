/- Rows of a function's own in longer objects (Mine), counting rows, clearing a row's end, functions that run over a row. No condition. -/
import Derived.Test.YtnoihoeaconllaaAiG
namespace Go.Proofs.Ytnoihoeaconllaa.Ai
open Go Go.RowKit
set_option linter.unusedVariables false
set_option linter.unusedSimpArgs false

/-- a slice of one's own that shows xs, in an object that may be longer -/
def Mine (e : TypeId) (H0 H : AH) (v : Value) (xs : List Int) : Prop :=
  (v = .slice none 0 0 ∧ xs = []) ∨ ∃ o zs, v = .slice (some ⟨o, 0, none⟩) xs.length xs.length ∧ H0.length ≤ o ∧ H[o]? = some (.cells (ints zs) e false) ∧ zs.take xs.length = xs

theorem Own.mine {e : TypeId} {H0 H : AH} {v : Value} {xs : List Int} (h : Own e H0 H v xs) : Mine e H0 H v xs := by
  rcases h with h | ⟨o, h1, h2, h3⟩
  · exact .inl h
  · exact .inr ⟨o, xs, h1, h2, h3, List.take_length ..⟩
theorem Mine.row {e : TypeId} {H0 H : AH} {v : Value} {xs : List Int} (h : Mine e H0 H v xs) : Row e H v xs := by
  rcases h with h | ⟨o, zs, h1, h2, h3, h4⟩
  · exact .inl h
  · have hl : xs.length ≤ zs.length := by have := congrArg List.length h4; simp at this; omega
    refine .inr ⟨o, 0, _, _, h1, h3, by rw [ints_len]; omega, ?_⟩
    rw [List.drop_zero]
    have : (ints zs).take xs.length = ints (zs.take xs.length) := by simp [ints, List.map_take]
    rw [this, h4]
theorem Mine.keep {e : TypeId} {H0 H H' : AH} {v : Value} {xs : List Int} (h : Mine e H0 H v xs) (hh : ∀ y, H[rowO v]? = some y → H'[rowO v]? = some y) : Mine e H0 H' v xs := by
  rcases h with h | ⟨o, zs, h1, h2, h3, h4⟩
  · exact .inl h
  · subst h1; exact .inr ⟨o, zs, rfl, h2, hh _ h3, h4⟩
theorem Mine.pre {e : TypeId} {H0 H H' : AH} {v : Value} {xs : List Int} (h : Mine e H0 H v xs) (hp : H <+: H') : Mine e H0 H' v xs := h.keep fun _ hy => pre_at hp hy
theorem Mine.base {e : TypeId} {H0 H1 H : AH} {v : Value} {xs : List Int} (h : Mine e H1 H v xs) (hp : H0 <+: H1) : Mine e H0 H v xs := by
  rcases h with h | ⟨o, zs, h1, h2, h3, h4⟩
  · exact .inl h
  · exact .inr ⟨o, zs, h1, Nat.le_trans hp.length_le h2, h3, h4⟩
/-- an old row is not one's own -/
theorem Row.apartM {e : TypeId} {H0 H : AH} {x v : Value} {xs ys : List Int} (hx : Row e H0 x xs) (h : Mine e H0 H v ys) : v = .slice none 0 0 ∨ x = .slice none 0 0 ∨ rowO x ≠ rowO v := by
  rcases h with h | ⟨o, zs, h1, h2, h3, h4⟩
  · exact .inl h.1
  · rcases hx with hx | ⟨o', k, vs, ro, g1, g2, _⟩
    · exact .inr (.inl hx.1)
    · subst h1; subst g1
      refine .inr (.inr ?_)
      have := at_lt g2
      show o' ≠ o
      omega

/-- all objects but a slice's own are as they were -/
def Else (v : Value) (H H' : AH) : Prop := H'.length = H.length ∧ ∀ o x, (v = .slice none 0 0 ∨ o ≠ rowO v) → H[o]? = some x → H'[o]? = some x
theorem Else.refl (v : Value) (H : AH) : Else v H H := ⟨rfl, fun _ _ _ h => h⟩
theorem Else.trans {v : Value} {H H' H'' : AH} (h : Else v H H') (k : Else v H' H'') : Else v H H'' := ⟨k.1.trans h.1, fun o x hn hx => k.2 o x hn (h.2 o x hn hx)⟩
theorem Else.set {o : Nat} {p : Nat} {n c : Nat} (H : AH) (x : AObj) : Else (.slice (some ⟨o, p, none⟩) n c) H (H.set o x) := by
  refine ⟨by simp, fun o' y hn hy => ?_⟩
  rcases hn with hn | hn
  · cases hn
  · have hn' : o ≠ o' := fun e => hn e.symm
    rw [List.getElem?_set_ne hn']; exact hy
theorem prefix_of {H0 H : AH} (h : ∀ (o : Nat) (x : AObj), H0[o]? = some x → H[o]? = some x) : H0 <+: H := by
  rw [List.prefix_iff_eq_take]
  apply List.ext_getElem?
  intro i
  rw [List.getElem?_take]
  by_cases hi : i < H0.length
  · rw [if_pos hi, List.getElem?_eq_getElem hi, h i _ (List.getElem?_eq_getElem hi)]
  · rw [if_neg hi, List.getElem?_eq_none (by omega)]
theorem else_pre_nil {v : Value} {H H' : AH} (hv : v = .slice none 0 0) (h : Else v H H') : H <+: H' := prefix_of fun o x hx => h.2 o x (.inl hv) hx
theorem else_pre {v : Value} {H0 H H' : AH} (hp : H0 <+: H) (hv : H0.length ≤ rowO v) (h : Else v H H') : H0 <+: H' := prefix_of fun o x hx => h.2 o x (.inr (by have := at_lt hx; omega)) (pre_at hp hx)
/-- an older row is still there -/
theorem Row.else {e e' : TypeId} {H0 H H' : AH} {x v : Value} {xs ys : List Int} (hx : Row e H x xs) (ho : rowO x < H0.length) (h : Mine e' H0 H v ys) (he : Else v H H') : Row e H' x xs := by
  refine hx.mono fun y hy => he.2 _ _ ?_ hy
  rcases h with h | ⟨o, zs, h1, h2, h3, h4⟩
  · exact .inl h.1
  · subst h1
    refine .inr ?_
    show rowO x ≠ o
    omega
theorem Row.nil {e : TypeId} {H : AH} {v : Value} {xs : List Int} (h : Row e H v xs) : (v = .slice none 0 0 ∧ xs = []) ∨ rowO v < H.length := by
  rcases h with h | ⟨o, k, vs, ro, h1, h2, _⟩
  · exact .inl h
  · subst h1; exact .inr (at_lt h2)
theorem Row.else' {e e' : TypeId} {H0 H H' : AH} {x v : Value} {xs ys : List Int} (h0 : Row e H0 x xs) (hx : Row e H x xs) (h : Mine e' H0 H v ys) (he : Else v H H') : Row e H' x xs := by
  rcases h0.nil with ⟨h1, h2⟩ | h1
  · exact .inl ⟨h1, h2⟩
  · exact hx.else h1 h he

/-- one's own row stays when an older one is written -/
theorem Mine.else {e e' : TypeId} {H0 H H' : AH} {x v : Value} {xs ys : List Int} (hm : Mine e H0 H v ys) (hx : Row e' H0 x xs) (he : Else x H H') : Mine e H0 H' v ys := by
  rcases hm with h | ⟨o, zs, h1, h2, h3, h4⟩
  · exact .inl h
  · refine .inr ⟨o, zs, h1, h2, he.2 _ _ ?_ h3, h4⟩
    rcases hx.nil with h | h
    · exact .inl h.1
    · exact .inr (by omega)

/-- k, k + 1, .. -/
def runI (k : Int) : Nat → List Int
  | 0 => []
  | n + 1 => runI k n ++ [k + n]
theorem runI_len (k : Int) (n : Nat) : (runI k n).length = n := by
  induction n with
  | zero => rfl
  | succ n ih => simp [runI, ih]
theorem runI_at (k : Int) (n i : Nat) (h : i < n) : (runI k n).getD i 0 = k + i := by
  induction n with
  | zero => omega
  | succ n ih =>
    by_cases hi : i < n
    · have := ih hi
      rw [List.getD_eq_getElem?_getD, runI, List.getElem?_append_left (by rw [runI_len]; exact hi), ← List.getD_eq_getElem?_getD]; exact this
    · obtain rfl : i = n := by omega
      rw [List.getD_eq_getElem?_getD, runI, List.getElem?_append_right (by rw [runI_len]; omega), runI_len]; simp

def Apart (x v : Value) : Prop := v = .slice none 0 0 ∨ x = .slice none 0 0 ∨ rowO x ≠ rowO v
/-- what an appending keeps -/
def Kept (v : Value) (H H' : AH) : Prop := ∀ o y, (v = .slice none 0 0 ∨ o ≠ rowO v) → H[o]? = some y → H'[o]? = some y
theorem Row.kept {e : TypeId} {H H' : AH} {x v : Value} {xs : List Int} (hr : Row e H x xs) (ha : Apart x v) (hk : Kept v H H') : Row e H' x xs := by
  rcases ha with ha | ha | ha
  · exact hr.mono fun y hy => hk _ _ (.inl ha) hy
  · rcases hr with h | ⟨o, k, vs, ro, h1, _⟩
    · exact .inl h
    · rw [h1] at ha; cases ha
  · exact hr.mono fun y hy => hk _ _ (.inr ha) hy
theorem Apart.new {e : TypeId} {H : AH} {x v : Value} {xs : List Int} (hr : Row e H x xs) (h : H.length ≤ rowO v) : Apart x v := by
  rcases hr.nil with g | g
  · exact .inr (.inl g.1)
  · exact .inr (.inr (by omega))
theorem Row.apartO {e : TypeId} {H0 H : AH} {x v : Value} {xs ys : List Int} (hx : Row e H0 x xs) (h : Own e H0 H v ys) : Apart x v := hx.apartM h.mine
/-- appending one to one's own -/
theorem Own.app1 {P : Program} {t e : TypeId} (hu : P.underlying t = some (.slice e)) (hc : P.cellsOf e = 1) (hby : P.bytesOf e ≤ 64) (hz : zeroOk P e = true) {H0 H : AH} {v : Value} {ys : List Int} (h : Own e H0 H v ys) (hp : H0 <+: H) (hb : ys.length ≤ 1099511627775) (x : Int) :
    ∃ v' H', appendA P t t v (.slice (some ⟨H.length, 0, none⟩) 1 1) (H ++ [.cells [.int .i64 x] e false]) = some (v', H') ∧ Own e H0 H' v' (ys ++ [x]) ∧ H0 <+: H' ∧ Kept v H H' ∧ H.length ≤ rowO v' ∧ isTup v' = false := by
  have hx : Row e (H ++ [.cells [.int .i64 x] e false]) (.slice (some ⟨H.length, 0, none⟩) 1 1) [x] := .inr ⟨H.length, 0, [.int .i64 x], false, rfl, at_new .., by simp, rfl⟩
  obtain ⟨v', H', h1, h2, h3, h4, h5⟩ := (h.pre (List.prefix_append H [.cells [.int .i64 x] e false])).app hu hc hby hz hx (pre_app hp _) (by simp; omega)
  refine ⟨v', H', h1, h2, h3, fun o y hn hy => h4 o y hn (at_app hy _), ?_, h2.row.tup⟩
  rcases h5 with h5 | ⟨h5, h6⟩
  · simp only [List.length_append, List.length_cons, List.length_nil] at h5; omega
  · subst h5
    obtain ⟨p, e1⟩ := h.row.shape
    obtain ⟨q, e2⟩ := h2.row.shape
    rw [e1] at e2
    simp at e2

/-- the end of a row of ints, cleared -/
theorem clear_ints {P : Program} {t e : TypeId} (hu : P.underlying t = some (.slice e)) (hc : P.cellsOf e = 1) (hz : zeroA P e = some (.int .i64 0)) {H : AH} {o k n c : Nat} {ys : List Int} (ho : H[o]? = some (.cells (ints ys) e false)) (hk : k + n ≤ ys.length) :
    ∃ zs, clearA P t (.slice (some ⟨o, k, none⟩) n c) H = some (undef, H.set o (.cells (ints zs) e false)) ∧ zs.take k = ys.take k ∧ zs.length = ys.length := by
  by_cases hn : n = 0
  · refine ⟨ys, ?_, rfl, rfl⟩
    simp only [clearA, hu]
    rw [if_pos hn]
    have : H.set o (.cells (ints ys) e false) = H := by
      apply List.ext_getElem?
      intro i
      rw [List.getElem?_set]
      by_cases hi : o = i
      · subst hi
        rw [if_pos rfl, if_pos (at_lt ho), ho]
      · rw [if_neg hi]
    rw [this]
  · have hzc : (Value.int IntKind.i64 0).cells = #[.int .i64 0] := rfl
    have hzs : zerosA (.int .i64 0) (n * 1) = ints (List.replicate n 0) := by
      unfold zerosA ints
      rw [hzc, Nat.mul_one, List.map_replicate]
      apply List.ext_getElem
      · simp
      · intro i h1 h2
        simp [Nat.mod_one]
    refine ⟨ys.take k ++ List.replicate n 0 ++ ys.drop (k + n), ?_, ?_, ?_⟩
    · simp only [clearA, hu, ho, hz, hc, hzs]
      rw [if_neg hn, if_pos ⟨trivial, by simp [plainCs, hzc, plainC], by simp [hzc], by omega, by rw [ints_len]; omega⟩]
      unfold putAt
      simp only [ints_len, List.length_replicate, ints, List.map_append, List.map_take, List.map_drop, List.map_replicate]
    · rw [List.append_assoc, List.take_append_of_le_length (by simp; omega), List.take_take, Nat.min_self]
    · simp; omega
end Go.Proofs.Ytnoihoeaconllaa.Ai
