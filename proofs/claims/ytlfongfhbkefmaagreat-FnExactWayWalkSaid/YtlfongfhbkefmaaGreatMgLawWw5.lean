/- Texts of this claim, joined: WyP, Clone, AppL, Lst, Chg, Spc, MarkL, MarkS, OrN, AdjP, Adj, WyI, WyJ, CycP, IdxP, SrtP, Swp. -/
import Derived.Test.YtlfongfhbkefmaaGreatProg
import Derived.KernelRfl
import Derived.Test.YtlfongfhbkefmaaGreatMgLawWw4
namespace Go.Proofs.YtlfongfhbkefmaaGreat.Ai
open Go
set_option linter.unusedVariables false
/-- the ways that go on with one of some nodes at a distance -/
def wT (far : List Int) (rec : Int → List Int → List (List Int)) (d : Int) (b : List Int) : List Int → List (List Int)
  | [] => []
  | y :: r => (if far.getD y.toNat 0 = d then rec y (b ++ [y]) else []) ++ wT far rec d b r
/-- the shortest ways from a node at a distance, behind some nodes -/
def wA (L : List (List Int)) (far : List Int) : Nat → Int → List Int → List (List Int)
  | 0, _, b => [b]
  | d + 1, x, b => wT far (wA L far d) (d : Int) b (L.getD x.toNat [])
def wNT (far : List Int) (rec : Int → Nat) (d : Int) : List Int → Nat
  | [] => 0
  | y :: r => (if far.getD y.toNat 0 = d then rec y else 0) + wNT far rec d r
/-- their number -/
def wN (L : List (List Int)) (far : List Int) : Nat → Int → Nat
  | 0, _ => 1
  | d + 1, x => wNT far (wN L far d) (d : Int) (L.getD x.toNat [])
theorem wT_len {far : List Int} {rec : Int → List Int → List (List Int)} {cnt : Int → Nat} (h : ∀ y b, (rec y b).length = cnt y) (d : Int) (b : List Int) : ∀ l, (wT far rec d b l).length = wNT far cnt d l
  | [] => rfl
  | y :: r => by
    simp only [wT, wNT, List.length_append, wT_len h d b r]
    split <;> simp [h]
theorem wA_len (L : List (List Int)) (far : List Int) : ∀ d x b, (wA L far d x b).length = wN L far d x
  | 0, _, _ => rfl
  | d + 1, x, b => wT_len (wA_len L far d) _ _ _
theorem wNT_append (far : List Int) (rec : Int → Nat) (d : Int) : ∀ l m, wNT far rec d (l ++ m) = wNT far rec d l + wNT far rec d m
  | [], m => by simp [wNT]
  | y :: r, m => by simp only [List.cons_append, wNT, wNT_append far rec d r m]; omega
theorem wT_mem {far : List Int} {rec : Int → List Int → List (List Int)} {d : Int} {b : List Int} {w : List Int} : ∀ {l}, w ∈ wT far rec d b l → ∃ y ∈ l, far.getD y.toNat 0 = d ∧ w ∈ rec y (b ++ [y])
  | [], h => by simp [wT] at h
  | y :: r, h => by
    simp only [wT, List.mem_append] at h
    rcases h with h | h
    · split at h
      · rename_i e; exact ⟨y, by simp, e, h⟩
      · simp at h
    · obtain ⟨z, h1, h2⟩ := wT_mem h
      exact ⟨z, by simp [h1], h2⟩
/-- a way goes on behind what it begins with -/
theorem wA_pre (L : List (List Int)) (far : List Int) : ∀ d x b, ∀ w ∈ wA L far d x b, ∃ r, w = b ++ r ∧ r.length = d ∧ ∀ z ∈ r, ∃ u : Nat, z ∈ L.getD u []
  | 0, x, b, w, h => by
    simp only [wA, List.mem_singleton] at h
    exact ⟨[], by simp [h], rfl, by simp⟩
  | d + 1, x, b, w, h => by
    obtain ⟨y, h1, _, h3⟩ := wT_mem (show w ∈ wT far (wA L far d) (d : Int) b (L.getD x.toNat []) from h)
    obtain ⟨r, r1, r2, r3⟩ := wA_pre L far d y (b ++ [y]) w h3
    refine ⟨y :: r, by rw [r1]; simp, by simp [r2], fun z hz => ?_⟩
    rcases List.mem_cons.1 hz with rfl | hz
    · exact ⟨x.toNat, h1⟩
    · exact r3 z hz
theorem wT_pw {L : List (List Int)} {far : List Int} {d : Nat} {b : List Int} (ih : ∀ x b, (wA L far d x b).Pairwise fun x y => 0 < cmpL y x) : ∀ l : List Int, l.Pairwise (· < ·) → (wT far (wA L far d) (d : Int) b l).Pairwise fun x y => 0 < cmpL y x
  | [], _ => .nil
  | y :: r, hl => by
    have hl' := List.pairwise_cons.1 hl
    simp only [wT]
    rw [List.pairwise_append]
    refine ⟨by split
               · exact ih _ _
               · exact .nil, wT_pw ih r hl'.2, fun u hu v hv => ?_⟩
    split at hu
    · obtain ⟨p, p1, _, _⟩ := wA_pre L far d y _ u hu
      obtain ⟨z, z1, _, z3⟩ := wT_mem hv
      obtain ⟨q, q1, _, _⟩ := wA_pre L far d z _ v z3
      rw [p1, q1, List.append_assoc, List.append_assoc]
      exact cmpL_head b p q (hl'.1 z z1)
    · simp at hu
theorem wA_pw {L : List (List Int)} (hs : ∀ x, (L.getD x []).Pairwise (· < ·)) (far : List Int) : ∀ d x b, (wA L far d x b).Pairwise fun x y => 0 < cmpL y x
  | 0, x, b => by simp [wA]
  | d + 1, x, b => wT_pw (wA_pw hs far d) _ (hs _)
def mprod (m : Nat) : Nat := [1, 1, 2, 3, 4, 6, 9].getD m 0
theorem mprod_mul : ∀ k c : Fin 7, k.1 + c.1 ≤ 6 → k.1 * mprod c.1 ≤ mprod (k.1 + c.1) := by decide
theorem mprod_le : ∀ c : Fin 7, mprod c.1 ≤ 9 := by decide
theorem wNT_le {far : List Int} {rec : Int → Nat} {d : Int} {M : Nat} : ∀ {l : List Int}, (∀ y ∈ l, far.getD y.toNat 0 = d → rec y ≤ M) → wNT far rec d l ≤ (l.countP fun y => decide (far.getD y.toNat 0 = d)) * M
  | [], _ => by simp [wNT]
  | y :: r, h => by
    have ih := wNT_le (l := r) fun z hz => h z (by simp [hz])
    simp only [wNT, List.countP_cons]
    by_cases e : far.getD y.toNat 0 = d
    · have := h y (by simp) e
      rw [if_pos e, if_pos (by simpa using e), Nat.add_mul, Nat.one_mul]; omega
    · rw [if_neg e, if_neg (by simpa using e), Nat.add_zero]; omega
theorem nodup_leA {α : Type} [DecidableEq α] : ∀ (l m : List α), l.Nodup → (∀ x ∈ l, x ∈ m) → l.length ≤ m.length
  | [], m, _, _ => Nat.zero_le _
  | a :: l, m, hn, h => by
    have ha := h a (by simp)
    have hn' := List.nodup_cons.1 hn
    have := nodup_leA l (m.erase a) hn'.2 (fun x hx => (List.mem_erase_of_ne (fun e => by subst e; exact hn'.1 hx)).2 (h x (by simp [hx])))
    rw [List.length_erase_of_mem ha] at this
    have : 0 < m.length := List.length_pos_of_mem ha
    simp only [List.length_cons]
    omega
theorem cnt_one (y : Nat) : ∀ n, (List.range n).countP (fun z => z == y) = if y < n then 1 else 0
  | 0 => by simp
  | n + 1 => by
    rw [List.range_succ, List.countP_append, cnt_one y n]
    simp only [List.countP_cons, List.countP_nil, beq_iff_eq]
    split <;> split <;> (try split) <;> omega
theorem nodup_cnt {p : Nat → Bool} {n : Nat} {l : List Int} (hn : l.Nodup) (h : ∀ y ∈ l, 0 ≤ y ∧ y < n) : (l.countP fun y => p y.toNat) ≤ (List.range n).countP p := by
  rw [List.countP_eq_length_filter, List.countP_eq_length_filter, ← List.length_map (f := fun z : Int => z.toNat)]
  refine nodup_leA _ _ ?_ ?_
  · rw [List.Nodup, List.pairwise_map]
    refine List.Pairwise.imp_of_mem ?_ (hn.filter _)
    intro a b ha hb hab e
    have h1 := h a (List.mem_filter.1 ha).1
    have h2 := h b (List.mem_filter.1 hb).1
    omega
  · intro y hy
    obtain ⟨z, hz, rfl⟩ := List.mem_map.1 hy
    obtain ⟨h1, h2⟩ := List.mem_filter.1 hz
    have := h z h1
    exact List.mem_filter.2 ⟨List.mem_range.2 (by omega), h2⟩
/-- nodes at a distance from 1 on, below one -/
def lowC (n : Nat) (far : List Int) (d : Nat) : Nat := (List.range n).countP fun z => decide (1 ≤ far.getD z 0 ∧ far.getD z 0 < d)
def atC (n : Nat) (far : List Int) (d : Nat) : Nat := (List.range n).countP fun z => decide (far.getD z 0 = d)
theorem cnt_or {p q r : Nat → Bool} : ∀ l : List Nat, (∀ x, r x = (p x || q x)) → (∀ x, ¬ (p x = true ∧ q x = true)) → l.countP r = l.countP p + l.countP q
  | [], _, _ => by simp
  | x :: l, h1, h2 => by
    have ih := cnt_or l h1 h2
    have a := h1 x
    have b := h2 x
    simp only [List.countP_cons, ih]
    cases hp : p x <;> cases hq : q x <;> rw [hp, hq] at a <;> simp [a] <;> first | omega | exact absurd ⟨hp, hq⟩ b
theorem lowC_succ (n : Nat) (far : List Int) (d : Nat) (hd : 1 ≤ d) : lowC n far (d + 1) = lowC n far d + atC n far d := by
  unfold lowC atC
  refine cnt_or _ (fun x => ?_) fun x h => ?_
  · rw [← Bool.decide_or]
    exact decide_eq_decide.2 (by omega)
  · simp only [decide_eq_true_eq] at h; omega
/-- two nodes are not counted -/
theorem lowC_le {n : Nat} {far : List Int} {d x t : Nat} (hx : x < n) (ht : t < n) (h0 : far.getD t 0 = 0) (hd : far.getD x 0 = d) (hd1 : 1 ≤ d) : lowC n far d + 2 ≤ n := by
  have h1 : (List.range n).countP (fun z => decide (1 ≤ far.getD z 0 ∧ far.getD z 0 < d) || (z == x || z == t)) ≤ n := by
    have := List.countP_le_length (p := fun z => decide (1 ≤ far.getD z 0 ∧ far.getD z 0 < d) || (z == x || z == t)) (l := List.range n)
    rwa [List.length_range] at this
  have hne : x ≠ t := fun e => by rw [e, h0] at hd; omega
  have cx : ∀ y, y < n → (List.range n).countP (fun z => z == y) = 1 := fun y hy => by rw [cnt_one, if_pos hy]
  have h2 := cnt_or (p := fun z => decide (1 ≤ far.getD z 0 ∧ far.getD z 0 < d)) (q := fun z => z == x || z == t) (r := fun z => decide (1 ≤ far.getD z 0 ∧ far.getD z 0 < d) || (z == x || z == t)) (List.range n) (fun _ => rfl) fun z h => by
    simp only [decide_eq_true_eq, Bool.or_eq_true, beq_iff_eq] at h
    rcases h.2 with e | e
    · rw [e, hd] at h; omega
    · rw [e, h0] at h; omega
  have h3 := cnt_or (p := fun z => z == x) (q := fun z => z == t) (r := fun z => z == x || z == t) (List.range n) (fun _ => rfl) fun z h => by
    simp only [beq_iff_eq] at h; omega
  rw [h2, h3, cx x hx, cx t ht] at h1
  exact h1
theorem wN_le {n t : Nat} {L : List (List Int)} {far : List Int} (hn8 : n ≤ 8) (ht : t < n) (hl : ∀ x, (L.getD x []).Nodup ∧ ∀ y ∈ L.getD x [], 0 ≤ y ∧ y < n) (h0 : far.getD t 0 = 0) (hu : ∀ y, y < n → far.getD y 0 = 0 → y = t) : ∀ (d : Nat) (x : Nat), x < n → far.getD x 0 = d → 1 ≤ d → wN L far d x ≤ mprod (lowC n far d)
  | 0, _, _, _, h => by omega
  | d + 1, x, hx, hd, _ => by
    have hlow := lowC_le hx ht h0 hd (by omega)
    show wNT far (wN L far d) (d : Int) (L.getD (x : Int).toNat []) ≤ _
    rw [Int.toNat_natCast]
    obtain ⟨nd, rg⟩ := hl x
    have hk := nodup_cnt (p := fun z => decide (far.getD z 0 = d)) nd rg
    by_cases e : d = 0
    · subst e
      have h1 := wNT_le (far := far) (rec := wN L far 0) (d := ((0 : Nat) : Int)) (M := 1) (l := L.getD x []) fun y _ _ => Nat.le_refl _
      have h2 : (List.range n).countP (fun z => decide (far.getD z 0 = ((0 : Nat) : Int))) ≤ (List.range n).countP fun z => z == t := by
        refine List.countP_mono_left fun z hz hd => ?_
        simp only [decide_eq_true_eq] at hd
        simp only [beq_iff_eq]
        exact hu z (List.mem_range.1 hz) (by simpa using hd)
      have h3 : (List.range n).countP (fun z => z == t) = 1 := by rw [cnt_one, if_pos ht]
      have h4 : lowC n far (0 + 1) = 0 := by
        unfold lowC
        rw [List.countP_eq_zero]
        intro z _
        simp only [decide_eq_true_eq]; omega
      rw [h4]
      show _ ≤ 1
      omega
    · have ih : ∀ y ∈ L.getD x [], far.getD y.toNat 0 = (d : Int) → wN L far d y ≤ mprod (lowC n far d) := fun y hy hyd => by
        have hr := rg y hy
        have := wN_le hn8 ht hl h0 hu d y.toNat (by omega) hyd (by omega)
        rwa [Int.toNat_of_nonneg hr.1] at this
      have h1 := wNT_le (far := far) (rec := wN L far d) (d := (d : Int)) ih
      rw [lowC_succ n far d (by omega)] at hlow ⊢
      have h2 := mprod_mul ⟨atC n far d, by omega⟩ ⟨lowC n far d, by omega⟩ (by simp only; omega)
      simp only at h2
      rw [Nat.add_comm] at h2
      refine Nat.le_trans h1 (Nat.le_trans (Nat.mul_le_mul_right _ hk) h2)
theorem wN_nine {n t : Nat} {L : List (List Int)} {far : List Int} (hn8 : n ≤ 8) (ht : t < n) (hl : ∀ x, (L.getD x []).Nodup ∧ ∀ y ∈ L.getD x [], 0 ≤ y ∧ y < n) (h0 : far.getD t 0 = 0) (hu : ∀ y, y < n → far.getD y 0 = 0 → y = t) {d x : Nat} (hx : x < n) (hd : far.getD x 0 = d) : wN L far d x ≤ 9 := by
  by_cases e : d = 0
  · subst e; show 1 ≤ 9; omega
  · have h1 := wN_le hn8 ht hl h0 hu d x hx hd (by omega)
    have h2 := lowC_le hx ht h0 hd (by omega)
    have := mprod_le ⟨lowC n far d, by omega⟩
    simp only at this
    omega
theorem roadsL_asc (n : Nat) (es : List (Int × Int)) (x : Nat) : ((roadsL n es).getD x []).Pairwise (· < ·) := by
  by_cases hx : x < n
  · rw [roadsL_at n es x hx]
    have : ∀ k, (nbsU es (x : Int) k).Pairwise (· < ·) := by
      intro k
      induction k with
      | zero => exact .nil
      | succ k ih =>
        simp only [nbsU]
        rw [List.pairwise_append]
        refine ⟨ih, by split <;> simp, fun a ha b hb => ?_⟩
        have := ((nbsU_mem es (x : Int) k a).1 ha).1
        split at hb
        · rw [List.mem_singleton] at hb; omega
        · simp at hb
    exact this n
  · rw [roadsL_out n es x hx]; exact .nil
/-- the distances to a node, and the shortest ways -/
def farG (n : Int) (es : List (Int × Int)) (t : Int) : List Int := bfs (roadsL n.toNat es) t.toNat
abbrev WsOk (n : Int) (es : List (Int × Int)) (s t : Int) : Prop := Grd n es ∧ (0 ≤ s ∧ s < n) ∧ (0 ≤ t ∧ t < n)
def wsL (n : Int) (es : List (Int × Int)) (s t : Int) : List (List Int) :=
  if WsOk n es s t ∧ 0 ≤ (farG n es t).getD s.toNat 0 then wA (roadsL n.toNat es) (farG n es t) ((farG n es t).getD s.toNat 0).toNat s [s] else []
/-- one place differs -/
def chB (x y : List Int) : Bool := decide ((dfL x y).length = 1)
structure FarOk (N : Nat) (L : List (List Int)) (far : List Int) (t : Nat) : Prop where
  tl : t < N
  ll : L.length = N
  fl : far.length = N
  lok : LOk N L
  asc : ∀ x, (L.getD x []).Pairwise (· < ·)
  zero : far.getD t 0 = 0
  uniq : ∀ y, y < N → far.getD y 0 = 0 → y = t
  lo : ∀ y, y < N → -1 ≤ far.getD y 0 ∧ far.getD y 0 < N
theorem farG_ok {n : Int} {es : List (Int × Int)} {s t : Int} (h : WsOk n es s t) : FarOk n.toNat (roadsL n.toNat es) (farG n es t) t.toNat := by
  have hl := roadsL_len n.toNat es
  have hL := roadsL_ok n.toNat es
  have ht : t.toNat < (roadsL n.toNat es).length := by rw [hl]; omega
  obtain ⟨q, hq⟩ := bfs_DI hL ht
  have hz := bfs_zero hL ht
  refine ⟨by omega, hl, ?_, by rw [hl] at hL; exact hL, fun x => roadsL_asc _ _ _, hz, fun y hy e => ?_, fun y hy => ?_⟩
  · have := hq.bi.len
    rw [hl] at this; exact this
  · have e' : (bfs (roadsL n.toNat es) t.toNat).getD y 0 = 0 := e
    rcases hq.src y (by omega) (show 0 ≤ (bfs (roadsL n.toNat es) t.toNat).getD y 0 by omega) with ⟨g, _⟩ | ⟨u, u1, u2, u3, u4⟩
    · exact g
    · have u2' : 0 ≤ (bfs (roadsL n.toNat es) t.toNat).getD u 0 := u2
      have u4' : (bfs (roadsL n.toNat es) t.toNat).getD y 0 = (bfs (roadsL n.toNat es) t.toNat).getD u 0 + 1 := u4
      omega
  · have h1 := hq.bi.lo y (by omega)
    have h2 := hq.bi.len_le
    rw [hl] at h2
    have h1a : -1 ≤ (bfs (roadsL n.toNat es) t.toNat).getD y 0 := h1.1
    have h1' : (bfs (roadsL n.toNat es) t.toNat).getD y 0 < (q.length : Nat) := h1.2
    have h2' : q.length ≤ n.toNat := h2
    exact ⟨h1a, by show (bfs (roadsL n.toNat es) t.toNat).getD y 0 < _; omega⟩
theorem FarOk.nine {N t : Nat} {L : List (List Int)} {far : List Int} (h : FarOk N L far t) (h8 : N ≤ 8) {d x : Nat} (hx : x < N) (hd : far.getD x 0 = d) : wN L far d x ≤ 9 :=
  wN_nine h8 h.tl (fun x => ⟨(h.asc x).imp fun h e => by omega, h.lok x⟩) h.zero h.uniq hx hd
theorem wsL_ok {n : Int} {es : List (Int × Int)} {s t : Int} : SrtL (wsL n es s t) ∧ (wsL n es s t).length ≤ 9 ∧ (∃ k, k ≤ 8 ∧ ∀ l ∈ wsL n es s t, l.length = k) ∧ ∀ l ∈ wsL n es s t, ∀ x ∈ l, 0 ≤ x ∧ x < 8 := by
  unfold wsL
  split
  · rename_i h
    obtain ⟨h, h0⟩ := h
    have hf := farG_ok h
    have h8 := h.1.1
    generalize farG n es t = far at *
    generalize roadsL n.toNat es = L at *
    have hb := hf.lo s.toNat (by omega)
    obtain ⟨d, hd⟩ : ∃ d : Nat, far.getD s.toNat 0 = d := ⟨(far.getD s.toNat 0).toNat, by omega⟩
    rw [hd, Int.toNat_natCast]
    have hlen : ∀ l ∈ wA L far d s [s], l.length = d + 1 := fun l hl => by
      obtain ⟨r, r1, r2, _⟩ := wA_pre L far d s [s] l hl
      rw [r1]; simp; omega
    refine ⟨srtL_of (wA_pw hf.asc far d s [s]), ?_, ⟨d + 1, by omega, hlen⟩, fun l hl x hx => ?_⟩
    · rw [wA_len]
      have := hf.nine (by omega) (d := d) (x := s.toNat) (by omega) hd
      rwa [Int.toNat_of_nonneg h.2.1.1] at this
    · obtain ⟨r, r1, _, r3⟩ := wA_pre L far d s [s] l hl
      rw [r1] at hx
      rcases List.mem_append.1 hx with q | q
      · rw [List.mem_singleton] at q; omega
      · obtain ⟨u, hu⟩ := r3 x q
        have := hf.lok u x hu
        omega
  · refine ⟨fun i j _ hj => by simp at hj, by simp, ⟨0, by omega, by simp⟩, by simp⟩
end Go.Proofs.YtlfongfhbkefmaaGreat.Ai
namespace Go.Proofs.YtlfongfhbkefmaaGreat.Ai
open Go
def ords77 : List (Nat × List (Nat × Bool)) := []
def cd77 : Cd := (.seq (.reg [⟨⟨some 2, Op.assign (Operand.const (Value.slice none 0 0)), none⟩, []⟩]) (.seq (.seq (.reg [⟨⟨some 3, Op.move (Operand.tmp 0), none⟩, []⟩,
  ⟨⟨some 4, Op.binOp BinOp.eql 38 (Operand.tmp 3) (Operand.const (Value.slice none 0 0)) 38, none⟩, []⟩]) (.cond (Operand.tmp 4) (.seq (.reg [⟨⟨some 2, Op.assign (Operand.const (Value.slice none 0 0)), none⟩, []⟩]) .ret) .skip)) (.seq (.reg [⟨⟨some 5, Op.buildSlice 38 0 #[], none⟩, []⟩,
  ⟨⟨some 6, Op.move (Operand.tmp 0), none⟩, []⟩,
  ⟨⟨some 7, Op.call { callee := (Callee.builtin Builtin.append), args := #[(Operand.tmp 5), (Operand.tmp 6)], argTypes := #[38, 38] }, none⟩, []⟩,
  ⟨⟨some 2, Op.assign (Operand.tmp 7), none⟩, []⟩]) .ret)))
theorem sl77 : slim Tryz.f77.ntmps ords77 (Tryz.f77.body.getD .skip) = some cd77 := by kernel_rfl
theorem in77 {args : List Value} {H : AH} {R : Value → AH → Prop} (hl : args.length = 1) (h : ∀ (Q : Exit → Sl → AH → Prop), (∀ e s H, endA Tryz.prog [ResultVar.tmp 2] R e s H → Q e s H) → wpC Tryz.prog cd77 Q (enterA args) H) : ACalls Tryz.prog 77 args H R :=
  ACalls.intro (by kernel_rfl) Tryz.func77 rfl (by kernel_rfl) sl77 hl (of_decide_eq_true (by kernel_rfl)) (by kernel_rfl) h
end Go.Proofs.YtlfongfhbkefmaaGreat.Ai
namespace Go.Proofs.YtlfongfhbkefmaaGreat.Ai
open Go Go.RowKit
set_option linter.unusedVariables false
set_option linter.unusedSimpArgs false
set_option maxRecDepth 20000 in
theorem Clone_c (v : Value) (xs : List Int) (H : AH) (hr : Row 3 H v xs) (hlen : xs.length ≤ 1099511627776) : ACalls Tryz.prog 77 [v] H fun r H' => Own 3 H H' r xs ∧ H <+: H' := by
  refine in77 rfl ?_
  intro Q hQ
  obtain ⟨p, e⟩ := hr.shape
  subst e
  simp (maxSteps := 1000000) (disch := omega) only [cd77, S, S1, S2, S3, S4, S5, ST, eq_self, reduceIte, reduceCtorEq, Nat.reduceEqDiff, Nat.reduceAdd]
  refine brH.intro (fun g => ?_) (fun g => ?_) <;> simp (maxSteps := 1000000) (disch := omega) only [S, S1, S2, S3, S4, S5, ST, eq_self, reduceIte, reduceCtorEq, Nat.reduceEqDiff, Nat.reduceAdd]
  · refine hQ _ _ _ ?_
    simp (maxSteps := 1000000) (disch := omega) only [S, S1, S2, S3, S4, S5, ST, eq_self, reduceIte, reduceCtorEq, Nat.reduceEqDiff, Nat.reduceAdd]
    have : xs = [] := by
      rcases hr with h | ⟨o, k, vs, ro, h1, _⟩
      · exact h.2
      · cases p with
        | none => cases h1
        | some p => cases g
    exact ⟨.inl ⟨rfl, this⟩, List.prefix_refl _⟩
  · have hp := List.prefix_append H [AObj.cells [] 3 false]
    have ho : Own 3 H (H ++ [AObj.cells [] 3 false]) (.slice (some ⟨H.length, 0, none⟩) 0 0) [] := .inr ⟨H.length, rfl, Nat.le_refl _, at_new ..⟩
    obtain ⟨v', H2, k1, k2, k3, _⟩ := ho.app (P := Tryz.prog) (t := 38) Tryz.underlying38 cs3 (by rw [by3]; decide) zk3 (hr.pre hp) hp (by simp; omega)
    simp (maxSteps := 1000000) (disch := omega) only [k1, S, S1, S2, S3, S4, S5, ST, eq_self, reduceIte, reduceCtorEq, Nat.reduceEqDiff, Nat.reduceAdd]
    refine hQ _ _ _ ?_
    simp (maxSteps := 1000000) (disch := omega) only [k2.row.tup, S, S1, S2, S3, S4, S5, ST, eq_self, reduceIte, reduceCtorEq, Nat.reduceEqDiff, Nat.reduceAdd]
    exact ⟨k2, k3⟩
end Go.Proofs.YtlfongfhbkefmaaGreat.Ai
namespace Go.Proofs.YtlfongfhbkefmaaGreat.Ai
open Go Go.RowKit
set_option linter.unusedVariables false
/-- the lists of a list of lists -/
theorem InL.parts {lo hi : Nat} {e2 e : TypeId} {H : AH} {v : Value} {ls : List (List Int)} (h : InL lo hi e2 e H v ls) : ∃ us : List Value, RowV e2 H v us ∧ us.length = ls.length ∧ ∀ i, i < ls.length → InI lo hi e H (us.getD i undef) (ls.getD i []) := by
  rcases h with ⟨h1, h2⟩ | ⟨o, us, h0, h1, h2, h3, h4, h5, h6⟩
  · subst h1; subst h2; exact ⟨[], .inl ⟨rfl, rfl⟩, rfl, fun i hi => absurd hi (by simp)⟩
  · refine ⟨us.take ls.length, .inr ⟨o, 0, us, false, by simp [h0, Nat.min_eq_left h4], h3, by simp; omega, by simp [Nat.min_eq_left h4]⟩, by simp; omega, fun i hi => ?_⟩
    have : (us.take ls.length).getD i undef = us.getD i undef := by
      rw [List.getD_eq_getElem?_getD, List.getD_eq_getElem?_getD, List.getElem?_take, if_pos hi]
    rw [this]
    exact (h5 i hi).1
end Go.Proofs.YtlfongfhbkefmaaGreat.Ai
namespace Go.Proofs.YtlfongfhbkefmaaGreat.Ai
open Go Go.RowKit
set_option linter.unusedVariables false
set_option linter.unusedSimpArgs false
/-- the list so far in the variable pe, and what stays (fx) -/
structure LSt (HB : AH) (fx : List (Nat × AObj)) (pe : Nat) (F : Nat → Prop) (H : AH) (ed : List Int) : Prop where
  fix : ∀ q ∈ fx, H[q.1]? = some q.2 ∧ ¬ F q.1 ∧ q.1 ≠ pe
  e : ∃ oe zs, H[pe]? = some (.cells [.slice (some ⟨oe, 0, none⟩) ed.length ed.length] 38 false) ∧ H[oe]? = some (.cells (ints zs) 3 false) ∧ zs.take ed.length = ed ∧ ¬ F oe ∧ oe ≠ pe ∧ (∀ q ∈ fx, q.1 ≠ oe) ∧ HB.length ≤ oe
  out : ¬ F pe
  lo : HB.length ≤ pe
  pre : HB <+: H
section
variable {HB : AH} {fx : List (Nat × AObj)} {pe : Nat} {F F' : Nat → Prop} {H H' : AH} {ed : List Int}
/-- what changes other objects leaves all this -/
theorem LSt.cb (h : LSt HB fx pe F H ed) (hlive : ∀ o, F o → HB.length ≤ o) (hF : ∀ o, F' o → F o ∨ H.length ≤ o) (hk : ∀ o y, ¬ F o → H[o]? = some y → H'[o]? = some y) : LSt HB fx pe F' H' ed := by
  obtain ⟨oe, zs, e1, e2, e3, e4, e5⟩ := h.e
  have no : ∀ {o x}, ¬ F o → H[o]? = some x → ¬ F' o := fun ho hx hf => by
    rcases hF _ hf with g | g
    · exact ho g
    · have := at_lt hx; omega
  refine ⟨fun q hq => ?_, ⟨oe, zs, hk _ _ h.out e1, hk _ _ e4 e2, e3, no e4 e2, e5⟩, no h.out e1, h.lo, ?_⟩
  · obtain ⟨q1, q2, q3⟩ := h.fix q hq
    exact ⟨hk _ _ q2 q1, no q2 q1, q3⟩
  · exact prefix_of fun o x hx => hk o x (fun hf => by have := hlive o hf; have := at_lt hx; omega) (pre_at h.pre hx)
theorem LSt.row (h : LSt HB fx pe F H ed) : ∃ w, cellA H pe 0 = some w ∧ Row 3 H w ed ∧ ¬ F (rowO w) ∧ isTup w = false := by
  obtain ⟨oe, zs, e1, e2, e3, e4, e5⟩ := h.e
  refine ⟨_, cell_of e1 0, ?_, e4, rfl⟩
  have hzl : ed.length ≤ zs.length := by
    have := congrArg List.length e3
    rw [List.length_take] at this; omega
  refine .inr ⟨oe, 0, ints zs, false, rfl, e2, by rw [ints_len]; omega, ?_⟩
  rw [List.drop_zero]
  have : (ints zs).take ed.length = ints (zs.take ed.length) := by simp [ints, List.map_take]
  rw [this, e3]
/-- one more -/
theorem LSt.push (h : LSt HB fx pe F H ed) (hlive : ∀ o, F o → o < H.length) (hb : ed.length ≤ 1048576) (x : Int) :
    ∃ w H2 H3, cellA H pe 0 = some (.slice (some w) ed.length ed.length) ∧ appendA Tryz.prog 38 38 (.slice (some w) ed.length ed.length) (.slice (some ⟨H.length, 0, none⟩) 1 1) (H ++ [.cells [.int .i64 x] 3 false]) = some (.slice (some ⟨H.length + 1, 0, none⟩) (ed.length + 1) (ed.length + 1), H2) ∧
      storeA Tryz.prog 38 (.pointer (some ⟨pe, 0, none⟩)) (.slice (some ⟨H.length + 1, 0, none⟩) (ed.length + 1) (ed.length + 1)) H2 = some H3 ∧ LSt HB fx pe F H3 (ed ++ [x]) ∧ (∀ o y, F o → H[o]? = some y → H3[o]? = some y) ∧ H.length ≤ H3.length ∧
      ∀ o y, o ≠ pe → (∀ w', cellA H pe 0 = some w' → o ≠ rowO w') → H[o]? = some y → H3[o]? = some y := by
  obtain ⟨oe, zs, e1, e2, e3, e4, e8, e5, e9⟩ := h.e
  have hzl : ed.length ≤ zs.length := by
    have := congrArg List.length e3
    rw [List.length_take] at this; omega
  have k1 := app_q (P := Tryz.prog) (t := 38) (k := 0) (n := ed.length) (c := ed.length) (x := x) Tryz.underlying38 cs3 (by rw [by3]; decide) zk3 e2 (by omega) (by omega)
  rw [List.drop_zero, e3] at k1
  have at_ : ∀ {o y}, o ≠ oe → H[o]? = some y → (H.set oe .dead ++ [AObj.cells [.int .i64 x] 3 false, .cells (ints (ed ++ [x])) 3 false])[o]? = some y := by
    intro o y ho hy
    rw [List.getElem?_append_left (by simpa using at_lt hy), List.getElem?_set_ne (fun e => ho e.symm)]
    exact hy
  have a1 := at_ (fun e => e8 e.symm) e1
  have hst := st_at (P := Tryz.prog) (t := 38) (i := 0) (y := .slice (some ⟨H.length + 1, 0, none⟩) (ed.length + 1) (ed.length + 1)) cs38 a1 (by show 0 < 1; decide) rfl rfl
  have l1 := at_lt e1
  have l2 := at_lt e2
  have aw : ∀ {o y}, o ≠ oe → o ≠ pe → H[o]? = some y → ((H.set oe .dead ++ [AObj.cells [.int .i64 x] 3 false, .cells (ints (ed ++ [x])) 3 false]).set pe (.cells ([Value.slice (some ⟨oe, 0, none⟩) ed.length ed.length].set 0 (.slice (some ⟨H.length + 1, 0, none⟩) (ed.length + 1) (ed.length + 1))) 38 false))[o]? = some y := by
    intro o y ho1 ho2 hy
    rw [List.getElem?_set_ne (fun e => ho2 e.symm)]
    exact at_ ho1 hy
  have lo := h.lo
  refine ⟨_, _, _, cell_of e1 0, k1, hst, ⟨fun q hq => ?_, ⟨H.length + 1, ed ++ [x], ?_, ?_, ?_, ?_, by omega, fun q hq => ?_, by have := h.pre.length_le; omega⟩, h.out, h.lo, ?_⟩, ?_, by simp, ?_⟩
  · obtain ⟨q1, q2, q3⟩ := h.fix q hq
    exact ⟨aw (e5 q hq) q3 q1, q2, q3⟩
  · rw [List.getElem?_set_self (by simp; omega)]
    simp
  · rw [List.getElem?_set_ne (by omega), List.getElem?_append_right (by simp)]
    simp
  · rw [List.take_of_length_le (Nat.le_refl _)]
  · intro hf; have := hlive _ hf; omega
  · have := at_lt (h.fix q hq).1; omega
  · exact prefix_of fun o y hy => aw (by have := at_lt hy; omega) (by have := at_lt hy; omega) (pre_at h.pre hy)
  · intro o y hf hy
    exact aw (fun e => e4 (e ▸ hf)) (fun e => h.out (e ▸ hf)) hy
  · intro o y ho1 ho2 hy
    exact aw (ho2 _ (cell_of e1 0)) ho1 hy
/-- the last one away -/
theorem LSt.pop {x : Int} (h : LSt HB fx pe F H (ed ++ [x])) :
    ∃ w c, cellA H pe 0 = some (.slice (some w) (ed.length + 1) c) ∧ sliceA Tryz.prog 38 (.slice (some w) (ed.length + 1) c) none (some (.int .i64 (ed.length : Int))) none H = some (.slice (some w) ed.length ed.length) ∧
      ∃ H3, storeA Tryz.prog 38 (.pointer (some ⟨pe, 0, none⟩)) (.slice (some w) ed.length ed.length) H = some H3 ∧ LSt HB fx pe F H3 ed ∧ (∀ o y, F o → H[o]? = some y → H3[o]? = some y) ∧ H3.length = H.length := by
  obtain ⟨oe, zs, e1, e2, e3, e4, e8, e5, e9⟩ := h.e
  have hl : (ed ++ [x]).length = ed.length + 1 := by simp
  rw [hl] at e1 e3
  have hz : zs.take ed.length = ed := by
    have := congrArg (List.take ed.length) e3
    rw [List.take_take, Nat.min_eq_left (by omega)] at this
    simpa using this
  have hsl := sl_own (P := Tryz.prog) (t := 38) (k := 0) (n := ed.length + 1) (c := ed.length + 1) Tryz.underlying38 cs3 e2 lo_none (bound_some (k := .i64) (i := (ed.length : Int)) (by omega) (ed.length + 1)) (Nat.zero_le _) (by omega)
  simp only [Int.toNat_natCast, Nat.add_zero, Nat.sub_zero] at hsl
  have hst := st_at (P := Tryz.prog) (t := 38) (i := 0) (y := .slice (some ⟨oe, 0, none⟩) ed.length ed.length) cs38 e1 (by show 0 < 1; decide) rfl rfl
  have aw : ∀ {o y}, o ≠ pe → H[o]? = some y → (H.set pe (.cells ([Value.slice (some ⟨oe, 0, none⟩) (ed.length + 1) (ed.length + 1)].set 0 (.slice (some ⟨oe, 0, none⟩) ed.length ed.length)) 38 false))[o]? = some y := by
    intro o y ho hy
    rw [List.getElem?_set_ne (fun e => ho e.symm)]; exact hy
  have lo := h.lo
  refine ⟨_, _, cell_of e1 0, hsl, _, hst, ⟨fun q hq => ?_, ⟨oe, zs, ?_, aw e8 e2, hz, e4, e8, e5, e9⟩, h.out, h.lo, ?_⟩, fun o y hf hy => aw (fun e => h.out (e ▸ hf)) hy, by simp⟩
  · obtain ⟨q1, q2, q3⟩ := h.fix q hq
    exact ⟨aw q3 q1, q2, q3⟩
  · rw [List.getElem?_set_self (at_lt e1)]; rfl
  · exact prefix_of fun o y hy => aw (by have := at_lt hy; omega) (pre_at h.pre hy)
end
/-- the objects of a list of lists -/
def Obs (o : Nat) (us : List Value) (ls : List (List Int)) (j : Nat) : Prop := j = o ∨ ∃ i, i < ls.length ∧ us.getD i undef ≠ .slice none 0 0 ∧ j = rowO (us.getD i undef)
theorem InU.refit2 {lo hi : Nat} {e2 e : TypeId} {H H' : AH} {o : Nat} {us : List Value} {ls : List (List Int)} (h : InU lo hi e2 e H o us ls) (hk : ∀ j y, Obs o us ls j → H[j]? = some y → H'[j]? = some y) : InU lo H'.length e2 e H' o us ls := by
  obtain ⟨h1, h2, h3, h4, h5, h6⟩ := h
  have k3 := hk _ _ (.inl rfl) h3
  refine ⟨h1, at_lt k3, k3, h4, fun i hi => ⟨?_, (h5 i hi).2⟩, h6⟩
  rcases (h5 i hi).1 with g | ⟨oo, zs, g1, g2, g3, g4, g5⟩
  · exact .inl g
  · have := hk oo _ (.inr ⟨i, hi, (by rw [g1]; intro e; cases e), (by rw [g1]; rfl)⟩) g4
    exact .inr ⟨oo, zs, g1, g2, at_lt this, this, g5⟩
theorem InU.obs {lo hi : Nat} {e2 e : TypeId} {H : AH} {o : Nat} {us : List Value} {ls : List (List Int)} (h : InU lo hi e2 e H o us ls) {j : Nat} (hj : Obs o us ls j) : lo ≤ j ∧ j < hi := by
  obtain ⟨h1, h2, h3, h4, h5, h6⟩ := h
  rcases hj with rfl | ⟨i, hi, hn, rfl⟩
  · exact ⟨h1, h2⟩
  · rcases (h5 i hi).1.at_ with g | g
    · exact absurd g hn
    · exact g
theorem getD_snoc {us : List Value} {n i : Nat} {c : Value} (hn : n ≤ us.length) : (us.take n ++ [c]).getD i undef = if i < n then us.getD i undef else if i = n then c else undef := by
  rw [List.getD_eq_getElem?_getD, List.getElem?_append]
  have hl : (us.take n).length = n := by simp; omega
  rw [hl]
  split
  · rw [List.getElem?_take, if_pos (by assumption), List.getD_eq_getElem?_getD]
  · split
    · rename_i h; subst h; simp
    · rw [List.getElem?_eq_none (by simp; omega)]; rfl
/-- the lists found so far, in the variable po -/
def IOut (HB : AH) (po : Nat) (out : List (List Int)) (F : Nat → Prop) (H : AH) : Prop :=
  ∃ o us, H[po]? = some (.cells [.slice (some ⟨o, 0, none⟩) out.length out.length] 26 false) ∧ InU HB.length H.length 38 3 H o us out ∧ HB.length ≤ po ∧ ¬ Obs o us out po ∧ F = fun j => j = po ∨ Obs o us out j
theorem IOut.live {HB H : AH} {po : Nat} {out : List (List Int)} {F : Nat → Prop} (h : IOut HB po out F H) {o : Nat} (ho : F o) : o < H.length ∧ HB.length ≤ o := by
  obtain ⟨oo, us, h1, h2, h3, h4, rfl⟩ := h
  have ho' : o = po ∨ Obs oo us out o := ho
  rcases ho' with rfl | hj
  · exact ⟨at_lt h1, h3⟩
  · have := h2.obs hj
    exact ⟨this.2, this.1⟩
theorem IOut.keep {HB H H' : AH} {po : Nat} {out : List (List Int)} {F : Nat → Prop} (h : IOut HB po out F H) (hk : ∀ o y, F o → H[o]? = some y → H'[o]? = some y) : IOut HB po out F H' := by
  obtain ⟨oo, us, h1, h2, h3, h4, rfl⟩ := h
  exact ⟨oo, us, hk _ _ (.inl rfl) h1, h2.refit2 fun j y hj hy => hk _ _ (.inr hj) hy, h3, h4, rfl⟩
/-- one more list, a copy -/
theorem IOut.push {HB H C : AH} {po : Nat} {out : List (List Int)} {F : Nat → Prop} (h : IOut HB po out F H) (hp : HB <+: H) {c : Value} {xs : List Int} (pC : H <+: C) (hc : Own 3 H C c xs) (hb : out.length ≤ 1000000000) :
    ∃ w H3 H4, cellA H po 0 = some (.slice (some w) out.length out.length) ∧ cellA C po 0 = some (.slice (some w) out.length out.length) ∧ buildSliceA Tryz.prog 26 1 [(0, c)] C = some (.slice (some ⟨C.length, 0, none⟩) 1 1, C ++ [.cells [c] 38 false]) ∧
      appendA Tryz.prog 26 26 (.slice (some w) out.length out.length) (.slice (some ⟨C.length, 0, none⟩) 1 1) (C ++ [.cells [c] 38 false]) = some (.slice (some ⟨C.length + 1, 0, none⟩) (out.length + 1) (out.length + 1), H3) ∧
      storeA Tryz.prog 26 (.pointer (some ⟨po, 0, none⟩)) (.slice (some ⟨C.length + 1, 0, none⟩) (out.length + 1) (out.length + 1)) H3 = some H4 ∧
      ∃ F', IOut HB po (out ++ [xs]) F' H4 ∧ (∀ o, F' o → F o ∨ H.length ≤ o) ∧ ∀ o y, ¬ F o → H[o]? = some y → H4[o]? = some y := by
  obtain ⟨o, us, h2, h3, h4, h7, rfl⟩ := h
  have c2 := pre_at pC h2
  have hinw := InI.of hc.mine
  obtain ⟨H3, k1, k2, k3, k4⟩ := (h3.pre pC).app1 (P := Tryz.prog) (t2 := 26) Tryz.underlying26 cs38 (by rw [by38]; decide) zk38 hinw hp.length_le pC.length_le (Nat.le_refl _) (by omega)
  have hbs : buildSliceA Tryz.prog 26 1 [(0, c)] C = some (.slice (some ⟨C.length, 0, none⟩) 1 1, C ++ [.cells [c] 38 false]) := by
    obtain ⟨q, eq⟩ := hc.row.shape
    rw [eq]
    exact bs1 Tryz.underlying26 cs38 ze38 ⟨by kernel_rfl, by kernel_rfl⟩ C rfl
  have lC := pC.length_le
  have l2 := at_lt h2
  have d2 := k4 po _ (fun e => h7 (.inl e)) c2
  have hst := st_at (P := Tryz.prog) (t := 26) (i := 0) (y := .slice (some ⟨C.length + 1, 0, none⟩) (out.length + 1) (out.length + 1)) cs26 d2 (by show 0 < 1; decide) rfl rfl
  have e2 : (H3.set po (.cells ([Value.slice (some ⟨o, 0, none⟩) out.length out.length].set 0 (.slice (some ⟨C.length + 1, 0, none⟩) (out.length + 1) (out.length + 1))) 26 false))[po]? = some (.cells [.slice (some ⟨C.length + 1, 0, none⟩) (out.length + 1) (out.length + 1)] 26 false) := by
    rw [List.getElem?_set_self (by omega)]; rfl
  have hal : (out ++ [xs]).length = out.length + 1 := by simp
  have hcO : c = .slice none 0 0 ∨ H.length ≤ rowO c := by
    rcases hc with ⟨q, _⟩ | ⟨oc, q, hoc, _⟩
    · exact .inl q
    · exact .inr (by rw [q]; exact hoc)
  have hul := h3.2.2.2.1
  have aw2 : Away po (C.length + 1) (us.take out.length ++ [c]) (out ++ [xs]) := by
    refine ⟨by omega, fun i hi => ?_⟩
    rw [hal] at hi
    rw [getD_snoc hul]
    split
    · rename_i hi2
      by_cases hn : us.getD i undef = .slice none 0 0
      · exact .inl hn
      · exact .inr fun e => h7 (.inr ⟨i, hi2, hn, e.symm⟩)
    · rw [if_pos (by omega)]
      exact hcO.imp id fun q => by omega
  have k2' := (k2.wide (Nat.le_refl _) (Nat.le_of_eq k3.symm) : InU HB.length H3.length 38 3 H3 _ _ _)
  refine ⟨_, H3, _, cell_of h2 0, cell_of c2 0, hbs, k1, hst, fun j => j = po ∨ Obs (C.length + 1) (us.take out.length ++ [c]) (out ++ [xs]) j, ⟨C.length + 1, us.take out.length ++ [c], by rw [hal]; exact e2, ?_, h4, ?_, rfl⟩, ?_, ?_⟩
  · have := k2'.moveq aw2 (H' := H3.set po (.cells ([Value.slice (some ⟨o, 0, none⟩) out.length out.length].set 0 (.slice (some ⟨C.length + 1, 0, none⟩) (out.length + 1) (out.length + 1))) 26 false)) (fun j y hj hy => by rw [List.getElem?_set_ne (fun e => hj e.symm)]; exact hy)
    simpa using this
  · rintro (e | ⟨i, hi, hn, e⟩)
    · omega
    · rcases aw2.2 i hi with q | q
      · exact hn q
      · exact q e.symm
  · rintro j (e | e | ⟨i, hi, hn, e⟩)
    · exact .inl (.inl e)
    · exact .inr (by omega)
    · rw [getD_snoc hul] at hn e
      rw [hal] at hi
      by_cases hi2 : i < out.length
      · rw [if_pos hi2] at hn e
        exact .inl (.inr (.inr ⟨i, hi2, hn, e⟩))
      · rw [if_neg hi2, if_pos (by omega)] at hn e
        rcases hcO with q | q
        · exact absurd q hn
        · exact .inr (by omega)
  · intro j y hj hy
    rw [List.getElem?_set_ne (fun e => hj (.inl e.symm))]
    exact k4 j y (fun e => hj (.inr (.inl e))) (pre_at pC hy)
end Go.Proofs.YtlfongfhbkefmaaGreat.Ai
namespace Go.Proofs.YtlfongfhbkefmaaGreat.Ai
open Go
def ords140 : List (Nat × List (Nat × Bool)) := []
def cd140 : Cd := (.seq (.reg [⟨⟨some 4, Op.assign (Operand.const (Value.slice none 0 0)), none⟩, []⟩]) (.seq (.reg [⟨⟨some 8, Op.buildSlice 38 0 #[], none⟩, []⟩,
  ⟨⟨some 5, Op.assign (Operand.tmp 8), none⟩, []⟩]) (.seq (.seq (.reg [⟨⟨some 9, Op.move (Operand.tmp 0), none⟩, []⟩,
  ⟨⟨some 10, Op.call { callee := (Callee.builtin Builtin.len), args := #[(Operand.tmp 9)], argTypes := #[38] }, none⟩, []⟩,
  ⟨⟨some 11, Op.move (Operand.const (Value.int IntKind.i64 0)), none⟩, []⟩]) (.block 0 (.loop (.seq (.reg [⟨⟨some 12, Op.binOp BinOp.lss 3 (Operand.tmp 11) (Operand.tmp 10) 3, none⟩, []⟩]) (.seq (.cond (Operand.tmp 12) .skip (.exit 0)) (.seq (.block 1 (.seq (.reg [⟨⟨some 13, Op.move (Operand.tmp 11), none⟩, []⟩,
  ⟨⟨some 14, Op.indexAddr 38 (Operand.tmp 9) (Operand.tmp 11), none⟩, []⟩,
  ⟨⟨some 15, Op.load 3 (Operand.tmp 14), none⟩, []⟩,
  ⟨⟨some 6, Op.assign (Operand.tmp 13), none⟩, []⟩,
  ⟨⟨some 7, Op.assign (Operand.tmp 15), none⟩, []⟩]) (.seq (.reg [⟨⟨some 16, Op.move (Operand.tmp 1), none⟩, []⟩,
  ⟨⟨some 17, Op.move (Operand.tmp 6), none⟩, []⟩,
  ⟨⟨some 18, Op.indexAddr 38 (Operand.tmp 16) (Operand.tmp 17), none⟩, []⟩,
  ⟨⟨some 19, Op.load 3 (Operand.tmp 18), none⟩, []⟩,
  ⟨⟨some 20, Op.move (Operand.tmp 7), none⟩, []⟩,
  ⟨⟨some 21, Op.binOp BinOp.neq 3 (Operand.tmp 19) (Operand.tmp 20) 3, none⟩, []⟩]) (.cond (Operand.tmp 21) (.reg [⟨⟨some 22, Op.move (Operand.tmp 5), none⟩, []⟩,
  ⟨⟨some 23, Op.move (Operand.tmp 6), none⟩, []⟩,
  ⟨⟨some 24, Op.buildSlice 38 1 #[(0, (Operand.tmp 23))], none⟩, []⟩,
  ⟨⟨some 25, Op.call { callee := (Callee.builtin Builtin.append), args := #[(Operand.tmp 22), (Operand.tmp 24)], argTypes := #[38, 38] }, none⟩, []⟩,
  ⟨⟨some 5, Op.assign (Operand.tmp 25), none⟩, []⟩]) .skip)))) (.reg [⟨⟨some 26, Op.binOp BinOp.add 3 (Operand.tmp 11) (Operand.const (Value.int IntKind.i64 1)) 3, none⟩, []⟩,
  ⟨⟨some 11, Op.move (Operand.tmp 26), none⟩, []⟩]))))))) (.seq (.reg [⟨⟨some 27, Op.move (Operand.tmp 5), none⟩, []⟩,
  ⟨⟨some 4, Op.assign (Operand.tmp 27), none⟩, []⟩]) .ret))))
theorem sl140 : slim Tryz.f140.ntmps ords140 (Tryz.f140.body.getD .skip) = some cd140 := by kernel_rfl
theorem in140 {args : List Value} {H : AH} {R : Value → AH → Prop} (hl : args.length = 2) (h : ∀ (Q : Exit → Sl → AH → Prop), (∀ e s H, endA Tryz.prog [ResultVar.tmp 4] R e s H → Q e s H) → wpC Tryz.prog cd140 Q (enterA args) H) : ACalls Tryz.prog 140 args H R :=
  ACalls.intro (by kernel_rfl) Tryz.func140 rfl (by kernel_rfl) sl140 hl (of_decide_eq_true (by kernel_rfl)) (by kernel_rfl) h
def ords102 : List (Nat × List (Nat × Bool)) := [(5, [(0, false), (1, false), (2, false), (3, false), (4, false), (5, false), (6, false), (7, false), (8, false)])]
def cd102 : Cd := (.seq (.reg [⟨⟨some 4, Op.assign (Operand.const (Value.slice none 0 0)), none⟩, []⟩]) (.seq (.reg [⟨⟨some 7, Op.buildSlice 38 0 #[], none⟩, []⟩,
  ⟨⟨some 5, Op.assign (Operand.tmp 7), none⟩, []⟩]) (.seq (.seq (.reg [⟨⟨some 6, Op.assign (Operand.const (Value.int IntKind.i64 0)), none⟩, []⟩]) (.block 0 (.loop (.seq (.seq (.reg [⟨⟨some 8, Op.move (Operand.tmp 6), none⟩, []⟩,
  ⟨⟨some 9, Op.move (Operand.tmp 0), none⟩, []⟩,
  ⟨⟨some 10, Op.call { callee := (Callee.builtin Builtin.len), args := #[(Operand.tmp 9)], argTypes := #[38] }, none⟩, []⟩,
  ⟨⟨some 11, Op.binOp BinOp.lss 3 (Operand.tmp 8) (Operand.tmp 10) 3, none⟩, []⟩]) (.cond (Operand.tmp 11) .skip (.exit 0))) (.seq (.block 1 (.seq (.reg [⟨⟨some 14, Op.move (Operand.tmp 0), none⟩, []⟩,
  ⟨⟨some 15, Op.move (Operand.tmp 6), none⟩, []⟩,
  ⟨⟨some 16, Op.indexAddr 38 (Operand.tmp 14) (Operand.tmp 15), none⟩, []⟩,
  ⟨⟨some 17, Op.load 3 (Operand.tmp 16), none⟩, []⟩,
  ⟨⟨some 18, Op.move (Operand.tmp 1), none⟩, []⟩,
  ⟨⟨some 19, Op.move (Operand.tmp 6), none⟩, []⟩,
  ⟨⟨some 20, Op.indexAddr 38 (Operand.tmp 18) (Operand.tmp 19), none⟩, []⟩,
  ⟨⟨some 21, Op.load 3 (Operand.tmp 20), none⟩, []⟩,
  ⟨⟨some 22, Op.binOp BinOp.neq 3 (Operand.tmp 17) (Operand.tmp 21) 3, none⟩, []⟩]) (.cond (Operand.tmp 22) (.reg [⟨⟨some 23, Op.move (Operand.tmp 5), none⟩, []⟩,
  ⟨⟨some 24, Op.move (Operand.tmp 6), none⟩, []⟩,
  ⟨⟨some 25, Op.buildSlice 38 1 #[(0, (Operand.tmp 24))], none⟩, []⟩,
  ⟨⟨some 26, Op.call { callee := (Callee.builtin Builtin.append), args := #[(Operand.tmp 23), (Operand.tmp 25)], argTypes := #[38, 38] }, none⟩, []⟩,
  ⟨⟨some 5, Op.assign (Operand.tmp 26), none⟩, []⟩]) .skip))) (.reg [⟨⟨some 12, Op.move (Operand.tmp 6), none⟩, []⟩,
  ⟨⟨some 13, Op.binOp BinOp.add 3 (Operand.tmp 12) (Operand.const (Value.int IntKind.i64 1)) 3, none⟩, []⟩,
  ⟨⟨some 6, Op.assign (Operand.tmp 13), none⟩, []⟩])))))) (.seq (.reg [⟨⟨some 27, Op.move (Operand.tmp 5), none⟩, []⟩,
  ⟨⟨some 4, Op.assign (Operand.tmp 27), none⟩, []⟩]) .ret))))
theorem sl102 : slim Tryz.f102.ntmps ords102 (Tryz.f102.body.getD .skip) = some cd102 := by kernel_rfl
theorem in102 {args : List Value} {H : AH} {R : Value → AH → Prop} (hl : args.length = 2) (h : ∀ (Q : Exit → Sl → AH → Prop), (∀ e s H, endA Tryz.prog [ResultVar.tmp 4] R e s H → Q e s H) → wpC Tryz.prog cd102 Q (enterA args) H) : ACalls Tryz.prog 102 args H R :=
  ACalls.intro (by kernel_rfl) Tryz.func102 rfl (by kernel_rfl) sl102 hl (of_decide_eq_true (by kernel_rfl)) (by kernel_rfl) h
end Go.Proofs.YtlfongfhbkefmaaGreat.Ai
namespace Go.Proofs.YtlfongfhbkefmaaGreat.Ai
open Go Go.RowKit
set_option linter.unusedVariables false
set_option linter.unusedSimpArgs false
set_option maxRecDepth 20000 in
set_option maxHeartbeats 2000000 in
theorem places_c (v w : Value) (xs ys : List Int) (H : AH) (hr : Row 3 H v xs) (hs : Row 3 H w ys) (hlen : xs.length ≤ 1048576) (hl : ys.length = xs.length) :
    ACalls Tryz.prog 140 [v, w] H fun r H' => Own 3 H H' r (dfL xs ys) ∧ H <+: H' := by
  refine in140 rfl ?_
  intro Q hQ
  simp (maxSteps := 1000000) (disch := omega) only [cd140, S, S1, S2, S3, S4, S5, ST, eq_self, reduceIte, reduceCtorEq, Nat.reduceEqDiff, Nat.reduceAdd]
  generalize hA : H ++ [AObj.cells [] 3 false] = A
  have pA : H <+: A := by rw [← hA]; exact List.prefix_append _ _
  have cA : A[H.length]? = some (.cells (ints []) 3 false) := by rw [← hA]; exact at_new ..
  have own0 : Own 3 H A (.slice (some ⟨H.length, 0, none⟩) 0 0) (dfF xs ys 0) := .inr ⟨H.length, rfl, Nat.le_refl _, cA⟩
  simp (maxSteps := 1000000) (disch := omega) only [(hr.pre pA).len Tryz.underlying38, S, S1, S2, S3, S4, S5, ST, eq_self, reduceIte, reduceCtorEq, Nat.reduceEqDiff, Nat.reduceAdd]
  refine LoopH.by (fun m s H' => ∃ (i : Nat), m + i = xs.length ∧ s 0 = v ∧ s 1 = w ∧ s 9 = v ∧ s 10 = .int .i64 (xs.length : Int) ∧ s 11 = .int .i64 ((i : Nat) : Int) ∧ Own 3 H H' (s 5) (dfF xs ys i) ∧ H <+: H') xs.length ?_ ?_
  · refine ⟨0, ?_⟩
    simp (maxSteps := 1000000) (disch := omega) only [S, S1, S2, S3, S4, S5, ST, eq_self, reduceIte, reduceCtorEq, Nat.reduceEqDiff, Nat.reduceAdd]
    (repeat' first | exact own0 | exact pA | apply And.intro) <;> first | (simp only [Value.int.injEq, true_and]; omega) | omega | rfl | assumption | (simp; done) | (simp; omega)
  rintro m s H' ⟨i, hm, k0, k1, k9, k10, k11, ho, hp⟩
  generalize hU : s 5 = U at *
  simp (maxSteps := 1000000) (disch := omega) only [k0, k1, k9, k10, k11, hU, S, S1, S2, S3, S4, S5, ST, eq_self, reduceIte, reduceCtorEq, Nat.reduceEqDiff, Nat.reduceAdd]
  refine brD.intro (fun q => ?_) (fun q => ?_)
  · have hi : i < xs.length := by omega
    have hx := (hr.pre hp).cell hi
    have hy := (hs.pre hp).cell (show i < ys.length by omega)
    simp (maxSteps := 1000000) (disch := omega) only [k0, k1, k9, k10, k11, hU, (hr.pre hp).ix Tryz.underlying38 cs3, (hs.pre hp).ix Tryz.underlying38 cs3, Int.toNat_natCast, hx, hy, S, S1, S2, S3, S4, S5, ST, eq_self, reduceIte, reduceCtorEq, Nat.reduceEqDiff, Nat.reduceAdd]
    refine brD.intro (fun e => ?_) (fun e => ?_)
    · have hd : dfF xs ys (i + 1) = dfF xs ys i ++ [(i : Int)] := by rw [dfF, if_pos (by omega)]
      obtain ⟨U', H2, j1, j2, j3, j4, j5, j6⟩ := own1_38 ho hp (by have := dfF_len xs ys i; omega) (i : Int)
      rw [← hd] at j2
      simp (maxSteps := 1000000) (disch := omega) only [e, k0, k1, k9, k10, k11, hU, j1, wrap64, S, S1, S2, S3, S4, S5, ST, eq_self, reduceIte, reduceCtorEq, Nat.reduceEqDiff, Nat.reduceAdd]
      refine ⟨m - 1, by omega, i + 1, ?_⟩
      (repeat' first | exact j2 | exact j3 | apply And.intro) <;> first | (simp only [Value.int.injEq, true_and]; omega) | omega | rfl | assumption | (simp; done) | (simp; omega)
    · have hd : dfF xs ys (i + 1) = dfF xs ys i := by rw [dfF, if_neg (by omega), List.append_nil]
      rw [← hd] at ho
      simp (maxSteps := 1000000) (disch := omega) only [e, k0, k1, k9, k10, k11, hU, wrap64, S, S1, S2, S3, S4, S5, ST, eq_self, reduceIte, reduceCtorEq, Nat.reduceEqDiff, Nat.reduceAdd]
      refine ⟨m - 1, by omega, i + 1, ?_⟩
      (repeat' first | exact ho | exact hp | apply And.intro) <;> first | (simp only [Value.int.injEq, true_and]; omega) | omega | rfl | assumption | (simp; done) | (simp; omega)
  · simp (maxSteps := 1000000) (disch := omega) only [hU, S, S1, S2, S3, S4, S5, ST, eq_self, reduceIte, reduceCtorEq, Nat.reduceEqDiff, Nat.reduceAdd]
    refine hQ _ _ _ ?_
    simp (maxSteps := 1000000) (disch := omega) only [hU, ho.row.tup, S, S1, S2, S3, S4, S5, ST, eq_self, reduceIte, reduceCtorEq, Nat.reduceEqDiff, Nat.reduceAdd]
    have hi : i = xs.length := by omega
    subst hi
    exact ⟨ho, hp⟩
set_option maxRecDepth 20000 in
set_option maxHeartbeats 2000000 in
theorem l5Changed_c (v w : Value) (xs ys : List Int) (H : AH) (hr : Row 3 H v xs) (hs : Row 3 H w ys) (hlen : xs.length ≤ 1048576) (hl : ys.length = xs.length) :
    ACalls Tryz.prog 102 [v, w] H fun r H' => Own 3 H H' r (dfL xs ys) ∧ H <+: H' := by
  refine in102 rfl ?_
  intro Q hQ
  simp (maxSteps := 1000000) (disch := omega) only [cd102, S, S1, S2, S3, S4, S5, ST, eq_self, reduceIte, reduceCtorEq, Nat.reduceEqDiff, Nat.reduceAdd]
  generalize hA : H ++ [AObj.cells [] 3 false] = A
  have pA : H <+: A := by rw [← hA]; exact List.prefix_append _ _
  have cA : A[H.length]? = some (.cells (ints []) 3 false) := by rw [← hA]; exact at_new ..
  have own0 : Own 3 H A (.slice (some ⟨H.length, 0, none⟩) 0 0) (dfF xs ys 0) := .inr ⟨H.length, rfl, Nat.le_refl _, cA⟩
  refine LoopH.by (fun m s H' => ∃ (i : Nat), m + i = xs.length ∧ s 0 = v ∧ s 1 = w ∧ s 6 = .int .i64 ((i : Nat) : Int) ∧ Own 3 H H' (s 5) (dfF xs ys i) ∧ H <+: H') xs.length ?_ ?_
  · refine ⟨0, ?_⟩
    simp (maxSteps := 1000000) (disch := omega) only [S, S1, S2, S3, S4, S5, ST, eq_self, reduceIte, reduceCtorEq, Nat.reduceEqDiff, Nat.reduceAdd]
    (repeat' first | exact own0 | exact pA | apply And.intro) <;> first | (simp only [Value.int.injEq, true_and]; omega) | omega | rfl | assumption | (simp; done) | (simp; omega)
  rintro m s H' ⟨i, hm, k0, k1, k6, ho, hp⟩
  generalize hU : s 5 = U at *
  simp (maxSteps := 1000000) (disch := omega) only [k0, k1, k6, hU, (hr.pre hp).len Tryz.underlying38, S, S1, S2, S3, S4, S5, ST, eq_self, reduceIte, reduceCtorEq, Nat.reduceEqDiff, Nat.reduceAdd]
  refine brD.intro (fun q => ?_) (fun q => ?_)
  · have hi : i < xs.length := by omega
    have hx := (hr.pre hp).cell hi
    have hy := (hs.pre hp).cell (show i < ys.length by omega)
    simp (maxSteps := 1000000) (disch := omega) only [k0, k1, k6, hU, (hr.pre hp).ix Tryz.underlying38 cs3, (hs.pre hp).ix Tryz.underlying38 cs3, Int.toNat_natCast, hx, hy, S, S1, S2, S3, S4, S5, ST, eq_self, reduceIte, reduceCtorEq, Nat.reduceEqDiff, Nat.reduceAdd]
    refine brD.intro (fun e => ?_) (fun e => ?_)
    · have hd : dfF xs ys (i + 1) = dfF xs ys i ++ [(i : Int)] := by rw [dfF, if_pos (by omega)]
      obtain ⟨U', H2, j1, j2, j3, j4, j5, j6⟩ := own1_38 ho hp (by have := dfF_len xs ys i; omega) (i : Int)
      rw [← hd] at j2
      simp (maxSteps := 1000000) (disch := omega) only [e, k0, k1, k6, hU, j1, wrap64, S, S1, S2, S3, S4, S5, ST, eq_self, reduceIte, reduceCtorEq, Nat.reduceEqDiff, Nat.reduceAdd]
      refine ⟨m - 1, by omega, i + 1, ?_⟩
      (repeat' first | exact j2 | exact j3 | apply And.intro) <;> first | (simp only [Value.int.injEq, true_and]; omega) | omega | rfl | assumption | (simp; done) | (simp; omega)
    · have hd : dfF xs ys (i + 1) = dfF xs ys i := by rw [dfF, if_neg (by omega), List.append_nil]
      rw [← hd] at ho
      simp (maxSteps := 1000000) (disch := omega) only [e, k0, k1, k6, hU, wrap64, S, S1, S2, S3, S4, S5, ST, eq_self, reduceIte, reduceCtorEq, Nat.reduceEqDiff, Nat.reduceAdd]
      refine ⟨m - 1, by omega, i + 1, ?_⟩
      (repeat' first | exact ho | exact hp | apply And.intro) <;> first | (simp only [Value.int.injEq, true_and]; omega) | omega | rfl | assumption | (simp; done) | (simp; omega)
  · simp (maxSteps := 1000000) (disch := omega) only [hU, S, S1, S2, S3, S4, S5, ST, eq_self, reduceIte, reduceCtorEq, Nat.reduceEqDiff, Nat.reduceAdd]
    refine hQ _ _ _ ?_
    simp (maxSteps := 1000000) (disch := omega) only [hU, ho.row.tup, S, S1, S2, S3, S4, S5, ST, eq_self, reduceIte, reduceCtorEq, Nat.reduceEqDiff, Nat.reduceAdd]
    have hi : i = xs.length := by omega
    subst hi
    exact ⟨ho, hp⟩
end Go.Proofs.YtlfongfhbkefmaaGreat.Ai
namespace Go.Proofs.YtlfongfhbkefmaaGreat.Ai
open Go
def ords41 : List (Nat × List (Nat × Bool)) := []
def cd41 : Cd := (.seq (.reg [⟨⟨some 4, Op.alloc 28, none⟩, []⟩]) (.seq (.reg [⟨⟨some 10, Op.move (Operand.tmp 0), none⟩, []⟩,
  ⟨⟨some 11, Op.build 28 #[(0, (Operand.tmp 10))], none⟩, []⟩,
  ⟨⟨some 5, Op.alloc 28, none⟩, []⟩,
  ⟨⟨none, Op.store 28 (Operand.tmp 5) (Operand.tmp 11), none⟩, []⟩]) (.seq (.reg [⟨⟨some 12, Op.fieldAddr 28 (Operand.tmp 5) 0, none⟩, []⟩,
  ⟨⟨some 13, Op.load 26 (Operand.tmp 12), none⟩, []⟩,
  ⟨⟨some 14, Op.call { callee := (Callee.value (Operand.func 90)), args := #[(Operand.tmp 13), (Operand.func 91)], argTypes := #[26, 105] }, none⟩, []⟩]) (.seq (.seq (.reg [⟨⟨some 15, Op.fieldAddr 28 (Operand.tmp 5) 0, none⟩, []⟩,
  ⟨⟨some 16, Op.load 26 (Operand.tmp 15), none⟩, []⟩,
  ⟨⟨some 17, Op.call { callee := (Callee.builtin Builtin.len), args := #[(Operand.tmp 16)], argTypes := #[26] }, none⟩, []⟩,
  ⟨⟨some 18, Op.move (Operand.const (Value.int IntKind.i64 0)), none⟩, []⟩]) (.block 0 (.loop (.seq (.reg [⟨⟨some 19, Op.binOp BinOp.lss 3 (Operand.tmp 18) (Operand.tmp 17) 3, none⟩, []⟩]) (.seq (.cond (Operand.tmp 19) .skip (.exit 0)) (.seq (.block 1 (.seq (.reg [⟨⟨some 20, Op.move (Operand.tmp 18), none⟩, []⟩,
  ⟨⟨some 21, Op.indexAddr 26 (Operand.tmp 16) (Operand.tmp 18), none⟩, []⟩,
  ⟨⟨some 22, Op.load 38 (Operand.tmp 21), none⟩, []⟩,
  ⟨⟨some 6, Op.assign (Operand.tmp 20), none⟩, []⟩,
  ⟨⟨some 7, Op.assign (Operand.tmp 22), none⟩, []⟩]) (.seq (.reg [⟨⟨some 23, Op.fieldAddr 28 (Operand.tmp 5) 0, none⟩, []⟩,
  ⟨⟨some 24, Op.load 26 (Operand.tmp 23), none⟩, []⟩,
  ⟨⟨some 25, Op.move (Operand.tmp 6), none⟩, []⟩,
  ⟨⟨some 26, Op.binOp BinOp.add 3 (Operand.tmp 25) (Operand.const (Value.int IntKind.i64 1)) 3, none⟩, []⟩,
  ⟨⟨some 27, Op.slice 26 (Operand.tmp 24) (some (Operand.tmp 26)) none none, none⟩, []⟩,
  ⟨⟨some 28, Op.call { callee := (Callee.builtin Builtin.len), args := #[(Operand.tmp 27)], argTypes := #[26] }, none⟩, []⟩,
  ⟨⟨some 29, Op.move (Operand.const (Value.int IntKind.i64 0)), none⟩, []⟩]) (.block 2 (.loop (.seq (.reg [⟨⟨some 30, Op.binOp BinOp.lss 3 (Operand.tmp 29) (Operand.tmp 28) 3, none⟩, []⟩]) (.seq (.cond (Operand.tmp 30) .skip (.exit 2)) (.seq (.block 3 (.seq (.reg [⟨⟨some 31, Op.move (Operand.tmp 29), none⟩, []⟩,
  ⟨⟨some 32, Op.indexAddr 26 (Operand.tmp 27) (Operand.tmp 29), none⟩, []⟩,
  ⟨⟨some 33, Op.load 38 (Operand.tmp 32), none⟩, []⟩,
  ⟨⟨some 8, Op.assign (Operand.tmp 31), none⟩, []⟩,
  ⟨⟨some 9, Op.assign (Operand.tmp 33), none⟩, []⟩]) (.seq (.reg [⟨⟨some 34, Op.move (Operand.tmp 1), none⟩, []⟩,
  ⟨⟨some 35, Op.move (Operand.tmp 7), none⟩, []⟩,
  ⟨⟨some 36, Op.move (Operand.tmp 9), none⟩, []⟩,
  ⟨⟨some 37, Op.call { callee := (Callee.value (Operand.tmp 34)), args := #[(Operand.tmp 35), (Operand.tmp 36)], argTypes := #[38, 38] }, none⟩, []⟩]) (.cond (Operand.tmp 37) (.reg [⟨⟨some 38, Op.fieldAddr 28 (Operand.tmp 5) 1, none⟩, []⟩,
  ⟨⟨some 39, Op.load 22 (Operand.tmp 38), none⟩, []⟩,
  ⟨⟨some 40, Op.move (Operand.tmp 6), none⟩, []⟩,
  ⟨⟨some 41, Op.move (Operand.tmp 6), none⟩, []⟩,
  ⟨⟨some 42, Op.binOp BinOp.add 3 (Operand.tmp 41) (Operand.const (Value.int IntKind.i64 1)) 3, none⟩, []⟩,
  ⟨⟨some 43, Op.move (Operand.tmp 8), none⟩, []⟩,
  ⟨⟨some 44, Op.binOp BinOp.add 3 (Operand.tmp 42) (Operand.tmp 43) 3, none⟩, []⟩,
  ⟨⟨some 45, Op.build 83 #[(0, (Operand.tmp 40)), (1, (Operand.tmp 44))], none⟩, []⟩,
  ⟨⟨some 46, Op.buildSlice 22 1 #[(0, (Operand.tmp 45))], none⟩, []⟩,
  ⟨⟨some 47, Op.call { callee := (Callee.builtin Builtin.append), args := #[(Operand.tmp 39), (Operand.tmp 46)], argTypes := #[22, 22] }, none⟩, []⟩,
  ⟨⟨some 48, Op.fieldAddr 28 (Operand.tmp 5) 1, none⟩, []⟩,
  ⟨⟨none, Op.store 22 (Operand.tmp 48) (Operand.tmp 47), none⟩, []⟩]) .skip)))) (.reg [⟨⟨some 49, Op.binOp BinOp.add 3 (Operand.tmp 29) (Operand.const (Value.int IntKind.i64 1)) 3, none⟩, []⟩,
  ⟨⟨some 29, Op.move (Operand.tmp 49), none⟩, []⟩]))))))))) (.reg [⟨⟨some 50, Op.binOp BinOp.add 3 (Operand.tmp 18) (Operand.const (Value.int IntKind.i64 1)) 3, none⟩, []⟩,
  ⟨⟨some 18, Op.move (Operand.tmp 50), none⟩, []⟩]))))))) (.seq (.reg [⟨⟨some 51, Op.load 28 (Operand.tmp 5), none⟩, []⟩,
  ⟨⟨none, Op.store 28 (Operand.tmp 4) (Operand.tmp 51), none⟩, []⟩]) .ret)))))
theorem sl41 : slim Tryz.f41.ntmps ords41 (Tryz.f41.body.getD .skip) = some cd41 := by kernel_rfl
set_option maxRecDepth 20000 in
theorem in41 {args : List Value} {H : AH} {R : Value → AH → Prop} (hl : args.length = 2) (h : ∀ (Q : Exit → Sl → AH → Prop), (∀ e s H, endA Tryz.prog [ResultVar.cell 4 28] R e s H → Q e s H) → wpC Tryz.prog cd41 Q (enterA args) H) : ACalls Tryz.prog 41 args H R :=
  ACalls.intro (by kernel_rfl) Tryz.func41 rfl (by kernel_rfl) sl41 hl (of_decide_eq_true (by kernel_rfl)) (by kernel_rfl) h
end Go.Proofs.YtlfongfhbkefmaaGreat.Ai
namespace Go.Proofs.YtlfongfhbkefmaaGreat.Ai
open Go Go.RowKit
set_option linter.unusedVariables false
set_option linter.unusedSimpArgs false
theorem alloc_sp (H : AH) : allocA Tryz.prog 28 H = some (.pointer (some ⟨H.length, 0, none⟩), H ++ [.cells [.slice none 0 0, .slice none 0 0] 28 false]) := by kernel_rfl
theorem bld_sp1 (p : Option Addr) (n c : Nat) : buildA Tryz.prog 28 [(0, .slice p n c)] = some (.agg (List.toArray [.slice p n c, .slice none 0 0])) := by kernel_rfl
theorem bld_sp2 (p q : Option Addr) (n c m d : Nat) : buildA Tryz.prog 28 [(0, .slice p n c), (1, .slice q m d)] = some (.agg (List.toArray [.slice p n c, .slice q m d])) := by kernel_rfl
theorem bld_sp0 : buildA Tryz.prog 28 [] = some (.agg (List.toArray [.slice none 0 0, .slice none 0 0])) := by kernel_rfl
theorem st_ss {e : TypeId} {H : AH} {o : Nat} {vs : List Value} (ho : H[o]? = some (.cells vs e false)) (hv : vs.length = 2) (p q : Option Addr) (n c m d : Nat) :
    storeA Tryz.prog 28 (.pointer (some ⟨o, 0, none⟩)) (.agg (List.toArray [.slice p n c, .slice q m d])) H = some (H.set o (.cells [.slice p n c, .slice q m d] e false)) := by
  simp only [storeA, ho, cs28]
  have hcl : (Value.agg (List.toArray [.slice p n c, .slice q m d])).cells.toList = [.slice p n c, .slice q m d] := rfl
  rw [hcl, if_pos ⟨rfl, rfl, by decide, by rw [hv]; exact Nat.le_refl 2⟩]
  have : putAt vs 0 [.slice p n c, .slice q m d] = [.slice p n c, .slice q m d] := by
    unfold putAt
    rw [List.take_zero, List.nil_append, List.drop_of_length_le (by simp; omega), List.append_nil]
  rw [this]
/-- the end of a function with a variable and a value as results -/
theorem end_cell2 (P : Program) (a b : Nat) (t : TypeId) (R : Value → AH → Prop) (s : Sl) (H : AH) (v w : Value) (h : loadA P t (s a) H = some v) (ht : isTup v = false) (hb : s b = w) (hw : isTup w = false) (hr : R (.tuple (List.toArray [v, w])) H) : endA P [.cell a t, .tmp b] R .ret s H := by
  subst hb
  simp only [endA, resA, h, ht]
  simp [hw, outA]
  exact hr
/-- the steps between lists of which something is so -/
def stpI (p : List Int → List Int → Bool) (ls : List (List Int)) (i : Nat) : Nat → List (Int × Int)
  | 0 => []
  | k + 1 => stpI p ls i k ++ if p (ls.getD i []) (ls.getD (i + 1 + k) []) = true then [((i : Int), ((i + 1 + k : Nat) : Int))] else []
def stpO (p : List Int → List Int → Bool) (ls : List (List Int)) : Nat → List (Int × Int)
  | 0 => []
  | i + 1 => stpO p ls i ++ stpI p ls i (ls.length - (i + 1))
theorem stpI_len (p : List Int → List Int → Bool) (ls : List (List Int)) (i k : Nat) : (stpI p ls i k).length ≤ k := by
  induction k with
  | zero => simp [stpI]
  | succ k ih => simp only [stpI, List.length_append]; split <;> simp <;> omega
theorem stpO_len (p : List Int → List Int → Bool) (ls : List (List Int)) (i : Nat) : (stpO p ls i).length ≤ i * ls.length := by
  induction i with
  | zero => simp [stpO]
  | succ i ih =>
    have := stpI_len p ls i (ls.length - (i + 1))
    simp only [stpO, List.length_append, Nat.add_mul, Nat.one_mul]
    omega
abbrev steps (p : List Int → List Int → Bool) (ls : List (List Int)) : List (Int × Int) := stpO p ls ls.length
/-- is a step between two lists: a function of the program's -/
def StepFn (HB : AH) (fS : FuncId) (caps : List Value) (ls : List (List Int)) (p : List Int → List Int → Bool) : Prop :=
  ∀ (a b : Value) (x y : List Int) (H : AH), HB <+: H → Row 3 H a x → Row 3 H b y → x ∈ ls → y ∈ ls → ACalls Tryz.prog fS (a :: b :: caps) H fun r H' => r = .bool (p x y) ∧ H <+: H'
set_option maxRecDepth 20000 in
set_option maxHeartbeats 4000000 in
theorem spaceOf_c {HB H : AH} {v : Value} {us : List Value} {ls : List (List Int)} (h : Sts H v us ls) (hls : ls.length ≤ 1000) (fS : FuncId) (caps : List Value) (p : List Int → List Int → Bool) (hS : StepFn HB fS caps ls p) (hp : HB <+: H) :
    ACalls Tryz.prog 41 [v, .func (.func fS) #[] (List.toArray caps)] H fun r H' => ∃ st, r = .agg (List.toArray [v, st]) ∧ MineP 83 H H' st (steps p ls) ∧ H <+: H' := by
  refine in41 rfl ?_
  intro Q hQ
  have hul := h.len
  obtain ⟨pv, hpv⟩ := h.row.shape
  have hb1 := bld_sp1 pv us.length us.length
  rw [← hpv] at hb1
  simp (maxSteps := 1000000) (disch := omega) only [cd41, alloc_sp, hb1, S, S1, S2, S3, S4, S5, ST, eq_self, reduceIte, reduceCtorEq, Nat.reduceEqDiff, Nat.reduceAdd]
  generalize hA : H ++ [AObj.cells [.slice none 0 0, .slice none 0 0] 28 false] = A
  have pA : H <+: A := by rw [← hA]; exact List.prefix_append _ _
  have cA : A[H.length]? = some (.cells [.slice none 0 0, .slice none 0 0] 28 false) := by rw [← hA]; exact at_new ..
  have lA : A.length = H.length + 1 := by rw [← hA]; simp
  have st1 := st_ss (at_new A (.cells [.slice none 0 0, .slice none 0 0] 28 false)) rfl pv none us.length us.length 0 0
  rw [set_new, ← hpv] at st1
  simp (maxSteps := 1000000) (disch := omega) only [st1, cell_new, S, S1, S2, S3, S4, S5, ST, eq_self, reduceIte, reduceCtorEq, Nat.reduceEqDiff, Nat.reduceAdd]
  generalize hB : A ++ [AObj.cells [v, .slice none 0 0] 28 false] = B
  have pB : A <+: B := by rw [← hB]; exact List.prefix_append _ _
  have cB : B[A.length]? = some (.cells [v, .slice none 0 0] 28 false) := by rw [← hB]; exact at_new ..
  have lB : B.length = A.length + 1 := by rw [← hB]; simp
  have pHB := pA.trans pB
  refine CallH.by (SortFunc_c (h.pre pHB)) ?_
  rintro _ C pC
  have pHC := pHB.trans pC
  have lC := pC.length_le
  have cC := pre_at pC cB
  have cC0 := pre_at (pB.trans pC) cA
  simp (maxSteps := 1000000) (disch := omega) only [cell_of cC, h.row.len Tryz.underlying26, hul, S, S1, S2, S3, S4, S5, ST, eq_self, reduceIte, reduceCtorEq, Nat.reduceEqDiff, Nat.reduceAdd]
  refine LoopH.by (fun m s H' => ∃ i st, m + i = ls.length ∧ s 1 = .func (.func fS) #[] (List.toArray caps) ∧ s 4 = .pointer (some ⟨H.length, 0, none⟩) ∧ s 5 = .pointer (some ⟨A.length, 0, none⟩) ∧ s 16 = v ∧ s 17 = .int .i64 (ls.length : Int) ∧ s 18 = .int .i64 ((i : Nat) : Int) ∧ H'[A.length]? = some (.cells [v, st] 28 false) ∧ H'[H.length]? = some (.cells [.slice none 0 0, .slice none 0 0] 28 false) ∧ (st = .slice none 0 0 ∨ B.length ≤ rowO st) ∧ MineP 83 H H' st (stpO p ls i) ∧ H <+: H') ls.length ?_ ?_
  · exact ⟨0, .slice none 0 0, by simp, rfl, rfl, rfl, rfl, rfl, rfl, cC, cC0, .inl rfl, .inl ⟨rfl, rfl⟩, pHC⟩
  rintro m s H' ⟨i, st, hm, s1, s4, s5, s16, s17, s18, hc5, hc4, hst, hmn, hpp⟩
  simp (maxSteps := 1000000) (disch := omega) only [s1, s4, s5, s16, s17, s18, S, S1, S2, S3, S4, S5, ST, eq_self, reduceIte, reduceCtorEq, Nat.reduceEqDiff, Nat.reduceAdd]
  refine brD.intro (fun g => ?_) (fun g => ?_)
  rotate_left
  · have hi : i = ls.length := by omega
    subst hi
    have hst2 : isTup st = false := hmn.row.tup
    obtain ⟨q, hq⟩ := hmn.row.shape
    have hstA := st_ss hc4 rfl pv q us.length us.length (stpO p ls ls.length).length (stpO p ls ls.length).length
    rw [← hpv, ← hq] at hstA
    simp (maxSteps := 1000000) (disch := omega) only [s4, s5, ld_agg ag28 cs28 hc5, hstA, S, S1, S2, S3, S4, S5, ST, eq_self, reduceIte, reduceCtorEq, Nat.reduceEqDiff, Nat.reduceAdd]
    have d4 := at_set (d := .cells [v, st] 28 false) hc4
    refine hQ _ _ _ (end_cell _ _ _ _ _ _ (.agg (List.toArray [v, st])) ?_ rfl ⟨st, rfl, ?_, ?_⟩)
    · simp (maxSteps := 1000000) (disch := omega) only [s4, ld_agg ag28 cs28 d4, S, S1, S2, S3, S4, S5, ST, eq_self, reduceIte, reduceCtorEq, Nat.reduceEqDiff, Nat.reduceAdd]
    · rcases hst with e | e
      · rcases hmn with hm0 | ⟨o, zs, q1, _⟩
        · exact .inl hm0
        · rw [e] at q1; cases q1
      · refine hmn.keepL ?_
        intro hl y hy
        rw [List.getElem?_set_ne (by omega)]
        exact hy
    · exact pre_set hpp (Nat.le_refl _) _
  have hi : i < ls.length := by omega
  have hH' := h.pre hpp
  have hci := hH'.cell hi
  have hri := hH'.each i hi
  have hmi : ls.getD i [] ∈ ls := by simp [hi]
  have hsl := hH'.row.slice (P := Tryz.prog) (t := 26) Tryz.underlying26 cs38 (bound_some (k := .i64) (i := (i : Int) + 1) (by omega) 0) (hi_none us.length) (show ((i : Int) + 1).toNat ≤ us.length by omega) (Nat.le_refl _)
  have hi1 : ((i : Int) + 1).toNat = i + 1 := by omega
  rw [hi1] at hsl
  obtain ⟨hsl1, hsl2, hsl3⟩ := hsl
  have hdl : (us.drop (i + 1)).take (us.length - (i + 1)) = us.drop (i + 1) := by rw [List.take_of_length_le (by simp)]
  rw [hdl] at hsl2
  have hdn : ((us.drop (i + 1)).length : Int) = ((ls.length - (i + 1) : Nat) : Int) := by simp; omega
  simp (maxSteps := 1000000) (disch := omega) only [s1, s4, s5, s16, s17, s18, hH'.row.ix Tryz.underlying26 cs38, Int.toNat_natCast, hci, cell_of hc5, wrap64, hsl1, hsl2.len Tryz.underlying26, hdn, S, S1, S2, S3, S4, S5, ST, eq_self, reduceIte, reduceCtorEq, Nat.reduceEqDiff, Nat.reduceAdd]
  refine LoopH.by (fun m' s' H'' => ∃ j st', m' + j = ls.length - (i + 1) ∧ s' 1 = .func (.func fS) #[] (List.toArray caps) ∧ s' 4 = .pointer (some ⟨H.length, 0, none⟩) ∧ s' 5 = .pointer (some ⟨A.length, 0, none⟩) ∧ s' 6 = .int .i64 ((i : Nat) : Int) ∧ s' 7 = us.getD i undef ∧ s' 16 = v ∧ s' 17 = .int .i64 (ls.length : Int) ∧ s' 18 = .int .i64 ((i : Nat) : Int) ∧ s' 27 = subV v (i + 1) us.length ∧ s' 28 = .int .i64 ((ls.length - (i + 1) : Nat) : Int) ∧ s' 29 = .int .i64 ((j : Nat) : Int) ∧ H''[A.length]? = some (.cells [v, st'] 28 false) ∧ H''[H.length]? = some (.cells [.slice none 0 0, .slice none 0 0] 28 false) ∧ (st' = .slice none 0 0 ∨ B.length ≤ rowO st') ∧ MineP 83 H H'' st' (stpO p ls i ++ stpI p ls i j) ∧ H <+: H'') (ls.length - (i + 1)) ?_ ?_
  · refine ⟨0, st, by simp, ?_⟩
    simp only [S, S1, S2, S3, S4, S5, ST, eq_self, reduceIte, reduceCtorEq, Nat.reduceEqDiff, Nat.reduceAdd, s1, s4, s5, s16, s17, s18]
    have f0 : MineP 83 H H' st (stpO p ls i ++ stpI p ls i 0) := by rw [stpI, List.append_nil]; exact hmn
    (repeat' first | exact hc5 | exact hc4 | exact hst | exact f0 | exact hpp | apply And.intro) <;> first | (simp only [Value.int.injEq, true_and]; omega) | omega | rfl | assumption | (simp; done) | (simp; omega)
  · rintro m' s' H'' ⟨j, st', hm', g1, g4, g5, g6, g7, g16, g17, g18, g27, g28, g29, hc5', hc4', hst', hmn', hpp'⟩
    simp (maxSteps := 1000000) (disch := omega) only [g1, g4, g5, g6, g7, g16, g17, g18, g27, g28, g29, S, S1, S2, S3, S4, S5, ST, eq_self, reduceIte, reduceCtorEq, Nat.reduceEqDiff, Nat.reduceAdd]
    refine brD.intro (fun q => ?_) (fun q => ?_)
    · have hj : i + 1 + j < ls.length := by omega
      have hH2 := h.pre hpp'
      have hsl' := hH2.row.slice (P := Tryz.prog) (t := 26) Tryz.underlying26 cs38 (bound_some (k := .i64) (i := (i : Int) + 1) (by omega) 0) (hi_none us.length) (show ((i : Int) + 1).toNat ≤ us.length by omega) (Nat.le_refl _)
      rw [hi1, hdl] at hsl'
      obtain ⟨_, hsr, _⟩ := hsl'
      have hjd : j < (us.drop (i + 1)).length := by simp; omega
      have hcj := hsr.cell hjd
      have hdd : (us.drop (i + 1)).getD j undef = us.getD (i + 1 + j) undef := by
        rw [List.getD_eq_getElem?_getD, List.getD_eq_getElem?_getD, List.getElem?_drop]
      rw [hdd] at hcj
      have hmj : ls.getD (i + 1 + j) [] ∈ ls := by simp [hj]
      simp (maxSteps := 1000000) (disch := omega) only [g1, g4, g5, g6, g7, g16, g17, g18, g27, g28, g29, hsr.ix Tryz.underlying26 cs38, Int.toNat_natCast, hcj, S, S1, S2, S3, S4, S5, ST, eq_self, reduceIte, reduceCtorEq, Nat.reduceEqDiff, Nat.reduceAdd]
      refine CallH.by (hS _ _ _ _ H'' (hp.trans hpp') (hH2.each i hi) (hH2.each (i + 1 + j) hj) hmi hmj) ?_
      rintro _ D ⟨rfl, pD⟩
      have hcD5 := pre_at pD hc5'
      have hcD4 := pre_at pD hc4'
      have hpD := hpp'.trans pD
      have hmD := hmn'.pre pD
      have hsl1 := stpO_len p ls i
      have hsl2 := stpI_len p ls i j
      have hmul : i * ls.length ≤ 1000 * 1000 := Nat.mul_le_mul (by omega) hls
      have lD := hpD.length_le
      have l5 := at_lt hc5'
      simp (maxSteps := 1000000) (disch := omega) only [S, S1, S2, S3, S4, S5, ST, eq_self, reduceIte, reduceCtorEq, Nat.reduceEqDiff, Nat.reduceAdd]
      refine brH.intro (fun e => ?_) (fun e => ?_)
      · have hstep : stpI p ls i (j + 1) = stpI p ls i j ++ [((i : Int), ((i + 1 + j : Nat) : Int))] := by rw [stpI, if_pos e]
        obtain ⟨st2, H3, k1, k2, k3, k4, k5, k6⟩ := own1_22 hmD hpD (by rw [List.length_append]; omega) (i : Int) ((i + 1 + j : Nat) : Int)
        have hne : st' = .slice none 0 0 ∨ ∀ o, o < B.length → o ≠ rowO st' := hst'.imp id fun q o ho => by omega
        have d5 : H3[A.length]? = some (.cells [v, st'] 28 false) := k4 _ _ (hne.imp id fun q => q _ (by omega)) hcD5
        have d4 : H3[H.length]? = some (.cells [.slice none 0 0, .slice none 0 0] 28 false) := k4 _ _ (hne.imp id fun q => q _ (by omega)) hcD4
        obtain ⟨q2, hq2⟩ := k2.row.shape
        have t1 : isTup st2 = false := k6
        have t2 : st2.cells.toList = [st2] := by rw [hq2]; rfl
        have hst3 := st_at (P := Tryz.prog) (t := 22) (i := 1) (y := st2) cs22 d5 (by show 1 < 2; decide) t1 t2
        have hidx : (i : Int) + 1 + (j : Int) = ((i + 1 + j : Nat) : Int) := by omega
        have lDB : B.length ≤ D.length := by have := hpp'.length_le; have := pD.length_le; omega
        simp (maxSteps := 1000000) (disch := omega) only [e, g1, g4, g5, g6, g7, g16, g17, g18, g27, g28, g29, cell_of hcD5, build_a2, wrap64, hidx, k1, hst3, S, S1, S2, S3, S4, S5, ST, eq_self, reduceIte, reduceCtorEq, Nat.reduceEqDiff, Nat.reduceAdd]
        have f5 : (H3.set A.length (.cells ([v, st'].set 1 st2) 28 false))[A.length]? = some (.cells [v, st2] 28 false) := by
          rw [List.getElem?_set_self (at_lt d5)]; rfl
        have f4 : (H3.set A.length (.cells ([v, st'].set 1 st2) 28 false))[H.length]? = some (.cells [.slice none 0 0, .slice none 0 0] 28 false) := by
          rw [List.getElem?_set_ne (by omega)]; exact d4
        have fs' : st2 = .slice none 0 0 ∨ B.length ≤ rowO st2 := .inr (by omega)
        have fm : MineP 83 H (H3.set A.length (.cells ([v, st'].set 1 st2) 28 false)) st2 (stpO p ls i ++ stpI p ls i (j + 1)) := by
          rw [hstep, ← List.append_assoc]
          exact k2.keepL fun hl y hy => by rw [List.getElem?_set_ne (by omega)]; exact hy
        have fp : H <+: H3.set A.length (.cells ([v, st'].set 1 st2) 28 false) := pre_set k3 (by omega) _
        refine ⟨m' - 1, by omega, j + 1, st2, ?_⟩
        (repeat' first | exact f5 | exact f4 | exact fs' | exact fm | exact fp | apply And.intro) <;> first | (simp only [Value.int.injEq, true_and]; omega) | omega | rfl | assumption | (simp; done) | (simp; omega)
      · have hstep : stpI p ls i (j + 1) = stpI p ls i j := by rw [stpI, if_neg (by rw [e]; decide), List.append_nil]
        rw [← hstep] at hmD
        simp (maxSteps := 1000000) (disch := omega) only [e, g1, g4, g5, g6, g7, g16, g17, g18, g27, g28, g29, wrap64, S, S1, S2, S3, S4, S5, ST, eq_self, reduceIte, reduceCtorEq, Nat.reduceEqDiff, Nat.reduceAdd]
        refine ⟨m' - 1, by omega, j + 1, st', ?_⟩
        (repeat' first | exact hcD5 | exact hcD4 | exact hst' | exact hmD | exact hpD | apply And.intro) <;> first | (simp only [Value.int.injEq, true_and]; omega) | omega | rfl | assumption | (simp; done) | (simp; omega)
    · have hjj : j = ls.length - (i + 1) := by omega
      subst hjj
      have hstO : stpO p ls (i + 1) = stpO p ls i ++ stpI p ls i (ls.length - (i + 1)) := rfl
      rw [← hstO] at hmn'
      simp (maxSteps := 1000000) (disch := omega) only [g1, g4, g5, g6, g7, g16, g17, g18, g27, g28, g29, wrap64, S, S1, S2, S3, S4, S5, ST, eq_self, reduceIte, reduceCtorEq, Nat.reduceEqDiff, Nat.reduceAdd]
      refine ⟨m - 1, by omega, i + 1, st', ?_⟩
      (repeat' first | exact hc5' | exact hc4' | exact hst' | exact hmn' | exact hpp' | apply And.intro) <;> first | (simp only [Value.int.injEq, true_and]; omega) | omega | rfl | assumption | (simp; done) | (simp; omega)
end Go.Proofs.YtlfongfhbkefmaaGreat.Ai
namespace Go.Proofs.YtlfongfhbkefmaaGreat.Ai
open Go
def ords18 : List (Nat × List (Nat × Bool)) := [(6, [(0, false), (1, false), (2, false), (3, false), (4, false), (5, false), (6, false), (7, false), (8, true), (9, false)])]
def cd18 : Cd := (.seq (.reg [⟨⟨some 4, Op.assign (Operand.const (Value.bool false)), none⟩, []⟩]) (.seq (.seq (.reg [⟨⟨some 6, Op.move (Operand.tmp 0), none⟩, []⟩,
  ⟨⟨some 7, Op.call { callee := (Callee.builtin Builtin.len), args := #[(Operand.tmp 6)], argTypes := #[26] }, none⟩, []⟩,
  ⟨⟨some 8, Op.move (Operand.tmp 1), none⟩, []⟩,
  ⟨⟨some 9, Op.call { callee := (Callee.builtin Builtin.len), args := #[(Operand.tmp 8)], argTypes := #[26] }, none⟩, []⟩,
  ⟨⟨some 10, Op.binOp BinOp.neq 3 (Operand.tmp 7) (Operand.tmp 9) 3, none⟩, []⟩]) (.cond (Operand.tmp 10) (.seq (.reg [⟨⟨some 4, Op.assign (Operand.const (Value.bool false)), none⟩, []⟩]) .ret) .skip)) (.seq (.seq (.reg [⟨⟨some 5, Op.assign (Operand.const (Value.int IntKind.i64 0)), none⟩, []⟩]) (.block 0 (.loop (.seq (.seq (.reg [⟨⟨some 11, Op.move (Operand.tmp 5), none⟩, []⟩,
  ⟨⟨some 12, Op.move (Operand.tmp 0), none⟩, []⟩,
  ⟨⟨some 13, Op.call { callee := (Callee.builtin Builtin.len), args := #[(Operand.tmp 12)], argTypes := #[26] }, none⟩, []⟩,
  ⟨⟨some 14, Op.binOp BinOp.lss 3 (Operand.tmp 11) (Operand.tmp 13) 3, none⟩, []⟩]) (.cond (Operand.tmp 14) .skip (.exit 0))) (.seq (.block 1 (.seq (.reg [⟨⟨some 17, Op.move (Operand.tmp 0), none⟩, []⟩,
  ⟨⟨some 18, Op.move (Operand.tmp 5), none⟩, []⟩,
  ⟨⟨some 19, Op.indexAddr 26 (Operand.tmp 17) (Operand.tmp 18), none⟩, []⟩,
  ⟨⟨some 20, Op.load 38 (Operand.tmp 19), none⟩, []⟩,
  ⟨⟨some 21, Op.move (Operand.tmp 1), none⟩, []⟩,
  ⟨⟨some 22, Op.move (Operand.tmp 5), none⟩, []⟩,
  ⟨⟨some 23, Op.indexAddr 26 (Operand.tmp 21) (Operand.tmp 22), none⟩, []⟩,
  ⟨⟨some 24, Op.load 38 (Operand.tmp 23), none⟩, []⟩,
  ⟨⟨some 25, Op.call { callee := (Callee.value (Operand.func 19)), args := #[(Operand.tmp 20), (Operand.tmp 24)], argTypes := #[38, 38] }, none⟩, []⟩,
  ⟨⟨some 26, Op.unOp UnOp.not 4 (Operand.tmp 25), none⟩, []⟩]) (.cond (Operand.tmp 26) (.seq (.reg [⟨⟨some 4, Op.assign (Operand.const (Value.bool false)), none⟩, []⟩]) .ret) .skip))) (.reg [⟨⟨some 15, Op.move (Operand.tmp 5), none⟩, []⟩,
  ⟨⟨some 16, Op.binOp BinOp.add 3 (Operand.tmp 15) (Operand.const (Value.int IntKind.i64 1)) 3, none⟩, []⟩,
  ⟨⟨some 5, Op.assign (Operand.tmp 16), none⟩, []⟩])))))) (.seq (.reg [⟨⟨some 4, Op.assign (Operand.const (Value.bool true)), none⟩, []⟩]) .ret))))
theorem sl18 : slim Tryz.f18.ntmps ords18 (Tryz.f18.body.getD .skip) = some cd18 := by kernel_rfl
theorem in18 {args : List Value} {H : AH} {R : Value → AH → Prop} (hl : args.length = 2) (h : ∀ (Q : Exit → Sl → AH → Prop), (∀ e s H, endA Tryz.prog [ResultVar.tmp 4] R e s H → Q e s H) → wpC Tryz.prog cd18 Q (enterA args) H) : ACalls Tryz.prog 18 args H R :=
  ACalls.intro (by kernel_rfl) Tryz.func18 rfl (by kernel_rfl) sl18 hl (of_decide_eq_true (by kernel_rfl)) (by kernel_rfl) h
def ords22 : List (Nat × List (Nat × Bool)) := []
def cd22 : Cd := (.seq (.reg [⟨⟨some 4, Op.assign (Operand.const (Value.int IntKind.i64 0)), none⟩, []⟩]) (.seq (.seq (.reg [⟨⟨some 5, Op.assign (Operand.const (Value.int IntKind.i64 0)), none⟩, []⟩]) (.block 0 (.loop (.seq (.seq (.reg [⟨⟨some 6, Op.move (Operand.tmp 5), none⟩, []⟩,
  ⟨⟨some 7, Op.move (Operand.tmp 0), none⟩, []⟩,
  ⟨⟨some 8, Op.call { callee := (Callee.builtin Builtin.len), args := #[(Operand.tmp 7)], argTypes := #[26] }, none⟩, []⟩,
  ⟨⟨some 9, Op.binOp BinOp.lss 3 (Operand.tmp 6) (Operand.tmp 8) 3, none⟩, []⟩]) (.cond (Operand.tmp 9) .skip (.exit 0))) (.seq (.block 1 (.seq (.reg [⟨⟨some 12, Op.move (Operand.tmp 0), none⟩, []⟩,
  ⟨⟨some 13, Op.move (Operand.tmp 5), none⟩, []⟩,
  ⟨⟨some 14, Op.indexAddr 26 (Operand.tmp 12) (Operand.tmp 13), none⟩, []⟩,
  ⟨⟨some 15, Op.load 38 (Operand.tmp 14), none⟩, []⟩,
  ⟨⟨some 16, Op.move (Operand.tmp 1), none⟩, []⟩,
  ⟨⟨some 17, Op.call { callee := (Callee.value (Operand.func 55)), args := #[(Operand.tmp 15), (Operand.tmp 16)], argTypes := #[38, 3] }, none⟩, []⟩,
  ⟨⟨some 1, Op.assign (Operand.tmp 17), none⟩, []⟩]) (.seq (.reg [⟨⟨some 18, Op.move (Operand.tmp 1), none⟩, []⟩,
  ⟨⟨some 19, Op.binOp BinOp.lss 3 (Operand.tmp 18) (Operand.const (Value.int IntKind.i64 0)) 3, none⟩, []⟩]) (.cond (Operand.tmp 19) (.seq (.reg [⟨⟨some 4, Op.assign (Operand.const (Value.int IntKind.i64 (-1))), none⟩, []⟩]) .ret) .skip)))) (.reg [⟨⟨some 10, Op.move (Operand.tmp 5), none⟩, []⟩,
  ⟨⟨some 11, Op.binOp BinOp.add 3 (Operand.tmp 10) (Operand.const (Value.int IntKind.i64 1)) 3, none⟩, []⟩,
  ⟨⟨some 5, Op.assign (Operand.tmp 11), none⟩, []⟩])))))) (.seq (.reg [⟨⟨some 20, Op.move (Operand.tmp 1), none⟩, []⟩,
  ⟨⟨some 4, Op.assign (Operand.tmp 20), none⟩, []⟩]) .ret)))
theorem sl22 : slim Tryz.f22.ntmps ords22 (Tryz.f22.body.getD .skip) = some cd22 := by kernel_rfl
theorem in22 {args : List Value} {H : AH} {R : Value → AH → Prop} (hl : args.length = 2) (h : ∀ (Q : Exit → Sl → AH → Prop), (∀ e s H, endA Tryz.prog [ResultVar.tmp 4] R e s H → Q e s H) → wpC Tryz.prog cd22 Q (enterA args) H) : ACalls Tryz.prog 22 args H R :=
  ACalls.intro (by kernel_rfl) Tryz.func22 rfl (by kernel_rfl) sl22 hl (of_decide_eq_true (by kernel_rfl)) (by kernel_rfl) h
def ords21 : List (Nat × List (Nat × Bool)) := []
def cd21 : Cd := (.seq (.reg [⟨⟨some 4, Op.assign (Operand.const (Value.int IntKind.i64 0)), none⟩, []⟩]) (.seq (.seq (.reg [⟨⟨some 5, Op.assign (Operand.const (Value.int IntKind.i64 0)), none⟩, []⟩]) (.block 0 (.loop (.seq (.seq (.reg [⟨⟨some 6, Op.move (Operand.tmp 5), none⟩, []⟩,
  ⟨⟨some 7, Op.move (Operand.tmp 0), none⟩, []⟩,
  ⟨⟨some 8, Op.call { callee := (Callee.builtin Builtin.len), args := #[(Operand.tmp 7)], argTypes := #[26] }, none⟩, []⟩,
  ⟨⟨some 9, Op.binOp BinOp.lss 3 (Operand.tmp 6) (Operand.tmp 8) 3, none⟩, []⟩]) (.cond (Operand.tmp 9) .skip (.exit 0))) (.seq (.block 1 (.reg [⟨⟨some 12, Op.move (Operand.tmp 0), none⟩, []⟩,
  ⟨⟨some 13, Op.move (Operand.tmp 5), none⟩, []⟩,
  ⟨⟨some 14, Op.indexAddr 26 (Operand.tmp 12) (Operand.tmp 13), none⟩, []⟩,
  ⟨⟨some 15, Op.load 38 (Operand.tmp 14), none⟩, []⟩,
  ⟨⟨some 16, Op.move (Operand.tmp 1), none⟩, []⟩,
  ⟨⟨some 17, Op.call { callee := (Callee.value (Operand.func 20)), args := #[(Operand.tmp 15), (Operand.tmp 16)], argTypes := #[38, 3] }, none⟩, []⟩,
  ⟨⟨some 1, Op.assign (Operand.tmp 17), none⟩, []⟩])) (.reg [⟨⟨some 10, Op.move (Operand.tmp 5), none⟩, []⟩,
  ⟨⟨some 11, Op.binOp BinOp.add 3 (Operand.tmp 10) (Operand.const (Value.int IntKind.i64 1)) 3, none⟩, []⟩,
  ⟨⟨some 5, Op.assign (Operand.tmp 11), none⟩, []⟩])))))) (.seq (.reg [⟨⟨some 18, Op.move (Operand.tmp 1), none⟩, []⟩,
  ⟨⟨some 4, Op.assign (Operand.tmp 18), none⟩, []⟩]) .ret)))
theorem sl21 : slim Tryz.f21.ntmps ords21 (Tryz.f21.body.getD .skip) = some cd21 := by kernel_rfl
theorem in21 {args : List Value} {H : AH} {R : Value → AH → Prop} (hl : args.length = 2) (h : ∀ (Q : Exit → Sl → AH → Prop), (∀ e s H, endA Tryz.prog [ResultVar.tmp 4] R e s H → Q e s H) → wpC Tryz.prog cd21 Q (enterA args) H) : ACalls Tryz.prog 21 args H R :=
  ACalls.intro (by kernel_rfl) Tryz.func21 rfl (by kernel_rfl) sl21 hl (of_decide_eq_true (by kernel_rfl)) (by kernel_rfl) h
end Go.Proofs.YtlfongfhbkefmaaGreat.Ai
namespace Go.Proofs.YtlfongfhbkefmaaGreat.Ai
open Go Go.RowKit
set_option linter.unusedVariables false
set_option linter.unusedSimpArgs false
set_option maxHeartbeats 1000000 in
theorem eqIntSS_c (v w : Value) (ls ms : List (List Int)) (H : AH) {b b' : Nat} (hr : RowLB b 38 3 H v ls) (hr2 : RowLB b' 38 3 H w ms) (hlen : ls.length ≤ 1099511627776) (hsz : sizeL ls ≤ 1099511627776) :
    ACalls Tryz.prog 18 [v, w] H fun r H' => r = .bool (decide (ls = ms)) ∧ H = H' := by
  obtain ⟨us, hv, _, hul, hu⟩ := hr
  obtain ⟨ws, hw, _, hwl, hwr⟩ := hr2
  have hvl := hv.len Tryz.underlying26
  have hwln := hw.len Tryz.underlying26
  rw [hul] at hvl
  rw [hwl] at hwln
  refine in18 rfl ?_
  intro Q hQ
  simp (maxSteps := 1000000) (disch := omega) only [cd18, hvl, hwln, S, S1, S2, S3, S4, S5, ST, eq_self, reduceIte, reduceCtorEq, Nat.reduceEqDiff, Nat.reduceAdd]
  refine brD.intro (fun g => ?_) (fun g => ?_) <;> simp (maxSteps := 1000000) (disch := omega) only [hvl, S, S1, S2, S3, S4, S5, ST, eq_self, reduceIte, reduceCtorEq, Nat.reduceEqDiff, Nat.reduceAdd]
  · refine hQ _ _ _ ?_
    simp (maxSteps := 1000000) (disch := omega) only [S, S1, S2, S3, S4, S5, ST, eq_self, reduceIte, reduceCtorEq, Nat.reduceEqDiff, Nat.reduceAdd]
    have : ls ≠ ms := fun e => g (by rw [e])
    simp [this]
  · have hl : ls.length = ms.length := by omega
    refine LoopH.by (fun m s H' => ∃ i, m + i = ls.length ∧ s 0 = v ∧ s 1 = w ∧ s 5 = .int .i64 ((i : Nat) : Int) ∧ H = H' ∧ ls.take i = ms.take i) ls.length ?_ ?_
    · exact ⟨0, by simp, rfl, rfl, rfl, rfl, by simp⟩
    · rintro m s H' ⟨i, hm, h0, h1, h5, rfl, hn⟩
      simp (maxSteps := 1000000) (disch := omega) only [h0, h1, h5, hvl, S, S1, S2, S3, S4, S5, ST, eq_self, reduceIte, reduceCtorEq, Nat.reduceEqDiff, Nat.reduceAdd]
      refine brD.intro (fun g => ?_) (fun g => ?_) <;> simp (maxSteps := 1000000) (disch := omega) only [h0, h1, h5, hv.ix Tryz.underlying26 cs38, hv.cell, hw.ix Tryz.underlying26 cs38, hw.cell, Int.toNat_natCast, S, S1, S2, S3, S4, S5, ST, eq_self, reduceIte, reduceCtorEq, Nat.reduceEqDiff, Nat.reduceAdd]
      · have hi : i < ls.length := by omega
        have hg : ls.getD i [] = ls[i] := by simp [hi]
        have hg2 : ms.getD i [] = ms[i] := by simp [hl ▸ hi]
        have h1l := sizeL_take ls i hi
        have h2l := sizeL_le ls (i + 1)
        refine CallH.by (eqIntS_c _ _ _ _ H (hu i hi).1 (hwr i (by omega)).1 (by omega)) ?_
        rintro _ _ ⟨rfl, rfl⟩
        simp (maxSteps := 1000000) (disch := omega) only [S, S1, S2, S3, S4, S5, ST, eq_self, reduceIte, reduceCtorEq, Nat.reduceEqDiff, Nat.reduceAdd]
        refine brD.intro (fun e => ?_) (fun e => ?_) <;> simp (maxSteps := 1000000) (disch := omega) only [h0, h1, h5, wrap64, S, S1, S2, S3, S4, S5, ST, eq_self, reduceIte, reduceCtorEq, Nat.reduceEqDiff, Nat.reduceAdd]
        · have fx : ls.take (i + 1) = ms.take (i + 1) := by
            rw [List.take_add_one, List.take_add_one, hn, List.getElem?_eq_getElem hi, List.getElem?_eq_getElem (hl ▸ hi)]
            rw [hg, hg2] at e
            rw [e]
          refine ⟨m - 1, by omega, i + 1, ?_⟩
          (repeat' first | exact fx | apply And.intro) <;> first | (simp only [Value.int.injEq, true_and]; omega) | omega | rfl | assumption | (simp; done) | (simp; omega)
        · refine hQ _ _ _ ?_
          simp (maxSteps := 1000000) (disch := omega) only [S, S1, S2, S3, S4, S5, ST, eq_self, reduceIte, reduceCtorEq, Nat.reduceEqDiff, Nat.reduceAdd]
          have : ls ≠ ms := by
            intro e'
            subst e'
            exact e rfl
          simp [this]
      · refine hQ _ _ _ ?_
        simp (maxSteps := 1000000) (disch := omega) only [S, S1, S2, S3, S4, S5, ST, eq_self, reduceIte, reduceCtorEq, Nat.reduceEqDiff, Nat.reduceAdd]
        rw [List.take_of_length_le (by omega), List.take_of_length_le (by omega)] at hn
        simp [hn]
theorem heldIntSS_c (v : Value) (ls : List (List Int)) (k : Int) (H : AH) {b : Nat} (hr : RowLB b 38 3 H v (runL k ls)) (hlen : ls.length ≤ 1099511627776) (hsz : sizeL ls ≤ 1099511627776) (hk : 0 ≤ k ∧ k ≤ 1099511627776) :
    ACalls Tryz.prog 22 [v, .int .i64 k] H fun r H' => r = .int .i64 (k + sizeL ls) ∧ H = H' := by
  obtain ⟨us, hv, _, hul, hu⟩ := hr
  rw [runL_len] at hul hu
  have hvl := hv.len Tryz.underlying26
  rw [hul] at hvl
  refine in22 rfl ?_
  intro Q hQ
  simp (maxSteps := 1000000) (disch := omega) only [cd22, S, S1, S2, S3, S4, S5, ST, eq_self, reduceIte, reduceCtorEq, Nat.reduceEqDiff, Nat.reduceAdd]
  refine LoopH.by (fun m s H' => ∃ i, m + i = ls.length ∧ s 0 = v ∧ s 1 = .int .i64 (k + (sizeL (ls.take i) : Nat)) ∧ s 5 = .int .i64 ((i : Nat) : Int) ∧ H = H') ls.length ?_ ?_
  · exact ⟨0, by simp, rfl, by simp [S, S1, S2, S3, S4, S5, ST, eq_self, reduceIte, reduceCtorEq, Nat.reduceEqDiff, Nat.reduceAdd, sizeL], rfl, rfl⟩
  · rintro m s H' ⟨i, hm, h0, h1, h5, rfl⟩
    simp (maxSteps := 1000000) (disch := omega) only [h0, h1, h5, hvl, S, S1, S2, S3, S4, S5, ST, eq_self, reduceIte, reduceCtorEq, Nat.reduceEqDiff, Nat.reduceAdd]
    refine brD.intro (fun g => ?_) (fun g => ?_) <;> simp (maxSteps := 1000000) (disch := omega) only [h0, h1, h5, hv.ix Tryz.underlying26 cs38, hv.cell, Int.toNat_natCast, S, S1, S2, S3, S4, S5, ST, eq_self, reduceIte, reduceCtorEq, Nat.reduceEqDiff, Nat.reduceAdd]
    · have hi : i < ls.length := by omega
      have h1l := sizeL_take ls i hi
      have h2l := sizeL_le ls (i + 1)
      have hrow := (hu i hi).1
      rw [runL_at k ls i hi] at hrow
      refine CallH.by (heldIntS_c _ _ (k + (sizeL (ls.take i) : Nat)) H hrow (by rw [runI_len]; omega) (by omega) (by rw [runI_len])) ?_
      rintro _ _ ⟨rfl, rfl⟩
      simp (maxSteps := 1000000) (disch := omega) only [runI_len, S, S1, S2, S3, S4, S5, ST, eq_self, reduceIte, reduceCtorEq, Nat.reduceEqDiff, Nat.reduceAdd]
      refine brD.intro (fun h => absurd h (by omega)) (fun _ => ?_)
      simp (maxSteps := 1000000) (disch := omega) only [h0, h1, h5, wrap64, S, S1, S2, S3, S4, S5, ST, eq_self, reduceIte, reduceCtorEq, Nat.reduceEqDiff, Nat.reduceAdd]
      refine ⟨m - 1, by omega, i + 1, by omega, ?_⟩
      rw [h1l]
      (repeat' first | apply And.intro) <;> first | (simp only [Value.int.injEq, true_and]; omega) | omega | rfl | assumption | (simp; done) | (simp; omega)
    · refine hQ _ _ _ ?_
      simp (maxSteps := 1000000) (disch := omega) only [h1, S, S1, S2, S3, S4, S5, ST, eq_self, reduceIte, reduceCtorEq, Nat.reduceEqDiff, Nat.reduceAdd]
      have : ls.take i = ls := List.take_of_length_le (by omega)
      rw [this]
/-- the lists as far as i are marked -/
def mixL (k : Int) (ls : List (List Int)) (i : Nat) : List (List Int) := (runL k ls).take i ++ ls.drop i
theorem mixL_len (k : Int) (ls : List (List Int)) (i : Nat) : (mixL k ls i).length = ls.length := by
  unfold mixL
  simp [runL_len]; omega
theorem mixL_at (k : Int) (ls : List (List Int)) (i j : Nat) (hj : j < ls.length) : (mixL k ls i).getD j [] = if j < i then runI (k + sizeL (ls.take j)) (ls.getD j []).length else ls.getD j [] := by
  unfold mixL
  have hl : ((runL k ls).take i).length = min i ls.length := by simp [runL_len]
  by_cases h : j < i
  · rw [if_pos h, List.getD_eq_getElem?_getD, List.getElem?_append_left (by rw [hl]; omega), List.getElem?_take, if_pos h, ← List.getD_eq_getElem?_getD, runL_at k ls j hj]
  · rw [if_neg h, List.getD_eq_getElem?_getD, List.getElem?_append_right (by rw [hl]; omega), hl, List.getElem?_drop, ← List.getD_eq_getElem?_getD]
    congr 1; omega
set_option maxHeartbeats 1000000 in
theorem markIntSS_B (v : Value) (ls : List (List Int)) (k : Int) (lo hi : Nat) (H : AH) (h : InL lo hi 38 3 H v ls) (hlen : ls.length ≤ 1099511627776) (hsz : sizeL ls ≤ 1099511627776) (hk : 0 ≤ k ∧ k ≤ 1099511627776) :
    ACalls Tryz.prog 21 [v, .int .i64 k] H fun r H' => r = .int .i64 (k + sizeL ls) ∧ InL lo hi 38 3 H' v (runL k ls) ∧ ElseR lo hi H H' := by
  refine in21 rfl ?_
  intro Q hQ
  rcases h with ⟨rfl, rfl⟩ | ⟨o, us, rfl, hin⟩
  · simp (maxSteps := 1000000) (disch := omega) only [cd21, S, S1, S2, S3, S4, S5, ST, eq_self, reduceIte, reduceCtorEq, Nat.reduceEqDiff, Nat.reduceAdd]
    refine LoopH.by (fun m s H' => s 0 = .slice none 0 0 ∧ s 1 = .int .i64 k ∧ s 5 = .int .i64 0 ∧ H = H') 0 ?_ ?_
    · exact ⟨rfl, rfl, rfl, rfl⟩
    · rintro m s H' ⟨h0, h1, h5, rfl⟩
      simp (maxSteps := 1000000) (disch := omega) only [h0, h1, h5, S, S1, S2, S3, S4, S5, ST, eq_self, reduceIte, reduceCtorEq, Nat.reduceEqDiff, Nat.reduceAdd]
      refine brD.intro (fun g => absurd g (by decide)) (fun g => ?_)
      simp (maxSteps := 1000000) (disch := omega) only [h1, S, S1, S2, S3, S4, S5, ST, eq_self, reduceIte, reduceCtorEq, Nat.reduceEqDiff, Nat.reduceAdd]
      refine hQ _ _ _ ?_
      simp (maxSteps := 1000000) (disch := omega) only [h1, S, S1, S2, S3, S4, S5, ST, eq_self, reduceIte, reduceCtorEq, Nat.reduceEqDiff, Nat.reduceAdd]
      exact ⟨by simp [sizeL], .inl ⟨rfl, rfl⟩, ElseR.refl _ _ _⟩
  · simp (maxSteps := 1000000) (disch := omega) only [cd21, S, S1, S2, S3, S4, S5, ST, eq_self, reduceIte, reduceCtorEq, Nat.reduceEqDiff, Nat.reduceAdd]
    refine LoopH.by (fun m s H' => ∃ i, m + i = ls.length ∧ s 0 = .slice (some ⟨o, 0, none⟩) ls.length ls.length ∧ s 1 = .int .i64 (k + (sizeL (ls.take i) : Nat)) ∧ s 5 = .int .i64 ((i : Nat) : Int) ∧ InU lo hi 38 3 H' o us (mixL k ls i) ∧ ElseR lo hi H H') ls.length ?_ ?_
    · refine ⟨0, by simp, rfl, by simp [S, S1, S2, S3, S4, S5, ST, eq_self, reduceIte, reduceCtorEq, Nat.reduceEqDiff, Nat.reduceAdd, sizeL], rfl, ?_, ElseR.refl _ _ _⟩
      have : mixL k ls 0 = ls := by simp [mixL]
      rw [this]; exact hin
    · rintro m s H' ⟨i, hm, h0, h1, h5, hin', hel⟩
      have hrow := hin'.row
      rw [mixL_len] at hrow
      obtain ⟨ws, hv, _, hul, hu⟩ := hrow
      rw [mixL_len] at hul
      simp (maxSteps := 1000000) (disch := omega) only [h0, h1, h5, S, S1, S2, S3, S4, S5, ST, eq_self, reduceIte, reduceCtorEq, Nat.reduceEqDiff, Nat.reduceAdd]
      refine brD.intro (fun g => ?_) (fun g => ?_)
      · have hi' : i < ls.length := by omega
        have h1l := sizeL_take ls i hi'
        have h2l := sizeL_le ls (i + 1)
        obtain ⟨q1, q2, q3, q4, q5, q6⟩ := hin'
        rw [mixL_len] at q4 q5 q6
        have hcell : cellA H' o i = some (us.getD i undef) := by
          rw [cell_of q3, List.getD_eq_getElem?_getD, List.getElem?_eq_getElem (by omega)]; rfl
        obtain ⟨r1, r2⟩ := q5 i hi'
        rw [mixL_at k ls i i hi', if_neg (Nat.lt_irrefl _)] at r1
        simp (maxSteps := 1000000) (disch := omega) only [h0, h1, h5, hcell, Int.toNat_natCast, Nat.zero_add, S, S1, S2, S3, S4, S5, ST, eq_self, reduceIte, reduceCtorEq, Nat.reduceEqDiff, Nat.reduceAdd]
        have mk := markIntS_B (us.getD i undef) (ls.getD i []) (k + (sizeL (ls.take i) : Nat)) lo hi H' r1 (by omega) (by omega)
        have mk2 := markIntS_c (us.getD i undef) (ls.getD i []) (k + (sizeL (ls.take i) : Nat)) (List.replicate lo AObj.dead) H' (by
          rcases r1 with h | ⟨o', zs, h1, h2, h3, h4, h5⟩
          · exact .inl h
          · exact .inr ⟨o', zs, h1, by simpa using h2, h4, h5⟩) (by omega) (by omega)
        refine CallH.by mk2 ?_
        rintro _ H2 ⟨rfl, hmine, hels⟩
        simp (maxSteps := 1000000) (disch := omega) only [h0, h1, h5, wrap64, S, S1, S2, S3, S4, S5, ST, eq_self, reduceIte, reduceCtorEq, Nat.reduceEqDiff, Nat.reduceAdd]
        have keepo : H2[o]? = some (.cells us 38 false) := by
          refine hels.2 o _ ?_ q3
          rcases r2 with g | g
          · exact .inl g
          · exact .inr (fun e => g e.symm)
        have fel : ElseR lo hi H H2 := by
          refine hel.trans ⟨hels.1, fun j x hj hx => hels.2 j x ?_ hx⟩
          rcases r1.at_ with g | g
          · exact .inl g
          · exact .inr (by omega)
        have r1' : InI lo hi 3 H2 (us.getD i undef) (runI (k + (sizeL (ls.take i) : Nat)) (ls.getD i []).length) := by
          rcases r1 with ⟨g1, g2⟩ | ⟨o', zs, g1, g2, g3, g4, g5⟩
          · rw [g2]; exact .inl ⟨g1, rfl⟩
          · rcases hmine with ⟨f1, f2⟩ | ⟨o2, zs2, f1, f2, f3, f4⟩
            · rw [g1] at f1; cases f1
            · have e : o2 = o' := by
                rw [g1] at f1
                simp only [Value.slice.injEq, Option.some.injEq, Addr.mk.injEq] at f1
                exact f1.1.1.symm
              subst e
              exact .inr ⟨o2, zs2, f1, g2, g3, f3, f4⟩
        have fin : InU lo hi 38 3 H2 o us (mixL k ls (i + 1)) := by
          refine ⟨q1, q2, keepo, by rw [mixL_len]; exact q4, fun j hj => ?_, fun a b hab ha hb => q6 a b hab (by rw [mixL_len] at ha; exact ha) (by rw [mixL_len] at hb; exact hb)⟩
          rw [mixL_len] at hj
          obtain ⟨w1, w2⟩ := q5 j hj
          refine ⟨?_, w2⟩
          rw [mixL_at k ls i j hj] at w1
          rw [mixL_at k ls (i + 1) j hj]
          by_cases e : j = i
          · subst e; rw [if_pos (by omega)]; exact r1'
          · have : (if j < i then runI (k + sizeL (ls.take j)) (ls.getD j []).length else ls.getD j []) = (if j < i + 1 then runI (k + sizeL (ls.take j)) (ls.getD j []).length else ls.getD j []) := by
              by_cases c : j < i
              · rw [if_pos c, if_pos (by omega)]
              · rw [if_neg c, if_neg (by omega)]
            rw [← this]
            refine w1.move fun y hn hy => hels.2 _ _ ?_ hy
            rcases q6 j i e hj hi' with g | g | g
            · exact .inl g
            · exact absurd g hn
            · exact .inr g
        refine ⟨m - 1, by omega, i + 1, by omega, ?_⟩
        rw [h1l]
        (repeat' first | exact fin | exact fel | apply And.intro) <;> first | (simp only [Value.int.injEq, true_and]; omega) | omega | rfl | assumption | (simp; done) | (simp; omega)
      · simp (maxSteps := 1000000) (disch := omega) only [h1, S, S1, S2, S3, S4, S5, ST, eq_self, reduceIte, reduceCtorEq, Nat.reduceEqDiff, Nat.reduceAdd]
        refine hQ _ _ _ ?_
        simp (maxSteps := 1000000) (disch := omega) only [h1, S, S1, S2, S3, S4, S5, ST, eq_self, reduceIte, reduceCtorEq, Nat.reduceEqDiff, Nat.reduceAdd]
        have e1 : ls.take i = ls := List.take_of_length_le (by omega)
        have e2 : mixL k ls i = runL k ls := by
          unfold mixL
          rw [List.take_of_length_le (by rw [runL_len]; omega), List.drop_of_length_le (by omega), List.append_nil]
        rw [e2] at hin'
        rw [e1]
        exact ⟨rfl, by have := hin'.inl; rw [runL_len] at this; exact .inr ⟨o, us, by rw [runL_len], hin'⟩, hel⟩
end Go.Proofs.YtlfongfhbkefmaaGreat.Ai
namespace Go.Proofs.YtlfongfhbkefmaaGreat.Ai
open Go
end Go.Proofs.YtlfongfhbkefmaaGreat.Ai
namespace Go.Proofs.YtlfongfhbkefmaaGreat.Ai
open Go Go.RowKit
set_option linter.unusedVariables false
set_option linter.unusedSimpArgs false
/-- a space's two lists in memory -/
def SpRow (H : AH) (a b : Value) (ls : List (List Int)) (ps : List (Int × Int)) : Prop := (∃ bd, RowLB bd 38 3 H a ls) ∧ RowP 83 H b ps
/-- .. of one's own: the states below mid, the steps from mid on -/
def SpIn (lo hi : Nat) (H : AH) (a b : Value) (ls : List (List Int)) (ps : List (Int × Int)) : Prop := ∃ mid, lo ≤ mid ∧ mid ≤ hi ∧ InL lo mid 38 3 H a ls ∧ InP mid hi 83 H b ps
theorem SpIn.row {lo hi : Nat} {H : AH} {a b : Value} {ls : List (List Int)} {ps : List (Int × Int)} (h : SpIn lo hi H a b ls ps) : SpRow H a b ls ps := by
  obtain ⟨mid, h1, h2, h3, h4⟩ := h
  exact ⟨⟨_, h3.row⟩, h4.row.1⟩
theorem SpIn.pre {lo hi : Nat} {H H' : AH} {a b : Value} {ls : List (List Int)} {ps : List (Int × Int)} (h : SpIn lo hi H a b ls ps) (hp : H <+: H') : SpIn lo hi H' a b ls ps := by
  obtain ⟨mid, h1, h2, h3, h4⟩ := h
  exact ⟨mid, h1, h2, h3.pre hp, h4.pre hp⟩
theorem SpIn.keep {lo hi lo' hi' : Nat} {H H' : AH} {a b : Value} {ls : List (List Int)} {ps : List (Int × Int)} (h : SpIn lo hi H a b ls ps) (he : ElseR lo' hi' H H') (hl : hi ≤ lo' ∨ hi' ≤ lo) : SpIn lo hi H' a b ls ps := by
  obtain ⟨mid, h1, h2, h3, h4⟩ := h
  exact ⟨mid, h1, h2, h3.keep he (by omega), h4.keep he (by omega)⟩
theorem SpRow.pre {H H' : AH} {a b : Value} {ls : List (List Int)} {ps : List (Int × Int)} (h : SpRow H a b ls ps) (hp : H <+: H') : SpRow H' a b ls ps := ⟨h.1.imp fun _ q => q.pre hp, h.2.pre hp⟩
theorem SpRow.shape {H : AH} {a b : Value} {ls : List (List Int)} {ps : List (Int × Int)} (h : SpRow H a b ls ps) : (∃ p n c, a = .slice p n c) ∧ ∃ p n c, b = .slice p n c := by
  obtain ⟨⟨bd, us, h1, _⟩, h2⟩ := h
  obtain ⟨p, e⟩ := h1.shape
  obtain ⟨q, e2⟩ := h2.shape
  exact ⟨⟨_, _, _, e⟩, ⟨_, _, _, e2⟩⟩
theorem SpRow.box {H G : AH} {a b : Value} {ls : List (List Int)} {ps : List (Int × Int)} (h : SpRow G a b ls ps) : boxA Tryz.prog 28 (.agg (List.toArray [a, b])) H = some (.pointer (some ⟨H.length, 0, none⟩), H ++ [.cells [a, b] 28 false]) := by
  obtain ⟨⟨p, n, c, rfl⟩, ⟨q, m, d, rfl⟩⟩ := h.shape
  kernel_rfl
theorem SpRow.store {e : TypeId} {H G : AH} {o : Nat} {vs : List Value} {a b : Value} {ls : List (List Int)} {ps : List (Int × Int)} (h : SpRow G a b ls ps) (ho : H[o]? = some (.cells vs e false)) (hv : vs.length = 2) :
    storeA Tryz.prog 28 (.pointer (some ⟨o, 0, none⟩)) (.agg (List.toArray [a, b])) H = some (H.set o (.cells [a, b] e false)) := by
  obtain ⟨⟨p, n, c, rfl⟩, ⟨q, m, d, rfl⟩⟩ := h.shape
  exact st_ss ho hv p q n c m d
end Go.Proofs.YtlfongfhbkefmaaGreat.Ai
namespace Go.Proofs.YtlfongfhbkefmaaGreat.Ai
open Go
def ords40 : List (Nat × List (Nat × Bool)) := []
def cd40 : Cd := (.seq (.reg [⟨⟨some 1, Op.box 28 (Operand.tmp 0), none⟩, []⟩,
  ⟨⟨some 2, Op.alloc 28, none⟩, []⟩,
  ⟨⟨some 3, Op.assign (Operand.const (Value.bool false)), none⟩, []⟩]) (.seq (.seq (.reg [⟨⟨some 4, Op.fieldAddr 28 (Operand.tmp 1) 0, none⟩, []⟩,
  ⟨⟨some 5, Op.load 26 (Operand.tmp 4), none⟩, []⟩,
  ⟨⟨some 6, Op.call { callee := (Callee.builtin Builtin.len), args := #[(Operand.tmp 5)], argTypes := #[26] }, none⟩, []⟩,
  ⟨⟨some 7, Op.binOp BinOp.gtr 3 (Operand.tmp 6) (Operand.const (Value.int IntKind.i64 300)) 3, none⟩, []⟩,
  ⟨⟨some 8, Op.move (Operand.tmp 7), none⟩, []⟩,
  ⟨⟨some 9, Op.fieldAddr 28 (Operand.tmp 1) 1, some (8, false)⟩, []⟩,
  ⟨⟨some 10, Op.load 22 (Operand.tmp 9), some (8, false)⟩, []⟩,
  ⟨⟨some 11, Op.call { callee := (Callee.builtin Builtin.len), args := #[(Operand.tmp 10)], argTypes := #[22] }, some (8, false)⟩, []⟩,
  ⟨⟨some 12, Op.binOp BinOp.gtr 3 (Operand.tmp 11) (Operand.const (Value.int IntKind.i64 6000)) 3, some (8, false)⟩, []⟩,
  ⟨⟨some 13, Op.pick (Operand.tmp 8) (Operand.const (Value.bool true)) (Operand.tmp 12), none⟩, []⟩]) (.cond (Operand.tmp 13) (.seq (.reg [⟨⟨some 14, Op.build 28 #[], none⟩, []⟩,
  ⟨⟨none, Op.store 28 (Operand.tmp 2) (Operand.tmp 14), none⟩, []⟩,
  ⟨⟨some 3, Op.assign (Operand.const (Value.bool false)), none⟩, []⟩]) .ret) .skip)) (.seq (.reg [⟨⟨some 15, Op.load 28 (Operand.tmp 1), none⟩, []⟩,
  ⟨⟨none, Op.store 28 (Operand.tmp 2) (Operand.tmp 15), none⟩, []⟩,
  ⟨⟨some 3, Op.assign (Operand.const (Value.bool true)), none⟩, []⟩]) .ret)))
theorem sl40 : slim Tryz.f40.ntmps ords40 (Tryz.f40.body.getD .skip) = some cd40 := by kernel_rfl
set_option maxRecDepth 20000 in
theorem in40 {args : List Value} {H : AH} {R : Value → AH → Prop} (hl : args.length = 1) (h : ∀ (Q : Exit → Sl → AH → Prop), (∀ e s H, endA Tryz.prog [ResultVar.cell 2 28, ResultVar.tmp 3] R e s H → Q e s H) → wpC Tryz.prog cd40 Q (enterA args) H) : ACalls Tryz.prog 40 args H R :=
  ACalls.intro (by kernel_rfl) Tryz.func40 rfl (by kernel_rfl) sl40 hl (of_decide_eq_true (by kernel_rfl)) (by kernel_rfl) h
end Go.Proofs.YtlfongfhbkefmaaGreat.Ai
namespace Go.Proofs.YtlfongfhbkefmaaGreat.Ai
open Go Go.RowKit
set_option linter.unusedVariables false
set_option linter.unusedSimpArgs false
set_option maxRecDepth 20000 in
set_option maxHeartbeats 2000000 in
theorem orNone_c (a b : Value) (ls : List (List Int)) (ps : List (Int × Int)) (H : AH) (hr : SpRow H a b ls ps) (hl : ls.length ≤ 300) (hp : ps.length ≤ 6000) :
    ACalls Tryz.prog 40 [.agg (List.toArray [a, b])] H fun r H' => r = .tuple (List.toArray [.agg (List.toArray [a, b]), .bool true]) ∧ H <+: H' := by
  refine in40 rfl ?_
  intro Q hQ
  simp (maxSteps := 1000000) (disch := omega) only [cd40, hr.box, S, S1, S2, S3, S4, S5, ST, eq_self, reduceIte, reduceCtorEq, Nat.reduceEqDiff, Nat.reduceAdd]
  generalize hA0 : H ++ [AObj.cells [a, b] 28 false] = A0
  have pA0 : H <+: A0 := by rw [← hA0]; exact List.prefix_append _ _
  have cA0 : A0[H.length]? = some (.cells [a, b] 28 false) := by rw [← hA0]; exact at_new ..
  simp (maxSteps := 1000000) (disch := omega) only [alloc_sp, S, S1, S2, S3, S4, S5, ST, eq_self, reduceIte, reduceCtorEq, Nat.reduceEqDiff, Nat.reduceAdd]
  generalize hA : A0 ++ [AObj.cells [.slice none 0 0, .slice none 0 0] 28 false] = A
  have pA : A0 <+: A := by rw [← hA]; exact List.prefix_append _ _
  have cA : A[A0.length]? = some (.cells [.slice none 0 0, .slice none 0 0] 28 false) := by rw [← hA]; exact at_new ..
  have cB := pre_at pA cA0
  have rA := hr.pre (pA0.trans pA)
  obtain ⟨bd, us, r1, r2, r3⟩ := rA.1
  have g1 : ¬ (300 < (us.length : Int)) := by omega
  have g2 : ¬ (6000 < (ps.length : Int)) := by omega
  have hst := rA.store cA rfl
  simp (maxSteps := 1000000) (disch := omega) only [cell_of cB, r1.len Tryz.underlying26, rA.2.len Tryz.underlying22, decide_eq_false g1, decide_eq_false g2, ld_agg ag28 cs28 cB, hst, S, S1, S2, S3, S4, S5, ST, eq_self, reduceIte, reduceCtorEq, Nat.reduceEqDiff, Nat.reduceAdd]
  have d4 := at_set (d := .cells [a, b] 28 false) cA
  refine hQ _ _ _ (end_cell2 _ _ _ _ _ _ _ (.agg (List.toArray [a, b])) (.bool true) ?_ rfl ?_ rfl ⟨rfl, ?_⟩)
  · simp (maxSteps := 1000000) (disch := omega) only [ld_agg ag28 cs28 d4, S, S1, S2, S3, S4, S5, ST, eq_self, reduceIte, reduceCtorEq, Nat.reduceEqDiff, Nat.reduceAdd]
  · simp (maxSteps := 1000000) (disch := omega) only [S, S1, S2, S3, S4, S5, ST, eq_self, reduceIte, reduceCtorEq, Nat.reduceEqDiff, Nat.reduceAdd]
  · exact pre_set (pA0.trans pA) (by have := pA0.length_le; omega) _
end Go.Proofs.YtlfongfhbkefmaaGreat.Ai
namespace Go.Proofs.YtlfongfhbkefmaaGreat.Ai
open Go
set_option linter.unusedVariables false
def adj1 (L : List (List Int)) (e : Int × Int) : List (List Int) := (L.set e.1.toNat (L.getD e.1.toNat [] ++ [e.2])).set e.2.toNat (L.getD e.2.toNat [] ++ [e.1])
def adjL (n : Nat) (ps : List (Int × Int)) : List (List Int) := ps.foldl adj1 (List.replicate n [])
theorem adj1_len (L : List (List Int)) (e : Int × Int) : (adj1 L e).length = L.length := by simp [adj1]
theorem adjF_len : ∀ (ps : List (Int × Int)) (L : List (List Int)), (ps.foldl adj1 L).length = L.length
  | [], L => rfl
  | e :: ps, L => by rw [List.foldl_cons, adjF_len ps, adj1_len]
theorem adjL_len (n : Nat) (ps : List (Int × Int)) : (adjL n ps).length = n := by unfold adjL; rw [adjF_len]; simp
end Go.Proofs.YtlfongfhbkefmaaGreat.Ai
namespace Go.Proofs.YtlfongfhbkefmaaGreat.Ai
open Go Go.RowKit
set_option linter.unusedVariables false
set_option linter.unusedSimpArgs false
theorem mk_lists {n : Int} (h0 : 0 ≤ n) (h1 : n ≤ 1099511627776) (H : AH) :
    makeSliceA Tryz.prog 26 (.int .i64 n) (.int .i64 n) H = some (.slice (some ⟨H.length, 0, none⟩) n.toNat n.toNat, H ++ [.cells (List.replicate n.toNat (.slice none 0 0)) 38 false]) := by
  have hb2 : n.toNat * Tryz.prog.bytesOf 38 ≤ 281474976710656 := by
    rw [by38]; omega
  have hzc : (Value.slice none 0 0).cells = #[.slice none 0 0] := rfl
  have hzs : zerosA (.slice none 0 0) (n.toNat * 1) = List.replicate n.toNat (.slice none 0 0) := by
    unfold zerosA
    rw [hzc, Nat.mul_one]
    apply List.ext_getElem
    · simp
    · intro i h1 h2
      simp [Nat.mod_one]
  simp only [makeSliceA, Tryz.underlying26, cs38, ze38]
  rw [if_pos ⟨trivial, h0, by omega, hb2, by omega⟩, if_pos ⟨by simp [plainCs, hzc, plainC], by simp [hzc]⟩, hzs]
theorem own_base {e : TypeId} {H0 H1 H : AH} {v : Value} {xs : List Int} (h : Own e H0 H v xs) (hl : H1.length ≤ H0.length) : Own e H1 H v xs := by
  rcases h with h | ⟨o, h1, h2, h3⟩
  · exact .inl h
  · exact .inr ⟨o, h1, by omega, h3⟩
theorem own_keep {e : TypeId} {H0 H H' : AH} {v : Value} {xs : List Int} (h : Own e H0 H v xs) (hh : ∀ y, v ≠ .slice none 0 0 → H[rowO v]? = some y → H'[rowO v]? = some y) : Own e H0 H' v xs := by
  rcases h with h | ⟨o, h1, h2, h3⟩
  · exact .inl h
  · exact .inr ⟨o, h1, h2, by subst h1; exact hh _ (by intro e; cases e) h3⟩
theorem own_nil {e : TypeId} {H0 H : AH} {v : Value} {xs : List Int} (h : Own e H0 H v xs) : v = .slice none 0 0 ∨ (H0.length ≤ rowO v ∧ rowO v < H.length) := by
  rcases h with h | ⟨o, h1, h2, h3⟩
  · exact .inl h.1
  · subst h1; exact .inr ⟨h2, at_lt h3⟩
/-- lists of neighbours that grow -/
structure Adj (C G : AH) (o : Nat) (us : List Value) (L : List (List Int)) : Prop where
  at_ : G[o]? = some (.cells us 38 false)
  olt : o < C.length
  len : us.length = L.length
  el : ∀ i, i < L.length → Own 3 C G (us.getD i undef) (L.getD i [])
  ap : ∀ i j, i ≠ j → i < L.length → j < L.length → Apart (us.getD i undef) (us.getD j undef)
  keep : ∀ (j : Nat) (y : AObj), j ≠ o → C[j]? = some y → G[j]? = some y
  le : C.length ≤ G.length
theorem Adj.ne {C G : AH} {o : Nat} {us : List Value} {L : List (List Int)} (h : Adj C G o us L) {i : Nat} (hi : i < L.length) : us.getD i undef = .slice none 0 0 ∨ rowO (us.getD i undef) ≠ o := by
  rcases own_nil (h.el i hi) with g | g
  · exact .inl g
  · right; have := h.olt; omega
theorem Adj.inU {C G : AH} {o lo : Nat} {us : List Value} {L : List (List Int)} (h : Adj C G o us L) (hlo : lo ≤ o) : InU lo G.length 38 3 G o us L := by
  have := h.olt
  refine ⟨hlo, at_lt h.at_, h.at_, by rw [h.len]; exact Nat.le_refl _, fun i hi => ⟨(InI.of (h.el i hi).mine).wide (by omega) (Nat.le_refl _), h.ne hi⟩, h.ap⟩
theorem Adj.pre {C G G' : AH} {o : Nat} {us : List Value} {L : List (List Int)} (h : Adj C G o us L) (hp : G <+: G') : Adj C G' o us L :=
  ⟨pre_at hp h.at_, h.olt, h.len, fun i hi => own_keep (h.el i hi) fun y _ hy => pre_at hp hy, h.ap, fun j y hj hy => pre_at hp (h.keep j y hj hy), Nat.le_trans h.le hp.length_le⟩
/-- one more, at one place -/
theorem Adj.upd1 {C G K : AH} {o x : Nat} {us : List Value} {L : List (List Int)} (h : Adj C G o us L) (hx : x < L.length) {v1 : Value} {l1 : List Int}
    (h1 : Own 3 C K v1 l1) (g1 : G.length ≤ rowO v1) (hl : G.length ≤ K.length)
    (hk : ∀ (j : Nat) (z : AObj), (us.getD x undef = .slice none 0 0 ∨ j ≠ rowO (us.getD x undef)) → G[j]? = some z → K[j]? = some z) :
    Adj C (K.set o (.cells (us.set x v1) 38 false)) o (us.set x v1) (L.set x l1) := by
  have hol := h.olt
  have hle := h.le
  have hul := h.len
  have ax : us.getD x undef = .slice none 0 0 ∨ o ≠ rowO (us.getD x undef) := (h.ne hx).imp id fun e => fun q => e q.symm
  have ko := hk o _ ax h.at_
  have gu : ∀ i, (us.set x v1).getD i undef = if x = i then (if x < us.length then v1 else undef) else us.getD i undef := by
    intro i
    rw [List.getD_eq_getElem?_getD, List.getElem?_set]
    by_cases e1 : x = i
    · rw [if_pos e1, if_pos e1, if_pos (by omega), if_pos (by omega)]; rfl
    · rw [if_neg e1, if_neg e1, List.getD_eq_getElem?_getD]
  have gl : ∀ i, (L.set x l1).getD i [] = if x = i then (if x < L.length then l1 else []) else L.getD i [] := by
    intro i
    rw [List.getD_eq_getElem?_getD, List.getElem?_set]
    by_cases e1 : x = i
    · rw [if_pos e1, if_pos e1, if_pos (by omega), if_pos (by omega)]; rfl
    · rw [if_neg e1, if_neg e1, List.getD_eq_getElem?_getD]
  have setk : ∀ {j : Nat} {z : AObj}, j ≠ o → K[j]? = some z → (K.set o (.cells (us.set x v1) 38 false))[j]? = some z := fun hj hz => by
    rw [List.getElem?_set_ne (fun e => hj e.symm)]; exact hz
  have old : ∀ i, i < L.length → i ≠ x → us.getD i undef ≠ .slice none 0 0 → rowO (us.getD i undef) < G.length ∧ ∀ z, G[rowO (us.getD i undef)]? = some z → K[rowO (us.getD i undef)]? = some z := by
    intro i hi ix hn
    rcases own_nil (h.el i hi) with q | q
    · exact absurd q hn
    refine ⟨q.2, fun z hz => hk _ _ ?_ hz⟩
    rcases h.ap i x ix hi hx with q1 | q1 | q1
    · exact .inl q1
    · exact absurd q1 hn
    · exact .inr q1
  refine ⟨at_set ko, hol, by simp [hul], fun i hi => ?_, fun i j hij hi hj => ?_, fun j z hj hz => ?_, by simp; omega⟩
  · rw [List.length_set] at hi
    rw [gu, gl]
    by_cases e1 : x = i
    · rw [if_pos e1, if_pos e1, if_pos (by omega), if_pos (by omega)]
      exact own_keep h1 fun z _ hz => setk (by omega) hz
    · rw [if_neg e1, if_neg e1]
      refine own_keep (h.el i hi) fun z hn hz => ?_
      have hq := old i hi (fun e => e1 e.symm) hn
      refine setk ?_ (hq.2 z hz)
      rcases h.ne hi with q | q
      · exact absurd q hn
      · exact q
  · rw [List.length_set] at hi hj
    have far : ∀ (q : Nat) (v : Value), q < L.length → q ≠ x → G.length ≤ rowO v → us.getD q undef = .slice none 0 0 ∨ rowO (us.getD q undef) ≠ rowO v := by
      intro q v hq qx hv
      by_cases hn : us.getD q undef = .slice none 0 0
      · exact .inl hn
      · right; have := (old q hq qx hn).1; omega
    rw [gu, gu]
    by_cases e1 : x = i
    · rw [if_pos e1, if_pos (by omega), if_neg (show ¬ x = j by omega)]
      rcases far j v1 hj (by omega) g1 with q | q
      · exact .inl q
      · exact .inr (.inr fun e => q e.symm)
    · rw [if_neg e1]
      by_cases e4 : x = j
      · rw [if_pos e4, if_pos (by omega)]
        rcases far i v1 hi (fun e => e1 e.symm) g1 with q | q
        · exact .inr (.inl q)
        · exact .inr (.inr q)
      · rw [if_neg e4]; exact h.ap i j hij hi hj
  · refine setk hj ?_
    have hC : us.getD x undef = .slice none 0 0 ∨ j ≠ rowO (us.getD x undef) := by
      have hjl := at_lt hz
      rcases own_nil (h.el x hx) with g | g
      · exact .inl g
      · right; omega
    exact hk j z hC (h.keep j z hj hz)
/-- one of the lists is touched, and is as before -/
theorem Adj.same {C G K : AH} {o x : Nat} {us : List Value} {L : List (List Int)} (h : Adj C G o us L) (hx : x < L.length) (h1 : Own 3 C K (us.getD x undef) (L.getD x [])) (he : Else (us.getD x undef) G K) : Adj C K o us L := by
  have ax : us.getD x undef = .slice none 0 0 ∨ o ≠ rowO (us.getD x undef) := (h.ne hx).imp id fun e => fun q => e q.symm
  refine ⟨he.2 _ _ ax h.at_, h.olt, h.len, fun i hi => ?_, h.ap, fun j z hj hz => he.2 _ _ ?_ (h.keep j z hj hz), by rw [he.1]; exact h.le⟩
  · by_cases e : i = x
    · subst e; exact h1
    · refine own_keep (h.el i hi) fun z hn hz => he.2 _ _ ?_ hz
      rcases h.ap i x e hi hx with q | q | q
      · exact .inl q
      · exact absurd q hn
      · exact .inr q
  · have hjl := at_lt hz
    rcases own_nil (h.el x hx) with g | g
    · exact .inl g
    · right; omega
/-- appending a number to one of the lists -/
theorem Adj.app1 {C G : AH} {o x : Nat} {us : List Value} {L : List (List Int)} (h : Adj C G o us L) (hx : x < L.length) (hb : (L.getD x []).length ≤ 1000000) (y : Int) :
    ∃ v K, appendA Tryz.prog 38 38 (us.getD x undef) (.slice (some ⟨G.length, 0, none⟩) 1 1) (G ++ [.cells [.int .i64 y] 3 false]) = some (v, K) ∧
      (∀ (j : Nat) (z : AObj), (us.getD x undef = .slice none 0 0 ∨ j ≠ rowO (us.getD x undef)) → G[j]? = some z → K[j]? = some z) ∧ K[o]? = some (.cells us 38 false) ∧ isTup v = false ∧ v.cells.toList = [v] ∧
      Adj C (K.set o (.cells (us.set x v) 38 false)) o (us.set x v) (L.set x (L.getD x [] ++ [y])) := by
  have hox := h.el x hx
  have hle := h.le
  have hlC : (G.take C.length).length = C.length := by simp; omega
  have ox2 : Own 3 (G.take C.length) G (us.getD x undef) (L.getD x []) := own_base hox (by omega)
  obtain ⟨v, K, j1, j2, j3, j4, j5, j6⟩ := own1_38 ox2 (List.take_prefix _ _) (by omega) y
  have hjC : Own 3 C K v (L.getD x [] ++ [y]) := own_base j2 (by omega)
  have ax : us.getD x undef = .slice none 0 0 ∨ o ≠ rowO (us.getD x undef) := (h.ne hx).imp id fun e => fun q => e q.symm
  have hlK : G.length ≤ K.length := by
    rcases own_nil hjC with q | q
    · have h1 : (L.getD x [] ++ [y]).length = 0 := by
        rcases hjC with ⟨_, q1⟩ | ⟨o', q1, _⟩
        · rw [q1]; rfl
        · rw [q1] at q; cases q
      simp at h1
    · omega
  obtain ⟨p, hp⟩ := j2.row.shape
  exact ⟨v, K, j1, fun j z hj hz => j4 j z hj hz, j4 o _ ax h.at_, j6, by rw [hp]; rfl, h.upd1 hx hjC j5 hlK fun j z hj hz => j4 j z hj hz⟩
end Go.Proofs.YtlfongfhbkefmaaGreat.Ai
namespace Go.Proofs.YtlfongfhbkefmaaGreat.Ai
open Go
def ords171 : List (Nat × List (Nat × Bool)) := [(1, [(0, false), (1, false), (2, true), (3, false), (4, true), (5, true)]), (5, [(0, false), (1, false), (2, false), (3, false), (4, false), (5, false), (6, false), (7, false), (8, false), (9, false)])]
def cd171 : Cd := (.seq (.seq (.reg [⟨⟨some 10, Op.move (Operand.tmp 0), none⟩, []⟩,
  ⟨⟨some 11, Op.load 3 (Operand.tmp 1), none⟩, []⟩,
  ⟨⟨some 12, Op.binOp BinOp.eql 3 (Operand.tmp 10) (Operand.tmp 11) 3, none⟩, []⟩]) (.cond (Operand.tmp 12) (.seq (.reg [⟨⟨some 13, Op.load 26 (Operand.tmp 2), none⟩, []⟩,
  ⟨⟨some 14, Op.load 38 (Operand.tmp 3), none⟩, []⟩,
  ⟨⟨some 15, Op.call { callee := (Callee.value (Operand.func 77)), args := #[(Operand.tmp 14)], argTypes := #[38] }, none⟩, [⟨some 13, Op.load 26 (Operand.tmp 2), none⟩]⟩,
  ⟨⟨some 16, Op.buildSlice 26 1 #[(0, (Operand.tmp 15))], none⟩, []⟩,
  ⟨⟨some 17, Op.call { callee := (Callee.builtin Builtin.append), args := #[(Operand.tmp 13), (Operand.tmp 16)], argTypes := #[26, 26] }, none⟩, []⟩,
  ⟨⟨none, Op.store 26 (Operand.tmp 2) (Operand.tmp 17), none⟩, []⟩]) .ret) .skip)) (.seq (.reg [⟨⟨some 18, Op.load 26 (Operand.tmp 4), none⟩, []⟩,
  ⟨⟨some 19, Op.move (Operand.tmp 0), none⟩, []⟩,
  ⟨⟨some 20, Op.indexAddr 26 (Operand.tmp 18) (Operand.tmp 19), none⟩, []⟩,
  ⟨⟨some 21, Op.load 38 (Operand.tmp 20), none⟩, []⟩,
  ⟨⟨some 22, Op.call { callee := (Callee.builtin Builtin.len), args := #[(Operand.tmp 21)], argTypes := #[38] }, none⟩, []⟩,
  ⟨⟨some 23, Op.move (Operand.const (Value.int IntKind.i64 0)), none⟩, []⟩]) (.block 0 (.loop (.seq (.reg [⟨⟨some 24, Op.binOp BinOp.lss 3 (Operand.tmp 23) (Operand.tmp 22) 3, none⟩, []⟩]) (.seq (.cond (Operand.tmp 24) .skip (.exit 0)) (.seq (.block 1 (.seq (.reg [⟨⟨some 25, Op.indexAddr 38 (Operand.tmp 21) (Operand.tmp 23), none⟩, []⟩,
  ⟨⟨some 26, Op.load 3 (Operand.tmp 25), none⟩, []⟩,
  ⟨⟨some 9, Op.assign (Operand.tmp 26), none⟩, []⟩]) (.seq (.reg [⟨⟨some 27, Op.load 38 (Operand.tmp 5), none⟩, []⟩,
  ⟨⟨some 28, Op.move (Operand.tmp 9), none⟩, []⟩,
  ⟨⟨some 29, Op.indexAddr 38 (Operand.tmp 27) (Operand.tmp 28), none⟩, []⟩,
  ⟨⟨some 30, Op.load 3 (Operand.tmp 29), none⟩, []⟩,
  ⟨⟨some 31, Op.load 38 (Operand.tmp 5), none⟩, []⟩,
  ⟨⟨some 32, Op.move (Operand.tmp 0), none⟩, []⟩,
  ⟨⟨some 33, Op.indexAddr 38 (Operand.tmp 31) (Operand.tmp 32), none⟩, []⟩,
  ⟨⟨some 34, Op.load 3 (Operand.tmp 33), none⟩, []⟩,
  ⟨⟨some 35, Op.binOp BinOp.sub 3 (Operand.tmp 34) (Operand.const (Value.int IntKind.i64 1)) 3, none⟩, []⟩,
  ⟨⟨some 36, Op.binOp BinOp.eql 3 (Operand.tmp 30) (Operand.tmp 35) 3, none⟩, []⟩]) (.cond (Operand.tmp 36) (.seq (.reg [⟨⟨some 37, Op.load 38 (Operand.tmp 3), none⟩, []⟩,
  ⟨⟨some 38, Op.move (Operand.tmp 9), none⟩, []⟩,
  ⟨⟨some 39, Op.buildSlice 38 1 #[(0, (Operand.tmp 38))], none⟩, []⟩,
  ⟨⟨some 40, Op.call { callee := (Callee.builtin Builtin.append), args := #[(Operand.tmp 37), (Operand.tmp 39)], argTypes := #[38, 38] }, none⟩, []⟩,
  ⟨⟨none, Op.store 38 (Operand.tmp 3) (Operand.tmp 40), none⟩, []⟩]) (.seq (.reg [⟨⟨some 41, Op.load 163 (Operand.tmp 6), none⟩, []⟩,
  ⟨⟨some 42, Op.move (Operand.tmp 9), none⟩, []⟩,
  ⟨⟨some 43, Op.call { callee := (Callee.value (Operand.tmp 41)), args := #[(Operand.tmp 42)], argTypes := #[3] }, none⟩, []⟩]) (.reg [⟨⟨some 44, Op.load 38 (Operand.tmp 3), none⟩, []⟩,
  ⟨⟨some 45, Op.load 38 (Operand.tmp 3), none⟩, []⟩,
  ⟨⟨some 46, Op.call { callee := (Callee.builtin Builtin.len), args := #[(Operand.tmp 45)], argTypes := #[38] }, none⟩, []⟩,
  ⟨⟨some 47, Op.binOp BinOp.sub 3 (Operand.tmp 46) (Operand.const (Value.int IntKind.i64 1)) 3, none⟩, []⟩,
  ⟨⟨some 48, Op.slice 38 (Operand.tmp 44) none (some (Operand.tmp 47)) none, none⟩, []⟩,
  ⟨⟨none, Op.store 38 (Operand.tmp 3) (Operand.tmp 48), none⟩, []⟩]))) .skip)))) (.reg [⟨⟨some 49, Op.binOp BinOp.add 3 (Operand.tmp 23) (Operand.const (Value.int IntKind.i64 1)) 3, none⟩, []⟩,
  ⟨⟨some 23, Op.move (Operand.tmp 49), none⟩, []⟩]))))))))
theorem sl171 : slim Tryz.f171.ntmps ords171 (Tryz.f171.body.getD .skip) = some cd171 := by kernel_rfl
theorem in171 {args : List Value} {H : AH} {R : Value → AH → Prop} (hl : args.length = 7) (h : ∀ (Q : Exit → Sl → AH → Prop), (∀ e s H, endA Tryz.prog [] R e s H → Q e s H) → wpC Tryz.prog cd171 Q (enterA args) H) : ACalls Tryz.prog 171 args H R :=
  ACalls.intro (by kernel_rfl) Tryz.func171 rfl (by kernel_rfl) sl171 hl (of_decide_eq_true (by kernel_rfl)) (by kernel_rfl) h
def ords139 : List (Nat × List (Nat × Bool)) := []
def cd139 : Cd := (.seq (.reg [⟨⟨some 3, Op.box 31 (Operand.tmp 0), none⟩, []⟩,
  ⟨⟨some 5, Op.box 3 (Operand.tmp 2), none⟩, []⟩,
  ⟨⟨some 6, Op.assign (Operand.const (Value.slice none 0 0)), none⟩, []⟩]) (.seq (.reg [⟨⟨some 12, Op.buildSlice 26 0 #[], none⟩, []⟩,
  ⟨⟨some 13, Op.load 31 (Operand.tmp 3), none⟩, []⟩,
  ⟨⟨some 14, Op.call { callee := (Callee.value (Operand.func 149)), args := #[(Operand.tmp 13)], argTypes := #[31] }, none⟩, []⟩,
  ⟨⟨some 7, Op.alloc 26, none⟩, []⟩,
  ⟨⟨some 8, Op.alloc 26, none⟩, []⟩,
  ⟨⟨none, Op.store 26 (Operand.tmp 7) (Operand.tmp 12), none⟩, []⟩,
  ⟨⟨none, Op.store 26 (Operand.tmp 8) (Operand.tmp 14), none⟩, []⟩]) (.seq (.reg [⟨⟨some 15, Op.load 26 (Operand.tmp 8), none⟩, []⟩,
  ⟨⟨some 16, Op.load 3 (Operand.tmp 5), none⟩, []⟩,
  ⟨⟨some 17, Op.call { callee := (Callee.value (Operand.func 143)), args := #[(Operand.tmp 15), (Operand.tmp 16)], argTypes := #[26, 3] }, none⟩, []⟩,
  ⟨⟨some 9, Op.alloc 38, none⟩, []⟩,
  ⟨⟨none, Op.store 38 (Operand.tmp 9) (Operand.tmp 17), none⟩, []⟩]) (.seq (.seq (.reg [⟨⟨some 18, Op.load 38 (Operand.tmp 9), none⟩, []⟩,
  ⟨⟨some 19, Op.move (Operand.tmp 1), none⟩, []⟩,
  ⟨⟨some 20, Op.indexAddr 38 (Operand.tmp 18) (Operand.tmp 19), none⟩, []⟩,
  ⟨⟨some 21, Op.load 3 (Operand.tmp 20), none⟩, []⟩,
  ⟨⟨some 22, Op.binOp BinOp.lss 3 (Operand.tmp 21) (Operand.const (Value.int IntKind.i64 0)) 3, none⟩, []⟩]) (.cond (Operand.tmp 22) (.seq (.reg [⟨⟨some 23, Op.load 26 (Operand.tmp 7), none⟩, []⟩,
  ⟨⟨some 6, Op.assign (Operand.tmp 23), none⟩, []⟩]) .ret) .skip)) (.seq (.reg [⟨⟨some 24, Op.move (Operand.tmp 1), none⟩, []⟩,
  ⟨⟨some 25, Op.buildSlice 38 1 #[(0, (Operand.tmp 24))], none⟩, []⟩,
  ⟨⟨some 10, Op.alloc 38, none⟩, []⟩,
  ⟨⟨none, Op.store 38 (Operand.tmp 10) (Operand.tmp 25), none⟩, []⟩]) (.seq (.reg [⟨⟨some 11, Op.alloc 163, none⟩, []⟩]) (.seq (.reg [⟨⟨some 26, Op.makeFunc (Fn.func 171) #[] #[(Operand.tmp 5), (Operand.tmp 7), (Operand.tmp 10), (Operand.tmp 8), (Operand.tmp 9), (Operand.tmp 11)], none⟩, []⟩,
  ⟨⟨none, Op.store 163 (Operand.tmp 11) (Operand.tmp 26), none⟩, []⟩]) (.seq (.reg [⟨⟨some 27, Op.load 163 (Operand.tmp 11), none⟩, []⟩,
  ⟨⟨some 28, Op.move (Operand.tmp 1), none⟩, []⟩,
  ⟨⟨some 29, Op.call { callee := (Callee.value (Operand.tmp 27)), args := #[(Operand.tmp 28)], argTypes := #[3] }, none⟩, []⟩]) (.seq (.reg [⟨⟨some 30, Op.load 26 (Operand.tmp 7), none⟩, []⟩,
  ⟨⟨some 6, Op.assign (Operand.tmp 30), none⟩, []⟩]) .ret)))))))))
theorem sl139 : slim Tryz.f139.ntmps ords139 (Tryz.f139.body.getD .skip) = some cd139 := by kernel_rfl
theorem in139 {args : List Value} {H : AH} {R : Value → AH → Prop} (hl : args.length = 3) (h : ∀ (Q : Exit → Sl → AH → Prop), (∀ e s H, endA Tryz.prog [ResultVar.tmp 6] R e s H → Q e s H) → wpC Tryz.prog cd139 Q (enterA args) H) : ACalls Tryz.prog 139 args H R :=
  ACalls.intro (by kernel_rfl) Tryz.func139 rfl (by kernel_rfl) sl139 hl (of_decide_eq_true (by kernel_rfl)) (by kernel_rfl) h
end Go.Proofs.YtlfongfhbkefmaaGreat.Ai
namespace Go.Proofs.YtlfongfhbkefmaaGreat.Ai
open Go Go.RowKit
set_option linter.unusedVariables false
set_option linter.unusedSimpArgs false
theorem agW : isAggA Tryz.prog 163 = some false := by kernel_rfl
theorem csW : Tryz.prog.cellsOf 163 = 1 := by kernel_rfl
theorem alloc_slW (H : AH) : allocA Tryz.prog 38 H = some (.pointer (some ⟨H.length, 0, none⟩), H ++ [.cells [.slice none 0 0] 38 false]) := by kernel_rfl
theorem alloc_llW (H : AH) : allocA Tryz.prog 26 H = some (.pointer (some ⟨H.length, 0, none⟩), H ++ [.cells [.slice none 0 0] 26 false]) := by kernel_rfl
theorem alloc_fW (H : AH) : allocA Tryz.prog 163 H = some (.pointer (some ⟨H.length, 0, none⟩), H ++ [.cells [.nilFunc] 163 false]) := by kernel_rfl
theorem box_iW (H : AH) (k : Int) : boxA Tryz.prog 3 (.int .i64 k) H = some (.pointer (some ⟨H.length, 0, none⟩), H ++ [.cells [.int .i64 k] 3 false]) := by kernel_rfl
theorem mkf_6W (f : Fn) (p q r t u w : Option Addr) : makeFuncA f [] [.pointer p, .pointer q, .pointer r, .pointer t, .pointer u, .pointer w] = some (.func f #[] (List.toArray [.pointer p, .pointer q, .pointer r, .pointer t, .pointer u, .pointer w])) := rfl
abbrev wayClo (pt po pe pr pfar pf : Nat) : Value := .func (.func 171) #[] (List.toArray [.pointer (some ⟨pt, 0, none⟩), .pointer (some ⟨po, 0, none⟩), .pointer (some ⟨pe, 0, none⟩), .pointer (some ⟨pr, 0, none⟩), .pointer (some ⟨pfar, 0, none⟩), .pointer (some ⟨pf, 0, none⟩)])
/-- what the walk reads -/
structure WayR (H : AH) (L : List (List Int)) (far : List Int) (t pt po pe pr pfar pf : Nat) (vr vf : Value) (us : List Value) : Prop where
  t : cellA H pt 0 = some (.int .i64 (t : Int))
  r : cellA H pr 0 = some vr
  f : cellA H pfar 0 = some vf
  c : H[pf]? = some (.cells [wayClo pt po pe pr pfar pf] 163 false)
  rows : RowV 38 H vr us ∧ us.length = L.length ∧ ∀ i, i < L.length → Row 3 H (us.getD i undef) (L.getD i [])
  far : Row 3 H vf far
set_option maxRecDepth 20000 in
set_option maxHeartbeats 4000000 in
theorem wayRec_c {HB : AH} {fx : List (Nat × AObj)} {N t : Nat} {L : List (List Int)} {far : List Int} (hF : FarOk N L far t) (h8 : N ≤ 8) (pt po pe pr pfar pf : Nat) (vr vf : Value) (us : List Value)
    (hR : ∀ {F H ed}, LSt HB fx pe F H ed → WayR H L far t pt po pe pr pfar pf vr vf us) :
    ∀ (d x : Nat) (ed : List Int) (out : List (List Int)) (F : Nat → Prop) (H : AH), x < N → far.getD x 0 = (d : Int) → ed.length + d ≤ 100 → out.length + wN L far d x ≤ 1000000 → IOut HB po out F H → LSt HB fx pe F H ed →
      ACalls Tryz.prog 171 [.int .i64 (x : Int), .pointer (some ⟨pt, 0, none⟩), .pointer (some ⟨po, 0, none⟩), .pointer (some ⟨pe, 0, none⟩), .pointer (some ⟨pr, 0, none⟩), .pointer (some ⟨pfar, 0, none⟩), .pointer (some ⟨pf, 0, none⟩)] H fun r H' =>
        ∃ F', IOut HB po (out ++ wA L far d x ed) F' H' ∧ LSt HB fx pe F' H' ed := by
  intro d
  have hll := hF.ll
  have hfl := hF.fl
  induction d with
  | zero =>
    intro x ed out F H hx hd hed hout hO hL
    have hxt := hF.uniq x hx hd
    subst hxt
    refine in171 rfl ?_
    intro Q hQ
    obtain ⟨w, hw1, hw2, hw3, hw4⟩ := hL.row
    have q := hR hL
    simp (maxSteps := 1000000) (disch := omega) only [cd171, q.t, S, S1, S2, S3, S4, S5, ST, eq_self, reduceIte, reduceCtorEq, Nat.reduceEqDiff, Nat.reduceAdd]
    have hO1 := hO
    obtain ⟨o, us1, hpo, _⟩ := hO1
    simp (maxSteps := 1000000) (disch := omega) only [cell_of hpo, hw1, S, S1, S2, S3, S4, S5, ST, eq_self, reduceIte, reduceCtorEq, Nat.reduceEqDiff, Nat.reduceAdd]
    refine CallH.by (Clone_c w ed H hw2 (by omega)) ?_
    rintro c C ⟨hc, pC⟩
    have hout' : out.length + 1 ≤ 1000000 := hout
    obtain ⟨w2, H3, H4, p0, p1, p2, p3, p4, F', hO4, hF4, hk4⟩ := hO.push hL.pre pC hc (by omega)
    have hww := p0.symm.trans (cell_of hpo 0)
    simp only [List.getElem?_cons_zero, Option.some.injEq, Value.slice.injEq] at hww
    obtain ⟨hww, _, _⟩ := hww
    subst hww
    simp (maxSteps := 1000000) (disch := omega) only [p1, p2, p3, p4, S, S1, S2, S3, S4, S5, ST, eq_self, reduceIte, reduceCtorEq, Nat.reduceEqDiff, Nat.reduceAdd]
    refine hQ _ _ _ ?_
    simp (maxSteps := 1000000) (disch := omega) only [S, S1, S2, S3, S4, S5, ST, eq_self, reduceIte, reduceCtorEq, Nat.reduceEqDiff, Nat.reduceAdd]
    exact ⟨F', hO4, hL.cb (fun o ho => (hO.live ho).2) hF4 hk4⟩
  | succ d ih =>
    intro x ed out F H hx hd hed hout hO hL
    refine in171 rfl ?_
    intro Q hQ
    have q := hR hL
    have hne : ¬ (x : Int) = (t : Int) := fun e => by
      have : x = t := by omega
      subst this
      rw [hF.zero] at hd; omega
    obtain ⟨ru, lu, eu⟩ := q.rows
    have hcx := ru.cell (show x < us.length by omega)
    have hrow := eu x (by omega)
    simp (maxSteps := 1000000) (disch := omega) only [cd171, q.t, decide_eq_false hne, q.r, ru.ix Tryz.underlying26 cs38, Int.toNat_natCast, hcx, hrow.len Tryz.underlying38, S, S1, S2, S3, S4, S5, ST, eq_self, reduceIte, reduceCtorEq, Nat.reduceEqDiff, Nat.reduceAdd]
    have eM : wA L far (d + 1) (x : Int) ed = wT far (wA L far d) (d : Int) ed (L.getD x []) := by rw [wA, Int.toNat_natCast]
    have eN : wN L far (d + 1) (x : Int) = wNT far (wN L far d) (d : Int) (L.getD x []) := by rw [wN, Int.toNat_natCast]
    rw [eM] at hQ
    rw [eN] at hout
    have hlx := hF.lok x
    generalize hxs : L.getD x [] = xs at *
    generalize hvx : us.getD x undef = vx at *
    have hsl : xs.length ≤ 8 := by
      have := nodup_leA (xs.map fun z => z.toNat) (List.range N) (by
        rw [List.Nodup, List.pairwise_map]
        have ha := hF.asc x
        rw [hxs] at ha
        refine List.Pairwise.imp_of_mem ?_ ha
        intro a b ha hb hab e
        have := hlx a ha
        have := hlx b hb
        omega) (fun y hy => by
        obtain ⟨z, hz, rfl⟩ := List.mem_map.1 hy
        have := hlx z hz
        exact List.mem_range.2 (by omega))
      rw [List.length_map, List.length_range] at this
      omega
    have rowH : ∀ {F' H' ed'}, LSt HB fx pe F' H' ed' → Row 3 H' vx xs := fun h => by
      have := (hR h).rows.2.2 x (by omega)
      rwa [hxs, hvx] at this
    refine LoopH.by (fun m s H' => ∃ (k : Nat) (out' : List (List Int)) (F' : Nat → Prop), m + k = xs.length ∧ s 0 = .int .i64 (x : Int) ∧ s 1 = .pointer (some ⟨pt, 0, none⟩) ∧ s 2 = .pointer (some ⟨po, 0, none⟩) ∧ s 3 = .pointer (some ⟨pe, 0, none⟩) ∧ s 4 = .pointer (some ⟨pr, 0, none⟩) ∧ s 5 = .pointer (some ⟨pfar, 0, none⟩) ∧ s 6 = .pointer (some ⟨pf, 0, none⟩) ∧ s 21 = vx ∧ s 22 = .int .i64 (xs.length : Int) ∧ s 23 = .int .i64 ((k : Nat) : Int) ∧
      out' ++ wT far (wA L far d) (d : Int) ed (xs.drop k) = out ++ wT far (wA L far d) (d : Int) ed xs ∧ out'.length + wNT far (wN L far d) (d : Int) (xs.drop k) ≤ 1000000 ∧ IOut HB po out' F' H' ∧ LSt HB fx pe F' H' ed) xs.length ?_ ?_
    · exact ⟨0, out, F, by simp, rfl, rfl, rfl, rfl, rfl, rfl, rfl, rfl, rfl, rfl, rfl, hout, hO, hL⟩
    rintro m s H' ⟨k, out', F', hm, h0, h1, h2, h3, h4, h5, h6, h21, h22, h23, hT, hcnt, hO', hL'⟩
    have hx' := rowH hL'
    have q' := hR hL'
    simp (maxSteps := 1000000) (disch := omega) only [h0, h1, h2, h3, h4, h5, h6, h21, h22, h23, S, S1, S2, S3, S4, S5, ST, eq_self, reduceIte, reduceCtorEq, Nat.reduceEqDiff, Nat.reduceAdd]
    refine brD.intro (fun g => ?_) (fun g => ?_)
    rotate_left
    · have hk : k = xs.length := by omega
      subst hk
      simp (maxSteps := 1000000) (disch := omega) only [S, S1, S2, S3, S4, S5, ST, eq_self, reduceIte, reduceCtorEq, Nat.reduceEqDiff, Nat.reduceAdd]
      refine hQ _ _ _ ?_
      simp (maxSteps := 1000000) (disch := omega) only [S, S1, S2, S3, S4, S5, ST, eq_self, reduceIte, reduceCtorEq, Nat.reduceEqDiff, Nat.reduceAdd]
      rw [List.drop_length] at hT
      rw [← hT]
      simp only [wT, List.append_nil]
      exact ⟨F', hO', hL'⟩
    have hk : k < xs.length := by omega
    have hym : xs.getD k 0 ∈ xs := by simp [hk]
    have hyr := hlx _ hym
    have hck := hx'.cell hk
    obtain ⟨y, hy⟩ : ∃ y : Nat, xs.getD k 0 = y := ⟨(xs.getD k 0).toNat, by omega⟩
    rw [hy] at hck hyr
    have hdrop : xs.drop k = (y : Int) :: xs.drop (k + 1) := by
      rw [List.drop_eq_getElem_cons hk]
      congr 1
      rw [← hy]; simp [hk]
    rw [hdrop, wT, Int.toNat_natCast] at hT
    rw [hdrop, wNT, Int.toNat_natCast] at hcnt
    have hfr := q'.far
    have hcy := hfr.cell (show y < far.length by omega)
    have hcx := hfr.cell (show x < far.length by omega)
    rw [hd] at hcx
    have hw1 : IntKind.i64.wrap (((d + 1 : Nat) : Int) - 1) = (d : Int) := by rw [wrap64 (by omega) (by omega)]; omega
    simp (maxSteps := 1000000) (disch := omega) only [h0, h1, h2, h3, h4, h5, h6, h21, h22, h23, hx'.ix Tryz.underlying38 cs3, Int.toNat_natCast, hck, q'.f, hfr.ix Tryz.underlying38 cs3, hcy, hcx, hw1, S, S1, S2, S3, S4, S5, ST, eq_self, reduceIte, reduceCtorEq, Nat.reduceEqDiff, Nat.reduceAdd]
    by_cases e : far.getD y 0 = (d : Int)
    · rw [if_pos e] at hT hcnt
      obtain ⟨w', hw1', hw2', hw3', hw4'⟩ := hL'.row
      obtain ⟨w3, H2, H3, p1, p2, p3, hL3, hk3, hl3, _⟩ := hL'.push (fun o ho => (hO'.live ho).1) (by omega) (y : Int)
      have hO3 := hO'.keep hk3
      have q3 := hR hL3
      have hff := q3.c
      simp (maxSteps := 1000000) (disch := omega) only [decide_eq_true e, h0, h1, h2, h3, h4, h5, h6, h21, h22, h23, p1, p2, p3, ld_one agW, cell_of hff, S, S1, S2, S3, S4, S5, ST, eq_self, reduceIte, reduceCtorEq, Nat.reduceEqDiff, Nat.reduceAdd]
      refine CallH.by (ih y (ed ++ [(y : Int)]) out' F' H3 (by omega) e (by simp; omega) (by omega) hO3 hL3) ?_
      rintro _ H4 ⟨F4, hO4, hL4⟩
      obtain ⟨w4, c4, r1, r2, H5, r3, hL5, hk5, hl5⟩ := hL4.pop
      have hO5 := hO4.keep hk5
      have f2 : (out' ++ wA L far d (y : Int) (ed ++ [(y : Int)])).length + wNT far (wN L far d) (d : Int) (xs.drop (k + 1)) ≤ 1000000 := by rw [List.length_append, wA_len]; omega
      have f3 : (out' ++ wA L far d (y : Int) (ed ++ [(y : Int)])) ++ wT far (wA L far d) (d : Int) ed (xs.drop (k + 1)) = out ++ wT far (wA L far d) (d : Int) ed xs := by rw [← hT, List.append_assoc]
      have hcl : ((ed.length + 1 : Nat) : Int) - 1 = (ed.length : Int) := by omega
      simp (maxSteps := 1000000) (disch := omega) only [h0, h1, h2, h3, h4, h5, h6, h21, h22, h23, r1, hcl, r2, r3, wrap64, S, S1, S2, S3, S4, S5, ST, eq_self, reduceIte, reduceCtorEq, Nat.reduceEqDiff, Nat.reduceAdd]
      refine ⟨m - 1, by omega, k + 1, out' ++ wA L far d (y : Int) (ed ++ [(y : Int)]), F4, ?_⟩
      (repeat' first | exact f2 | exact f3 | exact hO5 | exact hL5 | apply And.intro) <;> first | (simp only [Value.int.injEq, true_and]; omega) | omega | rfl | assumption | (simp; done) | (simp; omega)
    · rw [if_neg e, List.nil_append] at hT
      rw [if_neg e, Nat.zero_add] at hcnt
      simp (maxSteps := 1000000) (disch := omega) only [decide_eq_false e, h0, h1, h2, h3, h4, h5, h6, h21, h22, h23, wrap64, S, S1, S2, S3, S4, S5, ST, eq_self, reduceIte, reduceCtorEq, Nat.reduceEqDiff, Nat.reduceAdd]
      refine ⟨m - 1, by omega, k + 1, out', F', ?_⟩
      (repeat' first | exact hT | exact hcnt | exact hO' | exact hL' | apply And.intro) <;> first | (simp only [Value.int.injEq, true_and]; omega) | omega | rfl | assumption | (simp; done) | (simp; omega)
/-- all objects but some -/
def objs (G : AH) (p : Nat → Bool) : List (Nat × AObj) := (List.range G.length).filterMap fun i => if p i = true then G[i]?.map fun y => (i, y) else none
theorem objs_mem {G : AH} {p : Nat → Bool} {q : Nat × AObj} : q ∈ objs G p ↔ p q.1 = true ∧ G[q.1]? = some q.2 := by
  unfold objs
  rw [List.mem_filterMap]
  constructor
  · rintro ⟨i, hi, h⟩
    split at h
    · rename_i hp
      rw [Option.map_eq_some_iff] at h
      obtain ⟨y, h1, rfl⟩ := h
      exact ⟨hp, h1⟩
    · cases h
  · rintro ⟨h1, h2⟩
    refine ⟨q.1, List.mem_range.2 (at_lt h2), ?_⟩
    rw [if_pos h1, h2]; rfl
set_option maxRecDepth 20000 in
set_option maxHeartbeats 8000000 in
theorem ways_c (n : Int) (v : Value) (es : List (Int × Int)) (s t : Int) (H : AH) (hr : RowP 83 H v es) (hlen : es.length ≤ 1099511627776) (hw : WsOk n es s t) :
    ACalls Tryz.prog 139 [.agg (List.toArray [.int .i64 n, v]), .int .i64 s, .int .i64 t] H fun r H' => InL H.length H'.length 38 3 H' r (wsL n es s t) ∧ H <+: H' := by
  have hF := farG_ok hw
  obtain ⟨hg, hs, ht⟩ := hw
  have h8 := hg.1
  obtain ⟨sN, rfl⟩ : ∃ k : Nat, s = k := ⟨s.toNat, by omega⟩
  obtain ⟨tN, rfl⟩ : ∃ k : Nat, t = k := ⟨t.toNat, by omega⟩
  have hWs : wsL n es (sN : Int) (tN : Int) = if 0 ≤ (farG n es (tN : Int)).getD sN 0 then wA (roadsL n.toNat es) (farG n es (tN : Int)) ((farG n es (tN : Int)).getD sN 0).toNat (sN : Int) [(sN : Int)] else [] := by
    unfold wsL
    rw [Int.toNat_natCast]
    by_cases e : 0 ≤ (farG n es (tN : Int)).getD sN 0
    · rw [if_pos ⟨⟨hg, hs, ht⟩, e⟩, if_pos e]
    · rw [if_neg (fun q => e q.2), if_neg e]
  refine in139 rfl ?_
  intro Q hQ
  rw [hWs] at hQ
  simp (maxSteps := 1000000) (disch := omega) only [cd139, hr.boxG, box_iW, S, S1, S2, S3, S4, S5, ST, eq_self, reduceIte, reduceCtorEq, Nat.reduceEqDiff, Nat.reduceAdd]
  generalize hA : H ++ [AObj.cells [.int .i64 n, v] 31 false] = A
  have pA : H <+: A := by rw [← hA]; exact List.prefix_append _ _
  have cA : A[H.length]? = some (.cells [.int .i64 n, v] 31 false) := by rw [← hA]; exact at_new ..
  have rA := hr.pre pA
  have lA : A.length = H.length + 1 := by rw [← hA]; simp
  generalize hB : A ++ [AObj.cells [.int .i64 (tN : Int)] 3 false] = B
  have pB : A <+: B := by rw [← hB]; exact List.prefix_append _ _
  have cB : B[A.length]? = some (.cells [.int .i64 (tN : Int)] 3 false) := by rw [← hB]; exact at_new ..
  have lB : B.length = A.length + 1 := by rw [← hB]; simp
  generalize hC : B ++ [AObj.cells [] 38 false] = C
  have pC : B <+: C := by rw [← hC]; exact List.prefix_append _ _
  have cC : C[B.length]? = some (.cells [] 38 false) := by rw [← hC]; exact at_new ..
  have lC : C.length = B.length + 1 := by rw [← hC]; simp
  have pAC := pB.trans pC
  simp (maxSteps := 1000000) (disch := omega) only [ld_agg ag31 cs31 (pre_at pAC cA), S, S1, S2, S3, S4, S5, ST, eq_self, reduceIte, reduceCtorEq, Nat.reduceEqDiff, Nat.reduceAdd]
  refine CallH.by (roads_c n v es C (rA.pre pAC) hlen hg) ?_
  rintro vr D ⟨hL, pD⟩
  have lD := pD.length_le
  have hrl := roadsL_len n.toNat es
  obtain ⟨us, ru, lu, eu⟩ := hL.parts
  obtain ⟨pv, hpv⟩ := ru.shape
  simp (maxSteps := 1000000) (disch := omega) only [alloc_llW, S, S1, S2, S3, S4, S5, ST, eq_self, reduceIte, reduceCtorEq, Nat.reduceEqDiff, Nat.reduceAdd]
  generalize hE1 : D ++ [AObj.cells [.slice none 0 0] 26 false] = E1
  have pE1 : D <+: E1 := by rw [← hE1]; exact List.prefix_append _ _
  have cE1 : E1[D.length]? = some (.cells [.slice none 0 0] 26 false) := by rw [← hE1]; exact at_new ..
  have lE1 : E1.length = D.length + 1 := by rw [← hE1]; simp
  generalize hE2 : E1 ++ [AObj.cells [.slice none 0 0] 26 false] = E2
  have pE2 : E1 <+: E2 := by rw [← hE2]; exact List.prefix_append _ _
  have cE2 : E2[E1.length]? = some (.cells [.slice none 0 0] 26 false) := by rw [← hE2]; exact at_new ..
  have lE2 : E2.length = E1.length + 1 := by rw [← hE2]; simp
  have s1 := st_at (P := Tryz.prog) (t := 26) (i := 0) (y := .slice (some ⟨B.length, 0, none⟩) 0 0) cs26 (pre_at pE2 cE1) (by show 0 < 1; decide) rfl rfl
  rw [List.set_cons_zero] at s1
  generalize hE3 : E2.set D.length (.cells [.slice (some ⟨B.length, 0, none⟩) 0 0] 26 false) = E3 at *
  have at3 : ∀ {o y}, o ≠ D.length → E2[o]? = some y → E3[o]? = some y := fun ho hy => by rw [← hE3, List.getElem?_set_ne (fun e => ho e.symm)]; exact hy
  have l3 : E3.length = E2.length := by rw [← hE3]; simp
  have c3 : E3[D.length]? = some (.cells [.slice (some ⟨B.length, 0, none⟩) 0 0] 26 false) := by rw [← hE3, List.getElem?_set_self (by omega)]
  have s2 := st_at (P := Tryz.prog) (t := 26) (i := 0) (y := vr) cs26 (at3 (by omega) cE2) (by show 0 < 1; decide) (by rw [hpv]; rfl) (by rw [hpv]; rfl)
  rw [List.set_cons_zero] at s2
  generalize hE4 : E3.set E1.length (.cells [vr] 26 false) = E4 at *
  have at4 : ∀ {o y}, o ≠ E1.length → E3[o]? = some y → E4[o]? = some y := fun ho hy => by rw [← hE4, List.getElem?_set_ne (fun e => ho e.symm)]; exact hy
  have l4 : E4.length = E3.length := by rw [← hE4]; simp
  have c4 : E4[E1.length]? = some (.cells [vr] 26 false) := by rw [← hE4, List.getElem?_set_self (by omega)]
  have old4 : ∀ {o y}, o < D.length → D[o]? = some y → E4[o]? = some y := fun ho hy => at4 (by omega) (at3 (by omega) (pre_at (pE1.trans pE2) hy))
  have pD4 : D <+: E4 := prefix_of fun o y hy => old4 (at_lt hy) hy
  have d4 := at4 (by omega) c3
  have hL4 := hL.pre pD4
  simp (maxSteps := 1000000) (disch := omega) only [s1, s2, cell_of c4, cell_of (pre_at pD4 (pre_at (pC.trans pD) cB)), S, S1, S2, S3, S4, S5, ST, eq_self, reduceIte, reduceCtorEq, Nat.reduceEqDiff, Nat.reduceAdd]
  refine CallH.by (spread_c vr (roadsL n.toNat es) tN E4 hL4.row (roadsL_ok _ _) (by omega) (by omega) (roadsL_small _ _ (by omega))) ?_
  rintro vf F ⟨hf, pF⟩
  have lF := pF.length_le
  have hfar : farG n es (tN : Int) = bfs (roadsL n.toNat es) tN := by unfold farG; rw [Int.toNat_natCast]
  rw [Int.toNat_natCast] at hF
  rw [← hfar] at hf
  have hb := hF.lo sN (by omega)
  have hfl := hF.fl
  generalize farG n es (tN : Int) = far at *
  generalize roadsL n.toNat es = L at *
  obtain ⟨pf0, hpf0⟩ := hf.row.shape
  have st7 := st_at (P := Tryz.prog) (t := 38) (i := 0) (y := vf) cs38 (at_new F (.cells [.slice none 0 0] 38 false)) (by show 0 < 1; decide) (by rw [hpf0]; rfl) (by rw [hpf0]; rfl)
  rw [set_new, List.set_cons_zero] at st7
  simp (maxSteps := 1000000) (disch := omega) only [alloc_slW, st7, S, S1, S2, S3, S4, S5, ST, eq_self, reduceIte, reduceCtorEq, Nat.reduceEqDiff, Nat.reduceAdd]
  generalize hG : F ++ [AObj.cells [vf] 38 false] = G
  have pG : F <+: G := by rw [← hG]; exact List.prefix_append _ _
  have cG : G[F.length]? = some (.cells [vf] 38 false) := by rw [← hG]; exact at_new ..
  have lG : G.length = F.length + 1 := by rw [← hG]; simp
  have hfG := hf.row.pre pG
  have hcs := hfG.cell (show sN < far.length by omega)
  have p4G := pF.trans pG
  have pHD := pA.trans (pAC.trans pD)
  have pH4 := pHD.trans pD4
  have pHG := pH4.trans p4G
  simp (maxSteps := 1000000) (disch := omega) only [cell_of cG, hfG.ix Tryz.underlying38 cs3, Int.toNat_natCast, hcs, S, S1, S2, S3, S4, S5, ST, eq_self, reduceIte, reduceCtorEq, Nat.reduceEqDiff, Nat.reduceAdd]
  refine brD.intro (fun e => ?_) (fun e => ?_)
  · simp (maxSteps := 1000000) (disch := omega) only [cell_of (pre_at p4G d4), S, S1, S2, S3, S4, S5, ST, eq_self, reduceIte, reduceCtorEq, Nat.reduceEqDiff, Nat.reduceAdd]
    refine hQ _ _ _ ?_
    simp (maxSteps := 1000000) (disch := omega) only [S, S1, S2, S3, S4, S5, ST, eq_self, reduceIte, reduceCtorEq, Nat.reduceEqDiff, Nat.reduceAdd]
    rw [if_neg (by omega)]
    exact ⟨.inr ⟨B.length, [], rfl, by omega, by omega, pre_at p4G (pre_at pD4 (pre_at pD cC)), Nat.le_refl _, fun i hi => absurd hi (by simp), fun i j _ hi _ => absurd hi (by simp)⟩, pHG⟩
  rw [if_pos (by omega)] at hQ
  obtain ⟨d, hd⟩ : ∃ d : Nat, far.getD sN 0 = d := ⟨(far.getD sN 0).toNat, by omega⟩
  rw [hd, Int.toNat_natCast] at hQ
  simp (maxSteps := 1000000) (disch := omega) only [S, S1, S2, S3, S4, S5, ST, eq_self, reduceIte, reduceCtorEq, Nat.reduceEqDiff, Nat.reduceAdd]
  generalize hI : G ++ [AObj.cells [.int .i64 (sN : Int)] 3 false] = I
  have pI : G <+: I := by rw [← hI]; exact List.prefix_append _ _
  have cI : I[G.length]? = some (.cells (ints [(sN : Int)]) 3 false) := by rw [← hI]; exact at_new ..
  have lI : I.length = G.length + 1 := by rw [← hI]; simp
  have st9 := st_at (P := Tryz.prog) (t := 38) (i := 0) (y := .slice (some ⟨G.length, 0, none⟩) 1 1) cs38 (at_new I (.cells [.slice none 0 0] 38 false)) (by show 0 < 1; decide) rfl rfl
  rw [set_new, List.set_cons_zero] at st9
  simp (maxSteps := 1000000) (disch := omega) only [alloc_slW, st9, alloc_fW, mkf_6W, S, S1, S2, S3, S4, S5, ST, eq_self, reduceIte, reduceCtorEq, Nat.reduceEqDiff, Nat.reduceAdd]
  generalize hJ : I ++ [AObj.cells [.slice (some ⟨G.length, 0, none⟩) 1 1] 38 false] = J
  have pJ : I <+: J := by rw [← hJ]; exact List.prefix_append _ _
  have cJ : J[I.length]? = some (.cells [.slice (some ⟨G.length, 0, none⟩) 1 1] 38 false) := by rw [← hJ]; exact at_new ..
  have lJ : J.length = I.length + 1 := by rw [← hJ]; simp
  have st11 := st_at (P := Tryz.prog) (t := 163) (i := 0) (y := wayClo A.length D.length I.length E1.length F.length J.length) csW (at_new J (.cells [.nilFunc] 163 false)) (by show 0 < 1; decide) rfl rfl
  rw [set_new, List.set_cons_zero] at st11
  simp (maxSteps := 1000000) (disch := omega) only [st11, ld_one agW, cell_new, S, S1, S2, S3, S4, S5, ST, eq_self, reduceIte, reduceCtorEq, Nat.reduceEqDiff, Nat.reduceAdd]
  generalize hK : J ++ [AObj.cells [wayClo A.length D.length I.length E1.length F.length J.length] 163 false] = K
  have pK : J <+: K := by rw [← hK]; exact List.prefix_append _ _
  have cK : K[J.length]? = some (.cells [wayClo A.length D.length I.length E1.length F.length J.length] 163 false) := by rw [← hK]; exact at_new ..
  have lK : K.length = J.length + 1 := by rw [← hK]; simp
  have pGK := pI.trans (pJ.trans pK)
  have p4K := p4G.trans pGK
  have pHK := pH4.trans p4K
  have gpo := pre_at p4K d4
  have goo := pre_at p4K (pre_at pD4 (pre_at pD cC))
  have gpe := pre_at pK cJ
  have goe := pre_at (pJ.trans pK) cI
  have gt := pre_at p4K (pre_at pD4 (pre_at (pC.trans pD) cB))
  have gr := pre_at p4K c4
  have gf := pre_at pGK cG
  have nob : ∀ j, j ≠ B.length → ¬ Obs B.length [] [] j := by
    rintro j hj (e | ⟨i, hi, _⟩)
    · exact hj e
    · simp at hi
  have hO : IOut H D.length [] (fun j => j = D.length ∨ Obs B.length [] [] j) K :=
    ⟨B.length, [], gpo, ⟨by omega, by omega, goo, Nat.le_refl _, fun i hi => absurd hi (by simp), fun i j _ hi _ => absurd hi (by simp)⟩, by omega, nob _ (by omega), rfl⟩
  have nF : ∀ {j}, j ≠ D.length → j ≠ B.length → ¬ ((fun j => j = D.length ∨ Obs B.length [] [] j) j) := fun h1 h2 h => h.elim h1 (nob _ h2)
  have hLS : LSt H (objs K fun i => decide (i ≠ D.length ∧ i ≠ B.length ∧ i ≠ I.length ∧ i ≠ G.length)) I.length (fun j => j = D.length ∨ Obs B.length [] [] j) K [(sN : Int)] := by
    refine ⟨fun q hq => ?_, ⟨G.length, [(sN : Int)], gpe, goe, rfl, nF (by omega) (by omega), by omega, fun q hq => ?_, by omega⟩, nF (by omega) (by omega), by omega, pHK⟩
    · obtain ⟨q1, q2⟩ := objs_mem.1 hq
      have q1 := of_decide_eq_true q1
      exact ⟨q2, nF q1.1 q1.2.1, q1.2.2.1⟩
    · obtain ⟨q1, _⟩ := objs_mem.1 hq
      exact (of_decide_eq_true q1).2.2.2
  have hfK := hf.row.pre (pG.trans pGK)
  have hvf : vf = .slice none 0 0 ∨ (E4.length ≤ rowO vf ∧ rowO vf < F.length) := own_nil hf
  have hR : ∀ {F' : Nat → Prop} {H' : AH} {ed : List Int}, LSt H (objs K fun i => decide (i ≠ D.length ∧ i ≠ B.length ∧ i ≠ I.length ∧ i ≠ G.length)) I.length F' H' ed → WayR H' L far tN A.length D.length I.length E1.length F.length J.length vr vf us := by
    intro F' H' ed h
    have keep : ∀ {j : Nat} {y : AObj}, j ≠ D.length → j ≠ B.length → j ≠ I.length → j ≠ G.length → K[j]? = some y → H'[j]? = some y := fun h1 h2 h3 h4 hy => (h.fix (_, _) (objs_mem.2 ⟨decide_eq_true ⟨h1, h2, h3, h4⟩, hy⟩)).1
    have cells : ∀ {w : Value} {e : TypeId} {H0 : AH}, (w = .slice none 0 0 ∨ (C.length ≤ rowO w ∧ rowO w < D.length) ∨ (E4.length ≤ rowO w ∧ rowO w < F.length)) → w ≠ .slice none 0 0 → ∀ y, K[rowO w]? = some y → H'[rowO w]? = some y := fun hw hn y hy => by
      rcases hw with q | q | q
      · exact absurd q hn
      · exact keep (by omega) (by omega) (by omega) (by omega) hy
      · exact keep (by omega) (by omega) (by omega) (by omega) hy
    refine ⟨cell_of (keep (by omega) (by omega) (by omega) (by omega) gt) 0, cell_of (keep (by omega) (by omega) (by omega) (by omega) gr) 0, cell_of (keep (by omega) (by omega) (by omega) (by omega) gf) 0, keep (by omega) (by omega) (by omega) (by omega) cK, ⟨?_, lu, fun i hi => ?_⟩, ?_⟩
    · have hvr : vr = .slice none 0 0 ∨ (C.length ≤ rowO vr ∧ rowO vr < D.length) := by
        rcases hL with q | ⟨o, us', q, q1, q2, _⟩
        · exact .inl q.1
        · right; rw [q]; exact ⟨q1, q2⟩
      rcases ru.pre (pD4.trans p4K) with q | q
      · exact .inl q
      · refine RowV.mono (.inr q) fun y hy => ?_
        rcases hvr with g | g
        · obtain ⟨o', k', _, _, g1, _⟩ := q
          rw [g] at g1; cases g1
        · exact keep (by omega) (by omega) (by omega) (by omega) hy
    · have hi1 := eu i hi
      have hi2 := hi1.at_
      rcases hi1.row.1.pre (pD4.trans p4K) with q | q
      · exact .inl q
      · refine Row.mono (.inr q) fun y hy => ?_
        rcases hi2 with g | g
        · obtain ⟨o', k', _, _, g1, _⟩ := q
          rw [g] at g1; cases g1
        · exact keep (by omega) (by omega) (by omega) (by omega) hy
    · rcases hfK with q | q
      · exact .inl q
      · refine Row.mono (.inr q) fun y hy => ?_
        rcases hvf with g | g
        · obtain ⟨o', k', _, _, g1, _⟩ := q
          rw [g] at g1; cases g1
        · exact keep (by omega) (by omega) (by omega) (by omega) hy
  have h9 := hF.nine (by omega) (show sN < n.toNat by omega) hd
  refine CallH.by (wayRec_c hF (by omega) A.length D.length I.length E1.length F.length J.length vr vf us hR d sN [(sN : Int)] [] _ K (by omega) hd (by simp; omega) (by simp; omega) hO hLS) ?_
  rintro _ H' ⟨F', hO', hL'⟩
  obtain ⟨o, us', h1, h2, _⟩ := hO'
  simp (maxSteps := 1000000) (disch := omega) only [cell_of h1, S, S1, S2, S3, S4, S5, ST, eq_self, reduceIte, reduceCtorEq, Nat.reduceEqDiff, Nat.reduceAdd]
  refine hQ _ _ _ ?_
  simp (maxSteps := 1000000) (disch := omega) only [S, S1, S2, S3, S4, S5, ST, eq_self, reduceIte, reduceCtorEq, Nat.reduceEqDiff, Nat.reduceAdd]
  exact ⟨h2.inl, hL'.pre⟩
end Go.Proofs.YtlfongfhbkefmaaGreat.Ai
namespace Go.Proofs.YtlfongfhbkefmaaGreat.Ai
open Go
def ords138 : List (Nat × List (Nat × Bool)) := []
def cd138 : Cd := (.seq (.reg [⟨⟨some 3, Op.box 31 (Operand.tmp 0), none⟩, []⟩,
  ⟨⟨some 6, Op.assign (Operand.const (Value.bool false)), none⟩, []⟩]) (.seq (.reg [⟨⟨some 7, Op.load 31 (Operand.tmp 3), none⟩, []⟩,
  ⟨⟨some 8, Op.call { callee := (Callee.value (Operand.func 39)), args := #[(Operand.tmp 7)], argTypes := #[31] }, none⟩, []⟩,
  ⟨⟨some 9, Op.move (Operand.tmp 8), none⟩, []⟩,
  ⟨⟨some 10, Op.move (Operand.tmp 1), some (9, true)⟩, []⟩,
  ⟨⟨some 11, Op.fieldAddr 31 (Operand.tmp 3) 0, some (9, true)⟩, []⟩,
  ⟨⟨some 12, Op.load 3 (Operand.tmp 11), some (9, true)⟩, []⟩,
  ⟨⟨some 13, Op.binOp BinOp.sub 3 (Operand.tmp 12) (Operand.const (Value.int IntKind.i64 1)) 3, some (9, true)⟩, []⟩,
  ⟨⟨some 14, Op.call { callee := (Callee.value (Operand.func 88)), args := #[(Operand.tmp 10), (Operand.const (Value.int IntKind.i64 0)), (Operand.tmp 13)], argTypes := #[3, 3, 3] }, some (9, true)⟩, []⟩,
  ⟨⟨some 15, Op.pick (Operand.tmp 9) (Operand.tmp 14) (Operand.const (Value.bool false)), none⟩, []⟩,
  ⟨⟨some 16, Op.move (Operand.tmp 15), none⟩, []⟩,
  ⟨⟨some 17, Op.move (Operand.tmp 2), some (16, true)⟩, []⟩,
  ⟨⟨some 18, Op.fieldAddr 31 (Operand.tmp 3) 0, some (16, true)⟩, []⟩,
  ⟨⟨some 19, Op.load 3 (Operand.tmp 18), some (16, true)⟩, []⟩,
  ⟨⟨some 20, Op.binOp BinOp.sub 3 (Operand.tmp 19) (Operand.const (Value.int IntKind.i64 1)) 3, some (16, true)⟩, []⟩,
  ⟨⟨some 21, Op.call { callee := (Callee.value (Operand.func 88)), args := #[(Operand.tmp 17), (Operand.const (Value.int IntKind.i64 0)), (Operand.tmp 20)], argTypes := #[3, 3, 3] }, some (16, true)⟩, []⟩,
  ⟨⟨some 22, Op.pick (Operand.tmp 16) (Operand.tmp 21) (Operand.const (Value.bool false)), none⟩, []⟩,
  ⟨⟨some 6, Op.assign (Operand.tmp 22), none⟩, []⟩]) .ret))
theorem sl138 : slim Tryz.f138.ntmps ords138 (Tryz.f138.body.getD .skip) = some cd138 := by kernel_rfl
theorem in138 {args : List Value} {H : AH} {R : Value → AH → Prop} (hl : args.length = 3) (h : ∀ (Q : Exit → Sl → AH → Prop), (∀ e s H, endA Tryz.prog [ResultVar.tmp 6] R e s H → Q e s H) → wpC Tryz.prog cd138 Q (enterA args) H) : ACalls Tryz.prog 138 args H R :=
  ACalls.intro (by kernel_rfl) Tryz.func138 rfl (by kernel_rfl) sl138 hl (of_decide_eq_true (by kernel_rfl)) (by kernel_rfl) h
def ords106 : List (Nat × List (Nat × Bool)) := []
def cd106 : Cd := (.seq (.reg [⟨⟨some 3, Op.box 31 (Operand.tmp 0), none⟩, []⟩,
  ⟨⟨some 6, Op.assign (Operand.const (Value.slice none 0 0)), none⟩, []⟩,
  ⟨⟨some 7, Op.assign (Operand.const (Value.bool false)), none⟩, []⟩]) (.seq (.seq (.reg [⟨⟨some 9, Op.load 31 (Operand.tmp 3), none⟩, []⟩,
  ⟨⟨some 10, Op.move (Operand.tmp 1), none⟩, []⟩,
  ⟨⟨some 11, Op.move (Operand.tmp 2), none⟩, []⟩,
  ⟨⟨some 12, Op.call { callee := (Callee.value (Operand.func 138)), args := #[(Operand.tmp 9), (Operand.tmp 10), (Operand.tmp 11)], argTypes := #[31, 3, 3] }, none⟩, []⟩,
  ⟨⟨some 13, Op.unOp UnOp.not 4 (Operand.tmp 12), none⟩, []⟩]) (.cond (Operand.tmp 13) (.seq (.reg [⟨⟨some 6, Op.assign (Operand.const (Value.slice none 0 0)), none⟩, []⟩,
  ⟨⟨some 7, Op.assign (Operand.const (Value.bool false)), none⟩, []⟩]) .ret) .skip)) (.seq (.reg [⟨⟨some 14, Op.load 31 (Operand.tmp 3), none⟩, []⟩,
  ⟨⟨some 15, Op.move (Operand.tmp 1), none⟩, []⟩,
  ⟨⟨some 16, Op.move (Operand.tmp 2), none⟩, []⟩,
  ⟨⟨some 17, Op.call { callee := (Callee.value (Operand.func 139)), args := #[(Operand.tmp 14), (Operand.tmp 15), (Operand.tmp 16)], argTypes := #[31, 3, 3] }, none⟩, []⟩,
  ⟨⟨some 8, Op.assign (Operand.tmp 17), none⟩, []⟩]) (.seq (.seq (.reg [⟨⟨some 18, Op.move (Operand.tmp 8), none⟩, []⟩,
  ⟨⟨some 19, Op.call { callee := (Callee.builtin Builtin.len), args := #[(Operand.tmp 18)], argTypes := #[26] }, none⟩, []⟩,
  ⟨⟨some 20, Op.call { callee := (Callee.value (Operand.func 88)), args := #[(Operand.tmp 19), (Operand.const (Value.int IntKind.i64 1)), (Operand.const (Value.int IntKind.i64 300))], argTypes := #[3, 3, 3] }, none⟩, []⟩,
  ⟨⟨some 21, Op.unOp UnOp.not 4 (Operand.tmp 20), none⟩, []⟩]) (.cond (Operand.tmp 21) (.seq (.reg [⟨⟨some 6, Op.assign (Operand.const (Value.slice none 0 0)), none⟩, []⟩,
  ⟨⟨some 7, Op.assign (Operand.const (Value.bool false)), none⟩, []⟩]) .ret) .skip)) (.seq (.reg [⟨⟨some 22, Op.move (Operand.tmp 8), none⟩, []⟩,
  ⟨⟨some 6, Op.assign (Operand.tmp 22), none⟩, []⟩,
  ⟨⟨some 7, Op.assign (Operand.const (Value.bool true)), none⟩, []⟩]) .ret)))))
theorem sl106 : slim Tryz.f106.ntmps ords106 (Tryz.f106.body.getD .skip) = some cd106 := by kernel_rfl
theorem in106 {args : List Value} {H : AH} {R : Value → AH → Prop} (hl : args.length = 3) (h : ∀ (Q : Exit → Sl → AH → Prop), (∀ e s H, endA Tryz.prog [ResultVar.tmp 6, ResultVar.tmp 7] R e s H → Q e s H) → wpC Tryz.prog cd106 Q (enterA args) H) : ACalls Tryz.prog 106 args H R :=
  ACalls.intro (by kernel_rfl) Tryz.func106 rfl (by kernel_rfl) sl106 hl (of_decide_eq_true (by kernel_rfl)) (by kernel_rfl) h
def ords107 : List (Nat × List (Nat × Bool)) := []
def cd107 : Cd := (.seq (.reg [⟨⟨some 4, Op.assign (Operand.const (Value.bool false)), none⟩, []⟩]) (.seq (.reg [⟨⟨some 5, Op.move (Operand.tmp 0), none⟩, []⟩,
  ⟨⟨some 6, Op.move (Operand.tmp 1), none⟩, []⟩,
  ⟨⟨some 7, Op.call { callee := (Callee.value (Operand.func 140)), args := #[(Operand.tmp 5), (Operand.tmp 6)], argTypes := #[38, 38] }, none⟩, []⟩,
  ⟨⟨some 8, Op.call { callee := (Callee.builtin Builtin.len), args := #[(Operand.tmp 7)], argTypes := #[38] }, none⟩, []⟩,
  ⟨⟨some 9, Op.binOp BinOp.eql 3 (Operand.tmp 8) (Operand.const (Value.int IntKind.i64 1)) 3, none⟩, []⟩,
  ⟨⟨some 4, Op.assign (Operand.tmp 9), none⟩, []⟩]) .ret))
theorem sl107 : slim Tryz.f107.ntmps ords107 (Tryz.f107.body.getD .skip) = some cd107 := by kernel_rfl
theorem in107 {args : List Value} {H : AH} {R : Value → AH → Prop} (hl : args.length = 2) (h : ∀ (Q : Exit → Sl → AH → Prop), (∀ e s H, endA Tryz.prog [ResultVar.tmp 4] R e s H → Q e s H) → wpC Tryz.prog cd107 Q (enterA args) H) : ACalls Tryz.prog 107 args H R :=
  ACalls.intro (by kernel_rfl) Tryz.func107 rfl (by kernel_rfl) sl107 hl (of_decide_eq_true (by kernel_rfl)) (by kernel_rfl) h
def ords53 : List (Nat × List (Nat × Bool)) := []
def cd53 : Cd := (.seq (.reg [⟨⟨some 3, Op.box 31 (Operand.tmp 0), none⟩, []⟩,
  ⟨⟨some 6, Op.alloc 28, none⟩, []⟩,
  ⟨⟨some 7, Op.assign (Operand.const (Value.bool false)), none⟩, []⟩]) (.seq (.reg [⟨⟨some 11, Op.load 31 (Operand.tmp 3), none⟩, []⟩,
  ⟨⟨some 12, Op.move (Operand.tmp 1), none⟩, []⟩,
  ⟨⟨some 13, Op.move (Operand.tmp 2), none⟩, []⟩,
  ⟨⟨some 14, Op.call { callee := (Callee.value (Operand.func 106)), args := #[(Operand.tmp 11), (Operand.tmp 12), (Operand.tmp 13)], argTypes := #[31, 3, 3] }, none⟩, []⟩,
  ⟨⟨some 10, Op.move (Operand.tmp 14), none⟩, []⟩,
  ⟨⟨some 15, Op.extract (Operand.tmp 10) 0, none⟩, []⟩,
  ⟨⟨some 16, Op.extract (Operand.tmp 10) 1, none⟩, []⟩,
  ⟨⟨some 8, Op.assign (Operand.tmp 15), none⟩, []⟩,
  ⟨⟨some 9, Op.assign (Operand.tmp 16), none⟩, []⟩]) (.seq (.seq (.reg [⟨⟨some 17, Op.move (Operand.tmp 9), none⟩, []⟩,
  ⟨⟨some 18, Op.unOp UnOp.not 4 (Operand.tmp 17), none⟩, []⟩]) (.cond (Operand.tmp 18) (.seq (.reg [⟨⟨some 19, Op.build 28 #[], none⟩, []⟩,
  ⟨⟨none, Op.store 28 (Operand.tmp 6) (Operand.tmp 19), none⟩, []⟩,
  ⟨⟨some 7, Op.assign (Operand.const (Value.bool false)), none⟩, []⟩]) .ret) .skip)) (.seq (.reg [⟨⟨some 20, Op.move (Operand.tmp 8), none⟩, []⟩,
  ⟨⟨some 21, Op.call { callee := (Callee.value (Operand.func 41)), args := #[(Operand.tmp 20), (Operand.func 107)], argTypes := #[26, 43] }, none⟩, []⟩,
  ⟨⟨some 22, Op.call { callee := (Callee.value (Operand.func 40)), args := #[(Operand.tmp 21)], argTypes := #[28] }, none⟩, []⟩,
  ⟨⟨some 23, Op.extract (Operand.tmp 22) 0, none⟩, []⟩,
  ⟨⟨some 24, Op.extract (Operand.tmp 22) 1, none⟩, []⟩,
  ⟨⟨none, Op.store 28 (Operand.tmp 6) (Operand.tmp 23), none⟩, []⟩,
  ⟨⟨some 7, Op.assign (Operand.tmp 24), none⟩, []⟩]) .ret))))
theorem sl53 : slim Tryz.f53.ntmps ords53 (Tryz.f53.body.getD .skip) = some cd53 := by kernel_rfl
set_option maxRecDepth 20000 in
theorem in53 {args : List Value} {H : AH} {R : Value → AH → Prop} (hl : args.length = 3) (h : ∀ (Q : Exit → Sl → AH → Prop), (∀ e s H, endA Tryz.prog [ResultVar.cell 6 28, ResultVar.tmp 7] R e s H → Q e s H) → wpC Tryz.prog cd53 Q (enterA args) H) : ACalls Tryz.prog 53 args H R :=
  ACalls.intro (by kernel_rfl) Tryz.func53 rfl (by kernel_rfl) sl53 hl (of_decide_eq_true (by kernel_rfl)) (by kernel_rfl) h
end Go.Proofs.YtlfongfhbkefmaaGreat.Ai
namespace Go.Proofs.YtlfongfhbkefmaaGreat.Ai
open Go Go.RowKit
set_option linter.unusedVariables false
set_option linter.unusedSimpArgs false
theorem stpO_le_sq (p : List Int → List Int → Bool) (ls : List (List Int)) {N : Nat} (h : ls.length ≤ N) : (steps p ls).length ≤ N * N := Nat.le_trans (stpO_len p ls ls.length) (Nat.mul_le_mul h h)
set_option maxHeartbeats 2000000 in
theorem isTwo_c (n : Int) (v : Value) (es : List (Int × Int)) (s t : Int) (H : AH) (hr : RowP 83 H v es) (hlen : es.length ≤ 1099511627776) :
    ACalls Tryz.prog 138 [.agg (List.toArray [.int .i64 n, v]), .int .i64 s, .int .i64 t] H fun r H' => r = .bool (decide (WsOk n es s t)) ∧ H <+: H' := by
  refine in138 rfl ?_
  intro Q hQ
  simp (maxSteps := 1000000) (disch := omega) only [cd138, hr.boxG, S, S1, S2, S3, S4, S5, ST, eq_self, reduceIte, reduceCtorEq, Nat.reduceEqDiff, Nat.reduceAdd]
  generalize hA : H ++ [AObj.cells [.int .i64 n, v] 31 false] = A
  have pA : H <+: A := by rw [← hA]; exact List.prefix_append _ _
  have cA : A[H.length]? = some (.cells [.int .i64 n, v] 31 false) := by rw [← hA]; exact at_new ..
  have rA := hr.pre pA
  simp (maxSteps := 1000000) (disch := omega) only [ld_agg ag31 cs31 cA, S, S1, S2, S3, S4, S5, ST, eq_self, reduceIte, reduceCtorEq, Nat.reduceEqDiff, Nat.reduceAdd]
  refine CallH.by (IsGraph_c n v es A rA hlen) ?_
  rintro _ B ⟨rfl, pB⟩
  have cB := pre_at pB cA
  have pHB := pA.trans pB
  by_cases e : Grd n es
  rotate_left
  · simp (maxSteps := 1000000) (disch := omega) only [decide_eq_false e, S, S1, S2, S3, S4, S5, ST, eq_self, reduceIte, reduceCtorEq, Nat.reduceEqDiff, Nat.reduceAdd]
    refine hQ _ _ _ ?_
    simp (maxSteps := 1000000) (disch := omega) only [S, S1, S2, S3, S4, S5, ST, eq_self, reduceIte, reduceCtorEq, Nat.reduceEqDiff, Nat.reduceAdd]
    exact ⟨by rw [decide_eq_false (fun h => e h.1)], pHB⟩
  have hn := e.1
  have hw : IntKind.i64.wrap (n - 1) = n - 1 := wrap64 (by omega) (by omega)
  simp (maxSteps := 1000000) (disch := omega) only [decide_eq_true e, cell_of cB, hw, S, S1, S2, S3, S4, S5, ST, eq_self, reduceIte, reduceCtorEq, Nat.reduceEqDiff, Nat.reduceAdd]
  refine CallH.by (between_c s 0 (n - 1) B) ?_
  rintro _ _ ⟨rfl, rfl⟩
  by_cases e1 : 0 ≤ s ∧ s ≤ n - 1
  rotate_left
  · simp (maxSteps := 1000000) (disch := omega) only [decide_eq_false e1, S, S1, S2, S3, S4, S5, ST, eq_self, reduceIte, reduceCtorEq, Nat.reduceEqDiff, Nat.reduceAdd]
    refine hQ _ _ _ ?_
    simp (maxSteps := 1000000) (disch := omega) only [S, S1, S2, S3, S4, S5, ST, eq_self, reduceIte, reduceCtorEq, Nat.reduceEqDiff, Nat.reduceAdd]
    exact ⟨by rw [decide_eq_false (fun h => e1 ⟨h.2.1.1, by have := h.2.1.2; omega⟩)], pHB⟩
  simp (maxSteps := 1000000) (disch := omega) only [decide_eq_true e1, cell_of cB, hw, S, S1, S2, S3, S4, S5, ST, eq_self, reduceIte, reduceCtorEq, Nat.reduceEqDiff, Nat.reduceAdd]
  refine CallH.by (between_c t 0 (n - 1) B) ?_
  rintro _ _ ⟨rfl, rfl⟩
  simp (maxSteps := 1000000) (disch := omega) only [S, S1, S2, S3, S4, S5, ST, eq_self, reduceIte, reduceCtorEq, Nat.reduceEqDiff, Nat.reduceAdd]
  refine hQ _ _ _ ?_
  simp (maxSteps := 1000000) (disch := omega) only [S, S1, S2, S3, S4, S5, ST, eq_self, reduceIte, reduceCtorEq, Nat.reduceEqDiff, Nat.reduceAdd]
  refine ⟨?_, pHB⟩
  rw [Value.bool.injEq, decide_eq_decide]
  exact ⟨fun h => ⟨e, by omega, by omega⟩, fun h => by have := h.2.2; omega⟩
set_option maxHeartbeats 2000000 in
theorem ShortestWays_c (n : Int) (v : Value) (es : List (Int × Int)) (s t : Int) (H : AH) (hr : RowP 83 H v es) (hlen : es.length ≤ 1099511627776) :
    ACalls Tryz.prog 106 [.agg (List.toArray [.int .i64 n, v]), .int .i64 s, .int .i64 t] H fun r H' => (∃ g, r = .tuple (List.toArray [g, .bool (decide (0 < (wsL n es s t).length))]) ∧ InL H.length H'.length 38 3 H' g (wsL n es s t)) ∧ H <+: H' := by
  refine in106 rfl ?_
  intro Q hQ
  simp (maxSteps := 1000000) (disch := omega) only [cd106, hr.boxG, S, S1, S2, S3, S4, S5, ST, eq_self, reduceIte, reduceCtorEq, Nat.reduceEqDiff, Nat.reduceAdd]
  generalize hA : H ++ [AObj.cells [.int .i64 n, v] 31 false] = A
  have pA : H <+: A := by rw [← hA]; exact List.prefix_append _ _
  have cA : A[H.length]? = some (.cells [.int .i64 n, v] 31 false) := by rw [← hA]; exact at_new ..
  have rA := hr.pre pA
  simp (maxSteps := 1000000) (disch := omega) only [ld_agg ag31 cs31 cA, S, S1, S2, S3, S4, S5, ST, eq_self, reduceIte, reduceCtorEq, Nat.reduceEqDiff, Nat.reduceAdd]
  refine CallH.by (isTwo_c n v es s t A rA hlen) ?_
  rintro _ B ⟨rfl, pB⟩
  have cB := pre_at pB cA
  have pHB := pA.trans pB
  by_cases e : WsOk n es s t
  rotate_left
  · have hw : wsL n es s t = [] := by unfold wsL; rw [if_neg (fun q => e q.1)]
    simp (maxSteps := 1000000) (disch := omega) only [decide_eq_false e, S, S1, S2, S3, S4, S5, ST, eq_self, reduceIte, reduceCtorEq, Nat.reduceEqDiff, Nat.reduceAdd]
    refine hQ _ _ _ ?_
    simp (maxSteps := 1000000) (disch := omega) only [S, S1, S2, S3, S4, S5, ST, eq_self, reduceIte, reduceCtorEq, Nat.reduceEqDiff, Nat.reduceAdd]
    rw [hw]
    exact ⟨⟨_, by simp, .inl ⟨rfl, rfl⟩⟩, pHB⟩
  simp (maxSteps := 1000000) (disch := omega) only [decide_eq_true e, ld_agg ag31 cs31 cB, S, S1, S2, S3, S4, S5, ST, eq_self, reduceIte, reduceCtorEq, Nat.reduceEqDiff, Nat.reduceAdd]
  refine CallH.by (ways_c n v es s t B (rA.pre pB) hlen e) ?_
  rintro g C ⟨hL, pC⟩
  have h9 := (wsL_ok (n := n) (es := es) (s := s) (t := t)).2.1
  generalize wsL n es s t = ls at *
  obtain ⟨us, r1, r2, r3⟩ := hL.parts
  simp (maxSteps := 1000000) (disch := omega) only [r1.len Tryz.underlying26, S, S1, S2, S3, S4, S5, ST, eq_self, reduceIte, reduceCtorEq, Nat.reduceEqDiff, Nat.reduceAdd]
  refine CallH.by (between_c _ _ _ C) ?_
  rintro _ _ ⟨rfl, rfl⟩
  by_cases e2 : 0 < ls.length
  · have e3 : (1 : Int) ≤ (us.length : Int) ∧ (us.length : Int) ≤ 300 := by omega
    simp (maxSteps := 1000000) (disch := omega) only [decide_eq_true e3, S, S1, S2, S3, S4, S5, ST, eq_self, reduceIte, reduceCtorEq, Nat.reduceEqDiff, Nat.reduceAdd]
    refine hQ _ _ _ ?_
    simp (maxSteps := 1000000) (disch := omega) only [r1.tup, S, S1, S2, S3, S4, S5, ST, eq_self, reduceIte, reduceCtorEq, Nat.reduceEqDiff, Nat.reduceAdd]
    rw [decide_eq_true e2]
    exact ⟨⟨g, rfl, hL.wide pHB.length_le (Nat.le_refl _)⟩, pHB.trans pC⟩
  · have e3 : ¬ ((1 : Int) ≤ (us.length : Int) ∧ (us.length : Int) ≤ 300) := by omega
    have hnil : ls = [] := List.length_eq_zero_iff.1 (by omega)
    simp (maxSteps := 1000000) (disch := omega) only [decide_eq_false e3, S, S1, S2, S3, S4, S5, ST, eq_self, reduceIte, reduceCtorEq, Nat.reduceEqDiff, Nat.reduceAdd]
    refine hQ _ _ _ ?_
    simp (maxSteps := 1000000) (disch := omega) only [S, S1, S2, S3, S4, S5, ST, eq_self, reduceIte, reduceCtorEq, Nat.reduceEqDiff, Nat.reduceAdd]
    rw [decide_eq_false e2, hnil]
    exact ⟨⟨_, rfl, .inl ⟨rfl, rfl⟩⟩, pHB.trans pC⟩
theorem isChange_c (v w : Value) (xs ys : List Int) (H : AH) (hr : Row 3 H v xs) (hs : Row 3 H w ys) (hlen : xs.length ≤ 1048576) (hl : ys.length = xs.length) :
    ACalls Tryz.prog 107 [v, w] H fun r H' => r = .bool (chB xs ys) ∧ H <+: H' := by
  refine in107 rfl ?_
  intro Q hQ
  simp (maxSteps := 1000000) (disch := omega) only [cd107, S, S1, S2, S3, S4, S5, ST, eq_self, reduceIte, reduceCtorEq, Nat.reduceEqDiff, Nat.reduceAdd]
  refine CallH.by (places_c v w xs ys H hr hs hlen hl) ?_
  rintro d A ⟨hd, pA⟩
  simp (maxSteps := 1000000) (disch := omega) only [hd.row.len Tryz.underlying38, S, S1, S2, S3, S4, S5, ST, eq_self, reduceIte, reduceCtorEq, Nat.reduceEqDiff, Nat.reduceAdd]
  refine hQ _ _ _ ?_
  simp (maxSteps := 1000000) (disch := omega) only [S, S1, S2, S3, S4, S5, ST, eq_self, reduceIte, reduceCtorEq, Nat.reduceEqDiff, Nat.reduceAdd]
  refine ⟨?_, pA⟩
  unfold chB
  rw [Value.bool.injEq, decide_eq_decide]
  omega
def wsB (n : Int) (es : List (Int × Int)) (s t : Int) : Bool := decide (0 < (wsL n es s t).length)
def wsP (n : Int) (es : List (Int × Int)) (s t : Int) : List (Int × Int) := steps chB (wsL n es s t)
set_option maxRecDepth 20000 in
set_option maxHeartbeats 4000000 in
theorem WyI_c (s t : Int) (n : Int) (v : Value) (es : List (Int × Int)) (H : AH) (hr : RowP 83 H v es) (hlen : es.length ≤ 1099511627776) (hes : ∀ y ∈ es, I64 y.1 ∧ I64 y.2) (hn : I64 n) :
    ACalls Tryz.prog 53 [.agg (List.toArray [.int .i64 n, v]), .int .i64 s, .int .i64 t] H fun r H' => ∃ a b, r = .tuple (List.toArray [.agg (List.toArray [a, b]), .bool (wsB n es s t)]) ∧ SpIn H.length H'.length H' a b (wsL n es s t) (wsP n es s t) ∧ H <+: H' := by
  refine in53 rfl ?_
  intro Q hQ
  simp (maxSteps := 1000000) (disch := omega) only [cd53, hr.boxG, S, S1, S2, S3, S4, S5, ST, eq_self, reduceIte, reduceCtorEq, Nat.reduceEqDiff, Nat.reduceAdd]
  generalize hA0 : H ++ [AObj.cells [.int .i64 n, v] 31 false] = A0
  have pA0 : H <+: A0 := by rw [← hA0]; exact List.prefix_append _ _
  have cA0 : A0[H.length]? = some (.cells [.int .i64 n, v] 31 false) := by rw [← hA0]; exact at_new ..
  have rA0 := hr.pre pA0
  simp (maxSteps := 1000000) (disch := omega) only [alloc_sp, S, S1, S2, S3, S4, S5, ST, eq_self, reduceIte, reduceCtorEq, Nat.reduceEqDiff, Nat.reduceAdd]
  generalize hA : A0 ++ [AObj.cells [.slice none 0 0, .slice none 0 0] 28 false] = A
  have pA1 : A0 <+: A := by rw [← hA]; exact List.prefix_append _ _
  have lA0 : A0.length = H.length + 1 := by rw [← hA0]; simp
  have cS : A[A0.length]? = some (.cells [.slice none 0 0, .slice none 0 0] 28 false) := by rw [← hA]; exact at_new ..
  have lA : A.length = A0.length + 1 := by rw [← hA]; simp
  have pA := pA0.trans pA1
  have cA := pre_at pA1 cA0
  have rA := rA0.pre pA1
  simp (maxSteps := 1000000) (disch := omega) only [ld_agg ag31 cs31 cA, S, S1, S2, S3, S4, S5, ST, eq_self, reduceIte, reduceCtorEq, Nat.reduceEqDiff, Nat.reduceAdd]
  refine CallH.by (ShortestWays_c n v es s t A rA hlen) ?_
  rintro _ C ⟨⟨a, rfl, hL⟩, pC⟩
  have cSC := pre_at pC cS
  have pHC := pA.trans pC
  have lC := pC.length_le
  obtain ⟨hsrt, h9, ⟨k, k8, hk⟩, _⟩ := wsL_ok (n := n) (es := es) (s := s) (t := t)
  have hB : wsB n es s t = decide (0 < (wsL n es s t).length) := rfl
  have hP : wsP n es s t = steps chB (wsL n es s t) := rfl
  rw [hB, hP] at hQ
  generalize wsL n es s t = ls at *
  simp (maxSteps := 1000000) (disch := omega) only [S, S1, S2, S3, S4, S5, ST, eq_self, reduceIte, reduceCtorEq, Nat.reduceEqDiff, Nat.reduceAdd]
  by_cases e : 0 < ls.length
  rotate_left
  · have hnil : ls = [] := List.length_eq_zero_iff.1 (by omega)
    have hstore0 := st_ss cSC rfl none none 0 0 0 0
    simp (maxSteps := 1000000) (disch := omega) only [decide_eq_false e, bld_sp0, hstore0, S, S1, S2, S3, S4, S5, ST, eq_self, reduceIte, reduceCtorEq, Nat.reduceEqDiff, Nat.reduceAdd]
    have d4 := at_set (d := .cells [.slice none 0 0, .slice none 0 0] 28 false) cSC
    refine hQ _ _ _ (end_cell2 _ _ _ _ _ _ _ (.agg (List.toArray [.slice none 0 0, .slice none 0 0])) (.bool false) ?_ rfl ?_ rfl ⟨_, _, by rw [decide_eq_false e], ⟨H.length, Nat.le_refl _, by simp; omega, ?_, ?_⟩, ?_⟩)
    · simp (maxSteps := 1000000) (disch := omega) only [ld_agg ag28 cs28 d4, S, S1, S2, S3, S4, S5, ST, eq_self, reduceIte, reduceCtorEq, Nat.reduceEqDiff, Nat.reduceAdd]
    · simp (maxSteps := 1000000) (disch := omega) only [S, S1, S2, S3, S4, S5, ST, eq_self, reduceIte, reduceCtorEq, Nat.reduceEqDiff, Nat.reduceAdd]
    · rw [hnil]; exact .inl ⟨rfl, rfl⟩
    · rw [hnil]; exact .inl ⟨rfl, rfl⟩
    · exact pre_set pHC (by omega) _
  obtain ⟨us, r1, r2, r3⟩ := hL.parts
  have hsts : Sts C a us ls := ⟨r1, r2, fun i hi => (r3 i hi).row.1, fun i hi => by
    have : ls.getD i [] ∈ ls := by simp [hi]
    have := hk _ this; omega, by omega, hsrt⟩
  have hS : StepFn C 107 [] ls chB := fun va vb x y H2 hp2 hv hw hx hy => (isChange_c va vb x y H2 hv hw (by have := hk _ hx; omega) (by rw [hk _ hx, hk _ hy])).mono fun r H' hh => hh
  have hstp := stpO_le_sq chB ls h9
  simp (maxSteps := 1000000) (disch := omega) only [decide_eq_true e, S, S1, S2, S3, S4, S5, ST, eq_self, reduceIte, reduceCtorEq, Nat.reduceEqDiff, Nat.reduceAdd]
  refine CallH.by (spaceOf_c hsts (by omega) 107 [] chB hS (List.prefix_refl _)) ?_
  rintro _ D ⟨st, rfl, hst, pD⟩
  have hrowD : SpRow D a st ls (steps chB ls) := ⟨⟨_, (hL.row).pre pD⟩, hst.row⟩
  simp (maxSteps := 1000000) (disch := omega) only [S, S1, S2, S3, S4, S5, ST, eq_self, reduceIte, reduceCtorEq, Nat.reduceEqDiff, Nat.reduceAdd]
  refine CallH.by (orNone_c a st _ _ D hrowD (by omega) (by omega)) ?_
  rintro _ E ⟨rfl, pE⟩
  have hrowE := hrowD.pre pE
  have cSE := pre_at (pD.trans pE) cSC
  have hstore := hrowE.store cSE rfl
  simp (maxSteps := 1000000) (disch := omega) only [hstore, S, S1, S2, S3, S4, S5, ST, eq_self, reduceIte, reduceCtorEq, Nat.reduceEqDiff, Nat.reduceAdd]
  have d4 := at_set (d := .cells [a, st] 28 false) cSE
  have lD := pD.length_le
  have lE := pE.length_le
  refine hQ _ _ _ (end_cell2 _ _ _ _ _ _ _ (.agg (List.toArray [a, st])) (.bool true) ?_ rfl ?_ rfl ⟨a, st, by rw [decide_eq_true e], ⟨C.length, by omega, by simp; omega, ?_, ?_⟩, ?_⟩)
  · simp (maxSteps := 1000000) (disch := omega) only [ld_agg ag28 cs28 d4, S, S1, S2, S3, S4, S5, ST, eq_self, reduceIte, reduceCtorEq, Nat.reduceEqDiff, Nat.reduceAdd]
  · simp (maxSteps := 1000000) (disch := omega) only [S, S1, S2, S3, S4, S5, ST, eq_self, reduceIte, reduceCtorEq, Nat.reduceEqDiff, Nat.reduceAdd]
  · rcases hL.pre (pD.trans pE) with q | ⟨o, us', q1, q2⟩
    · exact .inl q
    · refine .inr ⟨o, us', q1, (q2.move fun j y hj1 hj2 hy => ?_).wide (by omega) (Nat.le_refl _)⟩
      rw [List.getElem?_set_ne (by omega)]; exact hy
  · have hI := InP.of (hst.pre pE)
    rcases hI with q | ⟨o, zs, q1, q2, q3, q4, q5⟩
    · exact .inl q
    · exact .inr ⟨o, zs, q1, q2, by simpa using q3, by rw [List.getElem?_set_ne (by omega)]; exact q4, q5⟩
  · exact pre_set (pHC.trans (pD.trans pE)) (by omega) _
end Go.Proofs.YtlfongfhbkefmaaGreat.Ai
namespace Go.Proofs.YtlfongfhbkefmaaGreat.Ai
open Go
theorem prm_range {p : List Int} (h : Prm p) : (∀ i, i < p.length → 0 ≤ p.getD i 0 ∧ p.getD i 0 < p.length) ∧ ∀ i j, i < p.length → j < p.length → p.getD i 0 = p.getD j 0 → i = j := by
  have hm := List.mergeSort_perm p (fun x y => decide (x ≤ y))
  have hs : (p.mergeSort (fun x y => decide (x ≤ y))).Pairwise (fun x y => decide (x ≤ y) = true) := List.pairwise_mergeSort (fun a b c h1 h2 => by simp at *; omega) (fun a b => by simp; omega) p
  have ha : Asc (p.mergeSort (fun x y => decide (x ≤ y))) := by
    intro i j hij hj
    rw [List.pairwise_iff_getElem] at hs
    have := hs i j (by omega) hj hij
    simp only [decide_eq_true_eq] at this
    rw [List.getD_eq_getElem?_getD, List.getD_eq_getElem?_getD, List.getElem?_eq_getElem hj, List.getElem?_eq_getElem (show i < (p.mergeSort (fun x y => decide (x ≤ y))).length by omega)]
    exact this
  have hat := prm_at h hm ha
  have hl := hm.length_eq
  generalize p.mergeSort (fun x y => decide (x ≤ y)) = ys at *
  have mem : ∀ y ∈ p, 0 ≤ y ∧ y < p.length := by
    intro y hy
    obtain ⟨i, hi, e⟩ := pos_ex (hm.mem_iff.2 hy)
    rw [hat i hi] at e
    omega
  have nd : ys.Nodup := by
    rw [List.Nodup, List.pairwise_iff_getElem]
    intro i j hi hj hij e
    have h1 := hat i hi
    have h2 := hat j hj
    simp only [List.getD_eq_getElem?_getD, List.getElem?_eq_getElem hi, List.getElem?_eq_getElem hj, Option.getD_some] at h1 h2
    omega
  have pd : p.Nodup := hm.nodup_iff.1 nd
  refine ⟨fun i hi => mem _ (by simp [hi]), fun i j hi hj e => ?_⟩
  rw [List.Nodup, List.pairwise_iff_getElem] at pd
  simp only [List.getD_eq_getElem?_getD, List.getElem?_eq_getElem hi, List.getElem?_eq_getElem hj, Option.getD_some] at e
  rcases Nat.lt_trichotomy i j with g | g | g
  · exact absurd e (pd i j hi hj g)
  · exact g
  · exact absurd e.symm (pd j i hj hi g)
/-- the way from y till x -/
def orb (p : List Int) (x y : Int) : Nat → List Int
  | 0 => []
  | n + 1 => if y = x then [] else y :: orb p x (p.getD y.toNat 0) n
def cycC (p : List Int) (x : Int) : List Int := x :: orb p x (p.getD x.toNat 0) p.length
theorem orb_self (p : List Int) (x : Int) (n : Nat) : orb p x x n = [] := by cases n <;> simp [orb]
/-- a way begun at x: c, and y comes next -/
structure Way (p : List Int) (x : Int) (c : List Int) (y : Int) : Prop where
  rng : ∀ z ∈ c, 0 ≤ z ∧ z < p.length
  nd : c.Nodup
  ne : c ≠ []
  head : c.getD 0 0 = x
  step : ∀ i, i + 1 < c.length → c.getD (i + 1) 0 = p.getD (c.getD i 0).toNat 0
  last : y = p.getD (c.getD (c.length - 1) 0).toNat 0
  tail : cycC p x = c ++ orb p x y (p.length + 1 - c.length)
theorem nodup_len (n : Nat) : ∀ (c : List Int), c.Nodup → (∀ z ∈ c, 0 ≤ z ∧ z < (n : Int)) → c.length ≤ n := by
  induction n with
  | zero =>
    intro c _ h
    cases c with
    | nil => simp
    | cons z c => have := h z (by simp); omega
  | succ n ih =>
    intro c hn h
    have hn' := hn.erase (n : Int)
    have hl : c.length ≤ (c.erase (n : Int)).length + 1 := by
      rw [List.length_erase]; split <;> omega
    have := ih (c.erase (n : Int)) hn' (fun z hz => by
      have h1 := h z (List.mem_of_mem_erase hz)
      have h2 : z ≠ n := fun e => by
        subst e
        exact (hn.not_mem_erase) hz
      omega)
    omega
theorem Way.len {p : List Int} {x y : Int} {c : List Int} (h : Way p x c y) : 1 ≤ c.length ∧ c.length ≤ p.length := by
  refine ⟨?_, nodup_len _ c h.nd h.rng⟩
  have := h.ne
  cases c with
  | nil => exact absurd rfl this
  | cons _ _ => simp
theorem getD_mem {c : List Int} {i : Nat} (h : i < c.length) : c.getD i 0 ∈ c := by simp [h]
theorem Way.yrng {p : List Int} {x y : Int} {c : List Int} (hp : Prm p) (h : Way p x c y) : 0 ≤ y ∧ y < p.length := by
  have hl := h.len
  have := h.rng _ (getD_mem (show c.length - 1 < c.length by omega))
  rw [h.last]
  exact (prm_range hp).1 _ (by omega)
/-- what comes again is x -/
theorem Way.back {p : List Int} {x y : Int} {c : List Int} (hp : Prm p) (h : Way p x c y) (hy : y ∈ c) : y = x := by
  have hl := h.len
  obtain ⟨i, hi, e⟩ := pos_ex hy
  by_cases h0 : i = 0
  · subst h0; rw [← e, h.head]
  · have h1 := h.step (i - 1) (by omega)
    rw [show i - 1 + 1 = i from by omega, e, h.last] at h1
    have r1 := h.rng _ (getD_mem (show c.length - 1 < c.length by omega))
    have r2 := h.rng _ (getD_mem (show i - 1 < c.length by omega))
    have := (prm_range hp).2 _ _ (by omega) (by omega) h1
    have e2 : c.getD (c.length - 1) 0 = c.getD (i - 1) 0 := by omega
    have nd := h.nd
    rw [List.Nodup, List.pairwise_iff_getElem] at nd
    simp only [List.getD_eq_getElem?_getD, List.getElem?_eq_getElem (show c.length - 1 < c.length by omega), List.getElem?_eq_getElem (show i - 1 < c.length by omega), Option.getD_some] at e2
    exact absurd e2.symm (nd (i - 1) (c.length - 1) (by omega) (by omega) (by omega))
set_option linter.unusedVariables false in
theorem Way.first {p : List Int} (hp : Prm p) {x : Nat} (hx : x < p.length) : Way p (x : Int) [(x : Int)] (p.getD x 0) :=
  ⟨fun z hz => by simp at hz; omega, by simp, by simp, rfl, fun i hi => by simp at hi, by simp, by simp [cycC]⟩
set_option linter.unusedVariables false in
theorem Way.next {p : List Int} {x y : Int} {c : List Int} (hp : Prm p) (h : Way p x c y) (hy : y ≠ x) : Way p x (c ++ [y]) (p.getD y.toNat 0) := by
  have hl := h.len
  have hyr := h.yrng hp
  have hni : y ∉ c := fun hm => hy (h.back hp hm)
  have hnd : (c ++ [y]).Nodup := List.nodup_append.2 ⟨h.nd, by simp, fun a ha b hb e => by simp at hb; subst hb; exact hni (e ▸ ha)⟩
  have hlen := nodup_len p.length (c ++ [y]) hnd (fun z hz => by
    rcases List.mem_append.1 hz with g | g
    · exact h.rng z g
    · simp at g; rw [g]; exact hyr)
  simp only [List.length_append, List.length_cons, List.length_nil] at hlen
  have at1 : ∀ i, i < c.length → (c ++ [y]).getD i 0 = c.getD i 0 := fun i hi => by
    rw [List.getD_eq_getElem?_getD, List.getD_eq_getElem?_getD, List.getElem?_append_left hi]
  have at2 : (c ++ [y]).getD c.length 0 = y := by
    rw [List.getD_eq_getElem?_getD, List.getElem?_append_right (Nat.le_refl _)]; simp
  refine ⟨fun z hz => ?_, hnd, by simp, by rw [at1 0 (by omega)]; exact h.head, fun i hi => ?_, ?_, ?_⟩
  · rcases List.mem_append.1 hz with g | g
    · exact h.rng z g
    · simp at g; rw [g]; exact hyr
  · simp only [List.length_append, List.length_cons, List.length_nil] at hi
    by_cases c1 : i + 1 < c.length
    · rw [at1 _ c1, at1 _ (by omega)]; exact h.step i c1
    · have : i = c.length - 1 := by omega
      subst this
      rw [show c.length - 1 + 1 = c.length from by omega, at2, at1 _ (by omega)]
      exact h.last
  · simp only [List.length_append, List.length_cons, List.length_nil, Nat.add_sub_cancel]
    rw [at2]
  · have := h.tail
    obtain ⟨n, hn⟩ : ∃ n, p.length + 1 - c.length = n + 1 := ⟨p.length - c.length, by omega⟩
    rw [hn] at this
    simp only [orb, if_neg hy] at this
    rw [this]
    simp only [List.length_append, List.length_cons, List.length_nil, List.append_assoc, List.cons_append, List.nil_append]
    rw [show p.length + 1 - (c.length + (0 + 1)) = n from by omega]
theorem Way.done {p : List Int} {x : Int} {c : List Int} (h : Way p x c x) : c = cycC p x := by
  rw [h.tail, orb_self, List.append_nil]
/-- a set that nothing leads into from outside -/
def Shut (p s : List Int) : Prop := (∀ z ∈ s, 0 ≤ z ∧ z < p.length) ∧ ∀ z : Nat, z < p.length → p.getD z 0 ∈ s → (z : Int) ∈ s
theorem Way.out {p s : List Int} {x y : Int} {c : List Int} (h : Way p x c y) (hs : Shut p s) (hd : ∀ z ∈ c, z ∉ s) : y ∉ s := by
  have hl := h.len
  have hm := getD_mem (show c.length - 1 < c.length by omega)
  have r := h.rng _ hm
  intro hy
  rw [h.last] at hy
  have := hs.2 (c.getD (c.length - 1) 0).toNat (by omega) hy
  rw [show (((c.getD (c.length - 1) 0).toNat : Nat) : Int) = c.getD (c.length - 1) 0 from by omega] at this
  exact hd _ hm this
end Go.Proofs.YtlfongfhbkefmaaGreat.Ai
namespace Go.Proofs.YtlfongfhbkefmaaGreat.Ai
open Go
set_option linter.unusedVariables false
/-- the place of the first that p takes, or -1 -/
def idxP (p : Int → Bool) : List Int → Nat → Int
  | [], _ => -1
  | x :: xs, k => if p x = true then (k : Int) else idxP p xs (k + 1)
end Go.Proofs.YtlfongfhbkefmaaGreat.Ai
namespace Go.Proofs.YtlfongfhbkefmaaGreat.Ai
open Go
set_option linter.unusedVariables false
/-- the place of a number -/
def ax (q : List Int) (x : Int) : Int := idxP (fun y => decide (x = y)) q 0
theorem idxP_at (p : Int → Bool) : ∀ (xs : List Int) (k : Nat), xs.any p = true → ∃ i : Nat, i < xs.length ∧ idxP p xs k = ((k + i : Nat) : Int) ∧ p (xs.getD i 0) = true
  | [], k, h => by simp at h
  | x :: xs, k, h => by
    by_cases hx : p x = true
    · exact ⟨0, by simp, by simp [idxP, hx], by simpa using hx⟩
    · have : xs.any p = true := by simpa [hx] using h
      obtain ⟨i, h1, h2, h3⟩ := idxP_at p xs (k + 1) this
      refine ⟨i + 1, by simpa using h1, ?_, by simpa using h3⟩
      rw [idxP, if_neg hx, h2]
      congr 1; omega
theorem ax_at {q : List Int} {x : Int} (h : x ∈ q) : ∃ i : Nat, i < q.length ∧ ax q x = (i : Int) ∧ q.getD i 0 = x := by
  obtain ⟨i, h1, h2, h3⟩ := idxP_at (fun y => decide (x = y)) q 0 (by simpa using h)
  refine ⟨i, h1, by rw [ax, h2]; congr 1; omega, ?_⟩
  have := of_decide_eq_true h3
  exact this.symm
def swp (p : List Int) (a b : Nat) : List Int := (p.set a (p.getD b 0)).set b (p.getD a 0)
theorem swp_len (p : List Int) (a b : Nat) : (swp p a b).length = p.length := by simp [swp]
theorem swp_at (p : List Int) (a b k : Nat) (ha : a < p.length) (hb : b < p.length) (hk : k < p.length) : (swp p a b).getD k 0 = if k = b then p.getD a 0 else if k = a then p.getD b 0 else p.getD k 0 := by
  unfold swp
  rw [List.getD_eq_getElem?_getD, List.getElem?_set]
  by_cases h1 : b = k
  · subst h1
    rw [if_pos rfl, if_pos (by simpa using hb), if_pos rfl]; rfl
  · rw [if_neg h1, if_neg (fun e => h1 e.symm), List.getElem?_set]
    by_cases h2 : a = k
    · subst h2
      rw [if_pos rfl, if_pos ha, if_pos rfl]; rfl
    · rw [if_neg h2, if_neg (fun e => h2 e.symm), ← List.getD_eq_getElem?_getD]
theorem mem_getD {q : List Int} {k : Nat} (h : k < q.length) : q.getD k 0 ∈ q := by simp [h]
theorem swp_prm {p : List Int} (h : Prm p) {a b : Nat} (ha : a < p.length) (hb : b < p.length) : Prm (swp p a b) := by
  refine ⟨by rw [swp_len]; exact h.1, fun x hx => ?_⟩
  rw [swp_len] at hx
  obtain ⟨i, hi, e⟩ := pos_ex (h.2 x hx)
  have mk : ∀ k, k < p.length → (swp p a b).getD k 0 = x → (x : Int) ∈ swp p a b := fun k hk e => by
    rw [← e]; exact mem_getD (by rw [swp_len]; exact hk)
  by_cases h1 : i = a
  · subst h1; exact mk b hb (by rw [swp_at p _ b b ha hb hb, if_pos rfl]; exact e)
  · by_cases h2 : i = b
    · subst h2
      by_cases h3 : a = i
      · exact absurd h3.symm h1
      · exact mk a ha (by rw [swp_at p a _ a ha hb ha, if_neg h3, if_pos rfl]; exact e)
    · exact mk i hi (by rw [swp_at p a b i ha hb hi, if_neg h2, if_neg h1]; exact e)
structure SrtOk (p : List Int) (x : Nat) (o : List (Int × Int)) (q : List Int) : Prop where
  prm : Prm q
  len : q.length = p.length
  fix : ∀ y, y < x → q.getD y 0 = y
  few : o.length ≤ x
theorem SrtOk.place {p : List Int} {x : Nat} {o : List (Int × Int)} {q : List Int} (h : SrtOk p x o q) (hx : x < p.length) : ∃ i : Nat, x ≤ i ∧ i < p.length ∧ ax q x = (i : Int) ∧ q.getD i 0 = x ∧ (q.getD x 0 = x ↔ i = x) := by
  obtain ⟨i, h1, h2, h3⟩ := ax_at (h.prm.2 x (by rw [h.len]; exact hx))
  have hl := h.len
  refine ⟨i, ?_, by omega, h2, h3, fun e => ?_, fun e => by rw [← e]; rw [h3]; rw [e]⟩
  · by_cases hlt : i < x
    · have := h.fix i hlt
      omega
    · omega
  · exact (prm_range h.prm).2 i x h1 (by omega) (by rw [h3, e])
theorem SrtOk.next {p : List Int} {x i : Nat} {o : List (Int × Int)} {q : List Int} (h : SrtOk p x o q) (hx : x < p.length) (h1 : x ≤ i) (h2 : i < p.length) (h3 : q.getD i 0 = x) (hne : i ≠ x) : SrtOk p (x + 1) (o ++ [((x : Int), (i : Int))]) (swp q x i) := by
  have hl := h.len
  refine ⟨swp_prm h.prm (by omega) (by omega), by rw [swp_len]; exact hl, fun y hy => ?_, by have := h.few; simp; omega⟩
  rw [swp_at q x i y (by omega) (by omega) (by omega), if_neg (by omega)]
  by_cases hc : y = x
  · rw [if_pos hc, h3, hc]
  · rw [if_neg hc]; exact h.fix y (by omega)
def swOk (n : Nat) (s : Int × Int) : Prop := 0 ≤ s.1 ∧ s.1 < s.2 ∧ s.2 < n
instance (n : Nat) (s : Int × Int) : Decidable (swOk n s) := inferInstanceAs (Decidable (_ ∧ _))
def plcOk (p : List Int) (ss : List (Int × Int)) : Prop := Prm p ∧ ∀ s ∈ ss, swOk p.length s
instance (p : List Int) (ss : List (Int × Int)) : Decidable (plcOk p ss) := inferInstanceAs (Decidable (_ ∧ _))
end Go.Proofs.YtlfongfhbkefmaaGreat.Ai
namespace Go.Proofs.YtlfongfhbkefmaaGreat.Ai
open Go
def ords79 : List (Nat × List (Nat × Bool)) := []
def cd79 : Cd := (.seq (.reg [⟨⟨some 2, Op.assign (Operand.const (Value.slice none 0 0)), none⟩, []⟩]) (.seq (.reg [⟨⟨some 3, Op.buildSlice 38 0 #[], none⟩, []⟩,
  ⟨⟨some 4, Op.move (Operand.tmp 0), none⟩, []⟩,
  ⟨⟨some 5, Op.call { callee := (Callee.builtin Builtin.append), args := #[(Operand.tmp 3), (Operand.tmp 4)], argTypes := #[38, 38] }, none⟩, []⟩,
  ⟨⟨some 2, Op.assign (Operand.tmp 5), none⟩, []⟩]) .ret))
theorem sl79 : slim Tryz.f79.ntmps ords79 (Tryz.f79.body.getD .skip) = some cd79 := by kernel_rfl
theorem in79 {args : List Value} {H : AH} {R : Value → AH → Prop} (hl : args.length = 1) (h : ∀ (Q : Exit → Sl → AH → Prop), (∀ e s H, endA Tryz.prog [ResultVar.tmp 2] R e s H → Q e s H) → wpC Tryz.prog cd79 Q (enterA args) H) : ACalls Tryz.prog 79 args H R :=
  ACalls.intro (by kernel_rfl) Tryz.func79 rfl (by kernel_rfl) sl79 hl (of_decide_eq_true (by kernel_rfl)) (by kernel_rfl) h
end Go.Proofs.YtlfongfhbkefmaaGreat.Ai
namespace Go.Proofs.YtlfongfhbkefmaaGreat.Ai
open Go Go.RowKit
set_option linter.unusedVariables false
set_option linter.unusedSimpArgs false
set_option maxRecDepth 20000 in
theorem l1Own_c (v : Value) (xs : List Int) (H : AH) (hr : Row 3 H v xs) (hlen : xs.length ≤ 1099511627776) : ACalls Tryz.prog 79 [v] H fun r H' => Own 3 H H' r xs ∧ H <+: H' := by
  refine in79 rfl ?_
  intro Q hQ
  simp (maxSteps := 1000000) (disch := omega) only [cd79, S, S1, S2, S3, S4, S5, ST, eq_self, reduceIte, reduceCtorEq, Nat.reduceEqDiff, Nat.reduceAdd]
  have hp := List.prefix_append H [AObj.cells [] 3 false]
  have ho : Own 3 H (H ++ [AObj.cells [] 3 false]) (.slice (some ⟨H.length, 0, none⟩) 0 0) [] := .inr ⟨H.length, rfl, Nat.le_refl _, at_new ..⟩
  obtain ⟨v', H2, k1, k2, k3, _⟩ := ho.app (P := Tryz.prog) (t := 38) Tryz.underlying38 cs3 (by rw [by3]; decide) zk3 (hr.pre hp) hp (by simp; omega)
  simp (maxSteps := 1000000) (disch := omega) only [k1, S, S1, S2, S3, S4, S5, ST, eq_self, reduceIte, reduceCtorEq, Nat.reduceEqDiff, Nat.reduceAdd]
  refine hQ _ _ _ ?_
  simp (maxSteps := 1000000) (disch := omega) only [k2.row.tup, S, S1, S2, S3, S4, S5, ST, eq_self, reduceIte, reduceCtorEq, Nat.reduceEqDiff, Nat.reduceAdd]
  exact ⟨k2, k3⟩
end Go.Proofs.YtlfongfhbkefmaaGreat.Ai
