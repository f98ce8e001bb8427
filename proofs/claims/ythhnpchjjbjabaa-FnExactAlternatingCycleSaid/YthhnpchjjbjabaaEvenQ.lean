/- A graph is even exactly if no edge joins nodes whose distances have one parity; in plain Lean. -/
import Derived.Test.YthhnpchjjbjabaaEvenP
namespace Go.Proofs.Ythhnpchjjbjabaa.Ai
open Go
set_option linter.unusedVariables false

theorem Rch.trans' {adj : Int → Int → Prop} {S : Int → Prop} {x y z : Int} (h1 : Rch adj S x y) (h2 : Rch adj S y z) : Rch adj S x z := by
  induction h2 with
  | refl => exact h1
  | step _ a b ih => exact .step ih a b
theorem Rch.symm' {adj : Int → Int → Prop} {S : Int → Prop} (hs : ∀ a b, adj a b → adj b a) {x z : Int} (hx : S x) (h : Rch adj S x z) : Rch adj S z x := by
  induction h with
  | refl => exact .refl
  | step hy ha hz ih => exact (Rch.step .refl (hs _ _ ha) (hy.in_ hx)).trans' ih
theorem reach_x (es : List (Int × Int)) (set : List Int) (x : Int) : x ∈ reachL es set x := rcIter_x es set x _
structure PcI (es : List (Int × Int)) (set : List Int) (st : List (List Int) × List Int) : Prop where
  mem : ∀ p ∈ st.1, ∃ x ∈ set, p = reachL es set x
  seen : ∀ z, z ∈ st.2 ↔ ∃ p ∈ st.1, z ∈ p
theorem PcI.step {es : List (Int × Int)} {set : List Int} {st : List (List Int) × List Int} (h : PcI es set st) {y : Int} (hy : y ∈ set) : PcI es set (pcS es set st y) := by
  unfold pcS
  split
  · exact h
  · refine ⟨?_, ?_⟩
    · intro p hp
      rcases List.mem_append.1 hp with hp | hp
      · exact h.mem p hp
      · simp only [List.mem_cons, List.not_mem_nil, or_false] at hp
        exact ⟨y, hy, hp⟩
    · intro z
      show z ∈ (reachL es set y).foldl put st.2 ↔ _
      rw [puts_mem, h.seen]
      constructor
      · rintro (h1 | ⟨p, h1, h2⟩)
        · exact ⟨_, List.mem_append.2 (.inr (by simp)), h1⟩
        · exact ⟨p, List.mem_append.2 (.inl h1), h2⟩
      · rintro ⟨p, h1, h2⟩
        rcases List.mem_append.1 h1 with h1 | h1
        · exact .inr ⟨p, h1, h2⟩
        · simp only [List.mem_cons, List.not_mem_nil, or_false] at h1
          rw [h1] at h2; exact .inl h2
theorem pcS_mono (es : List (Int × Int)) (set : List Int) (st : List (List Int) × List Int) (y : Int) {z : Int} (h : z ∈ st.2) : z ∈ (pcS es set st y).2 := by
  unfold pcS
  split
  · exact h
  · exact (puts_mem z _ _).2 (.inr h)
theorem pcS_get (es : List (Int × Int)) (set : List Int) (st : List (List Int) × List Int) (y : Int) : y ∈ (pcS es set st y).2 := by
  unfold pcS
  split
  · rename_i h; exact h
  · exact (puts_mem y _ _).2 (.inl (reach_x es set y))
theorem pcF_mono (es : List (Int × Int)) (set : List Int) {z : Int} : ∀ (l : List Int) (st : List (List Int) × List Int), z ∈ st.2 → z ∈ (l.foldl (pcS es set) st).2
  | [], st, h => h
  | y :: ys, st, h => pcF_mono es set ys _ (pcS_mono es set st y h)
theorem pcF_inv (es : List (Int × Int)) (set : List Int) : ∀ (l : List Int) (st : List (List Int) × List Int), (∀ y ∈ l, y ∈ set) → PcI es set st → PcI es set (l.foldl (pcS es set) st) ∧ ∀ y ∈ l, y ∈ (l.foldl (pcS es set) st).2
  | [], st, _, h => ⟨h, fun y hy => by simp at hy⟩
  | y :: ys, st, hl, h => by
    obtain ⟨i1, i2⟩ := pcF_inv es set ys _ (fun z hz => hl z (by simp [hz])) (h.step (hl y (by simp)))
    refine ⟨i1, fun z hz => ?_⟩
    rcases List.mem_cons.1 hz with rfl | hz
    · exact pcF_mono es set ys _ (pcS_get es set st z)
    · exact i2 z hz
theorem pieces_mem {es : List (Int × Int)} {set p : List Int} (hp : p ∈ piecesL es set) : ∃ x ∈ set, p = reachL es set x :=
  (pcF_inv es set set ([], []) (fun _ h => h) ⟨fun p hp => by simp at hp, fun z => by simp⟩).1.mem p hp
theorem pieces_cov {es : List (Int × Int)} {set : List Int} {z : Int} (hz : z ∈ set) : ∃ p ∈ piecesL es set, z ∈ p := by
  obtain ⟨h1, h2⟩ := pcF_inv es set set ([], []) (fun _ h => h) ⟨fun p hp => by simp at hp, fun z => by simp⟩
  exact (h1.seen z).1 (h2 z hz)
theorem piece_clo {es : List (Int × Int)} {set p : List Int} (hp : p ∈ piecesL es set) {a b : Int} (hb : b ∈ set) (hn : nearB es a b = true) (ha : a ∈ p) : b ∈ p := by
  obtain ⟨x, hx, rfl⟩ := pieces_mem hp
  exact (reach_iff es set x hx b).2 (.step ((reach_iff es set x hx a).1 ha) hn hb)
theorem piece_sub {es : List (Int × Int)} {set p : List Int} (hp : p ∈ piecesL es set) {a : Int} (ha : a ∈ p) : a ∈ set := by
  obtain ⟨x, hx, rfl⟩ := pieces_mem hp
  exact ((reach_iff es set x hx a).1 ha).in_ (S := (· ∈ set)) hx
theorem piece_first {es : List (Int × Int)} {set p : List Int} (hp : p ∈ piecesL es set) : p.getD 0 0 ∈ p := by
  obtain ⟨x, hx, rfl⟩ := pieces_mem hp
  have := List.length_pos_of_mem (reach_x es set x)
  simp [this]
theorem piece_rch {es : List (Int × Int)} {set p : List Int} (hp : p ∈ piecesL es set) {a b : Int} (ha : a ∈ p) (hb : b ∈ p) : Rch (fun a b => nearB es a b = true) (· ∈ set) a b := by
  obtain ⟨x, hx, rfl⟩ := pieces_mem hp
  have h1 := (reach_iff es set x hx a).1 ha
  have h2 := (reach_iff es set x hx b).1 hb
  exact (h1.symm' (fun a b h => by rw [nearB_comm]; exact h) hx).trans' h2

/- the sides -/
def sidePt (far part s : List Int) : List Int := part.foldl (fun s x => s.set x.toNat ((far.getD x.toNat 0).tmod 2)) s
def sideP (L : List (List Int)) (s p : List Int) : List Int := sidePt (bfs L (p.getD 0 0).toNat) p s
def sideL (L : List (List Int)) (P : List (List Int)) (s : List Int) : List Int := P.foldl (sideP L) s
theorem sidePt_len (far : List Int) : ∀ (part s : List Int), (sidePt far part s).length = s.length
  | [], s => rfl
  | x :: xs, s => by
    show (sidePt far xs (s.set x.toNat _)).length = _
    rw [sidePt_len far xs]; simp
theorem sidePt_at (far : List Int) (v : Nat) : ∀ (part s : List Int), (∀ x ∈ part, 0 ≤ x) → v < s.length → (sidePt far part s).getD v 0 = if (v : Int) ∈ part then (far.getD v 0).tmod 2 else s.getD v 0
  | [], s, _, _ => by simp [sidePt]
  | x :: xs, s, hp, hv => by
    show (sidePt far xs (s.set x.toNat _)).getD v 0 = _
    rw [sidePt_at far v xs _ (fun y hy => hp y (by simp [hy])) (by simpa using hv)]
    have hx := hp x (by simp)
    by_cases h1 : (v : Int) ∈ xs
    · rw [if_pos h1, if_pos (by simp [h1])]
    · rw [if_neg h1, getD_setB _ _ _ _ hv]
      by_cases e : x.toNat = v
      · have : (v : Int) = x := by omega
        rw [if_pos e, if_pos (by simp [this]), e]
      · have : ¬ (v : Int) = x := by omega
        rw [if_neg e, if_neg (by simp [this, h1])]
theorem sideL_len (L : List (List Int)) : ∀ (P : List (List Int)) (s : List Int), (sideL L P s).length = s.length
  | [], s => rfl
  | p :: P, s => by
    show (sideL L P (sideP L s p)).length = _
    rw [sideL_len L P]; exact sidePt_len _ _ _
theorem sideL_two (L : List (List Int)) {a b : Nat} : ∀ (P : List (List Int)) (s : List Int), (∀ p ∈ P, (∀ x ∈ p, 0 ≤ x) ∧ ((a : Int) ∈ p ↔ (b : Int) ∈ p)) → a < s.length → b < s.length →
    (∃ p ∈ P, (a : Int) ∈ p ∧ (b : Int) ∈ p ∧ (sideL L P s).getD a 0 = ((bfs L (p.getD 0 0).toNat).getD a 0).tmod 2 ∧ (sideL L P s).getD b 0 = ((bfs L (p.getD 0 0).toNat).getD b 0).tmod 2)
    ∨ ((∀ p ∈ P, (a : Int) ∉ p) ∧ (sideL L P s).getD a 0 = s.getD a 0 ∧ (sideL L P s).getD b 0 = s.getD b 0)
  | [], s, _, _, _ => .inr ⟨fun p hp => by simp at hp, rfl, rfl⟩
  | p :: P, s, hp, ha, hb => by
    obtain ⟨hp0, hp1⟩ := hp p (by simp)
    have hl : (sideP L s p).length = s.length := sidePt_len _ _ _
    have ea : (sideP L s p).getD a 0 = if (a : Int) ∈ p then ((bfs L (p.getD 0 0).toNat).getD a 0).tmod 2 else s.getD a 0 := sidePt_at _ a p s hp0 ha
    have eb : (sideP L s p).getD b 0 = if (b : Int) ∈ p then ((bfs L (p.getD 0 0).toNat).getD b 0).tmod 2 else s.getD b 0 := sidePt_at _ b p s hp0 hb
    rcases sideL_two L P (sideP L s p) (fun q hq => hp q (by simp [hq])) (by omega) (by omega) with ⟨q, h1, h2⟩ | ⟨h1, h2, h3⟩
    · exact .inl ⟨q, by simp [h1], h2⟩
    · have h2' : (sideL L (p :: P) s).getD a 0 = (sideP L s p).getD a 0 := h2
      have h3' : (sideL L (p :: P) s).getD b 0 = (sideP L s p).getD b 0 := h3
      by_cases hm : (a : Int) ∈ p
      · have hm2 := hp1.1 hm
        refine .inl ⟨p, by simp, hm, hm2, ?_, ?_⟩
        · rw [h2', ea, if_pos hm]
        · rw [h3', eb, if_pos hm2]
      · have hm2 : (b : Int) ∉ p := fun h => hm (hp1.2 h)
        refine .inr ⟨fun q hq => ?_, ?_, ?_⟩
        · rcases List.mem_cons.1 hq with rfl | hq
          · exact hm
          · exact h1 q hq
        · rw [h2', ea, if_neg hm]
        · rw [h3', eb, if_neg hm2]
/-- EVEN by parities -/
theorem even_side {n : Nat} {es : List (Int × Int)} (hg : Grd (n : Int) es) :
    (∀ e ∈ es, (sideL (roadsL n es) (piecesL es (alls n)) (List.replicate n 0)).getD e.1.toNat 0 ≠ (sideL (roadsL n es) (piecesL es (alls n)) (List.replicate n 0)).getD e.2.toNat 0) ↔ evB n es = true := by
  rw [evB_iff hg]
  have hL := roadsL_ok n es
  have hlen := roadsL_len n es
  -- what is reached within a piece
  have met : ∀ p ∈ piecesL es (alls n), ∀ z ∈ p, (p.getD 0 0).toNat < n ∧ 0 ≤ (bfs (roadsL n es) (p.getD 0 0).toNat).getD z.toNat 0 := by
    intro p hp z hz
    have hf := piece_first hp
    have h0 := (alls_mem n _).1 (piece_sub hp hf)
    have hr := piece_rch hp hf hz
    generalize p.getD 0 0 = p0 at *
    refine ⟨by omega, ?_⟩
    induction hr with
    | refl =>
      obtain ⟨q, h⟩ := bfs_DI hL (i := p0.toNat) (by omega)
      exact h.at_
    | step hy hn hz' ih =>
      rename_i y z
      have hyA : y ∈ alls n := hy.in_ (S := (· ∈ alls n)) ((alls_mem n _).2 h0)
      have hyr := (alls_mem n y).1 hyA
      have hzr := (alls_mem n z).1 hz'
      refine bfs_clo hL (by omega) (u := y.toNat) (by omega) (ih (piece_clo hp hyA (by rw [nearB_comm]; exact hn) hz)) ?_
      rw [roadsL_at n es _ (by omega), nbsU_mem, Int.toNat_of_nonneg hyr.1]
      exact ⟨hzr, hn⟩
  have two : ∀ a b : Nat, a < n → b < n → (a = b ∨ nearB es (a : Int) (b : Int) = true) → ∃ p ∈ piecesL es (alls n), (a : Int) ∈ p ∧ (b : Int) ∈ p ∧ (sideL (roadsL n es) (piecesL es (alls n)) (List.replicate n 0)).getD a 0 = ((bfs (roadsL n es) (p.getD 0 0).toNat).getD a 0).tmod 2 ∧ (sideL (roadsL n es) (piecesL es (alls n)) (List.replicate n 0)).getD b 0 = ((bfs (roadsL n es) (p.getD 0 0).toNat).getD b 0).tmod 2 := by
    intro a b ha hb hab
    have hpp : ∀ p ∈ piecesL es (alls n), (∀ x ∈ p, 0 ≤ x) ∧ ((a : Int) ∈ p ↔ (b : Int) ∈ p) := by
      intro p hp
      refine ⟨fun x hx => ((alls_mem n x).1 (piece_sub hp hx)).1, ?_⟩
      rcases hab with rfl | hn
      · exact Iff.rfl
      · exact ⟨piece_clo hp ((alls_mem n _).2 (by omega)) hn, piece_clo hp ((alls_mem n _).2 (by omega)) (by rw [nearB_comm]; exact hn)⟩
    rcases sideL_two (roadsL n es) (a := a) (b := b) (piecesL es (alls n)) (List.replicate n 0) hpp (by simpa using ha) (by simpa using hb) with h | ⟨h, _⟩
    · exact h
    · obtain ⟨p, h1, h2⟩ := pieces_cov (es := es) ((alls_mem n (a : Int)).2 (by omega))
      exact absurd h2 (h p h1)
  generalize hS : sideL (roadsL n es) (piecesL es (alls n)) (List.replicate n 0) = S at *
  constructor
  · intro h
    refine ⟨fun i => S.getD i 0, fun i hi => ?_, fun i j hi hj hn => ?_⟩
    · obtain ⟨p, p1, p2, _, p3, _⟩ := two i i hi hi (.inl rfl)
      have := (met p p1 _ p2).2
      rw [Int.toNat_natCast] at this
      show S.getD i 0 = 0 ∨ S.getD i 0 = 1
      rw [p3, Int.tmod_eq_emod_of_nonneg this]
      omega
    · rcases (nearB_iff es _ _).1 hn with hm | hm
      · simpa using h _ hm
      · exact fun e => h _ hm (by simpa using e.symm)
  · rintro ⟨g, g1, g2⟩ ⟨a, b⟩ he
    obtain ⟨h1, h2, h3⟩ := grd_mem hg he
    simp only at h1 h2 h3
    obtain ⟨x, rfl⟩ : ∃ x : Nat, a = x := ⟨a.toNat, by omega⟩
    obtain ⟨y, rfl⟩ : ∃ y : Nat, b = y := ⟨b.toNat, by omega⟩
    have hn : nearB es (x : Int) (y : Int) = true := (nearB_iff es _ _).2 (.inl he)
    obtain ⟨p, p1, p2, p3, p4, p5⟩ := two x y (by omega) (by omega) (.inr hn)
    obtain ⟨q1, q2⟩ := met p p1 _ p2
    obtain ⟨_, q3⟩ := met p p1 _ p3
    simp only [Int.toNat_natCast] at q2 q3 ⊢
    rw [p4, p5, Int.tmod_eq_emod_of_nonneg q2, Int.tmod_eq_emod_of_nonneg q3]
    have par := bfs_par hL (i := (p.getD 0 0).toNat) (by omega) g (fun v hv => g1 v (by omega)) (fun u v hu hv hm => by
      rw [hlen] at hu hv
      rw [roadsL_at n es u hu, nbsU_mem] at hm
      exact g2 u v hu hv hm.2)
    have e1 := par _ x (by omega) (Int.toNat_of_nonneg q2).symm
    have e2 := par _ y (by omega) (Int.toNat_of_nonneg q3).symm
    have c1 := g1 x (by omega)
    have c2 := g1 y (by omega)
    have c3 := g2 x y (by omega) (by omega) hn
    generalize (bfs (roadsL n es) (p.getD 0 0).toNat).getD x 0 = dx at *
    generalize (bfs (roadsL n es) (p.getD 0 0).toNat).getD y 0 = dy at *
    omega
end Go.Proofs.Ythhnpchjjbjabaa.Ai
