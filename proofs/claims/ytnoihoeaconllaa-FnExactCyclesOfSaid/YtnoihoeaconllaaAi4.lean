/- What one operation does to an abstract heap, third part: append, make, literals, results. No condition. -/
import Derived.Test.YtnoihoeaconllaaAi3
namespace Go.Proofs.Ytnoihoeaconllaa.Ai
open Go Go.RowKit
set_option linter.unusedVariables false
set_option linter.unusedSimpArgs false

/- ---------- append ---------- -/
/-- the cells that a slice of n elements of sz cells shows -/
def sliceCells (P : Program) (e : TypeId) (x : Value) (H : AH) : Option (Nat × List Value) :=
  match x with
  | .slice none _ _ => some (0, [])
  | .slice (some q) m _ =>
    match H[q.block]? with
    | some (.cells us e' _) => if q.off + m * P.cellsOf e ≤ us.length ∧ e' = e then some (m, (us.drop q.off).take (m * P.cellsOf e)) else none
    | _ => none
  | _ => none

/-- the zero value has as many cells as the type -/
def zeroOk (P : Program) (e : TypeId) : Bool :=
  match zeroA P e with
  | some z => z.cells.size == P.cellsOf e
  | none => false

theorem zeroOk_some {P : Program} {e : TypeId} (h : zeroOk P e = true) : ∃ z, zeroA P e = some z ∧ z.cells.size = P.cellsOf e := by
  unfold zeroOk at h
  split at h
  · rename_i z hz; exact ⟨z, hz, by simpa using h⟩
  · cases h

def isSl : Value → Bool
  | .slice _ _ _ => true
  | _ => false

def appendA (P : Program) (t tx : TypeId) (s x : Value) (H : AH) : Option (Value × AH) :=
  match P.underlying t with
  | some (.slice e) =>
    if t = tx ∧ 0 < P.cellsOf e then
      match sliceCells P e x H with
      | some (m, news) =>
        if m = 0 then (if isSl s = true then some (s, H) else none) else
        match s with
        | .slice none _ _ =>
          if m * P.bytesOf e ≤ 140737488355328 ∧ m ≤ 4611686018427387904 ∧ zeroOk P e = true then some (.slice (some ⟨H.length, 0, none⟩) m m, H ++ [.cells news e false]) else none
        | .slice (some p) n _ =>
          match H[p.block]? with
          | some (.cells vs e' false) =>
            if e' = e ∧ p.off + n * P.cellsOf e ≤ vs.length ∧ (n + m) * P.bytesOf e ≤ 140737488355328 ∧ n + m ≤ 4611686018427387904 ∧ zeroOk P e = true then
              some (.slice (some ⟨H.length, 0, none⟩) (n + m) (n + m), H.set p.block .dead ++ [.cells ((vs.drop p.off).take (n * P.cellsOf e) ++ news) e false]) else none
          | _ => none
        | _ => none
      | none => none
    else none
  | _ => none

theorem all2_append {α β : Type} {R : α → β → Prop} : ∀ {xs : List α} {ys : List β} {xs' : List α} {ys' : List β}, All2 R xs ys → All2 R xs' ys' → All2 R (xs ++ xs') (ys ++ ys')
  | [], [], _, _, _, h => h
  | _ :: _, _ :: _, _, _, h, h' => ⟨h.1, all2_append h.2 h'⟩

/-- what a slice shows, in memory -/
theorem sliceCells_run {P : Program} {μ : Mu} {H : AH} {w : World} (hH : HRel P μ H w) {e : TypeId} {x cx : Value} {m : Nat} {news : List Value} (h : sliceCells P e x H = some (m, news)) (hx : TRel μ x cx) :
    (m = 0 ∧ news = [] ∧ cx = .slice none 0 0) ∨ ∃ a c cs, cx = .slice (some a) m c ∧ All2 (CRel μ) news cs ∧ news.length = m * P.cellsOf e ∧ (m = 0 ∨ ∀ (j : Nat) (v : Value), cs[j]? = some v → w.cell? (a.add j) = some v) := by
  unfold sliceCells at h
  split at h
  · cases h
    obtain ⟨rfl, rfl, e2⟩ := hx
    exact .inl ⟨rfl, rfl, e2⟩
  · rename_i q m' m
    split at h
    · rename_i us e' ro ho
      split at h
      · rename_i hc
        obtain ⟨g1, rfl⟩ := hc
        cases h
        obtain ⟨e1, rfl, a, c, e3, hm, e4⟩ := hx
        rcases e4 with e4 | ⟨L, hL, e4, _⟩
        · have hm0 : m = 0 := by omega
          subst hm0
          exact .inr ⟨a, c, [], e3, by simp; trivial, by simp, .inl rfl⟩
        · obtain ⟨cs, k1, k2, k3⟩ := hH.range ho hL q.off (m * P.cellsOf e')
          refine .inr ⟨a, c, cs, e3, k1, by simp; omega, ?_⟩
          subst e4; exact .inr k3
      · cases h
    · cases h
  · cases h

theorem one_of_all2 {μ : Mu} {xs ys : List Value} (h : All2 (CRel μ) xs ys) : ∀ v ∈ ys, v.oneCell' = true := by
  intro v hv
  obtain ⟨j, hj⟩ := List.getElem?_of_mem hv
  have hlt : j < xs.length := by rw [all2_len h]; exact (List.getElem?_eq_some_iff.1 hj).1
  obtain ⟨z, hz1, hz2⟩ := all2_at h j _ (List.getElem?_eq_getElem hlt)
  rw [hj] at hz1; cases hz1; exact hz2.one.2

/-- append within the capacity, wherever the slice begins -/
theorem run_append_room' {P : Program} (w : World) (t ty e : TypeId) (i : TypeInfo) (ht : P.underlying t = some (.slice e)) (hi : P.info? e = some i)
    (g o sLen sCap : Nat) (cur : Array Value) (hg : w.heap[g]? = some (.cells cur e (0, 0)))
    (a : Addr) (m c : Nat) (news : List Value) (hl : news.length = m * i.size) (hnews : ∀ (j : Nat) (u : Value), news[j]? = some u → w.cell? (a.add j) = some u) (h1 : ∀ u ∈ news, u.oneCell' = true)
    (hroom : sLen + m ≤ sCap) (hfit : o + sLen * i.size + news.length ≤ cur.size) :
    (Builtin.append_ #[t, t] ty #[.slice (some ⟨g, o, none⟩) sLen sCap, .slice (some a) m c]).run P w =
      .ok (.slice (some ⟨g, o, none⟩) (sLen + m) sCap) (w.setRow g (cur.toList.take (o + sLen * i.size) ++ news ++ cur.toList.drop (o + sLen * i.size + news.length)).toArray) := by
  have hf := run_firstCells_some (P := P) w i.size m a m c news hl hnews
  have hf' : (Builtin.firstCells i.size m (.slice (some a) m c)).run P w = .ok news.toArray w := hf
  have hst := run_storeCells_at (P := P) g (o + sLen * i.size) e news 0 cur w hg (by simpa using hfit) h1
  simp only [Nat.add_zero] at hst
  simp [Builtin.append_, run_underlying ht, Go.sizeOf, typeInfo, hi, Builtin.lenOf, hroom, hf', Addr.add_lit', hst]

theorem append_none {P : Program} (w : World) (t ty e : TypeId) (i : TypeInfo) (ht : P.underlying t = some (.slice e)) (hi : P.info? e = some i) (b : Option Addr) (n c : Nat) (hn : n ≤ c) (a : Option Addr) (c' : Nat) :
    (Builtin.append_ #[t, t] ty #[.slice b n c, .slice a 0 c']).run P w = .ok (.slice b n c) w := by
  cases a <;> cases b <;> simp [Builtin.append_, run_underlying ht, Go.sizeOf, typeInfo, hi, Builtin.lenOf, hn, Builtin.firstCells, loadCells, loadCellsFrom, storeCells]

theorem appendA_run {P : Program} {μ : Mu} {H H' : AH} {w : World} (hH : HRel P μ H w) {t tx : TypeId} {s x cs cx v : Value} (h : appendA P t tx s x H = some (v, H')) (hs : TRel μ s cs) (hx : TRel μ x cx) (ty : TypeId) :
    ∃ μ' cv w', (Builtin.append_ #[t, tx] ty #[cs, cx]).run P w = .ok cv w' ∧ TRel μ' v cv ∧ HRel P μ' H' w' ∧ Evo μ H w μ' H' w' := by
  unfold appendA at h
  split at h
  · rename_i e hu
    split at h
    · rename_i hc
      obtain ⟨rfl, hsz⟩ := hc
      obtain ⟨i, hi, hi1, hi2⟩ := sizeOf_info hsz
      split at h
      · rename_i m news hsc
        have hsr := sliceCells_run hH hsc hx
        split at h
        · rename_i hm
          split at h
          case isFalse => cases h
          rename_i hsl
          cases h
          subst hm
          have hcx : ∃ a c', cx = .slice a 0 c' := by
            rcases hsr with ⟨_, _, e2⟩ | ⟨a, c, _, e2, _⟩
            · exact ⟨_, _, e2⟩
            · exact ⟨_, _, e2⟩
          obtain ⟨a, c', rfl⟩ := hcx
          have hcs : (∃ b n c, cs = .slice b n c ∧ n ≤ c) := by
            cases s with
            | slice p n c =>
              cases p with
              | none => obtain ⟨rfl, rfl, e2⟩ := hs; exact ⟨none, 0, 0, e2, Nat.le_refl _⟩
              | some p => obtain ⟨_, rfl, b, cap, e3, hnc, _⟩ := hs; exact ⟨_, _, _, e3, hnc⟩
            | _ => cases hsl
          obtain ⟨b, n, c, rfl, hn⟩ := hcs
          exact ⟨μ, _, w, append_none w t ty e i hu hi b n c hn a c', hs, hH, Evo.refl _ _ _⟩
        · rename_i hm
          rcases hsr with ⟨e0, _⟩ | ⟨a, c, ns, rfl, hall, hlen, hat⟩
          · exact absurd e0 hm
          have hat' : ∀ (j : Nat) (v : Value), ns[j]? = some v → w.cell? (a.add j) = some v := by
            rcases hat with e0 | hat
            · exact absurd e0 hm
            · exact hat
          have hlen' := all2_len hall
          split at h
          · split at h
            · rename_i hb
              obtain ⟨hb1, hb2, hz⟩ := hb
              cases h
              obtain ⟨rfl, rfl, e2⟩ := hs
              subst e2
              obtain ⟨z, hz, hzs⟩ := zeroOk_some hz
              have hz' : i.zero = some z := by unfold zeroA at hz; rw [hi] at hz; exact hz
              have hr := run_append_nil (P := P) w t ty e i z hu hi hz' a m c ns (by rw [← hlen', hlen, hi1]) hat' (by omega) (by omega) (by rw [hi2]; omega)
              have hcap := grownCap_ge w m 0 e
              have hal := (hH.drew).alloc e news (ns.toArray ++ Builtin.zeroCells z.cells (grownCap w m 0 e - m)) (ns.toArray ++ Builtin.zeroCells z.cells (grownCap w m 0 e - m)).size hsz
                (by simp only [Array.size_append, List.size_toArray]; omega) (Nat.le_refl _) (by
                  intro j u hj
                  obtain ⟨y, y1, y2⟩ := all2_at hall j u hj
                  refine ⟨y, ?_, y2⟩
                  rw [Array.getElem?_append_left (by rw [List.size_toArray]; exact (List.getElem?_eq_some_iff.1 y1).1)]
                  simpa using y1)
              refine ⟨_, _, _, hr, ⟨rfl, rfl, _, _, rfl, hcap, .inr ⟨_, Mu.put_same _ _ _, rfl, ?_⟩⟩, hal.1, (Evo.drew μ H w).trans hal.2⟩
              simp only [Array.size_append, List.size_toArray, size_zeroCells, hzs, ← hlen', hlen, ← Nat.add_mul]
              rw [show m + (grownCap w m 0 e - m) = grownCap w m 0 e from by omega]
              simp
            · cases h
          · rename_i p n' n
            split at h
            · rename_i vs e' ho
              split at h
              · rename_i hb
                obtain ⟨rfl, hb0, hb1, hb2, hz⟩ := hb
                cases h
                obtain ⟨z, hz, hzs⟩ := zeroOk_some hz
                have hz' : i.zero = some z := by unfold zeroA at hz; rw [hi] at hz; exact hz
                obtain ⟨e1, rfl, b, cap, e3, hnc, e4⟩ := hs
                subst e3
                have hlive : p.block < H.length := (List.getElem?_eq_some_iff.1 ho).1
                have hmul : (n + m) * P.cellsOf e' = n * P.cellsOf e' + m * P.cellsOf e' := Nat.add_mul _ _ _
                by_cases hroom : n + m ≤ cap
                · rcases e4 with e4 | ⟨L, hL, e4, e5⟩
                  · omega
                  subst e4
                  obtain ⟨L0, f1, f2, f3, f4, f5, f6, f7⟩ := hH.cells ho hL
                  rw [hL] at f1; cases f1
                  obtain ⟨cur, k1, k2⟩ := f7 rfl
                  have hcm : (n + m) * P.cellsOf e' ≤ cap * P.cellsOf e' := Nat.mul_le_mul_right _ hroom
                  rw [f4] at e5
                  have hr := run_append_room' (P := P) w t ty e' i hu hi L.blk (L.base + p.off) n cap cur k1 a m c ns (by rw [← hlen', hlen, hi1]) hat' (one_of_all2 hall) hroom (by rw [hi1, ← hlen', hlen]; omega)
                  rw [hi1] at hr
                  have hlt : (vs.take (p.off + n * P.cellsOf e')).length = p.off + n * P.cellsOf e' := by simp; omega
                  have hrw := hH.rewrite ho hL k1 (cur.toList.take (L.base + p.off + n * P.cellsOf e') ++ ns ++ cur.toList.drop (L.base + p.off + n * P.cellsOf e' + ns.length)).toArray
                    (by
                      have a1 : cur.toList.length = cur.size := Array.length_toList
                      simp only [List.size_toArray, List.length_append, List.length_take, List.length_drop]
                      omega) (vs.take (p.off + n * P.cellsOf e') ++ news) (by rw [List.length_append, hlt]; omega) (by
                      intro j u hj
                      have eq := putAt_at cur.toList (L.base + p.off + n * P.cellsOf e') ns (by rw [show cur.toList.length = cur.size from Array.length_toList]; omega) (L.base + j)
                      unfold putAt at eq
                      rw [List.getElem?_toArray, eq]
                      by_cases g1 : j < p.off + n * P.cellsOf e'
                      · rw [List.getElem?_append_left (by omega), List.getElem?_take, if_pos g1] at hj
                        rw [if_pos (by omega)]
                        obtain ⟨cv, a1, a2⟩ := f6 j u hj
                        rw [cells_at k1] at a1
                        exact ⟨cv, by simpa using a1, a2⟩
                      · rw [List.getElem?_append_right (by omega), hlt] at hj
                        have hjl := (List.getElem?_eq_some_iff.1 hj).1
                        rw [if_neg (by omega), if_pos (by omega)]
                        obtain ⟨cv, a1, a2⟩ := all2_at hall _ u hj
                        exact ⟨cv, by rw [show L.base + j - (L.base + p.off + n * P.cellsOf e') = j - (p.off + n * P.cellsOf e') from by omega]; exact a1, a2⟩)
                  have hmv := hrw.1.move (o := p.block) (vs := vs.take (p.off + n * P.cellsOf e') ++ news) (t := e') (by rw [getElem?_set', if_pos ⟨rfl, hlive⟩]) hL p.off (by rw [List.length_append, hlt]; omega)
                  have hdrop : (vs.take (p.off + n * P.cellsOf e') ++ news).drop p.off = (vs.drop p.off).take (n * P.cellsOf e') ++ news := by
                    rw [List.drop_append_of_le_length (by omega), List.drop_take, show p.off + n * P.cellsOf e' - p.off = n * P.cellsOf e' from by omega]
                  rw [hdrop, List.set_set, List.length_set] at hmv
                  refine ⟨_, _, _, hr, ⟨rfl, rfl, _, cap, rfl, hroom, .inr ⟨_, Mu.put_same _ _ _, by simp, ?_⟩⟩, hmv.1, hrw.2.trans hmv.2⟩
                  show 0 + cap * L.sz ≤ L.ext - p.off
                  rw [f4]; omega
                · have hos : ∃ os : List Value, All2 (CRel μ) ((vs.drop p.off).take (n * P.cellsOf e')) os ∧ os.length = n * P.cellsOf e' ∧ ∀ (j : Nat) (v : Value), os[j]? = some v → w.cell? (b.add j) = some v := by
                    rcases e4 with e4 | ⟨L, hL, e4, _⟩
                    · have : n = 0 := by omega
                      subst this
                      exact ⟨[], by simp; trivial, by simp, fun j v hj => by simp at hj⟩
                    · obtain ⟨os, o1, o2, o3⟩ := hH.range ho hL p.off (n * P.cellsOf e')
                      have hol : os.length = n * P.cellsOf e' := by rw [o2]; simp; omega
                      subst e4; exact ⟨os, o1, hol, o3⟩
                  obtain ⟨os, o1, hol, o3'⟩ := hos
                  have hr := run_append_grow (P := P) w t ty e' i z hu hi hz' b n cap os (by rw [hol, hi1]) o3' a m c ns (by rw [← hlen', hlen, hi1]) hat' (by omega) (by omega) (growslice_fits (by omega) (by rw [hi2]; omega))
                  have hcap := grownCap_ge w (n + m) cap e'
                  have hal := ((hH.drew).kill p.block).alloc e' ((vs.drop p.off).take (n * P.cellsOf e') ++ news) (os.toArray ++ ns.toArray ++ Builtin.zeroCells z.cells (grownCap w (n + m) cap e' - (n + m))) (os.toArray ++ ns.toArray ++ Builtin.zeroCells z.cells (grownCap w (n + m) cap e' - (n + m))).size hsz
                    (by
                      have := all2_len o1
                      simp only [Array.size_append, List.size_toArray, List.length_append]; omega) (Nat.le_refl _) (by
                      intro j u hj
                      obtain ⟨y, y1, y2⟩ := all2_at (all2_append o1 hall) j u hj
                      refine ⟨y, ?_, y2⟩
                      have hjl := (List.getElem?_eq_some_iff.1 y1).1
                      rw [List.length_append] at hjl
                      rw [Array.getElem?_append_left (by rw [Array.size_append, List.size_toArray, List.size_toArray]; exact hjl)]
                      rw [List.append_toArray]
                      simpa using y1)
                  rw [List.length_set] at hal
                  refine ⟨_, _, _, hr, ⟨rfl, rfl, _, _, rfl, hcap, .inr ⟨_, Mu.put_same _ _ _, rfl, ?_⟩⟩, hal.1, ((Evo.drew μ H w).trans (Evo.kill p.block)).trans hal.2⟩
                  simp only [Array.size_append, List.size_toArray, size_zeroCells, hzs, ← hlen', hlen, hol]
                  rw [← Nat.add_mul, ← Nat.add_mul, show n + m + (grownCap w (n + m) cap e' - (n + m)) = grownCap w (n + m) cap e' from by omega]
                  simp
              · cases h
            · cases h
          · cases h
      · cases h
    · cases h
  · cases h

end Go.Proofs.Ytnoihoeaconllaa.Ai
