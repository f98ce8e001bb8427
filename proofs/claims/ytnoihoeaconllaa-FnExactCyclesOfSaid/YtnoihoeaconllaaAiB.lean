/- Every drawn order comes to what ours comes to. No condition. -/
import Derived.Test.YtnoihoeaconllaaAiA
namespace Go.Proofs.Ytnoihoeaconllaa.Ai
open Go Go.RowKit
set_option linter.unusedVariables false
set_option linter.unusedSimpArgs false

theorem wpOp_on {P : Program} {ops : Array Oper} {Q : Exit → Act → World → Prop} {i : Nat} {o : Oper} {K : Act → World → Prop} {a : Act} {w : World} (ho : ops[i]? = some o) (hw : Region.wanted o (yielded ops a.tmps) = true) (h : o.wp P a w K Q) : wpOp P ops Q i K a w := by
  unfold wpOp; simp only [ho]; rw [if_pos hw]; exact .inl h
theorem wpOp_off {P : Program} {ops : Array Oper} {Q : Exit → Act → World → Prop} {i : Nat} {o : Oper} {K : Act → World → Prop} {a : Act} {w : World} (ho : ops[i]? = some o) (hw : ¬ Region.wanted o (yielded ops a.tmps) = true) (h : K (a.put o.dst undef) w) : wpOp P ops Q i K a w := by
  unfold wpOp; simp only [ho]; rw [if_neg hw]; exact h

theorem put_ne (s : Sl) {d : Option Nat} {v : Value} {i : Nat} (h : d ≠ some i) : Sl.put s d v i = s i := by
  cases d with
  | none => rfl
  | some d => rw [Sl.put_at, if_neg (fun e => h (by rw [e]))]
theorem put_eq (s : Sl) (v : Value) (i : Nat) : Sl.put s (some i) v i = v := by rw [Sl.put_at, if_pos rfl]

section
variable {P : Program} {N : Nat} {ops : Array Oper} {B : Array Nat} {μ0 : Mu} {H0 : AH} {w0 : World}

/-- ours does one more that may move -/
theorem Side.float {i : Nat} {pre : List Nat} {last : Option Nat} {o : Oper} {x : Opx} (hk : Chk N ops B i false pre last o x) {listed : Array Bool} {μ : Mu} {s sa : Sl} {H : AH} {ids : Nat → Nat} {a : Act} {w : World}
    (h : Side P N ops μ0 H0 w0 pre listed μ s sa H ids a w) (hl : listed.getD i true = false) {v : Value} {H' : AH} (hv : (¬ grdOn x.grd s ∧ v = undef ∧ H' = H) ∨ (grdOn x.grd s ∧ stepA P x.op s H = some (v, H'))) :
    ∃ ids', Side P N ops μ0 H0 w0 (i :: pre) listed μ (s.put x.dst v) sa H' ids' a w := by
  obtain ⟨hfl, d, hd, hself⟩ := hk.flo rfl
  -- what stays as it is, of x itself
  have hop : opOK x.op = true := by rw [(opxOf_some hk.opx).2.2]; exact hk.ok
  have far : ∀ j ∈ pre, ∀ y, opxAt ops j = some y → d ∉ readsOf y ∧ y.dst ≠ some d := by
    intro j hj y hy
    rcases hk.wr j hj y d hy hd with ⟨e, _⟩ | h
    · cases e
    · exact h
  -- the heap: as it was, or one more
  have heap : H' = H ∨ ∃ obj, H' = H ++ [obj] ∧ fl x.op = 3 := by
    rcases hv with ⟨_, _, e⟩ | ⟨_, e⟩
    · exact .inl e
    · have hc : fl x.op = 1 ∨ fl x.op = 2 ∨ fl x.op = 3 := by
        have : fl x.op ≤ 3 := by unfold fl; split <;> omega
        omega
      rcases hc with hc | hc | hc
      · exact .inl (pure_step hc e).1
      · exact .inl (read_step hc e).1
      · have he := (opxOf_some hk.opx).2.2
        rw [he] at e hc
        obtain ⟨vof, obj, g1, g2, g3, g4⟩ := mk_step hc hk.ok e
        exact .inr ⟨obj, g2, by rw [he]; exact hc⟩
  have hlen : H.length ≤ H'.length := by rcases heap with rfl | ⟨obj, rfl, _⟩ <;> simp
  have look : ∀ k, k < H.length → H'[k]? = H[k]? := by
    intro k hk
    rcases heap with rfl | ⟨obj, rfl, _⟩
    · rfl
    · rw [List.getElem?_append_left hk]
  have hH' : HRel P μ H' w := by
    rcases heap with rfl | ⟨obj, rfl, _⟩
    · exact h.hH
    · exact h.hH.phantom obj
  have hE' : Evo μ0 H0 w0 μ H' w := by
    rcases heap with rfl | ⟨obj, rfl, _⟩
    · exact h.evo
    · exact h.evo.phantom h.hH obj
  -- x's own reads are not x's place
  let ids' : Nat → Nat := fun j => if j = i then H.length else ids j
  have selfr : grdOn x.grd s → (fl x.op = 1 → True) := fun _ _ => trivial
  have oldlag : ∀ j ∈ pre, listed.getD j true = false → ∃ y, opxAt ops j = some y ∧ Lag P (s.put x.dst v) μ H0 H' (ids j) y := by
    intro j hj hjl
    obtain ⟨y, hy, hlag⟩ := h.lag j hj hjl
    obtain ⟨f1, f2⟩ := far j hj y hy
    refine ⟨y, hy, hlag.keep (fun k hk => put_ne s (by rw [hd]; intro e; cases e; exact f1 hk)) (fun e he => put_ne s (by rw [hd]; intro e'; cases e'; exact f2 he)) ?_ ?_ (fun e _ => e)⟩
    · intro hp e he hg
      obtain ⟨_, e', he', _, k2⟩ := hlag
      rw [he] at he'; cases he'
      have hr : ∀ k ∈ readsOf y, s.put x.dst v k = s k := fun k hk => put_ne s (by rw [hd]; intro e; cases e; exact f1 hk)
      have hst := (k2 ((grdOn_congr hr).1 hg)).2.1 hp
      rw [stepA_congr (eval_of_reads hr), show s.put x.dst v e = s e from put_ne s (by rw [hd]; intro e'; cases e'; exact f2 he)]
      rcases heap with rfl | ⟨obj, rfl, _⟩
      · exact hst
      · exact (read_step hp hst).2 obj
    · intro hp hg e he hid
      obtain ⟨_, e', he', _, k2⟩ := hlag
      have hr : ∀ k ∈ readsOf y, s.put x.dst v k = s k := fun k hk => put_ne s (by rw [hd]; intro e; cases e; exact f1 hk)
      obtain ⟨H1, obj, g1, g2, g3, g4, g5, g6⟩ := (k2 ((grdOn_congr hr).1 hg)).2.2 hp
      exact look _ (List.getElem?_eq_some_iff.1 g4).1
  have idsold : ∀ j ∈ pre, ids' j = ids j := by
    intro j hj
    have : j ≠ i := fun e => hk.new (e ▸ hj)
    simp [ids', this]
  · have hr : ∀ k ∈ readsOf x, s.put x.dst v k = s k := fun k hk => put_ne s (by rw [hd]; intro e; cases e; exact hself hk)
    have mine : Lag P (s.put x.dst v) μ H0 H' H.length x := by
      refine ⟨hfl, d, hd, ?_, ?_⟩
      · intro hn
        rw [hd, put_eq]
        rcases hv with ⟨_, e, _⟩ | ⟨e, _⟩
        · exact e
        · exact absurd ((grdOn_congr hr).2 e) hn
      · intro hg
        have hg0 := (grdOn_congr hr).1 hg
        rcases hv with ⟨e, _⟩ | ⟨_, e⟩
        · exact absurd hg0 e
        · rw [hd, put_eq]
          have er : ∀ H2, stepA P x.op (s.put (some d) v) H2 = stepA P x.op s H2 := fun H2 => by rw [← hd]; exact stepA_congr (eval_of_reads hr) H2
          refine ⟨fun hp H2 => by rw [er]; exact (pure_step hp e).2 H2, fun hp => ?_, fun hp => ?_⟩
          · have e2 := (read_step hp e).1
            rw [er, e2]; rw [e2] at e; exact e
          · have he := (opxOf_some hk.opx).2.2
            have hp' : fl o.op = 3 := by rw [← he]; exact hp
            have e' : stepA P o.op s H = some (v, H') := by rw [← he]; exact e
            obtain ⟨vof, obj, g1, g2, g3, g4⟩ := mk_step hp' hk.ok e'
            refine ⟨H, obj, by rw [er, ← g2]; exact e, rfl, g3, ?_, h.hH.dom _ (Nat.le_refl _), h.evo.len⟩
            rw [g2]; simp
    refine ⟨ids', hH', h.hs, hE', ?_, ?_, ?_⟩
    · intro k hkk
      have hne : d ≠ k := fun e => hkk i List.mem_cons_self hl x hk.optAt (by rw [hd, e])
      rw [put_ne s (by rw [hd]; intro e; cases e; exact hne rfl)]
      exact h.agree k (fun j hj => hkk j (List.mem_cons_of_mem _ hj))
    · intro j hj hjl
      rcases List.mem_cons.1 hj with rfl | hj
      · exact ⟨x, hk.optAt, by simpa [ids'] using mine⟩
      · obtain ⟨y, hy, hlag⟩ := oldlag j hj hjl
        exact ⟨y, hy, by rw [idsold j hj]; exact hlag⟩
    · intro j hj k hkm hjl hkl hne y z hy hz hfy hfz hgy hgz
      have lt : ∀ j ∈ pre, listed.getD j true = false → ∀ y, opxAt ops j = some y → fl y.op = 3 → grdOn y.grd (s.put x.dst v) → ids j < H.length := by
        intro j hj hjl y hy hfy hgy
        obtain ⟨y', hy', hlag⟩ := h.lag j hj hjl
        rw [hy] at hy'; cases hy'
        obtain ⟨_, e', he', _, k2⟩ := hlag
        have hr : ∀ k ∈ readsOf y, s.put x.dst v k = s k := fun k hk => put_ne s (by rw [hd]; intro e; cases e; exact (far j hj y hy).1 hk)
        obtain ⟨H1, obj, g1, g2, g3, g4, g5, g6⟩ := (k2 ((grdOn_congr hr).1 hgy)).2.2 hfy
        exact (List.getElem?_eq_some_iff.1 g4).1
      rcases List.mem_cons.1 hj with ej | hj1 <;> rcases List.mem_cons.1 hkm with ek | hk1
      · exact absurd (ej.trans ek.symm) hne
      · rw [idsold k hk1]
        have := lt k hk1 hkl z hz hfz hgz
        simp only [ids', ej, if_true]; omega
      · rw [idsold j hj1]
        have := lt j hj1 hjl y hy hfy hgy
        simp only [ids', ek, if_true]; omega
      · have hj := hj1
        have hkm := hk1
        rw [idsold j hj, idsold k hkm]
        refine h.apart j hj k hkm hjl hkl hne y z hy hz hfy hfz ((grdOn_congr ?_).1 hgy) ((grdOn_congr ?_).1 hgz)
        · exact fun q hq => put_ne s (by rw [hd]; intro e; cases e; exact (far j hj y hy).1 hq)
        · exact fun q hq => put_ne s (by rw [hd]; intro e; cases e; exact (far k hkm z hz).1 hq)

/-- what our order has passed, checked -/
def PreOk (N : Nat) (ops : Array Oper) (B : Array Nat) (chn : Nat → Bool) : List Nat → Prop
  | [] => True
  | i :: pre => (∃ last o x, Chk N ops B i (chn i) pre last o x) ∧ PreOk N ops B chn pre

theorem PreOk.at_ {chn : Nat → Bool} : ∀ {pre : List Nat}, PreOk N ops B chn pre → ∀ j ∈ pre, ∃ p l o x, Chk N ops B j (chn j) p l o x
  | [], _, j, hj => by cases hj
  | i :: pre, h, j, hj => by
    simp only [PreOk] at h
    rcases List.mem_cons.1 hj with e | hj
    · rw [e]; obtain ⟨l, o, x, hk⟩ := h.1; exact ⟨_, l, o, x, hk⟩
    · exact PreOk.at_ h.2 j hj

theorem PreOk.reads {chn : Nat → Bool} : ∀ {pre : List Nat}, PreOk N ops B chn pre → ∀ j ∈ pre, ∀ k ∈ pre, chn j = false → chn k = false → ∀ x y d, opxAt ops j = some x → opxAt ops k = some y → y.dst = some d → d ∈ readsOf x → (B.getD j 0).testBit k = true
  | [], _, j, hj, _, _, _, _, _, _, _, _, _, _, _ => by cases hj
  | i :: pre, h, j, hj, k, hk, hcj, hck, x, y, d, hx, hy, hd, hm => by
    simp only [PreOk] at h
    obtain ⟨⟨l, o, z, hz⟩, h2⟩ := h
    rcases List.mem_cons.1 hj with ej | hj1 <;> rcases List.mem_cons.1 hk with ek | hk1
    · subst ej; subst ek
      rw [hx] at hy; cases hy
      have := hz.optAt; rw [hx] at this; cases this
      obtain ⟨_, d', hd', hn⟩ := hz.flo hcj
      rw [hd] at hd'; cases hd'
      exact absurd hm hn
    · subst ej
      have := hz.optAt; rw [hx] at this; cases this
      exact hz.rd k hk1 y d hy hd hm
    · subst ek
      have := hz.optAt; rw [hy] at this; cases this
      rcases hz.wr j hj1 x d hx hd with ⟨e, _⟩ | ⟨e, _⟩
      · rw [hck] at e; cases e
      · exact absurd hm e
    · exact PreOk.reads h2 j hj1 k hk1 hcj hck x y d hx hy hd hm

theorem getD_set_same {listed : Array Bool} {i : Nat} : (listed.setIfInBounds i true).getD i true = true := by
  rw [Array.getD_eq_getD_getElem?, Array.getElem?_setIfInBounds]
  by_cases h : i < listed.size
  · simp [h]
  · simp [h]

theorem unlisted_of_set {listed : Array Bool} {i j : Nat} (h : (listed.setIfInBounds i true).getD j true = false) : j ≠ i ∧ listed.getD j true = false := by
  have hne : j ≠ i := by
    intro e
    subst e
    rw [getD_set_same] at h; cases h
  exact ⟨hne, by rw [getD_set_ne true (Ne.symm hne)] at h; exact h⟩

theorem Side.late {chn : Nat → Bool} {pre : List Nat} (hpre : PreOk N ops B chn pre) (hB : bitsOk ops B = true) {listed : Array Bool} (hcl : Closed ops listed) {μ : Mu} {s sa : Sl} {H : AH} {ids : Nat → Nat} {a : Act} {w : World}
    (h : Side P N ops μ0 H0 w0 pre listed μ s sa H ids a w) (hch : ∀ j ∈ pre, chn j = true → listed.getD j false = true) {j : Nat} (hj : j ∈ pre) (hr : j ∈ Region.ready .any ops listed) {next : Act → World → Prop} {Q : Exit → Act → World → Prop}
    (hn : ∀ μ' sa' a' w', Side P N ops μ0 H0 w0 pre (listed.setIfInBounds j true) μ' s sa' H ids a' w' → next a' w') : wpOp P ops Q j next a w := by
  obtain ⟨hjl, o, ho, hedge⟩ := mem_ready.1 hr
  obtain ⟨p, l, o', x, hk⟩ := hpre.at_ j hj
  have e0 := hk.at_; rw [ho] at e0; cases e0
  obtain ⟨x', hx', hlag⟩ := h.lag j hj hjl
  have e1 := hk.optAt; rw [hx'] at e1; cases e1
  have bits := bits_listed hB hcl j o ho hedge
  have nochn : ∀ k ∈ pre, listed.getD k true = false → chn k = false := by
    intro k hkm hkl
    cases hc : chn k with
    | false => rfl
    | true => have := listed_agree (hch k hkm hc); rw [hkl] at this; cases this
  have hcj := nochn j hj hjl
  have reads : ∀ r ∈ readsOf x, sa r = s r := by
    intro r hrm
    refine h.agree r ?_
    intro k hkm hkl y hy hd
    have := hpre.reads j hj k hkm hcj (nochn k hkm hkl) x y r hx' hy hd hrm
    have := listed_agree (bits k this)
    rw [hkl] at this; cases this
  obtain ⟨hfl, d, hd, hoff, hon⟩ := hlag
  have hod : o.dst = some d := by rw [← (opxOf_some hk.opx).2.1]; exact hd
  have hop := (opxOf_some hk.opx).2.2
  have hdN : ∀ i, o.dst = some i → i < N := hk.dst
  -- what holds behind it
  have fin : ∀ (μ' : Mu) (cv : Value) (w' : World), HRel P μ' H w' → Evo μ0 H0 w0 μ' H w' → μ.Le μ' → TRel μ' (s d) cv → (∀ k ∈ pre, k ≠ j → listed.getD k true = false → ∀ y, opxAt ops k = some y → fl y.op = 3 → grdOn y.grd s → μ (ids k) = none → ids k < H.length → μ' (ids k) = none) → next (a.put o.dst cv) w' := by
    intro μ' cv w' g1 g2 g3 g4 g5
    refine hn μ' (sa.put o.dst (s d)) _ w' ⟨g1, (h.hs.mono g3).put hdN g4, g2, ?_, ?_, ?_⟩
    · intro i hi
      rw [hod]
      by_cases e : d = i
      · subst e; rw [put_eq]
      · rw [put_ne sa (fun e' => e (Option.some.inj e'))]
        refine h.agree i ?_
        intro k hkm hkl y hy hdk
        by_cases ekj : k = j
        · subst ekj
          rw [hx'] at hy; cases hy
          rw [hd] at hdk; cases hdk; exact e rfl
        · exact hi k hkm (by rw [getD_set_ne true (Ne.symm ekj)]; exact hkl) y hy hdk
    · intro k hkm hkl
      obtain ⟨hne, hkl⟩ := unlisted_of_set hkl
      obtain ⟨y, hy, hly⟩ := h.lag k hkm hkl
      refine ⟨y, hy, ?_⟩
      obtain ⟨q1, d', q2, q3, q4⟩ := hly
      refine ⟨q1, d', q2, q3, fun hg => ⟨(q4 hg).1, (q4 hg).2.1, fun hp => ?_⟩⟩
      obtain ⟨H1, obj, f1, f2, f3, f4, f5, f6⟩ := (q4 hg).2.2 hp
      exact ⟨H1, obj, f1, f2, f3, f4, g5 k hkm hne hkl y hy hp hg f5 (List.getElem?_eq_some_iff.1 f4).1, f6⟩
    · intro k hkm k' hkm' hkl hkl'
      exact h.apart k hkm k' hkm' (unlisted_of_set hkl).2 (unlisted_of_set hkl').2
  by_cases hg : grdOn x.grd s
  · have hw : Region.wanted o (yielded ops a.tmps) = true := (wanted_iff h.hs hk.opx).2 ((grdOn_congr reads).2 hg)
    refine wpOp_on ho hw ?_
    obtain ⟨k1, k2, k3⟩ := hon hg
    have hc : fl x.op = 1 ∨ fl x.op = 2 ∨ fl x.op = 3 := by
      have : fl x.op ≤ 3 := by unfold fl; split <;> omega
      omega
    have plain : stepA P x.op s H = some (s d, H) → o.wp P a w next Q := by
      intro hst
      have hst' : stepA P o.op sa H = some (s d, H) := by rw [← hop, stepA_congr (eval_of_reads reads)]; exact hst
      obtain ⟨μ', cv, w', g1, g2, g3, g4⟩ := stepA_ok h.hH h.hs o hk.ok hst'
      have key : next (a.put o.dst cv) w' := fin μ' cv w' g3 (h.evo.trans g4) g4.le g2 (fun k _ _ _ _ _ _ _ hm hlt => by rw [g4.old _ hlt]; exact hm)
      unfold Oper.wp
      rcases g1 with g1 | ⟨g1, e⟩
      · rw [g1]; exact key
      · rw [g1]
        rw [e] at g2
        exact fin μ' undef w' g3 (h.evo.trans g4) g4.le g2 (fun k _ _ _ _ _ _ _ hm hlt => by rw [g4.old _ hlt]; exact hm)
    rcases hc with hc | hc | hc
    · exact plain (k1 hc H)
    · exact plain (k2 hc)
    · obtain ⟨H1, obj, f1, f2, f3, f4, f5, f6⟩ := k3 hc
      have f1' : stepA P o.op sa H1 = some (s d, H1 ++ [obj]) := by rw [← hop, stepA_congr (eval_of_reads reads)]; exact f1
      obtain ⟨vof, obj', m1, m2, m3, m4⟩ := mk_step (by rw [← hop]; exact hc) hk.ok f1'
      have eo : obj' = obj := by simpa using m2.symm
      subst eo
      obtain ⟨cv, cur, t, vs, ext, c1, c2, c3, c4, c5, c6, c7⟩ := m4 N μ a w h.hs
      subst c1
      unfold Oper.wp
      rw [c2]
      have hre := h.hH.realize f4 f5 c3 c4 c5 c6
      refine fin _ cv _ hre (h.evo.realize f5 f6 _ rfl _) (Mu.le_put f5) (by rw [m1, ← f2]; exact c7 _ _ (Mu.put_same _ _ _)) ?_
      intro k hkm hne hkl y hy hp hgy hm hlt
      rw [Mu.put_other]
      · exact hm
      · exact h.apart k hkm j hj hkl hjl hne y x hy hx' hp hc hgy hg
  · have hw : ¬ Region.wanted o (yielded ops a.tmps) = true := fun hw => hg ((grdOn_congr reads).1 ((wanted_iff h.hs hk.opx).1 hw))
    refine wpOp_off ho hw ?_
    exact fin μ undef w h.hH h.evo (Mu.Le.refl _) (by rw [hoff hg]; exact TRel.undef _) (fun k _ _ _ _ _ _ _ hm _ => hm)

theorem mem_wsOf {pre : List Nat} {i j : Nat} {y : Opx} (hj : j ∈ pre) (hb : ¬ (B.getD i 0).testBit j = true) (hy : opxAt ops j = some y) (hf : 2 ≤ fl y.op) : y ∈ wsOf ops B pre i := by
  unfold wsOf
  refine List.mem_filterMap.2 ⟨j, hj, ?_⟩
  rw [if_neg hb, hy]
  simp [hf]

theorem Side.chain {pre : List Nat} (hB : bitsOk ops B = true) {listed : Array Bool} (hcl : Closed ops listed) {μ : Mu} {s sa : Sl} {H : AH} {ids : Nat → Nat} {a : Act} {w : World}
    (h : Side P N ops μ0 H0 w0 pre listed μ s sa H ids a w) {i : Nat} {last : Option Nat} {o : Oper} {x : Opx} (hk : Chk N ops B i true pre last o x) (hr : i ∈ Region.ready .any ops listed) {K : Value → AH → Prop}
    (hx : runX P x s H fun v H' => watchA P (s.put x.dst v) H H' (wsOf ops B pre i) ∧ K v H') {next : Act → World → Prop} {Q : Exit → Act → World → Prop}
    (hn : ∀ v H' μ' sa' a' w', K v H' → Side P N ops μ0 H0 w0 (i :: pre) (listed.setIfInBounds i true) μ' (s.put x.dst v) sa' H' ids a' w' → next a' w') : wpOp P ops Q i next a w := by
  obtain ⟨hil, o', ho, hedge⟩ := mem_ready.1 hr
  have e0 := hk.at_; rw [ho] at e0; cases e0
  have bits := bits_listed hB hcl i o ho hedge
  have nobit : ∀ k, listed.getD k true = false → ¬ (B.getD i 0).testBit k = true := by
    intro k hkl hb
    have := listed_agree (bits k hb)
    rw [hkl] at this; cases this
  have reads : ∀ r ∈ readsOf x, sa r = s r := by
    intro r hrm
    refine h.agree r ?_
    intro k hkm hkl y hy hd
    exact nobit k hkl (hk.rd k hkm y r hy hd hrm)
  obtain ⟨hg, e1, e2⟩ := opxOf_some hk.opx
  have hxs : runX P ⟨o.dst, o.op, x.grd⟩ sa H fun v H' => watchA P (s.put x.dst v) H H' (wsOf ops B pre i) ∧ K v H' := by
    rw [← e1, ← e2]
    have := runX_congr (P := P) reads H (fun v H' => watchA P (s.put x.dst v) H H' (wsOf ops B pre i) ∧ K v H')
    exact this ▸ hx
  refine oper_sound h.hH h.hs ho hg hk.ok hk.dst hxs ?_
  rintro v H' μ' cv w' ⟨hwt, hK⟩ hv hH' he
  have far : ∀ j ∈ pre, listed.getD j true = false → ∀ y d, opxAt ops j = some y → x.dst = some d → d ∉ readsOf y ∧ y.dst ≠ some d := by
    intro j hj hjl y d hy hd
    rcases hk.wr j hj y d hy hd with ⟨_, hb⟩ | h
    · exact absurd hb (nobit j hjl)
    · exact h
  refine hn v H' μ' (sa.put x.dst v) _ w' hK ⟨hH', ?_, h.evo.trans he, ?_, ?_, ?_⟩
  · rw [e1]; exact (h.hs.mono he.le).put hk.dst hv
  · intro q hq
    by_cases e : x.dst = some q
    · rw [e, put_eq, put_eq]
    · rw [put_ne sa e, put_ne s e]
      refine h.agree q ?_
      intro k hkm hkl y hy
      by_cases ek : k = i
      · exact absurd (ek ▸ hkm) hk.new
      · exact hq k (List.mem_cons_of_mem _ hkm) (by rw [getD_set_ne true (Ne.symm ek)]; exact hkl) y hy
  · intro k hkm hkl
    obtain ⟨hne, hkl⟩ := unlisted_of_set hkl
    have hkp : k ∈ pre := by rcases List.mem_cons.1 hkm with e | e; exact absurd e hne; exact e
    obtain ⟨y, hy, hly⟩ := h.lag k hkp hkl
    refine ⟨y, hy, ?_⟩
    have hrd : ∀ q ∈ readsOf y, s.put x.dst v q = s q := fun q hq => put_ne s (fun e => (far k hkp hkl y q hy e).1 hq)
    refine hly.keep hrd (fun q hq => put_ne s (fun e => (far k hkp hkl y q hy e).2 hq)) ?_ ?_ ?_
    · intro hp q hq hgq
      have := watchA_mem hwt (mem_wsOf hkp (nobit k hkl) hy (by omega))
      unfold watch1 at this
      rw [hq] at this
      simp only [fl_notmk (.inr hp)] at this
      exact this hgq
    · intro hp hgq q hq hid
      have := watchA_mem hwt (mem_wsOf hkp (nobit k hkl) hy (by omega))
      unfold watch1 at this
      rw [hq] at this
      simp only [fl_mk hp, hid] at this
      exact this
    · intro hm hlt
      rw [he.old _ hlt]; exact hm
  · intro j hj k hkm hjl hkl hne y z hy hz hfy hfz hgy hgz
    obtain ⟨hji, hjl⟩ := unlisted_of_set hjl
    obtain ⟨hki, hkl⟩ := unlisted_of_set hkl
    have hjp : j ∈ pre := by rcases List.mem_cons.1 hj with e | e; exact absurd e hji; exact e
    have hkp : k ∈ pre := by rcases List.mem_cons.1 hkm with e | e; exact absurd e hki; exact e
    refine h.apart j hjp k hkp hjl hkl hne y z hy hz hfy hfz ((grdOn_congr ?_).1 hgy) ((grdOn_congr ?_).1 hgz)
    · exact fun q hq => put_ne s (fun e => (far j hjp hjl y q hy e).1 hq)
    · exact fun q hq => put_ne s (fun e => (far k hkp hkl z q hz e).1 hq)

theorem drawChk_all : ∀ {rest : List (Nat × Bool)} {pre : List Nat} {last : Option Nat}, drawChk N ops B rest pre last = true → ∀ i, i < ops.size → i ∈ pre ∨ ∃ c, (i, c) ∈ rest
  | [], pre, last, h, i, hi => by
    have := List.all_eq_true.1 h i (List.mem_range.2 hi)
    exact .inl (by simpa using this)
  | (k, c) :: rest, pre, last, h, i, hi => by
    rcases drawChk_all (drawChk_cons h).2 i hi with h1 | ⟨c', h1⟩
    · rcases List.mem_cons.1 h1 with rfl | h1
      · exact .inr ⟨c, List.mem_cons_self⟩
      · exact .inl h1
    · exact .inr ⟨c', List.mem_cons_of_mem _ h1⟩

theorem drawChk_last : ∀ {rest : List (Nat × Bool)} {pre : List Nat} {l0 : Nat}, drawChk N ops B rest pre (some l0) = true → ∀ i c, (i, c) ∈ rest → ∃ l, (l = l0 ∨ (l, true) ∈ rest) ∧ (B.getD i 0).testBit l = true
  | [], pre, l0, h, i, c, hi => by cases hi
  | (k, c') :: rest, pre, l0, h, i, c, hi => by
    obtain ⟨⟨o, x, hk⟩, h2⟩ := drawChk_cons h
    rcases List.mem_cons.1 hi with e | hi1
    · cases e; exact ⟨l0, .inl rfl, hk.last l0 rfl⟩
    · cases c' with
      | true =>
        rw [if_pos rfl] at h2
        obtain ⟨l, h3, h4⟩ := drawChk_last h2 i c hi1
        refine ⟨l, .inr ?_, h4⟩
        rcases h3 with rfl | h3
        · exact List.mem_cons_self
        · exact List.mem_cons_of_mem _ h3
      | false =>
        rw [if_neg (by simp)] at h2
        obtain ⟨l, h3, h4⟩ := drawChk_last h2 i c hi1
        exact ⟨l, h3.imp id (List.mem_cons_of_mem _), h4⟩

structure Good (P : Program) (N : Nat) (ops : Array Oper) (B : Array Nat) (chn : Nat → Bool) (Q : Sl → AH → Prop) (μ0 : Mu) (H0 : AH) (w0 : World) (listed : Array Bool) (a : Act) (w : World) (pre : List Nat) (rest : List (Nat × Bool)) (last : Option Nat) (μ : Mu) (s sa : Sl) (H : AH) (ids : Nat → Nat) : Prop where
  side : Side P N ops μ0 H0 w0 pre listed μ s sa H ids a w
  pok : PreOk N ops B chn pre
  lst : ∀ j ∈ pre, chn j = true → listed.getD j false = true
  chk : drawChk N ops B rest pre last = true
  wp : wpSteps P Q (stepsOf ops B rest pre) s H
  un : ∀ p ∈ rest, listed.getD p.1 true = false
  flag : ∀ p ∈ rest, chn p.1 = p.2

theorem Good.advance {chn : Nat → Bool} {Q : Sl → AH → Prop} {listed : Array Bool} {a : Act} {w : World} {μ : Mu} {sa : Sl} : ∀ (rest : List (Nat × Bool)) (pre : List Nat) (last : Option Nat) (s : Sl) (H : AH) (ids : Nat → Nat), Good P N ops B chn Q μ0 H0 w0 listed a w pre rest last μ s sa H ids →
    ∃ pre' rest' last' s' H' ids', Good P N ops B chn Q μ0 H0 w0 listed a w pre' rest' last' μ s' sa H' ids' ∧ (rest' = [] ∨ ∃ i r, rest' = (i, true) :: r)
  | [], pre, last, s, H, ids, h => ⟨pre, [], last, s, H, ids, h, .inl rfl⟩
  | (i, true) :: r, pre, last, s, H, ids, h => ⟨pre, _, last, s, H, ids, h, .inr ⟨i, r, rfl⟩⟩
  | (i, false) :: r, pre, last, s, H, ids, h => by
    obtain ⟨⟨o, x, hk⟩, h2⟩ := drawChk_cons h.chk
    have hw := h.wp
    simp only [stepsOf, hk.optAt, Bool.false_eq_true, if_false, wpSteps, watchA, true_and] at hw
    obtain ⟨v, H', g1, g2⟩ := runX_fl (hk.flo rfl).1 hw
    have hl := h.un (i, false) List.mem_cons_self
    have hf := h.flag (i, false) List.mem_cons_self
    obtain ⟨ids', hs⟩ := h.side.float hk hl g2
    refine Good.advance r (i :: pre) _ (s.put x.dst v) H' ids' ⟨hs, ⟨⟨last, o, x, by rw [hf]; exact hk⟩, h.pok⟩, ?_, h2, g1, fun p hp => h.un p (List.mem_cons_of_mem _ hp), fun p hp => h.flag p (List.mem_cons_of_mem _ hp)⟩
    intro j hj hc
    rcases List.mem_cons.1 hj with e | hj
    · rw [e] at hc; rw [hf] at hc; cases hc
    · exact h.lst j hj hc

def cnt (ops : Array Oper) (listed : Array Bool) : Nat := ((List.range ops.size).filter fun i => !listed.getD i true).length

theorem filter_lt {p q : Nat → Bool} : ∀ (l : List Nat), (∀ x, q x = true → p x = true) → ∀ i ∈ l, p i = true → q i = false → (l.filter q).length < (l.filter p).length
  | [], _, i, hi, _, _ => by cases hi
  | x :: l, h, i, hi, hp, hq => by
    have hle : ∀ l : List Nat, (l.filter q).length ≤ (l.filter p).length := by
      intro l
      induction l with
      | nil => exact Nat.le_refl _
      | cons y l ih =>
        simp only [List.filter_cons]
        cases hy : q y with
        | true => rw [h y hy]; simp only [if_true, List.length_cons]; omega
        | false => cases hp : p y <;> simp <;> omega
    have hll := hle l
    simp only [List.filter_cons]
    rcases List.mem_cons.1 hi with e | hi
    · subst e; rw [hp, hq]; simp only [if_true, List.length_cons, Bool.false_eq_true, if_false]; omega
    · have := filter_lt l h i hi hp hq
      cases hx : q x with
      | true => rw [h x hx]; simp only [if_true, List.length_cons]; omega
      | false => cases hp : p x <;> simp <;> omega

theorem cnt_set {listed : Array Bool} {i : Nat} (hi : i < ops.size) (hl : listed.getD i true = false) : cnt ops (listed.setIfInBounds i true) < cnt ops listed := by
  refine filter_lt _ ?_ i (List.mem_range.2 hi) (by simp [hl]) (by rw [getD_set_same]; rfl)
  intro x hx
  have hx' : (listed.setIfInBounds i true).getD x true = false := by simpa using hx
  simp [(unlisted_of_set hx').2]

theorem closed_set {listed : Array Bool} (hc : Closed ops listed) {i : Nat} (hr : i ∈ Region.ready .any ops listed) : Closed ops (listed.setIfInBounds i true) := by
  obtain ⟨_, o, ho, he⟩ := mem_ready.1 hr
  intro j o' hj ho' e hem hb
  refine getD_set_true ?_
  by_cases hji : j = i
  · subst hji
    rw [ho] at ho'; cases ho'
    exact he e hem hb
  · exact hc j o' (by rw [getD_set_ne true (Ne.symm hji)] at hj; exact hj) ho' e hem hb

theorem any_sound (hB : bitsOk ops B = true) {chn : Nat → Bool} {Q : Exit → Sl → AH → Prop} : ∀ (fuel : Nat) (listed : Array Bool) (a : Act) (w : World) (pre : List Nat) (rest : List (Nat × Bool)) (last : Option Nat) (μ : Mu) (s sa : Sl) (H : AH) (ids : Nat → Nat),
    Good P N ops B chn (Q .normal) μ0 H0 w0 listed a w pre rest last μ s sa H ids → Closed ops listed → listed.size = ops.size → cnt ops listed ≤ fuel → wpAny P .any ops (Post P N μ0 H0 w0 Q) fuel listed a w := by
  intro fuel
  induction fuel with
  | zero =>
    intro listed a w pre rest last μ s sa H ids hg hcl hsz hcnt
    have hall : ∀ i, i < ops.size → listed.getD i true = true := by
      intro i hi
      cases hl : listed.getD i true with
      | true => rfl
      | false => have := cnt_set hi hl; omega
    have hr : Region.ready .any ops listed = [] := by
      cases hrr : Region.ready .any ops listed with
      | nil => rfl
      | cons j r =>
        have hj : j ∈ Region.ready .any ops listed := by rw [hrr]; exact List.mem_cons_self
        obtain ⟨h1, o, h2, _⟩ := mem_ready.1 hj
        rw [hall j (Array.getElem?_eq_some_iff.1 h2).1] at h1; cases h1
    refine ⟨hr, ?_⟩
    exact fin hall (Good.advance rest pre last s H ids hg)
  | succ fuel ih =>
    intro listed a w pre rest last μ s sa H ids hg hcl hsz hcnt
    obtain ⟨pre', rest', last', s', H', ids', hg', hrest⟩ := Good.advance rest pre last s H ids hg
    refine ⟨fun hr => fin (all_listed hB hsz hr) ⟨pre', rest', last', s', H', ids', hg', hrest⟩, ?_⟩
    intro i hi
    obtain ⟨hil, o, ho, hedge⟩ := mem_ready.1 hi
    have hin : i < ops.size := (Array.getElem?_eq_some_iff.1 ho).1
    have hcnt' : cnt ops (listed.setIfInBounds i true) ≤ fuel := by have := cnt_set hin hil; omega
    have hsz' : (listed.setIfInBounds i true).size = ops.size := by simpa using hsz
    have hcl' := closed_set hcl hi
    rcases drawChk_all hg'.chk i hin with hp | ⟨c, hp⟩
    · refine hg'.side.late hg'.pok hB hcl hg'.lst hp hi ?_
      intro μ2 sa2 a2 w2 hs2
      refine ih _ _ _ pre' rest' last' μ2 s' sa2 H' ids' ⟨hs2, hg'.pok, fun j hj hc => getD_set_true (hg'.lst j hj hc), hg'.chk, hg'.wp, ?_, hg'.flag⟩ hcl' hsz' hcnt'
      intro p hpm
      have : p.1 ≠ i := by
        intro e
        have h1 := hg'.un p hpm
        -- i is in pre' already: it cannot be in rest' (it would be new there)
        exact notboth hg'.chk i hp p hpm e
      rw [getD_set_ne true (Ne.symm this)]; exact hg'.un p hpm
    · rcases hrest with e | ⟨k, r, e⟩
      · rw [e] at hp; cases hp
      · subst e
        obtain ⟨⟨o', x, hk⟩, h2⟩ := drawChk_cons hg'.chk
        rw [if_pos rfl] at h2
        rcases List.mem_cons.1 hp with e | hp
        · cases e
          have hw := hg'.wp
          simp only [stepsOf, hk.optAt, if_true, wpSteps] at hw
          refine hg'.side.chain hB hcl hk hi hw ?_
          intro v H2 μ2 sa2 a2 w2 hK hs2
          have hf := hg'.flag (i, true) List.mem_cons_self
          refine ih _ _ _ (i :: pre') r _ μ2 _ sa2 H2 ids' ⟨hs2, ⟨⟨last', o', x, by rw [hf]; exact hk⟩, hg'.pok⟩, ?_, h2, hK, ?_, fun p hp => hg'.flag p (List.mem_cons_of_mem _ hp)⟩ hcl' hsz' hcnt'
          · intro j hj hc
            rcases List.mem_cons.1 hj with e | hj
            · rw [e]
              rw [Array.getD_eq_getD_getElem?, Array.getElem?_setIfInBounds]
              simp [show i < listed.size from by omega]
            · exact getD_set_true (hg'.lst j hj hc)
          · intro p hpm
            have : p.1 ≠ i := fun e => notboth h2 i List.mem_cons_self p hpm e
            rw [getD_set_ne true (Ne.symm this)]; exact hg'.un p (List.mem_cons_of_mem _ hpm)
        · obtain ⟨l, h3, h4⟩ := drawChk_last h2 i c hp
          have hll := listed_agree (bits_listed hB hcl i o ho hedge l h4)
          have hul : listed.getD l true = false := by
            rcases h3 with rfl | h3
            · exact hg'.un (l, true) List.mem_cons_self
            · exact hg'.un (l, true) (List.mem_cons_of_mem _ h3)
          rw [hul] at hll; cases hll
where
  notboth : ∀ {rest : List (Nat × Bool)} {pre : List Nat} {last : Option Nat}, drawChk N ops B rest pre last = true → ∀ i, i ∈ pre → ∀ p ∈ rest, p.1 = i → False := by
    intro rest
    induction rest with
    | nil => intro pre last _ i _ p hp; cases hp
    | cons q rest ihr =>
      intro pre last h i hi p hp e
      obtain ⟨k, c⟩ := q
      obtain ⟨⟨o, x, hk⟩, h2⟩ := drawChk_cons h
      rcases List.mem_cons.1 hp with e2 | hp
      · rw [e2] at e; exact hk.new (by rw [show k = i from e]; exact hi)
      · exact ihr h2 i (List.mem_cons_of_mem _ hi) p hp e
  fin : ∀ {listed : Array Bool} {a : Act} {w : World} {μ : Mu} {sa : Sl}, (∀ i, i < ops.size → listed.getD i true = true) →
      (∃ pre' rest' last' s' H' ids', Good P N ops B chn (Q .normal) μ0 H0 w0 listed a w pre' rest' last' μ s' sa H' ids' ∧ (rest' = [] ∨ ∃ i r, rest' = (i, true) :: r)) → Post P N μ0 H0 w0 Q .normal a w := by
    intro listed a w μ sa hall h
    obtain ⟨pre, rest, last, s, H, ids, hg, hr⟩ := h
    have hnil : rest = [] := by
      rcases hr with e | ⟨i, r, e⟩
      · exact e
      · subst e
        obtain ⟨⟨o, x, hk⟩, _⟩ := drawChk_cons hg.chk
        have := hg.un (i, true) List.mem_cons_self
        rw [hall i (Array.getElem?_eq_some_iff.1 hk.at_).1] at this; cases this
    subst hnil
    have hsa : sa = s := by
      funext i
      refine hg.side.agree i ?_
      intro j hj hl x hx
      have : j < ops.size := by
        unfold opxAt at hx
        cases ho : ops[j]? with
        | none => rw [ho] at hx; cases hx
        | some o => exact (Array.getElem?_eq_some_iff.1 ho).1
      rw [hall j this] at hl; cases hl
    have hw := hg.wp
    simp only [stepsOf, wpSteps] at hw
    have hs := hg.side.hs
    rw [hsa] at hs
    exact ⟨μ, s, H, hg.side.hH, hs, hg.side.evo, hw⟩

/-- A REGION WHOSE ORDER IS DRAWN. -/
theorem draw_sound (hm : P.follows .mixedOrders = true) (hB : bitsOk ops B = true) {cl : List (Nat × Bool)} (hchk : drawChk N ops B cl [] none = true) {Q : Exit → Sl → AH → Prop} {s : Sl} {H : AH} {id : Nat}
    (h : wpSteps P (Q .normal) (stepsOf ops B cl []) s H) {μ : Mu} {a : Act} {w : World} (hH : HRel P μ H w) (hs : SRel N μ s a) : (Code.region id ops true).wp P (Post P N μ H w Q) a w := by
  refine wp_region_any hm ?_
  let chn : Nat → Bool := fun i => cl.any fun p => p.1 == i && p.2
  have hflag : ∀ (cl : List (Nat × Bool)) (pre : List Nat) (last : Option Nat), drawChk N ops B cl pre last = true → ∀ p ∈ cl, (cl.any fun q => q.1 == p.1 && q.2) = p.2 := by
    intro cl
    induction cl with
    | nil => intro _ _ _ p hp; cases hp
    | cons q cl ih =>
      intro pre last hc p hp
      obtain ⟨k, c⟩ := q
      obtain ⟨⟨o, x, hk⟩, h2⟩ := drawChk_cons hc
      have none' : (cl.any fun q => q.1 == k && q.2) = false := by
        rw [List.any_eq_false]
        intro q hq hx
        simp only [Bool.and_eq_true, beq_iff_eq] at hx
        exact any_sound.notboth h2 k List.mem_cons_self q hq hx.1
      simp only [List.any_cons]
      rcases List.mem_cons.1 hp with e | hp
      · rw [e]; simp only [beq_self_eq_true, Bool.true_and]
        rw [none', Bool.or_false]
      · rw [ih _ _ h2 p hp]
        have hne : k ≠ p.1 := fun e => any_sound.notboth h2 k List.mem_cons_self p hp e.symm
        simp [hne]
  have hw' : HRel P μ H { w with drawn := w.drawn + 1 } := hH.drew
  have key : wpAny P .any ops (Post P N μ H { w with drawn := w.drawn + 1 } Q) ops.size (Array.replicate ops.size false) a { w with drawn := w.drawn + 1 } := by
    refine any_sound (B := B) (chn := chn) hB ops.size _ _ _ [] cl none μ s s H (fun _ => 0) ⟨⟨hw', hs, Evo.refl _ _ _, fun _ _ => rfl, fun j hj => (by cases hj), fun j hj => (by cases hj)⟩, trivial, fun j hj => (by cases hj), hchk, h, ?_, hflag cl [] none hchk⟩ ?_ (by simp) ?_
    · intro p hp
      have : p.1 < ops.size := by
        clear hflag
        have key : ∀ (cl : List (Nat × Bool)) (pre : List Nat) (last : Option Nat), drawChk N ops B cl pre last = true → ∀ p ∈ cl, p.1 < ops.size := by
          intro cl
          induction cl with
          | nil => intro _ _ _ p hp; cases hp
          | cons q cl ih =>
            intro pre last hc p hp
            obtain ⟨k, c⟩ := q
            obtain ⟨⟨o, x, hk⟩, h2⟩ := drawChk_cons hc
            rcases List.mem_cons.1 hp with e | hp
            · rw [e]; exact (Array.getElem?_eq_some_iff.1 hk.at_).1
            · exact ih _ _ h2 p hp
        exact key cl [] none hchk p hp
      simp [this]
    · intro j o hj ho e he hb
      have : j < ops.size := (Array.getElem?_eq_some_iff.1 ho).1
      simp [this] at hj
    · unfold cnt
      exact Nat.le_trans (List.length_filter_le _ _) (by simp)
  have he : Evo μ H w μ H { w with drawn := w.drawn + 1 } := Evo.drew μ H w
  exact wpAny_weaken (fun e a w2 h => Post.trans he h) _ _ _ _ key
where
  wpAny_weaken {Q Q' : Exit → Act → World → Prop} (hq : ∀ e a w, Q e a w → Q' e a w) : ∀ (fuel : Nat) (listed : Array Bool) (a : Act) (w : World), wpAny P .any ops Q fuel listed a w → wpAny P .any ops Q' fuel listed a w := by
    intro fuel
    induction fuel with
    | zero => intro listed a w h; exact ⟨h.1, hq _ _ _ h.2⟩
    | succ fuel ih =>
      intro listed a w h
      refine ⟨fun hr => hq _ _ _ (h.1 hr), fun i hi => ?_⟩
      have := h.2 i hi
      unfold wpOp at this ⊢
      split
      · rename_i e; rw [e] at this; exact ih _ _ _ this
      · rename_i o e
        rw [e] at this
        simp only at this
        split
        · rename_i hw; rw [if_pos hw] at this
          exact this.imp (Oper.wp_weaken (ih _) hq) (fun h => ⟨h.1, by obtain ⟨a0, w0, h0⟩ := h.2; exact ⟨a0, w0, hq _ _ _ h0⟩⟩)
        · rename_i hw; rw [if_neg hw] at this; exact ih _ _ _ this

end
end Go.Proofs.Ytnoihoeaconllaa.Ai
