/- Code over an abstract heap, slim: what it must come to (wpC), that the model's code comes to it, and how a call's contract is proved. No condition. -/
import Derived.Test.YtnoihoeaconllaaAiB
namespace Go.Proofs.Ytnoihoeaconllaa.Ai
open Go Go.RowKit
set_option linter.unusedVariables false
set_option linter.unusedSimpArgs false

/-- A loop, its rounds counted down by a number that the relation bears. -/
theorem wp_loop_down {P : Program} {Q : Exit → Act → World → Prop} {c : Code} (I : Nat → Act → World → Prop)
    (round : ∀ n a w, I n a w → c.wp P (Exit.then (fun a' w' => ∃ m, m < n ∧ I m a' w') Q) a w) {n : Nat} {a : Act} {w : World} (h₀ : I n a w) : (Code.loop c).wp P Q a w := by
  intro b k cs
  have key : ∀ n a w, I n a w → ∃ e a' w', Q e a' w' ∧ Arrives P (lone (b.at a (.code c :: .inLoop c :: k)) cs w) b k cs e a' w' := by
    intro n
    induction n using Nat.strongRecOn with
    | _ n ih =>
      intro a w hI
      obtain ⟨e, a₁, w₁, hq, harr⟩ := round n a w hI b (.inLoop c :: k) cs
      cases e with
      | normal =>
        obtain ⟨m, hlt, hI₁⟩ := hq
        obtain ⟨e₂, a₂, w₂, hq₂, harr₂⟩ := ih m hlt a₁ w₁ hI₁
        exact ⟨e₂, a₂, w₂, hq₂, .of_steps (Steps.trans harr (.one step_inLoop)) harr₂⟩
      | exit id => exact ⟨_, a₁, w₁, hq, .pass (x := .inLoop c) rfl (fun _ _ => .inl (by simp)) harr⟩
      | goto l => exact ⟨_, a₁, w₁, hq, .pass (x := .inLoop c) rfl (fun _ _ => .inl (by simp)) harr⟩
      | ret => exact ⟨_, a₁, w₁, hq, .pass (x := .inLoop c) rfl (fun _ _ => .inl (by simp)) harr⟩
      | panic ch => exact ⟨_, a₁, w₁, hq, .pass (x := .inLoop c) rfl (fun _ _ => .inl (by simp)) harr⟩
      | outgrown => exact ⟨_, a₁, w₁, hq, .pass (x := .inLoop c) rfl (fun _ _ => .inl (by simp)) harr⟩
  obtain ⟨e, a', w', hq, harr⟩ := key n a w h₀
  exact ⟨e, a', w', hq, .of_steps (.one step_loop) harr⟩

/-- slim code -/
inductive Cd where
  | skip
  | exit (id : Nat)
  | ret
  | reg (ts : List Stp)
  | seq (a b : Cd)
  | cond (c : Operand) (t e : Cd)
  | block (id : Nat) (c : Cd)
  | loop (c : Cd)

def lookO (ords : List (Nat × List (Nat × Bool))) (id : Nat) : List (Nat × Bool) :=
  match ords with
  | [] => []
  | (i, l) :: r => if i = id then l else lookO r id

def opsOK (N : Nat) (ops : List Oper) : Bool := ops.all fun o => opOK o.op && (o.dst.all fun d => decide (d < N))

/-- the model's code, slim, if all checks hold -/
def slim (N : Nat) (ords : List (Nat × List (Nat × Bool))) : Code → Option Cd
  | .skip => some .skip
  | .exit id => some (.exit id)
  | .ret => some .ret
  | .region id ops draw =>
    match draw with
    | true =>
      match bitsOk ops (Region.before ops) && drawChk N ops (Region.before ops) (lookO ords id) [] none with
      | true => some (.reg (stepsOf ops (Region.before ops) (lookO ords id) []))
      | false => none
    | false =>
      match opsOK N ops.toList with
      | true => (textSteps ops ops.toList).map .reg
      | false => none
  | .seq a b => match slim N ords a, slim N ords b with | some x, some y => some (.seq x y) | _, _ => none
  | .cond c t e => match opOkC c, slim N ords t, slim N ords e with | true, some x, some y => some (.cond c x y) | _, _, _ => none
  | .block id c => (slim N ords c).map (.block id)
  | .loop c => (slim N ords c).map .loop
  | _ => none

/-- behind a part that ends normally -/
def thenA (K : Sl → AH → Prop) (Q : Exit → Sl → AH → Prop) : Exit → Sl → AH → Prop
  | .normal, s, H => K s H
  | e, s, H => Q e s H

def blockA (id : Nat) (Q : Exit → Sl → AH → Prop) : Exit → Sl → AH → Prop
  | .exit id', s, H => if id' = id then Q .normal s H else Q (.exit id') s H
  | e, s, H => Q e s H

/-- a loop: what holds before each round, counted down -/
def LoopA (body : (Sl → AH → Prop) → Sl → AH → Prop) (s : Sl) (H : AH) : Prop :=
  ∃ I : Nat → Sl → AH → Prop, (∃ n, I n s H) ∧ ∀ n s H, I n s H → body (fun s' H' => ∃ m, m < n ∧ I m s' H') s H

def wpC (P : Program) : Cd → (Exit → Sl → AH → Prop) → Sl → AH → Prop
  | .skip, Q, s, H => Q .normal s H
  | .reg ts, Q, s, H => wpSteps P (Q .normal) ts s H
  | .seq a b, Q, s, H => wpC P a (thenA (wpC P b Q) Q) s H
  | .cond c t e, Q, s, H => match evalA s c with | .bool b => Br b (wpC P t Q s H) (wpC P e Q s H) | _ => False
  | .block id c, Q, s, H => wpC P c (blockA id Q) s H
  | .loop c, Q, s, H => LoopA (fun K => wpC P c (thenA K Q)) s H
  | .exit id, Q, s, H => Q (.exit id) s H
  | .ret, Q, s, H => Q .ret s H

theorem wpC_sound {P : Program} {N : Nat} {ords : List (Nat × List (Nat × Bool))} (hm : P.follows .mixedOrders = true) : ∀ (c : Code) (d : Cd), slim N ords c = some d → ∀ (Q : Exit → Sl → AH → Prop) (s : Sl) (H : AH), wpC P d Q s H → AWP P N c Q s H := by
  intro c
  induction c with
  | skip => intro d hd Q s H h μ a w hH hs; cases hd; exact wp_skip ⟨μ, s, H, hH, hs, Evo.refl _ _ _, h⟩
  | exit id => intro d hd Q s H h μ a w hH hs; cases hd; exact wp_exit ⟨μ, s, H, hH, hs, Evo.refl _ _ _, h⟩
  | ret => intro d hd Q s H h μ a w hH hs; cases hd; exact wp_ret ⟨μ, s, H, hH, hs, Evo.refl _ _ _, h⟩
  | region id ops draw =>
    intro d hd Q s H h μ a w hH hs
    cases draw with
    | false =>
      simp only [slim] at hd
      split at hd
      · rename_i hok
        cases ht : textSteps ops ops.toList with
        | none => rw [ht] at hd; cases hd
        | some ts =>
          rw [ht] at hd
          cases hd
          refine wp_region ?_
          have := text_sound (P := P) (N := N) (Q := Q) ops.toList 0 (fun j => by rw [Array.getElem?_toList, Nat.zero_add]) (by
            intro o ho
            have := List.all_eq_true.1 hok o ho
            simp only [Bool.and_eq_true] at this
            refine ⟨this.1, fun i hi => ?_⟩
            have h2 := this.2
            rw [hi] at h2
            simpa using h2) ts ht s H μ a w h hH hs
          rwa [Array.length_toList, ← List.range_eq_range'] at this
      · cases hd
    | true =>
      simp only [slim] at hd
      split at hd
      · rename_i hok
        cases hd
        simp only [Bool.and_eq_true] at hok
        exact draw_sound hm hok.1 hok.2 h hH hs
      · cases hd
  | seq x y ihx ihy =>
    intro d hd Q s H h μ a w hH hs
    simp only [slim] at hd
    split at hd
    · rename_i dx dy ex ey
      cases hd
      refine wp_seq (wp_mono (ihx dx ex _ s H h μ a w hH hs) ?_)
      intro e a' w' hp
      obtain ⟨μ', s', H', h1, h2, h3, h4⟩ := hp
      cases e with
      | normal => exact wp_mono (ihy dy ey _ s' H' h4 μ' a' w' h1 h2) (fun e a2 w2 hp => Post.trans h3 hp)
      | _ => exact ⟨μ', s', H', h1, h2, h3, h4⟩
    · cases hd
  | cond c x y ihx ihy =>
    intro d hd Q s H h μ a w hH hs
    simp only [slim] at hd
    split at hd
    · rename_i dx dy hok ex ey
      cases hd
      simp only [wpC] at h
      split at h
      · rename_i b e
        have hc := hs.eval hok
        rw [e] at hc
        have hc' : a.eval c = .bool b := hc
        refine wp_cond hc' ?_
        cases b with
        | true => exact ihx dx ex Q s H (h.1 rfl) μ a w hH hs
        | false => exact ihy dy ey Q s H (h.2 rfl) μ a w hH hs
      · exact h.elim
    · cases hd
  | block id c ih =>
    intro d hd Q s H h μ a w hH hs
    simp only [slim] at hd
    cases hc : slim N ords c with
    | none => rw [hc] at hd; cases hd
    | some dc =>
      rw [hc] at hd
      cases hd
      refine wp_block (wp_mono (ih dc hc _ s H h μ a w hH hs) ?_)
      intro e a' w' hp
      obtain ⟨μ', s', H', h1, h2, h3, h4⟩ := hp
      cases e with
      | exit id' =>
        simp only [Exit.inBlock]
        simp only [blockA] at h4
        split
        · rename_i e; rw [if_pos e] at h4; exact ⟨μ', s', H', h1, h2, h3, h4⟩
        · rename_i e; rw [if_neg e] at h4; exact ⟨μ', s', H', h1, h2, h3, h4⟩
      | _ => exact ⟨μ', s', H', h1, h2, h3, h4⟩
  | loop c ih =>
    intro d hd Q s H h μ a w hH hs
    simp only [slim] at hd
    cases hc : slim N ords c with
    | none => rw [hc] at hd; cases hd
    | some dc =>
      rw [hc] at hd
      cases hd
      obtain ⟨I, ⟨n, h0⟩, hr⟩ := h
      refine wp_loop_down (fun n a' w' => ∃ μ' s' H', HRel P μ' H' w' ∧ SRel N μ' s' a' ∧ Evo μ H w μ' H' w' ∧ I n s' H') ?_ (n := n) ⟨μ, s, H, hH, hs, Evo.refl _ _ _, h0⟩
      rintro n a1 w1 ⟨μ1, s1, H1, g1, g2, g3, g4⟩
      refine wp_mono (ih dc hc _ s1 H1 (hr n s1 H1 g4) μ1 a1 w1 g1 g2) ?_
      intro e a' w' hp
      obtain ⟨μ', s', H', h1, h2, h3, h4⟩ := hp
      cases e with
      | normal => obtain ⟨m, hm, hI⟩ := h4; exact ⟨m, hm, μ', s', H', h1, h2, g3.trans h3, hI⟩
      | _ => exact ⟨μ', s', H', h1, h2, g3.trans h3, h4⟩
  | _ => intro d hd; cases hd

/-- what a function hands back -/
def resA (P : Program) (s : Sl) (H : AH) : List ResultVar → Option (List Value)
  | [] => some []
  | .tmp t :: rs => if isTup (s t) = true then none else (resA P s H rs).map (s t :: ·)
  | .cell a t :: rs => match loadA P t (s a) H with | some v => if isTup v = true then none else (resA P s H rs).map (v :: ·) | none => none

def outA (vs : List Value) : Value :=
  match vs with
  | [v] => v
  | vs => .tuple vs.toArray

theorem loadA_ptr {P : Program} {t : TypeId} {x v : Value} {H : AH} (h : loadA P t x H = some v) : ∃ p, x = .pointer (some p) := by
  unfold loadA at h
  split at h
  · exact ⟨_, rfl⟩
  · cases h

def rdRes (a : Act) : ResultVar → Sem Value
  | .tmp t => pure (a.tmps.getD t undef)
  | .cell x t => do loadVar t (← asAddr (a.tmps.getD x undef))

theorem asAddr_run {P : Program} (p : Addr) (w : World) : (asAddr (.pointer (some p))).run P w = .ok p w := rfl

theorem resA_run {P : Program} {N : Nat} {μ : Mu} {H : AH} {w : World} (hH : HRel P μ H w) {s : Sl} {a : Act} (hs : SRel N μ s a) : ∀ (rs : List ResultVar) (vs : List Value), resA P s H rs = some vs →
    ∃ cs, (rs.mapM (rdRes a)).run P w = .ok cs w ∧ All2 (VRel μ) vs cs
  | [], vs, h => by simp only [resA, Option.some.injEq] at h; subst h; exact ⟨[], by simp, trivial⟩
  | .tmp t :: rs, vs, h => by
    simp only [resA] at h
    split at h
    · cases h
    · rename_i hnt
      obtain ⟨us, h1, h2⟩ := map_some h
      subst h2
      obtain ⟨cs, g1, g2⟩ := resA_run hH hs rs us h1
      refine ⟨a.tmps.getD t undef :: cs, ?_, VRel.of_t' (by simpa using hnt) (hs.at_ t), g2⟩
      simp only [List.mapM_cons, rdRes, Sem.run_bind, Sem.run_pure, Result.andThen_ok, g1]
  | .cell x t :: rs, vs, h => by
    simp only [resA] at h
    split at h
    · rename_i v hv
      split at h
      · cases h
      · rename_i hnt
        obtain ⟨us, h1, h2⟩ := map_some h
        subst h2
        obtain ⟨cs, g1, g2⟩ := resA_run hH hs rs us h1
        obtain ⟨p, hp⟩ := loadA_ptr hv
        have hx := hs.at_ x
        obtain ⟨cv, k1, k2⟩ := loadA_run hH hv hx
        rw [hp] at hx
        obtain ⟨_, L, _, e⟩ := hx
        refine ⟨cv :: cs, ?_, VRel.of_t' (by simpa using hnt) k2, g2⟩
        rw [e] at k1
        have k1' : (loadVar t ⟨L.blk, L.base + p.off, none⟩).run P w = .ok cv w := by
          simpa [Instr.loadAt, Instr.sureAddr] using k1
        simp only [List.mapM_cons, rdRes, Sem.run_bind, e, asAddr_run, Sem.run_pure, Result.andThen_ok, k1', g1]
    · cases h

theorem results_run {P : Program} {N : Nat} {μ : Mu} {H : AH} {w : World} (hH : HRel P μ H w) {s : Sl} {a : Act} (hs : SRel N μ s a) {fn : Func} {vs : List Value} (h : resA P s H fn.results.toList = some vs) :
    ∃ c, (results fn a.tmps).run P w = .ok c w ∧ TRel μ (outA vs) c := by
  obtain ⟨cs, g1, g2⟩ := resA_run hH hs fn.results.toList vs h
  have hm : (fn.results.mapM (rdRes a)).run P w = .ok cs.toArray w := by
    rw [Array.mapM_eq_mapM_toList, Sem.run_map, g1]; rfl
  have hl := all2_len g2
  refine ⟨if h : cs.toArray.size = 1 then cs.toArray[0] else .tuple cs.toArray, ?_, ?_⟩
  · change ((fn.results.mapM (rdRes a)) >>= fun vs => pure (if h : vs.size = 1 then vs[0] else .tuple vs) : Sem Value).run P w = _
    rw [Sem.run_bind, hm]
    rfl
  · match vs, cs, g2, hl with
    | [], [], _, _ => exact ⟨#[], rfl, trivial⟩
    | [v], [c], g2, _ => exact TRel.of_vrel g2.1
    | v :: v2 :: vs, c :: c2 :: cs, g2, _ =>
      refine ⟨(c :: c2 :: cs).toArray, ?_, g2⟩
      simp

/-- the slots when a call begins -/
def enterA (args : List Value) : Sl := fun i => args.getD i undef

/-- what a body must come to -/
def endA (P : Program) (rs : List ResultVar) (R : Value → AH → Prop) : Exit → Sl → AH → Prop
  | .normal, s, H | .ret, s, H => match resA P s H rs with | some vs => R (outA vs) H | none => False
  | _, _, _ => False

/-- HOW A CONTRACT IS PROVED: the function's own text, over the abstract heap. -/
theorem ACalls.intro {P : Program} (hm : P.follows .mixedOrders = true) {f : FuncId} {fn : Func} {c : Code} {d : Cd} {ords : List (Nat × List (Nat × Bool))} {args : List Value} {H : AH} {R : Value → AH → Prop} (hf : P.funcs[f]? = some fn) (hb : fn.body = some c) (hn : (fn.name == "runtime.NumGoroutine") = false)
    (hok : slim fn.ntmps ords c = some d) {n : Nat} (hl : args.length = n) (hl2 : n ≤ fn.ntmps) {rs : List ResultVar} (hrs : fn.results.toList = rs) (h' : ∀ (Q : Exit → Sl → AH → Prop), (∀ e s H, endA P rs R e s H → Q e s H) → wpC P d Q (enterA args) H) : ACalls P f args H R := by
  subst hl
  subst hrs
  have h := h' _ (fun _ _ _ h => h)
  have hl := hl2
  refine ⟨⟨fn, hf, by rw [hb]; rfl, hn⟩, ?_⟩
  intro μ w cargs hH ha
  have hlen0 := all2_len ha
  have hlen : args.length = cargs.size := by rw [hlen0]; exact Array.length_toList
  have hs : SRel fn.ntmps μ (enterA args) { tmps := cargs ++ Array.replicate (fn.ntmps - cargs.size) undef, defers := [] } := by
    refine ⟨rfl, by simp; omega, ?_⟩
    intro i
    unfold enterA
    rw [Array.getD_eq_getD_getElem?, List.getD_eq_getElem?_getD]
    by_cases hi : i < args.length
    · obtain ⟨y, h1, h2⟩ := all2_at ha i args[i] (List.getElem?_eq_getElem hi)
      rw [List.getElem?_eq_getElem hi, Array.getElem?_append_left (by omega)]
      have h1' : cargs[i]? = some y := by simpa using h1
      rw [h1']; exact h2
    · rw [List.getElem?_eq_none (by omega)]
      simp only [Option.getD_none]
      rw [Array.getElem?_append_right (by omega)]
      by_cases h2 : i - cargs.size < fn.ntmps - cargs.size
      · simp [h2]; exact TRel.undef μ
      · simp [h2]; exact TRel.undef μ
  refine calls_of_wp hf hb (wp_mono (wpC_sound hm c d hok _ _ H h μ _ w hH hs) ?_)
  intro e a' w' hp
  obtain ⟨μ', s', H', h1, h2, h3, h4⟩ := hp
  have fin : (match resA P s' H' fn.results.toList with | some vs => R (outA vs) H' | none => False) → a'.defers = [] ∧ ∃ v, (results fn a'.tmps).run P w' = .ok v w' ∧ ∃ μ'' r H'' cr, Ending.returned v = .returned cr ∧ TRel μ'' r cr ∧ HRel P μ'' H'' w' ∧ Evo μ H w μ'' H'' w' ∧ R r H'' := by
    intro h4
    split at h4
    · rename_i vs e
      obtain ⟨c, g1, g2⟩ := results_run h1 h2 e
      exact ⟨h2.defers, c, g1, μ', outA vs, H', c, rfl, g2, h1, h3, h4⟩
    · exact h4.elim
  cases e with
  | normal => exact fin h4
  | ret => exact fin h4
  | _ => exact h4.elim

/-- FROM A CONTRACT TO THE MODEL'S CALL. -/
theorem ACalls.calls {P : Program} {f : FuncId} {args : List Value} {H : AH} {R : Value → AH → Prop} (h : ACalls P f args H R) {μ : Mu} {w : World} {cargs : Array Value} (hH : HRel P μ H w) (ha : All2 (TRel μ) args cargs.toList)
    {B : Nat} (hB : B ≤ w.heap.size) (ho : ∀ o x L, H[o]? = some x → x.wr = true → μ o = some L → B ≤ L.blk) :
    Calls P f cargs w fun e w' => ∃ μ' r H' cr, e = .returned cr ∧ TRel μ' r cr ∧ HRel P μ' H' w' ∧ Below B w w' ∧ R r H' :=
  (h.2 μ w cargs hH ha).mono fun e w' ⟨μ', r, H', cr, h1, h2, h3, h4, h5⟩ => ⟨μ', r, H', cr, h1, h2, h3, h4.below hB ho, h5⟩

end Go.Proofs.Ytnoihoeaconllaa.Ai
