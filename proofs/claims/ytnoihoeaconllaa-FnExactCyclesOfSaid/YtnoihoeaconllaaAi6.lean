/- What one operation does to an abstract heap, all together (stepA), and that the model does so too. No condition. -/
import Derived.Test.YtnoihoeaconllaaAi5
namespace Go.Proofs.Ytnoihoeaconllaa.Ai
open Go Go.RowKit
set_option linter.unusedVariables false
set_option linter.unusedSimpArgs false

theorem TRel.of_vrel {μ : Mu} {v c : Value} (h : VRel μ v c) : TRel μ v c := by
  cases v <;> first | exact h | exact h.elim
theorem VRel.of_crel {μ : Mu} {v c : Value} (h : CRel μ v c) : VRel μ v c := by
  cases v <;> first | exact h | exact h.elim

def extractA (x : Value) (i : Nat) : Option Value :=
  match x with
  | .tuple vs => vs[i]?
  | _ => none

theorem extractA_run {P : Program} {μ : Mu} {x cx v : Value} {i : Nat} (h : extractA x i = some v) (hx : TRel μ x cx) (w : World) : ∃ cv, (Instr.extract cx i).run P w = .ok cv w ∧ TRel μ v cv := by
  unfold extractA at h
  split at h
  · rename_i vs
    obtain ⟨ds, rfl, hall⟩ := hx
    obtain ⟨y, h1, h2⟩ := all2_at hall i v (by simpa using h)
    have h1' : ds[i]? = some y := by simpa using h1
    exact ⟨y, by simp [Instr.extract, h1'], TRel.of_vrel h2⟩
  · cases h

def partA (P : Program) (t : TypeId) (cs : Array Value) (off : Nat) : Option Value :=
  match isAggA P t with
  | some true => if 0 < P.cellsOf t then some (.agg (cs.extract off (off + P.cellsOf t))) else none
  | some false => cs[off]?
  | none => none

theorem all2_extract {R : Value → Value → Prop} {cs ds : Array Value} (h : All2 R cs.toList ds.toList) (a b : Nat) : All2 R (cs.extract a b).toList (ds.extract a b).toList := by
  have key : ∀ (n : Nat) (xs ys : List Value), All2 R xs ys → All2 R (xs.drop n) (ys.drop n) := by
    intro n
    induction n with
    | zero => intro xs ys h; exact h
    | succ n ih =>
      intro xs ys h
      match xs, ys, h with
      | [], [], h => exact trivial
      | _ :: xs, _ :: ys, h => exact ih xs ys h.2
  have key2 : ∀ (n : Nat) (xs ys : List Value), All2 R xs ys → All2 R (xs.take n) (ys.take n) := by
    intro n
    induction n with
    | zero => intro xs ys h; exact trivial
    | succ n ih =>
      intro xs ys h
      match xs, ys, h with
      | [], [], h => exact trivial
      | _ :: xs, _ :: ys, h => exact ⟨h.1, ih xs ys h.2⟩
  rw [Array.toList_extract, Array.toList_extract, List.extract_eq_take_drop, List.extract_eq_take_drop]
  exact key2 _ _ _ (key _ _ _ h)

theorem partA_run {P : Program} {μ : Mu} {t : TypeId} {cs ds : Array Value} {off : Nat} {v : Value} (h : partA P t cs off = some v) (hall : All2 (CRel μ) cs.toList ds.toList) (w : World) :
    ∃ cv, (part t ds off).run P w = .ok cv w ∧ TRel μ v cv := by
  unfold partA at h
  split at h
  · rename_i hag
    split at h
    · rename_i hsz
      cases h
      refine ⟨.agg (ds.extract off (off + P.cellsOf t)), ?_, ⟨_, rfl, all2_extract hall _ _⟩⟩
      simp only [part, Sem.run_bind, isAgg_run hag, Result.andThen_ok, if_true, sizeOf_run hsz, Sem.run_pure]
    · cases h
  · rename_i hag
    obtain ⟨y, h1, h2⟩ := all2_at hall off v (by simpa using h)
    exact ⟨y, part_one hag w ds off y (by simpa using h1), TRel.of_vrel (VRel.of_crel h2)⟩
  · cases h

def fieldA (P : Program) (t : TypeId) (x : Value) (f : Nat) : Option Value :=
  match x, P.underlying t with
  | .agg cs, some (.struct fs) =>
    match fs[f]? with
    | some fd => partA P fd.type cs fd.offset
    | none => none
  | _, _ => none

theorem fieldA_run {P : Program} {μ : Mu} {t : TypeId} {x cx v : Value} {f : Nat} (h : fieldA P t x f = some v) (hx : TRel μ x cx) (w : World) : ∃ cv, (Instr.field t cx f).run P w = .ok cv w ∧ TRel μ v cv := by
  unfold fieldA at h
  split at h
  · rename_i cs fs hu
    obtain ⟨ds, rfl, hall⟩ := hx
    split at h
    · rename_i fd hf
      obtain ⟨cv, h1, h2⟩ := partA_run h hall w
      refine ⟨cv, ?_, h2⟩
      simp only [Instr.field, Sem.run_bind, run_underlying hu, Result.andThen_ok, hf, asAgg, Sem.run_pure, h1]
    · cases h
  · cases h

def indexA (P : Program) (t : TypeId) (x i : Value) : Option Value :=
  match x, i, P.underlying t with
  | .agg cs, .int _ i, some (.array n e) => if 0 ≤ i ∧ i < (n : Int) ∧ 0 < P.cellsOf e then partA P e cs (i.toNat * P.cellsOf e) else none
  | .string s, .int _ i, some .string => if 0 ≤ i then (match s[i.toNat]? with | some b => some (.int .u8 b.toNat) | none => none) else none
  | _, _, _ => none

theorem indexA_run {P : Program} {μ : Mu} {t : TypeId} {x i cx ci v : Value} (h : indexA P t x i = some v) (hx : TRel μ x cx) (hi : TRel μ i ci) (w : World) : ∃ cv, (Instr.index t cx ci).run P w = .ok cv w ∧ TRel μ v cv := by
  unfold indexA at h
  split at h
  · rename_i cs k i n e hu
    obtain ⟨ds, rfl, hall⟩ := hx
    have e1 : ci = .int k i := hi
    subst e1
    split at h
    · rename_i hc
      obtain ⟨h0, h1, h2⟩ := hc
      obtain ⟨cv, g1, g2⟩ := partA_run h hall w
      refine ⟨cv, ?_, g2⟩
      simp only [Instr.index, asIntOf, Sem.run_bind, Sem.run_pure, Result.andThen_ok, run_underlying hu]
      rw [if_pos ⟨h0, h1⟩]
      simp only [Sem.run_bind, sizeOf_run h2, Result.andThen_ok, g1]
    · cases h
  · rename_i s k i hu
    have e0 : cx = .string s := hx
    have e1 : ci = .int k i := hi
    subst e0; subst e1
    split at h
    · rename_i h0
      split at h
      · rename_i b hb
        cases h
        refine ⟨.int .u8 b.toNat, ?_, rfl⟩
        simp only [Instr.index, asIntOf, Sem.run_bind, Sem.run_pure, Result.andThen_ok, run_underlying hu]
        rw [if_pos h0, hb]; rfl
      · cases h
    · cases h
  · cases h

def lenA (P : Program) (t : TypeId) (x : Value) : Option Value :=
  match x, P.underlying t with
  | .slice _ n _, some (.slice _) => some (.int .i64 n)
  | _, _ => none

theorem lenA_run {P : Program} {μ : Mu} {t : TypeId} {x cx v : Value} (h : lenA P t x = some v) (hx : TRel μ x cx) (ty : TypeId) (w : World) : (Builtin.len_ #[t] ty #[cx]).run P w = .ok v w ∧ TRel μ v v := by
  unfold lenA at h
  split at h
  · rename_i a n c e hu
    cases h
    have hc : ∃ b c', cx = .slice b n c' := by
      cases a with
      | none => obtain ⟨rfl, rfl, e⟩ := hx; exact ⟨_, _, e⟩
      | some p => obtain ⟨_, rfl, b, m, e, _⟩ := hx; exact ⟨_, _, e⟩
    obtain ⟨b, c', rfl⟩ := hc
    refine ⟨?_, rfl⟩
    simp [Builtin.len_, run_underlying hu, goInt]
  · cases h

def foldA (f : Int → Int → Int) (k : IntKind) : Int → List Value → Option Value
  | acc, [] => some (.int k acc)
  | acc, .int _ y :: r => foldA f k (f acc y) r
  | _, _ => none

def minmaxA (f : Int → Int → Int) (xs : List Value) : Option Value :=
  match xs with
  | .int k x :: r => foldA f k x r
  | _ => none

def minI (x y : Int) : Int := if y < x then y else x
def maxI (x y : Int) : Int := if y > x then y else x

theorem foldA_run {P : Program} {μ : Mu} (w : World) (f : Int → Int → Int) (g : Value → Value → Sem Value) (hg : ∀ k x j y, g (.int k x) (.int j y) = pure (.int k (f x y))) : ∀ (xs cs : List Value) (k : IntKind) (acc : Int) (v : Value),
    foldA f k acc xs = some v → All2 (TRel μ) xs cs → (cs.foldlM g (.int k acc)).run P w = .ok v w ∧ TRel μ v v
  | [], [], k, acc, v, h, _ => by
    simp only [foldA, Option.some.injEq] at h
    subst h; exact ⟨by simp, rfl⟩
  | x :: xs, c :: cs, k, acc, v, h, ha => by
    cases x with
    | int j y =>
      have e : c = .int j y := ha.1
      subst e
      simp only [foldA] at h
      have := foldA_run (P := P) (μ := μ) w f g hg xs cs k (f acc y) v h ha.2
      simp only [List.foldlM_cons, hg, pure_bind]
      exact this
    | _ => simp [foldA] at h

theorem minmaxA_run {P : Program} {μ : Mu} (w : World) (f : Int → Int → Int) (g : Value → Value → Sem Value) (hg : ∀ k x j y, g (.int k x) (.int j y) = pure (.int k (f x y))) {xs cs : List Value} {v : Value}
    (h : minmaxA f xs = some v) (ha : All2 (TRel μ) xs cs) : ∃ c rest, cs = c :: rest ∧ (rest.foldlM g c).run P w = .ok v w ∧ TRel μ v v := by
  unfold minmaxA at h
  split at h
  · rename_i k x r
    match cs, ha with
    | c :: rest, ha =>
      have e : c = .int k x := ha.1
      subst e
      exact ⟨_, rest, rfl, foldA_run w f g hg r rest k x v h ha.2⟩
  · cases h

def isC0 : Value → Bool
  | .func _ _ _ | .agg _ | .tuple _ => false
  | _ => true

theorem CRel0.of_t {μ : Mu} {v c : Value} (h1 : isC0 v = true) (h : TRel μ v c) : CRel0 μ v c := by
  cases v <;> first | exact h | (simp [isC0] at h1)

def makeFuncA (fn : Fn) (first captured : List Value) : Option Value :=
  if first = [] ∧ captured.all isC0 = true then some (.func fn #[] captured.toArray) else none

/-- operands, one by one -/
def evalsA (s : Sl) (xs : Array Operand) : List Value := xs.toList.map (evalA s)

theorem evals_all2 {N : Nat} {μ : Mu} {s : Sl} {a : Act} (hs : SRel N μ s a) : ∀ (xs : List Operand), xs.all opOkC = true → All2 (TRel μ) (xs.map (evalA s)) (xs.map a.eval)
  | [], _ => trivial
  | x :: xs, h => by
    simp only [List.all_cons, Bool.and_eq_true] at h
    exact ⟨hs.eval h.1, evals_all2 hs xs h.2⟩

/-- a slice's elements become zero values -/
def clearA (P : Program) (t : TypeId) (x : Value) (H : AH) : Option (Value × AH) :=
  match x, P.underlying t with
  | .slice none _ _, some _ => some (undef, H)
  | .slice (some p) n _, some (.slice e) =>
    if n = 0 then some (undef, H) else
    match H[p.block]?, zeroA P e with
    | some (.cells vs e' false), some z =>
      if e' = e ∧ plainCs z = true ∧ z.cells.size = P.cellsOf e ∧ 0 < P.cellsOf e ∧ p.off + n * P.cellsOf e ≤ vs.length then some (undef, H.set p.block (.cells (putAt vs p.off (zerosA z (n * P.cellsOf e))) e false)) else none
    | _, _ => none
  | _, _ => none

theorem clearA_run {P : Program} {μ : Mu} {H H' : AH} {w : World} (hH : HRel P μ H w) {t : TypeId} {x cx v : Value} (h : clearA P t x H = some (v, H')) (hx : TRel μ x cx) (ty : TypeId) :
    ∃ w', (Builtin.clear_ #[t] ty #[cx]).run P w = .ok undef w' ∧ v = undef ∧ HRel P μ H' w' ∧ Evo μ H w μ H' w' := by
  unfold clearA at h
  split at h
  · rename_i n c u hu
    cases h
    obtain ⟨rfl, rfl, e2⟩ := hx
    subst e2
    refine ⟨w, ?_, rfl, hH, Evo.refl _ _ _⟩
    simp only [Builtin.clear_, List.getElem?_toArray, List.getElem?_cons_zero, Sem.run_bind, run_underlying hu, Result.andThen_ok]
    cases u <;> rfl
  · rename_i p n' n e hu
    obtain ⟨e1, rfl, a, m, e3, hm, e4⟩ := hx
    subst e3
    split at h
    · rename_i h0
      cases h
      subst h0
      refine ⟨w, ?_, rfl, hH, Evo.refl _ _ _⟩
      simp only [Builtin.clear_, List.getElem?_toArray, List.getElem?_cons_zero, Sem.run_bind, run_underlying hu, Result.andThen_ok]
      rfl
    · rename_i h0
      split at h
      · rename_i vs e' z ho hz
        split at h
        · rename_i hc
          obtain ⟨rfl, hp, hzs, hsz, hb⟩ := hc
          cases h
          rcases e4 with e4 | ⟨L, hL, e4, e5⟩
          · omega
          subst e4
          have hzl : (zerosA z (n * P.cellsOf e')).length = n * P.cellsOf e' := by simp [zerosA]
          obtain ⟨w', g1, g2, g3⟩ := write_run hH ho hL (k := p.off) (news := zerosA z (n * P.cellsOf e')) (by rw [hzl]; exact hb) (zerosA_all2 μ hp (n * P.cellsOf e') (by omega))
          refine ⟨w', ?_, rfl, g2, g3⟩
          have hzc : (Builtin.zeroCells z.cells n).toList = ((Array.range (n * P.cellsOf e')).map (z.cells[· % z.cells.size]!)).toList := by
            unfold Builtin.zeroCells; rw [hzs]
          cases n with
          | zero => exact absurd rfl h0
          | succ n =>
            simp only [Builtin.clear_, List.getElem?_toArray, List.getElem?_cons_zero, Sem.run_bind, run_underlying hu, Result.andThen_ok, zeroA_run hz, hzc, g1, Sem.run_pure]
            rfl
        · cases h
      · cases h
  · cases h

def builtinA (P : Program) (b : Builtin) (ts : List TypeId) (xs : List Value) (H : AH) : Option (Value × AH) :=
  match b, ts, xs with
  | .append, [t, tx], [s, x] => appendA P t tx s x H
  | .len, [t], [x] => (lenA P t x).map (·, H)
  | .clear, [t], [x] => clearA P t x H
  | .min, _, xs => (minmaxA minI xs).map (·, H)
  | .max, _, xs => (minmaxA maxI xs).map (·, H)
  | _, _, _ => none

/-- One operation: its value (undef for a store) and the heap behind it. Calls of Go functions have no step of their own. -/
def stepA (P : Program) (op : Op) (s : Sl) (H : AH) : Option (Value × AH) :=
  match op with
  | .move x | .assign x => some (evalA s x, H)
  | .pick c a b => match evalA s c with | .bool t => some (if t then evalA s a else evalA s b, H) | _ => none
  | .alloc e => allocA P e H
  | .box e x => boxA P e (evalA s x) H
  | .build t ps => (buildA P t (partsA s ps)).map (·, H)
  | .buildSlice t n ps => buildSliceA P t n (partsA s ps) H
  | .load t a => (loadA P t (evalA s a) H).map (·, H)
  | .store t a x => (storeA P t (evalA s a) (evalA s x) H).map (undef, ·)
  | .nilCheck x => match evalA s x with | .pointer (some p) => some (.pointer (some p), H) | .func (.func f) fs cs => some (.func (.func f) fs cs, H) | _ => none
  | .binOp op t x y _ => (binA P op t (evalA s x) (evalA s y)).map (·, H)
  | .unOp op _ x => (unA op (evalA s x)).map (·, H)
  | .convert a b x => (convA P a b (evalA s x)).map (·, H)
  | .makeFunc fn first caps => (makeFuncA fn (evalsA s first) (evalsA s caps)).map (·, H)
  | .makeSlice t l c => makeSliceA P t (evalA s l) (evalA s c) H
  | .slice t x lo hi none => (sliceA P t (evalA s x) (lo.map (evalA s)) (hi.map (evalA s)) none H).map (·, H)
  | .slice t x lo hi (some m) => slice3A P t (evalA s x) (lo.map (evalA s)) (hi.map (evalA s)) (evalA s m) H
  | .fieldAddr t x f => (fieldAddrA P t (evalA s x) f).map (·, H)
  | .field t x f => (fieldA P t (evalA s x) f).map (·, H)
  | .indexAddr t x i => (indexAddrA P t (evalA s x) (evalA s i)).map (·, H)
  | .index t x i => (indexA P t (evalA s x) (evalA s i)).map (·, H)
  | .extract x i => (extractA (evalA s x) i).map (·, H)
  | .call { callee := .builtin b, args := xs, argTypes := ts } => builtinA P b ts.toList (evalsA s xs) H
  | _ => none

/-- its constants stand for themselves -/
def opOK : Op → Bool
  | .move x | .assign x | .box _ x | .load _ x | .nilCheck x | .unOp _ _ x | .convert _ _ x | .fieldAddr _ x _ | .field _ x _ | .extract x _ => opOkC x
  | .pick c a b => opOkC c && opOkC a && opOkC b
  | .alloc _ => true
  | .build _ ps | .buildSlice _ _ ps => ps.toList.all fun p => opOkC p.2
  | .store _ a x => opOkC a && opOkC x
  | .binOp _ _ x y _ => opOkC x && opOkC y
  | .makeFunc _ first caps => first.toList.all opOkC && caps.toList.all opOkC
  | .makeSlice _ l c => opOkC l && opOkC c
  | .slice _ x lo hi mx => opOkC x && lo.all opOkC && hi.all opOkC && mx.all opOkC
  | .indexAddr _ x i | .index _ x i => opOkC x && opOkC i
  | .call c => c.args.toList.all opOkC && (match c.callee with | .value f => opOkC f | .builtin _ => true | _ => false)
  | _ => false

theorem ok1_value {P : Program} {μ : Mu} {H : AH} {w : World} (hH : HRel P μ H w) {v cv : Value} {x : Sem Value} (hr : x.run P w = .ok cv w) (hv : TRel μ v cv) : Ok1 P μ H w v H ((do pure (.value (← x)) : Sem Next).run P w) :=
  ⟨μ, cv, w, .inl (by simp only [Sem.run_bind, hr, Result.andThen_ok, Sem.run_pure]), hv, hH, Evo.refl _ _ _⟩

theorem ok1_value' {P : Program} {μ μ' : Mu} {H H' : AH} {w w' : World} {v cv : Value} {x : Sem Value} (hr : x.run P w = .ok cv w') (hv : TRel μ' v cv) (hH : HRel P μ' H' w') (he : Evo μ H w μ' H' w') : Ok1 P μ H w v H' ((do pure (.value (← x)) : Sem Next).run P w) :=
  ⟨μ', cv, w', .inl (by simp only [Sem.run_bind, hr, Result.andThen_ok, Sem.run_pure]), hv, hH, he⟩

theorem map_some {α β : Type} {f : α → β} {x : Option α} {b : β} (h : x.map f = some b) : ∃ a, x = some a ∧ f a = b := by
  cases x with
  | none => cases h
  | some a => exact ⟨a, rfl, by simpa using h⟩

theorem brel_of {N : Nat} {μ : Mu} {s : Sl} {a : Act} (hs : SRel N μ s a) {o : Option Operand} (hok : o.all opOkC = true) {d l : Nat} (h : boundA (o.map (evalA s)) d = some l) : BRel (o.map (evalA s)) (o.map a.eval) := by
  cases o with
  | none => exact .inl ⟨rfl, rfl⟩
  | some x =>
    have hx := hs.eval (x := x) (by simpa using hok)
    simp only [Option.map_some, boundA] at h
    split at h
    · rename_i e; cases e
    · rename_i k n e
      cases e2 : evalA s x with
      | int k' n' =>
        rw [e2] at hx
        have : a.eval x = .int k' n' := hx
        exact .inr ⟨k', n', by simp [e2], by simp [this]⟩
      | _ => simp_all
    · cases h

theorem stepA_ok {P : Program} {N : Nat} {μ : Mu} {H H' : AH} {w : World} (hH : HRel P μ H w) {s : Sl} {a : Act} (hs : SRel N μ s a) (o : Oper) {v : Value} (hok : opOK o.op = true) (h : stepA P o.op s H = some (v, H')) :
    Ok1 P μ H w v H' ((execOp a.eval o).run P w) := by
  obtain ⟨dst, op, type, pos, after, guard⟩ := o
  simp only at h hok
  cases op with
  | move x => simp only [stepA, Option.some.injEq, Prod.mk.injEq] at h; obtain ⟨rfl, rfl⟩ := h; exact Ok1.same hH (hs.eval hok)
  | assign x => simp only [stepA, Option.some.injEq, Prod.mk.injEq] at h; obtain ⟨rfl, rfl⟩ := h; exact Ok1.same hH (hs.eval hok)
  | pick c x y =>
    simp only [stepA] at h
    simp only [opOK, Bool.and_eq_true] at hok
    split at h
    · rename_i t e
      simp only [Option.some.injEq, Prod.mk.injEq] at h
      obtain ⟨rfl, rfl⟩ := h
      have hc := hs.eval hok.1.1
      rw [e] at hc
      have hc' : a.eval c = .bool t := hc
      refine ⟨μ, if t then a.eval x else a.eval y, w, .inl ?_, ?_, hH, Evo.refl _ _ _⟩
      · simp [execOp, hc', asBool]
      · cases t
        · exact hs.eval hok.2
        · exact hs.eval hok.1.2
    · cases h
  | alloc e => obtain ⟨μ', c, w', h1, h2, h3, h4⟩ := allocA_run hH h; exact ok1_value' h1 h2 h3 h4
  | box e x => obtain ⟨μ', c, w', h1, h2, h3, h4⟩ := boxA_run hH h (hs.eval hok); exact ok1_value' h1 h2 h3 h4
  | build t ps =>
    obtain ⟨v', h1, h2⟩ := map_some h
    cases h2
    obtain ⟨cv, g1, g2⟩ := buildA_run (w := w) hs hok h1
    exact ok1_value hH g1 g2
  | buildSlice t n ps => obtain ⟨μ', c, w', h1, h2, h3, h4⟩ := buildSliceA_run hH hs hok h; exact ok1_value' h1 h2 h3 h4
  | load t x =>
    obtain ⟨v', h1, h2⟩ := map_some h
    cases h2
    obtain ⟨cv, g1, g2⟩ := loadA_run hH h1 (hs.eval hok)
    exact ok1_value hH g1 g2
  | store t x y =>
    obtain ⟨v', h1, h2⟩ := map_some h
    cases h2
    simp only [opOK, Bool.and_eq_true] at hok
    obtain ⟨w', g1, g2, g3⟩ := storeA_run hH h1 (hs.eval hok.1) (hs.eval hok.2)
    exact ⟨μ, undef, w', .inr ⟨by simp only [execOp, Sem.run_bind, g1, Result.andThen_ok, Sem.run_pure], rfl⟩, TRel.undef μ, g2, g3⟩
  | nilCheck x =>
    simp only [stepA] at h
    have hx := hs.eval hok
    split at h
    · rename_i p e
      cases h
      rw [e] at hx
      obtain ⟨h0, L, hL, e2⟩ := hx
      exact ⟨μ, a.eval x, w, .inl (by simp only [execOp, e2, Sem.run_pure]), by rw [e2]; exact ⟨h0, L, hL, rfl⟩, hH, Evo.refl _ _ _⟩
    · rename_i f fs cs e
      cases h
      rw [e] at hx
      obtain ⟨h0, ds, e2, hall⟩ := hx
      exact ⟨μ, a.eval x, w, .inl (by simp only [execOp, e2, Sem.run_pure]), by rw [e2]; exact ⟨h0, ds, rfl, hall⟩, hH, Evo.refl _ _ _⟩
    · cases h
  | binOp op t x y t2 =>
    obtain ⟨v', h1, h2⟩ := map_some h
    cases h2
    simp only [opOK, Bool.and_eq_true] at hok
    obtain ⟨g1, g2⟩ := binA_run h1 (hs.eval hok.1) (hs.eval hok.2) x y w
    exact ok1_value hH g1 g2
  | unOp op t x =>
    obtain ⟨v', h1, h2⟩ := map_some h
    cases h2
    obtain ⟨g1, g2⟩ := unA_run (P := P) h1 (hs.eval hok) w
    exact ok1_value hH g1 g2
  | convert t1 t2 x =>
    obtain ⟨v', h1, h2⟩ := map_some h
    cases h2
    obtain ⟨g1, g2⟩ := convA_run h1 (hs.eval hok) w
    exact ok1_value hH g1 g2
  | makeFunc fn first caps =>
    obtain ⟨v', h1, h2⟩ := map_some h
    cases h2
    simp only [opOK, Bool.and_eq_true] at hok
    unfold makeFuncA at h1
    split at h1
    · rename_i hc
      cases h1
      obtain ⟨hf, hc0⟩ := hc
      have hfirst : first = #[] := by
        have : first.toList = [] := by simpa [evalsA] using hf
        simpa using this
      subst hfirst
      have hall := evals_all2 hs caps.toList hok.2
      have key : ∀ (xs ys : List Value), xs.all isC0 = true → All2 (TRel μ) xs ys → All2 (CRel0 μ) xs ys := by
        intro xs
        induction xs with
        | nil => intro ys _ h; cases ys <;> exact h
        | cons x xs ih =>
          intro ys h1 h2
          cases ys with
          | nil => exact h2
          | cons y ys =>
            simp only [List.all_cons, Bool.and_eq_true] at h1
            exact ⟨CRel0.of_t h1.1 h2.1, ih ys h1.2 h2.2⟩
      refine ⟨μ, .func fn #[] (caps.map a.eval), w, .inl (by simp [execOp, Instr.makeFunc]), ⟨rfl, _, rfl, ?_⟩, hH, Evo.refl _ _ _⟩
      have := key _ _ hc0 hall
      simpa [evalsA] using this
    · cases h1
  | makeSlice t l c =>
    simp only [opOK, Bool.and_eq_true] at hok
    obtain ⟨μ', c, w', h1, h2, h3, h4⟩ := makeSliceA_run hH h (hs.eval hok.1) (hs.eval hok.2); exact ok1_value' h1 h2 h3 h4
  | slice t x lo hi mx =>
    simp only [opOK, Bool.and_eq_true] at hok
    cases mx with
    | none =>
      obtain ⟨v', h1, h2⟩ := map_some h
      cases h2
      have hb : ∃ l r d d', boundA (lo.map (evalA s)) d = some l ∧ boundA (hi.map (evalA s)) d' = some r := by
        unfold sliceA at h1
        split at h1
        · split at h1
          · rename_i hb1 hb2 _; exact ⟨_, _, _, _, hb1, hb2⟩
          · cases h1
        · split at h1
          · rename_i hb1 hb2; exact ⟨_, _, _, _, hb1, hb2⟩
          · cases h1
        · cases h1
      obtain ⟨l, r, d, d', hb1, hb2⟩ := hb
      obtain ⟨cv, g1, g2⟩ := sliceA_run hH h1 (hs.eval hok.1.1.1) (brel_of hs hok.1.1.2 hb1) (brel_of hs hok.1.2 hb2) (cmx := none) (fun _ => rfl)
      exact ok1_value hH g1 g2
    | some m =>
      have h1 : slice3A P t (evalA s x) (lo.map (evalA s)) (hi.map (evalA s)) (evalA s m) H = some (v, H') := h
      have hb : ∃ l r k d d' d'', boundA (lo.map (evalA s)) d = some l ∧ boundA (hi.map (evalA s)) d' = some r ∧ boundA (some (evalA s m)) d'' = some k := by
        have h2 := h1
        unfold slice3A at h2
        split at h2
        · rename_i e5 _
          split at h2
          · rename_i hb1 hb2 hb3; rw [e5]; exact ⟨_, _, _, _, _, _, hb1, hb2, hb3⟩
          · cases h2
        · rename_i e5 _
          split at h2
          · rename_i hb1 hb2 hb3; rw [e5]; exact ⟨_, _, _, _, _, _, hb1, hb2, hb3⟩
          · cases h2
        · cases h2
      obtain ⟨l, r, k, d, d', d'', hb1, hb2, hb3⟩ := hb
      have hm := brel_of (o := some m) hs hok.2 (d := d'') hb3
      obtain ⟨cv, g1, g2, g3, g4⟩ := slice3A_run hH h1 (hs.eval hok.1.1.1) (brel_of hs hok.1.1.2 hb1) (brel_of hs hok.1.2 hb2) hm
      exact ok1_value' g1 g2 g3 g4
  | fieldAddr t x f =>
    obtain ⟨v', h1, h2⟩ := map_some h
    cases h2
    obtain ⟨cv, g1, g2⟩ := fieldAddrA_run h1 (hs.eval hok) w
    exact ok1_value hH g1 g2
  | field t x f =>
    obtain ⟨v', h1, h2⟩ := map_some h
    cases h2
    obtain ⟨cv, g1, g2⟩ := fieldA_run h1 (hs.eval hok) w
    exact ok1_value hH g1 g2
  | indexAddr t x i =>
    obtain ⟨v', h1, h2⟩ := map_some h
    cases h2
    simp only [opOK, Bool.and_eq_true] at hok
    obtain ⟨cv, g1, g2⟩ := indexAddrA_run h1 (hs.eval hok.1) (hs.eval hok.2) w
    exact ok1_value hH g1 g2
  | index t x i =>
    obtain ⟨v', h1, h2⟩ := map_some h
    cases h2
    simp only [opOK, Bool.and_eq_true] at hok
    obtain ⟨cv, g1, g2⟩ := indexA_run h1 (hs.eval hok.1) (hs.eval hok.2) w
    exact ok1_value hH g1 g2
  | extract x i =>
    obtain ⟨v', h1, h2⟩ := map_some h
    cases h2
    obtain ⟨cv, g1, g2⟩ := extractA_run (P := P) h1 (hs.eval hok) w
    exact ok1_value hH g1 g2
  | call c =>
    obtain ⟨callee, args, ts⟩ := c
    cases callee with
    | builtin b =>
      simp only [stepA] at h
      simp only [opOK, Bool.and_eq_true] at hok
      have hall := evals_all2 hs args.toList hok.1
      have hargs : args.map a.eval = (args.toList.map a.eval).toArray := by rw [← Array.toList_map, Array.toArray_toList]
      unfold builtinA at h
      split at h
      · rename_i t tx sv x e1 e2
        rw [show args.toList.map (evalA s) = [sv, x] from e2] at hall
        match hcs : args.toList.map a.eval, hall with
        | [c1, c2], hall =>
          obtain ⟨μ', cv, w', g1, g2, g3, g4⟩ := appendA_run hH h hall.1 hall.2.1 type
          have ets : ts = #[t, tx] := by simpa using congrArg List.toArray e1
          refine ⟨μ', cv, w', .inl ?_, g2, g3, g4⟩
          rw [hcs] at hargs
          simp only [execOp, resolve, hargs, ets, pure_bind, invoke, builtin, Sem.run_bind]
          rw [show (Builtin.append_ #[t, tx] type [c1, c2].toArray).run P w = .ok cv w' from g1]; rfl
      · rename_i t x e1 e2
        rw [show args.toList.map (evalA s) = [x] from e2] at hall
        obtain ⟨v', h1, h2⟩ := map_some h
        cases h2
        match hcs : args.toList.map a.eval, hall with
        | [c1], hall =>
          obtain ⟨g1, g2⟩ := lenA_run (P := P) h1 hall.1 type w
          have ets : ts = #[t] := by simpa using congrArg List.toArray e1
          refine ⟨μ, v, w, .inl ?_, g2, hH, Evo.refl _ _ _⟩
          rw [hcs] at hargs
          simp only [execOp, resolve, hargs, ets, pure_bind, invoke, builtin, Sem.run_bind]
          rw [show (Builtin.len_ #[t] type [c1].toArray).run P w = .ok v w from g1]; rfl
      · rename_i t x e1 e2
        rw [show args.toList.map (evalA s) = [x] from e2] at hall
        match hcs : args.toList.map a.eval, hall with
        | [c1], hall =>
          obtain ⟨w', g1, g2, g3, g4⟩ := clearA_run hH h hall.1 type
          have ets : ts = #[t] := by simpa using congrArg List.toArray e1
          subst g2
          refine ⟨μ, undef, w', .inl ?_, TRel.undef μ, g3, g4⟩
          rw [hcs] at hargs
          simp only [execOp, resolve, hargs, ets, pure_bind, invoke, builtin, Sem.run_bind]
          rw [show (Builtin.clear_ #[t] type [c1].toArray).run P w = .ok undef w' from g1]; rfl
      · obtain ⟨v', h1, h2⟩ := map_some h
        cases h2
        obtain ⟨c, rest, g0, g1, g2⟩ := minmaxA_run (P := P) w minI Builtin.min2 (fun _ _ _ _ => rfl) h1 hall
        refine ⟨μ, v, w, .inl ?_, g2, hH, Evo.refl _ _ _⟩
        rw [g0] at hargs
        simp only [execOp, resolve, hargs, pure_bind, invoke, builtin, Sem.run_bind, Builtin.min_]
        rw [g1]; rfl
      · obtain ⟨v', h1, h2⟩ := map_some h
        cases h2
        obtain ⟨c, rest, g0, g1, g2⟩ := minmaxA_run (P := P) w maxI Builtin.max2 (fun _ _ _ _ => rfl) h1 hall
        refine ⟨μ, v, w, .inl ?_, g2, hH, Evo.refl _ _ _⟩
        rw [g0] at hargs
        simp only [execOp, resolve, hargs, pure_bind, invoke, builtin, Sem.run_bind, Builtin.max_]
        rw [g1]; rfl
      · cases h
    | value f => cases h
    | invoke r m => cases h
  | _ => cases h

end Go.Proofs.Ytnoihoeaconllaa.Ai
