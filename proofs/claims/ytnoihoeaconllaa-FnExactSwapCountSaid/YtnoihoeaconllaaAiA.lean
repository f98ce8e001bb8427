/- A region whose order is drawn: one order of ours stands for every order the model may draw, if the check below says so. No condition. -/
import Derived.Test.YtnoihoeaconllaaAi9
namespace Go.Proofs.Ytnoihoeaconllaa.Ai
open Go Go.RowKit
set_option linter.unusedVariables false
set_option linter.unusedSimpArgs false

def readsOf (x : Opx) : List Nat := (x.op.operands.toList.filterMap fun | .tmp t => some t | _ => none) ++ (match x.grd with | some (g, _) => [g] | none => [])

def opxAt (ops : Array Oper) (j : Nat) : Option Opx := (ops[j]?).bind (opxOf ops)

/-- what must have been before, as bits, closed -/
def bitsOk (ops : Array Oper) (B : Array Nat) : Bool :=
  (List.range ops.size).all fun i => match ops[i]? with
    | some o => (B.getD i 0 == o.after.toList.foldl (fun s e => if Region.binds .any e = true then s ||| 2 ^ e.on ||| B.getD e.on 0 else s) 0) && o.after.toList.all (fun e => !Region.binds .any e || decide (e.on < i))
    | none => false

/-- our order (an operation's number; whether it stays where it is), checked -/
def drawChk (N : Nat) (ops : Array Oper) (B : Array Nat) : List (Nat × Bool) → List Nat → Option Nat → Bool
  | [], pre, _ => (List.range ops.size).all fun i => pre.contains i
  | (i, c) :: rest, pre, last =>
    match ops[i]? with
    | none => false
    | some o =>
      match opxOf ops o with
      | none => false
      | some x =>
        !pre.contains i && opOK o.op && o.dst.all (fun d => decide (d < N)) && (match last with | some l => (B.getD i 0).testBit l | none => true) &&
        (pre.all fun j => match opxAt ops j with
          | some y => (match y.dst with | some d => !(readsOf x).contains d || (B.getD i 0).testBit j | none => true) &&
              (match x.dst with | some d => (c && (B.getD i 0).testBit j) || (!(readsOf y).contains d && y.dst != some d) | none => true)
          | none => false) &&
        (c || (fl o.op != 0 && o.dst.isSome && x.dst.all (fun d => !(readsOf x).contains d))) && drawChk N ops B rest (i :: pre) (if c = true then some i else last)

/-- which earlier ones may come after it -/
def wsOf (ops : Array Oper) (B : Array Nat) (pre : List Nat) (i : Nat) : List Opx :=
  pre.filterMap fun j => if (B.getD i 0).testBit j = true then none else match opxAt ops j with | some y => if 2 ≤ fl y.op then some y else none | none => none

def stepsOf (ops : Array Oper) (B : Array Nat) : List (Nat × Bool) → List Nat → List Stp
  | [], _ => []
  | (i, c) :: rest, pre => match opxAt ops i with
    | some x => ⟨x, if c = true then wsOf ops B pre i else []⟩ :: stepsOf ops B rest (i :: pre)
    | none => []

theorem eval_of_reads {x : Opx} {s s' : Sl} (h : ∀ i ∈ readsOf x, s' i = s i) : ∀ o ∈ x.op.operands, evalA s' o = evalA s o := by
  intro o ho
  cases o with
  | tmp t => exact h t (List.mem_append_left _ (List.mem_filterMap.2 ⟨.tmp t, by simpa using ho, rfl⟩))
  | _ => rfl

theorem grdOn_congr {x : Opx} {s s' : Sl} (h : ∀ i ∈ readsOf x, s' i = s i) : grdOn x.grd s' ↔ grdOn x.grd s := by
  unfold grdOn
  cases hg : x.grd with
  | none => exact Iff.rfl
  | some g =>
    obtain ⟨g, want⟩ := g
    have : s' g = s g := h g (List.mem_append_right _ (by rw [hg]; simp))
    simp only [this]

theorem runX_congr {P : Program} {x : Opx} {s s' : Sl} (h : ∀ i ∈ readsOf x, s' i = s i) (H : AH) (K : Value → AH → Prop) : runX P x s' H K = runX P x s H K := by
  unfold runX
  have h1 := stepW_congr (P := P) (eval_of_reads h) H K
  cases hg : x.grd with
  | none => simp only [h1]
  | some g =>
    obtain ⟨g, want⟩ := g
    have : s' g = s g := h g (List.mem_append_right _ (by rw [hg]; simp))
    simp only [this, h1]

/-- what one that may move does -/
theorem runX_fl {P : Program} {x : Opx} {s : Sl} {H : AH} {K : Value → AH → Prop} (hf : fl x.op ≠ 0) (h : runX P x s H K) : ∃ v H', K v H' ∧ ((¬ grdOn x.grd s ∧ v = undef ∧ H' = H) ∨ (grdOn x.grd s ∧ stepA P x.op s H = some (v, H'))) := by
  have key : stepW P x.op s H K → ∃ v H', K v H' ∧ stepA P x.op s H = some (v, H') := by
    intro h
    have other : (match stepA P x.op s H with | some (v, H') => K v H' | none => False) → ∃ v H', K v H' ∧ stepA P x.op s H = some (v, H') := by
      intro h
      split at h
      · rename_i v H' e; exact ⟨v, H', h, e⟩
      · exact h.elim
    obtain ⟨dst, op, grd⟩ := x
    cases op with
    | call c =>
      obtain ⟨callee, xs, ts⟩ := c
      cases callee with
      | value f => exact absurd rfl hf
      | builtin b => exact other h
      | invoke r m => exact other h
    | _ => exact other h
  unfold runX at h
  cases hg : x.grd with
  | none =>
    rw [hg] at h
    obtain ⟨v, H', h1, h2⟩ := key h
    exact ⟨v, H', h1, .inr ⟨trivial, h2⟩⟩
  | some g =>
    obtain ⟨g, want⟩ := g
    rw [hg] at h
    simp only at h
    split at h
    · rename_i b e
      by_cases hb : b = want
      · obtain ⟨v, H', h1, h2⟩ := key (by subst hb; cases b <;> first | exact h.1 rfl | exact h.2 rfl)
        exact ⟨v, H', h1, .inr ⟨by simp [grdOn, e, hb], h2⟩⟩
      · exact ⟨undef, H, (by cases b <;> cases want <;> first | exact h.1 rfl | exact h.2 rfl | exact absurd rfl hb), .inl ⟨by simp [grdOn, e, hb], rfl, rfl⟩⟩
    · rename_i hn
      exact ⟨undef, H, h, .inl ⟨by simp only [grdOn]; exact hn want, rfl, rfl⟩⟩

theorem opxOf_some {ops : Array Oper} {o : Oper} {x : Opx} (h : opxOf ops o = some x) : grdOf ops o = some x.grd ∧ x.dst = o.dst ∧ x.op = o.op := by
  unfold opxOf at h
  cases hg : grdOf ops o with
  | none => rw [hg] at h; cases h
  | some g => rw [hg] at h; cases h; exact ⟨rfl, rfl, rfl⟩

theorem wanted_iff {N : Nat} {μ : Mu} {s : Sl} {a : Act} (hs : SRel N μ s a) {ops : Array Oper} {o : Oper} {x : Opx} (hx : opxOf ops o = some x) : Region.wanted o (yielded ops a.tmps) = true ↔ grdOn x.grd s := by
  have hg := (opxOf_some hx).1
  unfold grdOf at hg
  unfold Region.wanted grdOn
  cases hgd : o.guard with
  | none => rw [hgd] at hg; simp only [Option.some.injEq] at hg; rw [← hg]; simp
  | some gw =>
    obtain ⟨j, want⟩ := gw
    rw [hgd] at hg
    simp only at hg
    have hy := yielded_eq hs ops j
    unfold guardVal at hy
    rw [Array.getElem?_toList] at hy
    split at hg
    · rename_i d e
      simp only [Option.some.injEq] at hg
      rw [← hg]
      rw [e] at hy
      simp only at hy ⊢
      rw [hy]
      split
      · rename_i b eb; rw [eb]; simp
      · rename_i hn
        constructor
        · intro h; simp at h
        · intro h; exact absurd h (hn want)
    · cases hg

/-- an operation of ours that is done, in memory not yet -/
structure Lag (P : Program) (s : Sl) (μ : Mu) (H0 H : AH) (id : Nat) (x : Opx) : Prop where
  flt : fl x.op ≠ 0
  dst : ∃ d, x.dst = some d ∧ (¬ grdOn x.grd s → s d = undef) ∧ (grdOn x.grd s →
    (fl x.op = 1 → ∀ H2, stepA P x.op s H2 = some (s d, H2)) ∧ (fl x.op = 2 → stepA P x.op s H = some (s d, H)) ∧
    (fl x.op = 3 → ∃ H1 obj, stepA P x.op s H1 = some (s d, H1 ++ [obj]) ∧ id = H1.length ∧ idOf (s d) = some id ∧ H[id]? = some obj ∧ μ id = none ∧ H0.length ≤ id))

theorem Lag.keep {P : Program} {s s' : Sl} {μ μ' : Mu} {H0 H H' : AH} {id : Nat} {x : Opx} (h : Lag P s μ H0 H id x) (hr : ∀ i ∈ readsOf x, s' i = s i) (hd : ∀ d, x.dst = some d → s' d = s d)
    (h2 : fl x.op = 2 → ∀ d, x.dst = some d → grdOn x.grd s' → stepA P x.op s' H' = some (s' d, H'))
    (h3 : fl x.op = 3 → grdOn x.grd s' → ∀ d, x.dst = some d → idOf (s' d) = some id → H'[id]? = H[id]?) (h4 : μ id = none → id < H.length → μ' id = none) : Lag P s' μ' H0 H' id x := by
  obtain ⟨hf, d, hd0, k1, k2⟩ := h
  have e := hd d hd0
  refine ⟨hf, d, hd0, fun hn => by rw [e]; exact k1 (fun hg => hn ((grdOn_congr hr).2 hg)), fun hg => ?_⟩
  obtain ⟨g1, g2, g3⟩ := k2 ((grdOn_congr hr).1 hg)
  refine ⟨fun hp H2 => by rw [stepA_congr (eval_of_reads hr), e]; exact g1 hp H2, fun hp => h2 hp d hd0 hg, fun hp => ?_⟩
  obtain ⟨H1, obj, f1, f2, f3, f4, f5, f6⟩ := g3 hp
  refine ⟨H1, obj, by rw [stepA_congr (eval_of_reads hr), e]; exact f1, f2, by rw [e]; exact f3, ?_, h4 f5 (List.getElem?_eq_some_iff.1 f4).1, f6⟩
  rw [h3 hp hg d hd0 (by rw [e]; exact f3)]; exact f4

/-- ours and the model's, side by side -/
structure Side (P : Program) (N : Nat) (ops : Array Oper) (μ0 : Mu) (H0 : AH) (w0 : World) (pre : List Nat) (listed : Array Bool) (μ : Mu) (s sa : Sl) (H : AH) (ids : Nat → Nat) (a : Act) (w : World) : Prop where
  hH : HRel P μ H w
  hs : SRel N μ sa a
  evo : Evo μ0 H0 w0 μ H w
  agree : ∀ i, (∀ j ∈ pre, listed.getD j true = false → ∀ x, opxAt ops j = some x → x.dst ≠ some i) → sa i = s i
  lag : ∀ j ∈ pre, listed.getD j true = false → ∃ x, opxAt ops j = some x ∧ Lag P s μ H0 H (ids j) x
  apart : ∀ j ∈ pre, ∀ k ∈ pre, listed.getD j true = false → listed.getD k true = false → j ≠ k → ∀ x y, opxAt ops j = some x → opxAt ops k = some y → fl x.op = 3 → fl y.op = 3 → grdOn x.grd s → grdOn y.grd s → ids j ≠ ids k

/-- what the check says of one step -/
structure Chk (N : Nat) (ops : Array Oper) (B : Array Nat) (i : Nat) (c : Bool) (pre : List Nat) (last : Option Nat) (o : Oper) (x : Opx) : Prop where
  at_ : ops[i]? = some o
  opx : opxOf ops o = some x
  new : i ∉ pre
  ok : opOK o.op = true
  dst : ∀ d, o.dst = some d → d < N
  last : ∀ l, last = some l → (B.getD i 0).testBit l = true
  rd : ∀ j ∈ pre, ∀ y d, opxAt ops j = some y → y.dst = some d → d ∈ readsOf x → (B.getD i 0).testBit j = true
  wr : ∀ j ∈ pre, ∀ y d, opxAt ops j = some y → x.dst = some d → (c = true ∧ (B.getD i 0).testBit j = true) ∨ (d ∉ readsOf y ∧ y.dst ≠ some d)
  known : ∀ j ∈ pre, ∃ y, opxAt ops j = some y
  flo : c = false → fl x.op ≠ 0 ∧ ∃ d, x.dst = some d ∧ d ∉ readsOf x

theorem Chk.optAt {N : Nat} {ops : Array Oper} {B : Array Nat} {i : Nat} {c : Bool} {pre : List Nat} {last : Option Nat} {o : Oper} {x : Opx} (h : Chk N ops B i c pre last o x) : opxAt ops i = some x := by
  unfold opxAt; rw [h.at_]; exact h.opx

theorem drawChk_cons {N : Nat} {ops : Array Oper} {B : Array Nat} {i : Nat} {c : Bool} {rest : List (Nat × Bool)} {pre : List Nat} {last : Option Nat} (h : drawChk N ops B ((i, c) :: rest) pre last = true) :
    (∃ o x, Chk N ops B i c pre last o x) ∧ drawChk N ops B rest (i :: pre) (if c = true then some i else last) = true := by
  unfold drawChk at h
  split at h
  · cases h
  · rename_i o ho
    split at h
    · cases h
    · rename_i x hx
      simp only [Bool.and_eq_true] at h
      obtain ⟨⟨⟨⟨⟨⟨h1, h2⟩, h3⟩, h4⟩, h5⟩, h6⟩, h7⟩ := h
      refine ⟨⟨o, x, ho, hx, by simpa using h1, h2, ?_, ?_, ?_, ?_, ?_, ?_⟩, h7⟩
      · intro d hd; rw [hd] at h3; simpa using h3
      · intro l hl; rw [hl] at h4; exact h4
      · intro j hj y d hy hd hm
        have := List.all_eq_true.1 h5 j hj
        rw [hy] at this
        simp only [hd, Bool.and_eq_true, Bool.or_eq_true] at this
        rcases this.1 with h | h
        · simp [hm] at h
        · exact h
      · intro j hj y d hy hd
        have := List.all_eq_true.1 h5 j hj
        rw [hy] at this
        simp only [hd, Bool.and_eq_true, Bool.or_eq_true] at this
        rcases this.2 with h | h
        · exact .inl h
        · exact .inr ⟨by simpa using h.1, by simpa using h.2⟩
      · intro j hj
        have := List.all_eq_true.1 h5 j hj
        split at this
        · rename_i y hy; exact ⟨y, hy⟩
        · cases this
      · intro hc
        subst hc
        simp only [Bool.false_or, Bool.and_eq_true] at h6
        obtain ⟨_, e1, e2⟩ := opxOf_some hx
        obtain ⟨d, hd⟩ := Option.isSome_iff_exists.1 h6.1.2
        refine ⟨by rw [e2]; simpa using h6.1.1, d, by rw [e1]; exact hd, ?_⟩
        have := h6.2
        rw [e1, hd] at this
        simpa using this

theorem fold_bits {B : Array Nat} {j : Nat} : ∀ (es : List Edge) (s : Nat), (es.foldl (fun s e => if Region.binds .any e = true then s ||| 2 ^ e.on ||| B.getD e.on 0 else s) s).testBit j = true →
    s.testBit j = true ∨ ∃ e ∈ es, Region.binds .any e = true ∧ (j = e.on ∨ (B.getD e.on 0).testBit j = true)
  | [], s, h => .inl h
  | e :: es, s, h => by
    simp only [List.foldl_cons] at h
    rcases fold_bits es _ h with h1 | ⟨e', h1, h2, h3⟩
    · split at h1
      · rename_i hb
        rw [Nat.testBit_or, Nat.testBit_or, Nat.testBit_two_pow] at h1
        simp only [Bool.or_eq_true, decide_eq_true_eq] at h1
        rcases h1 with (h1 | h1) | h1
        · exact .inl h1
        · exact .inr ⟨e, List.mem_cons_self, hb, .inl h1.symm⟩
        · exact .inr ⟨e, List.mem_cons_self, hb, .inr h1⟩
      · exact .inl h1
    · exact .inr ⟨e', List.mem_cons_of_mem _ h1, h2, h3⟩

def Closed (ops : Array Oper) (listed : Array Bool) : Prop := ∀ j o, listed.getD j true = true → ops[j]? = some o → ∀ e ∈ o.after, Region.binds .any e = true → listed.getD e.on false = true

theorem listed_agree {listed : Array Bool} {j : Nat} (h : listed.getD j false = true) : listed.getD j true = true := by
  rw [Array.getD_eq_getD_getElem?] at h ⊢
  cases hj : listed[j]? with
  | none => rfl
  | some b => rw [hj] at h; exact h

theorem bits_listed {ops : Array Oper} {B : Array Nat} (hB : bitsOk ops B = true) {listed : Array Bool} (hc : Closed ops listed) : ∀ (i : Nat) (o : Oper), ops[i]? = some o → (∀ e ∈ o.after, Region.binds .any e = true → listed.getD e.on false = true) → ∀ j, (B.getD i 0).testBit j = true → listed.getD j false = true := by
  intro i
  induction i using Nat.strongRecOn with
  | _ i ih =>
    intro o ho hr j hj
    have hi : i < ops.size := (Array.getElem?_eq_some_iff.1 ho).1
    have hk := List.all_eq_true.1 hB i (List.mem_range.2 hi)
    rw [ho] at hk
    simp only [Bool.and_eq_true, beq_iff_eq] at hk
    rw [hk.1] at hj
    rcases fold_bits _ _ hj with h | ⟨e, h1, h2, h3⟩
    · simp at h
    · have hl := hr e (by simpa using h1) h2
      rcases h3 with rfl | h3
      · exact hl
      · have hlt : e.on < i := by have := List.all_eq_true.1 hk.2 e h1; simpa [h2] using this
        have he : e.on < ops.size := by omega
        exact ih e.on hlt ops[e.on] (by simp [he]) (hc e.on _ (listed_agree hl) (by simp [he])) j h3

theorem all_listed {ops : Array Oper} {B : Array Nat} (hB : bitsOk ops B = true) {listed : Array Bool} (hsz : listed.size = ops.size) (hr : Region.ready .any ops listed = []) : ∀ i, i < ops.size → listed.getD i true = true := by
  intro i
  induction i using Nat.strongRecOn with
  | _ i ih =>
    intro hi
    cases hl : listed.getD i true with
    | true => rfl
    | false =>
      have hk := List.all_eq_true.1 hB i (List.mem_range.2 hi)
      have ho : ops[i]? = some ops[i] := by simp [hi]
      rw [ho] at hk
      simp only [Bool.and_eq_true, beq_iff_eq] at hk
      have : i ∈ Region.ready .any ops listed := by
        rw [mem_ready]
        refine ⟨hl, ops[i], ho, ?_⟩
        intro e he hb
        have hlt : e.on < i := by have := List.all_eq_true.1 hk.2 e (by simpa using he); simpa [hb] using this
        have := ih e.on hlt (by omega)
        rw [Array.getD_eq_getD_getElem?] at this ⊢
        have hin : e.on < listed.size := by omega
        rw [Array.getElem?_eq_getElem hin] at this ⊢
        exact this
      rw [hr] at this
      cases this

end Go.Proofs.Ytnoihoeaconllaa.Ai
