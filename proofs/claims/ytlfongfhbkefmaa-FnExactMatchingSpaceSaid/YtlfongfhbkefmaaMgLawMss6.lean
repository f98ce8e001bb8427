/- Texts of this claim, joined: OfSz, MarkL, MarkS, OrN, Msp, CycP, IdxP, SrtP, Swp, Ext, Index, Wout, Lone, Mss, LMss. -/
import Derived.Test.YtlfongfhbkefmaaProg
import Derived.KernelRfl
import Derived.Test.YtlfongfhbkefmaaMgLawMss5
namespace Go.Proofs.Ytlfongfhbkefmaa.Ai
open Go
def ords155 : List (Nat × List (Nat × Bool)) := [(2, [(0, false), (1, false), (2, true), (3, false), (4, true), (5, true)])]
def cd155 : Cd := (.seq (.reg [⟨⟨some 4, Op.assign (Operand.const (Value.bool false)), none⟩, []⟩]) (.seq (.seq (.reg [⟨⟨some 5, Op.move (Operand.tmp 0), none⟩, []⟩,
  ⟨⟨some 6, Op.call { callee := (Callee.builtin Builtin.len), args := #[(Operand.tmp 5)], argTypes := #[38] }, none⟩, []⟩,
  ⟨⟨some 7, Op.load 3 (Operand.tmp 1), none⟩, []⟩,
  ⟨⟨some 8, Op.binOp BinOp.eql 3 (Operand.tmp 6) (Operand.tmp 7) 3, none⟩, []⟩]) (.cond (Operand.tmp 8) (.reg [⟨⟨some 9, Op.load 26 (Operand.tmp 2), none⟩, []⟩,
  ⟨⟨some 10, Op.move (Operand.tmp 0), none⟩, []⟩,
  ⟨⟨some 11, Op.call { callee := (Callee.value (Operand.func 87)), args := #[(Operand.tmp 10)], argTypes := #[38] }, none⟩, [⟨some 9, Op.load 26 (Operand.tmp 2), none⟩]⟩,
  ⟨⟨some 12, Op.buildSlice 26 1 #[(0, (Operand.tmp 11))], none⟩, []⟩,
  ⟨⟨some 13, Op.call { callee := (Callee.builtin Builtin.append), args := #[(Operand.tmp 9), (Operand.tmp 12)], argTypes := #[26, 26] }, none⟩, []⟩,
  ⟨⟨none, Op.store 26 (Operand.tmp 2) (Operand.tmp 13), none⟩, []⟩]) .skip)) (.seq (.reg [⟨⟨some 14, Op.load 26 (Operand.tmp 2), none⟩, []⟩,
  ⟨⟨some 15, Op.call { callee := (Callee.builtin Builtin.len), args := #[(Operand.tmp 14)], argTypes := #[26] }, none⟩, []⟩,
  ⟨⟨some 16, Op.binOp BinOp.leq 3 (Operand.tmp 15) (Operand.const (Value.int IntKind.i64 300)) 3, none⟩, []⟩,
  ⟨⟨some 4, Op.assign (Operand.tmp 16), none⟩, []⟩]) .ret)))
theorem sl155 : slim Try.f155.ntmps ords155 (Try.f155.body.getD .skip) = some cd155 := by kernel_rfl
theorem in155 {args : List Value} {H : AH} {R : Value → AH → Prop} (hl : args.length = 3) (h : ∀ (Q : Exit → Sl → AH → Prop), (∀ e s H, endA Try.prog [ResultVar.tmp 4] R e s H → Q e s H) → wpC Try.prog cd155 Q (enterA args) H) : ACalls Try.prog 155 args H R :=
  ACalls.intro (by kernel_rfl) Try.func155 rfl (by kernel_rfl) sl155 hl (of_decide_eq_true (by kernel_rfl)) (by kernel_rfl) h
def ords73 : List (Nat × List (Nat × Bool)) := []
def cd73 : Cd := (.seq (.reg [⟨⟨some 2, Op.box 31 (Operand.tmp 0), none⟩, []⟩,
  ⟨⟨some 3, Op.box 3 (Operand.tmp 1), none⟩, []⟩,
  ⟨⟨some 4, Op.assign (Operand.const (Value.slice none 0 0)), none⟩, []⟩]) (.seq (.reg [⟨⟨some 6, Op.buildSlice 26 0 #[], none⟩, []⟩,
  ⟨⟨some 5, Op.alloc 26, none⟩, []⟩,
  ⟨⟨none, Op.store 26 (Operand.tmp 5) (Operand.tmp 6), none⟩, []⟩]) (.seq (.reg [⟨⟨some 7, Op.load 31 (Operand.tmp 2), none⟩, []⟩,
  ⟨⟨some 8, Op.makeFunc (Fn.func 155) #[] #[(Operand.tmp 3), (Operand.tmp 5)], none⟩, []⟩,
  ⟨⟨some 9, Op.call { callee := (Callee.value (Operand.func 154)), args := #[(Operand.tmp 7), (Operand.tmp 8)], argTypes := #[31, 69] }, none⟩, []⟩]) (.seq (.reg [⟨⟨some 10, Op.load 26 (Operand.tmp 5), none⟩, []⟩,
  ⟨⟨some 4, Op.assign (Operand.tmp 10), none⟩, []⟩]) .ret))))
theorem sl73 : slim Try.f73.ntmps ords73 (Try.f73.body.getD .skip) = some cd73 := by kernel_rfl
theorem in73 {args : List Value} {H : AH} {R : Value → AH → Prop} (hl : args.length = 2) (h : ∀ (Q : Exit → Sl → AH → Prop), (∀ e s H, endA Try.prog [ResultVar.tmp 4] R e s H → Q e s H) → wpC Try.prog cd73 Q (enterA args) H) : ACalls Try.prog 73 args H R :=
  ACalls.intro (by kernel_rfl) Try.func73 rfl (by kernel_rfl) sl73 hl (of_decide_eq_true (by kernel_rfl)) (by kernel_rfl) h
end Go.Proofs.Ytlfongfhbkefmaa.Ai
namespace Go.Proofs.Ytlfongfhbkefmaa.Ai
open Go Go.RowKit
set_option linter.unusedVariables false
set_option linter.unusedSimpArgs false
/-- the objects of a list of lists -/
def Objs (o : Nat) (us : List Value) (ls : List (List Int)) (j : Nat) : Prop := j = o ∨ ∃ i, i < ls.length ∧ us.getD i undef ≠ .slice none 0 0 ∧ j = rowO (us.getD i undef)
theorem InU.refit {lo hi : Nat} {e2 e : TypeId} {H H' : AH} {o : Nat} {us : List Value} {ls : List (List Int)} (h : InU lo hi e2 e H o us ls) (hk : ∀ j y, Objs o us ls j → H[j]? = some y → H'[j]? = some y) : InU lo H'.length e2 e H' o us ls := by
  obtain ⟨h1, h2, h3, h4, h5, h6⟩ := h
  have k3 := hk _ _ (.inl rfl) h3
  refine ⟨h1, at_lt k3, k3, h4, fun i hi => ⟨?_, (h5 i hi).2⟩, h6⟩
  rcases (h5 i hi).1 with g | ⟨oo, zs, g1, g2, g3, g4, g5⟩
  · exact .inl g
  · have := hk oo _ (.inr ⟨i, hi, (by rw [g1]; intro e; cases e), (by rw [g1]; rfl)⟩) g4
    exact .inr ⟨oo, zs, g1, g2, at_lt this, this, g5⟩
theorem InU.objs {lo hi : Nat} {e2 e : TypeId} {H : AH} {o : Nat} {us : List Value} {ls : List (List Int)} (h : InU lo hi e2 e H o us ls) {j : Nat} (hj : Objs o us ls j) : lo ≤ j ∧ j < hi := by
  obtain ⟨h1, h2, h3, h4, h5, h6⟩ := h
  rcases hj with rfl | ⟨i, hi, hn, rfl⟩
  · exact ⟨h1, h2⟩
  · rcases (h5 i hi).1.at_ with g | g
    · exact absurd g hn
    · exact g
def szCb (k : Nat) (out : List (List Int)) (x : List Int) : List (List Int) × Bool :=
  if x.length = k then (out ++ [x], decide ((out ++ [x]).length ≤ 300)) else (out, decide (out.length ≤ 300))
theorem sfold_sz (k : Nat) : ∀ (l : List (List Int)) (out : List (List Int)), out.length ≤ 300 → sfold (szCb k) l out = ((out ++ l.filter fun x => decide (x.length = k)).take 301, decide ((out ++ l.filter fun x => decide (x.length = k)).length ≤ 300))
  | [], out, h => by simp only [sfold, List.filter_nil, List.append_nil]; rw [List.take_of_length_le (by omega), decide_eq_true h]
  | x :: l, out, h => by
    rw [sfold]
    by_cases hx : x.length = k
    · have hf : (x :: l).filter (fun x => decide (x.length = k)) = x :: l.filter (fun x => decide (x.length = k)) := by rw [List.filter_cons, if_pos (by simpa using hx)]
      have hc : szCb k out x = (out ++ [x], decide ((out ++ [x]).length ≤ 300)) := by unfold szCb; rw [if_pos hx]
      rw [hc, hf]
      have happ : out ++ x :: l.filter (fun x => decide (x.length = k)) = (out ++ [x]) ++ l.filter (fun x => decide (x.length = k)) := by simp
      rw [happ]
      by_cases h2 : (out ++ [x]).length ≤ 300
      · rw [if_pos (by simpa using h2)]
        exact sfold_sz k l _ h2
      · rw [if_neg (by simpa using h2)]
        have hl : (out ++ [x]).length = 301 := by simp at h2 ⊢; omega
        rw [List.take_append_of_le_length (by omega), List.take_of_length_le (by omega), decide_eq_false h2]
        congr 1
        rw [eq_comm, decide_eq_false_iff_not, List.length_append]; omega
    · have hf : (x :: l).filter (fun x => decide (x.length = k)) = l.filter (fun x => decide (x.length = k)) := by rw [List.filter_cons, if_neg (by simpa using hx)]
      have hc : szCb k out x = (out, decide (out.length ≤ 300)) := by unfold szCb; rw [if_neg hx]
      rw [hc, hf, if_pos (by simpa using h)]
      exact sfold_sz k l out h
/-- those found so far, in memory -/
def ISz (HB : AH) (pk po k : Nat) (out : List (List Int)) (F : Nat → Prop) (H : AH) : Prop :=
  ∃ o us, H[pk]? = some (.cells [.int .i64 (k : Int)] 3 false) ∧ H[po]? = some (.cells [.slice (some ⟨o, 0, none⟩) out.length out.length] 26 false) ∧ InU HB.length H.length 38 3 H o us out ∧ (HB.length ≤ pk ∧ HB.length ≤ po) ∧ pk ≠ po ∧ ¬ Objs o us out pk ∧ ¬ Objs o us out po ∧
    out.length ≤ 301 ∧ F = fun j => j = pk ∨ j = po ∨ Objs o us out j
theorem getD_app1 {us : List Value} {n i : Nat} {c : Value} (hn : n ≤ us.length) : (us.take n ++ [c]).getD i undef = if i < n then us.getD i undef else if i = n then c else undef := by
  rw [List.getD_eq_getElem?_getD, List.getElem?_append]
  have hl : (us.take n).length = n := by simp; omega
  rw [hl]
  split
  · rw [List.getElem?_take, if_pos (by assumption), List.getD_eq_getElem?_getD]
  · split
    · rename_i h; subst h; simp
    · rw [List.getElem?_eq_none (by simp; omega)]; rfl
theorem away_app {q o' : Nat} {us : List Value} {out : List (List Int)} {c : Value} {xs : List Int} (hu : out.length ≤ us.length) (h : ∀ i, i < out.length → us.getD i undef = .slice none 0 0 ∨ rowO (us.getD i undef) ≠ q) (hc : c = .slice none 0 0 ∨ rowO c ≠ q) (ho : o' ≠ q) : Away q o' (us.take out.length ++ [c]) (out ++ [xs]) := by
  refine ⟨ho, fun i hi => ?_⟩
  simp only [List.length_append, List.length_cons, List.length_nil] at hi
  rw [getD_app1 hu]
  split
  · exact h i (by assumption)
  · rw [if_pos (by omega)]; exact hc
theorem clear_tup {H0 H : AH} {e : TypeId} {v : Value} {xs : List Int} (h : Own e H0 H v xs) : isTup v = false := h.row.tup
set_option maxRecDepth 20000 in
set_option maxHeartbeats 2000000 in
theorem sz_ok (HB : AH) (pk po k : Nat) (hk : k ≤ 1000000) : CbOk HB 155 [.pointer (some ⟨pk, 0, none⟩), .pointer (some ⟨po, 0, none⟩)] (fun out F H => ISz HB pk po k out F H ∧ out.length ≤ 300) (fun out F H => ISz HB pk po k out F H) (szCb k) := by
  refine ⟨fun h => h.1, ?_, ?_, ?_⟩
  · rintro out F H j ⟨⟨o, us, h1, h2, h3, h4, h5, h6, h7, h8, rfl⟩, _⟩ hF
    have hF' : j = pk ∨ j = po ∨ Objs o us out j := hF
    rcases hF' with rfl | rfl | hj
    · exact ⟨at_lt h1, h4.1⟩
    · exact ⟨at_lt h2, h4.2⟩
    · have := h3.objs hj
      exact ⟨this.2, this.1⟩
  · rintro out F H H' ⟨⟨o, us, h1, h2, h3, h4, h5, h6, h7, h8, rfl⟩, h9⟩ hk
    exact ⟨⟨o, us, hk _ _ (.inl rfl) h1, hk _ _ (.inr (.inl rfl)) h2, h3.refit fun j y hj hy => hk _ _ (.inr (.inr hj)) hy, h4, h5, h6, h7, h8, rfl⟩, h9⟩
  · rintro out F H w xs ⟨⟨o, us, h1, h2, h3, h4, h5, h6, h7, h8, rfl⟩, h9⟩ hw hwF hl hp
    refine in155 rfl ?_
    intro Q hQ
    have ao : Away po o us out := ⟨fun e => h7 (.inl e.symm), fun i hi => by
      by_cases hn : us.getD i undef = .slice none 0 0
      · exact .inl hn
      · exact .inr fun e => h7 (.inr ⟨i, hi, hn, e.symm⟩)⟩
    simp (maxSteps := 1000000) (disch := omega) only [cd155, hw.len Try.underlying38, cell_of h1, S, S1, S2, S3, S4, S5, ST, eq_self, reduceIte, reduceCtorEq, Nat.reduceEqDiff, Nat.reduceAdd]
    refine brD.intro (fun g => ?_) (fun g => ?_)
    · have hxk : xs.length = k := by omega
      have hcb : szCb k out xs = (out ++ [xs], decide ((out ++ [xs]).length ≤ 300)) := by unfold szCb; rw [if_pos hxk]
      rw [hcb] at hQ
      simp (maxSteps := 1000000) (disch := omega) only [cell_of h2, S, S1, S2, S3, S4, S5, ST, eq_self, reduceIte, reduceCtorEq, Nat.reduceEqDiff, Nat.reduceAdd]
      refine CallH.by (Clone_c w xs H hw (by omega)) ?_
      rintro c C ⟨hcl, pC⟩
      have c2 := pre_at pC h2
      have c1 := pre_at pC h1
      have hinw := InI.of hcl.mine
      obtain ⟨H3, k1, k2, k3, k4⟩ := (h3.pre pC).app1 (P := Try.prog) (t2 := 26) Try.underlying26 cs38 (by rw [by38]; decide) zk38 hinw hp.length_le pC.length_le (Nat.le_refl _) (by omega)
      have hbs : buildSliceA Try.prog 26 1 [(0, c)] C = some (.slice (some ⟨C.length, 0, none⟩) 1 1, C ++ [.cells [c] 38 false]) := by
        obtain ⟨q, eq⟩ := hcl.row.shape
        rw [eq]
        exact bs1 Try.underlying26 cs38 ze38 ⟨by kernel_rfl, by kernel_rfl⟩ C rfl
      have lC := pC.length_le
      have l1 := at_lt h1
      have l2 := at_lt h2
      have d2 := k4 po _ (fun e => h7 (.inl e)) c2
      have d1 := k4 pk _ (fun e => h6 (.inl e)) c1
      have hst := st_at (P := Try.prog) (t := 26) (i := 0) (y := .slice (some ⟨C.length + 1, 0, none⟩) (out.length + 1) (out.length + 1)) cs26 d2 (by show 0 < 1; decide) rfl rfl
      have e2 : (H3.set po (.cells ([Value.slice (some ⟨o, 0, none⟩) out.length out.length].set 0 (.slice (some ⟨C.length + 1, 0, none⟩) (out.length + 1) (out.length + 1))) 26 false))[po]? = some (.cells [.slice (some ⟨C.length + 1, 0, none⟩) (out.length + 1) (out.length + 1)] 26 false) := by
        rw [List.getElem?_set_self (by omega)]; rfl
      simp (maxSteps := 1000000) (disch := omega) only [cell_of c2, hbs, k1, hst, cell_of e2, S, S1, S2, S3, S4, S5, ST, eq_self, reduceIte, reduceCtorEq, Nat.reduceEqDiff, Nat.reduceAdd]
      refine hQ _ _ _ ?_
      simp (maxSteps := 1000000) (disch := omega) only [S, S1, S2, S3, S4, S5, ST, eq_self, reduceIte, reduceCtorEq, Nat.reduceEqDiff, Nat.reduceAdd]
      have hal : (out ++ [xs]).length = out.length + 1 := by simp
      have hcO : c = .slice none 0 0 ∨ H.length ≤ rowO c := by
        rcases hcl with ⟨q, _⟩ | ⟨oc, q, hoc, _⟩
        · exact .inl q
        · exact .inr (by rw [q]; exact hoc)
      have hul := h3.2.2.2.1
      have aw2 : Away po (C.length + 1) (us.take out.length ++ [c]) (out ++ [xs]) := away_app hul ao.2 (hcO.imp id fun q => by omega) (by omega)
      have ak2 : Away pk (C.length + 1) (us.take out.length ++ [c]) (out ++ [xs]) := away_app hul (fun i hi => by
        by_cases hn : us.getD i undef = .slice none 0 0
        · exact .inl hn
        · exact .inr fun e => h6 (.inr ⟨i, hi, hn, e.symm⟩)) (hcO.imp id fun q => by omega) (by omega)
      have k2' := (k2.wide (Nat.le_refl _) (Nat.le_of_eq k3.symm) : InU HB.length H3.length 38 3 H3 _ _ _)
      have hnew : ISz HB pk po k (out ++ [xs]) (fun j => j = pk ∨ j = po ∨ Objs (C.length + 1) (us.take out.length ++ [c]) (out ++ [xs]) j) (H3.set po (.cells ([Value.slice (some ⟨o, 0, none⟩) out.length out.length].set 0 (.slice (some ⟨C.length + 1, 0, none⟩) (out.length + 1) (out.length + 1))) 26 false)) := by
        refine ⟨C.length + 1, us.take out.length ++ [c], ?_, by rw [hal]; exact e2, ?_, h4, h5, ?_, ?_, by rw [hal]; omega, rfl⟩
        · rw [List.getElem?_set_ne (fun e => h5 e.symm)]; exact d1
        · have := k2'.moveq aw2 (H' := H3.set po (.cells ([Value.slice (some ⟨o, 0, none⟩) out.length out.length].set 0 (.slice (some ⟨C.length + 1, 0, none⟩) (out.length + 1) (out.length + 1))) 26 false)) (fun j y hj hy => by rw [List.getElem?_set_ne (fun e => hj e.symm)]; exact hy)
          simpa using this
        · rintro (e | ⟨i, hi, hn, e⟩)
          · omega
          · rcases ak2.2 i hi with q | q
            · exact hn q
            · exact q e.symm
        · rintro (e | ⟨i, hi, hn, e⟩)
          · omega
          · rcases aw2.2 i hi with q | q
            · exact hn q
            · exact q e.symm
      refine ⟨?_, ⟨_, hnew, fun hok => ⟨hnew, by simpa using hok⟩, ?_⟩, ?_⟩
      · rw [Value.bool.injEq, decide_eq_decide, hal]; constructor <;> intro h <;> omega
      · rintro j (e | e | e | ⟨i, hi, hn, e⟩)
        · exact .inl (.inl e)
        · exact .inl (.inr (.inl e))
        · exact .inr (by omega)
        · rw [getD_app1 hul] at hn e
          simp only [List.length_append, List.length_cons, List.length_nil] at hi
          by_cases hi2 : i < out.length
          · rw [if_pos hi2] at hn e
            exact .inl (.inr (.inr (.inr ⟨i, hi2, hn, e⟩)))
          · rw [if_neg hi2, if_pos (by omega)] at hn e
            rcases hcO with q | q
            · exact absurd q hn
            · exact .inr (by omega)
      · intro j y hj hy
        rw [List.getElem?_set_ne (fun e => hj (.inr (.inl e.symm)))]
        exact k4 j y (fun e => hj (.inr (.inr (.inl e)))) (pre_at pC hy)
    · have hcb : szCb k out xs = (out, decide (out.length ≤ 300)) := by unfold szCb; rw [if_neg (by omega)]
      rw [hcb] at hQ
      simp (maxSteps := 1000000) (disch := omega) only [cell_of h2, S, S1, S2, S3, S4, S5, ST, eq_self, reduceIte, reduceCtorEq, Nat.reduceEqDiff, Nat.reduceAdd]
      refine hQ _ _ _ ?_
      simp (maxSteps := 1000000) (disch := omega) only [S, S1, S2, S3, S4, S5, ST, eq_self, reduceIte, reduceCtorEq, Nat.reduceEqDiff, Nat.reduceAdd]
      have hI : ISz HB pk po k out (fun j => j = pk ∨ j = po ∨ Objs o us out j) H := ⟨o, us, h1, h2, h3, h4, h5, h6, h7, h8, rfl⟩
      refine ⟨?_, ⟨_, hI, fun _ => ⟨hI, h9⟩, fun o ho => .inl ho⟩, fun o y _ hy => hy⟩
      rw [Value.bool.injEq, decide_eq_decide]; constructor <;> intro h <;> omega
theorem box_int (H : AH) (k : Int) : boxA Try.prog 3 (.int .i64 k) H = some (.pointer (some ⟨H.length, 0, none⟩), H ++ [.cells [.int .i64 k] 3 false]) := by kernel_rfl
theorem alloc_ll (H : AH) : allocA Try.prog 26 H = some (.pointer (some ⟨H.length, 0, none⟩), H ++ [.cells [.slice none 0 0] 26 false]) := by kernel_rfl
theorem mkf_2 (f : Fn) (p q : Option Addr) : makeFuncA f [] [.pointer p, .pointer q] = some (.func f #[] (List.toArray [.pointer p, .pointer q])) := rfl
set_option maxRecDepth 20000 in
set_option maxHeartbeats 1000000 in
theorem ofSize_c (n : Int) (v : Value) (es : List (Int × Int)) (k : Nat) (H : AH) (hr : RowP 81 H v es) (hlen : es.length ≤ 1048576) (hg : Grd n es) (hk : k ≤ 1000000) :
    ACalls Try.prog 73 [.agg (List.toArray [.int .i64 n, v]), .int .i64 (k : Int)] H fun r H' => InL H.length H'.length 38 3 H' r ((mext es es.length [] k).take 301) ∧ H <+: H' := by
  refine in73 rfl ?_
  intro Q hQ
  simp (maxSteps := 1000000) (disch := omega) only [cd73, hr.boxG, box_int, alloc_ll, S, S1, S2, S3, S4, S5, ST, eq_self, reduceIte, reduceCtorEq, Nat.reduceEqDiff, Nat.reduceAdd]
  generalize hA : H ++ [AObj.cells [.int .i64 n, v] 31 false] = A
  have pA : H <+: A := by rw [← hA]; exact List.prefix_append _ _
  have cA : A[H.length]? = some (.cells [.int .i64 n, v] 31 false) := by rw [← hA]; exact at_new ..
  have rA := hr.pre pA
  generalize hK : A ++ [AObj.cells [.int .i64 (k : Int)] 3 false] = K
  have pK : A <+: K := by rw [← hK]; exact List.prefix_append _ _
  have cK : K[A.length]? = some (.cells [.int .i64 (k : Int)] 3 false) := by rw [← hK]; exact at_new ..
  generalize hZ : K ++ [AObj.cells [] 38 false] = Z
  have pZ : K <+: Z := by rw [← hZ]; exact List.prefix_append _ _
  have cZ : Z[K.length]? = some (.cells [] 38 false) := by rw [← hZ]; exact at_new ..
  have st1 := st_at (P := Try.prog) (t := 26) (i := 0) (y := .slice (some ⟨K.length, 0, none⟩) 0 0) cs26 (at_new Z (.cells [.slice none 0 0] 26 false)) (by show 0 < 1; decide) rfl rfl
  rw [set_new, List.set_cons_zero] at st1
  have cZA := pre_at (pK.trans pZ) cA
  simp (maxSteps := 1000000) (disch := omega) only [st1, mkf_2, ld_agg ag31 cs31 (at_app cZA _), S, S1, S2, S3, S4, S5, ST, eq_self, reduceIte, reduceCtorEq, Nat.reduceEqDiff, Nat.reduceAdd]
  generalize hE : Z ++ [AObj.cells [.slice (some ⟨K.length, 0, none⟩) 0 0] 26 false] = E
  have pE : Z <+: E := by rw [← hE]; exact List.prefix_append _ _
  have cE : E[Z.length]? = some (.cells [.slice (some ⟨K.length, 0, none⟩) 0 0] 26 false) := by rw [← hE]; exact at_new ..
  have lA : A.length = H.length + 1 := by rw [← hA]; simp
  have lK : K.length = A.length + 1 := by rw [← hK]; simp
  have lZ : Z.length = K.length + 1 := by rw [← hZ]; simp
  have lE : E.length = Z.length + 1 := by rw [← hE]; simp
  have hU : InU H.length E.length 38 3 E K.length [] [] := ⟨by omega, by omega, pre_at pE cZ, Nat.le_refl _, fun i hi => absurd hi (by simp), fun i j _ hi _ => absurd hi (by simp)⟩
  have nob : ∀ j, j ≠ K.length → ¬ Objs K.length [] [] j := by
    rintro j hj (e | ⟨i, hi, _⟩)
    · exact hj e
    · simp at hi
  have hI : ISz H A.length Z.length k [] (fun j => j = A.length ∨ j = Z.length ∨ Objs K.length [] [] j) E ∧ ([] : List (List Int)).length ≤ 300 :=
    ⟨⟨K.length, [], pre_at (pZ.trans pE) cK, cE, hU, ⟨by omega, by omega⟩, by omega, nob _ (by omega), nob _ (by omega), by simp, rfl⟩, by simp⟩
  have pHE := pA.trans (pK.trans (pZ.trans pE))
  refine CallH.by (matchings_c (sz_ok H A.length Z.length k hk) v n es hr hlen hg [] _ E hI pHE) ?_
  rintro _ H' ⟨hp', F', o, us, h1, h2, h3, _⟩
  rw [sfold_sz k _ [] (by simp)] at h2 h3
  simp (maxSteps := 1000000) (disch := omega) only [cell_of h2, S, S1, S2, S3, S4, S5, ST, eq_self, reduceIte, reduceCtorEq, Nat.reduceEqDiff, Nat.reduceAdd]
  refine hQ _ _ _ ?_
  simp (maxSteps := 1000000) (disch := omega) only [S, S1, S2, S3, S4, S5, ST, eq_self, reduceIte, reduceCtorEq, Nat.reduceEqDiff, Nat.reduceAdd]
  rw [List.nil_append] at h2 h3
  exact ⟨h3.inl, hp'⟩
end Go.Proofs.Ytlfongfhbkefmaa.Ai
namespace Go.Proofs.Ytlfongfhbkefmaa.Ai
open Go
def ords24 : List (Nat × List (Nat × Bool)) := [(6, [(0, false), (1, false), (2, false), (3, false), (4, false), (5, false), (6, false), (7, false), (8, true), (9, false)])]
def cd24 : Cd := (.seq (.reg [⟨⟨some 4, Op.assign (Operand.const (Value.bool false)), none⟩, []⟩]) (.seq (.seq (.reg [⟨⟨some 6, Op.move (Operand.tmp 0), none⟩, []⟩,
  ⟨⟨some 7, Op.call { callee := (Callee.builtin Builtin.len), args := #[(Operand.tmp 6)], argTypes := #[26] }, none⟩, []⟩,
  ⟨⟨some 8, Op.move (Operand.tmp 1), none⟩, []⟩,
  ⟨⟨some 9, Op.call { callee := (Callee.builtin Builtin.len), args := #[(Operand.tmp 8)], argTypes := #[26] }, none⟩, []⟩,
  ⟨⟨some 10, Op.binOp BinOp.neq 3 (Operand.tmp 7) (Operand.tmp 9) 3, none⟩, []⟩]) (.cond (Operand.tmp 10) (.seq (.reg [⟨⟨some 4, Op.assign (Operand.const (Value.bool false)), none⟩, []⟩]) .ret) .skip)) (.seq (.seq (.reg [⟨⟨some 5, Op.assign (Operand.const (Value.int IntKind.i64 0)), none⟩, []⟩]) (.block 0 (.loop (.seq (.seq (.reg [⟨⟨some 11, Op.move (Operand.tmp 5), none⟩, []⟩,
  ⟨⟨some 12, Op.move (Operand.tmp 0), none⟩, []⟩,
  ⟨⟨some 13, Op.call { callee := (Callee.builtin Builtin.len), args := #[(Operand.tmp 12)], argTypes := #[26] }, none⟩, []⟩,
  ⟨⟨some 14, Op.binOp BinOp.lss 3 (Operand.tmp 11) (Operand.tmp 13) 3, none⟩, []⟩]) (.cond (Operand.tmp 14) .skip (.exit 0))) (.seq (.block 1 (.seq (.reg [⟨⟨some 17, Op.move (Operand.tmp 0), none⟩, []⟩,
  ⟨⟨some 18, Op.move (Operand.tmp 5), none⟩, []⟩,
  ⟨⟨some 19, Op.indexAddr 26 (Operand.tmp 17) (Operand.tmp 18), none⟩, []⟩,
  ⟨⟨some 20, Op.load 38 (Operand.tmp 19), none⟩, []⟩,
  ⟨⟨some 21, Op.move (Operand.tmp 1), none⟩, []⟩,
  ⟨⟨some 22, Op.move (Operand.tmp 5), none⟩, []⟩,
  ⟨⟨some 23, Op.indexAddr 26 (Operand.tmp 21) (Operand.tmp 22), none⟩, []⟩,
  ⟨⟨some 24, Op.load 38 (Operand.tmp 23), none⟩, []⟩,
  ⟨⟨some 25, Op.call { callee := (Callee.value (Operand.func 25)), args := #[(Operand.tmp 20), (Operand.tmp 24)], argTypes := #[38, 38] }, none⟩, []⟩,
  ⟨⟨some 26, Op.unOp UnOp.not 4 (Operand.tmp 25), none⟩, []⟩]) (.cond (Operand.tmp 26) (.seq (.reg [⟨⟨some 4, Op.assign (Operand.const (Value.bool false)), none⟩, []⟩]) .ret) .skip))) (.reg [⟨⟨some 15, Op.move (Operand.tmp 5), none⟩, []⟩,
  ⟨⟨some 16, Op.binOp BinOp.add 3 (Operand.tmp 15) (Operand.const (Value.int IntKind.i64 1)) 3, none⟩, []⟩,
  ⟨⟨some 5, Op.assign (Operand.tmp 16), none⟩, []⟩])))))) (.seq (.reg [⟨⟨some 4, Op.assign (Operand.const (Value.bool true)), none⟩, []⟩]) .ret))))
theorem sl24 : slim Try.f24.ntmps ords24 (Try.f24.body.getD .skip) = some cd24 := by kernel_rfl
theorem in24 {args : List Value} {H : AH} {R : Value → AH → Prop} (hl : args.length = 2) (h : ∀ (Q : Exit → Sl → AH → Prop), (∀ e s H, endA Try.prog [ResultVar.tmp 4] R e s H → Q e s H) → wpC Try.prog cd24 Q (enterA args) H) : ACalls Try.prog 24 args H R :=
  ACalls.intro (by kernel_rfl) Try.func24 rfl (by kernel_rfl) sl24 hl (of_decide_eq_true (by kernel_rfl)) (by kernel_rfl) h
def ords28 : List (Nat × List (Nat × Bool)) := []
def cd28 : Cd := (.seq (.reg [⟨⟨some 4, Op.assign (Operand.const (Value.int IntKind.i64 0)), none⟩, []⟩]) (.seq (.seq (.reg [⟨⟨some 5, Op.assign (Operand.const (Value.int IntKind.i64 0)), none⟩, []⟩]) (.block 0 (.loop (.seq (.seq (.reg [⟨⟨some 6, Op.move (Operand.tmp 5), none⟩, []⟩,
  ⟨⟨some 7, Op.move (Operand.tmp 0), none⟩, []⟩,
  ⟨⟨some 8, Op.call { callee := (Callee.builtin Builtin.len), args := #[(Operand.tmp 7)], argTypes := #[26] }, none⟩, []⟩,
  ⟨⟨some 9, Op.binOp BinOp.lss 3 (Operand.tmp 6) (Operand.tmp 8) 3, none⟩, []⟩]) (.cond (Operand.tmp 9) .skip (.exit 0))) (.seq (.block 1 (.seq (.reg [⟨⟨some 12, Op.move (Operand.tmp 0), none⟩, []⟩,
  ⟨⟨some 13, Op.move (Operand.tmp 5), none⟩, []⟩,
  ⟨⟨some 14, Op.indexAddr 26 (Operand.tmp 12) (Operand.tmp 13), none⟩, []⟩,
  ⟨⟨some 15, Op.load 38 (Operand.tmp 14), none⟩, []⟩,
  ⟨⟨some 16, Op.move (Operand.tmp 1), none⟩, []⟩,
  ⟨⟨some 17, Op.call { callee := (Callee.value (Operand.func 93)), args := #[(Operand.tmp 15), (Operand.tmp 16)], argTypes := #[38, 3] }, none⟩, []⟩,
  ⟨⟨some 1, Op.assign (Operand.tmp 17), none⟩, []⟩]) (.seq (.reg [⟨⟨some 18, Op.move (Operand.tmp 1), none⟩, []⟩,
  ⟨⟨some 19, Op.binOp BinOp.lss 3 (Operand.tmp 18) (Operand.const (Value.int IntKind.i64 0)) 3, none⟩, []⟩]) (.cond (Operand.tmp 19) (.seq (.reg [⟨⟨some 4, Op.assign (Operand.const (Value.int IntKind.i64 (-1))), none⟩, []⟩]) .ret) .skip)))) (.reg [⟨⟨some 10, Op.move (Operand.tmp 5), none⟩, []⟩,
  ⟨⟨some 11, Op.binOp BinOp.add 3 (Operand.tmp 10) (Operand.const (Value.int IntKind.i64 1)) 3, none⟩, []⟩,
  ⟨⟨some 5, Op.assign (Operand.tmp 11), none⟩, []⟩])))))) (.seq (.reg [⟨⟨some 20, Op.move (Operand.tmp 1), none⟩, []⟩,
  ⟨⟨some 4, Op.assign (Operand.tmp 20), none⟩, []⟩]) .ret)))
theorem sl28 : slim Try.f28.ntmps ords28 (Try.f28.body.getD .skip) = some cd28 := by kernel_rfl
theorem in28 {args : List Value} {H : AH} {R : Value → AH → Prop} (hl : args.length = 2) (h : ∀ (Q : Exit → Sl → AH → Prop), (∀ e s H, endA Try.prog [ResultVar.tmp 4] R e s H → Q e s H) → wpC Try.prog cd28 Q (enterA args) H) : ACalls Try.prog 28 args H R :=
  ACalls.intro (by kernel_rfl) Try.func28 rfl (by kernel_rfl) sl28 hl (of_decide_eq_true (by kernel_rfl)) (by kernel_rfl) h
def ords27 : List (Nat × List (Nat × Bool)) := []
def cd27 : Cd := (.seq (.reg [⟨⟨some 4, Op.assign (Operand.const (Value.int IntKind.i64 0)), none⟩, []⟩]) (.seq (.seq (.reg [⟨⟨some 5, Op.assign (Operand.const (Value.int IntKind.i64 0)), none⟩, []⟩]) (.block 0 (.loop (.seq (.seq (.reg [⟨⟨some 6, Op.move (Operand.tmp 5), none⟩, []⟩,
  ⟨⟨some 7, Op.move (Operand.tmp 0), none⟩, []⟩,
  ⟨⟨some 8, Op.call { callee := (Callee.builtin Builtin.len), args := #[(Operand.tmp 7)], argTypes := #[26] }, none⟩, []⟩,
  ⟨⟨some 9, Op.binOp BinOp.lss 3 (Operand.tmp 6) (Operand.tmp 8) 3, none⟩, []⟩]) (.cond (Operand.tmp 9) .skip (.exit 0))) (.seq (.block 1 (.reg [⟨⟨some 12, Op.move (Operand.tmp 0), none⟩, []⟩,
  ⟨⟨some 13, Op.move (Operand.tmp 5), none⟩, []⟩,
  ⟨⟨some 14, Op.indexAddr 26 (Operand.tmp 12) (Operand.tmp 13), none⟩, []⟩,
  ⟨⟨some 15, Op.load 38 (Operand.tmp 14), none⟩, []⟩,
  ⟨⟨some 16, Op.move (Operand.tmp 1), none⟩, []⟩,
  ⟨⟨some 17, Op.call { callee := (Callee.value (Operand.func 26)), args := #[(Operand.tmp 15), (Operand.tmp 16)], argTypes := #[38, 3] }, none⟩, []⟩,
  ⟨⟨some 1, Op.assign (Operand.tmp 17), none⟩, []⟩])) (.reg [⟨⟨some 10, Op.move (Operand.tmp 5), none⟩, []⟩,
  ⟨⟨some 11, Op.binOp BinOp.add 3 (Operand.tmp 10) (Operand.const (Value.int IntKind.i64 1)) 3, none⟩, []⟩,
  ⟨⟨some 5, Op.assign (Operand.tmp 11), none⟩, []⟩])))))) (.seq (.reg [⟨⟨some 18, Op.move (Operand.tmp 1), none⟩, []⟩,
  ⟨⟨some 4, Op.assign (Operand.tmp 18), none⟩, []⟩]) .ret)))
theorem sl27 : slim Try.f27.ntmps ords27 (Try.f27.body.getD .skip) = some cd27 := by kernel_rfl
theorem in27 {args : List Value} {H : AH} {R : Value → AH → Prop} (hl : args.length = 2) (h : ∀ (Q : Exit → Sl → AH → Prop), (∀ e s H, endA Try.prog [ResultVar.tmp 4] R e s H → Q e s H) → wpC Try.prog cd27 Q (enterA args) H) : ACalls Try.prog 27 args H R :=
  ACalls.intro (by kernel_rfl) Try.func27 rfl (by kernel_rfl) sl27 hl (of_decide_eq_true (by kernel_rfl)) (by kernel_rfl) h
end Go.Proofs.Ytlfongfhbkefmaa.Ai
namespace Go.Proofs.Ytlfongfhbkefmaa.Ai
open Go Go.RowKit
set_option linter.unusedVariables false
set_option linter.unusedSimpArgs false
set_option maxHeartbeats 1000000 in
theorem eqIntSS_c (v w : Value) (ls ms : List (List Int)) (H : AH) {b b' : Nat} (hr : RowLB b 38 3 H v ls) (hr2 : RowLB b' 38 3 H w ms) (hlen : ls.length ≤ 1099511627776) (hsz : sizeL ls ≤ 1099511627776) :
    ACalls Try.prog 24 [v, w] H fun r H' => r = .bool (decide (ls = ms)) ∧ H = H' := by
  obtain ⟨us, hv, _, hul, hu⟩ := hr
  obtain ⟨ws, hw, _, hwl, hwr⟩ := hr2
  have hvl := hv.len Try.underlying26
  have hwln := hw.len Try.underlying26
  rw [hul] at hvl
  rw [hwl] at hwln
  refine in24 rfl ?_
  intro Q hQ
  simp (maxSteps := 1000000) (disch := omega) only [cd24, hvl, hwln, S, S1, S2, S3, S4, S5, ST, eq_self, reduceIte, reduceCtorEq, Nat.reduceEqDiff, Nat.reduceAdd]
  refine brD.intro (fun g => ?_) (fun g => ?_) <;> simp (maxSteps := 1000000) (disch := omega) only [hvl, S, S1, S2, S3, S4, S5, ST, eq_self, reduceIte, reduceCtorEq, Nat.reduceEqDiff, Nat.reduceAdd]
  · refine hQ _ _ _ ?_
    simp (maxSteps := 1000000) (disch := omega) only [S, S1, S2, S3, S4, S5, ST, eq_self, reduceIte, reduceCtorEq, Nat.reduceEqDiff, Nat.reduceAdd]
    have : ls ≠ ms := fun e => g (by rw [e])
    simp [this]
  · have hl : ls.length = ms.length := by omega
    refine LoopH.by (fun m s H' => ∃ i, m + i = ls.length ∧ s 0 = v ∧ s 1 = w ∧ s 5 = .int .i64 ((i : Nat) : Int) ∧ H = H' ∧ ls.take i = ms.take i) ls.length ?_ ?_
    · exact ⟨0, by simp, rfl, rfl, rfl, rfl, by simp⟩
    · rintro m s H' ⟨i, hm, h0, h1, h5, rfl, hn⟩
      simp (maxSteps := 1000000) (disch := omega) only [h0, h1, h5, hvl, S, S1, S2, S3, S4, S5, ST, eq_self, reduceIte, reduceCtorEq, Nat.reduceEqDiff, Nat.reduceAdd]
      refine brD.intro (fun g => ?_) (fun g => ?_) <;> simp (maxSteps := 1000000) (disch := omega) only [h0, h1, h5, hv.ix Try.underlying26 cs38, hv.cell, hw.ix Try.underlying26 cs38, hw.cell, Int.toNat_natCast, S, S1, S2, S3, S4, S5, ST, eq_self, reduceIte, reduceCtorEq, Nat.reduceEqDiff, Nat.reduceAdd]
      · have hi : i < ls.length := by omega
        have hg : ls.getD i [] = ls[i] := by simp [hi]
        have hg2 : ms.getD i [] = ms[i] := by simp [hl ▸ hi]
        have h1l := sizeL_take ls i hi
        have h2l := sizeL_le ls (i + 1)
        refine CallH.by (eqIntS_c _ _ _ _ H (hu i hi).1 (hwr i (by omega)).1 (by omega)) ?_
        rintro _ _ ⟨rfl, rfl⟩
        simp (maxSteps := 1000000) (disch := omega) only [S, S1, S2, S3, S4, S5, ST, eq_self, reduceIte, reduceCtorEq, Nat.reduceEqDiff, Nat.reduceAdd]
        refine brD.intro (fun e => ?_) (fun e => ?_) <;> simp (maxSteps := 1000000) (disch := omega) only [h0, h1, h5, wrap64, S, S1, S2, S3, S4, S5, ST, eq_self, reduceIte, reduceCtorEq, Nat.reduceEqDiff, Nat.reduceAdd]
        · have fx : ls.take (i + 1) = ms.take (i + 1) := by
            rw [List.take_add_one, List.take_add_one, hn, List.getElem?_eq_getElem hi, List.getElem?_eq_getElem (hl ▸ hi)]
            rw [hg, hg2] at e
            rw [e]
          refine ⟨m - 1, by omega, i + 1, ?_⟩
          (repeat' first | exact fx | apply And.intro) <;> first | (simp only [Value.int.injEq, true_and]; omega) | omega | rfl | assumption | (simp; done) | (simp; omega)
        · refine hQ _ _ _ ?_
          simp (maxSteps := 1000000) (disch := omega) only [S, S1, S2, S3, S4, S5, ST, eq_self, reduceIte, reduceCtorEq, Nat.reduceEqDiff, Nat.reduceAdd]
          have : ls ≠ ms := by
            intro e'
            subst e'
            exact e rfl
          simp [this]
      · refine hQ _ _ _ ?_
        simp (maxSteps := 1000000) (disch := omega) only [S, S1, S2, S3, S4, S5, ST, eq_self, reduceIte, reduceCtorEq, Nat.reduceEqDiff, Nat.reduceAdd]
        rw [List.take_of_length_le (by omega), List.take_of_length_le (by omega)] at hn
        simp [hn]
theorem heldIntSS_c (v : Value) (ls : List (List Int)) (k : Int) (H : AH) {b : Nat} (hr : RowLB b 38 3 H v (runL k ls)) (hlen : ls.length ≤ 1099511627776) (hsz : sizeL ls ≤ 1099511627776) (hk : 0 ≤ k ∧ k ≤ 1099511627776) :
    ACalls Try.prog 28 [v, .int .i64 k] H fun r H' => r = .int .i64 (k + sizeL ls) ∧ H = H' := by
  obtain ⟨us, hv, _, hul, hu⟩ := hr
  rw [runL_len] at hul hu
  have hvl := hv.len Try.underlying26
  rw [hul] at hvl
  refine in28 rfl ?_
  intro Q hQ
  simp (maxSteps := 1000000) (disch := omega) only [cd28, S, S1, S2, S3, S4, S5, ST, eq_self, reduceIte, reduceCtorEq, Nat.reduceEqDiff, Nat.reduceAdd]
  refine LoopH.by (fun m s H' => ∃ i, m + i = ls.length ∧ s 0 = v ∧ s 1 = .int .i64 (k + (sizeL (ls.take i) : Nat)) ∧ s 5 = .int .i64 ((i : Nat) : Int) ∧ H = H') ls.length ?_ ?_
  · exact ⟨0, by simp, rfl, by simp [S, S1, S2, S3, S4, S5, ST, eq_self, reduceIte, reduceCtorEq, Nat.reduceEqDiff, Nat.reduceAdd, sizeL], rfl, rfl⟩
  · rintro m s H' ⟨i, hm, h0, h1, h5, rfl⟩
    simp (maxSteps := 1000000) (disch := omega) only [h0, h1, h5, hvl, S, S1, S2, S3, S4, S5, ST, eq_self, reduceIte, reduceCtorEq, Nat.reduceEqDiff, Nat.reduceAdd]
    refine brD.intro (fun g => ?_) (fun g => ?_) <;> simp (maxSteps := 1000000) (disch := omega) only [h0, h1, h5, hv.ix Try.underlying26 cs38, hv.cell, Int.toNat_natCast, S, S1, S2, S3, S4, S5, ST, eq_self, reduceIte, reduceCtorEq, Nat.reduceEqDiff, Nat.reduceAdd]
    · have hi : i < ls.length := by omega
      have h1l := sizeL_take ls i hi
      have h2l := sizeL_le ls (i + 1)
      have hrow := (hu i hi).1
      rw [runL_at k ls i hi] at hrow
      refine CallH.by (heldIntS_c _ _ (k + (sizeL (ls.take i) : Nat)) H hrow (by rw [runI_len]; omega) (by omega) (by rw [runI_len])) ?_
      rintro _ _ ⟨rfl, rfl⟩
      simp (maxSteps := 1000000) (disch := omega) only [runI_len, S, S1, S2, S3, S4, S5, ST, eq_self, reduceIte, reduceCtorEq, Nat.reduceEqDiff, Nat.reduceAdd]
      refine brD.intro (fun h => absurd h (by omega)) (fun _ => ?_)
      simp (maxSteps := 1000000) (disch := omega) only [h0, h1, h5, wrap64, S, S1, S2, S3, S4, S5, ST, eq_self, reduceIte, reduceCtorEq, Nat.reduceEqDiff, Nat.reduceAdd]
      refine ⟨m - 1, by omega, i + 1, by omega, ?_⟩
      rw [h1l]
      (repeat' first | apply And.intro) <;> first | (simp only [Value.int.injEq, true_and]; omega) | omega | rfl | assumption | (simp; done) | (simp; omega)
    · refine hQ _ _ _ ?_
      simp (maxSteps := 1000000) (disch := omega) only [h1, S, S1, S2, S3, S4, S5, ST, eq_self, reduceIte, reduceCtorEq, Nat.reduceEqDiff, Nat.reduceAdd]
      have : ls.take i = ls := List.take_of_length_le (by omega)
      rw [this]
/-- the lists as far as i are marked -/
def mixL (k : Int) (ls : List (List Int)) (i : Nat) : List (List Int) := (runL k ls).take i ++ ls.drop i
theorem mixL_len (k : Int) (ls : List (List Int)) (i : Nat) : (mixL k ls i).length = ls.length := by
  unfold mixL
  simp [runL_len]; omega
theorem mixL_at (k : Int) (ls : List (List Int)) (i j : Nat) (hj : j < ls.length) : (mixL k ls i).getD j [] = if j < i then runI (k + sizeL (ls.take j)) (ls.getD j []).length else ls.getD j [] := by
  unfold mixL
  have hl : ((runL k ls).take i).length = min i ls.length := by simp [runL_len]
  by_cases h : j < i
  · rw [if_pos h, List.getD_eq_getElem?_getD, List.getElem?_append_left (by rw [hl]; omega), List.getElem?_take, if_pos h, ← List.getD_eq_getElem?_getD, runL_at k ls j hj]
  · rw [if_neg h, List.getD_eq_getElem?_getD, List.getElem?_append_right (by rw [hl]; omega), hl, List.getElem?_drop, ← List.getD_eq_getElem?_getD]
    congr 1; omega
set_option maxHeartbeats 1000000 in
theorem markIntSS_B (v : Value) (ls : List (List Int)) (k : Int) (lo hi : Nat) (H : AH) (h : InL lo hi 38 3 H v ls) (hlen : ls.length ≤ 1099511627776) (hsz : sizeL ls ≤ 1099511627776) (hk : 0 ≤ k ∧ k ≤ 1099511627776) :
    ACalls Try.prog 27 [v, .int .i64 k] H fun r H' => r = .int .i64 (k + sizeL ls) ∧ InL lo hi 38 3 H' v (runL k ls) ∧ ElseR lo hi H H' := by
  refine in27 rfl ?_
  intro Q hQ
  rcases h with ⟨rfl, rfl⟩ | ⟨o, us, rfl, hin⟩
  · simp (maxSteps := 1000000) (disch := omega) only [cd27, S, S1, S2, S3, S4, S5, ST, eq_self, reduceIte, reduceCtorEq, Nat.reduceEqDiff, Nat.reduceAdd]
    refine LoopH.by (fun m s H' => s 0 = .slice none 0 0 ∧ s 1 = .int .i64 k ∧ s 5 = .int .i64 0 ∧ H = H') 0 ?_ ?_
    · exact ⟨rfl, rfl, rfl, rfl⟩
    · rintro m s H' ⟨h0, h1, h5, rfl⟩
      simp (maxSteps := 1000000) (disch := omega) only [h0, h1, h5, S, S1, S2, S3, S4, S5, ST, eq_self, reduceIte, reduceCtorEq, Nat.reduceEqDiff, Nat.reduceAdd]
      refine brD.intro (fun g => absurd g (by decide)) (fun g => ?_)
      simp (maxSteps := 1000000) (disch := omega) only [h1, S, S1, S2, S3, S4, S5, ST, eq_self, reduceIte, reduceCtorEq, Nat.reduceEqDiff, Nat.reduceAdd]
      refine hQ _ _ _ ?_
      simp (maxSteps := 1000000) (disch := omega) only [h1, S, S1, S2, S3, S4, S5, ST, eq_self, reduceIte, reduceCtorEq, Nat.reduceEqDiff, Nat.reduceAdd]
      exact ⟨by simp [sizeL], .inl ⟨rfl, rfl⟩, ElseR.refl _ _ _⟩
  · simp (maxSteps := 1000000) (disch := omega) only [cd27, S, S1, S2, S3, S4, S5, ST, eq_self, reduceIte, reduceCtorEq, Nat.reduceEqDiff, Nat.reduceAdd]
    refine LoopH.by (fun m s H' => ∃ i, m + i = ls.length ∧ s 0 = .slice (some ⟨o, 0, none⟩) ls.length ls.length ∧ s 1 = .int .i64 (k + (sizeL (ls.take i) : Nat)) ∧ s 5 = .int .i64 ((i : Nat) : Int) ∧ InU lo hi 38 3 H' o us (mixL k ls i) ∧ ElseR lo hi H H') ls.length ?_ ?_
    · refine ⟨0, by simp, rfl, by simp [S, S1, S2, S3, S4, S5, ST, eq_self, reduceIte, reduceCtorEq, Nat.reduceEqDiff, Nat.reduceAdd, sizeL], rfl, ?_, ElseR.refl _ _ _⟩
      have : mixL k ls 0 = ls := by simp [mixL]
      rw [this]; exact hin
    · rintro m s H' ⟨i, hm, h0, h1, h5, hin', hel⟩
      have hrow := hin'.row
      rw [mixL_len] at hrow
      obtain ⟨ws, hv, _, hul, hu⟩ := hrow
      rw [mixL_len] at hul
      simp (maxSteps := 1000000) (disch := omega) only [h0, h1, h5, S, S1, S2, S3, S4, S5, ST, eq_self, reduceIte, reduceCtorEq, Nat.reduceEqDiff, Nat.reduceAdd]
      refine brD.intro (fun g => ?_) (fun g => ?_)
      · have hi' : i < ls.length := by omega
        have h1l := sizeL_take ls i hi'
        have h2l := sizeL_le ls (i + 1)
        obtain ⟨q1, q2, q3, q4, q5, q6⟩ := hin'
        rw [mixL_len] at q4 q5 q6
        have hcell : cellA H' o i = some (us.getD i undef) := by
          rw [cell_of q3, List.getD_eq_getElem?_getD, List.getElem?_eq_getElem (by omega)]; rfl
        obtain ⟨r1, r2⟩ := q5 i hi'
        rw [mixL_at k ls i i hi', if_neg (Nat.lt_irrefl _)] at r1
        simp (maxSteps := 1000000) (disch := omega) only [h0, h1, h5, hcell, Int.toNat_natCast, Nat.zero_add, S, S1, S2, S3, S4, S5, ST, eq_self, reduceIte, reduceCtorEq, Nat.reduceEqDiff, Nat.reduceAdd]
        have mk := markIntS_B (us.getD i undef) (ls.getD i []) (k + (sizeL (ls.take i) : Nat)) lo hi H' r1 (by omega) (by omega)
        have mk2 := markIntS_c (us.getD i undef) (ls.getD i []) (k + (sizeL (ls.take i) : Nat)) (List.replicate lo AObj.dead) H' (by
          rcases r1 with h | ⟨o', zs, h1, h2, h3, h4, h5⟩
          · exact .inl h
          · exact .inr ⟨o', zs, h1, by simpa using h2, h4, h5⟩) (by omega) (by omega)
        refine CallH.by mk2 ?_
        rintro _ H2 ⟨rfl, hmine, hels⟩
        simp (maxSteps := 1000000) (disch := omega) only [h0, h1, h5, wrap64, S, S1, S2, S3, S4, S5, ST, eq_self, reduceIte, reduceCtorEq, Nat.reduceEqDiff, Nat.reduceAdd]
        have keepo : H2[o]? = some (.cells us 38 false) := by
          refine hels.2 o _ ?_ q3
          rcases r2 with g | g
          · exact .inl g
          · exact .inr (fun e => g e.symm)
        have fel : ElseR lo hi H H2 := by
          refine hel.trans ⟨hels.1, fun j x hj hx => hels.2 j x ?_ hx⟩
          rcases r1.at_ with g | g
          · exact .inl g
          · exact .inr (by omega)
        have r1' : InI lo hi 3 H2 (us.getD i undef) (runI (k + (sizeL (ls.take i) : Nat)) (ls.getD i []).length) := by
          rcases r1 with ⟨g1, g2⟩ | ⟨o', zs, g1, g2, g3, g4, g5⟩
          · rw [g2]; exact .inl ⟨g1, rfl⟩
          · rcases hmine with ⟨f1, f2⟩ | ⟨o2, zs2, f1, f2, f3, f4⟩
            · rw [g1] at f1; cases f1
            · have e : o2 = o' := by
                rw [g1] at f1
                simp only [Value.slice.injEq, Option.some.injEq, Addr.mk.injEq] at f1
                exact f1.1.1.symm
              subst e
              exact .inr ⟨o2, zs2, f1, g2, g3, f3, f4⟩
        have fin : InU lo hi 38 3 H2 o us (mixL k ls (i + 1)) := by
          refine ⟨q1, q2, keepo, by rw [mixL_len]; exact q4, fun j hj => ?_, fun a b hab ha hb => q6 a b hab (by rw [mixL_len] at ha; exact ha) (by rw [mixL_len] at hb; exact hb)⟩
          rw [mixL_len] at hj
          obtain ⟨w1, w2⟩ := q5 j hj
          refine ⟨?_, w2⟩
          rw [mixL_at k ls i j hj] at w1
          rw [mixL_at k ls (i + 1) j hj]
          by_cases e : j = i
          · subst e; rw [if_pos (by omega)]; exact r1'
          · have : (if j < i then runI (k + sizeL (ls.take j)) (ls.getD j []).length else ls.getD j []) = (if j < i + 1 then runI (k + sizeL (ls.take j)) (ls.getD j []).length else ls.getD j []) := by
              by_cases c : j < i
              · rw [if_pos c, if_pos (by omega)]
              · rw [if_neg c, if_neg (by omega)]
            rw [← this]
            refine w1.move fun y hn hy => hels.2 _ _ ?_ hy
            rcases q6 j i e hj hi' with g | g | g
            · exact .inl g
            · exact absurd g hn
            · exact .inr g
        refine ⟨m - 1, by omega, i + 1, by omega, ?_⟩
        rw [h1l]
        (repeat' first | exact fin | exact fel | apply And.intro) <;> first | (simp only [Value.int.injEq, true_and]; omega) | omega | rfl | assumption | (simp; done) | (simp; omega)
      · simp (maxSteps := 1000000) (disch := omega) only [h1, S, S1, S2, S3, S4, S5, ST, eq_self, reduceIte, reduceCtorEq, Nat.reduceEqDiff, Nat.reduceAdd]
        refine hQ _ _ _ ?_
        simp (maxSteps := 1000000) (disch := omega) only [h1, S, S1, S2, S3, S4, S5, ST, eq_self, reduceIte, reduceCtorEq, Nat.reduceEqDiff, Nat.reduceAdd]
        have e1 : ls.take i = ls := List.take_of_length_le (by omega)
        have e2 : mixL k ls i = runL k ls := by
          unfold mixL
          rw [List.take_of_length_le (by rw [runL_len]; omega), List.drop_of_length_le (by omega), List.append_nil]
        rw [e2] at hin'
        rw [e1]
        exact ⟨rfl, by have := hin'.inl; rw [runL_len] at this; exact .inr ⟨o, us, by rw [runL_len], hin'⟩, hel⟩
end Go.Proofs.Ytlfongfhbkefmaa.Ai
namespace Go.Proofs.Ytlfongfhbkefmaa.Ai
open Go
def ords16 : List (Nat × List (Nat × Bool)) := []
def cd16 : Cd := (.seq (.reg [⟨⟨some 2, Op.box 28 (Operand.tmp 0), none⟩, []⟩,
  ⟨⟨some 3, Op.box 28 (Operand.tmp 1), none⟩, []⟩,
  ⟨⟨some 4, Op.assign (Operand.const (Value.bool false)), none⟩, []⟩]) (.seq (.seq (.reg [⟨⟨some 5, Op.fieldAddr 28 (Operand.tmp 2) 0, none⟩, []⟩,
  ⟨⟨some 6, Op.load 26 (Operand.tmp 5), none⟩, []⟩,
  ⟨⟨some 7, Op.fieldAddr 28 (Operand.tmp 3) 0, none⟩, []⟩,
  ⟨⟨some 8, Op.load 26 (Operand.tmp 7), none⟩, []⟩,
  ⟨⟨some 9, Op.call { callee := (Callee.value (Operand.func 24)), args := #[(Operand.tmp 6), (Operand.tmp 8)], argTypes := #[26, 26] }, none⟩, []⟩,
  ⟨⟨some 10, Op.unOp UnOp.not 4 (Operand.tmp 9), none⟩, []⟩]) (.cond (Operand.tmp 10) (.seq (.reg [⟨⟨some 4, Op.assign (Operand.const (Value.bool false)), none⟩, []⟩]) .ret) .skip)) (.seq (.seq (.reg [⟨⟨some 11, Op.fieldAddr 28 (Operand.tmp 2) 1, none⟩, []⟩,
  ⟨⟨some 12, Op.load 22 (Operand.tmp 11), none⟩, []⟩,
  ⟨⟨some 13, Op.fieldAddr 28 (Operand.tmp 3) 1, none⟩, []⟩,
  ⟨⟨some 14, Op.load 22 (Operand.tmp 13), none⟩, []⟩,
  ⟨⟨some 15, Op.call { callee := (Callee.value (Operand.func 77)), args := #[(Operand.tmp 12), (Operand.tmp 14)], argTypes := #[22, 22] }, none⟩, []⟩,
  ⟨⟨some 16, Op.unOp UnOp.not 4 (Operand.tmp 15), none⟩, []⟩]) (.cond (Operand.tmp 16) (.seq (.reg [⟨⟨some 4, Op.assign (Operand.const (Value.bool false)), none⟩, []⟩]) .ret) .skip)) (.seq (.reg [⟨⟨some 4, Op.assign (Operand.const (Value.bool true)), none⟩, []⟩]) .ret))))
theorem sl16 : slim Try.f16.ntmps ords16 (Try.f16.body.getD .skip) = some cd16 := by kernel_rfl
theorem in16 {args : List Value} {H : AH} {R : Value → AH → Prop} (hl : args.length = 2) (h : ∀ (Q : Exit → Sl → AH → Prop), (∀ e s H, endA Try.prog [ResultVar.tmp 4] R e s H → Q e s H) → wpC Try.prog cd16 Q (enterA args) H) : ACalls Try.prog 16 args H R :=
  ACalls.intro (by kernel_rfl) Try.func16 rfl (by kernel_rfl) sl16 hl (of_decide_eq_true (by kernel_rfl)) (by kernel_rfl) h
def ords19 : List (Nat × List (Nat × Bool)) := []
def cd19 : Cd := (.seq (.reg [⟨⟨some 2, Op.box 28 (Operand.tmp 0), none⟩, []⟩,
  ⟨⟨some 4, Op.assign (Operand.const (Value.int IntKind.i64 0)), none⟩, []⟩]) (.seq (.reg [⟨⟨some 5, Op.fieldAddr 28 (Operand.tmp 2) 0, none⟩, []⟩,
  ⟨⟨some 6, Op.load 26 (Operand.tmp 5), none⟩, []⟩,
  ⟨⟨some 7, Op.move (Operand.tmp 1), none⟩, []⟩,
  ⟨⟨some 8, Op.call { callee := (Callee.value (Operand.func 27)), args := #[(Operand.tmp 6), (Operand.tmp 7)], argTypes := #[26, 3] }, none⟩, []⟩,
  ⟨⟨some 1, Op.assign (Operand.tmp 8), none⟩, []⟩]) (.seq (.reg [⟨⟨some 9, Op.fieldAddr 28 (Operand.tmp 2) 1, none⟩, []⟩,
  ⟨⟨some 10, Op.load 22 (Operand.tmp 9), none⟩, []⟩,
  ⟨⟨some 11, Op.move (Operand.tmp 1), none⟩, []⟩,
  ⟨⟨some 12, Op.call { callee := (Callee.value (Operand.func 78)), args := #[(Operand.tmp 10), (Operand.tmp 11)], argTypes := #[22, 3] }, none⟩, []⟩,
  ⟨⟨some 1, Op.assign (Operand.tmp 12), none⟩, []⟩]) (.seq (.reg [⟨⟨some 13, Op.move (Operand.tmp 1), none⟩, []⟩,
  ⟨⟨some 4, Op.assign (Operand.tmp 13), none⟩, []⟩]) .ret))))
theorem sl19 : slim Try.f19.ntmps ords19 (Try.f19.body.getD .skip) = some cd19 := by kernel_rfl
theorem in19 {args : List Value} {H : AH} {R : Value → AH → Prop} (hl : args.length = 2) (h : ∀ (Q : Exit → Sl → AH → Prop), (∀ e s H, endA Try.prog [ResultVar.tmp 4] R e s H → Q e s H) → wpC Try.prog cd19 Q (enterA args) H) : ACalls Try.prog 19 args H R :=
  ACalls.intro (by kernel_rfl) Try.func19 rfl (by kernel_rfl) sl19 hl (of_decide_eq_true (by kernel_rfl)) (by kernel_rfl) h
def ords20 : List (Nat × List (Nat × Bool)) := []
def cd20 : Cd := (.seq (.reg [⟨⟨some 2, Op.box 28 (Operand.tmp 0), none⟩, []⟩,
  ⟨⟨some 4, Op.assign (Operand.const (Value.int IntKind.i64 0)), none⟩, []⟩]) (.seq (.reg [⟨⟨some 5, Op.fieldAddr 28 (Operand.tmp 2) 0, none⟩, []⟩,
  ⟨⟨some 6, Op.load 26 (Operand.tmp 5), none⟩, []⟩,
  ⟨⟨some 7, Op.move (Operand.tmp 1), none⟩, []⟩,
  ⟨⟨some 8, Op.call { callee := (Callee.value (Operand.func 28)), args := #[(Operand.tmp 6), (Operand.tmp 7)], argTypes := #[26, 3] }, none⟩, []⟩,
  ⟨⟨some 1, Op.assign (Operand.tmp 8), none⟩, []⟩]) (.seq (.seq (.reg [⟨⟨some 9, Op.move (Operand.tmp 1), none⟩, []⟩,
  ⟨⟨some 10, Op.binOp BinOp.lss 3 (Operand.tmp 9) (Operand.const (Value.int IntKind.i64 0)) 3, none⟩, []⟩]) (.cond (Operand.tmp 10) (.seq (.reg [⟨⟨some 4, Op.assign (Operand.const (Value.int IntKind.i64 (-1))), none⟩, []⟩]) .ret) .skip)) (.seq (.reg [⟨⟨some 11, Op.fieldAddr 28 (Operand.tmp 2) 1, none⟩, []⟩,
  ⟨⟨some 12, Op.load 22 (Operand.tmp 11), none⟩, []⟩,
  ⟨⟨some 13, Op.move (Operand.tmp 1), none⟩, []⟩,
  ⟨⟨some 14, Op.call { callee := (Callee.value (Operand.func 79)), args := #[(Operand.tmp 12), (Operand.tmp 13)], argTypes := #[22, 3] }, none⟩, []⟩,
  ⟨⟨some 1, Op.assign (Operand.tmp 14), none⟩, []⟩]) (.seq (.seq (.reg [⟨⟨some 15, Op.move (Operand.tmp 1), none⟩, []⟩,
  ⟨⟨some 16, Op.binOp BinOp.lss 3 (Operand.tmp 15) (Operand.const (Value.int IntKind.i64 0)) 3, none⟩, []⟩]) (.cond (Operand.tmp 16) (.seq (.reg [⟨⟨some 4, Op.assign (Operand.const (Value.int IntKind.i64 (-1))), none⟩, []⟩]) .ret) .skip)) (.seq (.reg [⟨⟨some 17, Op.move (Operand.tmp 1), none⟩, []⟩,
  ⟨⟨some 4, Op.assign (Operand.tmp 17), none⟩, []⟩]) .ret))))))
theorem sl20 : slim Try.f20.ntmps ords20 (Try.f20.body.getD .skip) = some cd20 := by kernel_rfl
theorem in20 {args : List Value} {H : AH} {R : Value → AH → Prop} (hl : args.length = 2) (h : ∀ (Q : Exit → Sl → AH → Prop), (∀ e s H, endA Try.prog [ResultVar.tmp 4] R e s H → Q e s H) → wpC Try.prog cd20 Q (enterA args) H) : ACalls Try.prog 20 args H R :=
  ACalls.intro (by kernel_rfl) Try.func20 rfl (by kernel_rfl) sl20 hl (of_decide_eq_true (by kernel_rfl)) (by kernel_rfl) h
end Go.Proofs.Ytlfongfhbkefmaa.Ai
namespace Go.Proofs.Ytlfongfhbkefmaa.Ai
open Go Go.RowKit
set_option linter.unusedVariables false
set_option linter.unusedSimpArgs false
/-- a space's two lists in memory -/
def SpRow (H : AH) (a b : Value) (ls : List (List Int)) (ps : List (Int × Int)) : Prop := (∃ bd, RowLB bd 38 3 H a ls) ∧ RowP 81 H b ps
/-- .. of one's own: the states below mid, the steps from mid on -/
def SpIn (lo hi : Nat) (H : AH) (a b : Value) (ls : List (List Int)) (ps : List (Int × Int)) : Prop := ∃ mid, lo ≤ mid ∧ mid ≤ hi ∧ InL lo mid 38 3 H a ls ∧ InP mid hi 81 H b ps
theorem SpIn.row {lo hi : Nat} {H : AH} {a b : Value} {ls : List (List Int)} {ps : List (Int × Int)} (h : SpIn lo hi H a b ls ps) : SpRow H a b ls ps := by
  obtain ⟨mid, h1, h2, h3, h4⟩ := h
  exact ⟨⟨_, h3.row⟩, h4.row.1⟩
theorem SpIn.pre {lo hi : Nat} {H H' : AH} {a b : Value} {ls : List (List Int)} {ps : List (Int × Int)} (h : SpIn lo hi H a b ls ps) (hp : H <+: H') : SpIn lo hi H' a b ls ps := by
  obtain ⟨mid, h1, h2, h3, h4⟩ := h
  exact ⟨mid, h1, h2, h3.pre hp, h4.pre hp⟩
theorem SpIn.keep {lo hi lo' hi' : Nat} {H H' : AH} {a b : Value} {ls : List (List Int)} {ps : List (Int × Int)} (h : SpIn lo hi H a b ls ps) (he : ElseR lo' hi' H H') (hl : hi ≤ lo' ∨ hi' ≤ lo) : SpIn lo hi H' a b ls ps := by
  obtain ⟨mid, h1, h2, h3, h4⟩ := h
  exact ⟨mid, h1, h2, h3.keep he (by omega), h4.keep he (by omega)⟩
theorem SpRow.pre {H H' : AH} {a b : Value} {ls : List (List Int)} {ps : List (Int × Int)} (h : SpRow H a b ls ps) (hp : H <+: H') : SpRow H' a b ls ps := ⟨h.1.imp fun _ q => q.pre hp, h.2.pre hp⟩
theorem SpRow.shape {H : AH} {a b : Value} {ls : List (List Int)} {ps : List (Int × Int)} (h : SpRow H a b ls ps) : (∃ p n c, a = .slice p n c) ∧ ∃ p n c, b = .slice p n c := by
  obtain ⟨⟨bd, us, h1, _⟩, h2⟩ := h
  obtain ⟨p, e⟩ := h1.shape
  obtain ⟨q, e2⟩ := h2.shape
  exact ⟨⟨_, _, _, e⟩, ⟨_, _, _, e2⟩⟩
theorem SpRow.box {H G : AH} {a b : Value} {ls : List (List Int)} {ps : List (Int × Int)} (h : SpRow G a b ls ps) : boxA Try.prog 28 (.agg (List.toArray [a, b])) H = some (.pointer (some ⟨H.length, 0, none⟩), H ++ [.cells [a, b] 28 false]) := by
  obtain ⟨⟨p, n, c, rfl⟩, ⟨q, m, d, rfl⟩⟩ := h.shape
  kernel_rfl
theorem SpRow.store {e : TypeId} {H G : AH} {o : Nat} {vs : List Value} {a b : Value} {ls : List (List Int)} {ps : List (Int × Int)} (h : SpRow G a b ls ps) (ho : H[o]? = some (.cells vs e false)) (hv : vs.length = 2) :
    storeA Try.prog 28 (.pointer (some ⟨o, 0, none⟩)) (.agg (List.toArray [a, b])) H = some (H.set o (.cells [a, b] e false)) := by
  obtain ⟨⟨p, n, c, rfl⟩, ⟨q, m, d, rfl⟩⟩ := h.shape
  exact st_ss ho hv p q n c m d
theorem eqSpace_c (a b c d : Value) (ls ms : List (List Int)) (ps qs : List (Int × Int)) (H : AH) (hr : SpRow H a b ls ps) (hr2 : SpRow H c d ms qs) (hl : ls.length ≤ 1099511627776) (hs : sizeL ls ≤ 1099511627776) (hp : ps.length ≤ 1099511627776) :
    ACalls Try.prog 16 [.agg (List.toArray [a, b]), .agg (List.toArray [c, d])] H fun r H' => r = .bool (decide (ls = ms ∧ ps = qs)) ∧ H <+: H' := by
  refine in16 rfl ?_
  intro Q hQ
  simp (maxSteps := 1000000) (disch := omega) only [cd16, hr.box, hr2.box, S, S1, S2, S3, S4, S5, ST, eq_self, reduceIte, reduceCtorEq, Nat.reduceEqDiff, Nat.reduceAdd]
  generalize hA : H ++ [AObj.cells [a, b] 28 false] = A
  have pA : H <+: A := by rw [← hA]; exact List.prefix_append _ _
  have a0 : A[H.length]? = some (.cells [a, b] 28 false) := by rw [← hA]; exact at_new ..
  generalize hB : A ++ [AObj.cells [c, d] 28 false] = B
  have pB : A <+: B := by rw [← hB]; exact List.prefix_append _ _
  have b0 := pre_at pB a0
  have b1 : B[A.length]? = some (.cells [c, d] 28 false) := by rw [← hB]; exact at_new ..
  have pHB := pA.trans pB
  obtain ⟨⟨bd, r1⟩, r2⟩ := hr.pre pHB
  obtain ⟨⟨bd2, r3⟩, r4⟩ := hr2.pre pHB
  simp (maxSteps := 1000000) (disch := omega) only [cell_of b0, cell_of b1, S, S1, S2, S3, S4, S5, ST, eq_self, reduceIte, reduceCtorEq, Nat.reduceEqDiff, Nat.reduceAdd]
  refine CallH.by (eqIntSS_c a c ls ms B r1 r3 hl hs) ?_
  rintro _ _ ⟨rfl, rfl⟩
  simp (maxSteps := 1000000) (disch := omega) only [S, S1, S2, S3, S4, S5, ST, eq_self, reduceIte, reduceCtorEq, Nat.reduceEqDiff, Nat.reduceAdd]
  refine brD.intro (fun g => ?_) (fun g => ?_) <;> simp (maxSteps := 1000000) (disch := omega) only [g, cell_of b0, cell_of b1, S, S1, S2, S3, S4, S5, ST, eq_self, reduceIte, reduceCtorEq, Nat.reduceEqDiff, Nat.reduceAdd]
  · refine CallH.by (eqIntA2S_c b d ps qs B r2 r4 hp) ?_
    rintro _ C ⟨rfl, pC⟩
    have pHC := pHB.trans pC
    simp (maxSteps := 1000000) (disch := omega) only [S, S1, S2, S3, S4, S5, ST, eq_self, reduceIte, reduceCtorEq, Nat.reduceEqDiff, Nat.reduceAdd]
    refine brD.intro (fun e => ?_) (fun e => ?_) <;> simp (maxSteps := 1000000) (disch := omega) only [e, S, S1, S2, S3, S4, S5, ST, eq_self, reduceIte, reduceCtorEq, Nat.reduceEqDiff, Nat.reduceAdd]
    · refine hQ _ _ _ ?_
      simp (maxSteps := 1000000) (disch := omega) only [S, S1, S2, S3, S4, S5, ST, eq_self, reduceIte, reduceCtorEq, Nat.reduceEqDiff, Nat.reduceAdd]
      exact ⟨by rw [decide_eq_true ⟨g, e⟩], pHC⟩
    · refine hQ _ _ _ ?_
      simp (maxSteps := 1000000) (disch := omega) only [S, S1, S2, S3, S4, S5, ST, eq_self, reduceIte, reduceCtorEq, Nat.reduceEqDiff, Nat.reduceAdd]
      exact ⟨by rw [decide_eq_false (fun h => e h.2)], pHC⟩
  · refine hQ _ _ _ ?_
    simp (maxSteps := 1000000) (disch := omega) only [S, S1, S2, S3, S4, S5, ST, eq_self, reduceIte, reduceCtorEq, Nat.reduceEqDiff, Nat.reduceAdd]
    exact ⟨by rw [decide_eq_false (fun h => g h.1)], pHB⟩
theorem markSpace_B (a b : Value) (ls : List (List Int)) (ps : List (Int × Int)) (k : Int) (lo hi : Nat) (H : AH) (h : SpIn lo hi H a b ls ps) (hl : ls.length ≤ 1099511627776) (hs : sizeL ls ≤ 549755813888) (hp : ps.length ≤ 1099511627776) (hk : 0 ≤ k ∧ k ≤ 1000000) (hb : hi ≤ H.length) :
    ACalls Try.prog 19 [.agg (List.toArray [a, b]), .int .i64 k] H fun r H' => r = .int .i64 (k + sizeL ls + 2 * ps.length) ∧ ∃ Hm, SpIn lo hi Hm a b (runL k ls) (runP (k + sizeL ls) ps.length) ∧ ElseR lo hi H Hm ∧ Hm <+: H' := by
  refine in19 rfl ?_
  intro Q hQ
  have hrow := h.row
  simp (maxSteps := 1000000) (disch := omega) only [cd19, hrow.box, cell_new, S, S1, S2, S3, S4, S5, ST, eq_self, reduceIte, reduceCtorEq, Nat.reduceEqDiff, Nat.reduceAdd]
  generalize hA : H ++ [AObj.cells [a, b] 28 false] = A
  have pA : H <+: A := by rw [← hA]; exact List.prefix_append _ _
  have cA : A[H.length]? = some (.cells [a, b] 28 false) := by rw [← hA]; exact at_new ..
  have lA : A.length = H.length + 1 := by rw [← hA]; simp
  obtain ⟨mid, m1, m2, m3, m4⟩ := h.pre pA
  refine CallH.by (markIntSS_B a ls k lo mid A m3 hl (by omega) (by omega)) ?_
  rintro _ B ⟨rfl, m5, e1⟩
  have m6 := m4.keep e1 (.inr (Nat.le_refl _))
  have cB := e1.2 _ _ (.inr (by omega)) cA
  simp (maxSteps := 1000000) (disch := omega) only [cell_of cB, S, S1, S2, S3, S4, S5, ST, eq_self, reduceIte, reduceCtorEq, Nat.reduceEqDiff, Nat.reduceAdd]
  refine CallH.by (markIntA2S_B b ps (k + sizeL ls) mid hi B m6 hp (by omega)) ?_
  rintro _ C ⟨rfl, m7, e2⟩
  have m8 := m5.keep e2 (.inl (Nat.le_refl _))
  simp (maxSteps := 1000000) (disch := omega) only [S, S1, S2, S3, S4, S5, ST, eq_self, reduceIte, reduceCtorEq, Nat.reduceEqDiff, Nat.reduceAdd]
  refine hQ _ _ _ ?_
  simp (maxSteps := 1000000) (disch := omega) only [S, S1, S2, S3, S4, S5, ST, eq_self, reduceIte, reduceCtorEq, Nat.reduceEqDiff, Nat.reduceAdd]
  have eAll : ElseR lo hi A C := ⟨e2.1.trans e1.1, fun o x ho hx => e2.2 o x (by omega) (e1.2 o x (by omega) hx)⟩
  have hC : ∀ o, o < H.length → (C.take H.length)[o]? = C[o]? := fun o ho => List.getElem?_take_of_lt ho
  refine ⟨C.take H.length, ⟨mid, m1, m2, ?_, ?_⟩, ⟨?_, ?_⟩, List.take_prefix _ _⟩
  · rcases m8 with q | ⟨o, us, q1, q2⟩
    · exact .inl q
    · exact .inr ⟨o, us, q1, q2.move fun j y hj1 hj2 hy => by rw [hC j (by omega)]; exact hy⟩
  · rcases m7 with q | ⟨o, zs, q1, q2, q3, q4, q5⟩
    · exact .inl q
    · exact .inr ⟨o, zs, q1, q2, q3, by rw [hC o (by omega)]; exact q4, q5⟩
  · have := eAll.1
    rw [List.length_take]; omega
  · intro o x ho hx
    rw [hC o (at_lt hx)]
    exact eAll.2 o x ho (pre_at pA hx)
theorem heldSpace_c (a b : Value) (ls : List (List Int)) (n : Nat) (k : Int) (H : AH) (h : SpRow H a b (runL k ls) (runP (k + sizeL ls) n)) (hl : ls.length ≤ 1099511627776) (hs : sizeL ls ≤ 549755813888) (hn : n ≤ 1099511627776) (hk : 0 ≤ k ∧ k ≤ 1000000) :
    ACalls Try.prog 20 [.agg (List.toArray [a, b]), .int .i64 k] H fun r H' => r = .int .i64 (k + sizeL ls + 2 * n) ∧ H <+: H' := by
  refine in20 rfl ?_
  intro Q hQ
  simp (maxSteps := 1000000) (disch := omega) only [cd20, h.box, cell_new, S, S1, S2, S3, S4, S5, ST, eq_self, reduceIte, reduceCtorEq, Nat.reduceEqDiff, Nat.reduceAdd]
  generalize hA : H ++ [AObj.cells [a, b] 28 false] = A
  have pA : H <+: A := by rw [← hA]; exact List.prefix_append _ _
  have cA : A[H.length]? = some (.cells [a, b] 28 false) := by rw [← hA]; exact at_new ..
  obtain ⟨⟨bd, r1⟩, r2⟩ := h.pre pA
  refine CallH.by (heldIntSS_c a ls k A r1 hl (by omega) (by omega)) ?_
  rintro _ _ ⟨rfl, rfl⟩
  simp (maxSteps := 1000000) (disch := omega) only [S, S1, S2, S3, S4, S5, ST, eq_self, reduceIte, reduceCtorEq, Nat.reduceEqDiff, Nat.reduceAdd]
  refine brD.intro (fun g => absurd g (by omega)) (fun g => ?_)
  simp (maxSteps := 1000000) (disch := omega) only [cell_of cA, S, S1, S2, S3, S4, S5, ST, eq_self, reduceIte, reduceCtorEq, Nat.reduceEqDiff, Nat.reduceAdd]
  refine CallH.by (heldIntA2S_c b n (k + sizeL ls) A r2 hn (by omega)) ?_
  rintro _ _ ⟨rfl, rfl⟩
  simp (maxSteps := 1000000) (disch := omega) only [S, S1, S2, S3, S4, S5, ST, eq_self, reduceIte, reduceCtorEq, Nat.reduceEqDiff, Nat.reduceAdd]
  refine brD.intro (fun g => absurd g (by omega)) (fun g => ?_)
  simp (maxSteps := 1000000) (disch := omega) only [S, S1, S2, S3, S4, S5, ST, eq_self, reduceIte, reduceCtorEq, Nat.reduceEqDiff, Nat.reduceAdd]
  refine hQ _ _ _ ?_
  simp (maxSteps := 1000000) (disch := omega) only [S, S1, S2, S3, S4, S5, ST, eq_self, reduceIte, reduceCtorEq, Nat.reduceEqDiff, Nat.reduceAdd]
  exact pA
end Go.Proofs.Ytlfongfhbkefmaa.Ai
namespace Go.Proofs.Ytlfongfhbkefmaa.Ai
open Go
def ords74 : List (Nat × List (Nat × Bool)) := []
def cd74 : Cd := (.seq (.reg [⟨⟨some 1, Op.box 28 (Operand.tmp 0), none⟩, []⟩,
  ⟨⟨some 2, Op.alloc 28, none⟩, []⟩,
  ⟨⟨some 3, Op.assign (Operand.const (Value.bool false)), none⟩, []⟩]) (.seq (.seq (.reg [⟨⟨some 4, Op.fieldAddr 28 (Operand.tmp 1) 0, none⟩, []⟩,
  ⟨⟨some 5, Op.load 26 (Operand.tmp 4), none⟩, []⟩,
  ⟨⟨some 6, Op.call { callee := (Callee.builtin Builtin.len), args := #[(Operand.tmp 5)], argTypes := #[26] }, none⟩, []⟩,
  ⟨⟨some 7, Op.binOp BinOp.gtr 3 (Operand.tmp 6) (Operand.const (Value.int IntKind.i64 300)) 3, none⟩, []⟩,
  ⟨⟨some 8, Op.move (Operand.tmp 7), none⟩, []⟩,
  ⟨⟨some 9, Op.fieldAddr 28 (Operand.tmp 1) 1, some (8, false)⟩, []⟩,
  ⟨⟨some 10, Op.load 22 (Operand.tmp 9), some (8, false)⟩, []⟩,
  ⟨⟨some 11, Op.call { callee := (Callee.builtin Builtin.len), args := #[(Operand.tmp 10)], argTypes := #[22] }, some (8, false)⟩, []⟩,
  ⟨⟨some 12, Op.binOp BinOp.gtr 3 (Operand.tmp 11) (Operand.const (Value.int IntKind.i64 6000)) 3, some (8, false)⟩, []⟩,
  ⟨⟨some 13, Op.pick (Operand.tmp 8) (Operand.const (Value.bool true)) (Operand.tmp 12), none⟩, []⟩]) (.cond (Operand.tmp 13) (.seq (.reg [⟨⟨some 14, Op.build 28 #[], none⟩, []⟩,
  ⟨⟨none, Op.store 28 (Operand.tmp 2) (Operand.tmp 14), none⟩, []⟩,
  ⟨⟨some 3, Op.assign (Operand.const (Value.bool false)), none⟩, []⟩]) .ret) .skip)) (.seq (.reg [⟨⟨some 15, Op.load 28 (Operand.tmp 1), none⟩, []⟩,
  ⟨⟨none, Op.store 28 (Operand.tmp 2) (Operand.tmp 15), none⟩, []⟩,
  ⟨⟨some 3, Op.assign (Operand.const (Value.bool true)), none⟩, []⟩]) .ret)))
theorem sl74 : slim Try.f74.ntmps ords74 (Try.f74.body.getD .skip) = some cd74 := by kernel_rfl
set_option maxRecDepth 20000 in
theorem in74 {args : List Value} {H : AH} {R : Value → AH → Prop} (hl : args.length = 1) (h : ∀ (Q : Exit → Sl → AH → Prop), (∀ e s H, endA Try.prog [ResultVar.cell 2 28, ResultVar.tmp 3] R e s H → Q e s H) → wpC Try.prog cd74 Q (enterA args) H) : ACalls Try.prog 74 args H R :=
  ACalls.intro (by kernel_rfl) Try.func74 rfl (by kernel_rfl) sl74 hl (of_decide_eq_true (by kernel_rfl)) (by kernel_rfl) h
end Go.Proofs.Ytlfongfhbkefmaa.Ai
namespace Go.Proofs.Ytlfongfhbkefmaa.Ai
open Go Go.RowKit
set_option linter.unusedVariables false
set_option linter.unusedSimpArgs false
set_option maxRecDepth 20000 in
set_option maxHeartbeats 2000000 in
theorem orNone_c (a b : Value) (ls : List (List Int)) (ps : List (Int × Int)) (H : AH) (hr : SpRow H a b ls ps) (hl : ls.length ≤ 300) (hp : ps.length ≤ 6000) :
    ACalls Try.prog 74 [.agg (List.toArray [a, b])] H fun r H' => r = .tuple (List.toArray [.agg (List.toArray [a, b]), .bool true]) ∧ H <+: H' := by
  refine in74 rfl ?_
  intro Q hQ
  simp (maxSteps := 1000000) (disch := omega) only [cd74, hr.box, S, S1, S2, S3, S4, S5, ST, eq_self, reduceIte, reduceCtorEq, Nat.reduceEqDiff, Nat.reduceAdd]
  generalize hA0 : H ++ [AObj.cells [a, b] 28 false] = A0
  have pA0 : H <+: A0 := by rw [← hA0]; exact List.prefix_append _ _
  have cA0 : A0[H.length]? = some (.cells [a, b] 28 false) := by rw [← hA0]; exact at_new ..
  simp (maxSteps := 1000000) (disch := omega) only [alloc_sp, S, S1, S2, S3, S4, S5, ST, eq_self, reduceIte, reduceCtorEq, Nat.reduceEqDiff, Nat.reduceAdd]
  generalize hA : A0 ++ [AObj.cells [.slice none 0 0, .slice none 0 0] 28 false] = A
  have pA : A0 <+: A := by rw [← hA]; exact List.prefix_append _ _
  have cA : A[A0.length]? = some (.cells [.slice none 0 0, .slice none 0 0] 28 false) := by rw [← hA]; exact at_new ..
  have cB := pre_at pA cA0
  have rA := hr.pre (pA0.trans pA)
  obtain ⟨bd, us, r1, r2, r3⟩ := rA.1
  have g1 : ¬ (300 < (us.length : Int)) := by omega
  have g2 : ¬ (6000 < (ps.length : Int)) := by omega
  have hst := rA.store cA rfl
  simp (maxSteps := 1000000) (disch := omega) only [cell_of cB, r1.len Try.underlying26, rA.2.len Try.underlying22, decide_eq_false g1, decide_eq_false g2, ld_agg ag28 cs28 cB, hst, S, S1, S2, S3, S4, S5, ST, eq_self, reduceIte, reduceCtorEq, Nat.reduceEqDiff, Nat.reduceAdd]
  have d4 := at_set (d := .cells [a, b] 28 false) cA
  refine hQ _ _ _ (end_cell2 _ _ _ _ _ _ _ (.agg (List.toArray [a, b])) (.bool true) ?_ rfl ?_ rfl ⟨rfl, ?_⟩)
  · simp (maxSteps := 1000000) (disch := omega) only [ld_agg ag28 cs28 d4, S, S1, S2, S3, S4, S5, ST, eq_self, reduceIte, reduceCtorEq, Nat.reduceEqDiff, Nat.reduceAdd]
  · simp (maxSteps := 1000000) (disch := omega) only [S, S1, S2, S3, S4, S5, ST, eq_self, reduceIte, reduceCtorEq, Nat.reduceEqDiff, Nat.reduceAdd]
  · exact pre_set (pA0.trans pA) (by have := pA0.length_le; omega) _
end Go.Proofs.Ytlfongfhbkefmaa.Ai
namespace Go.Proofs.Ytlfongfhbkefmaa.Ai
open Go
def ords15 : List (Nat × List (Nat × Bool)) := []
def cd15 : Cd := (.seq (.reg [⟨⟨some 2, Op.box 31 (Operand.tmp 0), none⟩, []⟩,
  ⟨⟨some 4, Op.alloc 28, none⟩, []⟩,
  ⟨⟨some 5, Op.assign (Operand.const (Value.bool false)), none⟩, []⟩]) (.seq (.seq (.reg [⟨⟨some 7, Op.load 31 (Operand.tmp 2), none⟩, []⟩,
  ⟨⟨some 8, Op.call { callee := (Callee.value (Operand.func 71)), args := #[(Operand.tmp 7)], argTypes := #[31] }, none⟩, []⟩,
  ⟨⟨some 9, Op.unOp UnOp.not 4 (Operand.tmp 8), none⟩, []⟩,
  ⟨⟨some 10, Op.move (Operand.tmp 9), none⟩, []⟩,
  ⟨⟨some 11, Op.move (Operand.tmp 1), some (10, false)⟩, []⟩,
  ⟨⟨some 12, Op.call { callee := (Callee.value (Operand.func 72)), args := #[(Operand.tmp 11), (Operand.const (Value.int IntKind.i64 0)), (Operand.const (Value.int IntKind.i64 8))], argTypes := #[3, 3, 3] }, some (10, false)⟩, []⟩,
  ⟨⟨some 13, Op.unOp UnOp.not 4 (Operand.tmp 12), some (10, false)⟩, []⟩,
  ⟨⟨some 14, Op.pick (Operand.tmp 10) (Operand.const (Value.bool true)) (Operand.tmp 13), none⟩, []⟩]) (.cond (Operand.tmp 14) (.seq (.reg [⟨⟨some 15, Op.build 28 #[], none⟩, []⟩,
  ⟨⟨none, Op.store 28 (Operand.tmp 4) (Operand.tmp 15), none⟩, []⟩,
  ⟨⟨some 5, Op.assign (Operand.const (Value.bool false)), none⟩, []⟩]) .ret) .skip)) (.seq (.reg [⟨⟨some 16, Op.load 31 (Operand.tmp 2), none⟩, []⟩,
  ⟨⟨some 17, Op.move (Operand.tmp 1), none⟩, []⟩,
  ⟨⟨some 18, Op.call { callee := (Callee.value (Operand.func 73)), args := #[(Operand.tmp 16), (Operand.tmp 17)], argTypes := #[31, 3] }, none⟩, []⟩,
  ⟨⟨some 6, Op.assign (Operand.tmp 18), none⟩, []⟩]) (.seq (.seq (.reg [⟨⟨some 19, Op.move (Operand.tmp 6), none⟩, []⟩,
  ⟨⟨some 20, Op.call { callee := (Callee.builtin Builtin.len), args := #[(Operand.tmp 19)], argTypes := #[26] }, none⟩, []⟩,
  ⟨⟨some 21, Op.binOp BinOp.gtr 3 (Operand.tmp 20) (Operand.const (Value.int IntKind.i64 300)) 3, none⟩, []⟩]) (.cond (Operand.tmp 21) (.seq (.reg [⟨⟨some 22, Op.build 28 #[], none⟩, []⟩,
  ⟨⟨none, Op.store 28 (Operand.tmp 4) (Operand.tmp 22), none⟩, []⟩,
  ⟨⟨some 5, Op.assign (Operand.const (Value.bool false)), none⟩, []⟩]) .ret) .skip)) (.seq (.reg [⟨⟨some 23, Op.move (Operand.tmp 6), none⟩, []⟩,
  ⟨⟨some 24, Op.call { callee := (Callee.value (Operand.func 75)), args := #[(Operand.tmp 23), (Operand.func 76)], argTypes := #[26, 43] }, none⟩, []⟩,
  ⟨⟨some 25, Op.call { callee := (Callee.value (Operand.func 74)), args := #[(Operand.tmp 24)], argTypes := #[28] }, none⟩, []⟩,
  ⟨⟨some 26, Op.extract (Operand.tmp 25) 0, none⟩, []⟩,
  ⟨⟨some 27, Op.extract (Operand.tmp 25) 1, none⟩, []⟩,
  ⟨⟨none, Op.store 28 (Operand.tmp 4) (Operand.tmp 26), none⟩, []⟩,
  ⟨⟨some 5, Op.assign (Operand.tmp 27), none⟩, []⟩]) .ret)))))
theorem sl15 : slim Try.f15.ntmps ords15 (Try.f15.body.getD .skip) = some cd15 := by kernel_rfl
set_option maxRecDepth 20000 in
theorem in15 {args : List Value} {H : AH} {R : Value → AH → Prop} (hl : args.length = 2) (h : ∀ (Q : Exit → Sl → AH → Prop), (∀ e s H, endA Try.prog [ResultVar.cell 4 28, ResultVar.tmp 5] R e s H → Q e s H) → wpC Try.prog cd15 Q (enterA args) H) : ACalls Try.prog 15 args H R :=
  ACalls.intro (by kernel_rfl) Try.func15 rfl (by kernel_rfl) sl15 hl (of_decide_eq_true (by kernel_rfl)) (by kernel_rfl) h
end Go.Proofs.Ytlfongfhbkefmaa.Ai
namespace Go.Proofs.Ytlfongfhbkefmaa.Ai
open Go Go.RowKit
set_option linter.unusedVariables false
set_option linter.unusedSimpArgs false
/-- few matchings of a size -/
abbrev MsOk (k n : Int) (es : List (Int × Int)) : Prop := Grd n es ∧ (0 ≤ k ∧ k ≤ 8) ∧ (mext es es.length [] k.toNat).length ≤ 300
def msL (k n : Int) (es : List (Int × Int)) : List (List Int) := if MsOk k n es then mext es es.length [] k.toNat else []
def msS (k n : Int) (es : List (Int × Int)) : List (Int × Int) := if MsOk k n es then steps jmpB (mext es es.length [] k.toNat) else []
theorem mext_none {n : Int} {es : List (Int × Int)} (hg : Grd n es) {j : Nat} (hj : 4 < j) : mext es es.length [] j = [] := by
  refine List.eq_nil_iff_forall_not_mem.2 fun x hx => ?_
  have := mext_len hg hx
  omega
theorem jumps_all {n : Int} {es : List (Int × Int)} (hg : Grd n es) (j : Nat) : (steps jmpB (mext es es.length [] j)).length ≤ 6000 := by
  by_cases h : j ≤ 4
  · exact jumps_le hg h
  · rw [mext_none hg (by omega)]; exact Nat.zero_le _
theorem mext_rise {n : Int} {es : List (Int × Int)} (hg : Grd n es) {j : Nat} : ∀ x ∈ mext es es.length [] j, x.Pairwise (· < ·) := by
  have key : ∀ (k : Nat) (ed : List Int), k ≤ es.length → ed.Pairwise (· < ·) → (∀ e ∈ ed, e < ((es.length - k : Nat) : Int)) → ∀ x ∈ mall es k ed, x.Pairwise (· < ·) := by
    intro k
    induction k with
    | zero => intro ed _ _ _ x hx; simp [mall] at hx
    | succ k ih =>
      intro ed hk hp he x hx
      have hp2 : (ed ++ [((es.length - (k + 1) : Nat) : Int)]).Pairwise (· < ·) := by
        rw [List.pairwise_append]
        exact ⟨hp, by simp, fun a ha b hb => by rw [List.mem_singleton.1 hb]; exact he a ha⟩
      simp only [mall, List.mem_append] at hx
      rcases hx with hx | hx
      · split at hx
        · rcases List.mem_cons.1 hx with rfl | hx
          · exact hp2
          · refine ih _ (by omega) hp2 (fun e h => ?_) x hx
            rcases List.mem_append.1 h with h | h
            · have := he e h; omega
            · rw [List.mem_singleton.1 h]; omega
        · simp at hx
      · exact ih ed (by omega) hp (fun e h => by have := he e h; omega) x hx
  intro x hx
  unfold mext at hx
  rcases List.mem_cons.1 (List.mem_filter.1 hx).1 with rfl | h
  · exact .nil
  · exact key es.length [] (Nat.le_refl _) .nil (fun e h => absurd h (by simp)) x h
set_option maxRecDepth 20000 in
set_option maxHeartbeats 4000000 in
theorem MsI_c (a0 n : Int) (v : Value) (es : List (Int × Int)) (H : AH) (hr : RowP 81 H v es) (hlen : es.length ≤ 1099511627776) (hes : ∀ y ∈ es, I64 y.1 ∧ I64 y.2) (hn : I64 n) :
    ACalls Try.prog 15 [.agg (List.toArray [.int .i64 n, v]), .int .i64 a0] H fun r H' => ∃ a b, r = .tuple (List.toArray [.agg (List.toArray [a, b]), .bool (decide (MsOk a0 n es))]) ∧ SpIn H.length H'.length H' a b (msL a0 n es) (msS a0 n es) ∧ H <+: H' := by
  refine in15 rfl ?_
  intro Q hQ
  simp (maxSteps := 1000000) (disch := omega) only [cd15, hr.boxG, S, S1, S2, S3, S4, S5, ST, eq_self, reduceIte, reduceCtorEq, Nat.reduceEqDiff, Nat.reduceAdd]
  generalize hA0 : H ++ [AObj.cells [.int .i64 n, v] 31 false] = A0
  have pA0 : H <+: A0 := by rw [← hA0]; exact List.prefix_append _ _
  have cA0 : A0[H.length]? = some (.cells [.int .i64 n, v] 31 false) := by rw [← hA0]; exact at_new ..
  have rA0 := hr.pre pA0
  simp (maxSteps := 1000000) (disch := omega) only [alloc_sp, S, S1, S2, S3, S4, S5, ST, eq_self, reduceIte, reduceCtorEq, Nat.reduceEqDiff, Nat.reduceAdd]
  generalize hA : A0 ++ [AObj.cells [.slice none 0 0, .slice none 0 0] 28 false] = A
  have pA1 : A0 <+: A := by rw [← hA]; exact List.prefix_append _ _
  have lA0 : A0.length = H.length + 1 := by rw [← hA0]; simp
  have cS : A[A0.length]? = some (.cells [.slice none 0 0, .slice none 0 0] 28 false) := by rw [← hA]; exact at_new ..
  have lA : A.length = A0.length + 1 := by rw [← hA]; simp
  have pA := pA0.trans pA1
  have cA := pre_at pA1 cA0
  have rA := rA0.pre pA1
  simp (maxSteps := 1000000) (disch := omega) only [ld_agg ag31 cs31 cA, S, S1, S2, S3, S4, S5, ST, eq_self, reduceIte, reduceCtorEq, Nat.reduceEqDiff, Nat.reduceAdd]
  refine CallH.by (IsGraph_c n v es A rA (by omega)) ?_
  rintro _ B ⟨rfl, pB⟩
  have cB := pre_at pB cA
  have cSB := pre_at pB cS
  have pHB := pA.trans pB
  have lB := pB.length_le
  have no : ¬ MsOk a0 n es → ∀ s : Sl, s 4 = .pointer (some ⟨A0.length, 0, none⟩) → s 5 = .bool false → endA Try.prog [.cell 4 28, .tmp 5] (fun r H' => ∃ a b, r = .tuple (List.toArray [.agg (List.toArray [a, b]), .bool (decide (MsOk a0 n es))]) ∧ SpIn H.length H'.length H' a b (msL a0 n es) (msS a0 n es) ∧ H <+: H') .ret s (B.set A0.length (.cells [.slice none 0 0, .slice none 0 0] 28 false)) := by
    intro h s s2 s3
    have d4 := at_set (d := .cells [.slice none 0 0, .slice none 0 0] 28 false) cSB
    refine end_cell2 _ _ _ _ _ _ _ (.agg (List.toArray [.slice none 0 0, .slice none 0 0])) (.bool false) ?_ rfl s3 rfl ⟨_, _, by rw [decide_eq_false h], ⟨H.length, Nat.le_refl _, by simp; omega, ?_, ?_⟩, ?_⟩
    · simp (maxSteps := 1000000) (disch := omega) only [s2, ld_agg ag28 cs28 d4, S, S1, S2, S3, S4, S5, ST, eq_self, reduceIte, reduceCtorEq, Nat.reduceEqDiff, Nat.reduceAdd]
    · have : msL a0 n es = [] := by unfold msL; rw [if_neg h]
      rw [this]; exact .inl ⟨rfl, rfl⟩
    · have : msS a0 n es = [] := by unfold msS; rw [if_neg h]
      rw [this]; exact .inl ⟨rfl, rfl⟩
    · exact pre_set pHB (by omega) _
  have hstore0 := st_ss cSB rfl none none 0 0 0 0
  by_cases e : Grd n es
  rotate_left
  · simp (maxSteps := 1000000) (disch := omega) only [decide_eq_false e, bld_sp0, hstore0, S, S1, S2, S3, S4, S5, ST, eq_self, reduceIte, reduceCtorEq, Nat.reduceEqDiff, Nat.reduceAdd]
    refine hQ _ _ _ (no (fun h => e h.1) _ ?_ ?_) <;> simp (maxSteps := 1000000) (disch := omega) only [S, S1, S2, S3, S4, S5, ST, eq_self, reduceIte, reduceCtorEq, Nat.reduceEqDiff, Nat.reduceAdd]
  simp (maxSteps := 1000000) (disch := omega) only [decide_eq_true e, S, S1, S2, S3, S4, S5, ST, eq_self, reduceIte, reduceCtorEq, Nat.reduceEqDiff, Nat.reduceAdd]
  refine CallH.by (between_c a0 0 8 B) ?_
  rintro _ _ ⟨rfl, rfl⟩
  by_cases e5 : 0 ≤ a0 ∧ a0 ≤ 8
  rotate_left
  · simp (maxSteps := 1000000) (disch := omega) only [decide_eq_false e5, bld_sp0, hstore0, S, S1, S2, S3, S4, S5, ST, eq_self, reduceIte, reduceCtorEq, Nat.reduceEqDiff, Nat.reduceAdd]
    refine hQ _ _ _ (no (fun h => e5 h.2.1) _ ?_ ?_) <;> simp (maxSteps := 1000000) (disch := omega) only [S, S1, S2, S3, S4, S5, ST, eq_self, reduceIte, reduceCtorEq, Nat.reduceEqDiff, Nat.reduceAdd]
  obtain ⟨k, hk⟩ : ∃ k : Nat, a0 = k := ⟨a0.toNat, by omega⟩
  subst hk
  simp (maxSteps := 1000000) (disch := omega) only [decide_eq_true e5, ld_agg ag31 cs31 cB, S, S1, S2, S3, S4, S5, ST, eq_self, reduceIte, reduceCtorEq, Nat.reduceEqDiff, Nat.reduceAdd]
  refine CallH.by (ofSize_c n v es k B (rA.pre pB) (by have := grd_len e; omega) e (by omega)) ?_
  rintro a C ⟨hL, pC⟩
  obtain ⟨us, r1, r2, r3⟩ := hL.parts
  have cC := pre_at pC cB
  have cSC := pre_at pC cSB
  have lC := pC.length_le
  have hlt : ((mext es es.length [] k).take 301).length = min 301 (mext es es.length [] k).length := List.length_take
  by_cases e7 : (mext es es.length [] k).length ≤ 300
  rotate_left
  · have e8 : (300 : Int) < (us.length : Int) := by omega
    have hstore1 := st_ss cSC rfl none none 0 0 0 0
    simp (maxSteps := 1000000) (disch := omega) only [r1.len Try.underlying26, decide_eq_true e8, bld_sp0, hstore1, S, S1, S2, S3, S4, S5, ST, eq_self, reduceIte, reduceCtorEq, Nat.reduceEqDiff, Nat.reduceAdd]
    have d4 := at_set (d := .cells [.slice none 0 0, .slice none 0 0] 28 false) cSC
    have hno : ¬ MsOk (k : Int) n es := fun h => e7 (by have := h.2.2; rwa [Int.toNat_natCast] at this)
    refine hQ _ _ _ (end_cell2 _ _ _ _ _ _ _ (.agg (List.toArray [.slice none 0 0, .slice none 0 0])) (.bool false) ?_ rfl ?_ rfl ⟨_, _, by rw [decide_eq_false hno], ⟨H.length, Nat.le_refl _, by simp; omega, ?_, ?_⟩, ?_⟩)
    · simp (maxSteps := 1000000) (disch := omega) only [ld_agg ag28 cs28 d4, S, S1, S2, S3, S4, S5, ST, eq_self, reduceIte, reduceCtorEq, Nat.reduceEqDiff, Nat.reduceAdd]
    · simp (maxSteps := 1000000) (disch := omega) only [S, S1, S2, S3, S4, S5, ST, eq_self, reduceIte, reduceCtorEq, Nat.reduceEqDiff, Nat.reduceAdd]
    · have : msL (k : Int) n es = [] := by unfold msL; rw [if_neg hno]
      rw [this]; exact .inl ⟨rfl, rfl⟩
    · have : msS (k : Int) n es = [] := by unfold msS; rw [if_neg hno]
      rw [this]; exact .inl ⟨rfl, rfl⟩
    · exact pre_set (pHB.trans pC) (by omega) _
  rw [List.take_of_length_le (by omega)] at hL r2 r3
  have hok : MsOk (k : Int) n es := ⟨e, by omega, by rw [Int.toNat_natCast]; exact e7⟩
  have hin : ∀ x ∈ mext es es.length [] k, x.length ≤ 4 ∧ (∀ y ∈ x, 0 ≤ y ∧ y < 28) ∧ x.Pairwise (· < ·) := fun x hx => ⟨(mext_len e hx).2, fun y hy => by have := mext_rng e hx y hy; have := grd_len e; omega, mext_rise e x hx⟩
  have hjmp := jumps_all e k
  have hsrt := mext_srt es k
  generalize hls : mext es es.length [] k = ls at *
  have hsts : Sts C a us ls := ⟨r1, r2, fun i hi => (r3 i hi).row.1, fun i hi => by
    have : ls.getD i [] ∈ ls := by simp [hi]
    have := (hin _ this).1; omega, by omega, hsrt⟩
  have hS : StepFn C 76 [] ls jmpB := fun va vb x y H2 hp2 hv hw hx hy => (isJump_c va vb x y H2 hv hw (hin x hx).1 (hin y hy).1 (hin x hx).2.1 (hin y hy).2.1 (hin x hx).2.2 (hin y hy).2.2).mono fun r H' hh => ⟨hh.1, hh.2 ▸ List.prefix_refl _⟩
  have e8 : ¬ (300 : Int) < (us.length : Int) := by omega
  simp (maxSteps := 1000000) (disch := omega) only [r1.len Try.underlying26, decide_eq_false e8, S, S1, S2, S3, S4, S5, ST, eq_self, reduceIte, reduceCtorEq, Nat.reduceEqDiff, Nat.reduceAdd]
  refine CallH.by (spaceOf_c hsts (by omega) 76 [] jmpB hS (List.prefix_refl _)) ?_
  rintro _ D ⟨st, rfl, hst, pD⟩
  have hrowD : SpRow D a st ls (steps jmpB ls) := ⟨⟨_, (hL.row).pre pD⟩, hst.row⟩
  simp (maxSteps := 1000000) (disch := omega) only [S, S1, S2, S3, S4, S5, ST, eq_self, reduceIte, reduceCtorEq, Nat.reduceEqDiff, Nat.reduceAdd]
  refine CallH.by (orNone_c a st _ _ D hrowD (by omega) hjmp) ?_
  rintro _ E ⟨rfl, pE⟩
  have hrowE := hrowD.pre pE
  have cSE := pre_at (pD.trans pE) cSC
  have hstore := hrowE.store cSE rfl
  simp (maxSteps := 1000000) (disch := omega) only [hstore, S, S1, S2, S3, S4, S5, ST, eq_self, reduceIte, reduceCtorEq, Nat.reduceEqDiff, Nat.reduceAdd]
  have d4 := at_set (d := .cells [a, st] 28 false) cSE
  have lD := pD.length_le
  have lE := pE.length_le
  have hpL : msL (k : Int) n es = ls := by unfold msL; rw [if_pos hok, Int.toNat_natCast, hls]
  have hpP : msS (k : Int) n es = steps jmpB ls := by unfold msS; rw [if_pos hok, Int.toNat_natCast, hls]
  refine hQ _ _ _ (end_cell2 _ _ _ _ _ _ _ (.agg (List.toArray [a, st])) (.bool true) ?_ rfl ?_ rfl ⟨a, st, by rw [decide_eq_true hok], ⟨C.length, by omega, by simp; omega, ?_, ?_⟩, ?_⟩)
  · simp (maxSteps := 1000000) (disch := omega) only [ld_agg ag28 cs28 d4, S, S1, S2, S3, S4, S5, ST, eq_self, reduceIte, reduceCtorEq, Nat.reduceEqDiff, Nat.reduceAdd]
  · simp (maxSteps := 1000000) (disch := omega) only [S, S1, S2, S3, S4, S5, ST, eq_self, reduceIte, reduceCtorEq, Nat.reduceEqDiff, Nat.reduceAdd]
  · rw [hpL]
    rcases hL.pre (pD.trans pE) with q | ⟨o, us', q1, q2⟩
    · exact .inl q
    · refine .inr ⟨o, us', q1, (q2.move fun j y hj1 hj2 hy => ?_).wide (by omega) (Nat.le_refl _)⟩
      rw [List.getElem?_set_ne (by omega)]; exact hy
  · rw [hpP]
    have hI := InP.of (hst.pre pE)
    rcases hI with q | ⟨o, zs, q1, q2, q3, q4, q5⟩
    · exact .inl q
    · exact .inr ⟨o, zs, q1, q2, by simpa using q3, by rw [List.getElem?_set_ne (by omega)]; exact q4, q5⟩
  · exact pre_set (pHB.trans (pC.trans (pD.trans pE))) (by omega) _
end Go.Proofs.Ytlfongfhbkefmaa.Ai
namespace Go.Proofs.Ytlfongfhbkefmaa.Ai
open Go
theorem prm_range {p : List Int} (h : Prm p) : (∀ i, i < p.length → 0 ≤ p.getD i 0 ∧ p.getD i 0 < p.length) ∧ ∀ i j, i < p.length → j < p.length → p.getD i 0 = p.getD j 0 → i = j := by
  have hm := List.mergeSort_perm p (fun x y => decide (x ≤ y))
  have hs : (p.mergeSort (fun x y => decide (x ≤ y))).Pairwise (fun x y => decide (x ≤ y) = true) := List.pairwise_mergeSort (fun a b c h1 h2 => by simp at *; omega) (fun a b => by simp; omega) p
  have ha : Asc (p.mergeSort (fun x y => decide (x ≤ y))) := by
    intro i j hij hj
    rw [List.pairwise_iff_getElem] at hs
    have := hs i j (by omega) hj hij
    simp only [decide_eq_true_eq] at this
    rw [List.getD_eq_getElem?_getD, List.getD_eq_getElem?_getD, List.getElem?_eq_getElem hj, List.getElem?_eq_getElem (show i < (p.mergeSort (fun x y => decide (x ≤ y))).length by omega)]
    exact this
  have hat := prm_at h hm ha
  have hl := hm.length_eq
  generalize p.mergeSort (fun x y => decide (x ≤ y)) = ys at *
  have mem : ∀ y ∈ p, 0 ≤ y ∧ y < p.length := by
    intro y hy
    obtain ⟨i, hi, e⟩ := pos_ex (hm.mem_iff.2 hy)
    rw [hat i hi] at e
    omega
  have nd : ys.Nodup := by
    rw [List.Nodup, List.pairwise_iff_getElem]
    intro i j hi hj hij e
    have h1 := hat i hi
    have h2 := hat j hj
    simp only [List.getD_eq_getElem?_getD, List.getElem?_eq_getElem hi, List.getElem?_eq_getElem hj, Option.getD_some] at h1 h2
    omega
  have pd : p.Nodup := hm.nodup_iff.1 nd
  refine ⟨fun i hi => mem _ (by simp [hi]), fun i j hi hj e => ?_⟩
  rw [List.Nodup, List.pairwise_iff_getElem] at pd
  simp only [List.getD_eq_getElem?_getD, List.getElem?_eq_getElem hi, List.getElem?_eq_getElem hj, Option.getD_some] at e
  rcases Nat.lt_trichotomy i j with g | g | g
  · exact absurd e (pd i j hi hj g)
  · exact g
  · exact absurd e.symm (pd j i hj hi g)
/-- the way from y till x -/
def orb (p : List Int) (x y : Int) : Nat → List Int
  | 0 => []
  | n + 1 => if y = x then [] else y :: orb p x (p.getD y.toNat 0) n
def cycC (p : List Int) (x : Int) : List Int := x :: orb p x (p.getD x.toNat 0) p.length
theorem orb_self (p : List Int) (x : Int) (n : Nat) : orb p x x n = [] := by cases n <;> simp [orb]
/-- a way begun at x: c, and y comes next -/
structure Way (p : List Int) (x : Int) (c : List Int) (y : Int) : Prop where
  rng : ∀ z ∈ c, 0 ≤ z ∧ z < p.length
  nd : c.Nodup
  ne : c ≠ []
  head : c.getD 0 0 = x
  step : ∀ i, i + 1 < c.length → c.getD (i + 1) 0 = p.getD (c.getD i 0).toNat 0
  last : y = p.getD (c.getD (c.length - 1) 0).toNat 0
  tail : cycC p x = c ++ orb p x y (p.length + 1 - c.length)
theorem nodup_len (n : Nat) : ∀ (c : List Int), c.Nodup → (∀ z ∈ c, 0 ≤ z ∧ z < (n : Int)) → c.length ≤ n := by
  induction n with
  | zero =>
    intro c _ h
    cases c with
    | nil => simp
    | cons z c => have := h z (by simp); omega
  | succ n ih =>
    intro c hn h
    have hn' := hn.erase (n : Int)
    have hl : c.length ≤ (c.erase (n : Int)).length + 1 := by
      rw [List.length_erase]; split <;> omega
    have := ih (c.erase (n : Int)) hn' (fun z hz => by
      have h1 := h z (List.mem_of_mem_erase hz)
      have h2 : z ≠ n := fun e => by
        subst e
        exact (hn.not_mem_erase) hz
      omega)
    omega
theorem Way.len {p : List Int} {x y : Int} {c : List Int} (h : Way p x c y) : 1 ≤ c.length ∧ c.length ≤ p.length := by
  refine ⟨?_, nodup_len _ c h.nd h.rng⟩
  have := h.ne
  cases c with
  | nil => exact absurd rfl this
  | cons _ _ => simp
theorem getD_mem {c : List Int} {i : Nat} (h : i < c.length) : c.getD i 0 ∈ c := by simp [h]
theorem Way.yrng {p : List Int} {x y : Int} {c : List Int} (hp : Prm p) (h : Way p x c y) : 0 ≤ y ∧ y < p.length := by
  have hl := h.len
  have := h.rng _ (getD_mem (show c.length - 1 < c.length by omega))
  rw [h.last]
  exact (prm_range hp).1 _ (by omega)
/-- what comes again is x -/
theorem Way.back {p : List Int} {x y : Int} {c : List Int} (hp : Prm p) (h : Way p x c y) (hy : y ∈ c) : y = x := by
  have hl := h.len
  obtain ⟨i, hi, e⟩ := pos_ex hy
  by_cases h0 : i = 0
  · subst h0; rw [← e, h.head]
  · have h1 := h.step (i - 1) (by omega)
    rw [show i - 1 + 1 = i from by omega, e, h.last] at h1
    have r1 := h.rng _ (getD_mem (show c.length - 1 < c.length by omega))
    have r2 := h.rng _ (getD_mem (show i - 1 < c.length by omega))
    have := (prm_range hp).2 _ _ (by omega) (by omega) h1
    have e2 : c.getD (c.length - 1) 0 = c.getD (i - 1) 0 := by omega
    have nd := h.nd
    rw [List.Nodup, List.pairwise_iff_getElem] at nd
    simp only [List.getD_eq_getElem?_getD, List.getElem?_eq_getElem (show c.length - 1 < c.length by omega), List.getElem?_eq_getElem (show i - 1 < c.length by omega), Option.getD_some] at e2
    exact absurd e2.symm (nd (i - 1) (c.length - 1) (by omega) (by omega) (by omega))
set_option linter.unusedVariables false in
theorem Way.first {p : List Int} (hp : Prm p) {x : Nat} (hx : x < p.length) : Way p (x : Int) [(x : Int)] (p.getD x 0) :=
  ⟨fun z hz => by simp at hz; omega, by simp, by simp, rfl, fun i hi => by simp at hi, by simp, by simp [cycC]⟩
set_option linter.unusedVariables false in
theorem Way.next {p : List Int} {x y : Int} {c : List Int} (hp : Prm p) (h : Way p x c y) (hy : y ≠ x) : Way p x (c ++ [y]) (p.getD y.toNat 0) := by
  have hl := h.len
  have hyr := h.yrng hp
  have hni : y ∉ c := fun hm => hy (h.back hp hm)
  have hnd : (c ++ [y]).Nodup := List.nodup_append.2 ⟨h.nd, by simp, fun a ha b hb e => by simp at hb; subst hb; exact hni (e ▸ ha)⟩
  have hlen := nodup_len p.length (c ++ [y]) hnd (fun z hz => by
    rcases List.mem_append.1 hz with g | g
    · exact h.rng z g
    · simp at g; rw [g]; exact hyr)
  simp only [List.length_append, List.length_cons, List.length_nil] at hlen
  have at1 : ∀ i, i < c.length → (c ++ [y]).getD i 0 = c.getD i 0 := fun i hi => by
    rw [List.getD_eq_getElem?_getD, List.getD_eq_getElem?_getD, List.getElem?_append_left hi]
  have at2 : (c ++ [y]).getD c.length 0 = y := by
    rw [List.getD_eq_getElem?_getD, List.getElem?_append_right (Nat.le_refl _)]; simp
  refine ⟨fun z hz => ?_, hnd, by simp, by rw [at1 0 (by omega)]; exact h.head, fun i hi => ?_, ?_, ?_⟩
  · rcases List.mem_append.1 hz with g | g
    · exact h.rng z g
    · simp at g; rw [g]; exact hyr
  · simp only [List.length_append, List.length_cons, List.length_nil] at hi
    by_cases c1 : i + 1 < c.length
    · rw [at1 _ c1, at1 _ (by omega)]; exact h.step i c1
    · have : i = c.length - 1 := by omega
      subst this
      rw [show c.length - 1 + 1 = c.length from by omega, at2, at1 _ (by omega)]
      exact h.last
  · simp only [List.length_append, List.length_cons, List.length_nil, Nat.add_sub_cancel]
    rw [at2]
  · have := h.tail
    obtain ⟨n, hn⟩ : ∃ n, p.length + 1 - c.length = n + 1 := ⟨p.length - c.length, by omega⟩
    rw [hn] at this
    simp only [orb, if_neg hy] at this
    rw [this]
    simp only [List.length_append, List.length_cons, List.length_nil, List.append_assoc, List.cons_append, List.nil_append]
    rw [show p.length + 1 - (c.length + (0 + 1)) = n from by omega]
theorem Way.done {p : List Int} {x : Int} {c : List Int} (h : Way p x c x) : c = cycC p x := by
  rw [h.tail, orb_self, List.append_nil]
/-- what has been seen, and the cycles so far -/
def cycSt (p : List Int) : Nat → List (List Int) × List Int
  | 0 => ([], [])
  | k + 1 => if (k : Int) ∈ (cycSt p k).2 then cycSt p k else ((cycSt p k).1 ++ [cycC p k], (cycSt p k).2 ++ cycC p k)
/-- a set that nothing leads into from outside -/
def Shut (p s : List Int) : Prop := (∀ z ∈ s, 0 ≤ z ∧ z < p.length) ∧ ∀ z : Nat, z < p.length → p.getD z 0 ∈ s → (z : Int) ∈ s
theorem Way.out {p s : List Int} {x y : Int} {c : List Int} (h : Way p x c y) (hs : Shut p s) (hd : ∀ z ∈ c, z ∉ s) : y ∉ s := by
  have hl := h.len
  have hm := getD_mem (show c.length - 1 < c.length by omega)
  have r := h.rng _ hm
  intro hy
  rw [h.last] at hy
  have := hs.2 (c.getD (c.length - 1) 0).toNat (by omega) hy
  rw [show (((c.getD (c.length - 1) 0).toNat : Nat) : Int) = c.getD (c.length - 1) 0 from by omega] at this
  exact hd _ hm this
theorem Way.shut {p s : List Int} {x : Int} {c : List Int} (hp : Prm p) (h : Way p x c x) (hs : Shut p s) : Shut p (s ++ c) := by
  have hl := h.len
  refine ⟨fun z hz => (List.mem_append.1 hz).elim (hs.1 z) (h.rng z), fun z hz hm => ?_⟩
  rw [List.mem_append] at hm ⊢
  rcases hm with g | g
  · exact .inl (hs.2 z hz g)
  · right
    obtain ⟨i, hi, e⟩ := pos_ex g
    by_cases h0 : i = 0
    · subst h0
      rw [h.head] at e
      have r := h.rng _ (getD_mem (show c.length - 1 < c.length by omega))
      have := (prm_range hp).2 z (c.getD (c.length - 1) 0).toNat hz (by omega) (by rw [← e]; exact h.last)
      have e2 : (z : Int) = c.getD (c.length - 1) 0 := by omega
      rw [e2]; exact getD_mem (by omega)
    · have h1 := h.step (i - 1) (by omega)
      rw [show i - 1 + 1 = i from by omega, e] at h1
      have r := h.rng _ (getD_mem (show i - 1 < c.length by omega))
      have := (prm_range hp).2 z (c.getD (i - 1) 0).toNat hz (by omega) h1
      have e2 : (z : Int) = c.getD (i - 1) 0 := by omega
      rw [e2]; exact getD_mem (by omega)
end Go.Proofs.Ytlfongfhbkefmaa.Ai
namespace Go.Proofs.Ytlfongfhbkefmaa.Ai
open Go
set_option linter.unusedVariables false
/-- the place of the first that p takes, or -1 -/
def idxP (p : Int → Bool) : List Int → Nat → Int
  | [], _ => -1
  | x :: xs, k => if p x = true then (k : Int) else idxP p xs (k + 1)
theorem idxP_step (p : Int → Bool) (xs : List Int) (i : Nat) (hi : i < xs.length) : idxP p (xs.drop i) i = if p (xs.getD i 0) = true then (i : Int) else idxP p (xs.drop (i + 1)) (i + 1) := by
  rw [List.drop_eq_getElem_cons hi]
  simp [idxP, hi]
theorem idxP_any (p : Int → Bool) : ∀ (xs : List Int) (k : Nat), (0 ≤ idxP p xs k) ↔ xs.any p = true
  | [], k => by simp [idxP]
  | x :: xs, k => by
    simp only [idxP, List.any_cons]
    cases h : p x with
    | true => simp
    | false => simp [idxP_any p xs (k + 1)]
end Go.Proofs.Ytlfongfhbkefmaa.Ai
namespace Go.Proofs.Ytlfongfhbkefmaa.Ai
open Go
set_option linter.unusedVariables false
/-- the place of a number -/
def ax (q : List Int) (x : Int) : Int := idxP (fun y => decide (x = y)) q 0
theorem idxP_at (p : Int → Bool) : ∀ (xs : List Int) (k : Nat), xs.any p = true → ∃ i : Nat, i < xs.length ∧ idxP p xs k = ((k + i : Nat) : Int) ∧ p (xs.getD i 0) = true
  | [], k, h => by simp at h
  | x :: xs, k, h => by
    by_cases hx : p x = true
    · exact ⟨0, by simp, by simp [idxP, hx], by simpa using hx⟩
    · have : xs.any p = true := by simpa [hx] using h
      obtain ⟨i, h1, h2, h3⟩ := idxP_at p xs (k + 1) this
      refine ⟨i + 1, by simpa using h1, ?_, by simpa using h3⟩
      rw [idxP, if_neg hx, h2]
      congr 1; omega
theorem ax_at {q : List Int} {x : Int} (h : x ∈ q) : ∃ i : Nat, i < q.length ∧ ax q x = (i : Int) ∧ q.getD i 0 = x := by
  obtain ⟨i, h1, h2, h3⟩ := idxP_at (fun y => decide (x = y)) q 0 (by simpa using h)
  refine ⟨i, h1, by rw [ax, h2]; congr 1; omega, ?_⟩
  have := of_decide_eq_true h3
  exact this.symm
def swp (p : List Int) (a b : Nat) : List Int := (p.set a (p.getD b 0)).set b (p.getD a 0)
theorem swp_len (p : List Int) (a b : Nat) : (swp p a b).length = p.length := by simp [swp]
theorem swp_at (p : List Int) (a b k : Nat) (ha : a < p.length) (hb : b < p.length) (hk : k < p.length) : (swp p a b).getD k 0 = if k = b then p.getD a 0 else if k = a then p.getD b 0 else p.getD k 0 := by
  unfold swp
  rw [List.getD_eq_getElem?_getD, List.getElem?_set]
  by_cases h1 : b = k
  · subst h1
    rw [if_pos rfl, if_pos (by simpa using hb), if_pos rfl]; rfl
  · rw [if_neg h1, if_neg (fun e => h1 e.symm), List.getElem?_set]
    by_cases h2 : a = k
    · subst h2
      rw [if_pos rfl, if_pos ha, if_pos rfl]; rfl
    · rw [if_neg h2, if_neg (fun e => h2 e.symm), ← List.getD_eq_getElem?_getD]
theorem mem_getD {q : List Int} {k : Nat} (h : k < q.length) : q.getD k 0 ∈ q := by simp [h]
theorem swp_prm {p : List Int} (h : Prm p) {a b : Nat} (ha : a < p.length) (hb : b < p.length) : Prm (swp p a b) := by
  refine ⟨by rw [swp_len]; exact h.1, fun x hx => ?_⟩
  rw [swp_len] at hx
  obtain ⟨i, hi, e⟩ := pos_ex (h.2 x hx)
  have mk : ∀ k, k < p.length → (swp p a b).getD k 0 = x → (x : Int) ∈ swp p a b := fun k hk e => by
    rw [← e]; exact mem_getD (by rw [swp_len]; exact hk)
  by_cases h1 : i = a
  · subst h1; exact mk b hb (by rw [swp_at p _ b b ha hb hb, if_pos rfl]; exact e)
  · by_cases h2 : i = b
    · subst h2
      by_cases h3 : a = i
      · exact absurd h3.symm h1
      · exact mk a ha (by rw [swp_at p a _ a ha hb ha, if_neg h3, if_pos rfl]; exact e)
    · exact mk i hi (by rw [swp_at p a b i ha hb hi, if_neg h2, if_neg h1]; exact e)
def srtSt (p : List Int) : Nat → List (Int × Int) × List Int
  | 0 => ([], p)
  | x + 1 => if ax (srtSt p x).2 x = x then srtSt p x else ((srtSt p x).1 ++ [((x : Int), ax (srtSt p x).2 x)], swp (srtSt p x).2 x (ax (srtSt p x).2 x).toNat)
structure SrtOk (p : List Int) (x : Nat) (o : List (Int × Int)) (q : List Int) : Prop where
  prm : Prm q
  len : q.length = p.length
  fix : ∀ y, y < x → q.getD y 0 = y
  few : o.length ≤ x
theorem SrtOk.place {p : List Int} {x : Nat} {o : List (Int × Int)} {q : List Int} (h : SrtOk p x o q) (hx : x < p.length) : ∃ i : Nat, x ≤ i ∧ i < p.length ∧ ax q x = (i : Int) ∧ q.getD i 0 = x ∧ (q.getD x 0 = x ↔ i = x) := by
  obtain ⟨i, h1, h2, h3⟩ := ax_at (h.prm.2 x (by rw [h.len]; exact hx))
  have hl := h.len
  refine ⟨i, ?_, by omega, h2, h3, fun e => ?_, fun e => by rw [← e]; rw [h3]; rw [e]⟩
  · by_cases hlt : i < x
    · have := h.fix i hlt
      omega
    · omega
  · exact (prm_range h.prm).2 i x h1 (by omega) (by rw [h3, e])
theorem SrtOk.stay {p : List Int} {x : Nat} {o : List (Int × Int)} {q : List Int} (h : SrtOk p x o q) (e : q.getD x 0 = x) : SrtOk p (x + 1) o q :=
  ⟨h.prm, h.len, fun y hy => by
    by_cases hc : y = x
    · subst hc; exact e
    · exact h.fix y (by omega), by have := h.few; omega⟩
theorem SrtOk.next {p : List Int} {x i : Nat} {o : List (Int × Int)} {q : List Int} (h : SrtOk p x o q) (hx : x < p.length) (h1 : x ≤ i) (h2 : i < p.length) (h3 : q.getD i 0 = x) (hne : i ≠ x) : SrtOk p (x + 1) (o ++ [((x : Int), (i : Int))]) (swp q x i) := by
  have hl := h.len
  refine ⟨swp_prm h.prm (by omega) (by omega), by rw [swp_len]; exact hl, fun y hy => ?_, by have := h.few; simp; omega⟩
  rw [swp_at q x i y (by omega) (by omega) (by omega), if_neg (by omega)]
  by_cases hc : y = x
  · rw [if_pos hc, h3, hc]
  · rw [if_neg hc]; exact h.fix y (by omega)
theorem srt_ok {p : List Int} (h : Prm p) : ∀ x, x ≤ p.length → SrtOk p x (srtSt p x).1 (srtSt p x).2 := by
  intro x
  induction x with
  | zero => intro _; exact ⟨h, rfl, fun y hy => absurd hy (Nat.not_lt_zero _), by simp [srtSt]⟩
  | succ x ih =>
    intro hx
    have ok := ih (by omega)
    obtain ⟨i, h1, h2, h3, h4, h5⟩ := ok.place (by omega)
    rw [srtSt, h3]
    by_cases hc : i = x
    · rw [if_pos (by rw [hc])]; exact ok.stay (h5.2 hc)
    · rw [if_neg (by omega)]
      exact ok.next (by omega) h1 h2 h4 hc
/-- sorting by swaps, one step -/
theorem srt_step {p : List Int} (h : Prm p) {x : Nat} (hx : x < p.length) : ∃ i : Nat, x ≤ i ∧ i < p.length ∧ ax (srtSt p x).2 x = (i : Int) ∧ ((srtSt p x).2.getD x 0 = x ↔ i = x) ∧ (srtSt p (x + 1) = if i = x then srtSt p x else ((srtSt p x).1 ++ [((x : Int), (i : Int))], swp (srtSt p x).2 x i)) := by
  obtain ⟨i, h1, h2, h3, h4, h5⟩ := (srt_ok h x (by omega)).place hx
  refine ⟨i, h1, h2, h3, h5, ?_⟩
  rw [srtSt, h3]
  by_cases hc : i = x
  · rw [if_pos (by rw [hc]), if_pos hc]
  · rw [if_neg (by omega), if_neg hc]; rfl
def sortR (p : List Int) : List (Int × Int) := if Prm p then (srtSt p p.length).1 else []
theorem sortR_len (p : List Int) : (sortR p).length ≤ 8 := by
  unfold sortR
  split
  · rename_i h
    have h1 := (srt_ok h p.length (Nat.le_refl _)).few
    have h2 := h.1
    omega
  · simp
def swOk (n : Nat) (s : Int × Int) : Prop := 0 ≤ s.1 ∧ s.1 < s.2 ∧ s.2 < n
instance (n : Nat) (s : Int × Int) : Decidable (swOk n s) := inferInstanceAs (Decidable (_ ∧ _))
def plcOk (p : List Int) (ss : List (Int × Int)) : Prop := Prm p ∧ ∀ s ∈ ss, swOk p.length s
instance (p : List Int) (ss : List (Int × Int)) : Decidable (plcOk p ss) := inferInstanceAs (Decidable (_ ∧ _))
def plcSt (p : List Int) (ss : List (Int × Int)) : List Int := ss.foldl (fun q s => swp q s.1.toNat s.2.toNat) p
theorem plcSt_len (ss : List (Int × Int)) : ∀ p, (plcSt p ss).length = p.length := by
  induction ss with
  | nil => intro p; rfl
  | cons s ss ih => intro p; simp only [plcSt, List.foldl_cons]; rw [show List.foldl _ _ ss = plcSt (swp p s.1.toNat s.2.toNat) ss from rfl, ih, swp_len]
theorem plcSt_snoc (p : List Int) (ss : List (Int × Int)) (s : Int × Int) : plcSt p (ss ++ [s]) = swp (plcSt p ss) s.1.toNat s.2.toNat := by simp [plcSt]
theorem plcSt_step (p : List Int) (ss : List (Int × Int)) (i : Nat) (hi : i < ss.length) : plcSt p (ss.take (i + 1)) = swp (plcSt p (ss.take i)) (ss.getD i (0, 0)).1.toNat (ss.getD i (0, 0)).2.toNat := by
  rw [List.take_add_one, List.getElem?_eq_getElem hi]
  have : ss.getD i (0, 0) = ss[i] := by simp [hi]
  rw [this]
  exact plcSt_snoc _ _ _
def placeR (p : List Int) (ss : List (Int × Int)) : List Int := if plcOk p ss then plcSt p ss else []
theorem placeR_len (p : List Int) (ss : List (Int × Int)) : (placeR p ss).length ≤ 8 := by
  unfold placeR
  split
  · rename_i h; rw [plcSt_len]; exact h.1.1
  · simp
end Go.Proofs.Ytlfongfhbkefmaa.Ai
namespace Go.Proofs.Ytlfongfhbkefmaa.Ai
open Go
def ords82 : List (Nat × List (Nat × Bool)) := []
def cd82 : Cd := (.seq (.reg [⟨⟨some 2, Op.assign (Operand.const (Value.slice none 0 0)), none⟩, []⟩]) (.seq (.reg [⟨⟨some 3, Op.buildSlice 38 0 #[], none⟩, []⟩,
  ⟨⟨some 4, Op.move (Operand.tmp 0), none⟩, []⟩,
  ⟨⟨some 5, Op.call { callee := (Callee.builtin Builtin.append), args := #[(Operand.tmp 3), (Operand.tmp 4)], argTypes := #[38, 38] }, none⟩, []⟩,
  ⟨⟨some 2, Op.assign (Operand.tmp 5), none⟩, []⟩]) .ret))
theorem sl82 : slim Try.f82.ntmps ords82 (Try.f82.body.getD .skip) = some cd82 := by kernel_rfl
theorem in82 {args : List Value} {H : AH} {R : Value → AH → Prop} (hl : args.length = 1) (h : ∀ (Q : Exit → Sl → AH → Prop), (∀ e s H, endA Try.prog [ResultVar.tmp 2] R e s H → Q e s H) → wpC Try.prog cd82 Q (enterA args) H) : ACalls Try.prog 82 args H R :=
  ACalls.intro (by kernel_rfl) Try.func82 rfl (by kernel_rfl) sl82 hl (of_decide_eq_true (by kernel_rfl)) (by kernel_rfl) h
def ords128 : List (Nat × List (Nat × Bool)) := []
def cd128 : Cd := (.seq (.reg [⟨⟨some 4, Op.assign (Operand.const (Value.int IntKind.i64 0)), none⟩, []⟩]) (.seq (.reg [⟨⟨some 5, Op.assign (Operand.const (Value.int IntKind.i64 0)), none⟩, []⟩]) (.seq (.block 0 (.loop (.seq (.seq (.reg [⟨⟨some 6, Op.move (Operand.tmp 0), none⟩, []⟩,
  ⟨⟨some 7, Op.move (Operand.tmp 5), none⟩, []⟩,
  ⟨⟨some 8, Op.indexAddr 38 (Operand.tmp 6) (Operand.tmp 7), none⟩, []⟩,
  ⟨⟨some 9, Op.load 3 (Operand.tmp 8), none⟩, []⟩,
  ⟨⟨some 10, Op.move (Operand.tmp 1), none⟩, []⟩,
  ⟨⟨some 11, Op.binOp BinOp.neq 3 (Operand.tmp 9) (Operand.tmp 10) 3, none⟩, []⟩]) (.cond (Operand.tmp 11) .skip (.exit 0))) (.block 1 (.reg [⟨⟨some 12, Op.move (Operand.tmp 5), none⟩, []⟩,
  ⟨⟨some 13, Op.binOp BinOp.add 3 (Operand.tmp 12) (Operand.const (Value.int IntKind.i64 1)) 3, none⟩, []⟩,
  ⟨⟨some 5, Op.assign (Operand.tmp 13), none⟩, []⟩]))))) (.seq (.reg [⟨⟨some 14, Op.move (Operand.tmp 5), none⟩, []⟩,
  ⟨⟨some 4, Op.assign (Operand.tmp 14), none⟩, []⟩]) .ret))))
theorem sl128 : slim Try.f128.ntmps ords128 (Try.f128.body.getD .skip) = some cd128 := by kernel_rfl
theorem in128 {args : List Value} {H : AH} {R : Value → AH → Prop} (hl : args.length = 2) (h : ∀ (Q : Exit → Sl → AH → Prop), (∀ e s H, endA Try.prog [ResultVar.tmp 4] R e s H → Q e s H) → wpC Try.prog cd128 Q (enterA args) H) : ACalls Try.prog 128 args H R :=
  ACalls.intro (by kernel_rfl) Try.func128 rfl (by kernel_rfl) sl128 hl (of_decide_eq_true (by kernel_rfl)) (by kernel_rfl) h
def ords129 : List (Nat × List (Nat × Bool)) := []
def cd129 : Cd := (.seq (.reg [⟨⟨some 6, Op.assign (Operand.const (Value.slice none 0 0)), none⟩, []⟩]) (.seq (.reg [⟨⟨some 8, Op.move (Operand.tmp 0), none⟩, []⟩,
  ⟨⟨some 9, Op.call { callee := (Callee.value (Operand.func 82)), args := #[(Operand.tmp 8)], argTypes := #[38] }, none⟩, []⟩,
  ⟨⟨some 7, Op.assign (Operand.tmp 9), none⟩, []⟩]) (.seq (.reg [⟨⟨some 10, Op.move (Operand.tmp 7), none⟩, []⟩,
  ⟨⟨some 11, Op.move (Operand.tmp 1), none⟩, []⟩,
  ⟨⟨some 12, Op.move (Operand.tmp 0), none⟩, []⟩,
  ⟨⟨some 13, Op.move (Operand.tmp 2), none⟩, []⟩,
  ⟨⟨some 14, Op.indexAddr 38 (Operand.tmp 12) (Operand.tmp 13), none⟩, []⟩,
  ⟨⟨some 15, Op.load 3 (Operand.tmp 14), none⟩, []⟩,
  ⟨⟨some 16, Op.indexAddr 38 (Operand.tmp 10) (Operand.tmp 11), none⟩, []⟩,
  ⟨⟨none, Op.store 3 (Operand.tmp 16) (Operand.tmp 15), none⟩, []⟩]) (.seq (.reg [⟨⟨some 17, Op.move (Operand.tmp 7), none⟩, []⟩,
  ⟨⟨some 18, Op.move (Operand.tmp 2), none⟩, []⟩,
  ⟨⟨some 19, Op.move (Operand.tmp 0), none⟩, []⟩,
  ⟨⟨some 20, Op.move (Operand.tmp 1), none⟩, []⟩,
  ⟨⟨some 21, Op.indexAddr 38 (Operand.tmp 19) (Operand.tmp 20), none⟩, []⟩,
  ⟨⟨some 22, Op.load 3 (Operand.tmp 21), none⟩, []⟩,
  ⟨⟨some 23, Op.indexAddr 38 (Operand.tmp 17) (Operand.tmp 18), none⟩, []⟩,
  ⟨⟨none, Op.store 3 (Operand.tmp 23) (Operand.tmp 22), none⟩, []⟩]) (.seq (.reg [⟨⟨some 24, Op.move (Operand.tmp 7), none⟩, []⟩,
  ⟨⟨some 6, Op.assign (Operand.tmp 24), none⟩, []⟩]) .ret)))))
theorem sl129 : slim Try.f129.ntmps ords129 (Try.f129.body.getD .skip) = some cd129 := by kernel_rfl
theorem in129 {args : List Value} {H : AH} {R : Value → AH → Prop} (hl : args.length = 3) (h : ∀ (Q : Exit → Sl → AH → Prop), (∀ e s H, endA Try.prog [ResultVar.tmp 6] R e s H → Q e s H) → wpC Try.prog cd129 Q (enterA args) H) : ACalls Try.prog 129 args H R :=
  ACalls.intro (by kernel_rfl) Try.func129 rfl (by kernel_rfl) sl129 hl (of_decide_eq_true (by kernel_rfl)) (by kernel_rfl) h
def ords126 : List (Nat × List (Nat × Bool)) := [(2, [(0, false), (1, false), (2, false), (3, false), (4, false), (5, false), (6, false), (7, false), (8, false), (9, false), (10, false), (11, false), (12, false), (13, false), (14, false), (15, false), (16, false), (17, true), (18, false), (19, true)])]
def cd126 : Cd := (.seq (.reg [⟨⟨some 3, Op.box 81 (Operand.tmp 1), none⟩, []⟩,
  ⟨⟨some 4, Op.assign (Operand.const (Value.slice none 0 0)), none⟩, []⟩]) (.seq (.reg [⟨⟨some 6, Op.move (Operand.tmp 0), none⟩, []⟩,
  ⟨⟨some 7, Op.call { callee := (Callee.value (Operand.func 87)), args := #[(Operand.tmp 6)], argTypes := #[38] }, none⟩, []⟩,
  ⟨⟨some 5, Op.assign (Operand.tmp 7), none⟩, []⟩]) (.seq (.reg [⟨⟨some 8, Op.move (Operand.tmp 5), none⟩, []⟩,
  ⟨⟨some 9, Op.indexAddr 81 (Operand.tmp 3) (Operand.const (Value.int IntKind.i64 0)), none⟩, []⟩,
  ⟨⟨some 10, Op.load 3 (Operand.tmp 9), none⟩, []⟩,
  ⟨⟨some 11, Op.move (Operand.tmp 5), none⟩, []⟩,
  ⟨⟨some 12, Op.indexAddr 81 (Operand.tmp 3) (Operand.const (Value.int IntKind.i64 1)), none⟩, []⟩,
  ⟨⟨some 13, Op.load 3 (Operand.tmp 12), none⟩, []⟩,
  ⟨⟨some 14, Op.move (Operand.tmp 5), none⟩, []⟩,
  ⟨⟨some 15, Op.indexAddr 81 (Operand.tmp 3) (Operand.const (Value.int IntKind.i64 1)), none⟩, []⟩,
  ⟨⟨some 16, Op.load 3 (Operand.tmp 15), none⟩, []⟩,
  ⟨⟨some 17, Op.indexAddr 38 (Operand.tmp 14) (Operand.tmp 16), none⟩, []⟩,
  ⟨⟨some 18, Op.load 3 (Operand.tmp 17), none⟩, []⟩,
  ⟨⟨some 19, Op.move (Operand.tmp 5), none⟩, []⟩,
  ⟨⟨some 20, Op.indexAddr 81 (Operand.tmp 3) (Operand.const (Value.int IntKind.i64 0)), none⟩, []⟩,
  ⟨⟨some 21, Op.load 3 (Operand.tmp 20), none⟩, []⟩,
  ⟨⟨some 22, Op.indexAddr 38 (Operand.tmp 19) (Operand.tmp 21), none⟩, []⟩,
  ⟨⟨some 23, Op.load 3 (Operand.tmp 22), none⟩, []⟩,
  ⟨⟨some 24, Op.indexAddr 38 (Operand.tmp 8) (Operand.tmp 10), none⟩, []⟩,
  ⟨⟨none, Op.store 3 (Operand.tmp 24) (Operand.tmp 18), none⟩, [⟨some 13, Op.load 3 (Operand.tmp 12), none⟩]⟩,
  ⟨⟨some 25, Op.indexAddr 38 (Operand.tmp 11) (Operand.tmp 13), none⟩, []⟩,
  ⟨⟨none, Op.store 3 (Operand.tmp 25) (Operand.tmp 23), none⟩, []⟩]) (.seq (.reg [⟨⟨some 26, Op.move (Operand.tmp 5), none⟩, []⟩,
  ⟨⟨some 4, Op.assign (Operand.tmp 26), none⟩, []⟩]) .ret))))
theorem sl126 : slim Try.f126.ntmps ords126 (Try.f126.body.getD .skip) = some cd126 := by kernel_rfl
theorem in126 {args : List Value} {H : AH} {R : Value → AH → Prop} (hl : args.length = 2) (h : ∀ (Q : Exit → Sl → AH → Prop), (∀ e s H, endA Try.prog [ResultVar.tmp 4] R e s H → Q e s H) → wpC Try.prog cd126 Q (enterA args) H) : ACalls Try.prog 126 args H R :=
  ACalls.intro (by kernel_rfl) Try.func126 rfl (by kernel_rfl) sl126 hl (of_decide_eq_true (by kernel_rfl)) (by kernel_rfl) h
end Go.Proofs.Ytlfongfhbkefmaa.Ai
namespace Go.Proofs.Ytlfongfhbkefmaa.Ai
open Go Go.RowKit
set_option linter.unusedVariables false
set_option linter.unusedSimpArgs false
set_option maxRecDepth 20000 in
theorem l1Own_c (v : Value) (xs : List Int) (H : AH) (hr : Row 3 H v xs) (hlen : xs.length ≤ 1099511627776) : ACalls Try.prog 82 [v] H fun r H' => Own 3 H H' r xs ∧ H <+: H' := by
  refine in82 rfl ?_
  intro Q hQ
  simp (maxSteps := 1000000) (disch := omega) only [cd82, S, S1, S2, S3, S4, S5, ST, eq_self, reduceIte, reduceCtorEq, Nat.reduceEqDiff, Nat.reduceAdd]
  have hp := List.prefix_append H [AObj.cells [] 3 false]
  have ho : Own 3 H (H ++ [AObj.cells [] 3 false]) (.slice (some ⟨H.length, 0, none⟩) 0 0) [] := .inr ⟨H.length, rfl, Nat.le_refl _, at_new ..⟩
  obtain ⟨v', H2, k1, k2, k3, _⟩ := ho.app (P := Try.prog) (t := 38) Try.underlying38 cs3 (by rw [by3]; decide) zk3 (hr.pre hp) hp (by simp; omega)
  simp (maxSteps := 1000000) (disch := omega) only [k1, S, S1, S2, S3, S4, S5, ST, eq_self, reduceIte, reduceCtorEq, Nat.reduceEqDiff, Nat.reduceAdd]
  refine hQ _ _ _ ?_
  simp (maxSteps := 1000000) (disch := omega) only [k2.row.tup, S, S1, S2, S3, S4, S5, ST, eq_self, reduceIte, reduceCtorEq, Nat.reduceEqDiff, Nat.reduceAdd]
  exact ⟨k2, k3⟩
theorem l9At_c (v : Value) (xs : List Int) (x : Int) (H : AH) (hr : Row 3 H v xs) (hlen : xs.length ≤ 1099511627776) (hx : x ∈ xs) :
    ACalls Try.prog 128 [v, .int .i64 x] H fun r H' => r = .int .i64 (ax xs x) ∧ H = H' := by
  refine in128 rfl ?_
  intro Q hQ
  simp (maxSteps := 1000000) (disch := omega) only [cd128, S, S1, S2, S3, S4, S5, ST, eq_self, reduceIte, reduceCtorEq, Nat.reduceEqDiff, Nat.reduceAdd]
  have h0x : 0 ≤ ax xs x := (idxP_any (fun y => decide (x = y)) xs 0).2 (by simpa using hx)
  refine LoopH.by (fun m s H' => ∃ i, m + i = xs.length ∧ s 0 = v ∧ s 1 = .int .i64 x ∧ s 5 = .int .i64 ((i : Nat) : Int) ∧ H = H' ∧ ax xs x = idxP (fun y => decide (x = y)) (xs.drop i) i) xs.length ?_ ?_
  · exact ⟨0, by simp, rfl, rfl, rfl, rfl, by simp [ax]⟩
  · rintro m s H' ⟨i, hm, h0, h1, h5, rfl, hn⟩
    have hi : i < xs.length := by
      by_cases hi : i < xs.length
      · exact hi
      · rw [List.drop_of_length_le (by omega)] at hn
        simp only [idxP] at hn
        omega
    rw [idxP_step _ xs i hi] at hn
    simp (maxSteps := 1000000) (disch := omega) only [h0, h1, h5, hr.ix Try.underlying38 cs3, hr.cell, Int.toNat_natCast, S, S1, S2, S3, S4, S5, ST, eq_self, reduceIte, reduceCtorEq, Nat.reduceEqDiff, Nat.reduceAdd]
    refine brD.intro (fun e => ?_) (fun e => ?_) <;> simp (maxSteps := 1000000) (disch := omega) only [h0, h1, h5, wrap64, S, S1, S2, S3, S4, S5, ST, eq_self, reduceIte, reduceCtorEq, Nat.reduceEqDiff, Nat.reduceAdd]
    · rw [if_neg (by simp only [decide_eq_true_eq]; exact fun h => e h.symm)] at hn
      refine ⟨m - 1, by omega, i + 1, ?_⟩
      (repeat' apply And.intro) <;> first | exact hn | (simp only [Value.int.injEq, true_and]; omega) | omega | rfl | assumption | (simp; done) | (simp; omega)
    · rw [if_pos (by simp only [decide_eq_true_eq]; exact (Decidable.not_not.1 e).symm)] at hn
      refine hQ _ _ _ ?_
      simp (maxSteps := 1000000) (disch := omega) only [S, S1, S2, S3, S4, S5, ST, eq_self, reduceIte, reduceCtorEq, Nat.reduceEqDiff, Nat.reduceAdd]
      rw [hn]
theorem l9Swap_c (v : Value) (xs : List Int) (a b : Nat) (H : AH) (hr : Row 3 H v xs) (hlen : xs.length ≤ 1099511627776) (ha : a < xs.length) (hb : b < xs.length) :
    ACalls Try.prog 129 [v, .int .i64 ((a : Nat) : Int), .int .i64 ((b : Nat) : Int)] H fun r H' => Own 3 H H' r (swp xs a b) ∧ H <+: H' := by
  refine in129 rfl ?_
  intro Q hQ
  simp (maxSteps := 1000000) (disch := omega) only [cd129, S, S1, S2, S3, S4, S5, ST, eq_self, reduceIte, reduceCtorEq, Nat.reduceEqDiff, Nat.reduceAdd]
  refine CallH.by (l1Own_c v xs H hr hlen) ?_
  rintro w H1 ⟨ho, hp⟩
  have hr1 := hr.pre hp
  rcases ho with ⟨_, h2⟩ | ⟨o, rfl, hoo, hc⟩
  · subst h2; simp at ha
  · have hne : v = .slice none 0 0 ∨ rowO v ≠ o := by
      rcases hr.nil with g | g
      · exact .inl g.1
      · exact .inr (by omega)
    have hr2 : Row 3 (H1.set o (.cells (ints (xs.set a (xs.getD b 0))) 3 false)) v xs := by
      refine hr1.mono fun y hy => ?_
      rcases hne with g | g
      · have := hr.nilv g; subst this; simp at ha
      · rw [List.getElem?_set_ne (fun e => g e.symm)]; exact hy
    have hc2 := at_set (d := .cells (ints (xs.set a (xs.getD b 0))) 3 false) hc
    simp (maxSteps := 1000000) (disch := omega) only [hr1.ix Try.underlying38 cs3, hr1.cell, Int.toNat_natCast, Nat.zero_add, st_ints cs3 hc ha, hr2.ix Try.underlying38 cs3, hr2.cell, S, S1, S2, S3, S4, S5, ST, eq_self, reduceIte, reduceCtorEq, Nat.reduceEqDiff, Nat.reduceAdd]
    simp (maxSteps := 1000000) (disch := omega) only [Int.toNat_natCast, Nat.zero_add, st_ints cs3 hc2 (show b < (xs.set a (xs.getD b 0)).length by simpa using hb), S, S1, S2, S3, S4, S5, ST, eq_self, reduceIte, reduceCtorEq, Nat.reduceEqDiff, Nat.reduceAdd]
    refine hQ _ _ _ ?_
    simp (maxSteps := 1000000) (disch := omega) only [List.set_set, S, S1, S2, S3, S4, S5, ST, eq_self, reduceIte, reduceCtorEq, Nat.reduceEqDiff, Nat.reduceAdd]
    refine ⟨.inr ⟨o, by rw [swp_len], hoo, ?_⟩, ?_⟩
    · exact at_set hc
    · exact pre_set hp hoo _
set_option maxRecDepth 20000 in
theorem swapped_c (v : Value) (xs : List Int) (a b : Nat) (H : AH) (hr : Row 3 H v xs) (hlen : xs.length ≤ 1099511627776) (ha : a < xs.length) (hb : b < xs.length) :
    ACalls Try.prog 126 [v, .agg (List.toArray [.int .i64 ((a : Nat) : Int), .int .i64 ((b : Nat) : Int)])] H fun r H' => Own 3 H H' r (swp xs a b) ∧ H <+: H' := by
  refine in126 rfl ?_
  intro Q hQ
  simp (maxSteps := 1000000) (disch := omega) only [cd126, box_a2, S, S1, S2, S3, S4, S5, ST, eq_self, reduceIte, reduceCtorEq, Nat.reduceEqDiff, Nat.reduceAdd]
  generalize hA : H ++ [AObj.cells [.int .i64 ((a : Nat) : Int), .int .i64 ((b : Nat) : Int)] 81 false] = A
  have a0 : A[H.length]? = some (.cells [.int .i64 ((a : Nat) : Int), .int .i64 ((b : Nat) : Int)] 81 false) := by rw [← hA]; exact at_new ..
  have pA : H <+: A := by rw [← hA]; exact List.prefix_append _ _
  have lA : H.length < A.length := by rw [← hA]; simp
  refine CallH.by (Clone_c v xs A (hr.pre pA) hlen) ?_
  rintro w H1 ⟨ho, hp⟩
  rcases ho with ⟨_, h2⟩ | ⟨o, rfl, hoo, hc⟩
  · subst h2; simp at ha
  · have b0 := pre_at hp a0
    have c0 : cellA H1 H.length 0 = some (.int .i64 ((a : Nat) : Int)) := by rw [cell_of b0]; rfl
    have c1 : cellA H1 H.length 1 = some (.int .i64 ((b : Nat) : Int)) := by rw [cell_of b0]; rfl
    have b2 : (H1.set o (.cells (ints (xs.set a (xs.getD b 0))) 3 false))[H.length]? = some (.cells [.int .i64 ((a : Nat) : Int), .int .i64 ((b : Nat) : Int)] 81 false) := by
      rw [List.getElem?_set_ne (by omega)]; exact b0
    have d1 : cellA (H1.set o (.cells (ints (xs.set a (xs.getD b 0))) 3 false)) H.length 1 = some (.int .i64 ((b : Nat) : Int)) := by rw [cell_of b2]; rfl
    have hc2 := at_set (d := .cells (ints (xs.set a (xs.getD b 0))) 3 false) hc
    simp (maxSteps := 1000000) (disch := omega) only [c0, c1, Int.toNat_natCast, Nat.zero_add, cell_ints hc ha, cell_ints hc hb, st_ints cs3 hc ha, d1, st_ints cs3 hc2 (show b < (xs.set a (xs.getD b 0)).length by simpa using hb), S, S1, S2, S3, S4, S5, ST, eq_self, reduceIte, reduceCtorEq, Nat.reduceEqDiff, Nat.reduceAdd]
    refine hQ _ _ _ ?_
    simp (maxSteps := 1000000) (disch := omega) only [List.set_set, S, S1, S2, S3, S4, S5, ST, eq_self, reduceIte, reduceCtorEq, Nat.reduceEqDiff, Nat.reduceAdd]
    refine ⟨.inr ⟨o, by rw [swp_len], by omega, ?_⟩, ?_⟩
    · exact at_set hc
    · exact pre_set (pA.trans hp) (by omega) _
end Go.Proofs.Ytlfongfhbkefmaa.Ai
namespace Go.Proofs.Ytlfongfhbkefmaa.Ai
open Go
def ords68 : List (Nat × List (Nat × Bool)) := []
def cd68 : Cd := (.seq (.reg [⟨⟨some 3, Op.box 31 (Operand.tmp 0), none⟩, []⟩,
  ⟨⟨some 6, Op.assign (Operand.const (Value.slice none 0 0)), none⟩, []⟩]) (.seq (.seq (.reg [⟨⟨some 11, Op.move (Operand.tmp 1), none⟩, []⟩,
  ⟨⟨some 12, Op.call { callee := (Callee.builtin Builtin.len), args := #[(Operand.tmp 11)], argTypes := #[38] }, none⟩, []⟩,
  ⟨⟨some 13, Op.move (Operand.tmp 2), none⟩, []⟩,
  ⟨⟨some 14, Op.binOp BinOp.eql 3 (Operand.tmp 12) (Operand.tmp 13) 3, none⟩, []⟩]) (.cond (Operand.tmp 14) (.seq (.reg [⟨⟨some 15, Op.move (Operand.tmp 1), none⟩, []⟩,
  ⟨⟨some 16, Op.buildSlice 26 1 #[(0, (Operand.tmp 15))], none⟩, []⟩,
  ⟨⟨some 6, Op.assign (Operand.tmp 16), none⟩, []⟩]) .ret) .skip)) (.seq (.reg [⟨⟨some 17, Op.buildSlice 26 0 #[], none⟩, []⟩,
  ⟨⟨some 7, Op.assign (Operand.const (Value.int IntKind.i64 0)), none⟩, []⟩,
  ⟨⟨some 8, Op.assign (Operand.tmp 17), none⟩, []⟩]) (.seq (.seq (.reg [⟨⟨some 18, Op.move (Operand.tmp 1), none⟩, []⟩,
  ⟨⟨some 19, Op.call { callee := (Callee.builtin Builtin.len), args := #[(Operand.tmp 18)], argTypes := #[38] }, none⟩, []⟩,
  ⟨⟨some 20, Op.binOp BinOp.gtr 3 (Operand.tmp 19) (Operand.const (Value.int IntKind.i64 0)) 3, none⟩, []⟩]) (.cond (Operand.tmp 20) (.reg [⟨⟨some 21, Op.move (Operand.tmp 1), none⟩, []⟩,
  ⟨⟨some 22, Op.move (Operand.tmp 1), none⟩, []⟩,
  ⟨⟨some 23, Op.call { callee := (Callee.builtin Builtin.len), args := #[(Operand.tmp 22)], argTypes := #[38] }, none⟩, []⟩,
  ⟨⟨some 24, Op.binOp BinOp.sub 3 (Operand.tmp 23) (Operand.const (Value.int IntKind.i64 1)) 3, none⟩, []⟩,
  ⟨⟨some 25, Op.indexAddr 38 (Operand.tmp 21) (Operand.tmp 24), none⟩, []⟩,
  ⟨⟨some 26, Op.load 3 (Operand.tmp 25), none⟩, []⟩,
  ⟨⟨some 27, Op.binOp BinOp.add 3 (Operand.tmp 26) (Operand.const (Value.int IntKind.i64 1)) 3, none⟩, []⟩,
  ⟨⟨some 7, Op.assign (Operand.tmp 27), none⟩, []⟩]) .skip)) (.seq (.seq (.reg [⟨⟨some 28, Op.move (Operand.tmp 7), none⟩, []⟩,
  ⟨⟨some 9, Op.assign (Operand.tmp 28), none⟩, []⟩]) (.block 0 (.loop (.seq (.seq (.reg [⟨⟨some 29, Op.move (Operand.tmp 9), none⟩, []⟩,
  ⟨⟨some 30, Op.fieldAddr 31 (Operand.tmp 3) 1, none⟩, []⟩,
  ⟨⟨some 31, Op.load 22 (Operand.tmp 30), none⟩, []⟩,
  ⟨⟨some 32, Op.call { callee := (Callee.builtin Builtin.len), args := #[(Operand.tmp 31)], argTypes := #[22] }, none⟩, []⟩,
  ⟨⟨some 33, Op.binOp BinOp.lss 3 (Operand.tmp 29) (Operand.tmp 32) 3, none⟩, []⟩]) (.cond (Operand.tmp 33) .skip (.exit 0))) (.seq (.block 1 (.seq (.reg [⟨⟨some 36, Op.move (Operand.tmp 1), none⟩, []⟩,
  ⟨⟨some 37, Op.call { callee := (Callee.value (Operand.func 82)), args := #[(Operand.tmp 36)], argTypes := #[38] }, none⟩, []⟩,
  ⟨⟨some 38, Op.move (Operand.tmp 9), none⟩, []⟩,
  ⟨⟨some 39, Op.buildSlice 38 1 #[(0, (Operand.tmp 38))], none⟩, []⟩,
  ⟨⟨some 40, Op.call { callee := (Callee.builtin Builtin.append), args := #[(Operand.tmp 37), (Operand.tmp 39)], argTypes := #[38, 38] }, none⟩, []⟩,
  ⟨⟨some 10, Op.assign (Operand.tmp 40), none⟩, []⟩]) (.seq (.reg [⟨⟨some 41, Op.load 31 (Operand.tmp 3), none⟩, []⟩,
  ⟨⟨some 42, Op.move (Operand.tmp 10), none⟩, []⟩,
  ⟨⟨some 43, Op.call { callee := (Callee.value (Operand.func 151)), args := #[(Operand.tmp 41), (Operand.tmp 42)], argTypes := #[31, 38] }, none⟩, []⟩]) (.cond (Operand.tmp 43) (.reg [⟨⟨some 44, Op.move (Operand.tmp 8), none⟩, []⟩,
  ⟨⟨some 45, Op.load 31 (Operand.tmp 3), none⟩, []⟩,
  ⟨⟨some 46, Op.move (Operand.tmp 10), none⟩, []⟩,
  ⟨⟨some 47, Op.move (Operand.tmp 2), none⟩, []⟩,
  ⟨⟨some 48, Op.call { callee := (Callee.value (Operand.func 68)), args := #[(Operand.tmp 45), (Operand.tmp 46), (Operand.tmp 47)], argTypes := #[31, 38, 3] }, none⟩, []⟩,
  ⟨⟨some 49, Op.call { callee := (Callee.builtin Builtin.append), args := #[(Operand.tmp 44), (Operand.tmp 48)], argTypes := #[26, 26] }, none⟩, []⟩,
  ⟨⟨some 8, Op.assign (Operand.tmp 49), none⟩, []⟩]) .skip)))) (.reg [⟨⟨some 34, Op.move (Operand.tmp 9), none⟩, []⟩,
  ⟨⟨some 35, Op.binOp BinOp.add 3 (Operand.tmp 34) (Operand.const (Value.int IntKind.i64 1)) 3, none⟩, []⟩,
  ⟨⟨some 9, Op.assign (Operand.tmp 35), none⟩, []⟩])))))) (.seq (.reg [⟨⟨some 50, Op.move (Operand.tmp 8), none⟩, []⟩,
  ⟨⟨some 6, Op.assign (Operand.tmp 50), none⟩, []⟩]) .ret))))))
theorem sl68 : slim Try.f68.ntmps ords68 (Try.f68.body.getD .skip) = some cd68 := by kernel_rfl
theorem in68 {args : List Value} {H : AH} {R : Value → AH → Prop} (hl : args.length = 3) (h : ∀ (Q : Exit → Sl → AH → Prop), (∀ e s H, endA Try.prog [ResultVar.tmp 6] R e s H → Q e s H) → wpC Try.prog cd68 Q (enterA args) H) : ACalls Try.prog 68 args H R :=
  ACalls.intro (by kernel_rfl) Try.func68 rfl (by kernel_rfl) sl68 hl (of_decide_eq_true (by kernel_rfl)) (by kernel_rfl) h
end Go.Proofs.Ytlfongfhbkefmaa.Ai
namespace Go.Proofs.Ytlfongfhbkefmaa.Ai
open Go Go.RowKit
set_option linter.unusedVariables false
set_option linter.unusedSimpArgs false
theorem mtc_snoc {es : List (Int × Int)} {ed : List Int} {e : Int} (h : Mtc es ed) (he : 0 ≤ e ∧ e < es.length) (hl : 0 < ed.length → ed.getD (ed.length - 1) 0 < e) : Mtc es (ed ++ [e]) ↔ frE es ed e := by
  have hlen : (ed ++ [e]).length = ed.length + 1 := by simp
  have at1 : ∀ i, i < ed.length → (ed ++ [e]).getD i 0 = ed.getD i 0 := fun i hi => by
    rw [List.getD_eq_getElem?_getD, List.getD_eq_getElem?_getD, List.getElem?_append_left hi]
  have at2 : (ed ++ [e]).getD ed.length 0 = e := by
    rw [List.getD_eq_getElem?_getD, List.getElem?_append_right (Nat.le_refl _)]; simp
  have tk1 : ∀ i, i ≤ ed.length → (ed ++ [e]).take i = ed.take i := fun i hi => List.take_append_of_le_length hi
  have tk2 : (ed ++ [e]).take ed.length = ed := by rw [tk1 _ (Nat.le_refl _), List.take_length]
  constructor
  · intro hm
    have := (hm ed.length (by omega)).2
    unfold frOk at this
    rw [at2, tk2] at this
    exact this
  · intro hf i hi
    by_cases hc : i < ed.length
    · obtain ⟨g1, g2⟩ := h i hc
      unfold rsOk at g1 ⊢
      unfold frOk at g2 ⊢
      rw [at1 i hc, tk1 i (by omega)]
      refine ⟨⟨g1.1, fun h0 => ?_⟩, g2⟩
      rw [at1 (i - 1) (by omega)]
      exact g1.2 h0
    · obtain rfl : i = ed.length := by omega
      unfold rsOk frOk
      rw [at2, tk2]
      refine ⟨⟨by omega, fun h0 => ?_⟩, hf⟩
      rw [at1 (ed.length - 1) (by omega)]
      exact hl h0
theorem mlpE_zero (es : List (Int × Int)) (ed : List Int) (j : Nat) : mlpE es 0 ed j = [] := rfl
/-- all that begins with some edges is no more than this -/
def mcap (es : List (Int × Int)) (k : Nat) (ed : List Int) (j : Nat) : Prop := (mext es k ed j).length ≤ 1000000000
set_option maxRecDepth 20000 in
set_option maxHeartbeats 4000000 in
theorem l8Extend_c (v : Value) (n : Int) (es : List (Int × Int)) (hlen : es.length ≤ 28) (k : Nat) (hk : k ≤ 1000000) :
    ∀ (r : Nat) (ed : List Int) (w : Value) (lo : Nat) (H : AH), RowP 81 H v es → InI lo H.length 3 H w ed → lo ≤ H.length → r ≤ es.length → Mtc es ed → ed.length + r ≤ es.length → ed.length ≤ k → (ed.length = 0 → r = es.length) → (0 < ed.length → ed.getD (ed.length - 1) 0 + 1 = ((es.length - r : Nat) : Int)) →
      ACalls Try.prog 68 [.agg (List.toArray [.int .i64 n, v]), w, .int .i64 (k : Int)] H fun g H' => InL lo H'.length 38 3 H' g (mext es r ed k) ∧ (mext es r ed k).length ≤ 2 ^ r ∧ H <+: H' := by
  intro r
  induction r using Nat.strongRecOn with
  | ind r ih =>
  intro ed w lo H hr hw hlo hrl hm hel hek hz hlast
  have hrow := hw.row.1
  refine in68 rfl ?_
  intro Q hQ
  simp (maxSteps := 1000000) (disch := omega) only [cd68, hr.boxG, hrow.len Try.underlying38, S, S1, S2, S3, S4, S5, ST, eq_self, reduceIte, reduceCtorEq, Nat.reduceEqDiff, Nat.reduceAdd]
  generalize hA : H ++ [AObj.cells [.int .i64 n, v] 31 false] = A
  have pA : H <+: A := by rw [← hA]; exact List.prefix_append _ _
  have cA : A[H.length]? = some (.cells [.int .i64 n, v] 31 false) := by rw [← hA]; exact at_new ..
  have rA := hr.pre pA
  have wA := hrow.pre pA
  refine brD.intro (fun e => ?_) (fun e => ?_)
  · have hek' : ed.length = k := by omega
    have hbs : buildSliceA Try.prog 26 1 [(0, w)] A = some (.slice (some ⟨A.length, 0, none⟩) 1 1, A ++ [.cells [w] 38 false]) := by
      obtain ⟨q, eq⟩ := hrow.shape
      rw [eq]
      exact bs1 Try.underlying26 cs38 ze38 ⟨by kernel_rfl, by kernel_rfl⟩ A rfl
    simp (maxSteps := 1000000) (disch := omega) only [hbs, S, S1, S2, S3, S4, S5, ST, eq_self, reduceIte, reduceCtorEq, Nat.reduceEqDiff, Nat.reduceAdd]
    refine hQ _ _ _ ?_
    simp (maxSteps := 1000000) (disch := omega) only [S, S1, S2, S3, S4, S5, ST, eq_self, reduceIte, reduceCtorEq, Nat.reduceEqDiff, Nat.reduceAdd]
    rw [← hek', mext_done]
    refine ⟨.inr ⟨A.length, [w], rfl, ?_⟩, by simp; exact Nat.one_le_two_pow, pre_app pA _⟩
    have lA := pA.length_le
    refine ⟨by omega, by simp, at_new .., by simp, ?_, ?_⟩
    · intro i hi
      have hi0 : i = 0 := by simpa using hi
      subst hi0
      refine ⟨((hw.pre pA).pre (List.prefix_append A _)).wide (Nat.le_refl _) (by simp; omega), ?_⟩
      rcases hw.at_ with q | q
      · exact .inl q
      · refine .inr ?_
        show rowO w ≠ A.length
        omega
    · intro i j hij hi hj
      simp at hi hj; omega
  have hek' : ed.length ≠ k := by omega
  rw [mext_loop es r ed k hek'] at hQ
  have e1 : ((ed.length : Int) - 1).toNat = ed.length - 1 := by omega
  have u0 := InU.new lo 38 3 A (by have := pA.length_le; omega)
  have hP : ∀ j, 2 ^ (j + 1) = 2 ^ j + 2 ^ j := fun j => by rw [Nat.pow_succ]; omega
  have hPr : 2 ^ r ≤ 2 ^ 28 := Nat.pow_le_pow_right (by decide) (by omega)
  simp (maxSteps := 1000000) (disch := omega) only [e, wA.len Try.underlying38, S, S1, S2, S3, S4, S5, ST, eq_self, reduceIte, reduceCtorEq, Nat.reduceEqDiff, Nat.reduceAdd]
  refine brD.intro (fun g => ?_) (fun g => ?_)
  · have hl' := hlast (by omega)
    have wB := wA.pre (List.prefix_append A [AObj.cells [] 38 false])
    simp (maxSteps := 1000000) (disch := omega) only [g, e1, wB.len Try.underlying38, wB.ix Try.underlying38 cs3, wB.cell, hl', wrap64, S, S1, S2, S3, S4, S5, ST, eq_self, reduceIte, reduceCtorEq, Nat.reduceEqDiff, Nat.reduceAdd]
    refine LoopH.by (fun m s H' => ∃ o us L, m ≤ r ∧ s 1 = w ∧ s 2 = .int .i64 (k : Int) ∧ s 3 = .pointer (some ⟨H.length, 0, none⟩) ∧ s 8 = .slice (some ⟨o, 0, none⟩) L.length L.length ∧ s 9 = .int .i64 ((es.length - m : Nat) : Int) ∧ A.length ≤ o ∧ InU lo H'.length 38 3 H' o us L ∧ L ++ mlpE es m ed k = mlpE es r ed k ∧ L.length + 2 ^ m ≤ 2 ^ r ∧ A <+: H') r ?_ ?_
    · refine ⟨A.length, [], [], Nat.le_refl _, rfl, rfl, rfl, rfl, rfl, Nat.le_refl _, ?_, rfl, by simp, List.prefix_append _ _⟩
      simpa using u0
    · rintro m s H' ⟨o, us, L, hmr, h1, h2, h3, h8, h9, hoA, hin, hL, hcnt, hp⟩
      have hrH := rA.pre hp
      have cH := pre_at hp cA
      have wH := wA.pre hp
      simp (maxSteps := 1000000) (disch := omega) only [h1, h2, h3, h8, h9, cell_of cH, hrH.len Try.underlying22, S, S1, S2, S3, S4, S5, ST, eq_self, reduceIte, reduceCtorEq, Nat.reduceEqDiff, Nat.reduceAdd]
      refine brD.intro (fun g3 => ?_) (fun g3 => ?_)
      · obtain ⟨i, rfl⟩ : ∃ i, m = i + 1 := ⟨m - 1, by omega⟩
        have he1 : ((es.length - (i + 1) : Nat) : Int) + 1 = ((es.length - i : Nat) : Int) := by omega
        have hstep := mlpE_step es i ed k
        have hpw := hP i
        have hpos : 1 ≤ 2 ^ i := Nat.one_le_two_pow
        generalize he : es.length - (i + 1) = e' at *
        simp (maxSteps := 1000000) (disch := omega) only [h1, h2, h3, h8, h9, S, S1, S2, S3, S4, S5, ST, eq_self, reduceIte, reduceCtorEq, Nat.reduceEqDiff, Nat.reduceAdd]
        refine CallH.by (l1Own_c w ed H' wH (by omega)) ?_
        rintro c D ⟨hc, pD⟩
        obtain ⟨w', H2, k1, k2, k3, k4, k5, k6⟩ := own1_38 hc pD (by omega) (e' : Int)
        have hp2 := hp.trans k3
        have cH2 := pre_at hp2 cA
        simp (maxSteps := 1000000) (disch := omega) only [h1, h2, h3, h8, h9, k1, ld_agg ag31 cs31 cH2, S, S1, S2, S3, S4, S5, ST, eq_self, reduceIte, reduceCtorEq, Nat.reduceEqDiff, Nat.reduceAdd]
        refine CallH.by (l8Matches_c n v w' es (ed ++ [(e' : Int)]) H2 (rA.pre hp2) k2.row (by omega) (by simp; omega)) ?_
        rintro _ H3 ⟨rfl, p3⟩
        have hp3 := hp2.trans p3
        have pH3 := k3.trans p3
        have cH3 := pre_at hp3 cA
        have hsn := mtc_snoc (e := (e' : Int)) hm (by omega) (fun h0 => by have := hlast h0; omega)
        simp (maxSteps := 1000000) (disch := omega) only [S, S1, S2, S3, S4, S5, ST, eq_self, reduceIte, reduceCtorEq, Nat.reduceEqDiff, Nat.reduceAdd]
        refine brD.intro (fun g4 => ?_) (fun g4 => ?_)
        · have hfe := hsn.1 g4
          rw [if_pos hfe] at hstep
          simp (maxSteps := 1000000) (disch := omega) only [g4, h1, h2, h3, h8, h9, ld_agg ag31 cs31 cH3, S, S1, S2, S3, S4, S5, ST, eq_self, reduceIte, reduceCtorEq, Nat.reduceEqDiff, Nat.reduceAdd]
          have hI' : InI H'.length H3.length 3 H3 w' (ed ++ [(e' : Int)]) := ((InI.of k2.mine).pre p3).wide (Nat.le_refl _) p3.length_le
          refine CallH.by (ih i (by omega) (ed ++ [(e' : Int)]) w' H'.length H3 (rA.pre hp3) hI' pH3.length_le (by omega) g4 (by simp; omega) (by simp; omega) (fun h0 => by simp at h0) (fun _ => ?_)) ?_
          · have : (ed ++ [(e' : Int)]).getD ((ed ++ [(e' : Int)]).length - 1) 0 = (e' : Int) := by
              rw [List.length_append, List.getD_eq_getElem?_getD, List.getElem?_append_right (by simp)]; simp
            rw [this]; exact he1
          rintro gL H4 ⟨hgL, hcL, p4⟩
          have lH' := hp.length_le
          have lA := pA.length_le
          have l3 := (pH3.trans p4).length_le
          obtain ⟨v', H5, o', us', q1, q2, q3, q4, q5, q6⟩ := (hin.pre (pH3.trans p4)).appL (P := Try.prog) (t2 := 26) Try.underlying26 cs38 (by rw [by38]; decide) zk38 hgL (by omega) l3 (Nat.le_refl _) (by omega)
          have f1 : A <+: H5 := prefix_of fun j x hx' => q5 j x (by have := at_lt hx'; omega) (pre_at (hp3.trans p4) hx')
          have f2 : (L ++ mext es i (ed ++ [(e' : Int)]) k) ++ mlpE es i ed k = mlpE es r ed k := by
            rw [← hL, hstep, List.append_assoc]
          have f3 : (L ++ mext es i (ed ++ [(e' : Int)]) k).length + 2 ^ i ≤ 2 ^ r := by rw [List.length_append]; omega
          simp (maxSteps := 1000000) (disch := omega) only [h1, h2, h3, h8, h9, q1, q2, he1, wrap64, S, S1, S2, S3, S4, S5, ST, eq_self, reduceIte, reduceCtorEq, Nat.reduceEqDiff, Nat.reduceAdd]
          have f4 : A.length ≤ o' := by have := (hp3.trans p4).length_le; omega
          refine ⟨i, by omega, o', us', L ++ mext es i (ed ++ [(e' : Int)]) k, ?_⟩
          (repeat' first | exact f1 | exact f2 | exact f3 | exact f4 | exact q3 | apply And.intro) <;> first | (simp only [Value.int.injEq, true_and]; omega) | omega | rfl | assumption | (simp; done) | (simp; omega)
        · rw [if_neg (fun h => g4 (hsn.2 h)), List.nil_append] at hstep
          rw [hstep] at hL
          have f1 := (hin.pre pH3).wide (Nat.le_refl _) pH3.length_le
          have f2 : L.length + 2 ^ i ≤ 2 ^ r := by omega
          simp (maxSteps := 1000000) (disch := omega) only [g4, h1, h2, h3, h8, h9, he1, wrap64, S, S1, S2, S3, S4, S5, ST, eq_self, reduceIte, reduceCtorEq, Nat.reduceEqDiff, Nat.reduceAdd]
          refine ⟨i, by omega, o, us, L, ?_⟩
          (repeat' first | exact f1 | exact f2 | exact hp3 | exact hL | apply And.intro) <;> first | (simp only [Value.int.injEq, true_and]; omega) | omega | rfl | assumption | (simp; done) | (simp; omega)
      · have hm0 : m = 0 := by omega
        subst hm0
        rw [mlpE_zero, List.append_nil] at hL
        simp (maxSteps := 1000000) (disch := omega) only [h8, S, S1, S2, S3, S4, S5, ST, eq_self, reduceIte, reduceCtorEq, Nat.reduceEqDiff, Nat.reduceAdd]
        refine hQ _ _ _ ?_
        simp (maxSteps := 1000000) (disch := omega) only [h8, S, S1, S2, S3, S4, S5, ST, eq_self, reduceIte, reduceCtorEq, Nat.reduceEqDiff, Nat.reduceAdd]
        rw [← hL]
        exact ⟨hin.inl, by omega, pA.trans hp⟩
  · have hz' := hz (by omega)
    have hl' : (0 : Int) = ((es.length - r : Nat) : Int) := by omega
    simp (maxSteps := 1000000) (disch := omega) only [g, S, S1, S2, S3, S4, S5, ST, eq_self, reduceIte, reduceCtorEq, Nat.reduceEqDiff, Nat.reduceAdd]
    refine LoopH.by (fun m s H' => ∃ o us L, m ≤ r ∧ s 1 = w ∧ s 2 = .int .i64 (k : Int) ∧ s 3 = .pointer (some ⟨H.length, 0, none⟩) ∧ s 8 = .slice (some ⟨o, 0, none⟩) L.length L.length ∧ s 9 = .int .i64 ((es.length - m : Nat) : Int) ∧ A.length ≤ o ∧ InU lo H'.length 38 3 H' o us L ∧ L ++ mlpE es m ed k = mlpE es r ed k ∧ L.length + 2 ^ m ≤ 2 ^ r ∧ A <+: H') r ?_ ?_
    · refine ⟨A.length, [], [], Nat.le_refl _, rfl, rfl, rfl, rfl, ?_, Nat.le_refl _, ?_, rfl, by simp, List.prefix_append _ _⟩
      · rw [← hl']; rfl
      · simpa using u0
    · rintro m s H' ⟨o, us, L, hmr, h1, h2, h3, h8, h9, hoA, hin, hL, hcnt, hp⟩
      have hrH := rA.pre hp
      have cH := pre_at hp cA
      have wH := wA.pre hp
      simp (maxSteps := 1000000) (disch := omega) only [h1, h2, h3, h8, h9, cell_of cH, hrH.len Try.underlying22, S, S1, S2, S3, S4, S5, ST, eq_self, reduceIte, reduceCtorEq, Nat.reduceEqDiff, Nat.reduceAdd]
      refine brD.intro (fun g3 => ?_) (fun g3 => ?_)
      · obtain ⟨i, rfl⟩ : ∃ i, m = i + 1 := ⟨m - 1, by omega⟩
        have he1 : ((es.length - (i + 1) : Nat) : Int) + 1 = ((es.length - i : Nat) : Int) := by omega
        have hstep := mlpE_step es i ed k
        have hpw := hP i
        have hpos : 1 ≤ 2 ^ i := Nat.one_le_two_pow
        generalize he : es.length - (i + 1) = e' at *
        simp (maxSteps := 1000000) (disch := omega) only [h1, h2, h3, h8, h9, S, S1, S2, S3, S4, S5, ST, eq_self, reduceIte, reduceCtorEq, Nat.reduceEqDiff, Nat.reduceAdd]
        refine CallH.by (l1Own_c w ed H' wH (by omega)) ?_
        rintro c D ⟨hc, pD⟩
        obtain ⟨w', H2, k1, k2, k3, k4, k5, k6⟩ := own1_38 hc pD (by omega) (e' : Int)
        have hp2 := hp.trans k3
        have cH2 := pre_at hp2 cA
        simp (maxSteps := 1000000) (disch := omega) only [h1, h2, h3, h8, h9, k1, ld_agg ag31 cs31 cH2, S, S1, S2, S3, S4, S5, ST, eq_self, reduceIte, reduceCtorEq, Nat.reduceEqDiff, Nat.reduceAdd]
        refine CallH.by (l8Matches_c n v w' es (ed ++ [(e' : Int)]) H2 (rA.pre hp2) k2.row (by omega) (by simp; omega)) ?_
        rintro _ H3 ⟨rfl, p3⟩
        have hp3 := hp2.trans p3
        have pH3 := k3.trans p3
        have cH3 := pre_at hp3 cA
        have hsn := mtc_snoc (e := (e' : Int)) hm (by omega) (fun h0 => by have := hlast h0; omega)
        simp (maxSteps := 1000000) (disch := omega) only [S, S1, S2, S3, S4, S5, ST, eq_self, reduceIte, reduceCtorEq, Nat.reduceEqDiff, Nat.reduceAdd]
        refine brD.intro (fun g4 => ?_) (fun g4 => ?_)
        · have hfe := hsn.1 g4
          rw [if_pos hfe] at hstep
          simp (maxSteps := 1000000) (disch := omega) only [g4, h1, h2, h3, h8, h9, ld_agg ag31 cs31 cH3, S, S1, S2, S3, S4, S5, ST, eq_self, reduceIte, reduceCtorEq, Nat.reduceEqDiff, Nat.reduceAdd]
          have hI' : InI H'.length H3.length 3 H3 w' (ed ++ [(e' : Int)]) := ((InI.of k2.mine).pre p3).wide (Nat.le_refl _) p3.length_le
          refine CallH.by (ih i (by omega) (ed ++ [(e' : Int)]) w' H'.length H3 (rA.pre hp3) hI' pH3.length_le (by omega) g4 (by simp; omega) (by simp; omega) (fun h0 => by simp at h0) (fun _ => ?_)) ?_
          · have : (ed ++ [(e' : Int)]).getD ((ed ++ [(e' : Int)]).length - 1) 0 = (e' : Int) := by
              rw [List.length_append, List.getD_eq_getElem?_getD, List.getElem?_append_right (by simp)]; simp
            rw [this]; exact he1
          rintro gL H4 ⟨hgL, hcL, p4⟩
          have lH' := hp.length_le
          have lA := pA.length_le
          have l3 := (pH3.trans p4).length_le
          obtain ⟨v', H5, o', us', q1, q2, q3, q4, q5, q6⟩ := (hin.pre (pH3.trans p4)).appL (P := Try.prog) (t2 := 26) Try.underlying26 cs38 (by rw [by38]; decide) zk38 hgL (by omega) l3 (Nat.le_refl _) (by omega)
          have f1 : A <+: H5 := prefix_of fun j x hx' => q5 j x (by have := at_lt hx'; omega) (pre_at (hp3.trans p4) hx')
          have f2 : (L ++ mext es i (ed ++ [(e' : Int)]) k) ++ mlpE es i ed k = mlpE es r ed k := by
            rw [← hL, hstep, List.append_assoc]
          have f3 : (L ++ mext es i (ed ++ [(e' : Int)]) k).length + 2 ^ i ≤ 2 ^ r := by rw [List.length_append]; omega
          simp (maxSteps := 1000000) (disch := omega) only [h1, h2, h3, h8, h9, q1, q2, he1, wrap64, S, S1, S2, S3, S4, S5, ST, eq_self, reduceIte, reduceCtorEq, Nat.reduceEqDiff, Nat.reduceAdd]
          have f4 : A.length ≤ o' := by have := (hp3.trans p4).length_le; omega
          refine ⟨i, by omega, o', us', L ++ mext es i (ed ++ [(e' : Int)]) k, ?_⟩
          (repeat' first | exact f1 | exact f2 | exact f3 | exact f4 | exact q3 | apply And.intro) <;> first | (simp only [Value.int.injEq, true_and]; omega) | omega | rfl | assumption | (simp; done) | (simp; omega)
        · rw [if_neg (fun h => g4 (hsn.2 h)), List.nil_append] at hstep
          rw [hstep] at hL
          have f1 := (hin.pre pH3).wide (Nat.le_refl _) pH3.length_le
          have f2 : L.length + 2 ^ i ≤ 2 ^ r := by omega
          simp (maxSteps := 1000000) (disch := omega) only [g4, h1, h2, h3, h8, h9, he1, wrap64, S, S1, S2, S3, S4, S5, ST, eq_self, reduceIte, reduceCtorEq, Nat.reduceEqDiff, Nat.reduceAdd]
          refine ⟨i, by omega, o, us, L, ?_⟩
          (repeat' first | exact f1 | exact f2 | exact hp3 | exact hL | apply And.intro) <;> first | (simp only [Value.int.injEq, true_and]; omega) | omega | rfl | assumption | (simp; done) | (simp; omega)
      · have hm0 : m = 0 := by omega
        subst hm0
        rw [mlpE_zero, List.append_nil] at hL
        simp (maxSteps := 1000000) (disch := omega) only [h8, S, S1, S2, S3, S4, S5, ST, eq_self, reduceIte, reduceCtorEq, Nat.reduceEqDiff, Nat.reduceAdd]
        refine hQ _ _ _ ?_
        simp (maxSteps := 1000000) (disch := omega) only [h8, S, S1, S2, S3, S4, S5, ST, eq_self, reduceIte, reduceCtorEq, Nat.reduceEqDiff, Nat.reduceAdd]
        rw [← hL]
        exact ⟨hin.inl, by omega, pA.trans hp⟩
end Go.Proofs.Ytlfongfhbkefmaa.Ai
namespace Go.Proofs.Ytlfongfhbkefmaa.Ai
open Go
def ords125 : List (Nat × List (Nat × Bool)) := []
def cd125 : Cd := (.seq (.reg [⟨⟨some 4, Op.assign (Operand.const (Value.int IntKind.i64 0)), none⟩, []⟩]) (.seq (.seq (.reg [⟨⟨some 6, Op.move (Operand.tmp 0), none⟩, []⟩,
  ⟨⟨some 7, Op.call { callee := (Callee.builtin Builtin.len), args := #[(Operand.tmp 6)], argTypes := #[38] }, none⟩, []⟩,
  ⟨⟨some 8, Op.move (Operand.const (Value.int IntKind.i64 0)), none⟩, []⟩]) (.block 0 (.loop (.seq (.reg [⟨⟨some 9, Op.binOp BinOp.lss 3 (Operand.tmp 8) (Operand.tmp 7) 3, none⟩, []⟩]) (.seq (.cond (Operand.tmp 9) .skip (.exit 0)) (.seq (.block 1 (.seq (.reg [⟨⟨some 10, Op.move (Operand.tmp 8), none⟩, []⟩,
  ⟨⟨some 5, Op.assign (Operand.tmp 10), none⟩, []⟩]) (.seq (.reg [⟨⟨some 11, Op.move (Operand.tmp 1), none⟩, []⟩,
  ⟨⟨some 12, Op.move (Operand.tmp 0), none⟩, []⟩,
  ⟨⟨some 13, Op.move (Operand.tmp 5), none⟩, []⟩,
  ⟨⟨some 14, Op.indexAddr 38 (Operand.tmp 12) (Operand.tmp 13), none⟩, []⟩,
  ⟨⟨some 15, Op.load 3 (Operand.tmp 14), none⟩, []⟩,
  ⟨⟨some 16, Op.binOp BinOp.eql 3 (Operand.tmp 11) (Operand.tmp 15) 3, none⟩, []⟩]) (.cond (Operand.tmp 16) (.seq (.reg [⟨⟨some 17, Op.move (Operand.tmp 5), none⟩, []⟩,
  ⟨⟨some 4, Op.assign (Operand.tmp 17), none⟩, []⟩]) .ret) .skip)))) (.reg [⟨⟨some 18, Op.binOp BinOp.add 3 (Operand.tmp 8) (Operand.const (Value.int IntKind.i64 1)) 3, none⟩, []⟩,
  ⟨⟨some 8, Op.move (Operand.tmp 18), none⟩, []⟩]))))))) (.seq (.reg [⟨⟨some 4, Op.assign (Operand.const (Value.int IntKind.i64 (-1))), none⟩, []⟩]) .ret)))
theorem sl125 : slim Try.f125.ntmps ords125 (Try.f125.body.getD .skip) = some cd125 := by kernel_rfl
theorem in125 {args : List Value} {H : AH} {R : Value → AH → Prop} (hl : args.length = 2) (h : ∀ (Q : Exit → Sl → AH → Prop), (∀ e s H, endA Try.prog [ResultVar.tmp 4] R e s H → Q e s H) → wpC Try.prog cd125 Q (enterA args) H) : ACalls Try.prog 125 args H R :=
  ACalls.intro (by kernel_rfl) Try.func125 rfl (by kernel_rfl) sl125 hl (of_decide_eq_true (by kernel_rfl)) (by kernel_rfl) h
def ords88 : List (Nat × List (Nat × Bool)) := []
def cd88 : Cd := (.seq (.reg [⟨⟨some 4, Op.assign (Operand.const (Value.bool false)), none⟩, []⟩]) (.seq (.reg [⟨⟨some 5, Op.move (Operand.tmp 0), none⟩, []⟩,
  ⟨⟨some 6, Op.move (Operand.tmp 1), none⟩, []⟩,
  ⟨⟨some 7, Op.call { callee := (Callee.value (Operand.func 125)), args := #[(Operand.tmp 5), (Operand.tmp 6)], argTypes := #[38, 3] }, none⟩, []⟩,
  ⟨⟨some 8, Op.binOp BinOp.geq 3 (Operand.tmp 7) (Operand.const (Value.int IntKind.i64 0)) 3, none⟩, []⟩,
  ⟨⟨some 4, Op.assign (Operand.tmp 8), none⟩, []⟩]) .ret))
theorem sl88 : slim Try.f88.ntmps ords88 (Try.f88.body.getD .skip) = some cd88 := by kernel_rfl
theorem in88 {args : List Value} {H : AH} {R : Value → AH → Prop} (hl : args.length = 2) (h : ∀ (Q : Exit → Sl → AH → Prop), (∀ e s H, endA Try.prog [ResultVar.tmp 4] R e s H → Q e s H) → wpC Try.prog cd88 Q (enterA args) H) : ACalls Try.prog 88 args H R :=
  ACalls.intro (by kernel_rfl) Try.func88 rfl (by kernel_rfl) sl88 hl (of_decide_eq_true (by kernel_rfl)) (by kernel_rfl) h
end Go.Proofs.Ytlfongfhbkefmaa.Ai
namespace Go.Proofs.Ytlfongfhbkefmaa.Ai
open Go Go.RowKit
set_option linter.unusedVariables false
set_option linter.unusedSimpArgs false
/-- the place of a number, or -1 -/
theorem Index_c (v : Value) (xs : List Int) (x : Int) (H : AH) (hr : Row 3 H v xs) (hlen : xs.length ≤ 1099511627776) :
    ACalls Try.prog 125 [v, .int .i64 x] H fun r H' => r = .int .i64 (idxP (fun y => decide (x = y)) xs 0) ∧ H = H' := by
  refine in125 rfl ?_
  intro Q hQ
  simp (maxSteps := 1000000) (disch := omega) only [cd125, hr.len Try.underlying38, S, S1, S2, S3, S4, S5, ST, eq_self, reduceIte, reduceCtorEq, Nat.reduceEqDiff, Nat.reduceAdd]
  refine LoopH.by (fun m s H' => ∃ i, m + i = xs.length ∧ s 0 = v ∧ s 1 = .int .i64 x ∧ s 7 = .int .i64 (xs.length : Int) ∧ s 8 = .int .i64 ((i : Nat) : Int) ∧ H = H' ∧ idxP (fun y => decide (x = y)) xs 0 = idxP (fun y => decide (x = y)) (xs.drop i) i) xs.length ?_ ?_
  · exact ⟨0, by simp, rfl, rfl, rfl, rfl, rfl, by simp⟩
  · rintro m s H' ⟨i, hm, h0, h1, h7, h8, rfl, hn⟩
    simp (maxSteps := 1000000) (disch := omega) only [h0, h1, h7, h8, S, S1, S2, S3, S4, S5, ST, eq_self, reduceIte, reduceCtorEq, Nat.reduceEqDiff, Nat.reduceAdd]
    refine brD.intro (fun g => ?_) (fun g => ?_) <;> simp (maxSteps := 1000000) (disch := omega) only [h0, h1, h8, h7, hr.ix Try.underlying38 cs3, hr.cell, Int.toNat_natCast, S, S1, S2, S3, S4, S5, ST, eq_self, reduceIte, reduceCtorEq, Nat.reduceEqDiff, Nat.reduceAdd]
    · have hi : i < xs.length := by omega
      rw [idxP_step _ xs i hi] at hn
      refine brD.intro (fun e => ?_) (fun e => ?_) <;> simp (maxSteps := 1000000) (disch := omega) only [h0, h1, h7, h8, wrap64, S, S1, S2, S3, S4, S5, ST, eq_self, reduceIte, reduceCtorEq, Nat.reduceEqDiff, Nat.reduceAdd]
      · refine hQ _ _ _ ?_
        simp (maxSteps := 1000000) (disch := omega) only [S, S1, S2, S3, S4, S5, ST, eq_self, reduceIte, reduceCtorEq, Nat.reduceEqDiff, Nat.reduceAdd]
        rw [hn, if_pos (by simpa using e)]
      · rw [if_neg (by simpa using e)] at hn
        refine ⟨m - 1, by omega, i + 1, by omega, ?_⟩
        (repeat' apply And.intro) <;> first | exact hn | (simp only [Value.int.injEq, true_and]; omega) | omega | rfl | assumption | (simp; done) | (simp; omega)
    · refine hQ _ _ _ ?_
      simp (maxSteps := 1000000) (disch := omega) only [S, S1, S2, S3, S4, S5, ST, eq_self, reduceIte, reduceCtorEq, Nat.reduceEqDiff, Nat.reduceAdd]
      rw [hn, List.drop_of_length_le (by omega)]; rfl
theorem Contains_c (v : Value) (xs : List Int) (x : Int) (H : AH) (hr : Row 3 H v xs) (hlen : xs.length ≤ 1099511627776) :
    ACalls Try.prog 88 [v, .int .i64 x] H fun r H' => r = .bool (decide (x ∈ xs)) ∧ H = H' := by
  refine in88 rfl ?_
  intro Q hQ
  simp (maxSteps := 1000000) (disch := omega) only [cd88, S, S1, S2, S3, S4, S5, ST, eq_self, reduceIte, reduceCtorEq, Nat.reduceEqDiff, Nat.reduceAdd]
  refine CallH.by (Index_c v xs x H hr hlen) ?_
  rintro _ _ ⟨rfl, rfl⟩
  simp (maxSteps := 1000000) (disch := omega) only [S, S1, S2, S3, S4, S5, ST, eq_self, reduceIte, reduceCtorEq, Nat.reduceEqDiff, Nat.reduceAdd]
  refine hQ _ _ _ ?_
  simp (maxSteps := 1000000) (disch := omega) only [S, S1, S2, S3, S4, S5, ST, eq_self, reduceIte, reduceCtorEq, Nat.reduceEqDiff, Nat.reduceAdd]
  have h1 := idxP_any (fun y => decide (x = y)) xs 0
  have h2 : xs.any (fun y => decide (x = y)) = true ↔ x ∈ xs := by simp
  have : (0 ≤ idxP (fun y => decide (x = y)) xs 0) ↔ x ∈ xs := h1.trans h2
  simp only [this]
end Go.Proofs.Ytlfongfhbkefmaa.Ai
namespace Go.Proofs.Ytlfongfhbkefmaa.Ai
open Go
def ords241 : List (Nat × List (Nat × Bool)) := []
def cd241 : Cd := (.seq (.reg [⟨⟨some 4, Op.assign (Operand.const (Value.slice none 0 0)), none⟩, []⟩]) (.seq (.reg [⟨⟨some 8, Op.buildSlice 38 0 #[], none⟩, []⟩,
  ⟨⟨some 5, Op.assign (Operand.tmp 8), none⟩, []⟩]) (.seq (.seq (.reg [⟨⟨some 9, Op.move (Operand.tmp 0), none⟩, []⟩,
  ⟨⟨some 10, Op.call { callee := (Callee.builtin Builtin.len), args := #[(Operand.tmp 9)], argTypes := #[38] }, none⟩, []⟩,
  ⟨⟨some 11, Op.move (Operand.const (Value.int IntKind.i64 0)), none⟩, []⟩]) (.block 0 (.loop (.seq (.reg [⟨⟨some 12, Op.binOp BinOp.lss 3 (Operand.tmp 11) (Operand.tmp 10) 3, none⟩, []⟩]) (.seq (.cond (Operand.tmp 12) .skip (.exit 0)) (.seq (.block 1 (.seq (.reg [⟨⟨some 13, Op.indexAddr 38 (Operand.tmp 9) (Operand.tmp 11), none⟩, []⟩,
  ⟨⟨some 14, Op.load 3 (Operand.tmp 13), none⟩, []⟩,
  ⟨⟨some 7, Op.assign (Operand.tmp 14), none⟩, []⟩]) (.seq (.reg [⟨⟨some 15, Op.move (Operand.tmp 1), none⟩, []⟩,
  ⟨⟨some 16, Op.move (Operand.tmp 7), none⟩, []⟩,
  ⟨⟨some 17, Op.call { callee := (Callee.value (Operand.func 88)), args := #[(Operand.tmp 15), (Operand.tmp 16)], argTypes := #[38, 3] }, none⟩, []⟩,
  ⟨⟨some 18, Op.unOp UnOp.not 4 (Operand.tmp 17), none⟩, []⟩]) (.cond (Operand.tmp 18) (.reg [⟨⟨some 19, Op.move (Operand.tmp 5), none⟩, []⟩,
  ⟨⟨some 20, Op.move (Operand.tmp 7), none⟩, []⟩,
  ⟨⟨some 21, Op.buildSlice 38 1 #[(0, (Operand.tmp 20))], none⟩, []⟩,
  ⟨⟨some 22, Op.call { callee := (Callee.builtin Builtin.append), args := #[(Operand.tmp 19), (Operand.tmp 21)], argTypes := #[38, 38] }, none⟩, []⟩,
  ⟨⟨some 5, Op.assign (Operand.tmp 22), none⟩, []⟩]) .skip)))) (.reg [⟨⟨some 23, Op.binOp BinOp.add 3 (Operand.tmp 11) (Operand.const (Value.int IntKind.i64 1)) 3, none⟩, []⟩,
  ⟨⟨some 11, Op.move (Operand.tmp 23), none⟩, []⟩]))))))) (.seq (.reg [⟨⟨some 24, Op.move (Operand.tmp 5), none⟩, []⟩,
  ⟨⟨some 4, Op.assign (Operand.tmp 24), none⟩, []⟩]) .ret))))
theorem sl241 : slim Try.f241.ntmps ords241 (Try.f241.body.getD .skip) = some cd241 := by kernel_rfl
theorem in241 {args : List Value} {H : AH} {R : Value → AH → Prop} (hl : args.length = 2) (h : ∀ (Q : Exit → Sl → AH → Prop), (∀ e s H, endA Try.prog [ResultVar.tmp 4] R e s H → Q e s H) → wpC Try.prog cd241 Q (enterA args) H) : ACalls Try.prog 241 args H R :=
  ACalls.intro (by kernel_rfl) Try.func241 rfl (by kernel_rfl) sl241 hl (of_decide_eq_true (by kernel_rfl)) (by kernel_rfl) h
end Go.Proofs.Ytlfongfhbkefmaa.Ai
namespace Go.Proofs.Ytlfongfhbkefmaa.Ai
open Go Go.RowKit
set_option linter.unusedVariables false
set_option linter.unusedSimpArgs false
/-- what of a list another one does not have -/
def without (xs ys : List Int) : List Int := xs.filter fun x => decide (¬ x ∈ ys)
theorem without_step (xs ys : List Int) (i : Nat) (hi : i < xs.length) : without (xs.take (i + 1)) ys = without (xs.take i) ys ++ if xs.getD i 0 ∈ ys then [] else [xs.getD i 0] := by
  unfold without
  rw [List.take_add_one, List.getElem?_eq_getElem hi, List.filter_append]
  have hx : xs.getD i 0 = xs[i] := by simp [hi]
  rw [hx]
  by_cases h : xs[i] ∈ ys <;> simp [h]
theorem without_len (xs ys : List Int) : (without xs ys).length ≤ xs.length := List.length_filter_le _ _
set_option maxHeartbeats 1000000 in
theorem without_c (v w : Value) (xs ys : List Int) (H : AH) (hr : Row 3 H v xs) (hlen : xs.length ≤ 1099511627776) (hr2 : Row 3 H w ys) (hlen2 : ys.length ≤ 1099511627776) :
    ACalls Try.prog 241 [v, w] H fun r H' => Own 3 H H' r (without xs ys) ∧ H <+: H' := by
  refine in241 rfl ?_
  intro Q hQ
  have hp0 := List.prefix_append H [AObj.cells [] 3 false]
  have hown0 : Own 3 H (H ++ [AObj.cells [] 3 false]) (.slice (some ⟨H.length, 0, none⟩) 0 0) [] := .inr ⟨H.length, rfl, Nat.le_refl _, at_new ..⟩
  simp (maxSteps := 1000000) (disch := omega) only [cd241, hr.len Try.underlying38, S, S1, S2, S3, S4, S5, ST, eq_self, reduceIte, reduceCtorEq, Nat.reduceEqDiff, Nat.reduceAdd]
  refine LoopH.by (fun m s H' => ∃ i, m + i = xs.length ∧ s 1 = w ∧ s 9 = v ∧ s 10 = .int .i64 (xs.length : Int) ∧ s 11 = .int .i64 ((i : Nat) : Int) ∧ Own 3 H H' (s 5) (without (xs.take i) ys) ∧ H <+: H') xs.length ?_ ?_
  · refine ⟨0, by simp, rfl, rfl, rfl, rfl, ?_, hp0⟩
    simp (maxSteps := 1000000) (disch := omega) only [S, S1, S2, S3, S4, S5, ST, eq_self, reduceIte, reduceCtorEq, Nat.reduceEqDiff, Nat.reduceAdd]; exact hown0
  · rintro m s H' ⟨i, hm, h1, hl, hn, hi', hown, hpp⟩
    have hr' := hr.pre hpp
    have hr2' := hr2.pre hpp
    have wl := without_len (xs.take i) ys
    have wl2 : (xs.take i).length ≤ i := by simp; omega
    have st0 := fun hi => without_step xs ys i hi
    have we : xs.length ≤ i → without xs ys = without (xs.take i) ys := fun h => by rw [List.take_of_length_le h]
    generalize hW : without (xs.take i) ys = W at *
    generalize hw : s 5 = u at *
    simp (maxSteps := 1000000) (disch := omega) only [h1, hl, hn, hi', hw, S, S1, S2, S3, S4, S5, ST, eq_self, reduceIte, reduceCtorEq, Nat.reduceEqDiff, Nat.reduceAdd]
    refine brD.intro (fun g => ?_) (fun g => ?_) <;> simp (maxSteps := 1000000) (disch := omega) only [h1, hl, hn, hi', hw, hr'.ix Try.underlying38 cs3, hr'.cell, Int.toNat_natCast, S, S1, S2, S3, S4, S5, ST, eq_self, reduceIte, reduceCtorEq, Nat.reduceEqDiff, Nat.reduceAdd]
    · have hi : i < xs.length := by omega
      have st := st0 hi
      refine CallH.by (Contains_c w ys _ H' hr2' hlen2) ?_
      rintro _ _ ⟨rfl, rfl⟩
      simp (maxSteps := 1000000) (disch := omega) only [S, S1, S2, S3, S4, S5, ST, eq_self, reduceIte, reduceCtorEq, Nat.reduceEqDiff, Nat.reduceAdd]
      refine brD.intro (fun e => ?_) (fun e => ?_)
      · rw [if_pos e, List.append_nil] at st
        simp (maxSteps := 1000000) (disch := omega) only [h1, hl, hn, hi', hw, wrap64, S, S1, S2, S3, S4, S5, ST, eq_self, reduceIte, reduceCtorEq, Nat.reduceEqDiff, Nat.reduceAdd]
        refine ⟨m - 1, by omega, i + 1, by omega, ?_⟩
        rw [st]
        (repeat' apply And.intro) <;> first | (simp only [Value.int.injEq, true_and]; omega) | omega | rfl | assumption | (simp; done) | (simp; omega)
      · rw [if_neg e] at st
        obtain ⟨w', H2, k1, k2, k3, k4, k5, k6⟩ := own1_38 hown hpp (by omega) (xs.getD i 0)
        rw [← st] at k2
        simp (maxSteps := 1000000) (disch := omega) only [h1, hl, hn, hi', hw, k1, wrap64, S, S1, S2, S3, S4, S5, ST, eq_self, reduceIte, reduceCtorEq, Nat.reduceEqDiff, Nat.reduceAdd]
        refine ⟨m - 1, by omega, i + 1, by omega, ?_⟩
        (repeat' apply And.intro) <;> first | exact k2 | exact k3 | (simp only [Value.int.injEq, true_and]; omega) | omega | rfl | assumption | (simp; done) | (simp; omega)
    · refine hQ _ _ _ ?_
      simp (maxSteps := 1000000) (disch := omega) only [hw, hown.row.tup, S, S1, S2, S3, S4, S5, ST, eq_self, reduceIte, reduceCtorEq, Nat.reduceEqDiff, Nat.reduceAdd]
      rw [we (by omega)]
      exact ⟨hown, hpp⟩
end Go.Proofs.Ytlfongfhbkefmaa.Ai
namespace Go.Proofs.Ytlfongfhbkefmaa.Ai
open Go
def ords69 : List (Nat × List (Nat × Bool)) := []
def cd69 : Cd := (.seq (.reg [⟨⟨some 4, Op.assign (Operand.const (Value.slice none 0 0)), none⟩, []⟩]) (.seq (.reg [⟨⟨some 7, Op.buildSlice 38 0 #[], none⟩, []⟩,
  ⟨⟨some 5, Op.assign (Operand.tmp 7), none⟩, []⟩]) (.seq (.seq (.reg [⟨⟨some 6, Op.assign (Operand.const (Value.int IntKind.i64 0)), none⟩, []⟩]) (.block 0 (.loop (.seq (.seq (.reg [⟨⟨some 8, Op.move (Operand.tmp 6), none⟩, []⟩,
  ⟨⟨some 9, Op.move (Operand.tmp 0), none⟩, []⟩,
  ⟨⟨some 10, Op.call { callee := (Callee.builtin Builtin.len), args := #[(Operand.tmp 9)], argTypes := #[38] }, none⟩, []⟩,
  ⟨⟨some 11, Op.binOp BinOp.lss 3 (Operand.tmp 8) (Operand.tmp 10) 3, none⟩, []⟩]) (.cond (Operand.tmp 11) .skip (.exit 0))) (.seq (.block 1 (.seq (.reg [⟨⟨some 14, Op.move (Operand.tmp 1), none⟩, []⟩,
  ⟨⟨some 15, Op.move (Operand.tmp 0), none⟩, []⟩,
  ⟨⟨some 16, Op.move (Operand.tmp 6), none⟩, []⟩,
  ⟨⟨some 17, Op.indexAddr 38 (Operand.tmp 15) (Operand.tmp 16), none⟩, []⟩,
  ⟨⟨some 18, Op.load 3 (Operand.tmp 17), none⟩, []⟩,
  ⟨⟨some 19, Op.call { callee := (Callee.value (Operand.func 144)), args := #[(Operand.tmp 14), (Operand.tmp 18)], argTypes := #[38, 3] }, none⟩, []⟩,
  ⟨⟨some 20, Op.unOp UnOp.not 4 (Operand.tmp 19), none⟩, []⟩]) (.cond (Operand.tmp 20) (.reg [⟨⟨some 21, Op.move (Operand.tmp 5), none⟩, []⟩,
  ⟨⟨some 22, Op.move (Operand.tmp 0), none⟩, []⟩,
  ⟨⟨some 23, Op.move (Operand.tmp 6), none⟩, []⟩,
  ⟨⟨some 24, Op.indexAddr 38 (Operand.tmp 22) (Operand.tmp 23), none⟩, []⟩,
  ⟨⟨some 25, Op.load 3 (Operand.tmp 24), none⟩, []⟩,
  ⟨⟨some 26, Op.buildSlice 38 1 #[(0, (Operand.tmp 25))], none⟩, []⟩,
  ⟨⟨some 27, Op.call { callee := (Callee.builtin Builtin.append), args := #[(Operand.tmp 21), (Operand.tmp 26)], argTypes := #[38, 38] }, none⟩, []⟩,
  ⟨⟨some 5, Op.assign (Operand.tmp 27), none⟩, []⟩]) .skip))) (.reg [⟨⟨some 12, Op.move (Operand.tmp 6), none⟩, []⟩,
  ⟨⟨some 13, Op.binOp BinOp.add 3 (Operand.tmp 12) (Operand.const (Value.int IntKind.i64 1)) 3, none⟩, []⟩,
  ⟨⟨some 6, Op.assign (Operand.tmp 13), none⟩, []⟩])))))) (.seq (.reg [⟨⟨some 28, Op.move (Operand.tmp 5), none⟩, []⟩,
  ⟨⟨some 4, Op.assign (Operand.tmp 28), none⟩, []⟩]) .ret))))
theorem sl69 : slim Try.f69.ntmps ords69 (Try.f69.body.getD .skip) = some cd69 := by kernel_rfl
theorem in69 {args : List Value} {H : AH} {R : Value → AH → Prop} (hl : args.length = 2) (h : ∀ (Q : Exit → Sl → AH → Prop), (∀ e s H, endA Try.prog [ResultVar.tmp 4] R e s H → Q e s H) → wpC Try.prog cd69 Q (enterA args) H) : ACalls Try.prog 69 args H R :=
  ACalls.intro (by kernel_rfl) Try.func69 rfl (by kernel_rfl) sl69 hl (of_decide_eq_true (by kernel_rfl)) (by kernel_rfl) h
end Go.Proofs.Ytlfongfhbkefmaa.Ai
namespace Go.Proofs.Ytlfongfhbkefmaa.Ai
open Go Go.RowKit
set_option linter.unusedVariables false
set_option linter.unusedSimpArgs false
set_option maxHeartbeats 1000000 in
theorem l4Lone_c (v w : Value) (xs ys : List Int) (H : AH) (hr : Row 3 H v xs) (hr2 : Row 3 H w ys) (hl : xs.length ≤ 1000000) (hl2 : ys.length ≤ 1099511627776) :
    ACalls Try.prog 69 [v, w] H fun r H' => Own 3 H H' r (without xs ys) ∧ H <+: H' := by
  refine in69 rfl ?_
  intro Q hQ
  simp (maxSteps := 1000000) (disch := omega) only [cd69, S, S1, S2, S3, S4, S5, ST, eq_self, reduceIte, reduceCtorEq, Nat.reduceEqDiff, Nat.reduceAdd]
  refine LoopH.by (fun m s H' => ∃ i, m + i = xs.length ∧ s 0 = v ∧ s 1 = w ∧ s 6 = .int .i64 ((i : Nat) : Int) ∧ Own 3 H H' (s 5) (without (xs.take i) ys) ∧ H <+: H') xs.length ?_ ?_
  · exact ⟨0, by simp, rfl, rfl, rfl, .inr ⟨H.length, rfl, Nat.le_refl _, at_new ..⟩, List.prefix_append _ _⟩
  · rintro m s H' ⟨i, hm, h0, h1, h6, ho, hp⟩
    have hr' := hr.pre hp
    have hr2' := hr2.pre hp
    have hle := without_len (xs.take i) ys
    have htl : (xs.take i).length ≤ i := by simp; omega
    generalize hu : s 5 = u at *
    simp (maxSteps := 1000000) (disch := omega) only [h0, h1, h6, hu, hr'.len Try.underlying38, S, S1, S2, S3, S4, S5, ST, eq_self, reduceIte, reduceCtorEq, Nat.reduceEqDiff, Nat.reduceAdd]
    refine brD.intro (fun g => ?_) (fun g => ?_)
    · have hi : i < xs.length := by omega
      have hst := without_step xs ys i hi
      simp (maxSteps := 1000000) (disch := omega) only [h0, h1, h6, hu, hr'.ix Try.underlying38 cs3, hr'.cell, Int.toNat_natCast, S, S1, S2, S3, S4, S5, ST, eq_self, reduceIte, reduceCtorEq, Nat.reduceEqDiff, Nat.reduceAdd]
      refine CallH.by (l1Has_c w ys (xs.getD i 0) H' hr2' hl2) ?_
      rintro _ _ ⟨rfl, rfl⟩
      simp (maxSteps := 1000000) (disch := omega) only [S, S1, S2, S3, S4, S5, ST, eq_self, reduceIte, reduceCtorEq, Nat.reduceEqDiff, Nat.reduceAdd]
      refine brD.intro (fun e => ?_) (fun e => ?_)
      · rw [if_pos e, List.append_nil] at hst
        rw [← hst] at ho
        simp (maxSteps := 1000000) (disch := omega) only [h0, h1, h6, hu, wrap64, S, S1, S2, S3, S4, S5, ST, eq_self, reduceIte, reduceCtorEq, Nat.reduceEqDiff, Nat.reduceAdd]
        refine ⟨m - 1, by omega, i + 1, ?_⟩
        (repeat' first | exact ho | exact hp | apply And.intro) <;> first | (simp only [Value.int.injEq, true_and]; omega) | omega | rfl | assumption | (simp; done) | (simp; omega)
      · rw [if_neg e] at hst
        obtain ⟨u', H2, k1, k2, k3, k4, k5, k6⟩ := own1_38 ho hp (by omega) (xs.getD i 0)
        rw [← hst] at k2
        simp (maxSteps := 1000000) (disch := omega) only [h0, h1, h6, hu, hr'.ix Try.underlying38 cs3, hr'.cell, Int.toNat_natCast, k1, wrap64, S, S1, S2, S3, S4, S5, ST, eq_self, reduceIte, reduceCtorEq, Nat.reduceEqDiff, Nat.reduceAdd]
        refine ⟨m - 1, by omega, i + 1, ?_⟩
        (repeat' first | exact k2 | exact k3 | apply And.intro) <;> first | (simp only [Value.int.injEq, true_and]; omega) | omega | rfl | assumption | (simp; done) | (simp; omega)
    · simp (maxSteps := 1000000) (disch := omega) only [hu, S, S1, S2, S3, S4, S5, ST, eq_self, reduceIte, reduceCtorEq, Nat.reduceEqDiff, Nat.reduceAdd]
      refine hQ _ _ _ ?_
      simp (maxSteps := 1000000) (disch := omega) only [hu, ho.row.tup, S, S1, S2, S3, S4, S5, ST, eq_self, reduceIte, reduceCtorEq, Nat.reduceEqDiff, Nat.reduceAdd]
      rw [List.take_of_length_le (by omega)] at ho
      exact ⟨ho, hp⟩
end Go.Proofs.Ytlfongfhbkefmaa.Ai
namespace Go.Proofs.Ytlfongfhbkefmaa.Ai
open Go
def ords13 : List (Nat × List (Nat × Bool)) := [(12, [(0, false), (1, false), (2, false), (3, false), (4, false), (5, false), (6, false), (7, false), (8, false), (9, false), (10, true), (11, false), (12, false)])]
def cd13 : Cd := (.seq (.reg [⟨⟨some 2, Op.box 31 (Operand.tmp 0), none⟩, []⟩,
  ⟨⟨some 4, Op.alloc 28, none⟩, []⟩,
  ⟨⟨some 5, Op.assign (Operand.const (Value.bool false)), none⟩, []⟩]) (.seq (.seq (.reg [⟨⟨some 9, Op.load 31 (Operand.tmp 2), none⟩, []⟩,
  ⟨⟨some 10, Op.call { callee := (Callee.value (Operand.func 66)), args := #[(Operand.tmp 9)], argTypes := #[31] }, none⟩, []⟩,
  ⟨⟨some 11, Op.unOp UnOp.not 4 (Operand.tmp 10), none⟩, []⟩,
  ⟨⟨some 12, Op.move (Operand.tmp 11), none⟩, []⟩,
  ⟨⟨some 13, Op.move (Operand.tmp 1), some (12, false)⟩, []⟩,
  ⟨⟨some 14, Op.call { callee := (Callee.value (Operand.func 67)), args := #[(Operand.tmp 13), (Operand.const (Value.int IntKind.i64 0)), (Operand.const (Value.int IntKind.i64 8))], argTypes := #[3, 3, 3] }, some (12, false)⟩, []⟩,
  ⟨⟨some 15, Op.unOp UnOp.not 4 (Operand.tmp 14), some (12, false)⟩, []⟩,
  ⟨⟨some 16, Op.pick (Operand.tmp 12) (Operand.const (Value.bool true)) (Operand.tmp 15), none⟩, []⟩]) (.cond (Operand.tmp 16) (.seq (.reg [⟨⟨some 17, Op.build 28 #[], none⟩, []⟩,
  ⟨⟨none, Op.store 28 (Operand.tmp 4) (Operand.tmp 17), none⟩, []⟩,
  ⟨⟨some 5, Op.assign (Operand.const (Value.bool false)), none⟩, []⟩]) .ret) .skip)) (.seq (.reg [⟨⟨some 18, Op.load 31 (Operand.tmp 2), none⟩, []⟩,
  ⟨⟨some 19, Op.buildSlice 38 0 #[], none⟩, []⟩,
  ⟨⟨some 20, Op.move (Operand.tmp 1), none⟩, []⟩,
  ⟨⟨some 21, Op.call { callee := (Callee.value (Operand.func 68)), args := #[(Operand.tmp 18), (Operand.tmp 19), (Operand.tmp 20)], argTypes := #[31, 38, 3] }, none⟩, []⟩,
  ⟨⟨some 22, Op.buildSlice 22 0 #[], none⟩, []⟩,
  ⟨⟨some 23, Op.build 28 #[(0, (Operand.tmp 21)), (1, (Operand.tmp 22))], none⟩, []⟩,
  ⟨⟨some 6, Op.alloc 28, none⟩, []⟩,
  ⟨⟨none, Op.store 28 (Operand.tmp 6) (Operand.tmp 23), none⟩, []⟩]) (.seq (.seq (.reg [⟨⟨some 24, Op.fieldAddr 28 (Operand.tmp 6) 0, none⟩, []⟩,
  ⟨⟨some 25, Op.load 26 (Operand.tmp 24), none⟩, []⟩,
  ⟨⟨some 26, Op.call { callee := (Callee.builtin Builtin.len), args := #[(Operand.tmp 25)], argTypes := #[26] }, none⟩, []⟩,
  ⟨⟨some 27, Op.binOp BinOp.gtr 3 (Operand.tmp 26) (Operand.const (Value.int IntKind.i64 300)) 3, none⟩, []⟩]) (.cond (Operand.tmp 27) (.seq (.reg [⟨⟨some 28, Op.build 28 #[], none⟩, []⟩,
  ⟨⟨none, Op.store 28 (Operand.tmp 4) (Operand.tmp 28), none⟩, []⟩,
  ⟨⟨some 5, Op.assign (Operand.const (Value.bool false)), none⟩, []⟩]) .ret) .skip)) (.seq (.seq (.reg [⟨⟨some 7, Op.assign (Operand.const (Value.int IntKind.i64 0)), none⟩, []⟩]) (.block 0 (.loop (.seq (.seq (.reg [⟨⟨some 29, Op.move (Operand.tmp 7), none⟩, []⟩,
  ⟨⟨some 30, Op.fieldAddr 28 (Operand.tmp 6) 0, none⟩, []⟩,
  ⟨⟨some 31, Op.load 26 (Operand.tmp 30), none⟩, []⟩,
  ⟨⟨some 32, Op.call { callee := (Callee.builtin Builtin.len), args := #[(Operand.tmp 31)], argTypes := #[26] }, none⟩, []⟩,
  ⟨⟨some 33, Op.binOp BinOp.lss 3 (Operand.tmp 29) (Operand.tmp 32) 3, none⟩, []⟩]) (.cond (Operand.tmp 33) .skip (.exit 0))) (.seq (.block 1 (.seq (.reg [⟨⟨some 36, Op.move (Operand.tmp 7), none⟩, []⟩,
  ⟨⟨some 37, Op.binOp BinOp.add 3 (Operand.tmp 36) (Operand.const (Value.int IntKind.i64 1)) 3, none⟩, []⟩,
  ⟨⟨some 8, Op.assign (Operand.tmp 37), none⟩, []⟩]) (.block 2 (.loop (.seq (.seq (.reg [⟨⟨some 38, Op.move (Operand.tmp 8), none⟩, []⟩,
  ⟨⟨some 39, Op.fieldAddr 28 (Operand.tmp 6) 0, none⟩, []⟩,
  ⟨⟨some 40, Op.load 26 (Operand.tmp 39), none⟩, []⟩,
  ⟨⟨some 41, Op.call { callee := (Callee.builtin Builtin.len), args := #[(Operand.tmp 40)], argTypes := #[26] }, none⟩, []⟩,
  ⟨⟨some 42, Op.binOp BinOp.lss 3 (Operand.tmp 38) (Operand.tmp 41) 3, none⟩, []⟩]) (.cond (Operand.tmp 42) .skip (.exit 2))) (.seq (.block 3 (.seq (.reg [⟨⟨some 45, Op.fieldAddr 28 (Operand.tmp 6) 0, none⟩, []⟩,
  ⟨⟨some 46, Op.load 26 (Operand.tmp 45), none⟩, []⟩,
  ⟨⟨some 47, Op.move (Operand.tmp 7), none⟩, []⟩,
  ⟨⟨some 48, Op.indexAddr 26 (Operand.tmp 46) (Operand.tmp 47), none⟩, []⟩,
  ⟨⟨some 49, Op.load 38 (Operand.tmp 48), none⟩, []⟩,
  ⟨⟨some 50, Op.fieldAddr 28 (Operand.tmp 6) 0, none⟩, []⟩,
  ⟨⟨some 51, Op.load 26 (Operand.tmp 50), none⟩, []⟩,
  ⟨⟨some 52, Op.move (Operand.tmp 8), none⟩, []⟩,
  ⟨⟨some 53, Op.indexAddr 26 (Operand.tmp 51) (Operand.tmp 52), none⟩, []⟩,
  ⟨⟨some 54, Op.load 38 (Operand.tmp 53), none⟩, []⟩,
  ⟨⟨some 55, Op.call { callee := (Callee.value (Operand.func 69)), args := #[(Operand.tmp 49), (Operand.tmp 54)], argTypes := #[38, 38] }, none⟩, []⟩,
  ⟨⟨some 56, Op.call { callee := (Callee.builtin Builtin.len), args := #[(Operand.tmp 55)], argTypes := #[38] }, none⟩, []⟩,
  ⟨⟨some 57, Op.binOp BinOp.eql 3 (Operand.tmp 56) (Operand.const (Value.int IntKind.i64 1)) 3, none⟩, []⟩]) (.cond (Operand.tmp 57) (.reg [⟨⟨some 58, Op.fieldAddr 28 (Operand.tmp 6) 1, none⟩, []⟩,
  ⟨⟨some 59, Op.load 22 (Operand.tmp 58), none⟩, []⟩,
  ⟨⟨some 60, Op.move (Operand.tmp 7), none⟩, []⟩,
  ⟨⟨some 61, Op.move (Operand.tmp 8), none⟩, []⟩,
  ⟨⟨some 62, Op.build 81 #[(0, (Operand.tmp 60)), (1, (Operand.tmp 61))], none⟩, []⟩,
  ⟨⟨some 63, Op.buildSlice 22 1 #[(0, (Operand.tmp 62))], none⟩, []⟩,
  ⟨⟨some 64, Op.call { callee := (Callee.builtin Builtin.append), args := #[(Operand.tmp 59), (Operand.tmp 63)], argTypes := #[22, 22] }, none⟩, []⟩,
  ⟨⟨some 65, Op.fieldAddr 28 (Operand.tmp 6) 1, none⟩, []⟩,
  ⟨⟨none, Op.store 22 (Operand.tmp 65) (Operand.tmp 64), none⟩, []⟩]) .skip))) (.reg [⟨⟨some 43, Op.move (Operand.tmp 8), none⟩, []⟩,
  ⟨⟨some 44, Op.binOp BinOp.add 3 (Operand.tmp 43) (Operand.const (Value.int IntKind.i64 1)) 3, none⟩, []⟩,
  ⟨⟨some 8, Op.assign (Operand.tmp 44), none⟩, []⟩]))))))) (.reg [⟨⟨some 34, Op.move (Operand.tmp 7), none⟩, []⟩,
  ⟨⟨some 35, Op.binOp BinOp.add 3 (Operand.tmp 34) (Operand.const (Value.int IntKind.i64 1)) 3, none⟩, []⟩,
  ⟨⟨some 7, Op.assign (Operand.tmp 35), none⟩, []⟩])))))) (.seq (.reg [⟨⟨some 66, Op.load 28 (Operand.tmp 6), none⟩, []⟩,
  ⟨⟨none, Op.store 28 (Operand.tmp 4) (Operand.tmp 66), none⟩, []⟩,
  ⟨⟨some 5, Op.assign (Operand.const (Value.bool true)), none⟩, []⟩]) .ret))))))
theorem sl13 : slim Try.f13.ntmps ords13 (Try.f13.body.getD .skip) = some cd13 := by kernel_rfl
set_option maxRecDepth 20000 in
theorem in13 {args : List Value} {H : AH} {R : Value → AH → Prop} (hl : args.length = 2) (h : ∀ (Q : Exit → Sl → AH → Prop), (∀ e s H, endA Try.prog [ResultVar.cell 4 28, ResultVar.tmp 5] R e s H → Q e s H) → wpC Try.prog cd13 Q (enterA args) H) : ACalls Try.prog 13 args H R :=
  ACalls.intro (by kernel_rfl) Try.func13 rfl (by kernel_rfl) sl13 hl (of_decide_eq_true (by kernel_rfl)) (by kernel_rfl) h
end Go.Proofs.Ytlfongfhbkefmaa.Ai
namespace Go.Proofs.Ytlfongfhbkefmaa.Ai
open Go Go.RowKit
set_option linter.unusedVariables false
set_option linter.unusedSimpArgs false
theorem nodupI_sub : ∀ (l m : List Int), l.Nodup → (∀ x ∈ l, x ∈ m) → l.length ≤ m.length
  | [], m, _, _ => Nat.zero_le _
  | a :: l, m, hn, h => by
    have ha := h a (by simp)
    have hn' := List.nodup_cons.1 hn
    have := nodupI_sub l (m.erase a) hn'.2 (fun x hx => (List.mem_erase_of_ne (fun e => by subst e; exact hn'.1 hx)).2 (h x (by simp [hx])))
    rw [List.length_erase_of_mem ha] at this
    have : 0 < m.length := List.length_pos_of_mem ha
    simp only [List.length_cons]
    omega
theorem filt_sum (p : Int → Bool) : ∀ l : List Int, l.length = (l.filter p).length + (l.filter fun e => !p e).length
  | [] => rfl
  | a :: l => by
    have := filt_sum p l
    cases h : p a <;> simp [h] <;> omega
theorem inter_le (x y : List Int) (hx : x.Nodup) : (x.filter fun e => decide (e ∈ y)).length ≤ (y.filter fun e => decide (e ∈ x)).length := by
  refine nodupI_sub _ _ (hx.filter _) fun z hz => ?_
  have := List.mem_filter.1 hz
  exact List.mem_filter.2 ⟨by simpa using this.2, by simpa using this.1⟩
theorem jmp_lone {x y : List Int} (hx : x.Pairwise (· < ·)) (hy : y.Pairwise (· < ·)) (hl : x.length = y.length) : ((without x y).length : Int) = 1 ↔ jmpB x y = true := by
  have nx : x.Nodup := hx.imp fun h e => by omega
  have ny : y.Nodup := hy.imp fun h e => by omega
  have h1 := inter_le x y nx
  have h2 := inter_le y x ny
  have s1 := filt_sum (fun e => decide (e ∈ y)) x
  have s2 := filt_sum (fun e => decide (e ∈ x)) y
  have e1 : (without x y).length = (x.filter fun e => !decide (e ∈ y)).length := by
    unfold without; congr 1
    exact List.filter_congr fun e _ => by simp
  unfold jmpB
  rw [Bool.and_eq_true, decide_eq_true_eq, decide_eq_true_eq]
  omega
set_option maxRecDepth 20000 in
set_option maxHeartbeats 8000000 in
theorem MsS_c (a0 n : Int) (v : Value) (es : List (Int × Int)) (H : AH) (hr : RowP 81 H v es) (hlen : es.length ≤ 1099511627776) (hes : ∀ y ∈ es, I64 y.1 ∧ I64 y.2) (hn : I64 n) :
    ACalls Try.prog 13 [.agg (List.toArray [.int .i64 n, v]), .int .i64 a0] H fun r H' => ∃ a b, r = .tuple (List.toArray [.agg (List.toArray [a, b]), .bool (decide (MsOk a0 n es))]) ∧ SpIn H.length H'.length H' a b (msL a0 n es) (msS a0 n es) ∧ H <+: H' := by
  refine in13 rfl ?_
  intro Q hQ
  simp (maxSteps := 1000000) (disch := omega) only [cd13, hr.boxG, S, S1, S2, S3, S4, S5, ST, eq_self, reduceIte, reduceCtorEq, Nat.reduceEqDiff, Nat.reduceAdd]
  generalize hA0 : H ++ [AObj.cells [.int .i64 n, v] 31 false] = A0
  have pA0 : H <+: A0 := by rw [← hA0]; exact List.prefix_append _ _
  have cA0 : A0[H.length]? = some (.cells [.int .i64 n, v] 31 false) := by rw [← hA0]; exact at_new ..
  have rA0 := hr.pre pA0
  simp (maxSteps := 1000000) (disch := omega) only [alloc_sp, S, S1, S2, S3, S4, S5, ST, eq_self, reduceIte, reduceCtorEq, Nat.reduceEqDiff, Nat.reduceAdd]
  generalize hA : A0 ++ [AObj.cells [.slice none 0 0, .slice none 0 0] 28 false] = A
  have pA1 : A0 <+: A := by rw [← hA]; exact List.prefix_append _ _
  have lA0 : A0.length = H.length + 1 := by rw [← hA0]; simp
  have cS : A[A0.length]? = some (.cells [.slice none 0 0, .slice none 0 0] 28 false) := by rw [← hA]; exact at_new ..
  have lA : A.length = A0.length + 1 := by rw [← hA]; simp
  have pA := pA0.trans pA1
  have cA := pre_at pA1 cA0
  have rA := rA0.pre pA1
  simp (maxSteps := 1000000) (disch := omega) only [ld_agg ag31 cs31 cA, S, S1, S2, S3, S4, S5, ST, eq_self, reduceIte, reduceCtorEq, Nat.reduceEqDiff, Nat.reduceAdd]
  refine CallH.by (l2Good_c n v es A rA (by omega)) ?_
  rintro _ B ⟨rfl, pB⟩
  have cB := pre_at pB cA
  have cSB := pre_at pB cS
  have pHB := pA.trans pB
  have lB := pB.length_le
  have no : ¬ MsOk a0 n es → ∀ s : Sl, s 4 = .pointer (some ⟨A0.length, 0, none⟩) → s 5 = .bool false → endA Try.prog [.cell 4 28, .tmp 5] (fun r H' => ∃ a b, r = .tuple (List.toArray [.agg (List.toArray [a, b]), .bool (decide (MsOk a0 n es))]) ∧ SpIn H.length H'.length H' a b (msL a0 n es) (msS a0 n es) ∧ H <+: H') .ret s (B.set A0.length (.cells [.slice none 0 0, .slice none 0 0] 28 false)) := by
    intro h s s2 s3
    have d4 := at_set (d := .cells [.slice none 0 0, .slice none 0 0] 28 false) cSB
    refine end_cell2 _ _ _ _ _ _ _ (.agg (List.toArray [.slice none 0 0, .slice none 0 0])) (.bool false) ?_ rfl s3 rfl ⟨_, _, by rw [decide_eq_false h], ⟨H.length, Nat.le_refl _, by simp; omega, ?_, ?_⟩, ?_⟩
    · simp (maxSteps := 1000000) (disch := omega) only [s2, ld_agg ag28 cs28 d4, S, S1, S2, S3, S4, S5, ST, eq_self, reduceIte, reduceCtorEq, Nat.reduceEqDiff, Nat.reduceAdd]
    · have : msL a0 n es = [] := by unfold msL; rw [if_neg h]
      rw [this]; exact .inl ⟨rfl, rfl⟩
    · have : msS a0 n es = [] := by unfold msS; rw [if_neg h]
      rw [this]; exact .inl ⟨rfl, rfl⟩
    · exact pre_set pHB (by omega) _
  have hstore0 := st_ss cSB rfl none none 0 0 0 0
  by_cases e : Grd n es
  rotate_left
  · simp (maxSteps := 1000000) (disch := omega) only [decide_eq_false e, bld_sp0, hstore0, S, S1, S2, S3, S4, S5, ST, eq_self, reduceIte, reduceCtorEq, Nat.reduceEqDiff, Nat.reduceAdd]
    refine hQ _ _ _ (no (fun h => e h.1) _ ?_ ?_) <;> simp (maxSteps := 1000000) (disch := omega) only [S, S1, S2, S3, S4, S5, ST, eq_self, reduceIte, reduceCtorEq, Nat.reduceEqDiff, Nat.reduceAdd]
  simp (maxSteps := 1000000) (disch := omega) only [decide_eq_true e, S, S1, S2, S3, S4, S5, ST, eq_self, reduceIte, reduceCtorEq, Nat.reduceEqDiff, Nat.reduceAdd]
  refine CallH.by (l1In_c a0 0 8 B) ?_
  rintro _ _ ⟨rfl, rfl⟩
  by_cases e5 : 0 ≤ a0 ∧ a0 ≤ 8
  rotate_left
  · simp (maxSteps := 1000000) (disch := omega) only [decide_eq_false e5, bld_sp0, hstore0, S, S1, S2, S3, S4, S5, ST, eq_self, reduceIte, reduceCtorEq, Nat.reduceEqDiff, Nat.reduceAdd]
    refine hQ _ _ _ (no (fun h => e5 h.2.1) _ ?_ ?_) <;> simp (maxSteps := 1000000) (disch := omega) only [S, S1, S2, S3, S4, S5, ST, eq_self, reduceIte, reduceCtorEq, Nat.reduceEqDiff, Nat.reduceAdd]
  obtain ⟨k, hk⟩ : ∃ k : Nat, a0 = k := ⟨a0.toNat, by omega⟩
  subst hk
  clear no
  simp (maxSteps := 1000000) (disch := omega) only [decide_eq_true e5, ld_agg ag31 cs31 cB, S, S1, S2, S3, S4, S5, ST, eq_self, reduceIte, reduceCtorEq, Nat.reduceEqDiff, Nat.reduceAdd]
  refine CallH.by (l8Extend_c v n es (grd_len e) k (by omega) es.length [] (.slice (some ⟨B.length, 0, none⟩) 0 0) B.length (B ++ [.cells [] 3 false]) ((rA.pre pB).pre (List.prefix_append _ _)) (.inr ⟨B.length, [], rfl, Nat.le_refl _, by simp, at_new .., rfl⟩) (by simp) (Nat.le_refl _) (MtU.zero _ _) (by simp) (by simp) (fun _ => rfl) (fun h => absurd h (by simp))) ?_
  rintro a D ⟨hL, hcap, pBD⟩
  have pD : B <+: D := (List.prefix_append B _).trans pBD
  obtain ⟨us, r1, r2, r3⟩ := hL.parts
  have hin : ∀ x ∈ mext es es.length [] k, x.length = k ∧ x.length ≤ 4 := fun x hx => mext_len e hx
  have hjmp := jumps_all e k
  have hMs : MsOk (k : Int) n es ↔ (mext es es.length [] k).length ≤ 300 := ⟨fun h => by have := h.2.2; rwa [Int.toNat_natCast] at this, fun h => ⟨e, by omega, by rw [Int.toNat_natCast]; exact h⟩⟩
  have hpL : ∀ h : (mext es es.length [] k).length ≤ 300, msL (k : Int) n es = mext es es.length [] k := fun h => by unfold msL; rw [if_pos (hMs.2 h), Int.toNat_natCast]
  have hpP : ∀ h : (mext es es.length [] k).length ≤ 300, msS (k : Int) n es = steps jmpB (mext es es.length [] k) := fun h => by unfold msS; rw [if_pos (hMs.2 h), Int.toNat_natCast]
  obtain ⟨pa, hpa⟩ := r1.shape
  have lD := pD.length_le
  have hb2 := bld_sp2 pa (some ⟨D.length, 0, none⟩) us.length us.length 0 0
  rw [← hpa] at hb2
  simp (maxSteps := 1000000) (disch := omega) only [hb2, alloc_sp, S, S1, S2, S3, S4, S5, ST, eq_self, reduceIte, reduceCtorEq, Nat.reduceEqDiff, Nat.reduceAdd]
  generalize hE : D ++ [AObj.cells [] 81 false] = E
  have pE : D <+: E := by rw [← hE]; exact List.prefix_append _ _
  have lE : E.length = D.length + 1 := by rw [← hE]; simp
  have m0 : MineP 81 D E (.slice (some ⟨D.length, 0, none⟩) 0 0) [] := by rw [← hE]; exact MineP.nil0 (P := Try.prog) D D (Nat.le_refl _)
  have st1 := st_ss (at_new E (.cells [.slice none 0 0, .slice none 0 0] 28 false)) rfl pa (some ⟨D.length, 0, none⟩) us.length us.length 0 0
  rw [set_new, ← hpa] at st1
  simp (maxSteps := 1000000) (disch := omega) only [st1, S, S1, S2, S3, S4, S5, ST, eq_self, reduceIte, reduceCtorEq, Nat.reduceEqDiff, Nat.reduceAdd]
  generalize hG : E ++ [AObj.cells [a, .slice (some ⟨D.length, 0, none⟩) 0 0] 28 false] = G
  have pG : E <+: G := by rw [← hG]; exact List.prefix_append _ _
  have cG : G[E.length]? = some (.cells [a, .slice (some ⟨D.length, 0, none⟩) 0 0] 28 false) := by rw [← hG]; exact at_new ..
  have lG : G.length = E.length + 1 := by rw [← hG]; simp
  have cSG := pre_at (pD.trans (pE.trans pG)) cSB
  by_cases e7 : (mext es es.length [] k).length ≤ 300
  rotate_left
  · have e8 : (300 : Int) < (us.length : Int) := by omega
    have hstore1 := st_ss cSG rfl none none 0 0 0 0
    simp (maxSteps := 1000000) (disch := omega) only [cell_of cG, (r1.pre (pE.trans pG)).len Try.underlying26, S, S1, S2, S3, S4, S5, ST, eq_self, reduceIte, reduceCtorEq, Nat.reduceEqDiff, Nat.reduceAdd]
    refine brD.intro (fun _ => ?_) (fun h => absurd e8 h)
    simp (maxSteps := 1000000) (disch := omega) only [bld_sp0, hstore1, S, S1, S2, S3, S4, S5, ST, eq_self, reduceIte, reduceCtorEq, Nat.reduceEqDiff, Nat.reduceAdd]
    have d4 := at_set (d := .cells [.slice none 0 0, .slice none 0 0] 28 false) cSG
    have hno : ¬ MsOk (k : Int) n es := fun h => e7 (hMs.1 h)
    refine hQ _ _ _ (end_cell2 _ _ _ _ _ _ _ (.agg (List.toArray [.slice none 0 0, .slice none 0 0])) (.bool false) ?_ rfl ?_ rfl ⟨_, _, by rw [decide_eq_false hno], ⟨H.length, Nat.le_refl _, by simp; omega, ?_, ?_⟩, ?_⟩)
    · simp (maxSteps := 1000000) (disch := omega) only [ld_agg ag28 cs28 d4, S, S1, S2, S3, S4, S5, ST, eq_self, reduceIte, reduceCtorEq, Nat.reduceEqDiff, Nat.reduceAdd]
    · simp (maxSteps := 1000000) (disch := omega) only [S, S1, S2, S3, S4, S5, ST, eq_self, reduceIte, reduceCtorEq, Nat.reduceEqDiff, Nat.reduceAdd]
    · have : msL (k : Int) n es = [] := by unfold msL; rw [if_neg hno]
      rw [this]; exact .inl ⟨rfl, rfl⟩
    · have : msS (k : Int) n es = [] := by unfold msS; rw [if_neg hno]
      rw [this]; exact .inl ⟨rfl, rfl⟩
    · exact pre_set (pHB.trans (pD.trans (pE.trans pG))) (by omega) _
  have hok := hMs.2 e7
  rw [hpL e7, hpP e7] at hQ
  have e8 : ¬ (300 : Int) < (us.length : Int) := by omega
  have rise := mext_rise e (j := k)
  have rng := fun x (hx : x ∈ mext es es.length [] k) => mext_rng e hx
  generalize hls : mext es es.length [] k = ls at *
  simp (maxSteps := 1000000) (disch := omega) only [cell_of cG, (r1.pre (pE.trans pG)).len Try.underlying26, S, S1, S2, S3, S4, S5, ST, eq_self, reduceIte, reduceCtorEq, Nat.reduceEqDiff, Nat.reduceAdd]
  refine brD.intro (fun h => absurd h e8) (fun _ => ?_)
  simp (maxSteps := 1000000) (disch := omega) only [S, S1, S2, S3, S4, S5, ST, eq_self, reduceIte, reduceCtorEq, Nat.reduceEqDiff, Nat.reduceAdd]
  have pDG := pE.trans pG
  have cSD := pre_at pD cSB
  have cGD := pre_at pD cB
  have rD := rA.pre (pB.trans pD)
  have pHD := pHB.trans pD
  have rowA : ∀ {H'}, D <+: H' → RowV 38 H' a us := fun hp => r1.pre hp
  have rowI : ∀ {H'} (i : Nat), i < ls.length → D <+: H' → Row 3 H' (us.getD i undef) (ls.getD i []) := fun i hi hp => (r3 i hi).row.1.pre hp
  have sm : ∀ i, i < ls.length → (ls.getD i []).length ≤ 4 := fun i hi => (hin _ (by simp [hi])).2
  refine LoopH.by (fun m s H' => ∃ i st, m + i = ls.length ∧ s 2 = .pointer (some ⟨H.length, 0, none⟩) ∧ s 4 = .pointer (some ⟨A0.length, 0, none⟩) ∧ s 6 = .pointer (some ⟨E.length, 0, none⟩) ∧ s 7 = .int .i64 ((i : Nat) : Int) ∧ H'[E.length]? = some (.cells [a, st] 28 false) ∧ (rowO st = D.length ∨ G.length ≤ rowO st) ∧ st ≠ .slice none 0 0 ∧ MineP 81 D H' st (stpO jmpB ls i) ∧ D <+: H') ls.length ?_ ?_
  · exact ⟨0, .slice (some ⟨D.length, 0, none⟩) 0 0, by simp, rfl, rfl, rfl, rfl, cG, .inl rfl, (by intro e; cases e), m0.pre pG, pDG⟩
  rintro m s H' ⟨i, st, hm, s2, s4, s6, s7, hc5, hst, hsn, hmn, hpp⟩
  simp (maxSteps := 1000000) (disch := omega) only [s2, s4, s6, s7, cell_of hc5, (rowA hpp).len Try.underlying26, r2, S, S1, S2, S3, S4, S5, ST, eq_self, reduceIte, reduceCtorEq, Nat.reduceEqDiff, Nat.reduceAdd]
  refine brD.intro (fun g => ?_) (fun g => ?_)
  rotate_left
  · have hi : i = ls.length := by omega
    subst hi
    have hrow : SpRow H' a st ls (stpO jmpB ls ls.length) := ⟨⟨_, hL.row.pre hpp⟩, hmn.row⟩
    have cAH := pre_at hpp cSD
    have hstore := hrow.store cAH rfl
    simp (maxSteps := 1000000) (disch := omega) only [s2, s4, s6, ld_agg ag28 cs28 hc5, hstore, S, S1, S2, S3, S4, S5, ST, eq_self, reduceIte, reduceCtorEq, Nat.reduceEqDiff, Nat.reduceAdd]
    have d4 := at_set (d := .cells [a, st] 28 false) cAH
    have lH' := hpp.length_le
    refine hQ _ _ _ (end_cell2 _ _ _ _ _ _ _ (.agg (List.toArray [a, st])) (.bool true) ?_ rfl ?_ rfl ⟨a, st, by rw [decide_eq_true hok], ⟨D.length, by omega, by simp; omega, ?_, ?_⟩, ?_⟩)
    · simp (maxSteps := 1000000) (disch := omega) only [s4, ld_agg ag28 cs28 d4, S, S1, S2, S3, S4, S5, ST, eq_self, reduceIte, reduceCtorEq, Nat.reduceEqDiff, Nat.reduceAdd]
    · simp (maxSteps := 1000000) (disch := omega) only [S, S1, S2, S3, S4, S5, ST, eq_self, reduceIte, reduceCtorEq, Nat.reduceEqDiff, Nat.reduceAdd]
    · rcases hL.pre hpp with q | ⟨o, us', q1, q2⟩
      · exact .inl q
      · refine .inr ⟨o, us', q1, (q2.move fun j y hj1 hj2 hy => ?_).wide (by omega) (Nat.le_refl _)⟩
        rw [List.getElem?_set_ne (by omega)]; exact hy
    · rcases InP.of hmn with q | ⟨o, zs, q1, q2, q3, q4, q5⟩
      · exact .inl q
      · exact .inr ⟨o, zs, q1, q2, by simpa using q3, by rw [List.getElem?_set_ne (by omega)]; exact q4, q5⟩
    · exact pre_set (pHD.trans hpp) (by omega) _
  have hi : i < ls.length := by omega
  simp (maxSteps := 1000000) (disch := omega) only [s2, s4, s6, s7, wrap64, S, S1, S2, S3, S4, S5, ST, eq_self, reduceIte, reduceCtorEq, Nat.reduceEqDiff, Nat.reduceAdd]
  refine LoopH.by (fun m' s' H'' => ∃ j st', m' + j = ls.length - (i + 1) ∧ s' 2 = .pointer (some ⟨H.length, 0, none⟩) ∧ s' 4 = .pointer (some ⟨A0.length, 0, none⟩) ∧ s' 6 = .pointer (some ⟨E.length, 0, none⟩) ∧ s' 7 = .int .i64 ((i : Nat) : Int) ∧ s' 8 = .int .i64 ((i + 1 + j : Nat) : Int) ∧ H''[E.length]? = some (.cells [a, st'] 28 false) ∧ (rowO st' = D.length ∨ G.length ≤ rowO st') ∧ st' ≠ .slice none 0 0 ∧ MineP 81 D H'' st' (stpO jmpB ls i ++ stpI jmpB ls i j) ∧ D <+: H'') (ls.length - (i + 1)) ?_ ?_
  · refine ⟨0, st, by simp, ?_⟩
    simp only [S, S1, S2, S3, S4, S5, ST, eq_self, reduceIte, reduceCtorEq, Nat.reduceEqDiff, Nat.reduceAdd, s2, s4, s6, s7]
    have f0 : MineP 81 D H' st (stpO jmpB ls i ++ stpI jmpB ls i 0) := by rw [stpI, List.append_nil]; exact hmn
    (repeat' first | exact hc5 | exact hst | exact hsn | exact f0 | exact hpp | apply And.intro) <;> first | (simp only [Value.int.injEq, true_and]; omega) | omega | rfl | assumption | (simp; done) | (simp; omega)
  · rintro m' s' H'' ⟨j, st', hm', g2, g4, g6, g7, g8, hc5', hst', hsn', hmn', hpp'⟩
    simp (maxSteps := 1000000) (disch := omega) only [g2, g4, g6, g7, g8, cell_of hc5', (rowA hpp').len Try.underlying26, r2, S, S1, S2, S3, S4, S5, ST, eq_self, reduceIte, reduceCtorEq, Nat.reduceEqDiff, Nat.reduceAdd]
    refine brD.intro (fun q => ?_) (fun q => ?_)
    · have hj : i + 1 + j < ls.length := by omega
      have hci := (rowA hpp').cell (show i < us.length by omega)
      have hcj := (rowA hpp').cell (show i + 1 + j < us.length by omega)
      simp (maxSteps := 1000000) (disch := omega) only [g2, g4, g6, g7, g8, cell_of hc5', (rowA hpp').ix Try.underlying26 cs38, Int.toNat_natCast, hci, hcj, S, S1, S2, S3, S4, S5, ST, eq_self, reduceIte, reduceCtorEq, Nat.reduceEqDiff, Nat.reduceAdd]
      refine CallH.by (l4Lone_c _ _ _ _ H'' (rowI i hi hpp') (rowI (i + 1 + j) hj hpp') (by have := sm i hi; omega) (by have := sm _ hj; omega)) ?_
      rintro u K ⟨hu, pK⟩
      have hcK := pre_at pK hc5'
      have hpK := hpp'.trans pK
      have hmK := hmn'.pre pK
      have hur := hu.row
      have hsl1 := stpO_len jmpB ls i
      have hsl2 := stpI_len jmpB ls i j
      have hmul : i * ls.length ≤ 300 * 300 := Nat.mul_le_mul (by omega) (by omega)
      have lK := hpK.length_le
      have l5 := at_lt hc5'
      have hne : ∀ o, o = E.length → o ≠ rowO st' := fun o ho => by omega
      have hjl : ((without (ls.getD i []) (ls.getD (i + 1 + j) [])).length : Int) = 1 ↔ jmpB (ls.getD i []) (ls.getD (i + 1 + j) []) = true := jmp_lone (rise _ (by simp [hi])) (rise _ (by simp [hj])) (by rw [(hin _ (show ls.getD i [] ∈ ls by simp [hi])).1, (hin _ (show ls.getD (i + 1 + j) [] ∈ ls by simp [hj])).1])
      simp (maxSteps := 1000000) (disch := omega) only [g2, g4, g6, g7, g8, hur.len Try.underlying38, S, S1, S2, S3, S4, S5, ST, eq_self, reduceIte, reduceCtorEq, Nat.reduceEqDiff, Nat.reduceAdd]
      refine brD.intro (fun e1 => ?_) (fun e1 => ?_)
      · have ht := hjl.1 e1
        have hstep : stpI jmpB ls i (j + 1) = stpI jmpB ls i j ++ [((i : Int), ((i + 1 + j : Nat) : Int))] := by rw [stpI, if_pos ht]
        obtain ⟨st2, H3, k1, k2, k3, k4, k5, k6⟩ := own1_22 hmK hpK (by rw [List.length_append]; omega) (i : Int) ((i + 1 + j : Nat) : Int)
        have d5 : H3[E.length]? = some (.cells [a, st'] 28 false) := k4 _ _ (.inr (hne _ rfl)) hcK
        obtain ⟨q2, hq2⟩ := k2.row.shape
        have t2 : st2.cells.toList = [st2] := by rw [hq2]; rfl
        have hst3 := st_at (P := Try.prog) (t := 22) (i := 1) (y := st2) cs22 d5 (by show 1 < 2; decide) k6 t2
        have lGK : G.length ≤ K.length := by have := pK.length_le; omega
        simp (maxSteps := 1000000) (disch := omega) only [e1, g2, g4, g6, g7, g8, cell_of hcK, build_a2, wrap64, k1, hst3, S, S1, S2, S3, S4, S5, ST, eq_self, reduceIte, reduceCtorEq, Nat.reduceEqDiff, Nat.reduceAdd]
        have f5 : (H3.set E.length (.cells ([a, st'].set 1 st2) 28 false))[E.length]? = some (.cells [a, st2] 28 false) := by
          rw [List.getElem?_set_self (at_lt d5)]; rfl
        have fs1 : rowO st2 = D.length ∨ G.length ≤ rowO st2 := .inr (by omega)
        have fs2 : st2 ≠ .slice none 0 0 := by
          intro hh
          rw [hh] at k5
          have : rowO (Value.slice none 0 0) = 0 := rfl
          omega
        have fm : MineP 81 D (H3.set E.length (.cells ([a, st'].set 1 st2) 28 false)) st2 (stpO jmpB ls i ++ stpI jmpB ls i (j + 1)) := by
          rw [hstep, ← List.append_assoc]
          exact k2.keepL fun hl y hy => by rw [List.getElem?_set_ne (by omega)]; exact hy
        have fp : D <+: H3.set E.length (.cells ([a, st'].set 1 st2) 28 false) := pre_set k3 (by omega) _
        refine ⟨m' - 1, by omega, j + 1, st2, ?_⟩
        (repeat' first | exact f5 | exact fs1 | exact fs2 | exact fm | exact fp | apply And.intro) <;> first | (simp only [Value.int.injEq, true_and]; omega) | omega | rfl | assumption | (simp; done) | (simp; omega)
      · have ht : ¬ jmpB (ls.getD i []) (ls.getD (i + 1 + j) []) = true := fun h => e1 (hjl.2 h)
        have hstep : stpI jmpB ls i (j + 1) = stpI jmpB ls i j := by rw [stpI, if_neg ht, List.append_nil]
        rw [← hstep] at hmK
        simp (maxSteps := 1000000) (disch := omega) only [e1, g2, g4, g6, g7, g8, wrap64, S, S1, S2, S3, S4, S5, ST, eq_self, reduceIte, reduceCtorEq, Nat.reduceEqDiff, Nat.reduceAdd]
        refine ⟨m' - 1, by omega, j + 1, st', ?_⟩
        (repeat' first | exact hcK | exact hst' | exact hsn' | exact hmK | exact hpK | apply And.intro) <;> first | (simp only [Value.int.injEq, true_and]; omega) | omega | rfl | assumption | (simp; done) | (simp; omega)
    · have hjj : j = ls.length - (i + 1) := by omega
      subst hjj
      have hstO : stpO jmpB ls (i + 1) = stpO jmpB ls i ++ stpI jmpB ls i (ls.length - (i + 1)) := rfl
      rw [← hstO] at hmn'
      simp (maxSteps := 1000000) (disch := omega) only [g2, g4, g6, g7, g8, wrap64, S, S1, S2, S3, S4, S5, ST, eq_self, reduceIte, reduceCtorEq, Nat.reduceEqDiff, Nat.reduceAdd]
      refine ⟨m - 1, by omega, i + 1, st', ?_⟩
      (repeat' first | exact hc5' | exact hst' | exact hsn' | exact hmn' | exact hpp' | apply And.intro) <;> first | (simp only [Value.int.injEq, true_and]; omega) | omega | rfl | assumption | (simp; done) | (simp; omega)
theorem ms_ok (k n : Int) (es : List (Int × Int)) : (msL k n es).length ≤ 1099511627776 ∧ sizeL (msL k n es) ≤ 549755813888 ∧ (msS k n es).length ≤ 1099511627776 := by
  unfold msL msS
  split
  · rename_i h
    have h4 := jumps_all h.1 k.toNat
    have h6 : ∀ (ls : List (List Int)), (∀ l ∈ ls, l.length ≤ 4) → sizeL ls ≤ ls.length * 4 := by
      intro ls
      induction ls with
      | nil => intro _; simp [sizeL]
      | cons l ls ih =>
        intro hl
        have := ih (fun x hx => hl x (by simp [hx]))
        have := hl l (by simp)
        simp only [sizeL, List.map_cons, List.sum_cons, List.length_cons, Nat.add_mul, Nat.one_mul] at *
        omega
    have h7 := h6 _ (fun l hl => (mext_len h.1 (j := k.toNat) hl).2)
    have h8 := h.2.2
    exact ⟨by omega, by omega, by omega⟩
  · simp [sizeL]
end Go.Proofs.Ytlfongfhbkefmaa.Ai
namespace Go.Proofs.Ytlfongfhbkefmaa.Ai
open Go
def ords3 : List (Nat × List (Nat × Bool)) := [(10, [(0, false), (1, false), (2, true), (3, true), (4, false)])]
def cd3 : Cd := (.seq (.reg [⟨⟨some 2, Op.box 24 (Operand.tmp 0), none⟩, []⟩,
  ⟨⟨some 4, Op.assign (Operand.const (Value.bool false)), none⟩, []⟩]) (.seq (.reg [⟨⟨some 5, Op.assign (Operand.const (Value.int IntKind.i64 1048576)), none⟩, []⟩]) (.seq (.reg [⟨⟨some 16, Op.load 24 (Operand.tmp 2), none⟩, []⟩,
  ⟨⟨some 17, Op.move (Operand.tmp 5), none⟩, []⟩,
  ⟨⟨some 18, Op.call { callee := (Callee.value (Operand.func 12)), args := #[(Operand.tmp 16), (Operand.tmp 17)], argTypes := #[24, 3] }, none⟩, []⟩,
  ⟨⟨some 5, Op.assign (Operand.tmp 18), none⟩, []⟩]) (.seq (.seq (.reg [⟨⟨some 19, Op.move (Operand.tmp 5), none⟩, []⟩,
  ⟨⟨some 20, Op.binOp BinOp.lss 3 (Operand.tmp 19) (Operand.const (Value.int IntKind.i64 0)) 3, none⟩, []⟩]) (.cond (Operand.tmp 20) (.seq (.reg [⟨⟨some 4, Op.assign (Operand.const (Value.bool true)), none⟩, []⟩]) .ret) .skip)) (.seq (.reg [⟨⟨some 22, Op.load 24 (Operand.tmp 2), none⟩, []⟩,
  ⟨⟨some 23, Op.call { callee := (Callee.value (Operand.func 14)), args := #[(Operand.tmp 22)], argTypes := #[24] }, none⟩, []⟩,
  ⟨⟨some 24, Op.move (Operand.tmp 1), none⟩, []⟩,
  ⟨⟨some 25, Op.call { callee := (Callee.value (Operand.func 13)), args := #[(Operand.tmp 23), (Operand.tmp 24)], argTypes := #[31, 3] }, none⟩, []⟩,
  ⟨⟨some 21, Op.move (Operand.tmp 25), none⟩, []⟩,
  ⟨⟨some 26, Op.extract (Operand.tmp 21) 0, none⟩, []⟩,
  ⟨⟨some 27, Op.extract (Operand.tmp 21) 1, none⟩, []⟩,
  ⟨⟨some 6, Op.alloc 28, none⟩, []⟩,
  ⟨⟨none, Op.store 28 (Operand.tmp 6) (Operand.tmp 26), none⟩, []⟩,
  ⟨⟨some 7, Op.assign (Operand.tmp 27), none⟩, []⟩]) (.seq (.reg [⟨⟨some 28, Op.load 24 (Operand.tmp 2), none⟩, []⟩,
  ⟨⟨some 29, Op.call { callee := (Callee.value (Operand.func 14)), args := #[(Operand.tmp 28)], argTypes := #[24] }, none⟩, []⟩,
  ⟨⟨some 8, Op.alloc 31, none⟩, []⟩,
  ⟨⟨none, Op.store 31 (Operand.tmp 8) (Operand.tmp 29), none⟩, []⟩]) (.seq (.reg [⟨⟨some 31, Op.load 31 (Operand.tmp 8), none⟩, []⟩,
  ⟨⟨some 32, Op.move (Operand.tmp 1), none⟩, []⟩,
  ⟨⟨some 33, Op.call { callee := (Callee.value (Operand.func 15)), args := #[(Operand.tmp 31), (Operand.tmp 32)], argTypes := #[31, 3] }, none⟩, []⟩,
  ⟨⟨some 30, Op.move (Operand.tmp 33), none⟩, []⟩,
  ⟨⟨some 34, Op.extract (Operand.tmp 30) 0, none⟩, []⟩,
  ⟨⟨some 35, Op.extract (Operand.tmp 30) 1, none⟩, []⟩,
  ⟨⟨some 9, Op.alloc 28, none⟩, []⟩,
  ⟨⟨none, Op.store 28 (Operand.tmp 9) (Operand.tmp 34), none⟩, []⟩,
  ⟨⟨some 10, Op.assign (Operand.tmp 35), none⟩, []⟩]) (.seq (.seq (.reg [⟨⟨some 36, Op.load 28 (Operand.tmp 9), none⟩, []⟩,
  ⟨⟨some 37, Op.load 28 (Operand.tmp 6), none⟩, []⟩,
  ⟨⟨some 38, Op.call { callee := (Callee.value (Operand.func 16)), args := #[(Operand.tmp 36), (Operand.tmp 37)], argTypes := #[28, 28] }, none⟩, []⟩,
  ⟨⟨some 39, Op.unOp UnOp.not 4 (Operand.tmp 38), none⟩, []⟩,
  ⟨⟨some 40, Op.move (Operand.tmp 39), none⟩, []⟩,
  ⟨⟨some 41, Op.move (Operand.tmp 10), some (40, false)⟩, []⟩,
  ⟨⟨some 42, Op.move (Operand.tmp 7), some (40, false)⟩, []⟩,
  ⟨⟨some 43, Op.binOp BinOp.neq 4 (Operand.tmp 41) (Operand.tmp 42) 4, some (40, false)⟩, []⟩,
  ⟨⟨some 44, Op.pick (Operand.tmp 40) (Operand.const (Value.bool true)) (Operand.tmp 43), none⟩, []⟩]) (.cond (Operand.tmp 44) (.seq (.reg [⟨⟨some 4, Op.assign (Operand.const (Value.bool false)), none⟩, []⟩]) .ret) .skip)) (.seq (.seq (.reg [⟨⟨some 45, Op.load 31 (Operand.tmp 8), none⟩, []⟩,
  ⟨⟨some 46, Op.load 24 (Operand.tmp 2), none⟩, []⟩,
  ⟨⟨some 47, Op.call { callee := (Callee.value (Operand.func 14)), args := #[(Operand.tmp 46)], argTypes := #[24] }, none⟩, [⟨some 45, Op.load 31 (Operand.tmp 8), none⟩]⟩,
  ⟨⟨some 48, Op.call { callee := (Callee.value (Operand.func 17)), args := #[(Operand.tmp 45), (Operand.tmp 47)], argTypes := #[31, 31] }, none⟩, []⟩,
  ⟨⟨some 49, Op.unOp UnOp.not 4 (Operand.tmp 48), none⟩, []⟩]) (.cond (Operand.tmp 49) (.seq (.reg [⟨⟨some 4, Op.assign (Operand.const (Value.bool false)), none⟩, []⟩]) .ret) .skip)) (.seq (.reg [⟨⟨some 11, Op.assign (Operand.const (Value.int IntKind.i64 1)), none⟩, []⟩]) (.seq (.reg [⟨⟨some 50, Op.load 31 (Operand.tmp 8), none⟩, []⟩,
  ⟨⟨some 51, Op.move (Operand.tmp 11), none⟩, []⟩,
  ⟨⟨some 52, Op.call { callee := (Callee.value (Operand.func 18)), args := #[(Operand.tmp 50), (Operand.tmp 51)], argTypes := #[31, 3] }, none⟩, []⟩,
  ⟨⟨some 11, Op.assign (Operand.tmp 52), none⟩, []⟩]) (.seq (.seq (.reg [⟨⟨some 53, Op.move (Operand.tmp 11), none⟩, []⟩,
  ⟨⟨some 54, Op.binOp BinOp.lss 3 (Operand.tmp 53) (Operand.const (Value.int IntKind.i64 0)) 3, none⟩, []⟩,
  ⟨⟨some 55, Op.move (Operand.tmp 54), none⟩, []⟩,
  ⟨⟨some 56, Op.load 28 (Operand.tmp 9), some (55, false)⟩, []⟩,
  ⟨⟨some 57, Op.load 28 (Operand.tmp 6), some (55, false)⟩, []⟩,
  ⟨⟨some 58, Op.call { callee := (Callee.value (Operand.func 16)), args := #[(Operand.tmp 56), (Operand.tmp 57)], argTypes := #[28, 28] }, some (55, false)⟩, []⟩,
  ⟨⟨some 59, Op.unOp UnOp.not 4 (Operand.tmp 58), some (55, false)⟩, []⟩,
  ⟨⟨some 60, Op.pick (Operand.tmp 55) (Operand.const (Value.bool true)) (Operand.tmp 59), none⟩, []⟩,
  ⟨⟨some 61, Op.move (Operand.tmp 60), none⟩, []⟩,
  ⟨⟨some 62, Op.move (Operand.tmp 10), some (61, false)⟩, []⟩,
  ⟨⟨some 63, Op.move (Operand.tmp 7), some (61, false)⟩, []⟩,
  ⟨⟨some 64, Op.binOp BinOp.neq 4 (Operand.tmp 62) (Operand.tmp 63) 4, some (61, false)⟩, []⟩,
  ⟨⟨some 65, Op.pick (Operand.tmp 61) (Operand.const (Value.bool true)) (Operand.tmp 64), none⟩, []⟩]) (.cond (Operand.tmp 65) (.seq (.reg [⟨⟨some 4, Op.assign (Operand.const (Value.bool false)), none⟩, []⟩]) .ret) .skip)) (.seq (.reg [⟨⟨some 12, Op.assign (Operand.const (Value.int IntKind.i64 1)), none⟩, []⟩]) (.seq (.reg [⟨⟨some 66, Op.load 28 (Operand.tmp 9), none⟩, []⟩,
  ⟨⟨some 67, Op.move (Operand.tmp 12), none⟩, []⟩,
  ⟨⟨some 68, Op.call { callee := (Callee.value (Operand.func 19)), args := #[(Operand.tmp 66), (Operand.tmp 67)], argTypes := #[28, 3] }, none⟩, []⟩,
  ⟨⟨some 12, Op.assign (Operand.tmp 68), none⟩, []⟩]) (.seq (.reg [⟨⟨some 13, Op.assign (Operand.const (Value.int IntKind.i64 1)), none⟩, []⟩]) (.seq (.reg [⟨⟨some 69, Op.load 28 (Operand.tmp 9), none⟩, []⟩,
  ⟨⟨some 70, Op.move (Operand.tmp 13), none⟩, []⟩,
  ⟨⟨some 71, Op.call { callee := (Callee.value (Operand.func 20)), args := #[(Operand.tmp 69), (Operand.tmp 70)], argTypes := #[28, 3] }, none⟩, []⟩,
  ⟨⟨some 13, Op.assign (Operand.tmp 71), none⟩, []⟩]) (.seq (.seq (.reg [⟨⟨some 72, Op.move (Operand.tmp 13), none⟩, []⟩,
  ⟨⟨some 73, Op.binOp BinOp.lss 3 (Operand.tmp 72) (Operand.const (Value.int IntKind.i64 0)) 3, none⟩, []⟩]) (.cond (Operand.tmp 73) (.seq (.reg [⟨⟨some 4, Op.assign (Operand.const (Value.bool false)), none⟩, []⟩]) .ret) .skip)) (.seq (.seq (.reg [⟨⟨some 74, Op.move (Operand.tmp 13), none⟩, []⟩,
  ⟨⟨some 75, Op.move (Operand.tmp 12), none⟩, []⟩,
  ⟨⟨some 76, Op.binOp BinOp.neq 3 (Operand.tmp 74) (Operand.tmp 75) 3, none⟩, []⟩]) (.cond (Operand.tmp 76) (.seq (.reg [⟨⟨some 4, Op.assign (Operand.const (Value.bool false)), none⟩, []⟩]) .ret) .skip)) (.seq (.reg [⟨⟨some 78, Op.load 24 (Operand.tmp 2), none⟩, []⟩,
  ⟨⟨some 79, Op.call { callee := (Callee.value (Operand.func 14)), args := #[(Operand.tmp 78)], argTypes := #[24] }, none⟩, []⟩,
  ⟨⟨some 80, Op.move (Operand.tmp 1), none⟩, []⟩,
  ⟨⟨some 81, Op.call { callee := (Callee.value (Operand.func 15)), args := #[(Operand.tmp 79), (Operand.tmp 80)], argTypes := #[31, 3] }, none⟩, []⟩,
  ⟨⟨some 77, Op.move (Operand.tmp 81), none⟩, []⟩,
  ⟨⟨some 82, Op.extract (Operand.tmp 77) 0, none⟩, []⟩,
  ⟨⟨some 83, Op.extract (Operand.tmp 77) 1, none⟩, []⟩,
  ⟨⟨some 14, Op.alloc 28, none⟩, []⟩,
  ⟨⟨none, Op.store 28 (Operand.tmp 14) (Operand.tmp 82), none⟩, []⟩,
  ⟨⟨some 15, Op.assign (Operand.tmp 83), none⟩, []⟩]) (.seq (.seq (.reg [⟨⟨some 84, Op.load 28 (Operand.tmp 14), none⟩, []⟩,
  ⟨⟨some 85, Op.load 28 (Operand.tmp 6), none⟩, []⟩,
  ⟨⟨some 86, Op.call { callee := (Callee.value (Operand.func 16)), args := #[(Operand.tmp 84), (Operand.tmp 85)], argTypes := #[28, 28] }, none⟩, []⟩,
  ⟨⟨some 87, Op.unOp UnOp.not 4 (Operand.tmp 86), none⟩, []⟩,
  ⟨⟨some 88, Op.move (Operand.tmp 87), none⟩, []⟩,
  ⟨⟨some 89, Op.move (Operand.tmp 15), some (88, false)⟩, []⟩,
  ⟨⟨some 90, Op.move (Operand.tmp 7), some (88, false)⟩, []⟩,
  ⟨⟨some 91, Op.binOp BinOp.neq 4 (Operand.tmp 89) (Operand.tmp 90) 4, some (88, false)⟩, []⟩,
  ⟨⟨some 92, Op.pick (Operand.tmp 88) (Operand.const (Value.bool true)) (Operand.tmp 91), none⟩, []⟩]) (.cond (Operand.tmp 92) (.seq (.reg [⟨⟨some 4, Op.assign (Operand.const (Value.bool false)), none⟩, []⟩]) .ret) .skip)) (.seq (.reg [⟨⟨some 13, Op.assign (Operand.const (Value.int IntKind.i64 1)), none⟩, []⟩]) (.seq (.reg [⟨⟨some 93, Op.load 28 (Operand.tmp 9), none⟩, []⟩,
  ⟨⟨some 94, Op.move (Operand.tmp 13), none⟩, []⟩,
  ⟨⟨some 95, Op.call { callee := (Callee.value (Operand.func 20)), args := #[(Operand.tmp 93), (Operand.tmp 94)], argTypes := #[28, 3] }, none⟩, []⟩,
  ⟨⟨some 13, Op.assign (Operand.tmp 95), none⟩, []⟩]) (.seq (.seq (.reg [⟨⟨some 96, Op.move (Operand.tmp 13), none⟩, []⟩,
  ⟨⟨some 97, Op.binOp BinOp.lss 3 (Operand.tmp 96) (Operand.const (Value.int IntKind.i64 0)) 3, none⟩, []⟩]) (.cond (Operand.tmp 97) (.seq (.reg [⟨⟨some 4, Op.assign (Operand.const (Value.bool false)), none⟩, []⟩]) .ret) .skip)) (.seq (.seq (.reg [⟨⟨some 98, Op.move (Operand.tmp 13), none⟩, []⟩,
  ⟨⟨some 99, Op.move (Operand.tmp 12), none⟩, []⟩,
  ⟨⟨some 100, Op.binOp BinOp.neq 3 (Operand.tmp 98) (Operand.tmp 99) 3, none⟩, []⟩]) (.cond (Operand.tmp 100) (.seq (.reg [⟨⟨some 4, Op.assign (Operand.const (Value.bool false)), none⟩, []⟩]) .ret) .skip)) (.seq (.reg [⟨⟨some 4, Op.assign (Operand.const (Value.bool true)), none⟩, []⟩]) .ret)))))))))))))))))))))))))
theorem sl3 : slim Try.f3.ntmps ords3 (Try.f3.body.getD .skip) = some cd3 := by kernel_rfl
theorem in3 {args : List Value} {H : AH} {R : Value → AH → Prop} (hl : args.length = 2) (h : ∀ (Q : Exit → Sl → AH → Prop), (∀ e s H, endA Try.prog [ResultVar.tmp 4] R e s H → Q e s H) → wpC Try.prog cd3 Q (enterA args) H) : ACalls Try.prog 3 args H R :=
  ACalls.intro (by kernel_rfl) Try.func3 rfl (by kernel_rfl) sl3 hl (of_decide_eq_true (by kernel_rfl)) (by kernel_rfl) h
end Go.Proofs.Ytlfongfhbkefmaa.Ai
namespace Go.Proofs.Ytlfongfhbkefmaa.Ai
open Go Go.RowKit
set_option linter.unusedVariables false
set_option linter.unusedSimpArgs false
set_option maxRecDepth 20000 in
set_option maxHeartbeats 8000000 in
theorem mssLaw_c (a1 : Int) (n0 : Int) (v0 : Value) (xs0 : List (Int × Int)) (H0 : AH) (r0 : RowP 81 H0 v0 xs0) (b0 : (∀ y ∈ xs0, I64 y.1 ∧ I64 y.2) ∧ (xs0.length : Int) ≤ 9223372036854775807) (bn0 : I64 n0) :
    ACalls Try.prog 3 [.agg (List.toArray [.int .i64 n0, v0]), .int .i64 a1] H0 fun r H' => r = .bool true := by
  refine in3 rfl ?_
  intro Q hQ
  simp (maxSteps := 4000000) (disch := omega) only [cd3, r0.boxL, S, S1, S2, S3, S4, S5, ST, eq_self, reduceIte, reduceCtorEq, Nat.reduceEqDiff, Nat.reduceAdd]
  generalize hG0 : H0 ++ [AObj.cells [.int .i64 n0, v0] 24 false] = H1
  have p1 : H0 <+: H1 := by rw [← hG0]; exact List.prefix_append _ _
  have CB0_1 : H1[H0.length]? = some (.cells [.int .i64 n0, v0] 24 false) := by rw [← hG0]; exact at_new ..
  have L1 := p1.length_le
  have Lb := at_lt CB0_1
  try simp (maxSteps := 4000000) (disch := omega) only [ld_agg ag24 cs24 CB0_1, S, S1, S2, S3, S4, S5, ST, eq_self, reduceIte, reduceCtorEq, Nat.reduceEqDiff, Nat.reduceAdd]
  have Ra0_0 := r0.b
  have Ra0_1 := Ra0_0.pre p1
  refine CallH.by (szGraph_c n0 v0 xs0 (1048576) H1 Ra0_1.1 (by omega) b0.2) ?_
  rintro _ H2 ⟨rfl, p2⟩
  have Ra0_2 := Ra0_1.pre p2
  have CB0_2 := pre_at p2 CB0_1
  have L2 := p2.length_le
  simp (maxSteps := 4000000) (disch := omega) only [ld_agg ag24 cs24 CB0_2, S, S1, S2, S3, S4, S5, ST, eq_self, reduceIte, reduceCtorEq, Nat.reduceEqDiff, Nat.reduceAdd]
  by_cases g0 : 1048576 - (xs0.length : Int) < 0
  · rw [if_pos g0]
    try simp (maxSteps := 4000000) (disch := omega) only [ld_agg ag24 cs24 CB0_2, S, S1, S2, S3, S4, S5, ST, eq_self, reduceIte, reduceCtorEq, Nat.reduceEqDiff, Nat.reduceAdd]
    try (refine brD.intro (fun _ => ?_) (fun h => absurd h (by omega)))
    try simp (maxSteps := 4000000) (disch := omega) only [ld_agg ag24 cs24 CB0_2, S, S1, S2, S3, S4, S5, ST, eq_self, reduceIte, reduceCtorEq, Nat.reduceEqDiff, Nat.reduceAdd]
    refine hQ _ _ _ ?_
    simp (maxSteps := 4000000) (disch := omega) only [ld_agg ag24 cs24 CB0_2, S, S1, S2, S3, S4, S5, ST, eq_self, reduceIte, reduceCtorEq, Nat.reduceEqDiff, Nat.reduceAdd]
  rw [if_neg g0]
  try simp (maxSteps := 4000000) (disch := omega) only [g0, ld_agg ag24 cs24 CB0_2, S, S1, S2, S3, S4, S5, ST, eq_self, reduceIte, reduceCtorEq, Nat.reduceEqDiff, Nat.reduceAdd]
  try refine brD.intro (fun h => absurd h (by omega)) (fun _ => ?_)
  try simp (maxSteps := 4000000) (disch := omega) only [g0, ld_agg ag24 cs24 CB0_2, S, S1, S2, S3, S4, S5, ST, eq_self, reduceIte, reduceCtorEq, Nat.reduceEqDiff, Nat.reduceAdd]
  have l0 : xs0.length ≤ 1048576 := by omega
  have L0_big : xs0.length ≤ 1099511627776 := by omega
  refine CallH.by (toGraph_c n0 v0 xs0 H2 Ra0_2.1 L0_big) ?_
  rintro _ H3 ⟨c0, rfl, qc0, p3⟩
  have Ra0_3 := Ra0_2.pre p3
  have CB0_3 := pre_at p3 CB0_2
  have L3 := p3.length_le
  have Mc0_3 := InP.of qc0
  have Rc0_3 := Mc0_3.row
  simp (maxSteps := 4000000) (disch := omega) only [ld_agg ag24 cs24 CB0_3, S, S1, S2, S3, S4, S5, ST, eq_self, reduceIte, reduceCtorEq, Nat.reduceEqDiff, Nat.reduceAdd]
  refine CallH.by (MsS_c a1 n0 c0 xs0 H3 Rc0_3.1 L0_big b0.1 bn0) ?_
  rintro _ H4 ⟨w0a, w0b, rfl, qw0, p4⟩
  have Ra0_4 := Ra0_3.pre p4
  have Rc0_4 := Rc0_3.pre p4
  have Mc0_4 := Mc0_3.pre p4
  have CB0_4 := pre_at p4 CB0_3
  have L4 := p4.length_le
  have Mw0_4 := qw0
  have Rw0_4 := Mw0_4.row
  have hstw0 := Rw0_4.store (at_new H4 (.cells [.slice none 0 0, .slice none 0 0] 28 false)) rfl
  simp (maxSteps := 4000000) (disch := omega) only [alloc_sp, hstw0, set_new, ld_agg ag24 cs24 CB0_4, S, S1, S2, S3, S4, S5, ST, eq_self, reduceIte, reduceCtorEq, Nat.reduceEqDiff, Nat.reduceAdd]
  generalize hXw0 : H4 ++ [AObj.cells [w0a, w0b] 28 false] = H5
  have p5 : H4 <+: H5 := by rw [← hXw0]; exact List.prefix_append _ _
  have Cw0_5 : H5[H4.length]? = some (.cells [w0a, w0b] 28 false) := by rw [← hXw0]; exact at_new ..
  have Lxw0 := at_lt Cw0_5
  have Ra0_5 := Ra0_4.pre p5
  have Rc0_5 := Rc0_4.pre p5
  have Rw0_5 := Rw0_4.pre p5
  have Mc0_5 := Mc0_4.pre p5
  have Mw0_5 := Mw0_4.pre p5
  have CB0_5 := pre_at p5 CB0_4
  have L5 := p5.length_le
  try simp (maxSteps := 4000000) (disch := omega) only [ld_agg ag24 cs24 CB0_5, ld_agg ag28 cs28 Cw0_5, S, S1, S2, S3, S4, S5, ST, eq_self, reduceIte, reduceCtorEq, Nat.reduceEqDiff, Nat.reduceAdd]
  refine CallH.by (toGraph_c n0 v0 xs0 H5 Ra0_5.1 L0_big) ?_
  rintro _ H6 ⟨d0, rfl, qd0, p6⟩
  have Ra0_6 := Ra0_5.pre p6
  have Rw0_6 := Rw0_5.pre p6
  have Mw0_6 := Mw0_5.pre p6
  have CB0_6 := pre_at p6 CB0_5
  have Cw0_6 := pre_at p6 Cw0_5
  have L6 := p6.length_le
  have Md0_6 := InP.of qd0
  have Rd0_6 := Md0_6.row
  simp (maxSteps := 4000000) (disch := omega) only [ld_agg ag24 cs24 CB0_6, ld_agg ag28 cs28 Cw0_6, S, S1, S2, S3, S4, S5, ST, eq_self, reduceIte, reduceCtorEq, Nat.reduceEqDiff, Nat.reduceAdd]
  have hst0 := st_G Rd0_6.1 (at_new H6 (.cells [.int .i64 0, .slice none 0 0] 31 false)) rfl n0
  simp (maxSteps := 4000000) (disch := omega) only [alloc_G, hst0, set_new, ld_agg ag24 cs24 CB0_6, ld_agg ag28 cs28 Cw0_6, S, S1, S2, S3, S4, S5, ST, eq_self, reduceIte, reduceCtorEq, Nat.reduceEqDiff, Nat.reduceAdd]
  generalize hX0 : H6 ++ [AObj.cells [.int .i64 n0, d0] 31 false] = H7
  have p7 : H6 <+: H7 := by rw [← hX0]; exact List.prefix_append _ _
  have CX0_7 : H7[H6.length]? = some (.cells [.int .i64 n0, d0] 31 false) := by rw [← hX0]; exact at_new ..
  have Lx := at_lt CX0_7
  have Ra0_7 := Ra0_6.pre p7
  have Rw0_7 := Rw0_6.pre p7
  have Rd0_7 := Rd0_6.pre p7
  have Mw0_7 := Mw0_6.pre p7
  have Md0_7 := Md0_6.pre p7
  have CB0_7 := pre_at p7 CB0_6
  have Cw0_7 := pre_at p7 Cw0_6
  have L7 := p7.length_le
  try simp (maxSteps := 4000000) (disch := omega) only [ld_agg ag24 cs24 CB0_7, ld_agg ag28 cs28 Cw0_7, ld_agg ag31 cs31 CX0_7, S, S1, S2, S3, S4, S5, ST, eq_self, reduceIte, reduceCtorEq, Nat.reduceEqDiff, Nat.reduceAdd]
  refine CallH.by (MsI_c a1 n0 d0 xs0 H7 Rd0_7.1 L0_big b0.1 bn0) ?_
  rintro _ H8 ⟨g0a, g0b, rfl, qg0, p8⟩
  have Ra0_8 := Ra0_7.pre p8
  have Rw0_8 := Rw0_7.pre p8
  have Rd0_8 := Rd0_7.pre p8
  have Mw0_8 := Mw0_7.pre p8
  have Md0_8 := Md0_7.pre p8
  have CB0_8 := pre_at p8 CB0_7
  have Cw0_8 := pre_at p8 Cw0_7
  have CX0_8 := pre_at p8 CX0_7
  have L8 := p8.length_le
  have Mg0_8 := qg0
  have Rg0_8 := Mg0_8.row
  have hstg0 := Rg0_8.store (at_new H8 (.cells [.slice none 0 0, .slice none 0 0] 28 false)) rfl
  simp (maxSteps := 4000000) (disch := omega) only [alloc_sp, hstg0, set_new, ld_agg ag24 cs24 CB0_8, ld_agg ag28 cs28 Cw0_8, ld_agg ag31 cs31 CX0_8, S, S1, S2, S3, S4, S5, ST, eq_self, reduceIte, reduceCtorEq, Nat.reduceEqDiff, Nat.reduceAdd]
  generalize hXg0 : H8 ++ [AObj.cells [g0a, g0b] 28 false] = H9
  have p9 : H8 <+: H9 := by rw [← hXg0]; exact List.prefix_append _ _
  have Cg0_9 : H9[H8.length]? = some (.cells [g0a, g0b] 28 false) := by rw [← hXg0]; exact at_new ..
  have Lxg0 := at_lt Cg0_9
  have Ra0_9 := Ra0_8.pre p9
  have Rw0_9 := Rw0_8.pre p9
  have Rd0_9 := Rd0_8.pre p9
  have Rg0_9 := Rg0_8.pre p9
  have Mw0_9 := Mw0_8.pre p9
  have Md0_9 := Md0_8.pre p9
  have Mg0_9 := Mg0_8.pre p9
  have CB0_9 := pre_at p9 CB0_8
  have Cw0_9 := pre_at p9 Cw0_8
  have CX0_9 := pre_at p9 CX0_8
  have L9 := p9.length_le
  try simp (maxSteps := 4000000) (disch := omega) only [ld_agg ag24 cs24 CB0_9, ld_agg ag28 cs28 Cw0_9, ld_agg ag31 cs31 CX0_9, ld_agg ag28 cs28 Cg0_9, S, S1, S2, S3, S4, S5, ST, eq_self, reduceIte, reduceCtorEq, Nat.reduceEqDiff, Nat.reduceAdd]
  have hR := ms_ok a1 n0 xs0
  refine CallH.by (eqSpace_c g0a g0b w0a w0b _ _ _ _ H9 Rg0_9 Rw0_9 hR.1 (Nat.le_trans hR.2.1 (by decide)) hR.2.2) ?_
  rintro _ H10 ⟨rfl, p10⟩
  have Ra0_10 := Ra0_9.pre p10
  have Rw0_10 := Rw0_9.pre p10
  have Rd0_10 := Rd0_9.pre p10
  have Rg0_10 := Rg0_9.pre p10
  have Mw0_10 := Mw0_9.pre p10
  have Md0_10 := Md0_9.pre p10
  have Mg0_10 := Mg0_9.pre p10
  have CB0_10 := pre_at p10 CB0_9
  have Cw0_10 := pre_at p10 Cw0_9
  have CX0_10 := pre_at p10 CX0_9
  have Cg0_10 := pre_at p10 Cg0_9
  have L10 := p10.length_le
  simp (maxSteps := 4000000) (disch := omega) only [ld_agg ag24 cs24 CB0_10, ld_agg ag28 cs28 Cw0_10, ld_agg ag31 cs31 CX0_10, ld_agg ag28 cs28 Cg0_10, S, S1, S2, S3, S4, S5, ST, eq_self, reduceIte, reduceCtorEq, Nat.reduceEqDiff, Nat.reduceAdd]
  refine CallH.by (toGraph_c n0 v0 xs0 H10 Ra0_10.1 L0_big) ?_
  rintro _ H11 ⟨f0, rfl, qf0, p11⟩
  have Ra0_11 := Ra0_10.pre p11
  have Rw0_11 := Rw0_10.pre p11
  have Rd0_11 := Rd0_10.pre p11
  have Rg0_11 := Rg0_10.pre p11
  have Mw0_11 := Mw0_10.pre p11
  have Md0_11 := Md0_10.pre p11
  have Mg0_11 := Mg0_10.pre p11
  have CB0_11 := pre_at p11 CB0_10
  have Cw0_11 := pre_at p11 Cw0_10
  have CX0_11 := pre_at p11 CX0_10
  have Cg0_11 := pre_at p11 Cg0_10
  have L11 := p11.length_le
  have Mf0_11 := InP.of qf0
  have Rf0_11 := Mf0_11.row
  simp (maxSteps := 4000000) (disch := omega) only [ld_agg ag24 cs24 CB0_11, ld_agg ag28 cs28 Cw0_11, ld_agg ag31 cs31 CX0_11, ld_agg ag28 cs28 Cg0_11, S, S1, S2, S3, S4, S5, ST, eq_self, reduceIte, reduceCtorEq, Nat.reduceEqDiff, Nat.reduceAdd]
  refine CallH.by (eqGraph_c n0 n0 d0 f0 _ _ H11 Rd0_11.1 Rf0_11.1 L0_big) ?_
  rintro _ H12 ⟨rfl, p12⟩
  have Ra0_12 := Ra0_11.pre p12
  have Rw0_12 := Rw0_11.pre p12
  have Rd0_12 := Rd0_11.pre p12
  have Rg0_12 := Rg0_11.pre p12
  have Rf0_12 := Rf0_11.pre p12
  have Mw0_12 := Mw0_11.pre p12
  have Md0_12 := Md0_11.pre p12
  have Mg0_12 := Mg0_11.pre p12
  have Mf0_12 := Mf0_11.pre p12
  have CB0_12 := pre_at p12 CB0_11
  have Cw0_12 := pre_at p12 Cw0_11
  have CX0_12 := pre_at p12 CX0_11
  have Cg0_12 := pre_at p12 Cg0_11
  have L12 := p12.length_le
  simp (maxSteps := 4000000) (disch := omega) only [ld_agg ag24 cs24 CB0_12, ld_agg ag28 cs28 Cw0_12, ld_agg ag31 cs31 CX0_12, ld_agg ag28 cs28 Cg0_12, S, S1, S2, S3, S4, S5, ST, eq_self, reduceIte, reduceCtorEq, Nat.reduceEqDiff, Nat.reduceAdd]
  refine CallH.by (markGraph_B n0 d0 _ _ _ _ H12 Md0_12 L0_big (by omega) (by omega)) ?_
  rintro _ H14 ⟨rfl, H13, n_13, e13, p14⟩
  have L13 := Nat.le_of_eq e13.1.symm
  have Ra0_13 := Ra0_12.keep e13 (by omega)
  have Mw0_13 := Mw0_12.keep e13 (by omega)
  have Rw0_13 := Mw0_13.row
  have Mg0_13 := Mg0_12.keep e13 (by omega)
  have Rg0_13 := Mg0_13.row
  have CB0_13 := e13.2 _ _ (by omega) CB0_12
  have Cw0_13 := e13.2 _ _ (by omega) Cw0_12
  have CX0_13 := e13.2 _ _ (by omega) CX0_12
  have Cg0_13 := e13.2 _ _ (by omega) Cg0_12
  have Ra0_14 := Ra0_13.pre p14
  have Rw0_14 := Rw0_13.pre p14
  have Rg0_14 := Rg0_13.pre p14
  have Mw0_14 := Mw0_13.pre p14
  have Mg0_14 := Mg0_13.pre p14
  have CB0_14 := pre_at p14 CB0_13
  have Cw0_14 := pre_at p14 Cw0_13
  have CX0_14 := pre_at p14 CX0_13
  have Cg0_14 := pre_at p14 Cg0_13
  have L14 := p14.length_le
  simp (maxSteps := 4000000) (disch := omega) only [ld_agg ag24 cs24 CB0_14, ld_agg ag28 cs28 Cw0_14, ld_agg ag31 cs31 CX0_14, ld_agg ag28 cs28 Cg0_14, S, S1, S2, S3, S4, S5, ST, eq_self, reduceIte, reduceCtorEq, Nat.reduceEqDiff, Nat.reduceAdd]
  refine brD.intro (fun g => absurd g (by omega)) (fun gk => ?_)
  simp (maxSteps := 4000000) (disch := omega) only [gk, ld_agg ag24 cs24 CB0_14, ld_agg ag28 cs28 Cw0_14, ld_agg ag31 cs31 CX0_14, ld_agg ag28 cs28 Cg0_14, S, S1, S2, S3, S4, S5, ST, eq_self, reduceIte, reduceCtorEq, Nat.reduceEqDiff, Nat.reduceAdd]
  refine CallH.by (eqSpace_c g0a g0b w0a w0b _ _ _ _ H14 Rg0_14 Rw0_14 hR.1 (Nat.le_trans hR.2.1 (by decide)) hR.2.2) ?_
  rintro _ H15 ⟨rfl, p15⟩
  have Ra0_15 := Ra0_14.pre p15
  have Rw0_15 := Rw0_14.pre p15
  have Rg0_15 := Rg0_14.pre p15
  have Mw0_15 := Mw0_14.pre p15
  have Mg0_15 := Mg0_14.pre p15
  have CB0_15 := pre_at p15 CB0_14
  have Cw0_15 := pre_at p15 Cw0_14
  have CX0_15 := pre_at p15 CX0_14
  have Cg0_15 := pre_at p15 Cg0_14
  have L15 := p15.length_le
  simp (maxSteps := 4000000) (disch := omega) only [ld_agg ag24 cs24 CB0_15, ld_agg ag28 cs28 Cw0_15, ld_agg ag31 cs31 CX0_15, ld_agg ag28 cs28 Cg0_15, S, S1, S2, S3, S4, S5, ST, eq_self, reduceIte, reduceCtorEq, Nat.reduceEqDiff, Nat.reduceAdd]
  try simp (maxSteps := 4000000) (disch := omega) only [gk, ld_agg ag24 cs24 CB0_15, ld_agg ag28 cs28 Cw0_15, ld_agg ag31 cs31 CX0_15, ld_agg ag28 cs28 Cg0_15, S, S1, S2, S3, S4, S5, ST, eq_self, reduceIte, reduceCtorEq, Nat.reduceEqDiff, Nat.reduceAdd]
  refine CallH.by (markSpace_B g0a g0b _ _ 1 _ _ H15 Mg0_15 hR.1 hR.2.1 hR.2.2 (by omega) (by omega)) ?_
  rintro _ H17 ⟨rfl, H16, n_16, e16, p17⟩
  have L16 := Nat.le_of_eq e16.1.symm
  have Ra0_16 := Ra0_15.keep e16 (by omega)
  have Mw0_16 := Mw0_15.keep e16 (by omega)
  have Rw0_16 := Mw0_16.row
  have CB0_16 := e16.2 _ _ (by omega) CB0_15
  have Cw0_16 := e16.2 _ _ (by omega) Cw0_15
  have CX0_16 := e16.2 _ _ (by omega) CX0_15
  have Cg0_16 := e16.2 _ _ (by omega) Cg0_15
  have Mg0_16 := n_16
  have Rg0_16 := n_16.row
  have Ra0_17 := Ra0_16.pre p17
  have Rw0_17 := Rw0_16.pre p17
  have Rg0_17 := Rg0_16.pre p17
  have Mw0_17 := Mw0_16.pre p17
  have Mg0_17 := Mg0_16.pre p17
  have CB0_17 := pre_at p17 CB0_16
  have Cw0_17 := pre_at p17 Cw0_16
  have CX0_17 := pre_at p17 CX0_16
  have Cg0_17 := pre_at p17 Cg0_16
  have L17 := p17.length_le
  simp (maxSteps := 4000000) (disch := omega) only [ld_agg ag24 cs24 CB0_17, ld_agg ag28 cs28 Cw0_17, ld_agg ag31 cs31 CX0_17, ld_agg ag28 cs28 Cg0_17, S, S1, S2, S3, S4, S5, ST, eq_self, reduceIte, reduceCtorEq, Nat.reduceEqDiff, Nat.reduceAdd]
  refine CallH.by (heldSpace_c g0a g0b _ _ 1 H17 Rg0_17 hR.1 hR.2.1 hR.2.2 (by omega)) ?_
  rintro _ H18 ⟨rfl, p18⟩
  have Ra0_18 := Ra0_17.pre p18
  have Rw0_18 := Rw0_17.pre p18
  have Rg0_18 := Rg0_17.pre p18
  have Mw0_18 := Mw0_17.pre p18
  have Mg0_18 := Mg0_17.pre p18
  have CB0_18 := pre_at p18 CB0_17
  have Cw0_18 := pre_at p18 Cw0_17
  have CX0_18 := pre_at p18 CX0_17
  have Cg0_18 := pre_at p18 Cg0_17
  have L18 := p18.length_le
  simp (maxSteps := 4000000) (disch := omega) only [ld_agg ag24 cs24 CB0_18, ld_agg ag28 cs28 Cw0_18, ld_agg ag31 cs31 CX0_18, ld_agg ag28 cs28 Cg0_18, S, S1, S2, S3, S4, S5, ST, eq_self, reduceIte, reduceCtorEq, Nat.reduceEqDiff, Nat.reduceAdd]
  refine brD.intro (fun g => absurd g (by omega)) (fun _ => ?_)
  simp (maxSteps := 4000000) (disch := omega) only [ld_agg ag24 cs24 CB0_18, ld_agg ag28 cs28 Cw0_18, ld_agg ag31 cs31 CX0_18, ld_agg ag28 cs28 Cg0_18, S, S1, S2, S3, S4, S5, ST, eq_self, reduceIte, reduceCtorEq, Nat.reduceEqDiff, Nat.reduceAdd]
  refine CallH.by (toGraph_c n0 v0 xs0 H18 Ra0_18.1 L0_big) ?_
  rintro _ H19 ⟨e0, rfl, qe0, p19⟩
  have Ra0_19 := Ra0_18.pre p19
  have Rw0_19 := Rw0_18.pre p19
  have Rg0_19 := Rg0_18.pre p19
  have Mw0_19 := Mw0_18.pre p19
  have Mg0_19 := Mg0_18.pre p19
  have CB0_19 := pre_at p19 CB0_18
  have Cw0_19 := pre_at p19 Cw0_18
  have CX0_19 := pre_at p19 CX0_18
  have Cg0_19 := pre_at p19 Cg0_18
  have L19 := p19.length_le
  have Me0_19 := InP.of qe0
  have Re0_19 := Me0_19.row
  simp (maxSteps := 4000000) (disch := omega) only [ld_agg ag24 cs24 CB0_19, ld_agg ag28 cs28 Cw0_19, ld_agg ag31 cs31 CX0_19, ld_agg ag28 cs28 Cg0_19, S, S1, S2, S3, S4, S5, ST, eq_self, reduceIte, reduceCtorEq, Nat.reduceEqDiff, Nat.reduceAdd]
  refine CallH.by (MsI_c a1 n0 e0 xs0 H19 Re0_19.1 L0_big b0.1 bn0) ?_
  rintro _ H20 ⟨h0a, h0b, rfl, qh0, p20⟩
  have Ra0_20 := Ra0_19.pre p20
  have Rw0_20 := Rw0_19.pre p20
  have Rg0_20 := Rg0_19.pre p20
  have Re0_20 := Re0_19.pre p20
  have Mw0_20 := Mw0_19.pre p20
  have Mg0_20 := Mg0_19.pre p20
  have Me0_20 := Me0_19.pre p20
  have CB0_20 := pre_at p20 CB0_19
  have Cw0_20 := pre_at p20 Cw0_19
  have CX0_20 := pre_at p20 CX0_19
  have Cg0_20 := pre_at p20 Cg0_19
  have L20 := p20.length_le
  have Mh0_20 := qh0
  have Rh0_20 := Mh0_20.row
  have hsth0 := Rh0_20.store (at_new H20 (.cells [.slice none 0 0, .slice none 0 0] 28 false)) rfl
  simp (maxSteps := 4000000) (disch := omega) only [alloc_sp, hsth0, set_new, ld_agg ag24 cs24 CB0_20, ld_agg ag28 cs28 Cw0_20, ld_agg ag31 cs31 CX0_20, ld_agg ag28 cs28 Cg0_20, S, S1, S2, S3, S4, S5, ST, eq_self, reduceIte, reduceCtorEq, Nat.reduceEqDiff, Nat.reduceAdd]
  generalize hXh0 : H20 ++ [AObj.cells [h0a, h0b] 28 false] = H21
  have p21 : H20 <+: H21 := by rw [← hXh0]; exact List.prefix_append _ _
  have Ch0_21 : H21[H20.length]? = some (.cells [h0a, h0b] 28 false) := by rw [← hXh0]; exact at_new ..
  have Lxh0 := at_lt Ch0_21
  have Ra0_21 := Ra0_20.pre p21
  have Rw0_21 := Rw0_20.pre p21
  have Rg0_21 := Rg0_20.pre p21
  have Re0_21 := Re0_20.pre p21
  have Rh0_21 := Rh0_20.pre p21
  have Mw0_21 := Mw0_20.pre p21
  have Mg0_21 := Mg0_20.pre p21
  have Me0_21 := Me0_20.pre p21
  have Mh0_21 := Mh0_20.pre p21
  have CB0_21 := pre_at p21 CB0_20
  have Cw0_21 := pre_at p21 Cw0_20
  have CX0_21 := pre_at p21 CX0_20
  have Cg0_21 := pre_at p21 Cg0_20
  have L21 := p21.length_le
  try simp (maxSteps := 4000000) (disch := omega) only [ld_agg ag24 cs24 CB0_21, ld_agg ag28 cs28 Cw0_21, ld_agg ag31 cs31 CX0_21, ld_agg ag28 cs28 Cg0_21, ld_agg ag28 cs28 Ch0_21, S, S1, S2, S3, S4, S5, ST, eq_self, reduceIte, reduceCtorEq, Nat.reduceEqDiff, Nat.reduceAdd]
  refine CallH.by (eqSpace_c h0a h0b w0a w0b _ _ _ _ H21 Rh0_21 Rw0_21 hR.1 (Nat.le_trans hR.2.1 (by decide)) hR.2.2) ?_
  rintro _ H22 ⟨rfl, p22⟩
  have Ra0_22 := Ra0_21.pre p22
  have Rw0_22 := Rw0_21.pre p22
  have Rg0_22 := Rg0_21.pre p22
  have Re0_22 := Re0_21.pre p22
  have Rh0_22 := Rh0_21.pre p22
  have Mw0_22 := Mw0_21.pre p22
  have Mg0_22 := Mg0_21.pre p22
  have Me0_22 := Me0_21.pre p22
  have Mh0_22 := Mh0_21.pre p22
  have CB0_22 := pre_at p22 CB0_21
  have Cw0_22 := pre_at p22 Cw0_21
  have CX0_22 := pre_at p22 CX0_21
  have Cg0_22 := pre_at p22 Cg0_21
  have Ch0_22 := pre_at p22 Ch0_21
  have L22 := p22.length_le
  simp (maxSteps := 4000000) (disch := omega) only [ld_agg ag24 cs24 CB0_22, ld_agg ag28 cs28 Cw0_22, ld_agg ag31 cs31 CX0_22, ld_agg ag28 cs28 Cg0_22, ld_agg ag28 cs28 Ch0_22, S, S1, S2, S3, S4, S5, ST, eq_self, reduceIte, reduceCtorEq, Nat.reduceEqDiff, Nat.reduceAdd]
  refine CallH.by (heldSpace_c g0a g0b _ _ 1 H22 Rg0_22 hR.1 hR.2.1 hR.2.2 (by omega)) ?_
  rintro _ H23 ⟨rfl, p23⟩
  have Ra0_23 := Ra0_22.pre p23
  have Rw0_23 := Rw0_22.pre p23
  have Rg0_23 := Rg0_22.pre p23
  have Re0_23 := Re0_22.pre p23
  have Rh0_23 := Rh0_22.pre p23
  have Mw0_23 := Mw0_22.pre p23
  have Mg0_23 := Mg0_22.pre p23
  have Me0_23 := Me0_22.pre p23
  have Mh0_23 := Mh0_22.pre p23
  have CB0_23 := pre_at p23 CB0_22
  have Cw0_23 := pre_at p23 Cw0_22
  have CX0_23 := pre_at p23 CX0_22
  have Cg0_23 := pre_at p23 Cg0_22
  have Ch0_23 := pre_at p23 Ch0_22
  have L23 := p23.length_le
  simp (maxSteps := 4000000) (disch := omega) only [ld_agg ag24 cs24 CB0_23, ld_agg ag28 cs28 Cw0_23, ld_agg ag31 cs31 CX0_23, ld_agg ag28 cs28 Cg0_23, ld_agg ag28 cs28 Ch0_23, S, S1, S2, S3, S4, S5, ST, eq_self, reduceIte, reduceCtorEq, Nat.reduceEqDiff, Nat.reduceAdd]
  refine brD.intro (fun g => absurd g (by omega)) (fun _ => ?_)
  simp (maxSteps := 4000000) (disch := omega) only [ld_agg ag24 cs24 CB0_23, ld_agg ag28 cs28 Cw0_23, ld_agg ag31 cs31 CX0_23, ld_agg ag28 cs28 Cg0_23, ld_agg ag28 cs28 Ch0_23, S, S1, S2, S3, S4, S5, ST, eq_self, reduceIte, reduceCtorEq, Nat.reduceEqDiff, Nat.reduceAdd]
  refine hQ _ _ _ ?_
  simp (maxSteps := 4000000) (disch := omega) only [ld_agg ag24 cs24 CB0_23, ld_agg ag28 cs28 Cw0_23, ld_agg ag31 cs31 CX0_23, ld_agg ag28 cs28 Cg0_23, ld_agg ag28 cs28 Ch0_23, S, S1, S2, S3, S4, S5, ST, eq_self, reduceIte, reduceCtorEq, Nat.reduceEqDiff, Nat.reduceAdd]
end Go.Proofs.Ytlfongfhbkefmaa.Ai
