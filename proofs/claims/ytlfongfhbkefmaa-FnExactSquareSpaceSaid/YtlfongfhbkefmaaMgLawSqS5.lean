/- Texts of this claim, joined: OfSz, MatN, Ext, Perf, SrtL, SrtF, JmpS, SqP, Ones, Spc, MarkL, MarkS. -/
import Derived.Test.YtlfongfhbkefmaaProg
import Derived.KernelRfl
import Derived.Test.YtlfongfhbkefmaaMgLawSqS4
namespace Go.Proofs.Ytlfongfhbkefmaa.Ai
open Go
def ords155 : List (Nat × List (Nat × Bool)) := [(2, [(0, false), (1, false), (2, true), (3, false), (4, true), (5, true)])]
def cd155 : Cd := (.seq (.reg [⟨⟨some 4, Op.assign (Operand.const (Value.bool false)), none⟩, []⟩]) (.seq (.seq (.reg [⟨⟨some 5, Op.move (Operand.tmp 0), none⟩, []⟩,
  ⟨⟨some 6, Op.call { callee := (Callee.builtin Builtin.len), args := #[(Operand.tmp 5)], argTypes := #[38] }, none⟩, []⟩,
  ⟨⟨some 7, Op.load 3 (Operand.tmp 1), none⟩, []⟩,
  ⟨⟨some 8, Op.binOp BinOp.eql 3 (Operand.tmp 6) (Operand.tmp 7) 3, none⟩, []⟩]) (.cond (Operand.tmp 8) (.reg [⟨⟨some 9, Op.load 26 (Operand.tmp 2), none⟩, []⟩,
  ⟨⟨some 10, Op.move (Operand.tmp 0), none⟩, []⟩,
  ⟨⟨some 11, Op.call { callee := (Callee.value (Operand.func 87)), args := #[(Operand.tmp 10)], argTypes := #[38] }, none⟩, [⟨some 9, Op.load 26 (Operand.tmp 2), none⟩]⟩,
  ⟨⟨some 12, Op.buildSlice 26 1 #[(0, (Operand.tmp 11))], none⟩, []⟩,
  ⟨⟨some 13, Op.call { callee := (Callee.builtin Builtin.append), args := #[(Operand.tmp 9), (Operand.tmp 12)], argTypes := #[26, 26] }, none⟩, []⟩,
  ⟨⟨none, Op.store 26 (Operand.tmp 2) (Operand.tmp 13), none⟩, []⟩]) .skip)) (.seq (.reg [⟨⟨some 14, Op.load 26 (Operand.tmp 2), none⟩, []⟩,
  ⟨⟨some 15, Op.call { callee := (Callee.builtin Builtin.len), args := #[(Operand.tmp 14)], argTypes := #[26] }, none⟩, []⟩,
  ⟨⟨some 16, Op.binOp BinOp.leq 3 (Operand.tmp 15) (Operand.const (Value.int IntKind.i64 300)) 3, none⟩, []⟩,
  ⟨⟨some 4, Op.assign (Operand.tmp 16), none⟩, []⟩]) .ret)))
theorem sl155 : slim Try.f155.ntmps ords155 (Try.f155.body.getD .skip) = some cd155 := by kernel_rfl
theorem in155 {args : List Value} {H : AH} {R : Value → AH → Prop} (hl : args.length = 3) (h : ∀ (Q : Exit → Sl → AH → Prop), (∀ e s H, endA Try.prog [ResultVar.tmp 4] R e s H → Q e s H) → wpC Try.prog cd155 Q (enterA args) H) : ACalls Try.prog 155 args H R :=
  ACalls.intro (by kernel_rfl) Try.func155 rfl (by kernel_rfl) sl155 hl (of_decide_eq_true (by kernel_rfl)) (by kernel_rfl) h
def ords73 : List (Nat × List (Nat × Bool)) := []
def cd73 : Cd := (.seq (.reg [⟨⟨some 2, Op.box 31 (Operand.tmp 0), none⟩, []⟩,
  ⟨⟨some 3, Op.box 3 (Operand.tmp 1), none⟩, []⟩,
  ⟨⟨some 4, Op.assign (Operand.const (Value.slice none 0 0)), none⟩, []⟩]) (.seq (.reg [⟨⟨some 6, Op.buildSlice 26 0 #[], none⟩, []⟩,
  ⟨⟨some 5, Op.alloc 26, none⟩, []⟩,
  ⟨⟨none, Op.store 26 (Operand.tmp 5) (Operand.tmp 6), none⟩, []⟩]) (.seq (.reg [⟨⟨some 7, Op.load 31 (Operand.tmp 2), none⟩, []⟩,
  ⟨⟨some 8, Op.makeFunc (Fn.func 155) #[] #[(Operand.tmp 3), (Operand.tmp 5)], none⟩, []⟩,
  ⟨⟨some 9, Op.call { callee := (Callee.value (Operand.func 154)), args := #[(Operand.tmp 7), (Operand.tmp 8)], argTypes := #[31, 69] }, none⟩, []⟩]) (.seq (.reg [⟨⟨some 10, Op.load 26 (Operand.tmp 5), none⟩, []⟩,
  ⟨⟨some 4, Op.assign (Operand.tmp 10), none⟩, []⟩]) .ret))))
theorem sl73 : slim Try.f73.ntmps ords73 (Try.f73.body.getD .skip) = some cd73 := by kernel_rfl
theorem in73 {args : List Value} {H : AH} {R : Value → AH → Prop} (hl : args.length = 2) (h : ∀ (Q : Exit → Sl → AH → Prop), (∀ e s H, endA Try.prog [ResultVar.tmp 4] R e s H → Q e s H) → wpC Try.prog cd73 Q (enterA args) H) : ACalls Try.prog 73 args H R :=
  ACalls.intro (by kernel_rfl) Try.func73 rfl (by kernel_rfl) sl73 hl (of_decide_eq_true (by kernel_rfl)) (by kernel_rfl) h
end Go.Proofs.Ytlfongfhbkefmaa.Ai
namespace Go.Proofs.Ytlfongfhbkefmaa.Ai
open Go Go.RowKit
set_option linter.unusedVariables false
set_option linter.unusedSimpArgs false
/-- the objects of a list of lists -/
def Objs (o : Nat) (us : List Value) (ls : List (List Int)) (j : Nat) : Prop := j = o ∨ ∃ i, i < ls.length ∧ us.getD i undef ≠ .slice none 0 0 ∧ j = rowO (us.getD i undef)
theorem InU.refit {lo hi : Nat} {e2 e : TypeId} {H H' : AH} {o : Nat} {us : List Value} {ls : List (List Int)} (h : InU lo hi e2 e H o us ls) (hk : ∀ j y, Objs o us ls j → H[j]? = some y → H'[j]? = some y) : InU lo H'.length e2 e H' o us ls := by
  obtain ⟨h1, h2, h3, h4, h5, h6⟩ := h
  have k3 := hk _ _ (.inl rfl) h3
  refine ⟨h1, at_lt k3, k3, h4, fun i hi => ⟨?_, (h5 i hi).2⟩, h6⟩
  rcases (h5 i hi).1 with g | ⟨oo, zs, g1, g2, g3, g4, g5⟩
  · exact .inl g
  · have := hk oo _ (.inr ⟨i, hi, (by rw [g1]; intro e; cases e), (by rw [g1]; rfl)⟩) g4
    exact .inr ⟨oo, zs, g1, g2, at_lt this, this, g5⟩
theorem InU.objs {lo hi : Nat} {e2 e : TypeId} {H : AH} {o : Nat} {us : List Value} {ls : List (List Int)} (h : InU lo hi e2 e H o us ls) {j : Nat} (hj : Objs o us ls j) : lo ≤ j ∧ j < hi := by
  obtain ⟨h1, h2, h3, h4, h5, h6⟩ := h
  rcases hj with rfl | ⟨i, hi, hn, rfl⟩
  · exact ⟨h1, h2⟩
  · rcases (h5 i hi).1.at_ with g | g
    · exact absurd g hn
    · exact g
def szCb (k : Nat) (out : List (List Int)) (x : List Int) : List (List Int) × Bool :=
  if x.length = k then (out ++ [x], decide ((out ++ [x]).length ≤ 300)) else (out, decide (out.length ≤ 300))
theorem sfold_sz (k : Nat) : ∀ (l : List (List Int)) (out : List (List Int)), out.length ≤ 300 → sfold (szCb k) l out = ((out ++ l.filter fun x => decide (x.length = k)).take 301, decide ((out ++ l.filter fun x => decide (x.length = k)).length ≤ 300))
  | [], out, h => by simp only [sfold, List.filter_nil, List.append_nil]; rw [List.take_of_length_le (by omega), decide_eq_true h]
  | x :: l, out, h => by
    rw [sfold]
    by_cases hx : x.length = k
    · have hf : (x :: l).filter (fun x => decide (x.length = k)) = x :: l.filter (fun x => decide (x.length = k)) := by rw [List.filter_cons, if_pos (by simpa using hx)]
      have hc : szCb k out x = (out ++ [x], decide ((out ++ [x]).length ≤ 300)) := by unfold szCb; rw [if_pos hx]
      rw [hc, hf]
      have happ : out ++ x :: l.filter (fun x => decide (x.length = k)) = (out ++ [x]) ++ l.filter (fun x => decide (x.length = k)) := by simp
      rw [happ]
      by_cases h2 : (out ++ [x]).length ≤ 300
      · rw [if_pos (by simpa using h2)]
        exact sfold_sz k l _ h2
      · rw [if_neg (by simpa using h2)]
        have hl : (out ++ [x]).length = 301 := by simp at h2 ⊢; omega
        rw [List.take_append_of_le_length (by omega), List.take_of_length_le (by omega), decide_eq_false h2]
        congr 1
        rw [eq_comm, decide_eq_false_iff_not, List.length_append]; omega
    · have hf : (x :: l).filter (fun x => decide (x.length = k)) = l.filter (fun x => decide (x.length = k)) := by rw [List.filter_cons, if_neg (by simpa using hx)]
      have hc : szCb k out x = (out, decide (out.length ≤ 300)) := by unfold szCb; rw [if_neg hx]
      rw [hc, hf, if_pos (by simpa using h)]
      exact sfold_sz k l out h
/-- those found so far, in memory -/
def ISz (HB : AH) (pk po k : Nat) (out : List (List Int)) (F : Nat → Prop) (H : AH) : Prop :=
  ∃ o us, H[pk]? = some (.cells [.int .i64 (k : Int)] 3 false) ∧ H[po]? = some (.cells [.slice (some ⟨o, 0, none⟩) out.length out.length] 26 false) ∧ InU HB.length H.length 38 3 H o us out ∧ (HB.length ≤ pk ∧ HB.length ≤ po) ∧ pk ≠ po ∧ ¬ Objs o us out pk ∧ ¬ Objs o us out po ∧
    out.length ≤ 301 ∧ F = fun j => j = pk ∨ j = po ∨ Objs o us out j
theorem getD_app1 {us : List Value} {n i : Nat} {c : Value} (hn : n ≤ us.length) : (us.take n ++ [c]).getD i undef = if i < n then us.getD i undef else if i = n then c else undef := by
  rw [List.getD_eq_getElem?_getD, List.getElem?_append]
  have hl : (us.take n).length = n := by simp; omega
  rw [hl]
  split
  · rw [List.getElem?_take, if_pos (by assumption), List.getD_eq_getElem?_getD]
  · split
    · rename_i h; subst h; simp
    · rw [List.getElem?_eq_none (by simp; omega)]; rfl
theorem away_app {q o' : Nat} {us : List Value} {out : List (List Int)} {c : Value} {xs : List Int} (hu : out.length ≤ us.length) (h : ∀ i, i < out.length → us.getD i undef = .slice none 0 0 ∨ rowO (us.getD i undef) ≠ q) (hc : c = .slice none 0 0 ∨ rowO c ≠ q) (ho : o' ≠ q) : Away q o' (us.take out.length ++ [c]) (out ++ [xs]) := by
  refine ⟨ho, fun i hi => ?_⟩
  simp only [List.length_append, List.length_cons, List.length_nil] at hi
  rw [getD_app1 hu]
  split
  · exact h i (by assumption)
  · rw [if_pos (by omega)]; exact hc
set_option maxRecDepth 20000 in
set_option maxHeartbeats 2000000 in
theorem sz_ok (HB : AH) (pk po k : Nat) (hk : k ≤ 1000000) : CbOk HB 155 [.pointer (some ⟨pk, 0, none⟩), .pointer (some ⟨po, 0, none⟩)] (fun out F H => ISz HB pk po k out F H ∧ out.length ≤ 300) (fun out F H => ISz HB pk po k out F H) (szCb k) := by
  refine ⟨fun h => h.1, ?_, ?_, ?_⟩
  · rintro out F H j ⟨⟨o, us, h1, h2, h3, h4, h5, h6, h7, h8, rfl⟩, _⟩ hF
    have hF' : j = pk ∨ j = po ∨ Objs o us out j := hF
    rcases hF' with rfl | rfl | hj
    · exact ⟨at_lt h1, h4.1⟩
    · exact ⟨at_lt h2, h4.2⟩
    · have := h3.objs hj
      exact ⟨this.2, this.1⟩
  · rintro out F H H' ⟨⟨o, us, h1, h2, h3, h4, h5, h6, h7, h8, rfl⟩, h9⟩ hk
    exact ⟨⟨o, us, hk _ _ (.inl rfl) h1, hk _ _ (.inr (.inl rfl)) h2, h3.refit fun j y hj hy => hk _ _ (.inr (.inr hj)) hy, h4, h5, h6, h7, h8, rfl⟩, h9⟩
  · rintro out F H w xs ⟨⟨o, us, h1, h2, h3, h4, h5, h6, h7, h8, rfl⟩, h9⟩ hw hwF hl hp
    refine in155 rfl ?_
    intro Q hQ
    have ao : Away po o us out := ⟨fun e => h7 (.inl e.symm), fun i hi => by
      by_cases hn : us.getD i undef = .slice none 0 0
      · exact .inl hn
      · exact .inr fun e => h7 (.inr ⟨i, hi, hn, e.symm⟩)⟩
    simp (maxSteps := 1000000) (disch := omega) only [cd155, hw.len Try.underlying38, cell_of h1, S, S1, S2, S3, S4, S5, ST, eq_self, reduceIte, reduceCtorEq, Nat.reduceEqDiff, Nat.reduceAdd]
    refine brD.intro (fun g => ?_) (fun g => ?_)
    · have hxk : xs.length = k := by omega
      have hcb : szCb k out xs = (out ++ [xs], decide ((out ++ [xs]).length ≤ 300)) := by unfold szCb; rw [if_pos hxk]
      rw [hcb] at hQ
      simp (maxSteps := 1000000) (disch := omega) only [cell_of h2, S, S1, S2, S3, S4, S5, ST, eq_self, reduceIte, reduceCtorEq, Nat.reduceEqDiff, Nat.reduceAdd]
      refine CallH.by (Clone_c w xs H hw (by omega)) ?_
      rintro c C ⟨hcl, pC⟩
      have c2 := pre_at pC h2
      have c1 := pre_at pC h1
      have hinw := InI.of hcl.mine
      obtain ⟨H3, k1, k2, k3, k4⟩ := (h3.pre pC).app1 (P := Try.prog) (t2 := 26) Try.underlying26 cs38 (by rw [by38]; decide) zk38 hinw hp.length_le pC.length_le (Nat.le_refl _) (by omega)
      have hbs : buildSliceA Try.prog 26 1 [(0, c)] C = some (.slice (some ⟨C.length, 0, none⟩) 1 1, C ++ [.cells [c] 38 false]) := by
        obtain ⟨q, eq⟩ := hcl.row.shape
        rw [eq]
        exact bs1 Try.underlying26 cs38 ze38 ⟨by kernel_rfl, by kernel_rfl⟩ C rfl
      have lC := pC.length_le
      have l1 := at_lt h1
      have l2 := at_lt h2
      have d2 := k4 po _ (fun e => h7 (.inl e)) c2
      have d1 := k4 pk _ (fun e => h6 (.inl e)) c1
      have hst := st_at (P := Try.prog) (t := 26) (i := 0) (y := .slice (some ⟨C.length + 1, 0, none⟩) (out.length + 1) (out.length + 1)) cs26 d2 (by show 0 < 1; decide) rfl rfl
      have e2 : (H3.set po (.cells ([Value.slice (some ⟨o, 0, none⟩) out.length out.length].set 0 (.slice (some ⟨C.length + 1, 0, none⟩) (out.length + 1) (out.length + 1))) 26 false))[po]? = some (.cells [.slice (some ⟨C.length + 1, 0, none⟩) (out.length + 1) (out.length + 1)] 26 false) := by
        rw [List.getElem?_set_self (by omega)]; rfl
      simp (maxSteps := 1000000) (disch := omega) only [cell_of c2, hbs, k1, hst, cell_of e2, S, S1, S2, S3, S4, S5, ST, eq_self, reduceIte, reduceCtorEq, Nat.reduceEqDiff, Nat.reduceAdd]
      refine hQ _ _ _ ?_
      simp (maxSteps := 1000000) (disch := omega) only [S, S1, S2, S3, S4, S5, ST, eq_self, reduceIte, reduceCtorEq, Nat.reduceEqDiff, Nat.reduceAdd]
      have hal : (out ++ [xs]).length = out.length + 1 := by simp
      have hcO : c = .slice none 0 0 ∨ H.length ≤ rowO c := by
        rcases hcl with ⟨q, _⟩ | ⟨oc, q, hoc, _⟩
        · exact .inl q
        · exact .inr (by rw [q]; exact hoc)
      have hul := h3.2.2.2.1
      have aw2 : Away po (C.length + 1) (us.take out.length ++ [c]) (out ++ [xs]) := away_app hul ao.2 (hcO.imp id fun q => by omega) (by omega)
      have ak2 : Away pk (C.length + 1) (us.take out.length ++ [c]) (out ++ [xs]) := away_app hul (fun i hi => by
        by_cases hn : us.getD i undef = .slice none 0 0
        · exact .inl hn
        · exact .inr fun e => h6 (.inr ⟨i, hi, hn, e.symm⟩)) (hcO.imp id fun q => by omega) (by omega)
      have k2' := (k2.wide (Nat.le_refl _) (Nat.le_of_eq k3.symm) : InU HB.length H3.length 38 3 H3 _ _ _)
      have hnew : ISz HB pk po k (out ++ [xs]) (fun j => j = pk ∨ j = po ∨ Objs (C.length + 1) (us.take out.length ++ [c]) (out ++ [xs]) j) (H3.set po (.cells ([Value.slice (some ⟨o, 0, none⟩) out.length out.length].set 0 (.slice (some ⟨C.length + 1, 0, none⟩) (out.length + 1) (out.length + 1))) 26 false)) := by
        refine ⟨C.length + 1, us.take out.length ++ [c], ?_, by rw [hal]; exact e2, ?_, h4, h5, ?_, ?_, by rw [hal]; omega, rfl⟩
        · rw [List.getElem?_set_ne (fun e => h5 e.symm)]; exact d1
        · have := k2'.moveq aw2 (H' := H3.set po (.cells ([Value.slice (some ⟨o, 0, none⟩) out.length out.length].set 0 (.slice (some ⟨C.length + 1, 0, none⟩) (out.length + 1) (out.length + 1))) 26 false)) (fun j y hj hy => by rw [List.getElem?_set_ne (fun e => hj e.symm)]; exact hy)
          simpa using this
        · rintro (e | ⟨i, hi, hn, e⟩)
          · omega
          · rcases ak2.2 i hi with q | q
            · exact hn q
            · exact q e.symm
        · rintro (e | ⟨i, hi, hn, e⟩)
          · omega
          · rcases aw2.2 i hi with q | q
            · exact hn q
            · exact q e.symm
      refine ⟨?_, ⟨_, hnew, fun hok => ⟨hnew, by simpa using hok⟩, ?_⟩, ?_⟩
      · rw [Value.bool.injEq, decide_eq_decide, hal]; constructor <;> intro h <;> omega
      · rintro j (e | e | e | ⟨i, hi, hn, e⟩)
        · exact .inl (.inl e)
        · exact .inl (.inr (.inl e))
        · exact .inr (by omega)
        · rw [getD_app1 hul] at hn e
          simp only [List.length_append, List.length_cons, List.length_nil] at hi
          by_cases hi2 : i < out.length
          · rw [if_pos hi2] at hn e
            exact .inl (.inr (.inr (.inr ⟨i, hi2, hn, e⟩)))
          · rw [if_neg hi2, if_pos (by omega)] at hn e
            rcases hcO with q | q
            · exact absurd q hn
            · exact .inr (by omega)
      · intro j y hj hy
        rw [List.getElem?_set_ne (fun e => hj (.inr (.inl e.symm)))]
        exact k4 j y (fun e => hj (.inr (.inr (.inl e)))) (pre_at pC hy)
    · have hcb : szCb k out xs = (out, decide (out.length ≤ 300)) := by unfold szCb; rw [if_neg (by omega)]
      rw [hcb] at hQ
      simp (maxSteps := 1000000) (disch := omega) only [cell_of h2, S, S1, S2, S3, S4, S5, ST, eq_self, reduceIte, reduceCtorEq, Nat.reduceEqDiff, Nat.reduceAdd]
      refine hQ _ _ _ ?_
      simp (maxSteps := 1000000) (disch := omega) only [S, S1, S2, S3, S4, S5, ST, eq_self, reduceIte, reduceCtorEq, Nat.reduceEqDiff, Nat.reduceAdd]
      have hI : ISz HB pk po k out (fun j => j = pk ∨ j = po ∨ Objs o us out j) H := ⟨o, us, h1, h2, h3, h4, h5, h6, h7, h8, rfl⟩
      refine ⟨?_, ⟨_, hI, fun _ => ⟨hI, h9⟩, fun o ho => .inl ho⟩, fun o y _ hy => hy⟩
      rw [Value.bool.injEq, decide_eq_decide]; constructor <;> intro h <;> omega
theorem box_int (H : AH) (k : Int) : boxA Try.prog 3 (.int .i64 k) H = some (.pointer (some ⟨H.length, 0, none⟩), H ++ [.cells [.int .i64 k] 3 false]) := by kernel_rfl
theorem alloc_ll (H : AH) : allocA Try.prog 26 H = some (.pointer (some ⟨H.length, 0, none⟩), H ++ [.cells [.slice none 0 0] 26 false]) := by kernel_rfl
theorem mkf_2 (f : Fn) (p q : Option Addr) : makeFuncA f [] [.pointer p, .pointer q] = some (.func f #[] (List.toArray [.pointer p, .pointer q])) := rfl
set_option maxRecDepth 20000 in
set_option maxHeartbeats 1000000 in
theorem ofSize_c (n : Int) (v : Value) (es : List (Int × Int)) (k : Nat) (H : AH) (hr : RowP 81 H v es) (hlen : es.length ≤ 1048576) (hg : Grd n es) (hk : k ≤ 1000000) :
    ACalls Try.prog 73 [.agg (List.toArray [.int .i64 n, v]), .int .i64 (k : Int)] H fun r H' => InL H.length H'.length 38 3 H' r ((mext es es.length [] k).take 301) ∧ H <+: H' := by
  refine in73 rfl ?_
  intro Q hQ
  simp (maxSteps := 1000000) (disch := omega) only [cd73, hr.boxG, box_int, alloc_ll, S, S1, S2, S3, S4, S5, ST, eq_self, reduceIte, reduceCtorEq, Nat.reduceEqDiff, Nat.reduceAdd]
  generalize hA : H ++ [AObj.cells [.int .i64 n, v] 31 false] = A
  have pA : H <+: A := by rw [← hA]; exact List.prefix_append _ _
  have cA : A[H.length]? = some (.cells [.int .i64 n, v] 31 false) := by rw [← hA]; exact at_new ..
  have rA := hr.pre pA
  generalize hK : A ++ [AObj.cells [.int .i64 (k : Int)] 3 false] = K
  have pK : A <+: K := by rw [← hK]; exact List.prefix_append _ _
  have cK : K[A.length]? = some (.cells [.int .i64 (k : Int)] 3 false) := by rw [← hK]; exact at_new ..
  generalize hZ : K ++ [AObj.cells [] 38 false] = Z
  have pZ : K <+: Z := by rw [← hZ]; exact List.prefix_append _ _
  have cZ : Z[K.length]? = some (.cells [] 38 false) := by rw [← hZ]; exact at_new ..
  have st1 := st_at (P := Try.prog) (t := 26) (i := 0) (y := .slice (some ⟨K.length, 0, none⟩) 0 0) cs26 (at_new Z (.cells [.slice none 0 0] 26 false)) (by show 0 < 1; decide) rfl rfl
  rw [set_new, List.set_cons_zero] at st1
  have cZA := pre_at (pK.trans pZ) cA
  simp (maxSteps := 1000000) (disch := omega) only [st1, mkf_2, ld_agg ag31 cs31 (at_app cZA _), S, S1, S2, S3, S4, S5, ST, eq_self, reduceIte, reduceCtorEq, Nat.reduceEqDiff, Nat.reduceAdd]
  generalize hE : Z ++ [AObj.cells [.slice (some ⟨K.length, 0, none⟩) 0 0] 26 false] = E
  have pE : Z <+: E := by rw [← hE]; exact List.prefix_append _ _
  have cE : E[Z.length]? = some (.cells [.slice (some ⟨K.length, 0, none⟩) 0 0] 26 false) := by rw [← hE]; exact at_new ..
  have lA : A.length = H.length + 1 := by rw [← hA]; simp
  have lK : K.length = A.length + 1 := by rw [← hK]; simp
  have lZ : Z.length = K.length + 1 := by rw [← hZ]; simp
  have lE : E.length = Z.length + 1 := by rw [← hE]; simp
  have hU : InU H.length E.length 38 3 E K.length [] [] := ⟨by omega, by omega, pre_at pE cZ, Nat.le_refl _, fun i hi => absurd hi (by simp), fun i j _ hi _ => absurd hi (by simp)⟩
  have nob : ∀ j, j ≠ K.length → ¬ Objs K.length [] [] j := by
    rintro j hj (e | ⟨i, hi, _⟩)
    · exact hj e
    · simp at hi
  have hI : ISz H A.length Z.length k [] (fun j => j = A.length ∨ j = Z.length ∨ Objs K.length [] [] j) E ∧ ([] : List (List Int)).length ≤ 300 :=
    ⟨⟨K.length, [], pre_at (pZ.trans pE) cK, cE, hU, ⟨by omega, by omega⟩, by omega, nob _ (by omega), nob _ (by omega), by simp, rfl⟩, by simp⟩
  have pHE := pA.trans (pK.trans (pZ.trans pE))
  refine CallH.by (matchings_c (sz_ok H A.length Z.length k hk) v n es hr hlen hg [] _ E hI pHE) ?_
  rintro _ H' ⟨hp', F', o, us, h1, h2, h3, _⟩
  rw [sfold_sz k _ [] (by simp)] at h2 h3
  simp (maxSteps := 1000000) (disch := omega) only [cell_of h2, S, S1, S2, S3, S4, S5, ST, eq_self, reduceIte, reduceCtorEq, Nat.reduceEqDiff, Nat.reduceAdd]
  refine hQ _ _ _ ?_
  simp (maxSteps := 1000000) (disch := omega) only [S, S1, S2, S3, S4, S5, ST, eq_self, reduceIte, reduceCtorEq, Nat.reduceEqDiff, Nat.reduceAdd]
  rw [List.nil_append] at h2 h3
  exact ⟨h3.inl, hp'⟩
end Go.Proofs.Ytlfongfhbkefmaa.Ai
namespace Go.Proofs.Ytlfongfhbkefmaa.Ai
open Go
set_option linter.unusedVariables false
def dblF : Nat → Nat
  | 0 => 1
  | j + 1 => (2 * j + 1) * dblF j
/-- free nodes behind x whose edge with x is not before an edge -/
def freeP (es : List (Int × Int)) (ed : List Int) (x : Int) (k : Nat) (b : Nat) : Bool :=
  decide ((b : Int) ∉ seenL es ed ∧ x < b ∧ 0 < k ∧ ¬ pairLt (x, (b : Int)) (es.getD (es.length - k) (0, 0)))
def freeB (n : Nat) (es : List (Int × Int)) (ed : List Int) (x : Int) (k : Nat) : Nat := (List.range n).countP (freeP es ed x k)
theorem countP_less {α : Type} (p q : α → Bool) : ∀ (l : List α), (∀ x ∈ l, p x = true → q x = true) → l.countP p ≤ l.countP q
  | [], _ => by simp
  | x :: l, h => by
    have ih := countP_less p q l (fun y hy => h y (by simp [hy]))
    have h0 := h x (by simp)
    rw [List.countP_cons, List.countP_cons]
    by_cases hp : p x = true
    · rw [if_pos hp, if_pos (h0 hp)]; omega
    · rw [if_neg hp]; omega
theorem countP_more {α : Type} (p q : α → Bool) : ∀ (l : List α), (∀ x ∈ l, p x = true → q x = true) → (∃ x ∈ l, q x = true ∧ ¬ p x = true) → l.countP p + 1 ≤ l.countP q
  | [], _, h => by obtain ⟨x, hx, _⟩ := h; simp at hx
  | x :: l, h, hx => by
    rw [List.countP_cons, List.countP_cons]
    by_cases hq : q x = true ∧ ¬ p x = true
    · have := countP_less p q l (fun y hy => h y (by simp [hy]))
      rw [if_neg hq.2, if_pos hq.1]; omega
    · have ih := countP_more p q l (fun y hy => h y (by simp [hy])) (by
        obtain ⟨y, hy, h1⟩ := hx
        rcases List.mem_cons.1 hy with rfl | hy
        · exact absurd h1 hq
        · exact ⟨y, hy, h1⟩)
      have h0 := h x (by simp)
      by_cases hp : p x = true
      · rw [if_pos hp, if_pos (h0 hp)]; omega
      · rw [if_neg hp]; omega
theorem perm_cover {n : Int} {es : List (Int × Int)} {M : List Int} (hn : 0 ≤ n) (hM : Mgo n es M) (hl : 2 * M.length = n.toNat) {z : Int} (hz : 0 ≤ z ∧ z < n) : z ∈ seenL es M := by
  apply Decidable.byContradiction
  intro hc
  have hnd : (z :: seenL es M).Nodup := List.nodup_cons.2 ⟨hc, hM.1⟩
  have := nodupM_le n.toNat (z :: seenL es M) hnd (fun y hy => by
    rcases List.mem_cons.1 hy with rfl | hy
    · omega
    · have := hM.2 y hy; omega)
  rw [List.length_cons, seenL_len] at this
  omega
/-- what is added comes from the last k edges -/
theorem mall_new (es : List (Int × Int)) : ∀ (k : Nat) (ed : List Int), k ≤ es.length → ∀ M ∈ mall es k ed, ∃ r, M = ed ++ r ∧ ∀ e ∈ r, ((es.length - k : Nat) : Int) ≤ e ∧ e < es.length
  | 0, ed, _, M, h => by simp [mall] at h
  | k + 1, ed, hk, M, h => by
    simp only [mall, List.mem_append] at h
    rcases h with h | h
    · split at h
      · simp only [List.mem_cons] at h
        rcases h with rfl | h
        · refine ⟨_, rfl, fun e he => ?_⟩
          simp only [List.mem_cons, List.not_mem_nil, or_false] at he
          subst he; omega
        · obtain ⟨r, h1, h2⟩ := mall_new es k _ (by omega) M h
          refine ⟨((es.length - (k + 1) : Nat) : Int) :: r, by rw [h1, List.append_assoc]; rfl, fun e he => ?_⟩
          rcases List.mem_cons.1 he with rfl | he
          · omega
          · have := h2 e he; omega
      · simp at h
    · obtain ⟨r, h1, h2⟩ := mall_new es k ed (by omega) M h
      exact ⟨r, h1, fun e he => by have := h2 e he; omega⟩
theorem seenL_append (es : List (Int × Int)) (xs ys : List Int) : seenL es (xs ++ ys) = seenL es xs ++ seenL es ys := by simp [seenL]
theorem seenL_mem (es : List (Int × Int)) (xs : List Int) (z : Int) : z ∈ seenL es xs ↔ ∃ e ∈ xs, z = ed1 es e ∨ z = ed2 es e := by
  unfold seenL
  simp only [List.mem_flatMap, List.mem_cons, List.not_mem_nil, or_false]
/-- edges ascend -/
theorem grd_asc {n : Int} {es : List (Int × Int)} (hg : Grd n es) {i j : Nat} (hij : i < j) (hj : j < es.length) : pairLt (es.getD i (0, 0)) (es.getD j (0, 0)) := by
  induction j with
  | zero => omega
  | succ j ih =>
    have h1 := (hg.2 (j + 1) hj).2.2.2 (by omega)
    rw [Nat.add_sub_cancel] at h1
    by_cases h : i = j
    · subst h; exact h1
    · have h2 := ih (by omega) (by omega)
      unfold pairLt at h1 h2 ⊢
      omega
theorem grd_asc1 {n : Int} {es : List (Int × Int)} (hg : Grd n es) {i j : Nat} (hij : i ≤ j) (hj : j < es.length) : (es.getD i (0, 0)).1 ≤ (es.getD j (0, 0)).1 := by
  by_cases h : i = j
  · subst h; exact Int.le_refl _
  · have := grd_asc hg (show i < j by omega) hj
    unfold pairLt at this
    omega
theorem mlpE_le {n : Int} {es : List (Int × Int)} (hg : Grd n es) {h D : Nat} (hn : n.toNat = 2 * h) {ed : List Int} (hm : Mgo n es ed) {x : Int} (hx : (0 ≤ x ∧ x < n) ∧ x ∉ seenL es ed) (hmin : ∀ z, 0 ≤ z → z < x → z ∈ seenL es ed)
    (hrec : ∀ k e, k ≤ es.length → e.toNat < es.length → frE es ed e → Mgo n es (ed ++ [e]) → (mext es k (ed ++ [e]) h).length ≤ D) :
    ∀ k, k ≤ es.length → (mlpE es k ed h).length ≤ freeB n.toNat es ed x k * D
  | 0, _ => by simp [mlpE, mall]
  | k + 1, hk => by
    have ih := mlpE_le hg hn hm hx hmin hrec k (by omega)
    have hstep := mlpE_step es k ed h
    generalize he : es.length - (k + 1) = e at hstep
    have hel : e < es.length := by omega
    obtain ⟨a1, a2, a3, _⟩ := hg.2 e hel
    have b1 : ed1 es (e : Int) = (es.getD e (0, 0)).1 := by unfold ed1; rw [Int.toNat_natCast]
    have b2 : ed2 es (e : Int) = (es.getD e (0, 0)).2 := by unfold ed2; rw [Int.toNat_natCast]
    have sub : ∀ b ∈ List.range n.toNat, freeP es ed x k b = true → freeP es ed x (k + 1) b = true := by
      intro b _ hb
      unfold freeP at hb ⊢
      rw [decide_eq_true_iff] at hb ⊢
      refine ⟨hb.1, hb.2.1, by omega, ?_⟩
      rw [he]
      have h1 := hb.2.2.2
      have hk0 := hb.2.2.1
      have h2 := grd_asc hg (show e < es.length - k by omega) (by omega)
      unfold pairLt at h1 h2 ⊢
      simp only at h1 ⊢
      omega
    have mono := countP_less _ _ _ sub
    have skip : ¬ frE es ed (e : Int) → (mlpE es (k + 1) ed h).length ≤ freeB n.toNat es ed x (k + 1) * D := by
      intro hf
      rw [if_neg hf, List.nil_append] at hstep
      rw [hstep]
      exact Nat.le_trans ih (Nat.mul_le_mul_right _ mono)
    rcases Int.lt_trichotomy (es.getD e (0, 0)).1 x with hc | hc | hc
    · refine skip (fun hf => hf.1 ?_)
      rw [b1]
      exact hmin _ a1 hc
    · by_cases hf : frE es ed (e : Int)
      · rw [if_pos hf] at hstep
        rw [hstep, List.length_append]
        have h1 := hrec k (e : Int) (by omega) (by rw [Int.toNat_natCast]; exact hel) hf (hm.snoc hg (by rw [Int.toNat_natCast]; exact hel) hf)
        have more := countP_more _ _ _ sub ⟨(es.getD e (0, 0)).2.toNat, List.mem_range.2 (by omega), by
          unfold freeP
          rw [decide_eq_true_iff]
          have e2 : (((es.getD e (0, 0)).2.toNat : Nat) : Int) = (es.getD e (0, 0)).2 := by omega
          rw [e2]
          refine ⟨?_, by omega, by omega, ?_⟩
          · have := hf.2
            rwa [b2] at this
          · rw [he]
            unfold pairLt
            simp only
            omega, by
          unfold freeP
          rw [decide_eq_true_iff]
          have e2 : (((es.getD e (0, 0)).2.toNat : Nat) : Int) = (es.getD e (0, 0)).2 := by omega
          rw [e2]
          rintro ⟨_, _, h3, h4⟩
          apply h4
          have h2 := grd_asc hg (show e < es.length - k by omega) (by omega)
          unfold pairLt at h2 ⊢
          simp only
          omega⟩
        have : (freeB n.toNat es ed x k + 1) * D ≤ freeB n.toNat es ed x (k + 1) * D := Nat.mul_le_mul_right _ more
        rw [Nat.add_mul, Nat.one_mul] at this
        omega
      · exact skip hf
    · have hnil : mlpE es (k + 1) ed h = [] := by
        unfold mlpE
        rw [List.filter_eq_nil_iff]
        intro M hM hl
        have hl' : M.length = h := of_decide_eq_true hl
        have hMg := Mgo.all hg (k + 1) ed hk hm M hM
        have hin := perm_cover hg.1.1 hMg (by omega) hx.1
        obtain ⟨r, hr, hre⟩ := mall_new es (k + 1) ed hk M hM
        rw [hr, seenL_append, List.mem_append] at hin
        rcases hin with hin | hin
        · exact hx.2 hin
        · rw [seenL_mem] at hin
          obtain ⟨e', he', hz⟩ := hin
          have hrg := hre e' he'
          rw [he] at hrg
          have hle := grd_asc1 hg (show e ≤ e'.toNat by omega) (by omega)
          obtain ⟨_, c2, _, _⟩ := hg.2 e'.toNat (by omega)
          unfold ed1 ed2 at hz
          omega
      rw [hnil]; simp
theorem all_in : ∀ (m : Nat) (l : List Int), (∀ z : Nat, z < m → (z : Int) ∈ l) → m ≤ l.length
  | 0, _, _ => Nat.zero_le _
  | m + 1, l, h => by
    have hm := h m (by omega)
    have := all_in m (l.erase (m : Int)) (fun z hz => (List.mem_erase_of_ne (by omega)).2 (h z (by omega)))
    rw [List.length_erase_of_mem hm] at this
    have : 0 < l.length := List.length_pos_of_mem hm
    omega
theorem least_free (l : List Int) : ∀ m : Nat, (∀ z : Nat, z < m → (z : Int) ∈ l) ∨ ∃ x : Nat, x < m ∧ (x : Int) ∉ l ∧ ∀ z : Nat, z < x → (z : Int) ∈ l
  | 0 => .inl fun z hz => absurd hz (Nat.not_lt_zero z)
  | m + 1 => by
    rcases least_free l m with h | ⟨x, h1, h2, h3⟩
    · by_cases hm : (m : Int) ∈ l
      · left
        intro z hz
        rcases Nat.lt_succ_iff_lt_or_eq.1 hz with g | g
        · exact h z g
        · rw [g]; exact hm
      · exact .inr ⟨m, by omega, hm, h⟩
    · exact .inr ⟨x, by omega, h2, h3⟩
theorem perf_le {n : Int} {es : List (Int × Int)} (hg : Grd n es) {h : Nat} (hn : n.toNat = 2 * h) : ∀ (j : Nat) (ed : List Int), ed.length + j = h → Mgo n es ed → ∀ k, k ≤ es.length → (mext es k ed h).length ≤ dblF j
  | 0, ed, hl, _, k, _ => by
    have : h = ed.length := by omega
    rw [this, mext_done]; simp [dblF]
  | j + 1, ed, hl, hm, k, hk => by
    rw [mext_loop es k ed h (by omega)]
    have hnn := hg.1
    rcases least_free (seenL es ed) n.toNat with hall | ⟨x, h1, h2, h3⟩
    · have := all_in _ _ hall
      rw [seenL_len] at this
      omega
    · have main := mlpE_le hg hn hm (x := (x : Int)) (D := dblF j) ⟨by omega, h2⟩ (fun z hz0 hzx => by
        obtain ⟨y, rfl⟩ : ∃ y : Nat, z = y := ⟨z.toNat, by omega⟩
        exact h3 y (by omega)) (fun k' e hk' he hf hmg => perf_le hg hn j (ed ++ [e]) (by simp; omega) hmg k' hk') k hk
      refine Nat.le_trans main (Nat.mul_le_mul_right _ ?_)
      unfold freeB
      rw [List.countP_eq_length_filter]
      have hnd : ((x : Int) :: (((List.range n.toNat).filter (freeP es ed (x : Int) k)).map fun b : Nat => (b : Int)) ++ seenL es ed).Nodup := by
        have q1 : (((List.range n.toNat).filter (freeP es ed (x : Int) k)).map fun b : Nat => (b : Int)).Nodup := by
          refine List.Pairwise.map _ ?_ (List.nodup_range.filter _)
          intro a b hab e
          exact hab (by omega)
        have q2 : ∀ b ∈ (((List.range n.toNat).filter (freeP es ed (x : Int) k)).map fun b : Nat => (b : Int)), b ∉ seenL es ed ∧ (x : Int) < b := by
          intro b hb
          obtain ⟨c, hc, rfl⟩ := List.mem_map.1 hb
          have := (List.mem_filter.1 hc).2
          unfold freeP at this
          have := of_decide_eq_true this
          exact ⟨this.1, this.2.1⟩
        rw [List.cons_append, List.nodup_cons, List.nodup_append]
        refine ⟨?_, q1, hm.1, ?_⟩
        · rw [List.mem_append, not_or]
          exact ⟨fun hx => by have := (q2 _ hx).2; omega, h2⟩
        · intro a ha b hb hab
          subst hab
          exact (q2 _ ha).1 hb
      have := nodupM_le n.toNat _ hnd (fun z hz => by
        rw [List.cons_append] at hz
        rcases List.mem_cons.1 hz with rfl | hz
        · omega
        · rcases List.mem_append.1 hz with hz | hz
          · obtain ⟨c, hc, rfl⟩ := List.mem_map.1 hz
            have := List.mem_range.1 (List.mem_filter.1 hc).1
            omega
          · have := hm.2 z hz; omega)
      simp only [List.cons_append, List.length_cons, List.length_append, List.length_map, seenL_len] at this
      omega
theorem perfect_le {n : Int} {es : List (Int × Int)} (hg : Grd n es) {h : Nat} (hn : n.toNat = 2 * h) : (mext es es.length [] h).length ≤ 105 := by
  have h1 := perf_le hg hn h [] (by simp) (Mgo.nil n es) es.length (Nat.le_refl _)
  have hnn := hg.1
  have : h = 0 ∨ h = 1 ∨ h = 2 ∨ h = 3 ∨ h = 4 := by omega
  rcases this with rfl | rfl | rfl | rfl | rfl <;> exact Nat.le_trans h1 (by decide)
end Go.Proofs.Ytlfongfhbkefmaa.Ai
namespace Go.Proofs.Ytlfongfhbkefmaa.Ai
open Go
def ords68 : List (Nat × List (Nat × Bool)) := []
def cd68 : Cd := (.seq (.reg [⟨⟨some 3, Op.box 31 (Operand.tmp 0), none⟩, []⟩,
  ⟨⟨some 6, Op.assign (Operand.const (Value.slice none 0 0)), none⟩, []⟩]) (.seq (.seq (.reg [⟨⟨some 11, Op.move (Operand.tmp 1), none⟩, []⟩,
  ⟨⟨some 12, Op.call { callee := (Callee.builtin Builtin.len), args := #[(Operand.tmp 11)], argTypes := #[38] }, none⟩, []⟩,
  ⟨⟨some 13, Op.move (Operand.tmp 2), none⟩, []⟩,
  ⟨⟨some 14, Op.binOp BinOp.eql 3 (Operand.tmp 12) (Operand.tmp 13) 3, none⟩, []⟩]) (.cond (Operand.tmp 14) (.seq (.reg [⟨⟨some 15, Op.move (Operand.tmp 1), none⟩, []⟩,
  ⟨⟨some 16, Op.buildSlice 26 1 #[(0, (Operand.tmp 15))], none⟩, []⟩,
  ⟨⟨some 6, Op.assign (Operand.tmp 16), none⟩, []⟩]) .ret) .skip)) (.seq (.reg [⟨⟨some 17, Op.buildSlice 26 0 #[], none⟩, []⟩,
  ⟨⟨some 7, Op.assign (Operand.const (Value.int IntKind.i64 0)), none⟩, []⟩,
  ⟨⟨some 8, Op.assign (Operand.tmp 17), none⟩, []⟩]) (.seq (.seq (.reg [⟨⟨some 18, Op.move (Operand.tmp 1), none⟩, []⟩,
  ⟨⟨some 19, Op.call { callee := (Callee.builtin Builtin.len), args := #[(Operand.tmp 18)], argTypes := #[38] }, none⟩, []⟩,
  ⟨⟨some 20, Op.binOp BinOp.gtr 3 (Operand.tmp 19) (Operand.const (Value.int IntKind.i64 0)) 3, none⟩, []⟩]) (.cond (Operand.tmp 20) (.reg [⟨⟨some 21, Op.move (Operand.tmp 1), none⟩, []⟩,
  ⟨⟨some 22, Op.move (Operand.tmp 1), none⟩, []⟩,
  ⟨⟨some 23, Op.call { callee := (Callee.builtin Builtin.len), args := #[(Operand.tmp 22)], argTypes := #[38] }, none⟩, []⟩,
  ⟨⟨some 24, Op.binOp BinOp.sub 3 (Operand.tmp 23) (Operand.const (Value.int IntKind.i64 1)) 3, none⟩, []⟩,
  ⟨⟨some 25, Op.indexAddr 38 (Operand.tmp 21) (Operand.tmp 24), none⟩, []⟩,
  ⟨⟨some 26, Op.load 3 (Operand.tmp 25), none⟩, []⟩,
  ⟨⟨some 27, Op.binOp BinOp.add 3 (Operand.tmp 26) (Operand.const (Value.int IntKind.i64 1)) 3, none⟩, []⟩,
  ⟨⟨some 7, Op.assign (Operand.tmp 27), none⟩, []⟩]) .skip)) (.seq (.seq (.reg [⟨⟨some 28, Op.move (Operand.tmp 7), none⟩, []⟩,
  ⟨⟨some 9, Op.assign (Operand.tmp 28), none⟩, []⟩]) (.block 0 (.loop (.seq (.seq (.reg [⟨⟨some 29, Op.move (Operand.tmp 9), none⟩, []⟩,
  ⟨⟨some 30, Op.fieldAddr 31 (Operand.tmp 3) 1, none⟩, []⟩,
  ⟨⟨some 31, Op.load 22 (Operand.tmp 30), none⟩, []⟩,
  ⟨⟨some 32, Op.call { callee := (Callee.builtin Builtin.len), args := #[(Operand.tmp 31)], argTypes := #[22] }, none⟩, []⟩,
  ⟨⟨some 33, Op.binOp BinOp.lss 3 (Operand.tmp 29) (Operand.tmp 32) 3, none⟩, []⟩]) (.cond (Operand.tmp 33) .skip (.exit 0))) (.seq (.block 1 (.seq (.reg [⟨⟨some 36, Op.move (Operand.tmp 1), none⟩, []⟩,
  ⟨⟨some 37, Op.call { callee := (Callee.value (Operand.func 82)), args := #[(Operand.tmp 36)], argTypes := #[38] }, none⟩, []⟩,
  ⟨⟨some 38, Op.move (Operand.tmp 9), none⟩, []⟩,
  ⟨⟨some 39, Op.buildSlice 38 1 #[(0, (Operand.tmp 38))], none⟩, []⟩,
  ⟨⟨some 40, Op.call { callee := (Callee.builtin Builtin.append), args := #[(Operand.tmp 37), (Operand.tmp 39)], argTypes := #[38, 38] }, none⟩, []⟩,
  ⟨⟨some 10, Op.assign (Operand.tmp 40), none⟩, []⟩]) (.seq (.reg [⟨⟨some 41, Op.load 31 (Operand.tmp 3), none⟩, []⟩,
  ⟨⟨some 42, Op.move (Operand.tmp 10), none⟩, []⟩,
  ⟨⟨some 43, Op.call { callee := (Callee.value (Operand.func 151)), args := #[(Operand.tmp 41), (Operand.tmp 42)], argTypes := #[31, 38] }, none⟩, []⟩]) (.cond (Operand.tmp 43) (.reg [⟨⟨some 44, Op.move (Operand.tmp 8), none⟩, []⟩,
  ⟨⟨some 45, Op.load 31 (Operand.tmp 3), none⟩, []⟩,
  ⟨⟨some 46, Op.move (Operand.tmp 10), none⟩, []⟩,
  ⟨⟨some 47, Op.move (Operand.tmp 2), none⟩, []⟩,
  ⟨⟨some 48, Op.call { callee := (Callee.value (Operand.func 68)), args := #[(Operand.tmp 45), (Operand.tmp 46), (Operand.tmp 47)], argTypes := #[31, 38, 3] }, none⟩, []⟩,
  ⟨⟨some 49, Op.call { callee := (Callee.builtin Builtin.append), args := #[(Operand.tmp 44), (Operand.tmp 48)], argTypes := #[26, 26] }, none⟩, []⟩,
  ⟨⟨some 8, Op.assign (Operand.tmp 49), none⟩, []⟩]) .skip)))) (.reg [⟨⟨some 34, Op.move (Operand.tmp 9), none⟩, []⟩,
  ⟨⟨some 35, Op.binOp BinOp.add 3 (Operand.tmp 34) (Operand.const (Value.int IntKind.i64 1)) 3, none⟩, []⟩,
  ⟨⟨some 9, Op.assign (Operand.tmp 35), none⟩, []⟩])))))) (.seq (.reg [⟨⟨some 50, Op.move (Operand.tmp 8), none⟩, []⟩,
  ⟨⟨some 6, Op.assign (Operand.tmp 50), none⟩, []⟩]) .ret))))))
theorem sl68 : slim Try.f68.ntmps ords68 (Try.f68.body.getD .skip) = some cd68 := by kernel_rfl
theorem in68 {args : List Value} {H : AH} {R : Value → AH → Prop} (hl : args.length = 3) (h : ∀ (Q : Exit → Sl → AH → Prop), (∀ e s H, endA Try.prog [ResultVar.tmp 6] R e s H → Q e s H) → wpC Try.prog cd68 Q (enterA args) H) : ACalls Try.prog 68 args H R :=
  ACalls.intro (by kernel_rfl) Try.func68 rfl (by kernel_rfl) sl68 hl (of_decide_eq_true (by kernel_rfl)) (by kernel_rfl) h
end Go.Proofs.Ytlfongfhbkefmaa.Ai
namespace Go.Proofs.Ytlfongfhbkefmaa.Ai
open Go Go.RowKit
set_option linter.unusedVariables false
set_option linter.unusedSimpArgs false
theorem mtc_snoc {es : List (Int × Int)} {ed : List Int} {e : Int} (h : Mtc es ed) (he : 0 ≤ e ∧ e < es.length) (hl : 0 < ed.length → ed.getD (ed.length - 1) 0 < e) : Mtc es (ed ++ [e]) ↔ frE es ed e := by
  have hlen : (ed ++ [e]).length = ed.length + 1 := by simp
  have at1 : ∀ i, i < ed.length → (ed ++ [e]).getD i 0 = ed.getD i 0 := fun i hi => by
    rw [List.getD_eq_getElem?_getD, List.getD_eq_getElem?_getD, List.getElem?_append_left hi]
  have at2 : (ed ++ [e]).getD ed.length 0 = e := by
    rw [List.getD_eq_getElem?_getD, List.getElem?_append_right (Nat.le_refl _)]; simp
  have tk1 : ∀ i, i ≤ ed.length → (ed ++ [e]).take i = ed.take i := fun i hi => List.take_append_of_le_length hi
  have tk2 : (ed ++ [e]).take ed.length = ed := by rw [tk1 _ (Nat.le_refl _), List.take_length]
  constructor
  · intro hm
    have := (hm ed.length (by omega)).2
    unfold frOk at this
    rw [at2, tk2] at this
    exact this
  · intro hf i hi
    by_cases hc : i < ed.length
    · obtain ⟨g1, g2⟩ := h i hc
      unfold rsOk at g1 ⊢
      unfold frOk at g2 ⊢
      rw [at1 i hc, tk1 i (by omega)]
      refine ⟨⟨g1.1, fun h0 => ?_⟩, g2⟩
      rw [at1 (i - 1) (by omega)]
      exact g1.2 h0
    · obtain rfl : i = ed.length := by omega
      unfold rsOk frOk
      rw [at2, tk2]
      refine ⟨⟨by omega, fun h0 => ?_⟩, hf⟩
      rw [at1 (ed.length - 1) (by omega)]
      exact hl h0
theorem mlpE_zero (es : List (Int × Int)) (ed : List Int) (j : Nat) : mlpE es 0 ed j = [] := rfl
set_option maxRecDepth 20000 in
set_option maxHeartbeats 4000000 in
theorem l8Extend_c (v : Value) (n : Int) (es : List (Int × Int)) (hlen : es.length ≤ 28) (k : Nat) (hk : k ≤ 1000000) :
    ∀ (r : Nat) (ed : List Int) (w : Value) (lo : Nat) (H : AH), RowP 81 H v es → InI lo H.length 3 H w ed → lo ≤ H.length → r ≤ es.length → Mtc es ed → ed.length + r ≤ es.length → ed.length ≤ k → (ed.length = 0 → r = es.length) → (0 < ed.length → ed.getD (ed.length - 1) 0 + 1 = ((es.length - r : Nat) : Int)) →
      ACalls Try.prog 68 [.agg (List.toArray [.int .i64 n, v]), w, .int .i64 (k : Int)] H fun g H' => InL lo H'.length 38 3 H' g (mext es r ed k) ∧ (mext es r ed k).length ≤ 2 ^ r ∧ H <+: H' := by
  intro r
  induction r using Nat.strongRecOn with
  | ind r ih =>
  intro ed w lo H hr hw hlo hrl hm hel hek hz hlast
  have hrow := hw.row.1
  refine in68 rfl ?_
  intro Q hQ
  simp (maxSteps := 1000000) (disch := omega) only [cd68, hr.boxG, hrow.len Try.underlying38, S, S1, S2, S3, S4, S5, ST, eq_self, reduceIte, reduceCtorEq, Nat.reduceEqDiff, Nat.reduceAdd]
  generalize hA : H ++ [AObj.cells [.int .i64 n, v] 31 false] = A
  have pA : H <+: A := by rw [← hA]; exact List.prefix_append _ _
  have cA : A[H.length]? = some (.cells [.int .i64 n, v] 31 false) := by rw [← hA]; exact at_new ..
  have rA := hr.pre pA
  have wA := hrow.pre pA
  refine brD.intro (fun e => ?_) (fun e => ?_)
  · have hek' : ed.length = k := by omega
    have hbs : buildSliceA Try.prog 26 1 [(0, w)] A = some (.slice (some ⟨A.length, 0, none⟩) 1 1, A ++ [.cells [w] 38 false]) := by
      obtain ⟨q, eq⟩ := hrow.shape
      rw [eq]
      exact bs1 Try.underlying26 cs38 ze38 ⟨by kernel_rfl, by kernel_rfl⟩ A rfl
    simp (maxSteps := 1000000) (disch := omega) only [hbs, S, S1, S2, S3, S4, S5, ST, eq_self, reduceIte, reduceCtorEq, Nat.reduceEqDiff, Nat.reduceAdd]
    refine hQ _ _ _ ?_
    simp (maxSteps := 1000000) (disch := omega) only [S, S1, S2, S3, S4, S5, ST, eq_self, reduceIte, reduceCtorEq, Nat.reduceEqDiff, Nat.reduceAdd]
    rw [← hek', mext_done]
    refine ⟨.inr ⟨A.length, [w], rfl, ?_⟩, by simp; exact Nat.one_le_two_pow, pre_app pA _⟩
    have lA := pA.length_le
    refine ⟨by omega, by simp, at_new .., by simp, ?_, ?_⟩
    · intro i hi
      have hi0 : i = 0 := by simpa using hi
      subst hi0
      refine ⟨((hw.pre pA).pre (List.prefix_append A _)).wide (Nat.le_refl _) (by simp; omega), ?_⟩
      rcases hw.at_ with q | q
      · exact .inl q
      · refine .inr ?_
        show rowO w ≠ A.length
        omega
    · intro i j hij hi hj
      simp at hi hj; omega
  have hek' : ed.length ≠ k := by omega
  rw [mext_loop es r ed k hek'] at hQ
  have e1 : ((ed.length : Int) - 1).toNat = ed.length - 1 := by omega
  have u0 := InU.new lo 38 3 A (by have := pA.length_le; omega)
  have hP : ∀ j, 2 ^ (j + 1) = 2 ^ j + 2 ^ j := fun j => by rw [Nat.pow_succ]; omega
  have hPr : 2 ^ r ≤ 2 ^ 28 := Nat.pow_le_pow_right (by decide) (by omega)
  simp (maxSteps := 1000000) (disch := omega) only [e, wA.len Try.underlying38, S, S1, S2, S3, S4, S5, ST, eq_self, reduceIte, reduceCtorEq, Nat.reduceEqDiff, Nat.reduceAdd]
  refine brD.intro (fun g => ?_) (fun g => ?_)
  · have hl' := hlast (by omega)
    have wB := wA.pre (List.prefix_append A [AObj.cells [] 38 false])
    simp (maxSteps := 1000000) (disch := omega) only [g, e1, wB.len Try.underlying38, wB.ix Try.underlying38 cs3, wB.cell, hl', wrap64, S, S1, S2, S3, S4, S5, ST, eq_self, reduceIte, reduceCtorEq, Nat.reduceEqDiff, Nat.reduceAdd]
    refine LoopH.by (fun m s H' => ∃ o us L, m ≤ r ∧ s 1 = w ∧ s 2 = .int .i64 (k : Int) ∧ s 3 = .pointer (some ⟨H.length, 0, none⟩) ∧ s 8 = .slice (some ⟨o, 0, none⟩) L.length L.length ∧ s 9 = .int .i64 ((es.length - m : Nat) : Int) ∧ A.length ≤ o ∧ InU lo H'.length 38 3 H' o us L ∧ L ++ mlpE es m ed k = mlpE es r ed k ∧ L.length + 2 ^ m ≤ 2 ^ r ∧ A <+: H') r ?_ ?_
    · refine ⟨A.length, [], [], Nat.le_refl _, rfl, rfl, rfl, rfl, rfl, Nat.le_refl _, ?_, rfl, by simp, List.prefix_append _ _⟩
      simpa using u0
    · rintro m s H' ⟨o, us, L, hmr, h1, h2, h3, h8, h9, hoA, hin, hL, hcnt, hp⟩
      have hrH := rA.pre hp
      have cH := pre_at hp cA
      have wH := wA.pre hp
      simp (maxSteps := 1000000) (disch := omega) only [h1, h2, h3, h8, h9, cell_of cH, hrH.len Try.underlying22, S, S1, S2, S3, S4, S5, ST, eq_self, reduceIte, reduceCtorEq, Nat.reduceEqDiff, Nat.reduceAdd]
      refine brD.intro (fun g3 => ?_) (fun g3 => ?_)
      · obtain ⟨i, rfl⟩ : ∃ i, m = i + 1 := ⟨m - 1, by omega⟩
        have he1 : ((es.length - (i + 1) : Nat) : Int) + 1 = ((es.length - i : Nat) : Int) := by omega
        have hstep := mlpE_step es i ed k
        have hpw := hP i
        have hpos : 1 ≤ 2 ^ i := Nat.one_le_two_pow
        generalize he : es.length - (i + 1) = e' at *
        simp (maxSteps := 1000000) (disch := omega) only [h1, h2, h3, h8, h9, S, S1, S2, S3, S4, S5, ST, eq_self, reduceIte, reduceCtorEq, Nat.reduceEqDiff, Nat.reduceAdd]
        refine CallH.by (l1Own_c w ed H' wH (by omega)) ?_
        rintro c D ⟨hc, pD⟩
        obtain ⟨w', H2, k1, k2, k3, k4, k5, k6⟩ := own1_38 hc pD (by omega) (e' : Int)
        have hp2 := hp.trans k3
        have cH2 := pre_at hp2 cA
        simp (maxSteps := 1000000) (disch := omega) only [h1, h2, h3, h8, h9, k1, ld_agg ag31 cs31 cH2, S, S1, S2, S3, S4, S5, ST, eq_self, reduceIte, reduceCtorEq, Nat.reduceEqDiff, Nat.reduceAdd]
        refine CallH.by (l8Matches_c n v w' es (ed ++ [(e' : Int)]) H2 (rA.pre hp2) k2.row (by omega) (by simp; omega)) ?_
        rintro _ H3 ⟨rfl, p3⟩
        have hp3 := hp2.trans p3
        have pH3 := k3.trans p3
        have cH3 := pre_at hp3 cA
        have hsn := mtc_snoc (e := (e' : Int)) hm (by omega) (fun h0 => by have := hlast h0; omega)
        simp (maxSteps := 1000000) (disch := omega) only [S, S1, S2, S3, S4, S5, ST, eq_self, reduceIte, reduceCtorEq, Nat.reduceEqDiff, Nat.reduceAdd]
        refine brD.intro (fun g4 => ?_) (fun g4 => ?_)
        · have hfe := hsn.1 g4
          rw [if_pos hfe] at hstep
          simp (maxSteps := 1000000) (disch := omega) only [g4, h1, h2, h3, h8, h9, ld_agg ag31 cs31 cH3, S, S1, S2, S3, S4, S5, ST, eq_self, reduceIte, reduceCtorEq, Nat.reduceEqDiff, Nat.reduceAdd]
          have hI' : InI H'.length H3.length 3 H3 w' (ed ++ [(e' : Int)]) := ((InI.of k2.mine).pre p3).wide (Nat.le_refl _) p3.length_le
          refine CallH.by (ih i (by omega) (ed ++ [(e' : Int)]) w' H'.length H3 (rA.pre hp3) hI' pH3.length_le (by omega) g4 (by simp; omega) (by simp; omega) (fun h0 => by simp at h0) (fun _ => ?_)) ?_
          · have : (ed ++ [(e' : Int)]).getD ((ed ++ [(e' : Int)]).length - 1) 0 = (e' : Int) := by
              rw [List.length_append, List.getD_eq_getElem?_getD, List.getElem?_append_right (by simp)]; simp
            rw [this]; exact he1
          rintro gL H4 ⟨hgL, hcL, p4⟩
          have lH' := hp.length_le
          have lA := pA.length_le
          have l3 := (pH3.trans p4).length_le
          obtain ⟨v', H5, o', us', q1, q2, q3, q4, q5, q6⟩ := (hin.pre (pH3.trans p4)).appL (P := Try.prog) (t2 := 26) Try.underlying26 cs38 (by rw [by38]; decide) zk38 hgL (by omega) l3 (Nat.le_refl _) (by omega)
          have f1 : A <+: H5 := prefix_of fun j x hx' => q5 j x (by have := at_lt hx'; omega) (pre_at (hp3.trans p4) hx')
          have f2 : (L ++ mext es i (ed ++ [(e' : Int)]) k) ++ mlpE es i ed k = mlpE es r ed k := by
            rw [← hL, hstep, List.append_assoc]
          have f3 : (L ++ mext es i (ed ++ [(e' : Int)]) k).length + 2 ^ i ≤ 2 ^ r := by rw [List.length_append]; omega
          simp (maxSteps := 1000000) (disch := omega) only [h1, h2, h3, h8, h9, q1, q2, he1, wrap64, S, S1, S2, S3, S4, S5, ST, eq_self, reduceIte, reduceCtorEq, Nat.reduceEqDiff, Nat.reduceAdd]
          have f4 : A.length ≤ o' := by have := (hp3.trans p4).length_le; omega
          refine ⟨i, by omega, o', us', L ++ mext es i (ed ++ [(e' : Int)]) k, ?_⟩
          (repeat' first | exact f1 | exact f2 | exact f3 | exact f4 | exact q3 | apply And.intro) <;> first | (simp only [Value.int.injEq, true_and]; omega) | omega | rfl | assumption | (simp; done) | (simp; omega)
        · rw [if_neg (fun h => g4 (hsn.2 h)), List.nil_append] at hstep
          rw [hstep] at hL
          have f1 := (hin.pre pH3).wide (Nat.le_refl _) pH3.length_le
          have f2 : L.length + 2 ^ i ≤ 2 ^ r := by omega
          simp (maxSteps := 1000000) (disch := omega) only [g4, h1, h2, h3, h8, h9, he1, wrap64, S, S1, S2, S3, S4, S5, ST, eq_self, reduceIte, reduceCtorEq, Nat.reduceEqDiff, Nat.reduceAdd]
          refine ⟨i, by omega, o, us, L, ?_⟩
          (repeat' first | exact f1 | exact f2 | exact hp3 | exact hL | apply And.intro) <;> first | (simp only [Value.int.injEq, true_and]; omega) | omega | rfl | assumption | (simp; done) | (simp; omega)
      · have hm0 : m = 0 := by omega
        subst hm0
        rw [mlpE_zero, List.append_nil] at hL
        simp (maxSteps := 1000000) (disch := omega) only [h8, S, S1, S2, S3, S4, S5, ST, eq_self, reduceIte, reduceCtorEq, Nat.reduceEqDiff, Nat.reduceAdd]
        refine hQ _ _ _ ?_
        simp (maxSteps := 1000000) (disch := omega) only [h8, S, S1, S2, S3, S4, S5, ST, eq_self, reduceIte, reduceCtorEq, Nat.reduceEqDiff, Nat.reduceAdd]
        rw [← hL]
        exact ⟨hin.inl, by omega, pA.trans hp⟩
  · have hz' := hz (by omega)
    have hl' : (0 : Int) = ((es.length - r : Nat) : Int) := by omega
    simp (maxSteps := 1000000) (disch := omega) only [g, S, S1, S2, S3, S4, S5, ST, eq_self, reduceIte, reduceCtorEq, Nat.reduceEqDiff, Nat.reduceAdd]
    refine LoopH.by (fun m s H' => ∃ o us L, m ≤ r ∧ s 1 = w ∧ s 2 = .int .i64 (k : Int) ∧ s 3 = .pointer (some ⟨H.length, 0, none⟩) ∧ s 8 = .slice (some ⟨o, 0, none⟩) L.length L.length ∧ s 9 = .int .i64 ((es.length - m : Nat) : Int) ∧ A.length ≤ o ∧ InU lo H'.length 38 3 H' o us L ∧ L ++ mlpE es m ed k = mlpE es r ed k ∧ L.length + 2 ^ m ≤ 2 ^ r ∧ A <+: H') r ?_ ?_
    · refine ⟨A.length, [], [], Nat.le_refl _, rfl, rfl, rfl, rfl, ?_, Nat.le_refl _, ?_, rfl, by simp, List.prefix_append _ _⟩
      · rw [← hl']; rfl
      · simpa using u0
    · rintro m s H' ⟨o, us, L, hmr, h1, h2, h3, h8, h9, hoA, hin, hL, hcnt, hp⟩
      have hrH := rA.pre hp
      have cH := pre_at hp cA
      have wH := wA.pre hp
      simp (maxSteps := 1000000) (disch := omega) only [h1, h2, h3, h8, h9, cell_of cH, hrH.len Try.underlying22, S, S1, S2, S3, S4, S5, ST, eq_self, reduceIte, reduceCtorEq, Nat.reduceEqDiff, Nat.reduceAdd]
      refine brD.intro (fun g3 => ?_) (fun g3 => ?_)
      · obtain ⟨i, rfl⟩ : ∃ i, m = i + 1 := ⟨m - 1, by omega⟩
        have he1 : ((es.length - (i + 1) : Nat) : Int) + 1 = ((es.length - i : Nat) : Int) := by omega
        have hstep := mlpE_step es i ed k
        have hpw := hP i
        have hpos : 1 ≤ 2 ^ i := Nat.one_le_two_pow
        generalize he : es.length - (i + 1) = e' at *
        simp (maxSteps := 1000000) (disch := omega) only [h1, h2, h3, h8, h9, S, S1, S2, S3, S4, S5, ST, eq_self, reduceIte, reduceCtorEq, Nat.reduceEqDiff, Nat.reduceAdd]
        refine CallH.by (l1Own_c w ed H' wH (by omega)) ?_
        rintro c D ⟨hc, pD⟩
        obtain ⟨w', H2, k1, k2, k3, k4, k5, k6⟩ := own1_38 hc pD (by omega) (e' : Int)
        have hp2 := hp.trans k3
        have cH2 := pre_at hp2 cA
        simp (maxSteps := 1000000) (disch := omega) only [h1, h2, h3, h8, h9, k1, ld_agg ag31 cs31 cH2, S, S1, S2, S3, S4, S5, ST, eq_self, reduceIte, reduceCtorEq, Nat.reduceEqDiff, Nat.reduceAdd]
        refine CallH.by (l8Matches_c n v w' es (ed ++ [(e' : Int)]) H2 (rA.pre hp2) k2.row (by omega) (by simp; omega)) ?_
        rintro _ H3 ⟨rfl, p3⟩
        have hp3 := hp2.trans p3
        have pH3 := k3.trans p3
        have cH3 := pre_at hp3 cA
        have hsn := mtc_snoc (e := (e' : Int)) hm (by omega) (fun h0 => by have := hlast h0; omega)
        simp (maxSteps := 1000000) (disch := omega) only [S, S1, S2, S3, S4, S5, ST, eq_self, reduceIte, reduceCtorEq, Nat.reduceEqDiff, Nat.reduceAdd]
        refine brD.intro (fun g4 => ?_) (fun g4 => ?_)
        · have hfe := hsn.1 g4
          rw [if_pos hfe] at hstep
          simp (maxSteps := 1000000) (disch := omega) only [g4, h1, h2, h3, h8, h9, ld_agg ag31 cs31 cH3, S, S1, S2, S3, S4, S5, ST, eq_self, reduceIte, reduceCtorEq, Nat.reduceEqDiff, Nat.reduceAdd]
          have hI' : InI H'.length H3.length 3 H3 w' (ed ++ [(e' : Int)]) := ((InI.of k2.mine).pre p3).wide (Nat.le_refl _) p3.length_le
          refine CallH.by (ih i (by omega) (ed ++ [(e' : Int)]) w' H'.length H3 (rA.pre hp3) hI' pH3.length_le (by omega) g4 (by simp; omega) (by simp; omega) (fun h0 => by simp at h0) (fun _ => ?_)) ?_
          · have : (ed ++ [(e' : Int)]).getD ((ed ++ [(e' : Int)]).length - 1) 0 = (e' : Int) := by
              rw [List.length_append, List.getD_eq_getElem?_getD, List.getElem?_append_right (by simp)]; simp
            rw [this]; exact he1
          rintro gL H4 ⟨hgL, hcL, p4⟩
          have lH' := hp.length_le
          have lA := pA.length_le
          have l3 := (pH3.trans p4).length_le
          obtain ⟨v', H5, o', us', q1, q2, q3, q4, q5, q6⟩ := (hin.pre (pH3.trans p4)).appL (P := Try.prog) (t2 := 26) Try.underlying26 cs38 (by rw [by38]; decide) zk38 hgL (by omega) l3 (Nat.le_refl _) (by omega)
          have f1 : A <+: H5 := prefix_of fun j x hx' => q5 j x (by have := at_lt hx'; omega) (pre_at (hp3.trans p4) hx')
          have f2 : (L ++ mext es i (ed ++ [(e' : Int)]) k) ++ mlpE es i ed k = mlpE es r ed k := by
            rw [← hL, hstep, List.append_assoc]
          have f3 : (L ++ mext es i (ed ++ [(e' : Int)]) k).length + 2 ^ i ≤ 2 ^ r := by rw [List.length_append]; omega
          simp (maxSteps := 1000000) (disch := omega) only [h1, h2, h3, h8, h9, q1, q2, he1, wrap64, S, S1, S2, S3, S4, S5, ST, eq_self, reduceIte, reduceCtorEq, Nat.reduceEqDiff, Nat.reduceAdd]
          have f4 : A.length ≤ o' := by have := (hp3.trans p4).length_le; omega
          refine ⟨i, by omega, o', us', L ++ mext es i (ed ++ [(e' : Int)]) k, ?_⟩
          (repeat' first | exact f1 | exact f2 | exact f3 | exact f4 | exact q3 | apply And.intro) <;> first | (simp only [Value.int.injEq, true_and]; omega) | omega | rfl | assumption | (simp; done) | (simp; omega)
        · rw [if_neg (fun h => g4 (hsn.2 h)), List.nil_append] at hstep
          rw [hstep] at hL
          have f1 := (hin.pre pH3).wide (Nat.le_refl _) pH3.length_le
          have f2 : L.length + 2 ^ i ≤ 2 ^ r := by omega
          simp (maxSteps := 1000000) (disch := omega) only [g4, h1, h2, h3, h8, h9, he1, wrap64, S, S1, S2, S3, S4, S5, ST, eq_self, reduceIte, reduceCtorEq, Nat.reduceEqDiff, Nat.reduceAdd]
          refine ⟨i, by omega, o, us, L, ?_⟩
          (repeat' first | exact f1 | exact f2 | exact hp3 | exact hL | apply And.intro) <;> first | (simp only [Value.int.injEq, true_and]; omega) | omega | rfl | assumption | (simp; done) | (simp; omega)
      · have hm0 : m = 0 := by omega
        subst hm0
        rw [mlpE_zero, List.append_nil] at hL
        simp (maxSteps := 1000000) (disch := omega) only [h8, S, S1, S2, S3, S4, S5, ST, eq_self, reduceIte, reduceCtorEq, Nat.reduceEqDiff, Nat.reduceAdd]
        refine hQ _ _ _ ?_
        simp (maxSteps := 1000000) (disch := omega) only [h8, S, S1, S2, S3, S4, S5, ST, eq_self, reduceIte, reduceCtorEq, Nat.reduceEqDiff, Nat.reduceAdd]
        rw [← hL]
        exact ⟨hin.inl, by omega, pA.trans hp⟩
end Go.Proofs.Ytlfongfhbkefmaa.Ai
namespace Go.Proofs.Ytlfongfhbkefmaa.Ai
open Go
def ords98 : List (Nat × List (Nat × Bool)) := []
def cd98 : Cd := (.seq (.reg [⟨⟨some 1, Op.box 31 (Operand.tmp 0), none⟩, []⟩,
  ⟨⟨some 2, Op.assign (Operand.const (Value.slice none 0 0)), none⟩, []⟩]) (.seq (.seq (.reg [⟨⟨some 3, Op.fieldAddr 31 (Operand.tmp 1) 0, none⟩, []⟩,
  ⟨⟨some 4, Op.load 3 (Operand.tmp 3), none⟩, []⟩,
  ⟨⟨some 5, Op.binOp BinOp.rem 3 (Operand.tmp 4) (Operand.const (Value.int IntKind.i64 2)) 3, none⟩, []⟩,
  ⟨⟨some 6, Op.binOp BinOp.eql 3 (Operand.tmp 5) (Operand.const (Value.int IntKind.i64 1)) 3, none⟩, []⟩]) (.cond (Operand.tmp 6) (.seq (.reg [⟨⟨some 7, Op.buildSlice 26 0 #[], none⟩, []⟩,
  ⟨⟨some 2, Op.assign (Operand.tmp 7), none⟩, []⟩]) .ret) .skip)) (.seq (.reg [⟨⟨some 8, Op.load 31 (Operand.tmp 1), none⟩, []⟩,
  ⟨⟨some 9, Op.fieldAddr 31 (Operand.tmp 1) 0, none⟩, []⟩,
  ⟨⟨some 10, Op.load 3 (Operand.tmp 9), none⟩, []⟩,
  ⟨⟨some 11, Op.binOp BinOp.quo 3 (Operand.tmp 10) (Operand.const (Value.int IntKind.i64 2)) 3, none⟩, []⟩,
  ⟨⟨some 12, Op.call { callee := (Callee.value (Operand.func 73)), args := #[(Operand.tmp 8), (Operand.tmp 11)], argTypes := #[31, 3] }, none⟩, []⟩,
  ⟨⟨some 2, Op.assign (Operand.tmp 12), none⟩, []⟩]) .ret)))
theorem sl98 : slim Try.f98.ntmps ords98 (Try.f98.body.getD .skip) = some cd98 := by kernel_rfl
theorem in98 {args : List Value} {H : AH} {R : Value → AH → Prop} (hl : args.length = 1) (h : ∀ (Q : Exit → Sl → AH → Prop), (∀ e s H, endA Try.prog [ResultVar.tmp 2] R e s H → Q e s H) → wpC Try.prog cd98 Q (enterA args) H) : ACalls Try.prog 98 args H R :=
  ACalls.intro (by kernel_rfl) Try.func98 rfl (by kernel_rfl) sl98 hl (of_decide_eq_true (by kernel_rfl)) (by kernel_rfl) h
def ords169 : List (Nat × List (Nat × Bool)) := []
def cd169 : Cd := (.seq (.reg [⟨⟨some 1, Op.box 31 (Operand.tmp 0), none⟩, []⟩,
  ⟨⟨some 2, Op.assign (Operand.const (Value.slice none 0 0)), none⟩, []⟩]) (.seq (.seq (.reg [⟨⟨some 3, Op.fieldAddr 31 (Operand.tmp 1) 0, none⟩, []⟩,
  ⟨⟨some 4, Op.load 3 (Operand.tmp 3), none⟩, []⟩,
  ⟨⟨some 5, Op.binOp BinOp.rem 3 (Operand.tmp 4) (Operand.const (Value.int IntKind.i64 2)) 3, none⟩, []⟩,
  ⟨⟨some 6, Op.binOp BinOp.neq 3 (Operand.tmp 5) (Operand.const (Value.int IntKind.i64 0)) 3, none⟩, []⟩]) (.cond (Operand.tmp 6) (.seq (.reg [⟨⟨some 7, Op.buildSlice 26 0 #[], none⟩, []⟩,
  ⟨⟨some 2, Op.assign (Operand.tmp 7), none⟩, []⟩]) .ret) .skip)) (.seq (.reg [⟨⟨some 8, Op.load 31 (Operand.tmp 1), none⟩, []⟩,
  ⟨⟨some 9, Op.buildSlice 38 0 #[], none⟩, []⟩,
  ⟨⟨some 10, Op.fieldAddr 31 (Operand.tmp 1) 0, none⟩, []⟩,
  ⟨⟨some 11, Op.load 3 (Operand.tmp 10), none⟩, []⟩,
  ⟨⟨some 12, Op.binOp BinOp.quo 3 (Operand.tmp 11) (Operand.const (Value.int IntKind.i64 2)) 3, none⟩, []⟩,
  ⟨⟨some 13, Op.call { callee := (Callee.value (Operand.func 68)), args := #[(Operand.tmp 8), (Operand.tmp 9), (Operand.tmp 12)], argTypes := #[31, 38, 3] }, none⟩, []⟩,
  ⟨⟨some 2, Op.assign (Operand.tmp 13), none⟩, []⟩]) .ret)))
theorem sl169 : slim Try.f169.ntmps ords169 (Try.f169.body.getD .skip) = some cd169 := by kernel_rfl
theorem in169 {args : List Value} {H : AH} {R : Value → AH → Prop} (hl : args.length = 1) (h : ∀ (Q : Exit → Sl → AH → Prop), (∀ e s H, endA Try.prog [ResultVar.tmp 2] R e s H → Q e s H) → wpC Try.prog cd169 Q (enterA args) H) : ACalls Try.prog 169 args H R :=
  ACalls.intro (by kernel_rfl) Try.func169 rfl (by kernel_rfl) sl169 hl (of_decide_eq_true (by kernel_rfl)) (by kernel_rfl) h
end Go.Proofs.Ytlfongfhbkefmaa.Ai
namespace Go.Proofs.Ytlfongfhbkefmaa.Ai
open Go Go.RowKit
set_option linter.unusedVariables false
set_option linter.unusedSimpArgs false
/-- all perfect matchings -/
def perfL (n : Int) (es : List (Int × Int)) : List (List Int) := if n.toNat % 2 = 1 then [] else mext es es.length [] (n.toNat / 2)
theorem perfL_len {n : Int} {es : List (Int × Int)} (hg : Grd n es) : (perfL n es).length ≤ 105 := by
  unfold perfL
  split
  · simp
  · exact perfect_le hg (by omega)
def perfR (n : Int) (es : List (Int × Int)) : List (List Int) := if Grd n es then perfL n es else []
theorem mext_lenP {n : Int} {es : List (Int × Int)} {j : Nat} {x : List Int} (h : x ∈ mext es es.length [] j) : x.length = j := by
  unfold mext at h
  exact of_decide_eq_true (List.mem_filter.1 h).2
theorem sizeL_max (m : Nat) : ∀ (ls : List (List Int)), (∀ l ∈ ls, l.length ≤ m) → sizeL ls ≤ ls.length * m
  | [], _ => by simp [sizeL]
  | l :: ls, h => by
    have := sizeL_max m ls (fun x hx => h x (by simp [hx]))
    have := h l (by simp)
    simp only [sizeL, List.map_cons, List.sum_cons, List.length_cons, Nat.add_mul, Nat.one_mul] at *
    omega
set_option maxRecDepth 20000 in
theorem perfect_c (n : Int) (v : Value) (es : List (Int × Int)) (H : AH) (hr : RowP 81 H v es) (hlen : es.length ≤ 1048576) (hg : Grd n es) :
    ACalls Try.prog 98 [.agg (List.toArray [.int .i64 n, v])] H fun r H' => InL H.length H'.length 38 3 H' r (perfL n es) ∧ H <+: H' := by
  refine in98 rfl ?_
  intro Q hQ
  have hnn := hg.1
  have hmod : n.tmod 2 = ((n.toNat % 2 : Nat) : Int) := by rw [Int.tmod_eq_emod_of_nonneg hnn.1]; omega
  have hq : IntKind.i64.wrap (n.tdiv 2) = ((n.toNat / 2 : Nat) : Int) := by
    rw [Int.tdiv_eq_ediv_of_nonneg hnn.1, wrap64 (by omega) (by omega)]
    omega
  have hpl := perfL_len hg
  simp (maxSteps := 1000000) (disch := omega) only [cd98, hr.boxG, S, S1, S2, S3, S4, S5, ST, eq_self, reduceIte, reduceCtorEq, Nat.reduceEqDiff, Nat.reduceAdd]
  generalize hA : H ++ [AObj.cells [.int .i64 n, v] 31 false] = A
  have pA : H <+: A := by rw [← hA]; exact List.prefix_append _ _
  have cA : A[H.length]? = some (.cells [.int .i64 n, v] 31 false) := by rw [← hA]; exact at_new ..
  have rA := hr.pre pA
  simp (maxSteps := 1000000) (disch := omega) only [cell_of cA, hmod, S, S1, S2, S3, S4, S5, ST, eq_self, reduceIte, reduceCtorEq, Nat.reduceEqDiff, Nat.reduceAdd]
  refine brD.intro (fun e => ?_) (fun e => ?_)
  · simp (maxSteps := 1000000) (disch := omega) only [S, S1, S2, S3, S4, S5, ST, eq_self, reduceIte, reduceCtorEq, Nat.reduceEqDiff, Nat.reduceAdd]
    refine hQ _ _ _ ?_
    simp (maxSteps := 1000000) (disch := omega) only [S, S1, S2, S3, S4, S5, ST, eq_self, reduceIte, reduceCtorEq, Nat.reduceEqDiff, Nat.reduceAdd]
    have : perfL n es = [] := by unfold perfL; rw [if_pos (by omega)]
    rw [this]
    have u0 := InU.new H.length 38 3 A pA.length_le
    refine ⟨?_, pre_app pA _⟩
    have := u0.inl
    simpa using this
  · have hP : perfL n es = mext es es.length [] (n.toNat / 2) := by unfold perfL; rw [if_neg (by omega)]
    simp (maxSteps := 1000000) (disch := omega) only [cell_of cA, ld_agg ag31 cs31 cA, hq, S, S1, S2, S3, S4, S5, ST, eq_self, reduceIte, reduceCtorEq, Nat.reduceEqDiff, Nat.reduceAdd]
    refine CallH.by (ofSize_c n v es (n.toNat / 2) A rA hlen hg (by omega)) ?_
    rintro g B ⟨hL, pB⟩
    rw [← hP, List.take_of_length_le (by omega)] at hL
    have ht : isTup g = false := by
      obtain ⟨us, r1, _⟩ := hL.parts
      exact r1.tup
    simp (maxSteps := 1000000) (disch := omega) only [S, S1, S2, S3, S4, S5, ST, eq_self, reduceIte, reduceCtorEq, Nat.reduceEqDiff, Nat.reduceAdd]
    refine hQ _ _ _ ?_
    simp (maxSteps := 1000000) (disch := omega) only [ht, S, S1, S2, S3, S4, S5, ST, eq_self, reduceIte, reduceCtorEq, Nat.reduceEqDiff, Nat.reduceAdd]
    exact ⟨hL.wide pA.length_le (Nat.le_refl _), pA.trans pB⟩
set_option maxRecDepth 20000 in
theorem l8Perfect_c (n : Int) (v : Value) (es : List (Int × Int)) (H : AH) (hr : RowP 81 H v es) (hg : Grd n es) :
    ACalls Try.prog 169 [.agg (List.toArray [.int .i64 n, v])] H fun r H' => InL H.length H'.length 38 3 H' r (perfL n es) ∧ H <+: H' := by
  refine in169 rfl ?_
  intro Q hQ
  have hnn := hg.1
  have hmod : n.tmod 2 = ((n.toNat % 2 : Nat) : Int) := by rw [Int.tmod_eq_emod_of_nonneg hnn.1]; omega
  have hq : IntKind.i64.wrap (n.tdiv 2) = ((n.toNat / 2 : Nat) : Int) := by
    rw [Int.tdiv_eq_ediv_of_nonneg hnn.1, wrap64 (by omega) (by omega)]
    omega
  simp (maxSteps := 1000000) (disch := omega) only [cd169, hr.boxG, S, S1, S2, S3, S4, S5, ST, eq_self, reduceIte, reduceCtorEq, Nat.reduceEqDiff, Nat.reduceAdd]
  generalize hA : H ++ [AObj.cells [.int .i64 n, v] 31 false] = A
  have pA : H <+: A := by rw [← hA]; exact List.prefix_append _ _
  have cA : A[H.length]? = some (.cells [.int .i64 n, v] 31 false) := by rw [← hA]; exact at_new ..
  have rA := hr.pre pA
  simp (maxSteps := 1000000) (disch := omega) only [cell_of cA, hmod, S, S1, S2, S3, S4, S5, ST, eq_self, reduceIte, reduceCtorEq, Nat.reduceEqDiff, Nat.reduceAdd]
  refine brD.intro (fun e => ?_) (fun e => ?_)
  · simp (maxSteps := 1000000) (disch := omega) only [S, S1, S2, S3, S4, S5, ST, eq_self, reduceIte, reduceCtorEq, Nat.reduceEqDiff, Nat.reduceAdd]
    refine hQ _ _ _ ?_
    simp (maxSteps := 1000000) (disch := omega) only [S, S1, S2, S3, S4, S5, ST, eq_self, reduceIte, reduceCtorEq, Nat.reduceEqDiff, Nat.reduceAdd]
    have : perfL n es = [] := by unfold perfL; rw [if_pos (by omega)]
    rw [this]
    have u0 := InU.new H.length 38 3 A pA.length_le
    refine ⟨?_, pre_app pA _⟩
    have := u0.inl
    simpa using this
  · have hP : perfL n es = mext es es.length [] (n.toNat / 2) := by unfold perfL; rw [if_neg (by omega)]
    have cA2 := at_app cA [AObj.cells [] 3 false]
    simp (maxSteps := 1000000) (disch := omega) only [cell_of cA, cell_of cA2, ld_agg ag31 cs31 cA, hq, S, S1, S2, S3, S4, S5, ST, eq_self, reduceIte, reduceCtorEq, Nat.reduceEqDiff, Nat.reduceAdd]
    refine CallH.by (l8Extend_c v n es (grd_len hg) (n.toNat / 2) (by omega) es.length [] (.slice (some ⟨A.length, 0, none⟩) 0 0) A.length (A ++ [.cells [] 3 false]) (rA.pre (List.prefix_append _ _)) (.inr ⟨A.length, [], rfl, Nat.le_refl _, by simp, at_new .., rfl⟩) (by simp) (Nat.le_refl _) (MtU.zero _ _) (by simp) (Nat.zero_le _) (fun _ => rfl) (fun h => absurd h (by simp))) ?_
    rintro g B ⟨hL, _, pB⟩
    rw [← hP] at hL
    have ht : isTup g = false := by
      obtain ⟨us, r1, _⟩ := hL.parts
      exact r1.tup
    simp (maxSteps := 1000000) (disch := omega) only [S, S1, S2, S3, S4, S5, ST, eq_self, reduceIte, reduceCtorEq, Nat.reduceEqDiff, Nat.reduceAdd]
    refine hQ _ _ _ ?_
    simp (maxSteps := 1000000) (disch := omega) only [ht, S, S1, S2, S3, S4, S5, ST, eq_self, reduceIte, reduceCtorEq, Nat.reduceEqDiff, Nat.reduceAdd]
    exact ⟨hL.wide pA.length_le (Nat.le_refl _), pA.trans ((List.prefix_append _ _).trans pB)⟩
end Go.Proofs.Ytlfongfhbkefmaa.Ai
namespace Go.Proofs.Ytlfongfhbkefmaa.Ai
open Go
def ords157 : List (Nat × List (Nat × Bool)) := []
def cd157 : Cd := (.seq (.reg [⟨⟨some 4, Op.assign (Operand.const (Value.int IntKind.i64 0)), none⟩, []⟩]) (.seq (.seq (.reg [⟨⟨some 9, Op.move (Operand.tmp 0), none⟩, []⟩,
  ⟨⟨some 10, Op.call { callee := (Callee.builtin Builtin.len), args := #[(Operand.tmp 9)], argTypes := #[38] }, none⟩, []⟩,
  ⟨⟨some 11, Op.move (Operand.const (Value.int IntKind.i64 0)), none⟩, []⟩]) (.block 0 (.loop (.seq (.reg [⟨⟨some 12, Op.binOp BinOp.lss 3 (Operand.tmp 11) (Operand.tmp 10) 3, none⟩, []⟩]) (.seq (.cond (Operand.tmp 12) .skip (.exit 0)) (.seq (.block 1 (.seq (.reg [⟨⟨some 13, Op.move (Operand.tmp 11), none⟩, []⟩,
  ⟨⟨some 14, Op.indexAddr 38 (Operand.tmp 9) (Operand.tmp 11), none⟩, []⟩,
  ⟨⟨some 15, Op.load 3 (Operand.tmp 14), none⟩, []⟩,
  ⟨⟨some 5, Op.assign (Operand.tmp 13), none⟩, []⟩,
  ⟨⟨some 6, Op.assign (Operand.tmp 15), none⟩, []⟩]) (.seq (.seq (.reg [⟨⟨some 16, Op.move (Operand.tmp 5), none⟩, []⟩,
  ⟨⟨some 17, Op.move (Operand.tmp 1), none⟩, []⟩,
  ⟨⟨some 18, Op.call { callee := (Callee.builtin Builtin.len), args := #[(Operand.tmp 17)], argTypes := #[38] }, none⟩, []⟩,
  ⟨⟨some 19, Op.binOp BinOp.geq 3 (Operand.tmp 16) (Operand.tmp 18) 3, none⟩, []⟩]) (.cond (Operand.tmp 19) (.seq (.reg [⟨⟨some 4, Op.assign (Operand.const (Value.int IntKind.i64 1)), none⟩, []⟩]) .ret) .skip)) (.seq (.reg [⟨⟨some 20, Op.move (Operand.tmp 1), none⟩, []⟩,
  ⟨⟨some 21, Op.move (Operand.tmp 5), none⟩, []⟩,
  ⟨⟨some 22, Op.indexAddr 38 (Operand.tmp 20) (Operand.tmp 21), none⟩, []⟩,
  ⟨⟨some 23, Op.load 3 (Operand.tmp 22), none⟩, []⟩,
  ⟨⟨some 7, Op.assign (Operand.tmp 23), none⟩, []⟩]) (.seq (.reg [⟨⟨some 24, Op.move (Operand.tmp 6), none⟩, []⟩,
  ⟨⟨some 25, Op.move (Operand.tmp 7), none⟩, []⟩,
  ⟨⟨some 26, Op.call { callee := (Callee.value (Operand.func 212)), args := #[(Operand.tmp 24), (Operand.tmp 25)], argTypes := #[3, 3] }, none⟩, []⟩,
  ⟨⟨some 8, Op.assign (Operand.tmp 26), none⟩, []⟩]) (.seq (.reg [⟨⟨some 27, Op.move (Operand.tmp 8), none⟩, []⟩,
  ⟨⟨some 28, Op.binOp BinOp.neq 3 (Operand.tmp 27) (Operand.const (Value.int IntKind.i64 0)) 3, none⟩, []⟩]) (.cond (Operand.tmp 28) (.seq (.reg [⟨⟨some 29, Op.move (Operand.tmp 8), none⟩, []⟩,
  ⟨⟨some 4, Op.assign (Operand.tmp 29), none⟩, []⟩]) .ret) .skip))))))) (.reg [⟨⟨some 30, Op.binOp BinOp.add 3 (Operand.tmp 11) (Operand.const (Value.int IntKind.i64 1)) 3, none⟩, []⟩,
  ⟨⟨some 11, Op.move (Operand.tmp 30), none⟩, []⟩]))))))) (.seq (.seq (.reg [⟨⟨some 31, Op.move (Operand.tmp 0), none⟩, []⟩,
  ⟨⟨some 32, Op.call { callee := (Callee.builtin Builtin.len), args := #[(Operand.tmp 31)], argTypes := #[38] }, none⟩, []⟩,
  ⟨⟨some 33, Op.move (Operand.tmp 1), none⟩, []⟩,
  ⟨⟨some 34, Op.call { callee := (Callee.builtin Builtin.len), args := #[(Operand.tmp 33)], argTypes := #[38] }, none⟩, []⟩,
  ⟨⟨some 35, Op.binOp BinOp.lss 3 (Operand.tmp 32) (Operand.tmp 34) 3, none⟩, []⟩]) (.cond (Operand.tmp 35) (.seq (.reg [⟨⟨some 4, Op.assign (Operand.const (Value.int IntKind.i64 (-1))), none⟩, []⟩]) .ret) .skip)) (.seq (.reg [⟨⟨some 4, Op.assign (Operand.const (Value.int IntKind.i64 0)), none⟩, []⟩]) .ret))))
theorem sl157 : slim Try.f157.ntmps ords157 (Try.f157.body.getD .skip) = some cd157 := by kernel_rfl
theorem in157 {args : List Value} {H : AH} {R : Value → AH → Prop} (hl : args.length = 2) (h : ∀ (Q : Exit → Sl → AH → Prop), (∀ e s H, endA Try.prog [ResultVar.tmp 4] R e s H → Q e s H) → wpC Try.prog cd157 Q (enterA args) H) : ACalls Try.prog 157 args H R :=
  ACalls.intro (by kernel_rfl) Try.func157 rfl (by kernel_rfl) sl157 hl (of_decide_eq_true (by kernel_rfl)) (by kernel_rfl) h
def ords273 : List (Nat × List (Nat × Bool)) := [(1, [(0, false), (1, false), (2, false), (3, false), (4, false), (5, false), (6, false), (7, false), (8, false), (9, true), (10, false)])]
def cd273 : Cd := (.seq (.reg [⟨⟨some 10, Op.assign (Operand.const (Value.int IntKind.i64 0)), none⟩, []⟩,
  ⟨⟨some 11, Op.assign (Operand.const (Value.int IntKind.i64 0)), none⟩, []⟩]) (.seq (.seq (.reg [⟨⟨some 12, Op.move (Operand.tmp 4), none⟩, []⟩,
  ⟨⟨some 13, Op.move (Operand.tmp 0), none⟩, []⟩,
  ⟨⟨some 14, Op.move (Operand.tmp 2), none⟩, []⟩,
  ⟨⟨some 15, Op.indexAddr 26 (Operand.tmp 13) (Operand.tmp 14), none⟩, []⟩,
  ⟨⟨some 16, Op.load 38 (Operand.tmp 15), none⟩, []⟩,
  ⟨⟨some 17, Op.move (Operand.tmp 0), none⟩, []⟩,
  ⟨⟨some 18, Op.move (Operand.tmp 1), none⟩, []⟩,
  ⟨⟨some 19, Op.indexAddr 26 (Operand.tmp 17) (Operand.tmp 18), none⟩, []⟩,
  ⟨⟨some 20, Op.load 38 (Operand.tmp 19), none⟩, []⟩,
  ⟨⟨some 21, Op.call { callee := (Callee.value (Operand.tmp 12)), args := #[(Operand.tmp 16), (Operand.tmp 20)], argTypes := #[38, 38] }, none⟩, []⟩,
  ⟨⟨some 22, Op.binOp BinOp.lss 3 (Operand.tmp 21) (Operand.const (Value.int IntKind.i64 0)) 3, none⟩, []⟩]) (.cond (Operand.tmp 22) (.seq (.reg [⟨⟨some 23, Op.move (Operand.tmp 3), none⟩, []⟩,
  ⟨⟨some 24, Op.nilCheck (Operand.tmp 23), none⟩, []⟩,
  ⟨⟨some 25, Op.load 3 (Operand.tmp 24), none⟩, []⟩,
  ⟨⟨some 26, Op.binOp BinOp.add 3 (Operand.tmp 25) (Operand.const (Value.int IntKind.i64 1)) 3, none⟩, []⟩,
  ⟨⟨some 27, Op.nilCheck (Operand.tmp 23), none⟩, []⟩,
  ⟨⟨none, Op.store 3 (Operand.tmp 27) (Operand.tmp 26), none⟩, []⟩]) (.seq (.reg [⟨⟨some 28, Op.move (Operand.tmp 2), none⟩, []⟩,
  ⟨⟨some 29, Op.move (Operand.tmp 1), none⟩, []⟩,
  ⟨⟨some 10, Op.assign (Operand.tmp 28), none⟩, []⟩,
  ⟨⟨some 11, Op.assign (Operand.tmp 29), none⟩, []⟩]) .ret)) .skip)) (.seq (.reg [⟨⟨some 30, Op.move (Operand.tmp 1), none⟩, []⟩,
  ⟨⟨some 31, Op.move (Operand.tmp 2), none⟩, []⟩,
  ⟨⟨some 10, Op.assign (Operand.tmp 30), none⟩, []⟩,
  ⟨⟨some 11, Op.assign (Operand.tmp 31), none⟩, []⟩]) .ret)))
theorem sl273 : slim Try.f273.ntmps ords273 (Try.f273.body.getD .skip) = some cd273 := by kernel_rfl
theorem in273 {args : List Value} {H : AH} {R : Value → AH → Prop} (hl : args.length = 5) (h : ∀ (Q : Exit → Sl → AH → Prop), (∀ e s H, endA Try.prog [ResultVar.tmp 10, ResultVar.tmp 11] R e s H → Q e s H) → wpC Try.prog cd273 Q (enterA args) H) : ACalls Try.prog 273 args H R :=
  ACalls.intro (by kernel_rfl) Try.func273 rfl (by kernel_rfl) sl273 hl (of_decide_eq_true (by kernel_rfl)) (by kernel_rfl) h
def ords269 : List (Nat × List (Nat × Bool)) := []
def cd269 : Cd := (.seq (.reg [⟨⟨some 12, Op.assign (Operand.const (Value.int IntKind.i64 0)), none⟩, []⟩]) (.seq (.reg [⟨⟨some 14, Op.move (Operand.tmp 0), none⟩, []⟩,
  ⟨⟨some 15, Op.move (Operand.tmp 1), none⟩, []⟩,
  ⟨⟨some 16, Op.move (Operand.tmp 2), none⟩, []⟩,
  ⟨⟨some 17, Op.move (Operand.tmp 4), none⟩, []⟩,
  ⟨⟨some 18, Op.move (Operand.tmp 5), none⟩, []⟩,
  ⟨⟨some 19, Op.call { callee := (Callee.value (Operand.func 273)), args := #[(Operand.tmp 14), (Operand.tmp 15), (Operand.tmp 16), (Operand.tmp 17), (Operand.tmp 18)], argTypes := #[26, 3, 3, 199, 105] }, none⟩, []⟩,
  ⟨⟨some 13, Op.move (Operand.tmp 19), none⟩, []⟩,
  ⟨⟨some 20, Op.extract (Operand.tmp 13) 0, none⟩, []⟩,
  ⟨⟨some 21, Op.extract (Operand.tmp 13) 1, none⟩, []⟩,
  ⟨⟨some 1, Op.assign (Operand.tmp 20), none⟩, []⟩,
  ⟨⟨some 2, Op.assign (Operand.tmp 21), none⟩, []⟩]) (.seq (.reg [⟨⟨some 23, Op.move (Operand.tmp 0), none⟩, []⟩,
  ⟨⟨some 24, Op.move (Operand.tmp 2), none⟩, []⟩,
  ⟨⟨some 25, Op.move (Operand.tmp 3), none⟩, []⟩,
  ⟨⟨some 26, Op.move (Operand.tmp 4), none⟩, []⟩,
  ⟨⟨some 27, Op.move (Operand.tmp 5), none⟩, []⟩,
  ⟨⟨some 28, Op.call { callee := (Callee.value (Operand.func 273)), args := #[(Operand.tmp 23), (Operand.tmp 24), (Operand.tmp 25), (Operand.tmp 26), (Operand.tmp 27)], argTypes := #[26, 3, 3, 199, 105] }, none⟩, []⟩,
  ⟨⟨some 22, Op.move (Operand.tmp 28), none⟩, []⟩,
  ⟨⟨some 29, Op.extract (Operand.tmp 22) 0, none⟩, []⟩,
  ⟨⟨some 30, Op.extract (Operand.tmp 22) 1, none⟩, []⟩,
  ⟨⟨some 2, Op.assign (Operand.tmp 29), none⟩, []⟩,
  ⟨⟨some 3, Op.assign (Operand.tmp 30), none⟩, []⟩]) (.seq (.reg [⟨⟨some 32, Op.move (Operand.tmp 0), none⟩, []⟩,
  ⟨⟨some 33, Op.move (Operand.tmp 1), none⟩, []⟩,
  ⟨⟨some 34, Op.move (Operand.tmp 2), none⟩, []⟩,
  ⟨⟨some 35, Op.move (Operand.tmp 4), none⟩, []⟩,
  ⟨⟨some 36, Op.move (Operand.tmp 5), none⟩, []⟩,
  ⟨⟨some 37, Op.call { callee := (Callee.value (Operand.func 273)), args := #[(Operand.tmp 32), (Operand.tmp 33), (Operand.tmp 34), (Operand.tmp 35), (Operand.tmp 36)], argTypes := #[26, 3, 3, 199, 105] }, none⟩, []⟩,
  ⟨⟨some 31, Op.move (Operand.tmp 37), none⟩, []⟩,
  ⟨⟨some 38, Op.extract (Operand.tmp 31) 0, none⟩, []⟩,
  ⟨⟨some 39, Op.extract (Operand.tmp 31) 1, none⟩, []⟩,
  ⟨⟨some 1, Op.assign (Operand.tmp 38), none⟩, []⟩,
  ⟨⟨some 2, Op.assign (Operand.tmp 39), none⟩, []⟩]) (.seq (.reg [⟨⟨some 40, Op.move (Operand.tmp 2), none⟩, []⟩,
  ⟨⟨some 12, Op.assign (Operand.tmp 40), none⟩, []⟩]) .ret)))))
theorem sl269 : slim Try.f269.ntmps ords269 (Try.f269.body.getD .skip) = some cd269 := by kernel_rfl
theorem in269 {args : List Value} {H : AH} {R : Value → AH → Prop} (hl : args.length = 6) (h : ∀ (Q : Exit → Sl → AH → Prop), (∀ e s H, endA Try.prog [ResultVar.tmp 12] R e s H → Q e s H) → wpC Try.prog cd269 Q (enterA args) H) : ACalls Try.prog 269 args H R :=
  ACalls.intro (by kernel_rfl) Try.func269 rfl (by kernel_rfl) sl269 hl (of_decide_eq_true (by kernel_rfl)) (by kernel_rfl) h
def ords268 : List (Nat × List (Nat × Bool)) := []
def cd268 : Cd := (.seq (.reg [⟨⟨some 8, Op.assign (Operand.const (Value.int IntKind.i64 0)), none⟩, []⟩]) (.seq (.reg [⟨⟨some 9, Op.move (Operand.tmp 0), none⟩, []⟩,
  ⟨⟨some 10, Op.move (Operand.tmp 1), none⟩, []⟩,
  ⟨⟨some 11, Op.binOp BinOp.sub 3 (Operand.tmp 10) (Operand.const (Value.int IntKind.i64 1)) 3, none⟩, []⟩,
  ⟨⟨some 12, Op.move (Operand.tmp 1), none⟩, []⟩,
  ⟨⟨some 13, Op.move (Operand.tmp 1), none⟩, []⟩,
  ⟨⟨some 14, Op.binOp BinOp.add 3 (Operand.tmp 13) (Operand.const (Value.int IntKind.i64 1)) 3, none⟩, []⟩,
  ⟨⟨some 15, Op.move (Operand.tmp 2), none⟩, []⟩,
  ⟨⟨some 16, Op.move (Operand.tmp 3), none⟩, []⟩,
  ⟨⟨some 17, Op.call { callee := (Callee.value (Operand.func 269)), args := #[(Operand.tmp 9), (Operand.tmp 11), (Operand.tmp 12), (Operand.tmp 14), (Operand.tmp 15), (Operand.tmp 16)], argTypes := #[26, 3, 3, 3, 199, 105] }, none⟩, []⟩,
  ⟨⟨some 8, Op.assign (Operand.tmp 17), none⟩, []⟩]) .ret))
theorem sl268 : slim Try.f268.ntmps ords268 (Try.f268.body.getD .skip) = some cd268 := by kernel_rfl
theorem in268 {args : List Value} {H : AH} {R : Value → AH → Prop} (hl : args.length = 4) (h : ∀ (Q : Exit → Sl → AH → Prop), (∀ e s H, endA Try.prog [ResultVar.tmp 8] R e s H → Q e s H) → wpC Try.prog cd268 Q (enterA args) H) : ACalls Try.prog 268 args H R :=
  ACalls.intro (by kernel_rfl) Try.func268 rfl (by kernel_rfl) sl268 hl (of_decide_eq_true (by kernel_rfl)) (by kernel_rfl) h
def ords253 : List (Nat × List (Nat × Bool)) := [(5, [(0, false), (1, false), (2, false), (3, false), (4, false), (5, false), (6, false), (7, false), (8, false), (9, false), (10, false), (11, false), (12, false), (13, false), (14, true), (15, false), (16, false), (17, false)]), (11, [(0, false), (1, false), (2, false), (3, false), (4, false), (5, false), (6, false), (7, false), (8, false), (9, false), (10, false), (11, false), (12, false), (13, false), (14, false), (15, true), (16, false), (17, true)]), (16, [(0, false), (1, false), (2, false), (3, false), (4, false), (5, false), (6, false), (7, false), (8, false), (9, false), (10, true), (11, false), (12, false)]), (17, [(0, false), (1, false), (2, false), (3, false), (4, false), (5, false), (6, false), (7, false), (8, false), (9, false), (10, false), (11, false), (12, false), (13, false), (14, false), (15, true), (16, false), (17, true)]), (22, [(0, false), (1, false), (2, false), (3, false), (4, false), (5, false), (6, false), (7, false), (8, false), (9, false), (10, true), (11, false), (12, false)]), (23, [(0, false), (1, false), (2, false), (3, false), (4, false), (5, false), (6, false), (7, false), (8, false), (9, false), (10, false), (11, false), (12, false), (13, false), (14, false), (15, true), (16, false), (17, true)])]
def cd253 : Cd := (.seq (.reg [⟨⟨some 8, Op.assign (Operand.const (Value.bool false)), none⟩, []⟩]) (.seq (.reg [⟨⟨some 13, Op.move (Operand.tmp 1), none⟩, []⟩,
  ⟨⟨some 14, Op.binOp BinOp.add 3 (Operand.tmp 13) (Operand.const (Value.int IntKind.i64 1)) 3, none⟩, []⟩,
  ⟨⟨some 9, Op.assign (Operand.tmp 14), none⟩, []⟩]) (.seq (.seq (.reg [⟨⟨some 10, Op.assign (Operand.const (Value.int IntKind.i64 0)), none⟩, []⟩]) (.block 0 (.loop (.seq (.seq (.reg [⟨⟨some 15, Op.move (Operand.tmp 10), none⟩, []⟩,
  ⟨⟨some 16, Op.binOp BinOp.lss 3 (Operand.tmp 15) (Operand.const (Value.int IntKind.i64 5)) 3, none⟩, []⟩]) (.cond (Operand.tmp 16) .skip (.exit 0))) (.seq (.block 1 (.seq (.block 2 (.loop (.seq (.seq (.reg [⟨⟨some 19, Op.move (Operand.tmp 9), none⟩, []⟩,
  ⟨⟨some 20, Op.move (Operand.tmp 2), none⟩, []⟩,
  ⟨⟨some 21, Op.binOp BinOp.lss 3 (Operand.tmp 19) (Operand.tmp 20) 3, none⟩, []⟩,
  ⟨⟨some 22, Op.move (Operand.tmp 21), none⟩, []⟩,
  ⟨⟨some 23, Op.move (Operand.tmp 3), some (22, true)⟩, []⟩,
  ⟨⟨some 24, Op.move (Operand.tmp 0), some (22, true)⟩, []⟩,
  ⟨⟨some 25, Op.move (Operand.tmp 9), some (22, true)⟩, []⟩,
  ⟨⟨some 26, Op.indexAddr 26 (Operand.tmp 24) (Operand.tmp 25), some (22, true)⟩, []⟩,
  ⟨⟨some 27, Op.load 38 (Operand.tmp 26), some (22, true)⟩, []⟩,
  ⟨⟨some 28, Op.move (Operand.tmp 0), some (22, true)⟩, []⟩,
  ⟨⟨some 29, Op.move (Operand.tmp 9), some (22, true)⟩, []⟩,
  ⟨⟨some 30, Op.binOp BinOp.sub 3 (Operand.tmp 29) (Operand.const (Value.int IntKind.i64 1)) 3, some (22, true)⟩, []⟩,
  ⟨⟨some 31, Op.indexAddr 26 (Operand.tmp 28) (Operand.tmp 30), some (22, true)⟩, []⟩,
  ⟨⟨some 32, Op.load 38 (Operand.tmp 31), some (22, true)⟩, []⟩,
  ⟨⟨some 33, Op.call { callee := (Callee.value (Operand.tmp 23)), args := #[(Operand.tmp 27), (Operand.tmp 32)], argTypes := #[38, 38] }, some (22, true)⟩, []⟩,
  ⟨⟨some 34, Op.binOp BinOp.lss 3 (Operand.tmp 33) (Operand.const (Value.int IntKind.i64 0)) 3, some (22, true)⟩, []⟩,
  ⟨⟨some 35, Op.unOp UnOp.not 4 (Operand.tmp 34), some (22, true)⟩, []⟩,
  ⟨⟨some 36, Op.pick (Operand.tmp 22) (Operand.tmp 35) (Operand.const (Value.bool false)), none⟩, []⟩]) (.cond (Operand.tmp 36) .skip (.exit 2))) (.block 3 (.reg [⟨⟨some 37, Op.move (Operand.tmp 9), none⟩, []⟩,
  ⟨⟨some 38, Op.binOp BinOp.add 3 (Operand.tmp 37) (Operand.const (Value.int IntKind.i64 1)) 3, none⟩, []⟩,
  ⟨⟨some 9, Op.assign (Operand.tmp 38), none⟩, []⟩]))))) (.seq (.seq (.reg [⟨⟨some 39, Op.move (Operand.tmp 9), none⟩, []⟩,
  ⟨⟨some 40, Op.move (Operand.tmp 2), none⟩, []⟩,
  ⟨⟨some 41, Op.binOp BinOp.eql 3 (Operand.tmp 39) (Operand.tmp 40) 3, none⟩, []⟩]) (.cond (Operand.tmp 41) (.seq (.reg [⟨⟨some 8, Op.assign (Operand.const (Value.bool true)), none⟩, []⟩]) .ret) .skip)) (.seq (.seq (.reg [⟨⟨some 42, Op.move (Operand.tmp 2), none⟩, []⟩,
  ⟨⟨some 43, Op.move (Operand.tmp 1), none⟩, []⟩,
  ⟨⟨some 44, Op.binOp BinOp.sub 3 (Operand.tmp 42) (Operand.tmp 43) 3, none⟩, []⟩,
  ⟨⟨some 45, Op.binOp BinOp.lss 3 (Operand.tmp 44) (Operand.const (Value.int IntKind.i64 50)) 3, none⟩, []⟩]) (.cond (Operand.tmp 45) (.seq (.reg [⟨⟨some 8, Op.assign (Operand.const (Value.bool false)), none⟩, []⟩]) .ret) .skip)) (.seq (.reg [⟨⟨some 46, Op.move (Operand.tmp 0), none⟩, []⟩,
  ⟨⟨some 47, Op.move (Operand.tmp 9), none⟩, []⟩,
  ⟨⟨some 48, Op.move (Operand.tmp 0), none⟩, []⟩,
  ⟨⟨some 49, Op.move (Operand.tmp 9), none⟩, []⟩,
  ⟨⟨some 50, Op.binOp BinOp.sub 3 (Operand.tmp 49) (Operand.const (Value.int IntKind.i64 1)) 3, none⟩, []⟩,
  ⟨⟨some 51, Op.move (Operand.tmp 0), none⟩, []⟩,
  ⟨⟨some 52, Op.move (Operand.tmp 9), none⟩, []⟩,
  ⟨⟨some 53, Op.binOp BinOp.sub 3 (Operand.tmp 52) (Operand.const (Value.int IntKind.i64 1)) 3, none⟩, []⟩,
  ⟨⟨some 54, Op.indexAddr 26 (Operand.tmp 51) (Operand.tmp 53), none⟩, []⟩,
  ⟨⟨some 55, Op.load 38 (Operand.tmp 54), none⟩, []⟩,
  ⟨⟨some 56, Op.move (Operand.tmp 0), none⟩, []⟩,
  ⟨⟨some 57, Op.move (Operand.tmp 9), none⟩, []⟩,
  ⟨⟨some 58, Op.indexAddr 26 (Operand.tmp 56) (Operand.tmp 57), none⟩, []⟩,
  ⟨⟨some 59, Op.load 38 (Operand.tmp 58), none⟩, []⟩,
  ⟨⟨some 60, Op.indexAddr 26 (Operand.tmp 46) (Operand.tmp 47), none⟩, []⟩,
  ⟨⟨none, Op.store 38 (Operand.tmp 60) (Operand.tmp 55), none⟩, []⟩,
  ⟨⟨some 61, Op.indexAddr 26 (Operand.tmp 48) (Operand.tmp 50), none⟩, []⟩,
  ⟨⟨none, Op.store 38 (Operand.tmp 61) (Operand.tmp 59), none⟩, []⟩]) (.seq (.seq (.reg [⟨⟨some 62, Op.move (Operand.tmp 9), none⟩, []⟩,
  ⟨⟨some 63, Op.move (Operand.tmp 1), none⟩, []⟩,
  ⟨⟨some 64, Op.binOp BinOp.sub 3 (Operand.tmp 62) (Operand.tmp 63) 3, none⟩, []⟩,
  ⟨⟨some 65, Op.binOp BinOp.geq 3 (Operand.tmp 64) (Operand.const (Value.int IntKind.i64 2)) 3, none⟩, []⟩]) (.cond (Operand.tmp 65) (.seq (.reg [⟨⟨some 66, Op.move (Operand.tmp 9), none⟩, []⟩,
  ⟨⟨some 67, Op.binOp BinOp.sub 3 (Operand.tmp 66) (Operand.const (Value.int IntKind.i64 1)) 3, none⟩, []⟩,
  ⟨⟨some 11, Op.assign (Operand.tmp 67), none⟩, []⟩]) (.block 4 (.loop (.seq (.seq (.reg [⟨⟨some 68, Op.move (Operand.tmp 11), none⟩, []⟩,
  ⟨⟨some 69, Op.binOp BinOp.geq 3 (Operand.tmp 68) (Operand.const (Value.int IntKind.i64 1)) 3, none⟩, []⟩]) (.cond (Operand.tmp 69) .skip (.exit 4))) (.seq (.block 5 (.seq (.seq (.reg [⟨⟨some 72, Op.move (Operand.tmp 3), none⟩, []⟩,
  ⟨⟨some 73, Op.move (Operand.tmp 0), none⟩, []⟩,
  ⟨⟨some 74, Op.move (Operand.tmp 11), none⟩, []⟩,
  ⟨⟨some 75, Op.indexAddr 26 (Operand.tmp 73) (Operand.tmp 74), none⟩, []⟩,
  ⟨⟨some 76, Op.load 38 (Operand.tmp 75), none⟩, []⟩,
  ⟨⟨some 77, Op.move (Operand.tmp 0), none⟩, []⟩,
  ⟨⟨some 78, Op.move (Operand.tmp 11), none⟩, []⟩,
  ⟨⟨some 79, Op.binOp BinOp.sub 3 (Operand.tmp 78) (Operand.const (Value.int IntKind.i64 1)) 3, none⟩, []⟩,
  ⟨⟨some 80, Op.indexAddr 26 (Operand.tmp 77) (Operand.tmp 79), none⟩, []⟩,
  ⟨⟨some 81, Op.load 38 (Operand.tmp 80), none⟩, []⟩,
  ⟨⟨some 82, Op.call { callee := (Callee.value (Operand.tmp 72)), args := #[(Operand.tmp 76), (Operand.tmp 81)], argTypes := #[38, 38] }, none⟩, []⟩,
  ⟨⟨some 83, Op.binOp BinOp.lss 3 (Operand.tmp 82) (Operand.const (Value.int IntKind.i64 0)) 3, none⟩, []⟩,
  ⟨⟨some 84, Op.unOp UnOp.not 4 (Operand.tmp 83), none⟩, []⟩]) (.cond (Operand.tmp 84) (.exit 4) .skip)) (.reg [⟨⟨some 85, Op.move (Operand.tmp 0), none⟩, []⟩,
  ⟨⟨some 86, Op.move (Operand.tmp 11), none⟩, []⟩,
  ⟨⟨some 87, Op.move (Operand.tmp 0), none⟩, []⟩,
  ⟨⟨some 88, Op.move (Operand.tmp 11), none⟩, []⟩,
  ⟨⟨some 89, Op.binOp BinOp.sub 3 (Operand.tmp 88) (Operand.const (Value.int IntKind.i64 1)) 3, none⟩, []⟩,
  ⟨⟨some 90, Op.move (Operand.tmp 0), none⟩, []⟩,
  ⟨⟨some 91, Op.move (Operand.tmp 11), none⟩, []⟩,
  ⟨⟨some 92, Op.binOp BinOp.sub 3 (Operand.tmp 91) (Operand.const (Value.int IntKind.i64 1)) 3, none⟩, []⟩,
  ⟨⟨some 93, Op.indexAddr 26 (Operand.tmp 90) (Operand.tmp 92), none⟩, []⟩,
  ⟨⟨some 94, Op.load 38 (Operand.tmp 93), none⟩, []⟩,
  ⟨⟨some 95, Op.move (Operand.tmp 0), none⟩, []⟩,
  ⟨⟨some 96, Op.move (Operand.tmp 11), none⟩, []⟩,
  ⟨⟨some 97, Op.indexAddr 26 (Operand.tmp 95) (Operand.tmp 96), none⟩, []⟩,
  ⟨⟨some 98, Op.load 38 (Operand.tmp 97), none⟩, []⟩,
  ⟨⟨some 99, Op.indexAddr 26 (Operand.tmp 85) (Operand.tmp 86), none⟩, []⟩,
  ⟨⟨none, Op.store 38 (Operand.tmp 99) (Operand.tmp 94), none⟩, []⟩,
  ⟨⟨some 100, Op.indexAddr 26 (Operand.tmp 87) (Operand.tmp 89), none⟩, []⟩,
  ⟨⟨none, Op.store 38 (Operand.tmp 100) (Operand.tmp 98), none⟩, []⟩]))) (.reg [⟨⟨some 70, Op.move (Operand.tmp 11), none⟩, []⟩,
  ⟨⟨some 71, Op.binOp BinOp.sub 3 (Operand.tmp 70) (Operand.const (Value.int IntKind.i64 1)) 3, none⟩, []⟩,
  ⟨⟨some 11, Op.assign (Operand.tmp 71), none⟩, []⟩])))))) .skip)) (.seq (.reg [⟨⟨some 101, Op.move (Operand.tmp 2), none⟩, []⟩,
  ⟨⟨some 102, Op.move (Operand.tmp 9), none⟩, []⟩,
  ⟨⟨some 103, Op.binOp BinOp.sub 3 (Operand.tmp 101) (Operand.tmp 102) 3, none⟩, []⟩,
  ⟨⟨some 104, Op.binOp BinOp.geq 3 (Operand.tmp 103) (Operand.const (Value.int IntKind.i64 2)) 3, none⟩, []⟩]) (.cond (Operand.tmp 104) (.seq (.reg [⟨⟨some 105, Op.move (Operand.tmp 9), none⟩, []⟩,
  ⟨⟨some 106, Op.binOp BinOp.add 3 (Operand.tmp 105) (Operand.const (Value.int IntKind.i64 1)) 3, none⟩, []⟩,
  ⟨⟨some 12, Op.assign (Operand.tmp 106), none⟩, []⟩]) (.block 6 (.loop (.seq (.seq (.reg [⟨⟨some 107, Op.move (Operand.tmp 12), none⟩, []⟩,
  ⟨⟨some 108, Op.move (Operand.tmp 2), none⟩, []⟩,
  ⟨⟨some 109, Op.binOp BinOp.lss 3 (Operand.tmp 107) (Operand.tmp 108) 3, none⟩, []⟩]) (.cond (Operand.tmp 109) .skip (.exit 6))) (.seq (.block 7 (.seq (.seq (.reg [⟨⟨some 112, Op.move (Operand.tmp 3), none⟩, []⟩,
  ⟨⟨some 113, Op.move (Operand.tmp 0), none⟩, []⟩,
  ⟨⟨some 114, Op.move (Operand.tmp 12), none⟩, []⟩,
  ⟨⟨some 115, Op.indexAddr 26 (Operand.tmp 113) (Operand.tmp 114), none⟩, []⟩,
  ⟨⟨some 116, Op.load 38 (Operand.tmp 115), none⟩, []⟩,
  ⟨⟨some 117, Op.move (Operand.tmp 0), none⟩, []⟩,
  ⟨⟨some 118, Op.move (Operand.tmp 12), none⟩, []⟩,
  ⟨⟨some 119, Op.binOp BinOp.sub 3 (Operand.tmp 118) (Operand.const (Value.int IntKind.i64 1)) 3, none⟩, []⟩,
  ⟨⟨some 120, Op.indexAddr 26 (Operand.tmp 117) (Operand.tmp 119), none⟩, []⟩,
  ⟨⟨some 121, Op.load 38 (Operand.tmp 120), none⟩, []⟩,
  ⟨⟨some 122, Op.call { callee := (Callee.value (Operand.tmp 112)), args := #[(Operand.tmp 116), (Operand.tmp 121)], argTypes := #[38, 38] }, none⟩, []⟩,
  ⟨⟨some 123, Op.binOp BinOp.lss 3 (Operand.tmp 122) (Operand.const (Value.int IntKind.i64 0)) 3, none⟩, []⟩,
  ⟨⟨some 124, Op.unOp UnOp.not 4 (Operand.tmp 123), none⟩, []⟩]) (.cond (Operand.tmp 124) (.exit 6) .skip)) (.reg [⟨⟨some 125, Op.move (Operand.tmp 0), none⟩, []⟩,
  ⟨⟨some 126, Op.move (Operand.tmp 12), none⟩, []⟩,
  ⟨⟨some 127, Op.move (Operand.tmp 0), none⟩, []⟩,
  ⟨⟨some 128, Op.move (Operand.tmp 12), none⟩, []⟩,
  ⟨⟨some 129, Op.binOp BinOp.sub 3 (Operand.tmp 128) (Operand.const (Value.int IntKind.i64 1)) 3, none⟩, []⟩,
  ⟨⟨some 130, Op.move (Operand.tmp 0), none⟩, []⟩,
  ⟨⟨some 131, Op.move (Operand.tmp 12), none⟩, []⟩,
  ⟨⟨some 132, Op.binOp BinOp.sub 3 (Operand.tmp 131) (Operand.const (Value.int IntKind.i64 1)) 3, none⟩, []⟩,
  ⟨⟨some 133, Op.indexAddr 26 (Operand.tmp 130) (Operand.tmp 132), none⟩, []⟩,
  ⟨⟨some 134, Op.load 38 (Operand.tmp 133), none⟩, []⟩,
  ⟨⟨some 135, Op.move (Operand.tmp 0), none⟩, []⟩,
  ⟨⟨some 136, Op.move (Operand.tmp 12), none⟩, []⟩,
  ⟨⟨some 137, Op.indexAddr 26 (Operand.tmp 135) (Operand.tmp 136), none⟩, []⟩,
  ⟨⟨some 138, Op.load 38 (Operand.tmp 137), none⟩, []⟩,
  ⟨⟨some 139, Op.indexAddr 26 (Operand.tmp 125) (Operand.tmp 126), none⟩, []⟩,
  ⟨⟨none, Op.store 38 (Operand.tmp 139) (Operand.tmp 134), none⟩, []⟩,
  ⟨⟨some 140, Op.indexAddr 26 (Operand.tmp 127) (Operand.tmp 129), none⟩, []⟩,
  ⟨⟨none, Op.store 38 (Operand.tmp 140) (Operand.tmp 138), none⟩, []⟩]))) (.reg [⟨⟨some 110, Op.move (Operand.tmp 12), none⟩, []⟩,
  ⟨⟨some 111, Op.binOp BinOp.add 3 (Operand.tmp 110) (Operand.const (Value.int IntKind.i64 1)) 3, none⟩, []⟩,
  ⟨⟨some 12, Op.assign (Operand.tmp 111), none⟩, []⟩])))))) .skip)))))))) (.reg [⟨⟨some 17, Op.move (Operand.tmp 10), none⟩, []⟩,
  ⟨⟨some 18, Op.binOp BinOp.add 3 (Operand.tmp 17) (Operand.const (Value.int IntKind.i64 1)) 3, none⟩, []⟩,
  ⟨⟨some 10, Op.assign (Operand.tmp 18), none⟩, []⟩])))))) (.seq (.reg [⟨⟨some 8, Op.assign (Operand.const (Value.bool false)), none⟩, []⟩]) .ret))))
theorem sl253 : slim Try.f253.ntmps ords253 (Try.f253.body.getD .skip) = some cd253 := by kernel_rfl
theorem in253 {args : List Value} {H : AH} {R : Value → AH → Prop} (hl : args.length = 4) (h : ∀ (Q : Exit → Sl → AH → Prop), (∀ e s H, endA Try.prog [ResultVar.tmp 8] R e s H → Q e s H) → wpC Try.prog cd253 Q (enterA args) H) : ACalls Try.prog 253 args H R :=
  ACalls.intro (by kernel_rfl) Try.func253 rfl (by kernel_rfl) sl253 hl (of_decide_eq_true (by kernel_rfl)) (by kernel_rfl) h
def ords248 : List (Nat × List (Nat × Bool)) := [(4, [(0, false), (1, false), (2, false), (3, false), (4, false), (5, false), (6, false), (7, false), (8, false), (9, false), (10, false), (11, false), (12, false), (13, false), (14, true), (15, false), (16, false)]), (6, [(0, false), (1, false), (2, false), (3, false), (4, false), (5, false), (6, false), (7, false), (8, false), (9, false), (10, false), (11, false), (12, false), (13, false), (14, false), (15, true), (16, false), (17, true)])]
def cd248 : Cd := (.seq (.reg [⟨⟨some 10, Op.move (Operand.tmp 1), none⟩, []⟩,
  ⟨⟨some 11, Op.binOp BinOp.add 3 (Operand.tmp 10) (Operand.const (Value.int IntKind.i64 1)) 3, none⟩, []⟩,
  ⟨⟨some 8, Op.assign (Operand.tmp 11), none⟩, []⟩]) (.block 0 (.loop (.seq (.seq (.reg [⟨⟨some 12, Op.move (Operand.tmp 8), none⟩, []⟩,
  ⟨⟨some 13, Op.move (Operand.tmp 2), none⟩, []⟩,
  ⟨⟨some 14, Op.binOp BinOp.lss 3 (Operand.tmp 12) (Operand.tmp 13) 3, none⟩, []⟩]) (.cond (Operand.tmp 14) .skip (.exit 0))) (.seq (.block 1 (.seq (.reg [⟨⟨some 17, Op.move (Operand.tmp 8), none⟩, []⟩,
  ⟨⟨some 9, Op.assign (Operand.tmp 17), none⟩, []⟩]) (.block 2 (.loop (.seq (.seq (.reg [⟨⟨some 18, Op.move (Operand.tmp 9), none⟩, []⟩,
  ⟨⟨some 19, Op.move (Operand.tmp 1), none⟩, []⟩,
  ⟨⟨some 20, Op.binOp BinOp.gtr 3 (Operand.tmp 18) (Operand.tmp 19) 3, none⟩, []⟩,
  ⟨⟨some 21, Op.move (Operand.tmp 20), none⟩, []⟩,
  ⟨⟨some 22, Op.move (Operand.tmp 3), some (21, true)⟩, []⟩,
  ⟨⟨some 23, Op.move (Operand.tmp 0), some (21, true)⟩, []⟩,
  ⟨⟨some 24, Op.move (Operand.tmp 9), some (21, true)⟩, []⟩,
  ⟨⟨some 25, Op.indexAddr 26 (Operand.tmp 23) (Operand.tmp 24), some (21, true)⟩, []⟩,
  ⟨⟨some 26, Op.load 38 (Operand.tmp 25), some (21, true)⟩, []⟩,
  ⟨⟨some 27, Op.move (Operand.tmp 0), some (21, true)⟩, []⟩,
  ⟨⟨some 28, Op.move (Operand.tmp 9), some (21, true)⟩, []⟩,
  ⟨⟨some 29, Op.binOp BinOp.sub 3 (Operand.tmp 28) (Operand.const (Value.int IntKind.i64 1)) 3, some (21, true)⟩, []⟩,
  ⟨⟨some 30, Op.indexAddr 26 (Operand.tmp 27) (Operand.tmp 29), some (21, true)⟩, []⟩,
  ⟨⟨some 31, Op.load 38 (Operand.tmp 30), some (21, true)⟩, []⟩,
  ⟨⟨some 32, Op.call { callee := (Callee.value (Operand.tmp 22)), args := #[(Operand.tmp 26), (Operand.tmp 31)], argTypes := #[38, 38] }, some (21, true)⟩, []⟩,
  ⟨⟨some 33, Op.binOp BinOp.lss 3 (Operand.tmp 32) (Operand.const (Value.int IntKind.i64 0)) 3, some (21, true)⟩, []⟩,
  ⟨⟨some 34, Op.pick (Operand.tmp 21) (Operand.tmp 33) (Operand.const (Value.bool false)), none⟩, []⟩]) (.cond (Operand.tmp 34) .skip (.exit 2))) (.seq (.block 3 (.reg [⟨⟨some 37, Op.move (Operand.tmp 0), none⟩, []⟩,
  ⟨⟨some 38, Op.move (Operand.tmp 9), none⟩, []⟩,
  ⟨⟨some 39, Op.move (Operand.tmp 0), none⟩, []⟩,
  ⟨⟨some 40, Op.move (Operand.tmp 9), none⟩, []⟩,
  ⟨⟨some 41, Op.binOp BinOp.sub 3 (Operand.tmp 40) (Operand.const (Value.int IntKind.i64 1)) 3, none⟩, []⟩,
  ⟨⟨some 42, Op.move (Operand.tmp 0), none⟩, []⟩,
  ⟨⟨some 43, Op.move (Operand.tmp 9), none⟩, []⟩,
  ⟨⟨some 44, Op.binOp BinOp.sub 3 (Operand.tmp 43) (Operand.const (Value.int IntKind.i64 1)) 3, none⟩, []⟩,
  ⟨⟨some 45, Op.indexAddr 26 (Operand.tmp 42) (Operand.tmp 44), none⟩, []⟩,
  ⟨⟨some 46, Op.load 38 (Operand.tmp 45), none⟩, []⟩,
  ⟨⟨some 47, Op.move (Operand.tmp 0), none⟩, []⟩,
  ⟨⟨some 48, Op.move (Operand.tmp 9), none⟩, []⟩,
  ⟨⟨some 49, Op.indexAddr 26 (Operand.tmp 47) (Operand.tmp 48), none⟩, []⟩,
  ⟨⟨some 50, Op.load 38 (Operand.tmp 49), none⟩, []⟩,
  ⟨⟨some 51, Op.indexAddr 26 (Operand.tmp 37) (Operand.tmp 38), none⟩, []⟩,
  ⟨⟨none, Op.store 38 (Operand.tmp 51) (Operand.tmp 46), none⟩, []⟩,
  ⟨⟨some 52, Op.indexAddr 26 (Operand.tmp 39) (Operand.tmp 41), none⟩, []⟩,
  ⟨⟨none, Op.store 38 (Operand.tmp 52) (Operand.tmp 50), none⟩, []⟩])) (.reg [⟨⟨some 35, Op.move (Operand.tmp 9), none⟩, []⟩,
  ⟨⟨some 36, Op.binOp BinOp.sub 3 (Operand.tmp 35) (Operand.const (Value.int IntKind.i64 1)) 3, none⟩, []⟩,
  ⟨⟨some 9, Op.assign (Operand.tmp 36), none⟩, []⟩]))))))) (.reg [⟨⟨some 15, Op.move (Operand.tmp 8), none⟩, []⟩,
  ⟨⟨some 16, Op.binOp BinOp.add 3 (Operand.tmp 15) (Operand.const (Value.int IntKind.i64 1)) 3, none⟩, []⟩,
  ⟨⟨some 8, Op.assign (Operand.tmp 16), none⟩, []⟩]))))))
theorem sl248 : slim Try.f248.ntmps ords248 (Try.f248.body.getD .skip) = some cd248 := by kernel_rfl
theorem in248 {args : List Value} {H : AH} {R : Value → AH → Prop} (hl : args.length = 4) (h : ∀ (Q : Exit → Sl → AH → Prop), (∀ e s H, endA Try.prog [] R e s H → Q e s H) → wpC Try.prog cd248 Q (enterA args) H) : ACalls Try.prog 248 args H R :=
  ACalls.intro (by kernel_rfl) Try.func248 rfl (by kernel_rfl) sl248 hl (of_decide_eq_true (by kernel_rfl)) (by kernel_rfl) h
def ords251 : List (Nat × List (Nat × Bool)) := []
def cd251 : Cd := (.seq (.reg [⟨⟨some 8, Op.assign (Operand.const (Value.int IntKind.i64 0)), none⟩, []⟩,
  ⟨⟨some 9, Op.assign (Operand.const (Value.int IntKind.i64 0)), none⟩, []⟩]) (.seq (.reg [⟨⟨some 15, Op.move (Operand.tmp 2), none⟩, []⟩,
  ⟨⟨some 16, Op.move (Operand.tmp 1), none⟩, []⟩,
  ⟨⟨some 17, Op.binOp BinOp.sub 3 (Operand.tmp 15) (Operand.tmp 16) 3, none⟩, []⟩,
  ⟨⟨some 10, Op.assign (Operand.tmp 17), none⟩, []⟩]) (.seq (.reg [⟨⟨some 11, Op.alloc 3, none⟩, []⟩]) (.seq (.reg [⟨⟨some 18, Op.move (Operand.tmp 1), none⟩, []⟩,
  ⟨⟨some 19, Op.move (Operand.tmp 10), none⟩, []⟩,
  ⟨⟨some 20, Op.binOp BinOp.quo 3 (Operand.tmp 19) (Operand.const (Value.int IntKind.i64 4)) 3, none⟩, []⟩,
  ⟨⟨some 21, Op.binOp BinOp.mul 3 (Operand.tmp 20) (Operand.const (Value.int IntKind.i64 1)) 3, none⟩, []⟩,
  ⟨⟨some 22, Op.binOp BinOp.add 3 (Operand.tmp 18) (Operand.tmp 21) 3, none⟩, []⟩,
  ⟨⟨some 12, Op.assign (Operand.tmp 22), none⟩, []⟩]) (.seq (.reg [⟨⟨some 23, Op.move (Operand.tmp 1), none⟩, []⟩,
  ⟨⟨some 24, Op.move (Operand.tmp 10), none⟩, []⟩,
  ⟨⟨some 25, Op.binOp BinOp.quo 3 (Operand.tmp 24) (Operand.const (Value.int IntKind.i64 4)) 3, none⟩, []⟩,
  ⟨⟨some 26, Op.binOp BinOp.mul 3 (Operand.tmp 25) (Operand.const (Value.int IntKind.i64 2)) 3, none⟩, []⟩,
  ⟨⟨some 27, Op.binOp BinOp.add 3 (Operand.tmp 23) (Operand.tmp 26) 3, none⟩, []⟩,
  ⟨⟨some 13, Op.assign (Operand.tmp 27), none⟩, []⟩]) (.seq (.reg [⟨⟨some 28, Op.move (Operand.tmp 1), none⟩, []⟩,
  ⟨⟨some 29, Op.move (Operand.tmp 10), none⟩, []⟩,
  ⟨⟨some 30, Op.binOp BinOp.quo 3 (Operand.tmp 29) (Operand.const (Value.int IntKind.i64 4)) 3, none⟩, []⟩,
  ⟨⟨some 31, Op.binOp BinOp.mul 3 (Operand.tmp 30) (Operand.const (Value.int IntKind.i64 3)) 3, none⟩, []⟩,
  ⟨⟨some 32, Op.binOp BinOp.add 3 (Operand.tmp 28) (Operand.tmp 31) 3, none⟩, []⟩,
  ⟨⟨some 14, Op.assign (Operand.tmp 32), none⟩, []⟩]) (.seq (.seq (.reg [⟨⟨some 33, Op.move (Operand.tmp 10), none⟩, []⟩,
  ⟨⟨some 34, Op.binOp BinOp.geq 3 (Operand.tmp 33) (Operand.const (Value.int IntKind.i64 8)) 3, none⟩, []⟩]) (.cond (Operand.tmp 34) (.seq (.seq (.reg [⟨⟨some 35, Op.move (Operand.tmp 10), none⟩, []⟩,
  ⟨⟨some 36, Op.binOp BinOp.geq 3 (Operand.tmp 35) (Operand.const (Value.int IntKind.i64 50)) 3, none⟩, []⟩]) (.cond (Operand.tmp 36) (.seq (.reg [⟨⟨some 37, Op.move (Operand.tmp 0), none⟩, []⟩,
  ⟨⟨some 38, Op.move (Operand.tmp 12), none⟩, []⟩,
  ⟨⟨some 39, Op.move (Operand.tmp 3), none⟩, []⟩,
  ⟨⟨some 40, Op.call { callee := (Callee.value (Operand.func 268)), args := #[(Operand.tmp 37), (Operand.tmp 38), (Operand.tmp 11), (Operand.tmp 39)], argTypes := #[26, 3, 199, 105] }, none⟩, []⟩,
  ⟨⟨some 12, Op.assign (Operand.tmp 40), none⟩, []⟩]) (.seq (.reg [⟨⟨some 41, Op.move (Operand.tmp 0), none⟩, []⟩,
  ⟨⟨some 42, Op.move (Operand.tmp 13), none⟩, []⟩,
  ⟨⟨some 43, Op.move (Operand.tmp 3), none⟩, []⟩,
  ⟨⟨some 44, Op.call { callee := (Callee.value (Operand.func 268)), args := #[(Operand.tmp 41), (Operand.tmp 42), (Operand.tmp 11), (Operand.tmp 43)], argTypes := #[26, 3, 199, 105] }, none⟩, []⟩,
  ⟨⟨some 13, Op.assign (Operand.tmp 44), none⟩, []⟩]) (.reg [⟨⟨some 45, Op.move (Operand.tmp 0), none⟩, []⟩,
  ⟨⟨some 46, Op.move (Operand.tmp 14), none⟩, []⟩,
  ⟨⟨some 47, Op.move (Operand.tmp 3), none⟩, []⟩,
  ⟨⟨some 48, Op.call { callee := (Callee.value (Operand.func 268)), args := #[(Operand.tmp 45), (Operand.tmp 46), (Operand.tmp 11), (Operand.tmp 47)], argTypes := #[26, 3, 199, 105] }, none⟩, []⟩,
  ⟨⟨some 14, Op.assign (Operand.tmp 48), none⟩, []⟩]))) .skip)) (.reg [⟨⟨some 49, Op.move (Operand.tmp 0), none⟩, []⟩,
  ⟨⟨some 50, Op.move (Operand.tmp 12), none⟩, []⟩,
  ⟨⟨some 51, Op.move (Operand.tmp 13), none⟩, []⟩,
  ⟨⟨some 52, Op.move (Operand.tmp 14), none⟩, []⟩,
  ⟨⟨some 53, Op.move (Operand.tmp 3), none⟩, []⟩,
  ⟨⟨some 54, Op.call { callee := (Callee.value (Operand.func 269)), args := #[(Operand.tmp 49), (Operand.tmp 50), (Operand.tmp 51), (Operand.tmp 52), (Operand.tmp 11), (Operand.tmp 53)], argTypes := #[26, 3, 3, 3, 199, 105] }, none⟩, []⟩,
  ⟨⟨some 13, Op.assign (Operand.tmp 54), none⟩, []⟩])) .skip)) (.seq (.reg [⟨⟨some 55, Op.load 3 (Operand.tmp 11), none⟩, []⟩]) (.block 0 (.seq (.reg [⟨⟨some 58, Op.binOp BinOp.eql 3 (Operand.tmp 55) (Operand.const (Value.int IntKind.i64 0)) 3, none⟩, []⟩,
  ⟨⟨some 57, Op.assign (Operand.tmp 58), none⟩, []⟩]) (.cond (Operand.tmp 57) (.seq (.reg [⟨⟨some 59, Op.move (Operand.tmp 13), none⟩, []⟩,
  ⟨⟨some 8, Op.assign (Operand.tmp 59), none⟩, []⟩,
  ⟨⟨some 9, Op.assign (Operand.const (Value.int IntKind.i64 1)), none⟩, []⟩]) .ret) (.seq (.reg [⟨⟨some 61, Op.binOp BinOp.eql 3 (Operand.tmp 55) (Operand.const (Value.int IntKind.i64 12)) 3, none⟩, []⟩,
  ⟨⟨some 60, Op.assign (Operand.tmp 61), none⟩, []⟩]) (.cond (Operand.tmp 60) (.seq (.reg [⟨⟨some 62, Op.move (Operand.tmp 13), none⟩, []⟩,
  ⟨⟨some 8, Op.assign (Operand.tmp 62), none⟩, []⟩,
  ⟨⟨some 9, Op.assign (Operand.const (Value.int IntKind.i64 2)), none⟩, []⟩]) .ret) (.seq (.reg [⟨⟨some 56, Op.move (Operand.tmp 13), none⟩, []⟩,
  ⟨⟨some 8, Op.assign (Operand.tmp 56), none⟩, []⟩,
  ⟨⟨some 9, Op.assign (Operand.const (Value.int IntKind.i64 0)), none⟩, []⟩]) .ret))))))))))))))
theorem sl251 : slim Try.f251.ntmps ords251 (Try.f251.body.getD .skip) = some cd251 := by kernel_rfl
theorem in251 {args : List Value} {H : AH} {R : Value → AH → Prop} (hl : args.length = 4) (h : ∀ (Q : Exit → Sl → AH → Prop), (∀ e s H, endA Try.prog [ResultVar.tmp 8, ResultVar.tmp 9] R e s H → Q e s H) → wpC Try.prog cd251 Q (enterA args) H) : ACalls Try.prog 251 args H R :=
  ACalls.intro (by kernel_rfl) Try.func251 rfl (by kernel_rfl) sl251 hl (of_decide_eq_true (by kernel_rfl)) (by kernel_rfl) h
def ords211 : List (Nat × List (Nat × Bool)) := [(17, [(0, false), (1, false), (2, false), (3, false), (4, false), (5, false), (6, false), (7, false), (8, false), (9, false), (10, false), (11, false), (12, false), (13, true), (14, false), (15, false), (16, false)])]
def cd211 : Cd := (.seq (.reg [⟨⟨some 10, Op.assign (Operand.const (Value.bool true)), none⟩, []⟩]) (.seq (.reg [⟨⟨some 11, Op.assign (Operand.const (Value.bool true)), none⟩, []⟩]) (.block 0 (.loop (.block 1 (.seq (.reg [⟨⟨some 21, Op.move (Operand.tmp 2), none⟩, []⟩,
  ⟨⟨some 22, Op.move (Operand.tmp 1), none⟩, []⟩,
  ⟨⟨some 23, Op.binOp BinOp.sub 3 (Operand.tmp 21) (Operand.tmp 22) 3, none⟩, []⟩,
  ⟨⟨some 12, Op.assign (Operand.tmp 23), none⟩, []⟩]) (.seq (.seq (.reg [⟨⟨some 24, Op.move (Operand.tmp 12), none⟩, []⟩,
  ⟨⟨some 25, Op.binOp BinOp.leq 3 (Operand.tmp 24) (Operand.const (Value.int IntKind.i64 12)) 3, none⟩, []⟩]) (.cond (Operand.tmp 25) (.seq (.reg [⟨⟨some 26, Op.move (Operand.tmp 0), none⟩, []⟩,
  ⟨⟨some 27, Op.move (Operand.tmp 1), none⟩, []⟩,
  ⟨⟨some 28, Op.move (Operand.tmp 2), none⟩, []⟩,
  ⟨⟨some 29, Op.move (Operand.tmp 4), none⟩, []⟩,
  ⟨⟨some 30, Op.call { callee := (Callee.value (Operand.func 248)), args := #[(Operand.tmp 26), (Operand.tmp 27), (Operand.tmp 28), (Operand.tmp 29)], argTypes := #[26, 3, 3, 105] }, none⟩, []⟩]) .ret) .skip)) (.seq (.seq (.reg [⟨⟨some 31, Op.move (Operand.tmp 3), none⟩, []⟩,
  ⟨⟨some 32, Op.binOp BinOp.eql 3 (Operand.tmp 31) (Operand.const (Value.int IntKind.i64 0)) 3, none⟩, []⟩]) (.cond (Operand.tmp 32) (.seq (.reg [⟨⟨some 33, Op.move (Operand.tmp 0), none⟩, []⟩,
  ⟨⟨some 34, Op.move (Operand.tmp 1), none⟩, []⟩,
  ⟨⟨some 35, Op.move (Operand.tmp 2), none⟩, []⟩,
  ⟨⟨some 36, Op.move (Operand.tmp 4), none⟩, []⟩,
  ⟨⟨some 37, Op.call { callee := (Callee.value (Operand.func 249)), args := #[(Operand.tmp 33), (Operand.tmp 34), (Operand.tmp 35), (Operand.tmp 36)], argTypes := #[26, 3, 3, 105] }, none⟩, []⟩]) .ret) .skip)) (.seq (.seq (.reg [⟨⟨some 38, Op.move (Operand.tmp 10), none⟩, []⟩,
  ⟨⟨some 39, Op.unOp UnOp.not 4 (Operand.tmp 38), none⟩, []⟩]) (.cond (Operand.tmp 39) (.seq (.reg [⟨⟨some 40, Op.move (Operand.tmp 0), none⟩, []⟩,
  ⟨⟨some 41, Op.move (Operand.tmp 1), none⟩, []⟩,
  ⟨⟨some 42, Op.move (Operand.tmp 2), none⟩, []⟩,
  ⟨⟨some 43, Op.move (Operand.tmp 4), none⟩, []⟩,
  ⟨⟨some 44, Op.call { callee := (Callee.value (Operand.func 250)), args := #[(Operand.tmp 40), (Operand.tmp 41), (Operand.tmp 42), (Operand.tmp 43)], argTypes := #[26, 3, 3, 105] }, none⟩, []⟩]) (.reg [⟨⟨some 45, Op.move (Operand.tmp 3), none⟩, []⟩,
  ⟨⟨some 46, Op.binOp BinOp.sub 3 (Operand.tmp 45) (Operand.const (Value.int IntKind.i64 1)) 3, none⟩, []⟩,
  ⟨⟨some 3, Op.assign (Operand.tmp 46), none⟩, []⟩])) .skip)) (.seq (.reg [⟨⟨some 48, Op.move (Operand.tmp 0), none⟩, []⟩,
  ⟨⟨some 49, Op.move (Operand.tmp 1), none⟩, []⟩,
  ⟨⟨some 50, Op.move (Operand.tmp 2), none⟩, []⟩,
  ⟨⟨some 51, Op.move (Operand.tmp 4), none⟩, []⟩,
  ⟨⟨some 52, Op.call { callee := (Callee.value (Operand.func 251)), args := #[(Operand.tmp 48), (Operand.tmp 49), (Operand.tmp 50), (Operand.tmp 51)], argTypes := #[26, 3, 3, 105] }, none⟩, []⟩,
  ⟨⟨some 47, Op.move (Operand.tmp 52), none⟩, []⟩,
  ⟨⟨some 53, Op.extract (Operand.tmp 47) 0, none⟩, []⟩,
  ⟨⟨some 54, Op.extract (Operand.tmp 47) 1, none⟩, []⟩,
  ⟨⟨some 13, Op.assign (Operand.tmp 53), none⟩, []⟩,
  ⟨⟨some 14, Op.assign (Operand.tmp 54), none⟩, []⟩]) (.seq (.seq (.reg [⟨⟨some 55, Op.move (Operand.tmp 14), none⟩, []⟩,
  ⟨⟨some 56, Op.binOp BinOp.eql 175 (Operand.tmp 55) (Operand.const (Value.int IntKind.i64 2)) 175, none⟩, []⟩]) (.cond (Operand.tmp 56) (.seq (.reg [⟨⟨some 57, Op.move (Operand.tmp 0), none⟩, []⟩,
  ⟨⟨some 58, Op.move (Operand.tmp 1), none⟩, []⟩,
  ⟨⟨some 59, Op.move (Operand.tmp 2), none⟩, []⟩,
  ⟨⟨some 60, Op.move (Operand.tmp 4), none⟩, []⟩,
  ⟨⟨some 61, Op.call { callee := (Callee.value (Operand.func 252)), args := #[(Operand.tmp 57), (Operand.tmp 58), (Operand.tmp 59), (Operand.tmp 60)], argTypes := #[26, 3, 3, 105] }, none⟩, []⟩]) (.seq (.reg [⟨⟨some 62, Op.move (Operand.tmp 2), none⟩, []⟩,
  ⟨⟨some 63, Op.binOp BinOp.sub 3 (Operand.tmp 62) (Operand.const (Value.int IntKind.i64 1)) 3, none⟩, []⟩,
  ⟨⟨some 64, Op.move (Operand.tmp 13), none⟩, []⟩,
  ⟨⟨some 65, Op.move (Operand.tmp 1), none⟩, []⟩,
  ⟨⟨some 66, Op.binOp BinOp.sub 3 (Operand.tmp 64) (Operand.tmp 65) 3, none⟩, []⟩,
  ⟨⟨some 67, Op.binOp BinOp.sub 3 (Operand.tmp 63) (Operand.tmp 66) 3, none⟩, []⟩,
  ⟨⟨some 13, Op.assign (Operand.tmp 67), none⟩, []⟩]) (.reg [⟨⟨some 14, Op.assign (Operand.const (Value.int IntKind.i64 1)), none⟩, []⟩]))) .skip)) (.seq (.seq (.reg [⟨⟨some 68, Op.move (Operand.tmp 10), none⟩, []⟩,
  ⟨⟨some 69, Op.move (Operand.tmp 68), none⟩, []⟩,
  ⟨⟨some 70, Op.move (Operand.tmp 11), some (69, true)⟩, []⟩,
  ⟨⟨some 71, Op.pick (Operand.tmp 69) (Operand.tmp 70) (Operand.const (Value.bool false)), none⟩, []⟩,
  ⟨⟨some 72, Op.move (Operand.tmp 71), none⟩, []⟩,
  ⟨⟨some 73, Op.move (Operand.tmp 14), some (72, true)⟩, []⟩,
  ⟨⟨some 74, Op.binOp BinOp.eql 175 (Operand.tmp 73) (Operand.const (Value.int IntKind.i64 1)) 175, some (72, true)⟩, []⟩,
  ⟨⟨some 75, Op.pick (Operand.tmp 72) (Operand.tmp 74) (Operand.const (Value.bool false)), none⟩, []⟩]) (.cond (Operand.tmp 75) (.seq (.reg [⟨⟨some 76, Op.move (Operand.tmp 0), none⟩, []⟩,
  ⟨⟨some 77, Op.move (Operand.tmp 1), none⟩, []⟩,
  ⟨⟨some 78, Op.move (Operand.tmp 2), none⟩, []⟩,
  ⟨⟨some 79, Op.move (Operand.tmp 4), none⟩, []⟩,
  ⟨⟨some 80, Op.call { callee := (Callee.value (Operand.func 253)), args := #[(Operand.tmp 76), (Operand.tmp 77), (Operand.tmp 78), (Operand.tmp 79)], argTypes := #[26, 3, 3, 105] }, none⟩, []⟩]) (.cond (Operand.tmp 80) .ret .skip)) .skip)) (.seq (.seq (.reg [⟨⟨some 81, Op.move (Operand.tmp 1), none⟩, []⟩,
  ⟨⟨some 82, Op.binOp BinOp.gtr 3 (Operand.tmp 81) (Operand.const (Value.int IntKind.i64 0)) 3, none⟩, []⟩,
  ⟨⟨some 83, Op.move (Operand.tmp 82), none⟩, []⟩,
  ⟨⟨some 84, Op.move (Operand.tmp 4), some (83, true)⟩, []⟩,
  ⟨⟨some 85, Op.move (Operand.tmp 0), some (83, true)⟩, []⟩,
  ⟨⟨some 86, Op.move (Operand.tmp 1), some (83, true)⟩, []⟩,
  ⟨⟨some 87, Op.binOp BinOp.sub 3 (Operand.tmp 86) (Operand.const (Value.int IntKind.i64 1)) 3, some (83, true)⟩, []⟩,
  ⟨⟨some 88, Op.indexAddr 26 (Operand.tmp 85) (Operand.tmp 87), some (83, true)⟩, []⟩,
  ⟨⟨some 89, Op.load 38 (Operand.tmp 88), some (83, true)⟩, []⟩,
  ⟨⟨some 90, Op.move (Operand.tmp 0), some (83, true)⟩, []⟩,
  ⟨⟨some 91, Op.move (Operand.tmp 13), some (83, true)⟩, []⟩,
  ⟨⟨some 92, Op.indexAddr 26 (Operand.tmp 90) (Operand.tmp 91), some (83, true)⟩, []⟩,
  ⟨⟨some 93, Op.load 38 (Operand.tmp 92), some (83, true)⟩, []⟩,
  ⟨⟨some 94, Op.call { callee := (Callee.value (Operand.tmp 84)), args := #[(Operand.tmp 89), (Operand.tmp 93)], argTypes := #[38, 38] }, some (83, true)⟩, []⟩,
  ⟨⟨some 95, Op.binOp BinOp.lss 3 (Operand.tmp 94) (Operand.const (Value.int IntKind.i64 0)) 3, some (83, true)⟩, []⟩,
  ⟨⟨some 96, Op.unOp UnOp.not 4 (Operand.tmp 95), some (83, true)⟩, []⟩,
  ⟨⟨some 97, Op.pick (Operand.tmp 83) (Operand.tmp 96) (Operand.const (Value.bool false)), none⟩, []⟩]) (.cond (Operand.tmp 97) (.seq (.reg [⟨⟨some 98, Op.move (Operand.tmp 0), none⟩, []⟩,
  ⟨⟨some 99, Op.move (Operand.tmp 1), none⟩, []⟩,
  ⟨⟨some 100, Op.move (Operand.tmp 2), none⟩, []⟩,
  ⟨⟨some 101, Op.move (Operand.tmp 13), none⟩, []⟩,
  ⟨⟨some 102, Op.move (Operand.tmp 4), none⟩, []⟩,
  ⟨⟨some 103, Op.call { callee := (Callee.value (Operand.func 254)), args := #[(Operand.tmp 98), (Operand.tmp 99), (Operand.tmp 100), (Operand.tmp 101), (Operand.tmp 102)], argTypes := #[26, 3, 3, 3, 105] }, none⟩, []⟩,
  ⟨⟨some 15, Op.assign (Operand.tmp 103), none⟩, []⟩]) (.seq (.reg [⟨⟨some 104, Op.move (Operand.tmp 15), none⟩, []⟩,
  ⟨⟨some 1, Op.assign (Operand.tmp 104), none⟩, []⟩]) (.exit 1))) .skip)) (.seq (.reg [⟨⟨some 106, Op.move (Operand.tmp 0), none⟩, []⟩,
  ⟨⟨some 107, Op.move (Operand.tmp 1), none⟩, []⟩,
  ⟨⟨some 108, Op.move (Operand.tmp 2), none⟩, []⟩,
  ⟨⟨some 109, Op.move (Operand.tmp 13), none⟩, []⟩,
  ⟨⟨some 110, Op.move (Operand.tmp 4), none⟩, []⟩,
  ⟨⟨some 111, Op.call { callee := (Callee.value (Operand.func 255)), args := #[(Operand.tmp 106), (Operand.tmp 107), (Operand.tmp 108), (Operand.tmp 109), (Operand.tmp 110)], argTypes := #[26, 3, 3, 3, 105] }, none⟩, []⟩,
  ⟨⟨some 105, Op.move (Operand.tmp 111), none⟩, []⟩,
  ⟨⟨some 112, Op.extract (Operand.tmp 105) 0, none⟩, []⟩,
  ⟨⟨some 113, Op.extract (Operand.tmp 105) 1, none⟩, []⟩,
  ⟨⟨some 16, Op.assign (Operand.tmp 112), none⟩, []⟩,
  ⟨⟨some 17, Op.assign (Operand.tmp 113), none⟩, []⟩]) (.seq (.reg [⟨⟨some 114, Op.move (Operand.tmp 17), none⟩, []⟩,
  ⟨⟨some 11, Op.assign (Operand.tmp 114), none⟩, []⟩]) (.seq (.reg [⟨⟨some 115, Op.move (Operand.tmp 16), none⟩, []⟩,
  ⟨⟨some 116, Op.move (Operand.tmp 1), none⟩, []⟩,
  ⟨⟨some 117, Op.binOp BinOp.sub 3 (Operand.tmp 115) (Operand.tmp 116) 3, none⟩, []⟩,
  ⟨⟨some 118, Op.move (Operand.tmp 2), none⟩, []⟩,
  ⟨⟨some 119, Op.move (Operand.tmp 16), none⟩, []⟩,
  ⟨⟨some 120, Op.binOp BinOp.sub 3 (Operand.tmp 118) (Operand.tmp 119) 3, none⟩, []⟩,
  ⟨⟨some 18, Op.assign (Operand.tmp 117), none⟩, []⟩,
  ⟨⟨some 19, Op.assign (Operand.tmp 120), none⟩, []⟩]) (.seq (.reg [⟨⟨some 121, Op.move (Operand.tmp 12), none⟩, []⟩,
  ⟨⟨some 122, Op.binOp BinOp.quo 3 (Operand.tmp 121) (Operand.const (Value.int IntKind.i64 8)) 3, none⟩, []⟩,
  ⟨⟨some 20, Op.assign (Operand.tmp 122), none⟩, []⟩]) (.seq (.reg [⟨⟨some 123, Op.move (Operand.tmp 18), none⟩, []⟩,
  ⟨⟨some 124, Op.move (Operand.tmp 19), none⟩, []⟩,
  ⟨⟨some 125, Op.binOp BinOp.lss 3 (Operand.tmp 123) (Operand.tmp 124) 3, none⟩, []⟩]) (.cond (Operand.tmp 125) (.seq (.reg [⟨⟨some 126, Op.move (Operand.tmp 18), none⟩, []⟩,
  ⟨⟨some 127, Op.move (Operand.tmp 20), none⟩, []⟩,
  ⟨⟨some 128, Op.binOp BinOp.geq 3 (Operand.tmp 126) (Operand.tmp 127) 3, none⟩, []⟩,
  ⟨⟨some 10, Op.assign (Operand.tmp 128), none⟩, []⟩]) (.seq (.reg [⟨⟨some 129, Op.move (Operand.tmp 0), none⟩, []⟩,
  ⟨⟨some 130, Op.move (Operand.tmp 1), none⟩, []⟩,
  ⟨⟨some 131, Op.move (Operand.tmp 16), none⟩, []⟩,
  ⟨⟨some 132, Op.move (Operand.tmp 3), none⟩, []⟩,
  ⟨⟨some 133, Op.move (Operand.tmp 4), none⟩, []⟩,
  ⟨⟨some 134, Op.call { callee := (Callee.value (Operand.func 211)), args := #[(Operand.tmp 129), (Operand.tmp 130), (Operand.tmp 131), (Operand.tmp 132), (Operand.tmp 133)], argTypes := #[26, 3, 3, 3, 105] }, none⟩, []⟩]) (.reg [⟨⟨some 135, Op.move (Operand.tmp 16), none⟩, []⟩,
  ⟨⟨some 136, Op.binOp BinOp.add 3 (Operand.tmp 135) (Operand.const (Value.int IntKind.i64 1)) 3, none⟩, []⟩,
  ⟨⟨some 1, Op.assign (Operand.tmp 136), none⟩, []⟩]))) (.seq (.reg [⟨⟨some 137, Op.move (Operand.tmp 19), none⟩, []⟩,
  ⟨⟨some 138, Op.move (Operand.tmp 20), none⟩, []⟩,
  ⟨⟨some 139, Op.binOp BinOp.geq 3 (Operand.tmp 137) (Operand.tmp 138) 3, none⟩, []⟩,
  ⟨⟨some 10, Op.assign (Operand.tmp 139), none⟩, []⟩]) (.seq (.reg [⟨⟨some 140, Op.move (Operand.tmp 0), none⟩, []⟩,
  ⟨⟨some 141, Op.move (Operand.tmp 16), none⟩, []⟩,
  ⟨⟨some 142, Op.binOp BinOp.add 3 (Operand.tmp 141) (Operand.const (Value.int IntKind.i64 1)) 3, none⟩, []⟩,
  ⟨⟨some 143, Op.move (Operand.tmp 2), none⟩, []⟩,
  ⟨⟨some 144, Op.move (Operand.tmp 3), none⟩, []⟩,
  ⟨⟨some 145, Op.move (Operand.tmp 4), none⟩, []⟩,
  ⟨⟨some 146, Op.call { callee := (Callee.value (Operand.func 211)), args := #[(Operand.tmp 140), (Operand.tmp 142), (Operand.tmp 143), (Operand.tmp 144), (Operand.tmp 145)], argTypes := #[26, 3, 3, 3, 105] }, none⟩, []⟩]) (.reg [⟨⟨some 147, Op.move (Operand.tmp 16), none⟩, []⟩,
  ⟨⟨some 2, Op.assign (Operand.tmp 147), none⟩, []⟩]))))))))))))))))))))))
theorem sl211 : slim Try.f211.ntmps ords211 (Try.f211.body.getD .skip) = some cd211 := by kernel_rfl
theorem in211 {args : List Value} {H : AH} {R : Value → AH → Prop} (hl : args.length = 5) (h : ∀ (Q : Exit → Sl → AH → Prop), (∀ e s H, endA Try.prog [] R e s H → Q e s H) → wpC Try.prog cd211 Q (enterA args) H) : ACalls Try.prog 211 args H R :=
  ACalls.intro (by kernel_rfl) Try.func211 rfl (by kernel_rfl) sl211 hl (of_decide_eq_true (by kernel_rfl)) (by kernel_rfl) h
end Go.Proofs.Ytlfongfhbkefmaa.Ai
namespace Go.Proofs.Ytlfongfhbkefmaa.Ai
open Go Go.RowKit
set_option linter.unusedVariables false
set_option linter.unusedSimpArgs false
/-- the order of lists -/
def cmpL : List Int → List Int → Int
  | [], [] => 0
  | [], _ :: _ => -1
  | _ :: _, [] => 1
  | a :: xs, b :: ys => if cmpI a b ≠ 0 then cmpI a b else cmpL xs ys
theorem cmpL_nil (ys : List Int) : cmpL [] ys = if 0 < ys.length then -1 else 0 := by
  cases ys with
  | nil => rfl
  | cons b bs => simp [cmpL]
theorem cmpL_step (xs ys : List Int) (i : Nat) (hi : i < xs.length) : cmpL (xs.drop i) (ys.drop i) = if ys.length ≤ i then 1 else if cmpI (xs.getD i 0) (ys.getD i 0) ≠ 0 then cmpI (xs.getD i 0) (ys.getD i 0) else cmpL (xs.drop (i + 1)) (ys.drop (i + 1)) := by
  have hx : xs.getD i 0 = xs[i] := by simp [hi]
  rw [List.drop_eq_getElem_cons hi]
  by_cases hj : ys.length ≤ i
  · rw [if_pos hj, List.drop_of_length_le hj]; rfl
  · have hj' : i < ys.length := by omega
    have hy : ys.getD i 0 = ys[i] := by simp [hj']
    rw [if_neg hj, List.drop_eq_getElem_cons hj', hx, hy]; rfl
abbrev fnCmp : Value := .func (.func 157) #[] (List.toArray [])
set_option maxHeartbeats 1000000 in
theorem CmpL_c (v w : Value) (xs ys : List Int) (H : AH) (hr : Row 3 H v xs) (hr2 : Row 3 H w ys) (hlen : xs.length ≤ 1099511627776) (hlen2 : ys.length ≤ 1099511627776) :
    ACalls Try.prog 157 [v, w] H fun r H' => r = .int .i64 (cmpL xs ys) ∧ H = H' := by
  refine in157 rfl ?_
  intro Q hQ
  simp (maxSteps := 1000000) (disch := omega) only [cd157, hr.len Try.underlying38, S, S1, S2, S3, S4, S5, ST, eq_self, reduceIte, reduceCtorEq, Nat.reduceEqDiff, Nat.reduceAdd]
  refine LoopH.by (fun m s H' => ∃ i, m + i = xs.length ∧ s 0 = v ∧ s 1 = w ∧ s 9 = v ∧ s 10 = .int .i64 (xs.length : Int) ∧ s 11 = .int .i64 ((i : Nat) : Int) ∧ H = H' ∧ cmpL xs ys = cmpL (xs.drop i) (ys.drop i) ∧ (i ≤ ys.length ∨ i = 0)) xs.length ?_ ?_
  · exact ⟨0, by simp, rfl, rfl, rfl, rfl, rfl, rfl, by simp, .inr rfl⟩
  · rintro m s H' ⟨i, hm, h0, h1, h9, h10, h11, rfl, hc, hy⟩
    simp (maxSteps := 1000000) (disch := omega) only [h0, h1, h9, h10, h11, S, S1, S2, S3, S4, S5, ST, eq_self, reduceIte, reduceCtorEq, Nat.reduceEqDiff, Nat.reduceAdd]
    refine brD.intro (fun g => ?_) (fun g => ?_)
    · have hi : i < xs.length := by omega
      rw [cmpL_step xs ys i hi] at hc
      simp (maxSteps := 1000000) (disch := omega) only [h0, h1, h9, h10, h11, hr.ix Try.underlying38 cs3, hr.cell, Int.toNat_natCast, hr2.len Try.underlying38, S, S1, S2, S3, S4, S5, ST, eq_self, reduceIte, reduceCtorEq, Nat.reduceEqDiff, Nat.reduceAdd]
      refine brD.intro (fun e => ?_) (fun e => ?_)
      · simp (maxSteps := 1000000) (disch := omega) only [S, S1, S2, S3, S4, S5, ST, eq_self, reduceIte, reduceCtorEq, Nat.reduceEqDiff, Nat.reduceAdd]
        refine hQ _ _ _ ?_
        simp (maxSteps := 1000000) (disch := omega) only [S, S1, S2, S3, S4, S5, ST, eq_self, reduceIte, reduceCtorEq, Nat.reduceEqDiff, Nat.reduceAdd]
        rw [hc, if_pos (by omega)]
      · have hj : i < ys.length := by omega
        rw [if_neg (by omega)] at hc
        simp (maxSteps := 1000000) (disch := omega) only [h0, h1, h9, h10, h11, hr2.ix Try.underlying38 cs3, hr2.cell, Int.toNat_natCast, S, S1, S2, S3, S4, S5, ST, eq_self, reduceIte, reduceCtorEq, Nat.reduceEqDiff, Nat.reduceAdd]
        refine CallH.by (Compare_c _ _ H) ?_
        rintro _ _ ⟨rfl, rfl⟩
        simp (maxSteps := 1000000) (disch := omega) only [S, S1, S2, S3, S4, S5, ST, eq_self, reduceIte, reduceCtorEq, Nat.reduceEqDiff, Nat.reduceAdd]
        refine brD.intro (fun e2 => ?_) (fun e2 => ?_) <;> simp (maxSteps := 1000000) (disch := omega) only [h0, h1, h9, h10, h11, wrap64, S, S1, S2, S3, S4, S5, ST, eq_self, reduceIte, reduceCtorEq, Nat.reduceEqDiff, Nat.reduceAdd]
        · refine hQ _ _ _ ?_
          simp (maxSteps := 1000000) (disch := omega) only [S, S1, S2, S3, S4, S5, ST, eq_self, reduceIte, reduceCtorEq, Nat.reduceEqDiff, Nat.reduceAdd]
          rw [hc, if_pos e2]
        · rw [if_neg e2] at hc
          have f1 : i + 1 ≤ ys.length ∨ i + 1 = 0 := .inl hj
          refine ⟨m - 1, by omega, i + 1, ?_⟩
          (repeat' first | exact hc | exact f1 | apply And.intro) <;> first | (simp only [Value.int.injEq, true_and]; omega) | omega | rfl | assumption | (simp; done) | (simp; omega)
    · have hxe : i = xs.length := by omega
      rw [hxe, List.drop_length, cmpL_nil] at hc
      simp (maxSteps := 1000000) (disch := omega) only [h0, h1, hr.len Try.underlying38, hr2.len Try.underlying38, S, S1, S2, S3, S4, S5, ST, eq_self, reduceIte, reduceCtorEq, Nat.reduceEqDiff, Nat.reduceAdd]
      refine brD.intro (fun e => ?_) (fun e => ?_) <;> simp (maxSteps := 1000000) (disch := omega) only [S, S1, S2, S3, S4, S5, ST, eq_self, reduceIte, reduceCtorEq, Nat.reduceEqDiff, Nat.reduceAdd]
      · refine hQ _ _ _ ?_
        simp (maxSteps := 1000000) (disch := omega) only [S, S1, S2, S3, S4, S5, ST, eq_self, reduceIte, reduceCtorEq, Nat.reduceEqDiff, Nat.reduceAdd]
        rw [hc, if_pos (by simp; omega)]
      · refine hQ _ _ _ ?_
        simp (maxSteps := 1000000) (disch := omega) only [S, S1, S2, S3, S4, S5, ST, eq_self, reduceIte, reduceCtorEq, Nat.reduceEqDiff, Nat.reduceAdd]
        rw [hc, if_neg (by simp; omega)]
/-- in strict order -/
def SrtL (ls : List (List Int)) : Prop := ∀ i j, i < j → j < ls.length → 0 < cmpL (ls.getD j []) (ls.getD i [])
/-- such lists in memory -/
structure Sts (H : AH) (v : Value) (us : List Value) (ls : List (List Int)) : Prop where
  row : RowV 38 H v us
  len : us.length = ls.length
  each : ∀ i, i < ls.length → Row 3 H (us.getD i undef) (ls.getD i [])
  small : ∀ i, i < ls.length → (ls.getD i []).length ≤ 1099511627776
  bnd : ls.length ≤ 60000
  srt : SrtL ls
theorem Sts.pre {H H' : AH} {v : Value} {us : List Value} {ls : List (List Int)} (h : Sts H v us ls) (hp : H <+: H') : Sts H' v us ls := ⟨h.row.pre hp, h.len, fun i hi => (h.each i hi).pre hp, h.small, h.bnd, h.srt⟩
theorem cmpL_self : ∀ xs : List Int, cmpL xs xs = 0
  | [] => rfl
  | a :: xs => by
    have : cmpI a a = 0 := by unfold cmpI; rw [if_neg (by omega), if_neg (by omega)]
    rw [cmpL, if_neg (by rw [this]; decide)]; exact cmpL_self xs
theorem Sts.le {H : AH} {v : Value} {us : List Value} {ls : List (List Int)} (h : Sts H v us ls) {i j : Nat} (hij : i ≤ j) (hj : j < ls.length) : ¬ cmpL (ls.getD j []) (ls.getD i []) < 0 := by
  by_cases e : i = j
  · subst e; rw [cmpL_self]; omega
  · have := h.srt i j (by omega) hj; omega
section
variable {v : Value} {us : List Value} {ls : List (List Int)} {H : AH}
theorem Sts.cell (h : Sts H v us ls) {i : Nat} (hi : i < ls.length) : cellA H (rowO v) (rowK v + i) = some (us.getD i undef) := h.row.cell (by have := h.len; omega)
theorem Sts.cmp (h : Sts H v us ls) {i j : Nat} (hi : i < ls.length) (hj : j < ls.length) :
    ACalls Try.prog 157 [us.getD i undef, us.getD j undef] H fun r H' => r = .int .i64 (cmpL (ls.getD i []) (ls.getD j [])) ∧ H = H' := CmpL_c _ _ _ _ H (h.each i hi) (h.each j hj) (h.small i hi) (h.small j hj)
theorem order2_c (h : Sts H v us ls) (a b : Nat) (p : Value) (hab : a ≤ b) (hb : b < ls.length) :
    ACalls Try.prog 273 [v, .int .i64 (a : Int), .int .i64 (b : Int), p, fnCmp] H fun r H' => r = .tuple (List.toArray [.int .i64 (a : Int), .int .i64 (b : Int)]) ∧ H = H' := by
  refine in273 rfl ?_
  intro Q hQ
  have hl := h.len
  have hca := h.cell (show a < ls.length by omega)
  have hcb := h.cell hb
  simp (maxSteps := 1000000) (disch := omega) only [cd273, h.row.ix Try.underlying26 cs38, Int.toNat_natCast, hca, hcb, S, S1, S2, S3, S4, S5, ST, eq_self, reduceIte, reduceCtorEq, Nat.reduceEqDiff, Nat.reduceAdd]
  refine CallH.by (h.cmp hb (show a < ls.length by omega)) ?_
  rintro _ _ ⟨rfl, rfl⟩
  simp (maxSteps := 1000000) (disch := omega) only [S, S1, S2, S3, S4, S5, ST, eq_self, reduceIte, reduceCtorEq, Nat.reduceEqDiff, Nat.reduceAdd]
  refine brD.intro (fun e => absurd e (h.le hab hb)) (fun e => ?_)
  simp (maxSteps := 1000000) (disch := omega) only [S, S1, S2, S3, S4, S5, ST, eq_self, reduceIte, reduceCtorEq, Nat.reduceEqDiff, Nat.reduceAdd]
  refine hQ _ _ _ ?_
  simp (maxSteps := 1000000) (disch := omega) only [S, S1, S2, S3, S4, S5, ST, eq_self, reduceIte, reduceCtorEq, Nat.reduceEqDiff, Nat.reduceAdd]
theorem median_c (h : Sts H v us ls) (a b c : Nat) (p : Value) (hab : a ≤ b) (hbc : b ≤ c) (hc : c < ls.length) :
    ACalls Try.prog 269 [v, .int .i64 (a : Int), .int .i64 (b : Int), .int .i64 (c : Int), p, fnCmp] H fun r H' => r = .int .i64 (b : Int) ∧ H = H' := by
  refine in269 rfl ?_
  intro Q hQ
  simp (maxSteps := 1000000) (disch := omega) only [cd269, S, S1, S2, S3, S4, S5, ST, eq_self, reduceIte, reduceCtorEq, Nat.reduceEqDiff, Nat.reduceAdd]
  refine CallH.by (order2_c h a b p hab (by omega)) ?_
  rintro _ _ ⟨rfl, rfl⟩
  simp (maxSteps := 1000000) (disch := omega) only [S, S1, S2, S3, S4, S5, ST, eq_self, reduceIte, reduceCtorEq, Nat.reduceEqDiff, Nat.reduceAdd]
  refine CallH.by (order2_c h b c p hbc hc) ?_
  rintro _ _ ⟨rfl, rfl⟩
  simp (maxSteps := 1000000) (disch := omega) only [S, S1, S2, S3, S4, S5, ST, eq_self, reduceIte, reduceCtorEq, Nat.reduceEqDiff, Nat.reduceAdd]
  refine CallH.by (order2_c h a b p hab (by omega)) ?_
  rintro _ _ ⟨rfl, rfl⟩
  simp (maxSteps := 1000000) (disch := omega) only [S, S1, S2, S3, S4, S5, ST, eq_self, reduceIte, reduceCtorEq, Nat.reduceEqDiff, Nat.reduceAdd]
  refine hQ _ _ _ ?_
  simp (maxSteps := 1000000) (disch := omega) only [S, S1, S2, S3, S4, S5, ST, eq_self, reduceIte, reduceCtorEq, Nat.reduceEqDiff, Nat.reduceAdd]
theorem medianAdj_c (h : Sts H v us ls) (a : Nat) (p : Value) (ha : 1 ≤ a) (hc : a + 1 < ls.length) :
    ACalls Try.prog 268 [v, .int .i64 (a : Int), p, fnCmp] H fun r H' => r = .int .i64 (a : Int) ∧ H = H' := by
  refine in268 rfl ?_
  intro Q hQ
  have hb := h.bnd
  have e1 : (a : Int) - 1 = ((a - 1 : Nat) : Int) := by omega
  have e2 : (a : Int) + 1 = ((a + 1 : Nat) : Int) := by omega
  simp (maxSteps := 1000000) (disch := omega) only [cd268, wrap64, e1, e2, S, S1, S2, S3, S4, S5, ST, eq_self, reduceIte, reduceCtorEq, Nat.reduceEqDiff, Nat.reduceAdd]
  refine CallH.by (median_c h (a - 1) a (a + 1) p (by omega) (by omega) hc) ?_
  rintro _ _ ⟨rfl, rfl⟩
  simp (maxSteps := 1000000) (disch := omega) only [S, S1, S2, S3, S4, S5, ST, eq_self, reduceIte, reduceCtorEq, Nat.reduceEqDiff, Nat.reduceAdd]
  refine hQ _ _ _ ?_
  simp (maxSteps := 1000000) (disch := omega) only [S, S1, S2, S3, S4, S5, ST, eq_self, reduceIte, reduceCtorEq, Nat.reduceEqDiff, Nat.reduceAdd]
set_option maxRecDepth 20000 in
set_option maxHeartbeats 1000000 in
theorem partialIns_c (h : Sts H v us ls) (h1 : 1 ≤ ls.length) :
    ACalls Try.prog 253 [v, .int .i64 0, .int .i64 (ls.length : Int), fnCmp] H fun r H' => r = .bool true ∧ H = H' := by
  refine in253 rfl ?_
  intro Q hQ
  have hb := h.bnd
  have hl := h.len
  simp (maxSteps := 1000000) (disch := omega) only [cd253, wrap64, S, S1, S2, S3, S4, S5, ST, eq_self, reduceIte, reduceCtorEq, Nat.reduceEqDiff, Nat.reduceAdd]
  refine LoopH.by (fun m s H' => s 0 = v ∧ s 2 = .int .i64 (ls.length : Int) ∧ s 3 = fnCmp ∧ s 9 = .int .i64 1 ∧ s 10 = .int .i64 0 ∧ H = H') 0 ?_ ?_
  · exact ⟨rfl, rfl, rfl, rfl, rfl, rfl⟩
  · rintro m s H' ⟨h0, h2, h3, h9, h10, rfl⟩
    simp (maxSteps := 1000000) (disch := omega) only [h0, h2, h3, h9, h10, S, S1, S2, S3, S4, S5, ST, eq_self, reduceIte, reduceCtorEq, Nat.reduceEqDiff, Nat.reduceAdd]
    refine brD.intro (fun _ => ?_) (fun g => absurd (by decide) g)
    simp (maxSteps := 1000000) (disch := omega) only [h0, h2, h3, h9, h10, S, S1, S2, S3, S4, S5, ST, eq_self, reduceIte, reduceCtorEq, Nat.reduceEqDiff, Nat.reduceAdd]
    refine LoopH.by (fun m' s' H' => ∃ i, m' + i = ls.length ∧ 1 ≤ i ∧ s' 0 = v ∧ s' 2 = .int .i64 (ls.length : Int) ∧ s' 3 = fnCmp ∧ s' 9 = .int .i64 ((i : Nat) : Int) ∧ H = H') (ls.length - 1) ?_ ?_
    · exact ⟨1, by omega, by omega, by simp [S, S1, S2, S3, S4, S5, ST, eq_self, reduceIte, reduceCtorEq, Nat.reduceEqDiff, Nat.reduceAdd, h0], by simp [S, S1, S2, S3, S4, S5, ST, eq_self, reduceIte, reduceCtorEq, Nat.reduceEqDiff, Nat.reduceAdd, h2], by simp [S, S1, S2, S3, S4, S5, ST, eq_self, reduceIte, reduceCtorEq, Nat.reduceEqDiff, Nat.reduceAdd, h3], by simp [S, S1, S2, S3, S4, S5, ST, eq_self, reduceIte, reduceCtorEq, Nat.reduceEqDiff, Nat.reduceAdd, h9], rfl⟩
    · rintro m' s' H' ⟨i, hm, hi1, g0, g2, g3, g9, rfl⟩
      have e1 : (i : Int) - 1 = ((i - 1 : Nat) : Int) := by omega
      simp (maxSteps := 1000000) (disch := omega) only [g0, g2, g3, g9, S, S1, S2, S3, S4, S5, ST, eq_self, reduceIte, reduceCtorEq, Nat.reduceEqDiff, Nat.reduceAdd]
      refine brD.intro (fun g => ?_) (fun g => ?_)
      · have hi : i < ls.length := by omega
        have hc1 := h.cell hi
        have hc2 := h.cell (show i - 1 < ls.length by omega)
        simp (maxSteps := 1000000) (disch := omega) only [g, g0, g2, g3, g9, wrap64, e1, h.row.ix Try.underlying26 cs38, Int.toNat_natCast, hc1, hc2, S, S1, S2, S3, S4, S5, ST, eq_self, reduceIte, reduceCtorEq, Nat.reduceEqDiff, Nat.reduceAdd]
        refine CallH.by (h.cmp hi (show i - 1 < ls.length by omega)) ?_
        rintro _ _ ⟨rfl, rfl⟩
        simp (maxSteps := 1000000) (disch := omega) only [g, S, S1, S2, S3, S4, S5, ST, eq_self, reduceIte, reduceCtorEq, Nat.reduceEqDiff, Nat.reduceAdd]
        refine brD.intro (fun e => absurd e (h.le (by omega) hi)) (fun e => ?_)
        simp (maxSteps := 1000000) (disch := omega) only [g, e, g0, g2, g3, g9, wrap64, S, S1, S2, S3, S4, S5, ST, eq_self, reduceIte, reduceCtorEq, Nat.reduceEqDiff, Nat.reduceAdd]
        refine ⟨m' - 1, by omega, i + 1, ?_⟩
        (repeat' apply And.intro) <;> first | (simp only [Value.int.injEq, true_and]; omega) | omega | rfl | assumption | (simp; done) | (simp; omega)
      · have hi : i = ls.length := by omega
        subst hi
        simp (maxSteps := 1000000) (disch := omega) only [g, g0, g2, g3, g9, S, S1, S2, S3, S4, S5, ST, eq_self, reduceIte, reduceCtorEq, Nat.reduceEqDiff, Nat.reduceAdd]
        refine hQ _ _ _ ?_
        simp (maxSteps := 1000000) (disch := omega) only [S, S1, S2, S3, S4, S5, ST, eq_self, reduceIte, reduceCtorEq, Nat.reduceEqDiff, Nat.reduceAdd]
set_option maxRecDepth 20000 in
set_option maxHeartbeats 1000000 in
theorem insCmp_c (h : Sts H v us ls) :
    ACalls Try.prog 248 [v, .int .i64 0, .int .i64 (ls.length : Int), fnCmp] H fun r H' => H = H' := by
  refine in248 rfl ?_
  intro Q hQ
  have hb := h.bnd
  have hl := h.len
  simp (maxSteps := 1000000) (disch := omega) only [cd248, wrap64, S, S1, S2, S3, S4, S5, ST, eq_self, reduceIte, reduceCtorEq, Nat.reduceEqDiff, Nat.reduceAdd]
  refine LoopH.by (fun m s H' => ∃ i, m + i = ls.length + 1 ∧ 1 ≤ i ∧ s 0 = v ∧ s 1 = .int .i64 0 ∧ s 2 = .int .i64 (ls.length : Int) ∧ s 3 = fnCmp ∧ s 8 = .int .i64 ((i : Nat) : Int) ∧ H = H') ls.length ?_ ?_
  · exact ⟨1, by omega, by omega, rfl, rfl, rfl, rfl, rfl, rfl⟩
  · rintro m s H' ⟨i, hm, hi1, h0, h1, h2, h3, h8, rfl⟩
    simp (maxSteps := 1000000) (disch := omega) only [h0, h1, h2, h3, h8, S, S1, S2, S3, S4, S5, ST, eq_self, reduceIte, reduceCtorEq, Nat.reduceEqDiff, Nat.reduceAdd]
    refine brD.intro (fun g => ?_) (fun g => ?_)
    · have hi : i < ls.length := by omega
      have e1 : (i : Int) - 1 = ((i - 1 : Nat) : Int) := by omega
      have hc1 := h.cell hi
      have hc2 := h.cell (show i - 1 < ls.length by omega)
      simp (maxSteps := 1000000) (disch := omega) only [h0, h1, h2, h3, h8, S, S1, S2, S3, S4, S5, ST, eq_self, reduceIte, reduceCtorEq, Nat.reduceEqDiff, Nat.reduceAdd]
      refine LoopH.by (fun m' s' H' => s' 0 = v ∧ s' 1 = .int .i64 0 ∧ s' 2 = .int .i64 (ls.length : Int) ∧ s' 3 = fnCmp ∧ s' 8 = .int .i64 ((i : Nat) : Int) ∧ s' 9 = .int .i64 ((i : Nat) : Int) ∧ H = H') 0 ?_ ?_
      · simp only [S, S1, S2, S3, S4, S5, ST, eq_self, reduceIte, reduceCtorEq, Nat.reduceEqDiff, Nat.reduceAdd, h0, h1, h2, h3, h8]
      · rintro m' s' H' ⟨g0, g1, g2, g3, g8, g9, rfl⟩
        have hgt : (i : Int) > 0 := by omega
        simp (maxSteps := 1000000) (disch := omega) only [g0, g1, g2, g3, g8, g9, S, S1, S2, S3, S4, S5, ST, eq_self, reduceIte, reduceCtorEq, Nat.reduceEqDiff, Nat.reduceAdd]
        refine brD.intro (fun q => ?_) (fun q => absurd hgt q)
        simp (maxSteps := 1000000) (disch := omega) only [q, g0, g1, g2, g3, g8, g9, wrap64, e1, h.row.ix Try.underlying26 cs38, Int.toNat_natCast, hc1, hc2, S, S1, S2, S3, S4, S5, ST, eq_self, reduceIte, reduceCtorEq, Nat.reduceEqDiff, Nat.reduceAdd]
        refine CallH.by (h.cmp hi (show i - 1 < ls.length by omega)) ?_
        rintro _ _ ⟨rfl, rfl⟩
        simp (maxSteps := 1000000) (disch := omega) only [q, S, S1, S2, S3, S4, S5, ST, eq_self, reduceIte, reduceCtorEq, Nat.reduceEqDiff, Nat.reduceAdd]
        refine brD.intro (fun e => absurd e (h.le (by omega) hi)) (fun e => ?_)
        simp (maxSteps := 1000000) (disch := omega) only [q, e, g0, g1, g2, g3, g8, g9, wrap64, S, S1, S2, S3, S4, S5, ST, eq_self, reduceIte, reduceCtorEq, Nat.reduceEqDiff, Nat.reduceAdd]
        refine ⟨m - 1, by omega, i + 1, ?_⟩
        (repeat' apply And.intro) <;> first | (simp only [Value.int.injEq, true_and]; omega) | omega | rfl | assumption | (simp; done) | (simp; omega)
    · simp (maxSteps := 1000000) (disch := omega) only [S, S1, S2, S3, S4, S5, ST, eq_self, reduceIte, reduceCtorEq, Nat.reduceEqDiff, Nat.reduceAdd]
      refine hQ _ _ _ ?_
      simp (maxSteps := 1000000) (disch := omega) only [S, S1, S2, S3, S4, S5, ST, eq_self, reduceIte, reduceCtorEq, Nat.reduceEqDiff, Nat.reduceAdd]
theorem alloc_int (H : AH) : allocA Try.prog 3 H = some (.pointer (some ⟨H.length, 0, none⟩), H ++ [.cells [.int .i64 0] 3 false]) := by kernel_rfl
set_option maxRecDepth 20000 in
set_option maxHeartbeats 1000000 in
theorem choosePivot_c (h : Sts H v us ls) (h1 : 13 ≤ ls.length) :
    ACalls Try.prog 251 [v, .int .i64 0, .int .i64 (ls.length : Int), fnCmp] H fun r H' => (∃ j : Int, r = .tuple (List.toArray [.int .i64 j, .int .i64 1])) ∧ H <+: H' := by
  refine in251 rfl ?_
  intro Q hQ
  have hb := h.bnd
  have hl := h.len
  obtain ⟨q, hqd⟩ : ∃ q, ls.length / 4 = q := ⟨_, rfl⟩
  have hq : IntKind.i64.wrap ((ls.length : Int).tdiv 4) = (q : Int) := by
    rw [Int.tdiv_eq_ediv_of_nonneg (by omega), wrap64 (by omega) (by omega)]
    omega
  have e1 : (0 : Int) + (q : Int) * 1 = (q : Int) := by omega
  have e2 : (0 : Int) + (q : Int) * 2 = ((2 * q : Nat) : Int) := by omega
  have e3 : (0 : Int) + (q : Int) * 3 = ((3 * q : Nat) : Int) := by omega
  have e0 : (ls.length : Int) - 0 = (ls.length : Int) := by omega
  simp (maxSteps := 1000000) (disch := omega) only [cd251, alloc_int, wrap64, e0, hq, e1, e2, e3, S, S1, S2, S3, S4, S5, ST, eq_self, reduceIte, reduceCtorEq, Nat.reduceEqDiff, Nat.reduceAdd]
  generalize hA : H ++ [AObj.cells [.int .i64 0] 3 false] = A
  have pA : H <+: A := by rw [← hA]; exact List.prefix_append _ _
  have cA : A[H.length]? = some (.cells [.int .i64 0] 3 false) := by rw [← hA]; exact at_new ..
  have hA2 := h.pre pA
  refine brD.intro (fun g => ?_) (fun g => absurd (show (ls.length : Int) ≥ 8 by omega) g)
  simp (maxSteps := 1000000) (disch := omega) only [S, S1, S2, S3, S4, S5, ST, eq_self, reduceIte, reduceCtorEq, Nat.reduceEqDiff, Nat.reduceAdd]
  refine brD.intro (fun g2 => ?_) (fun g2 => ?_)
  · simp (maxSteps := 1000000) (disch := omega) only [S, S1, S2, S3, S4, S5, ST, eq_self, reduceIte, reduceCtorEq, Nat.reduceEqDiff, Nat.reduceAdd]
    refine CallH.by (medianAdj_c hA2 q _ (by omega) (by omega)) ?_
    rintro _ _ ⟨rfl, rfl⟩
    simp (maxSteps := 1000000) (disch := omega) only [S, S1, S2, S3, S4, S5, ST, eq_self, reduceIte, reduceCtorEq, Nat.reduceEqDiff, Nat.reduceAdd]
    refine CallH.by (medianAdj_c hA2 (2 * q) _ (by omega) (by omega)) ?_
    rintro _ _ ⟨rfl, rfl⟩
    simp (maxSteps := 1000000) (disch := omega) only [S, S1, S2, S3, S4, S5, ST, eq_self, reduceIte, reduceCtorEq, Nat.reduceEqDiff, Nat.reduceAdd]
    refine CallH.by (medianAdj_c hA2 (3 * q) _ (by omega) (by omega)) ?_
    rintro _ _ ⟨rfl, rfl⟩
    simp (maxSteps := 1000000) (disch := omega) only [S, S1, S2, S3, S4, S5, ST, eq_self, reduceIte, reduceCtorEq, Nat.reduceEqDiff, Nat.reduceAdd]
    refine CallH.by (median_c hA2 q (2 * q) (3 * q) _ (by omega) (by omega) (by omega)) ?_
    rintro _ _ ⟨rfl, rfl⟩
    simp (maxSteps := 1000000) (disch := omega) only [cell_of cA, S, S1, S2, S3, S4, S5, ST, eq_self, reduceIte, reduceCtorEq, Nat.reduceEqDiff, Nat.reduceAdd]
    first
      | (refine brD.intro (fun _ => ?_) (fun g3 => absurd rfl g3)
         simp (maxSteps := 1000000) (disch := omega) only [S, S1, S2, S3, S4, S5, ST, eq_self, reduceIte, reduceCtorEq, Nat.reduceEqDiff, Nat.reduceAdd])
      | skip
    refine hQ _ _ _ ?_
    simp (maxSteps := 1000000) (disch := omega) only [S, S1, S2, S3, S4, S5, ST, eq_self, reduceIte, reduceCtorEq, Nat.reduceEqDiff, Nat.reduceAdd]
    exact ⟨⟨_, rfl⟩, pA⟩
  · simp (maxSteps := 1000000) (disch := omega) only [S, S1, S2, S3, S4, S5, ST, eq_self, reduceIte, reduceCtorEq, Nat.reduceEqDiff, Nat.reduceAdd]
    refine CallH.by (median_c hA2 q (2 * q) (3 * q) _ (by omega) (by omega) (by omega)) ?_
    rintro _ _ ⟨rfl, rfl⟩
    simp (maxSteps := 1000000) (disch := omega) only [cell_of cA, S, S1, S2, S3, S4, S5, ST, eq_self, reduceIte, reduceCtorEq, Nat.reduceEqDiff, Nat.reduceAdd]
    first
      | (refine brD.intro (fun _ => ?_) (fun g3 => absurd rfl g3)
         simp (maxSteps := 1000000) (disch := omega) only [S, S1, S2, S3, S4, S5, ST, eq_self, reduceIte, reduceCtorEq, Nat.reduceEqDiff, Nat.reduceAdd])
      | skip
    refine hQ _ _ _ ?_
    simp (maxSteps := 1000000) (disch := omega) only [S, S1, S2, S3, S4, S5, ST, eq_self, reduceIte, reduceCtorEq, Nat.reduceEqDiff, Nat.reduceAdd]
    exact ⟨⟨_, rfl⟩, pA⟩
set_option maxRecDepth 20000 in
set_option maxHeartbeats 1000000 in
theorem pdqCmp_c (h : Sts H v us ls) (lim : Int) (hlim : lim ≠ 0 ∨ ls.length ≤ 12) :
    ACalls Try.prog 211 [v, .int .i64 0, .int .i64 (ls.length : Int), .int .i64 lim, fnCmp] H fun r H' => H <+: H' := by
  refine in211 rfl ?_
  intro Q hQ
  have hb := h.bnd
  have e0 : (ls.length : Int) - 0 = (ls.length : Int) := by omega
  simp (maxSteps := 1000000) (disch := omega) only [cd211, S, S1, S2, S3, S4, S5, ST, eq_self, reduceIte, reduceCtorEq, Nat.reduceEqDiff, Nat.reduceAdd]
  refine LoopH.by (fun m s H' => s 0 = v ∧ s 1 = .int .i64 0 ∧ s 2 = .int .i64 (ls.length : Int) ∧ s 3 = .int .i64 lim ∧ s 4 = fnCmp ∧ s 10 = .bool true ∧ s 11 = .bool true ∧ H = H') 0 ?_ ?_
  · exact ⟨rfl, rfl, rfl, rfl, rfl, rfl, rfl, rfl⟩
  · rintro m s H' ⟨h0, h1, h2, h3, h4, h10, h11, rfl⟩
    simp (maxSteps := 1000000) (disch := omega) only [h0, h1, h2, h3, h4, h10, h11, wrap64, e0, S, S1, S2, S3, S4, S5, ST, eq_self, reduceIte, reduceCtorEq, Nat.reduceEqDiff, Nat.reduceAdd]
    refine brD.intro (fun g => ?_) (fun g => ?_)
    · simp (maxSteps := 1000000) (disch := omega) only [h0, h1, h2, h3, h4, h10, h11, S, S1, S2, S3, S4, S5, ST, eq_self, reduceIte, reduceCtorEq, Nat.reduceEqDiff, Nat.reduceAdd]
      refine CallH.by (insCmp_c h) ?_
      rintro _ _ rfl
      simp (maxSteps := 1000000) (disch := omega) only [S, S1, S2, S3, S4, S5, ST, eq_self, reduceIte, reduceCtorEq, Nat.reduceEqDiff, Nat.reduceAdd]
      refine hQ _ _ _ ?_
      simp (maxSteps := 1000000) (disch := omega) only [S, S1, S2, S3, S4, S5, ST, eq_self, reduceIte, reduceCtorEq, Nat.reduceEqDiff, Nat.reduceAdd]
      exact List.prefix_refl _
    · have hlim' : lim ≠ 0 := hlim.resolve_right (by omega)
      simp (maxSteps := 1000000) (disch := omega) only [h0, h1, h2, h3, h4, h10, h11, S, S1, S2, S3, S4, S5, ST, eq_self, reduceIte, reduceCtorEq, Nat.reduceEqDiff, Nat.reduceAdd]
      refine brD.intro (fun g2 => absurd g2 hlim') (fun g2 => ?_)
      simp (maxSteps := 1000000) (disch := omega) only [h0, h1, h2, h3, h4, h10, h11, S, S1, S2, S3, S4, S5, ST, eq_self, reduceIte, reduceCtorEq, Nat.reduceEqDiff, Nat.reduceAdd]
      refine CallH.by (choosePivot_c h (by omega)) ?_
      rintro _ A ⟨⟨j, rfl⟩, pA⟩
      simp (maxSteps := 1000000) (disch := omega) only [h0, h1, h2, h3, h4, h10, h11, S, S1, S2, S3, S4, S5, ST, eq_self, reduceIte, reduceCtorEq, Nat.reduceEqDiff, Nat.reduceAdd]
      refine brD.intro (fun g3 => absurd g3 (by decide)) (fun g3 => ?_)
      simp (maxSteps := 1000000) (disch := omega) only [h0, h1, h2, h3, h4, h10, h11, S, S1, S2, S3, S4, S5, ST, eq_self, reduceIte, reduceCtorEq, Nat.reduceEqDiff, Nat.reduceAdd]
      refine CallH.by (partialIns_c (h.pre pA) (by omega)) ?_
      rintro _ _ ⟨rfl, rfl⟩
      simp (maxSteps := 1000000) (disch := omega) only [S, S1, S2, S3, S4, S5, ST, eq_self, reduceIte, reduceCtorEq, Nat.reduceEqDiff, Nat.reduceAdd]
      refine hQ _ _ _ ?_
      simp (maxSteps := 1000000) (disch := omega) only [S, S1, S2, S3, S4, S5, ST, eq_self, reduceIte, reduceCtorEq, Nat.reduceEqDiff, Nat.reduceAdd]
      exact pA
end
end Go.Proofs.Ytlfongfhbkefmaa.Ai
namespace Go.Proofs.Ytlfongfhbkefmaa.Ai
open Go
def ords156 : List (Nat × List (Nat × Bool)) := []
def cd156 : Cd := (.seq (.reg [⟨⟨some 5, Op.move (Operand.tmp 0), none⟩, []⟩,
  ⟨⟨some 6, Op.call { callee := (Callee.builtin Builtin.len), args := #[(Operand.tmp 5)], argTypes := #[26] }, none⟩, []⟩,
  ⟨⟨some 4, Op.assign (Operand.tmp 6), none⟩, []⟩]) (.reg [⟨⟨some 7, Op.move (Operand.tmp 0), none⟩, []⟩,
  ⟨⟨some 8, Op.move (Operand.tmp 4), none⟩, []⟩,
  ⟨⟨some 9, Op.move (Operand.tmp 4), none⟩, []⟩,
  ⟨⟨some 10, Op.convert 3 97 (Operand.tmp 9), none⟩, []⟩,
  ⟨⟨some 11, Op.call { callee := (Callee.value (Operand.func 166)), args := #[(Operand.tmp 10)], argTypes := #[97] }, none⟩, []⟩,
  ⟨⟨some 12, Op.move (Operand.tmp 1), none⟩, []⟩,
  ⟨⟨some 13, Op.call { callee := (Callee.value (Operand.func 211)), args := #[(Operand.tmp 7), (Operand.const (Value.int IntKind.i64 0)), (Operand.tmp 8), (Operand.tmp 11), (Operand.tmp 12)], argTypes := #[26, 3, 3, 3, 105] }, none⟩, []⟩]))
theorem sl156 : slim Try.f156.ntmps ords156 (Try.f156.body.getD .skip) = some cd156 := by kernel_rfl
theorem in156 {args : List Value} {H : AH} {R : Value → AH → Prop} (hl : args.length = 2) (h : ∀ (Q : Exit → Sl → AH → Prop), (∀ e s H, endA Try.prog [] R e s H → Q e s H) → wpC Try.prog cd156 Q (enterA args) H) : ACalls Try.prog 156 args H R :=
  ACalls.intro (by kernel_rfl) Try.func156 rfl (by kernel_rfl) sl156 hl (of_decide_eq_true (by kernel_rfl)) (by kernel_rfl) h
end Go.Proofs.Ytlfongfhbkefmaa.Ai
namespace Go.Proofs.Ytlfongfhbkefmaa.Ai
open Go Go.RowKit
set_option linter.unusedVariables false
set_option linter.unusedSimpArgs false
theorem str_at {P : Program} {t : TypeId} (hu : P.underlying t = some .string) (s : ByteArray) (hz : s.size = 256) (hp : ∀ i : Fin 256, 0 < i.1 → 1 ≤ (s.data.getD i.1 0).toNat) (k : IntKind) (n : Nat) (h0 : 0 < n) (h1 : n < 256) : ∃ b : Nat, 1 ≤ b ∧ b < 256 ∧ indexA P t (.string s) (.int k (n : Int)) = some (.int .u8 (b : Int)) := by
  have hl : n < s.data.size := by have : s.data.size = 256 := hz; omega
  have hlt : n < s.size := by omega
  have e1 : s[(n : Int).toNat]? = some s[n] := by rw [Int.toNat_natCast]; simp [hlt]
  have e2 := hp ⟨n, h1⟩ h0
  have e3 : s.data.getD n 0 = s[n] := by
    rw [Array.getD_eq_getD_getElem?, Array.getElem?_eq_getElem hl]; rfl
  refine ⟨s[n].toNat, ?_, UInt8.toNat_lt _, ?_⟩
  · rw [← e3]; exact e2
  · simp only [indexA, hu, if_pos (show (0 : Int) ≤ n by omega), e1]
set_option maxRecDepth 20000 in
theorem Len64b_c (n : Nat) (H : AH) (h0 : 0 < n) (hn : n < 65536) : ACalls Try.prog 225 [.int .u64 (n : Int)] H fun r H' => (∃ k : Int, r = .int .i64 k ∧ 1 ≤ k) ∧ H = H' := by
  refine in225 rfl ?_
  intro Q hQ
  have k8 : binA Try.prog .shr 122 (.int .u64 (n : Int)) (.int .u64 8) = some (.int .u64 ((n / 256 : Nat) : Int)) := by
    simp only [binA, shiftA]
    rw [if_pos (.inr trivial), if_neg (by decide)]
    congr 2
    have : (2 ^ min (8 : Int).toNat IntKind.u64.bits : Int) = 256 := by decide
    rw [this, Int.fdiv_eq_ediv_of_nonneg _ (by decide)]
    omega
  simp (maxSteps := 1000000) (disch := omega) only [cd225, S, S1, S2, S3, S4, S5, ST, eq_self, reduceIte, reduceCtorEq, Nat.reduceEqDiff, Nat.reduceAdd]
  refine brD.intro (fun h => absurd h (by omega)) (fun _ => ?_)
  simp (maxSteps := 1000000) (disch := omega) only [S, S1, S2, S3, S4, S5, ST, eq_self, reduceIte, reduceCtorEq, Nat.reduceEqDiff, Nat.reduceAdd]
  refine brD.intro (fun h => absurd h (by omega)) (fun _ => ?_)
  simp (maxSteps := 1000000) (disch := omega) only [S, S1, S2, S3, S4, S5, ST, eq_self, reduceIte, reduceCtorEq, Nat.reduceEqDiff, Nat.reduceAdd]
  refine brD.intro (fun h => ?_) (fun h => ?_)
  · have hw : IntKind.u8.wrap ((n / 256 : Nat) : Int) = ((n / 256 : Nat) : Int) := wrapU8 (by omega) (by omega)
    simp (maxSteps := 1000000) (disch := omega) only [k8, hw, wrap64, S, S1, S2, S3, S4, S5, ST, eq_self, reduceIte, reduceCtorEq, Nat.reduceEqDiff, Nat.reduceAdd]
    generalize hs : (ByteArray.mk _) = s
    have hz : s.size = 256 := by rw [← hs]; rfl
    have hp : ∀ i : Fin 256, 0 < i.1 → 1 ≤ (s.data.getD i.1 0).toNat := by rw [← hs]; decide +kernel
    obtain ⟨b, hb1, hb2, hb⟩ := str_at (P := Try.prog) Try.underlying9 s hz hp .u8 (n / 256) (by omega) (by omega)
    simp (maxSteps := 1000000) (disch := omega) only [hb, wrap64, S, S1, S2, S3, S4, S5, ST, eq_self, reduceIte, reduceCtorEq, Nat.reduceEqDiff, Nat.reduceAdd]
    refine hQ _ _ _ ?_
    simp (maxSteps := 1000000) (disch := omega) only [S, S1, S2, S3, S4, S5, ST, eq_self, reduceIte, reduceCtorEq, Nat.reduceEqDiff, Nat.reduceAdd]
    exact ⟨_, rfl, by omega⟩
  · have hw : IntKind.u8.wrap (n : Int) = (n : Int) := wrapU8 (by omega) (by omega)
    simp (maxSteps := 1000000) (disch := omega) only [hw, wrap64, S, S1, S2, S3, S4, S5, ST, eq_self, reduceIte, reduceCtorEq, Nat.reduceEqDiff, Nat.reduceAdd]
    generalize hs : (ByteArray.mk _) = s
    have hz : s.size = 256 := by rw [← hs]; rfl
    have hp : ∀ i : Fin 256, 0 < i.1 → 1 ≤ (s.data.getD i.1 0).toNat := by rw [← hs]; decide +kernel
    obtain ⟨b, hb1, hb2, hb⟩ := str_at (P := Try.prog) Try.underlying9 s hz hp .u8 n (by omega) (by omega)
    simp (maxSteps := 1000000) (disch := omega) only [hb, wrap64, S, S1, S2, S3, S4, S5, ST, eq_self, reduceIte, reduceCtorEq, Nat.reduceEqDiff, Nat.reduceAdd]
    refine hQ _ _ _ ?_
    simp (maxSteps := 1000000) (disch := omega) only [S, S1, S2, S3, S4, S5, ST, eq_self, reduceIte, reduceCtorEq, Nat.reduceEqDiff, Nat.reduceAdd]
    exact ⟨_, rfl, by omega⟩
theorem Lenb_c (n : Nat) (H : AH) (h0 : 0 < n) (hn : n < 65536) : ACalls Try.prog 166 [.int .u64 (n : Int)] H fun r H' => (∃ k : Int, r = .int .i64 k ∧ 1 ≤ k) ∧ H = H' := by
  refine in166 rfl ?_
  intro Q hQ
  simp (maxSteps := 1000000) (disch := omega) only [cd166, S, S1, S2, S3, S4, S5, ST, eq_self, reduceIte, reduceCtorEq, Nat.reduceEqDiff, Nat.reduceAdd]
  refine CallH.by (Len64b_c n H h0 hn) ?_
  rintro _ _ ⟨⟨k, rfl, hk⟩, rfl⟩
  simp (maxSteps := 1000000) (disch := omega) only [S, S1, S2, S3, S4, S5, ST, eq_self, reduceIte, reduceCtorEq, Nat.reduceEqDiff, Nat.reduceAdd]
  refine hQ _ _ _ ?_
  simp (maxSteps := 1000000) (disch := omega) only [S, S1, S2, S3, S4, S5, ST, eq_self, reduceIte, reduceCtorEq, Nat.reduceEqDiff, Nat.reduceAdd]
  exact ⟨_, rfl, hk⟩
theorem str_z {P : Program} {t : TypeId} (hu : P.underlying t = some .string) (s : ByteArray) (hz : s.size = 256) (k : IntKind) (n : Nat) (h1 : n < 256) : ∃ b : Nat, b < 256 ∧ indexA P t (.string s) (.int k (n : Int)) = some (.int .u8 (b : Int)) := by
  have hlt : n < s.size := by omega
  have e1 : s[(n : Int).toNat]? = some s[n] := by rw [Int.toNat_natCast]; simp [hlt]
  refine ⟨s[n].toNat, UInt8.toNat_lt _, ?_⟩
  simp only [indexA, hu, if_pos (show (0 : Int) ≤ n by omega), e1]
set_option maxRecDepth 20000 in
theorem Len64z_c (n : Nat) (H : AH) (h0 : n = 0) : ACalls Try.prog 225 [.int .u64 (n : Int)] H fun r H' => (∃ k : Int, r = .int .i64 k) ∧ H = H' := by
  refine in225 rfl ?_
  intro Q hQ
  simp (maxSteps := 1000000) (disch := omega) only [cd225, S, S1, S2, S3, S4, S5, ST, eq_self, reduceIte, reduceCtorEq, Nat.reduceEqDiff, Nat.reduceAdd]
  refine brD.intro (fun h => absurd h (by omega)) (fun _ => ?_)
  simp (maxSteps := 1000000) (disch := omega) only [S, S1, S2, S3, S4, S5, ST, eq_self, reduceIte, reduceCtorEq, Nat.reduceEqDiff, Nat.reduceAdd]
  refine brD.intro (fun h => absurd h (by omega)) (fun _ => ?_)
  simp (maxSteps := 1000000) (disch := omega) only [S, S1, S2, S3, S4, S5, ST, eq_self, reduceIte, reduceCtorEq, Nat.reduceEqDiff, Nat.reduceAdd]
  refine brD.intro (fun h => absurd h (by omega)) (fun _ => ?_)
  have hw : IntKind.u8.wrap (n : Int) = (n : Int) := wrapU8 (by omega) (by omega)
  simp (maxSteps := 1000000) (disch := omega) only [hw, wrap64, S, S1, S2, S3, S4, S5, ST, eq_self, reduceIte, reduceCtorEq, Nat.reduceEqDiff, Nat.reduceAdd]
  generalize hs : (ByteArray.mk _) = s
  have hz : s.size = 256 := by rw [← hs]; rfl
  obtain ⟨b, hb2, hb⟩ := str_z (P := Try.prog) Try.underlying9 s hz .u8 n (by omega)
  simp (maxSteps := 1000000) (disch := omega) only [hb, wrap64, S, S1, S2, S3, S4, S5, ST, eq_self, reduceIte, reduceCtorEq, Nat.reduceEqDiff, Nat.reduceAdd]
  refine hQ _ _ _ ?_
  simp (maxSteps := 1000000) (disch := omega) only [S, S1, S2, S3, S4, S5, ST, eq_self, reduceIte, reduceCtorEq, Nat.reduceEqDiff, Nat.reduceAdd]
  exact ⟨_, rfl⟩
theorem Lenz_c (n : Nat) (H : AH) (h0 : n = 0) : ACalls Try.prog 166 [.int .u64 (n : Int)] H fun r H' => (∃ k : Int, r = .int .i64 k) ∧ H = H' := by
  refine in166 rfl ?_
  intro Q hQ
  simp (maxSteps := 1000000) (disch := omega) only [cd166, S, S1, S2, S3, S4, S5, ST, eq_self, reduceIte, reduceCtorEq, Nat.reduceEqDiff, Nat.reduceAdd]
  refine CallH.by (Len64z_c n H h0) ?_
  rintro _ _ ⟨⟨k, rfl⟩, rfl⟩
  simp (maxSteps := 1000000) (disch := omega) only [S, S1, S2, S3, S4, S5, ST, eq_self, reduceIte, reduceCtorEq, Nat.reduceEqDiff, Nat.reduceAdd]
  refine hQ _ _ _ ?_
  simp (maxSteps := 1000000) (disch := omega) only [S, S1, S2, S3, S4, S5, ST, eq_self, reduceIte, reduceCtorEq, Nat.reduceEqDiff, Nat.reduceAdd]
  exact ⟨_, rfl⟩
theorem SortFunc_c {H : AH} {v : Value} {us : List Value} {ls : List (List Int)} (h : Sts H v us ls) :
    ACalls Try.prog 156 [v, fnCmp] H fun r H' => H <+: H' := by
  refine in156 rfl ?_
  intro Q hQ
  have hb := h.bnd
  have hl := h.len
  have hU : IntKind.u64.wrap (ls.length : Int) = (ls.length : Int) := by rw [IntKind.wrap_u64]; omega
  simp (maxSteps := 1000000) (disch := omega) only [cd156, h.row.len Try.underlying26, hl, hU, S, S1, S2, S3, S4, S5, ST, eq_self, reduceIte, reduceCtorEq, Nat.reduceEqDiff, Nat.reduceAdd]
  by_cases h1 : 1 ≤ ls.length
  rotate_left
  · refine CallH.by (Lenz_c ls.length H (by omega)) ?_
    rintro _ _ ⟨⟨k, rfl⟩, rfl⟩
    simp (maxSteps := 1000000) (disch := omega) only [S, S1, S2, S3, S4, S5, ST, eq_self, reduceIte, reduceCtorEq, Nat.reduceEqDiff, Nat.reduceAdd]
    refine CallH.by (pdqCmp_c h k (.inr (by omega))) ?_
    rintro _ B hB
    simp (maxSteps := 1000000) (disch := omega) only [S, S1, S2, S3, S4, S5, ST, eq_self, reduceIte, reduceCtorEq, Nat.reduceEqDiff, Nat.reduceAdd]
    refine hQ _ _ _ ?_
    simp (maxSteps := 1000000) (disch := omega) only [S, S1, S2, S3, S4, S5, ST, eq_self, reduceIte, reduceCtorEq, Nat.reduceEqDiff, Nat.reduceAdd]
    exact hB
  refine CallH.by (Lenb_c ls.length H (by omega) (by omega)) ?_
  rintro _ _ ⟨⟨k, rfl, hk⟩, rfl⟩
  simp (maxSteps := 1000000) (disch := omega) only [S, S1, S2, S3, S4, S5, ST, eq_self, reduceIte, reduceCtorEq, Nat.reduceEqDiff, Nat.reduceAdd]
  refine CallH.by (pdqCmp_c h k (.inl (by omega))) ?_
  rintro _ B hB
  simp (maxSteps := 1000000) (disch := omega) only [S, S1, S2, S3, S4, S5, ST, eq_self, reduceIte, reduceCtorEq, Nat.reduceEqDiff, Nat.reduceAdd]
  refine hQ _ _ _ ?_
  simp (maxSteps := 1000000) (disch := omega) only [S, S1, S2, S3, S4, S5, ST, eq_self, reduceIte, reduceCtorEq, Nat.reduceEqDiff, Nat.reduceAdd]
  exact hB
end Go.Proofs.Ytlfongfhbkefmaa.Ai
namespace Go.Proofs.Ytlfongfhbkefmaa.Ai
open Go
set_option linter.unusedVariables false
theorem cmpL_pre : ∀ (p a b : List Int), cmpL (p ++ a) (p ++ b) = cmpL a b
  | [], a, b => rfl
  | x :: p, a, b => by
    show cmpL (x :: (p ++ a)) (x :: (p ++ b)) = _
    rw [cmpL]
    have : cmpI x x = 0 := by unfold cmpI; simp
    simp only [this]
    simpa using cmpL_pre p a b
theorem srtL_of {ls : List (List Int)} (h : ls.Pairwise fun x y => 0 < cmpL y x) : SrtL ls := by
  intro i j hij hj
  rw [List.pairwise_iff_getElem] at h
  have := h i j (by omega) hj hij
  have e1 : ls.getD i [] = ls[i] := by simp [show i < ls.length by omega]
  have e2 : ls.getD j [] = ls[j] := by simp [hj]
  rw [e1, e2]; exact this
theorem cmpL_head (p r q : List Int) {e f : Int} (h : e < f) : 0 < cmpL (p ++ f :: q) (p ++ e :: r) := by
  rw [cmpL_pre, cmpL]
  have h1 : cmpI f e = 1 := by
    unfold cmpI
    have a : ¬ f < e := by omega
    simp [a, h]
  rw [h1, if_pos (by decide)]; decide
theorem mall_head {es : List (Int × Int)} {k : Nat} {ed M : List Int} (hk : k ≤ es.length) (hM : M ∈ mall es k ed) : ∃ f q, M = ed ++ f :: q ∧ ((es.length - k : Nat) : Int) ≤ f := by
  obtain ⟨r, h1, h2⟩ := mall_new es k ed hk M hM
  have h3 := mall_longer es k ed M hM
  cases r with
  | nil => rw [h1] at h3; simp at h3
  | cons f q => exact ⟨f, q, h1, (h2 f (by simp)).1⟩
theorem mlpE_pw (es : List (Int × Int)) (j : Nat) : ∀ (k : Nat), k ≤ es.length → ∀ ed, (mlpE es k ed j).Pairwise fun x y => 0 < cmpL y x
  | 0, _, ed => by
    have : mlpE es 0 ed j = [] := rfl
    rw [this]; exact .nil
  | k + 1, hk, ed => by
    have ih := mlpE_pw es j k (by omega)
    rw [mlpE_step, List.pairwise_append]
    refine ⟨?_, ih ed, fun x hx y hy => ?_⟩
    · split
      · by_cases e : (ed ++ [((es.length - (k + 1) : Nat) : Int)]).length = j
        · subst e
          rw [mext_done]; simp
        · rw [mext_loop _ _ _ _ e]; exact ih _
      · exact .nil
    · have hx1 : ∃ r, x = ed ++ ((es.length - (k + 1) : Nat) : Int) :: r := by
        split at hx
        · unfold mext at hx
          rcases List.mem_cons.1 (List.mem_filter.1 hx).1 with rfl | h
          · exact ⟨[], rfl⟩
          · obtain ⟨f, q, h1, _⟩ := mall_head (by omega) h
            exact ⟨f :: q, by rw [h1]; simp⟩
        · simp at hx
      obtain ⟨r, rfl⟩ := hx1
      unfold mlpE at hy
      obtain ⟨f, q, rfl, hf⟩ := mall_head (by omega) (List.mem_filter.1 hy).1
      exact cmpL_head ed r q (by omega)
theorem mext_srt (es : List (Int × Int)) (j : Nat) : SrtL (mext es es.length [] j) := by
  refine srtL_of ?_
  by_cases e : ([] : List Int).length = j
  · subst e
    rw [mext_done]; simp
  · rw [mext_loop _ _ _ _ e]; exact mlpE_pw es j es.length (Nat.le_refl _) []
end Go.Proofs.Ytlfongfhbkefmaa.Ai
namespace Go.Proofs.Ytlfongfhbkefmaa.Ai
open Go
set_option linter.unusedVariables false
theorem mext_asc {n : Int} {es : List (Int × Int)} (hg : Grd n es) {j : Nat} : ∀ x ∈ mext es es.length [] j, x.Pairwise (· < ·) := by
  have key : ∀ (k : Nat) (ed : List Int), k ≤ es.length → ed.Pairwise (· < ·) → (∀ e ∈ ed, e < ((es.length - k : Nat) : Int)) → ∀ x ∈ mall es k ed, x.Pairwise (· < ·) := by
    intro k
    induction k with
    | zero => intro ed _ _ _ x hx; simp [mall] at hx
    | succ k ih =>
      intro ed hk hp he x hx
      have hp2 : (ed ++ [((es.length - (k + 1) : Nat) : Int)]).Pairwise (· < ·) := by
        rw [List.pairwise_append]
        exact ⟨hp, by simp, fun a ha b hb => by rw [List.mem_singleton.1 hb]; exact he a ha⟩
      simp only [mall, List.mem_append] at hx
      rcases hx with hx | hx
      · split at hx
        · rcases List.mem_cons.1 hx with rfl | hx
          · exact hp2
          · refine ih _ (by omega) hp2 (fun e h => ?_) x hx
            rcases List.mem_append.1 h with h | h
            · have := he e h; omega
            · rw [List.mem_singleton.1 h]; omega
        · simp at hx
      · exact ih ed (by omega) hp (fun e h => by have := he e h; omega) x hx
  intro x hx
  unfold mext at hx
  rcases List.mem_cons.1 (List.mem_filter.1 hx).1 with rfl | h
  · exact .nil
  · exact key es.length [] (Nat.le_refl _) .nil (fun e h => absurd h (by simp)) x h
theorem mext_mtc {n : Int} {es : List (Int × Int)} (hg : Grd n es) {j : Nat} : ∀ x ∈ mext es es.length [] j, Mtc es x := by
  intro x hx
  have hr := mext_asc hg x hx
  have h0 := (List.mem_filter.1 (show x ∈ ([] :: mall es es.length []).filter _ from hx)).1
  have hm : Mgo n es x := by
    rcases List.mem_cons.1 h0 with rfl | h
    · exact Mgo.nil n es
    · exact Mgo.all hg es.length [] (Nat.le_refl _) (Mgo.nil n es) x h
  have hb : ∀ e ∈ x, 0 ≤ e ∧ e < es.length := by
    rcases List.mem_cons.1 h0 with rfl | h
    · simp
    · obtain ⟨r, h1, h2⟩ := mall_new es es.length [] (Nat.le_refl _) x h
      intro e he
      rw [h1, List.nil_append] at he
      have := h2 e he; omega
  intro i hi
  have e1 : x.getD i 0 = x[i] := by simp [hi]
  refine ⟨⟨?_, fun hi0 => ?_⟩, ?_⟩
  · have := hb _ (List.getElem_mem hi)
    rw [e1]; omega
  · have e2 : x.getD (i - 1) 0 = x[i - 1] := by simp [show i - 1 < x.length by omega]
    rw [List.pairwise_iff_getElem] at hr
    have := hr (i - 1) i (by omega) hi (by omega)
    rw [e1, e2]; exact this
  · have hs := seenL_take es x i hi
    have hn : (seenL es (x.take (i + 1))).Nodup := by
      have := hm.1
      rw [← List.take_append_drop (i + 1) x, seenL_append] at this
      exact (List.nodup_append.1 this).1
    rw [hs, List.nodup_append] at hn
    exact ⟨fun h => hn.2.2 _ h _ (by simp) rfl, fun h => hn.2.2 _ h _ (by simp) rfl⟩
theorem perf_mtc {n : Int} {es : List (Int × Int)} (hg : Grd n es) {x : List Int} (hx : x ∈ perfL n es) : Mtc es x ∧ 2 * x.length = n.toNat := by
  unfold perfL at hx
  split at hx
  · simp at hx
  · refine ⟨mext_mtc hg x hx, ?_⟩
    have := mext_lenP (n := n) hx
    omega
theorem perf_srt {n : Int} {es : List (Int × Int)} : SrtL (perfL n es) := by
  unfold perfL
  split
  · intro i j _ hj; simp at hj
  · exact mext_srt es _
theorem dix_asc (a b : List Int) : ∀ k, (dix a b k).Pairwise (· < ·)
  | 0 => .nil
  | k + 1 => by
    simp only [dix]
    rw [List.pairwise_append]
    refine ⟨dix_asc a b k, by split <;> simp, fun x hx y hy => ?_⟩
    have := ((dix_mem a b x k).1 hx).1
    split at hy
    · rw [List.mem_singleton] at hy; omega
    · simp at hy
theorem asc_nodup {l : List Int} (h : l.Pairwise (· < ·)) : l.Nodup := h.imp fun h e => by omega
theorem seen_sub (es : List (Int × Int)) (p : Int → Bool) : ∀ l : List Int, (seenL es (l.filter p)).Sublist (seenL es l)
  | [] => by simp [seenL]
  | a :: l => by
    have ih := seen_sub es p l
    rw [List.filter_cons]
    split
    · show ([ed1 es a, ed2 es a] ++ seenL es (l.filter p)).Sublist ([ed1 es a, ed2 es a] ++ seenL es l)
      exact ih.append_left _
    · show (seenL es (l.filter p)).Sublist ([ed1 es a, ed2 es a] ++ seenL es l)
      exact ih.trans (List.sublist_append_right _ _)
theorem filt_two (p : Int → Bool) : ∀ l : List Int, l.length = (l.filter p).length + (l.filter fun e => !p e).length
  | [] => rfl
  | a :: l => by
    have := filt_two p l
    cases h : p a <;> simp [h] <;> omega
theorem both_le (x y : List Int) (hx : x.Nodup) : (x.filter fun e => decide (e ∈ y)).length ≤ (y.filter fun e => decide (e ∈ x)).length := by
  refine nodup_le_of _ _ (hx.filter _) fun z hz => ?_
  have := List.mem_filter.1 hz
  exact List.mem_filter.2 ⟨by simpa using this.2, by simpa using this.1⟩
section
variable {n : Nat} {es : List (Int × Int)} (hg : Grd (n : Int) es)
include hg
theorem sq_dom {a b : List Int} (hma : Mtc es a) (hmb : Mtc es b) (hla : 2 * a.length = n) (hlb : 2 * b.length = n) (x : Int) : x ∈ domL (dE es a b) n n ↔ (0 ≤ x ∧ x < n) ∧ mateF es a x ≠ mateF es b x := by
  rw [domL_mem]
  refine and_congr_right fun hx => ?_
  rw [nbB_iff]
  constructor
  · rintro ⟨y, hy, hn⟩
    exact ((diff_near hg hma hmb hla hlb hx).1 hn).1
  · intro h
    have hA := mate_ok hg hma hla
    exact ⟨mateF es a x, hA.in_ x hx, (diff_near hg hma hmb hla hlb hx).2 ⟨h, .inl rfl⟩⟩
theorem sq_piece {a b : List Int} (hma : Mtc es a) (hmb : Mtc es b) (hla : 2 * a.length = n) (hlb : 2 * b.length = n) {P : List Int} (hP : P ∈ piecesL (dE es a b) (domL (dE es a b) n n)) : 4 ≤ P.length := by
  have hA := mate_ok hg hma hla
  have hB := mate_ok hg hmb hlb
  have hs := (sq_dom hg hma hmb hla hlb _).1 (piece_sub hP (piece_first hP))
  obtain ⟨p, _, hp⟩ := per_ex hA hB hs.1
  have hl := alt_piece hg hma hmb hla hlb hP hp
  have h1 := hp.pos
  have h2 : p ≠ 1 := by
    rintro rfl
    have hr : mateF es b (mateF es a (P.getD 0 0)) = P.getD 0 0 := hp.ret
    have := hB.inv _ (hA.in_ _ hs.1)
    rw [hr] at this
    exact hs.2 this.symm
  omega
/-- as many edges as nodes -/
theorem sq_hand {a b : List Int} (hma : Mtc es a) (hmb : Mtc es b) (hla : 2 * a.length = n) (hlb : 2 * b.length = n) (hpa : a.Nodup) (hpb : b.Nodup) : (dix a b es.length).length = (domL (dE es a b) n n).length := by
  have hV : (domL (dE es a b) n n).Nodup := by
    unfold domL
    exact (asc_nodup (alls_srt n)).filter _
  have h1 : (dix a b es.length).length = (a.filter fun e => !decide (e ∈ b)).length + (b.filter fun e => !decide (e ∈ a)).length := by
    have hn : ((a.filter fun e => !decide (e ∈ b)) ++ (b.filter fun e => !decide (e ∈ a))).Nodup := by
      rw [List.nodup_append]
      refine ⟨hpa.filter _, hpb.filter _, fun x hx y hy e => ?_⟩
      subst e
      have g1 := List.mem_filter.1 hx
      have g2 := List.mem_filter.1 hy
      simp [g2.1] at g1
    have hm : ∀ x, x ∈ dix a b es.length ↔ x ∈ (a.filter fun e => !decide (e ∈ b)) ++ (b.filter fun e => !decide (e ∈ a)) := by
      intro x
      rw [dix_mem, List.mem_append, List.mem_filter, List.mem_filter]
      have ra := mtc_rng hma x
      have rb := mtc_rng hmb x
      by_cases ia : x ∈ a <;> by_cases ib : x ∈ b <;> simp [ia, ib]
      · exact ra ia
      · exact rb ib
    rw [← List.length_append]
    exact Nat.le_antisymm (nodup_le_of _ _ (asc_nodup (dix_asc a b _)) fun x hx => (hm x).1 hx) (nodup_le_of _ _ hn fun x hx => (hm x).2 hx)
  have h2 : (a.filter fun e => !decide (e ∈ b)).length = (b.filter fun e => !decide (e ∈ a)).length := by
    have s1 := filt_two (fun e => decide (e ∈ b)) a
    have s2 := filt_two (fun e => decide (e ∈ a)) b
    have i1 := both_le a b hpa
    have i2 := both_le b a hpb
    omega
  have h3 : (domL (dE es a b) n n).length = (seenL es (a.filter fun e => !decide (e ∈ b))).length := by
    have hn : (seenL es (a.filter fun e => !decide (e ∈ b))).Nodup := (seen_sub es _ a).nodup (seen_nodup hg hma)
    have da := mateF_ed es a (seen_nodup hg hma)
    have db := mateF_ed es b (seen_nodup hg hmb)
    have hm : ∀ x, x ∈ domL (dE es a b) n n ↔ x ∈ seenL es (a.filter fun e => !decide (e ∈ b)) := by
      intro x
      rw [sq_dom hg hma hmb hla hlb, seenL_memP]
      constructor
      · rintro ⟨hx, hne⟩
        obtain ⟨i, hi, e⟩ := (seenL_memP es a x).1 (seen_all hg hma hla hx)
        refine ⟨i, List.mem_filter.2 ⟨hi, ?_⟩, e⟩
        have : i ∉ b := fun ib => by
          have g1 := da i hi
          have g2 := db i ib
          rcases e with rfl | rfl
          · exact hne (g1.1.trans g2.1.symm)
          · exact hne (g1.2.trans g2.2.symm)
        simp [this]
      · rintro ⟨i, hi, e⟩
        obtain ⟨ia, ib⟩ := List.mem_filter.1 hi
        have ib : i ∉ b := by simpa using ib
        obtain ⟨r1, r2, r3, r4⟩ := ed_rng hg hma ia
        have ri := mtc_rng hma i ia
        have hd : (ed1 es i, ed2 es i) ∈ dE es a b := by
          unfold dE dED
          refine List.mem_map.2 ⟨i, (dix_mem a b i es.length).2 ⟨ri, ?_⟩, rfl⟩
          rw [decide_eq_true ia, decide_eq_false ib]; rfl
        rcases e with rfl | rfl
        · exact ⟨by omega, ((diff_near hg hma hmb hla hlb (y := ed2 es i) ⟨by omega, by omega⟩).1 ((nearB_iff _ _ _).2 (.inl hd))).1⟩
        · exact ⟨by omega, ((diff_near hg hma hmb hla hlb (y := ed1 es i) ⟨by omega, by omega⟩).1 ((nearB_iff _ _ _).2 (.inr hd))).1⟩
    exact Nat.le_antisymm (nodup_le_of _ _ hV fun x hx => (hm x).1 hx) (nodup_le_of _ _ hn fun x hx => (hm x).2 hx)
  rw [seenL_len] at h3
  omega
end
theorem pc_seen (es : List (Int × Int)) (set : List Int) : ∀ (l : List Int) (st : List (List Int) × List Int), (∀ y ∈ l, y ∈ st.2) → l.foldl (pcS es set) st = st
  | [], _, _ => rfl
  | y :: l, st, h => by
    rw [List.foldl_cons]
    have : pcS es set st y = st := if_pos (h y (by simp))
    rw [this]
    exact pc_seen es set l st fun z hz => h z (by simp [hz])
theorem pieces_one {es : List (Int × Int)} {x : Int} {l : List Int} (h : ∀ z ∈ l, z ∈ reachL es (x :: l) x) : piecesL es (x :: l) = [reachL es (x :: l) x] := by
  unfold piecesL pcK
  rw [List.foldl_cons]
  have : pcS es (x :: l) ([], []) x = ([reachL es (x :: l) x], (reachL es (x :: l) x).foldl put []) := by
    unfold pcS
    rw [if_neg (by simp)]; rfl
  rw [this, pc_seen]
  intro y hy
  exact (puts_mem y _ _).2 (.inl (h y hy))
/-- one cycle of four nodes -/
def sqB (n : Nat) (es : List (Int × Int)) (a b : List Int) : Bool := decide ((dix a b es.length).length = 4) && decide ((domL (dE es a b) n n).length = 4)
theorem sq_iff {n : Nat} {es : List (Int × Int)} (hg : Grd (n : Int) es) {a b : List Int} (hma : Mtc es a) (hmb : Mtc es b) (hla : 2 * a.length = n) (hlb : 2 * b.length = n) (hpa : a.Nodup) (hpb : b.Nodup) :
    sqB n es a b = true ↔ (piecesL (dE es a b) (domL (dE es a b) n n)).length = 1 ∧ ((piecesL (dE es a b) (domL (dE es a b) n n)).getD 0 []).length ≤ 4 := by
  have hh := sq_hand hg hma hmb hla hlb hpa hpb
  have hV : (domL (dE es a b) n n).Nodup := by
    unfold domL
    exact (asc_nodup (alls_srt n)).filter _
  have p4 := fun P hP => sq_piece hg hma hmb hla hlb (P := P) hP
  unfold sqB
  rw [hh]
  generalize dE es a b = E at *
  generalize hVV : domL E n n = V at *
  rw [Bool.and_self, decide_eq_true_eq]
  constructor
  · intro h
    cases V with
    | nil => simp at h
    | cons x l =>
      obtain ⟨P, hP, hx⟩ := pieces_cov (es := E) (z := x) (set := x :: l) (by simp)
      have hPn : P.Nodup := by
        obtain ⟨y, _, rfl⟩ := pieces_mem hP
        exact asc_nodup (reach_srt _ _ _)
      have hsub : ∀ z ∈ P, z ∈ reachL E (x :: l) x := fun z hz => (reach_iff E (x :: l) x (by simp) z).2 (piece_rch hP hx hz)
      have hall : ∀ z ∈ x :: l, z ∈ P := by
        intro z hz
        refine Decidable.byContradiction fun hno => ?_
        have hn : (z :: P).Nodup := List.nodup_cons.2 ⟨hno, hPn⟩
        have := nodup_le_of _ (x :: l) hn (fun y hy => by
          rcases List.mem_cons.1 hy with rfl | hy
          · exact hz
          · exact piece_sub hP hy)
        have := p4 P hP
        rw [List.length_cons (a := z)] at *
        omega
      have hone := pieces_one (es := E) (x := x) (l := l) fun z hz => hsub z (hall z (by simp [hz]))
      rw [hone]
      refine ⟨rfl, ?_⟩
      show (reachL E (x :: l) x).length ≤ 4
      rw [← h]
      exact nodup_le_of _ _ (asc_nodup (reach_srt _ _ _)) fun z hz => piece_sub (p := reachL E (x :: l) x) (es := E) (by rw [hone]; simp) hz
  · rintro ⟨h1, h2⟩
    obtain ⟨P, hP⟩ := List.length_eq_one_iff.1 h1
    rw [hP] at h2
    have hm : P ∈ piecesL E V := by rw [hP]; simp
    have h3 := p4 P hm
    have hPn : P.Nodup := by
      obtain ⟨y, _, rfl⟩ := pieces_mem hm
      exact asc_nodup (reach_srt _ _ _)
    have l1 := nodup_le_of P V hPn fun z hz => piece_sub hm hz
    have l2 := nodup_le_of V P hV fun z hz => by
      obtain ⟨Q, hQ, hz⟩ := pieces_cov (es := E) hz
      rw [hP, List.mem_singleton] at hQ
      rw [hQ] at hz; exact hz
    have h2' : P.length ≤ 4 := h2
    omega
end Go.Proofs.Ytlfongfhbkefmaa.Ai
namespace Go.Proofs.Ytlfongfhbkefmaa.Ai
open Go
def ords230 : List (Nat × List (Nat × Bool)) := []
def cd230 : Cd := (.seq (.reg [⟨⟨some 2, Op.assign (Operand.const (Value.int IntKind.i64 0)), none⟩, []⟩]) (.seq (.reg [⟨⟨some 3, Op.move (Operand.tmp 0), none⟩, []⟩,
  ⟨⟨some 4, Op.binOp BinOp.shr 122 (Operand.tmp 3) (Operand.const (Value.int IntKind.u64 1)) 97, none⟩, []⟩,
  ⟨⟨some 5, Op.binOp BinOp.and 122 (Operand.tmp 4) (Operand.const (Value.int IntKind.u64 6148914691236517205)) 122, none⟩, []⟩,
  ⟨⟨some 6, Op.move (Operand.tmp 0), none⟩, []⟩,
  ⟨⟨some 7, Op.binOp BinOp.and 122 (Operand.tmp 6) (Operand.const (Value.int IntKind.u64 6148914691236517205)) 122, none⟩, []⟩,
  ⟨⟨some 8, Op.binOp BinOp.add 122 (Operand.tmp 5) (Operand.tmp 7) 122, none⟩, []⟩,
  ⟨⟨some 0, Op.assign (Operand.tmp 8), none⟩, []⟩]) (.seq (.reg [⟨⟨some 9, Op.move (Operand.tmp 0), none⟩, []⟩,
  ⟨⟨some 10, Op.binOp BinOp.shr 122 (Operand.tmp 9) (Operand.const (Value.int IntKind.u64 2)) 97, none⟩, []⟩,
  ⟨⟨some 11, Op.binOp BinOp.and 122 (Operand.tmp 10) (Operand.const (Value.int IntKind.u64 3689348814741910323)) 122, none⟩, []⟩,
  ⟨⟨some 12, Op.move (Operand.tmp 0), none⟩, []⟩,
  ⟨⟨some 13, Op.binOp BinOp.and 122 (Operand.tmp 12) (Operand.const (Value.int IntKind.u64 3689348814741910323)) 122, none⟩, []⟩,
  ⟨⟨some 14, Op.binOp BinOp.add 122 (Operand.tmp 11) (Operand.tmp 13) 122, none⟩, []⟩,
  ⟨⟨some 0, Op.assign (Operand.tmp 14), none⟩, []⟩]) (.seq (.reg [⟨⟨some 15, Op.move (Operand.tmp 0), none⟩, []⟩,
  ⟨⟨some 16, Op.binOp BinOp.shr 122 (Operand.tmp 15) (Operand.const (Value.int IntKind.u64 4)) 97, none⟩, []⟩,
  ⟨⟨some 17, Op.move (Operand.tmp 0), none⟩, []⟩,
  ⟨⟨some 18, Op.binOp BinOp.add 122 (Operand.tmp 16) (Operand.tmp 17) 122, none⟩, []⟩,
  ⟨⟨some 19, Op.binOp BinOp.and 122 (Operand.tmp 18) (Operand.const (Value.int IntKind.u64 1085102592571150095)) 122, none⟩, []⟩,
  ⟨⟨some 0, Op.assign (Operand.tmp 19), none⟩, []⟩]) (.seq (.reg [⟨⟨some 20, Op.move (Operand.tmp 0), none⟩, []⟩,
  ⟨⟨some 21, Op.move (Operand.tmp 0), none⟩, []⟩,
  ⟨⟨some 22, Op.binOp BinOp.shr 122 (Operand.tmp 21) (Operand.const (Value.int IntKind.u64 8)) 97, none⟩, []⟩,
  ⟨⟨some 23, Op.binOp BinOp.add 122 (Operand.tmp 20) (Operand.tmp 22) 122, none⟩, []⟩,
  ⟨⟨some 0, Op.assign (Operand.tmp 23), none⟩, []⟩]) (.seq (.reg [⟨⟨some 24, Op.move (Operand.tmp 0), none⟩, []⟩,
  ⟨⟨some 25, Op.move (Operand.tmp 0), none⟩, []⟩,
  ⟨⟨some 26, Op.binOp BinOp.shr 122 (Operand.tmp 25) (Operand.const (Value.int IntKind.u64 16)) 97, none⟩, []⟩,
  ⟨⟨some 27, Op.binOp BinOp.add 122 (Operand.tmp 24) (Operand.tmp 26) 122, none⟩, []⟩,
  ⟨⟨some 0, Op.assign (Operand.tmp 27), none⟩, []⟩]) (.seq (.reg [⟨⟨some 28, Op.move (Operand.tmp 0), none⟩, []⟩,
  ⟨⟨some 29, Op.move (Operand.tmp 0), none⟩, []⟩,
  ⟨⟨some 30, Op.binOp BinOp.shr 122 (Operand.tmp 29) (Operand.const (Value.int IntKind.u64 32)) 97, none⟩, []⟩,
  ⟨⟨some 31, Op.binOp BinOp.add 122 (Operand.tmp 28) (Operand.tmp 30) 122, none⟩, []⟩,
  ⟨⟨some 0, Op.assign (Operand.tmp 31), none⟩, []⟩]) (.seq (.reg [⟨⟨some 32, Op.move (Operand.tmp 0), none⟩, []⟩,
  ⟨⟨some 33, Op.convert 122 3 (Operand.tmp 32), none⟩, []⟩,
  ⟨⟨some 34, Op.binOp BinOp.and 3 (Operand.tmp 33) (Operand.const (Value.int IntKind.i64 127)) 3, none⟩, []⟩,
  ⟨⟨some 2, Op.assign (Operand.tmp 34), none⟩, []⟩]) .ret))))))))
theorem sl230 : slim Try.f230.ntmps ords230 (Try.f230.body.getD .skip) = some cd230 := by kernel_rfl
theorem in230 {args : List Value} {H : AH} {R : Value → AH → Prop} (hl : args.length = 1) (h : ∀ (Q : Exit → Sl → AH → Prop), (∀ e s H, endA Try.prog [ResultVar.tmp 2] R e s H → Q e s H) → wpC Try.prog cd230 Q (enterA args) H) : ACalls Try.prog 230 args H R :=
  ACalls.intro (by kernel_rfl) Try.func230 rfl (by kernel_rfl) sl230 hl (of_decide_eq_true (by kernel_rfl)) (by kernel_rfl) h
def ords172 : List (Nat × List (Nat × Bool)) := []
def cd172 : Cd := (.seq (.reg [⟨⟨some 2, Op.assign (Operand.const (Value.int IntKind.i64 0)), none⟩, []⟩]) (.seq (.cond (Operand.const (Value.bool false)) (.seq (.reg [⟨⟨some 3, Op.move (Operand.tmp 0), none⟩, []⟩,
  ⟨⟨some 4, Op.convert 97 182 (Operand.tmp 3), none⟩, []⟩,
  ⟨⟨some 5, Op.call { callee := (Callee.value (Operand.func 229)), args := #[(Operand.tmp 4)], argTypes := #[182] }, none⟩, []⟩,
  ⟨⟨some 2, Op.assign (Operand.tmp 5), none⟩, []⟩]) .ret) .skip) (.seq (.reg [⟨⟨some 6, Op.move (Operand.tmp 0), none⟩, []⟩,
  ⟨⟨some 7, Op.call { callee := (Callee.value (Operand.func 230)), args := #[(Operand.tmp 6)], argTypes := #[122] }, none⟩, []⟩,
  ⟨⟨some 2, Op.assign (Operand.tmp 7), none⟩, []⟩]) .ret)))
theorem sl172 : slim Try.f172.ntmps ords172 (Try.f172.body.getD .skip) = some cd172 := by kernel_rfl
theorem in172 {args : List Value} {H : AH} {R : Value → AH → Prop} (hl : args.length = 1) (h : ∀ (Q : Exit → Sl → AH → Prop), (∀ e s H, endA Try.prog [ResultVar.tmp 2] R e s H → Q e s H) → wpC Try.prog cd172 Q (enterA args) H) : ACalls Try.prog 172 args H R :=
  ACalls.intro (by kernel_rfl) Try.func172 rfl (by kernel_rfl) sl172 hl (of_decide_eq_true (by kernel_rfl)) (by kernel_rfl) h
def ords102 : List (Nat × List (Nat × Bool)) := []
def cd102 : Cd := (.seq (.reg [⟨⟨some 2, Op.assign (Operand.const (Value.int IntKind.i64 0)), none⟩, []⟩]) (.seq (.reg [⟨⟨some 3, Op.move (Operand.tmp 0), none⟩, []⟩,
  ⟨⟨some 4, Op.call { callee := (Callee.value (Operand.func 172)), args := #[(Operand.tmp 3)], argTypes := #[97] }, none⟩, []⟩,
  ⟨⟨some 2, Op.assign (Operand.tmp 4), none⟩, []⟩]) .ret))
theorem sl102 : slim Try.f102.ntmps ords102 (Try.f102.body.getD .skip) = some cd102 := by kernel_rfl
theorem in102 {args : List Value} {H : AH} {R : Value → AH → Prop} (hl : args.length = 1) (h : ∀ (Q : Exit → Sl → AH → Prop), (∀ e s H, endA Try.prog [ResultVar.tmp 2] R e s H → Q e s H) → wpC Try.prog cd102 Q (enterA args) H) : ACalls Try.prog 102 args H R :=
  ACalls.intro (by kernel_rfl) Try.func102 rfl (by kernel_rfl) sl102 hl (of_decide_eq_true (by kernel_rfl)) (by kernel_rfl) h
end Go.Proofs.Ytlfongfhbkefmaa.Ai
namespace Go.Proofs.Ytlfongfhbkefmaa.Ai
open Go Go.RowKit
set_option linter.unusedVariables false
set_option linter.unusedSimpArgs false
/-- counting ones by parts -/
def pc1 (b : Nat) : Nat := ((b / 2 ^ 1) &&& 6148914691236517205) + (b &&& 6148914691236517205)
def pc2 (b : Nat) : Nat := ((b / 2 ^ 2) &&& 3689348814741910323) + (b &&& 3689348814741910323)
def pc3 (b : Nat) : Nat := (b / 2 ^ 4 + b) &&& 1085102592571150095
def pcS8 (b : Nat) : Nat := b + b / 2 ^ 8
def pcS16 (b : Nat) : Nat := b + b / 2 ^ 16
def pcS32 (b : Nat) : Nat := b + b / 2 ^ 32
def popc (b : Nat) : Nat := pcS32 (pcS16 (pcS8 (pc3 (pc2 (pc1 b))))) &&& 127
theorem pc1_le (b : Nat) : pc1 b ≤ 12297829382473034410 := by
  unfold pc1
  have h1 : (b / 2 ^ 1) &&& 6148914691236517205 ≤ 6148914691236517205 := Nat.and_le_right
  have h2 : b &&& 6148914691236517205 ≤ 6148914691236517205 := Nat.and_le_right
  omega
theorem pc2_le (b : Nat) : pc2 b ≤ 7378697629483820646 := by
  unfold pc2
  have h1 : (b / 2 ^ 2) &&& 3689348814741910323 ≤ 3689348814741910323 := Nat.and_le_right
  have h2 : b &&& 3689348814741910323 ≤ 3689348814741910323 := Nat.and_le_right
  omega
theorem pc3_le (b : Nat) : pc3 b ≤ 1085102592571150095 := by unfold pc3; exact Nat.and_le_right
theorem bin_shrU (P : Program) (t : TypeId) (b y : Nat) (hy : y < 64) : binA P .shr t (.int .u64 (b : Int)) (.int .u64 (y : Int)) = some (.int .u64 ((b / 2 ^ y : Nat) : Int)) := by
  have : ¬ ((y : Int) < 0) := by omega
  simp only [binA, shiftA, this, if_false, IntKind.bits]
  rw [if_pos (.inr trivial)]
  have := shr_nat b y (by omega)
  simp only [this]
theorem bin_addU (P : Program) (t : TypeId) (a b : Nat) (h : a + b < 2 ^ 64) : binA P .add t (.int .u64 (a : Int)) (.int .u64 (b : Int)) = some (.int .u64 ((a + b : Nat) : Int)) := by
  have e : IntKind.u64.wrap ((a : Int) + (b : Int)) = ((a + b : Nat) : Int) := by rw [IntKind.wrap_u64]; omega
  simp only [binA, intA, e]
  simp
theorem bin_and127 (P : Program) (t : TypeId) (a : Nat) (ha : a < 2 ^ 63) : binA P .and t (.int .i64 (a : Int)) (.int .i64 127) = some (.int .i64 ((a &&& 127 : Nat) : Int)) := by
  have e : bitsA .and .i64 (a : Int) 127 = ((a &&& 127 : Nat) : Int) := by
    have h : a &&& 127 ≤ 127 := Nat.and_le_right
    have e : (BitVec.ofInt 64 (a : Int) &&& BitVec.ofInt 64 ((127 : Nat) : Int)).toNat = a &&& 127 := by rw [BitVec.toNat_and, ofInt_nat a (by omega), ofInt_nat 127 (by decide)]
    show IntKind.i64.wrap (((BitVec.ofInt 64 (a : Int) &&& BitVec.ofInt 64 ((127 : Nat) : Int)).toNat : Nat) : Int) = _
    rw [e, wrap64 (by omega) (by omega)]
  simp only [binA, intA, e]
  simp
set_option maxRecDepth 20000 in
set_option maxHeartbeats 2000000 in
theorem Ones64_c (b : Nat) (H : AH) (hb : b < 2 ^ 64) : ACalls Try.prog 230 [.int .u64 (b : Int)] H fun r H' => r = .int .i64 ((popc b : Nat) : Int) ∧ H = H' := by
  refine in230 rfl ?_
  intro Q hQ
  have l1 := pc1_le b
  have l2 := pc2_le (pc1 b)
  have l3 := pc3_le (pc2 (pc1 b))
  have m1 : (b / 2 ^ 1) &&& 6148914691236517205 ≤ 6148914691236517205 := Nat.and_le_right
  have m2 : b &&& 6148914691236517205 ≤ 6148914691236517205 := Nat.and_le_right
  have m3 : (pc1 b / 2 ^ 2) &&& 3689348814741910323 ≤ 3689348814741910323 := Nat.and_le_right
  have m4 : pc1 b &&& 3689348814741910323 ≤ 3689348814741910323 := Nat.and_le_right
  have n8 : pcS8 (pc3 (pc2 (pc1 b))) ≤ 1085102592571150095 + 1085102592571150095 := by unfold pcS8; omega
  have n16 : pcS16 (pcS8 (pc3 (pc2 (pc1 b)))) ≤ 4 * 1085102592571150095 := by unfold pcS16; omega
  have n32 : pcS32 (pcS16 (pcS8 (pc3 (pc2 (pc1 b))))) ≤ 8 * 1085102592571150095 := by unfold pcS32; omega
  have k1 : binA Try.prog .shr 122 (.int .u64 ((b : Nat) : Int)) (.int .u64 1) = some (.int .u64 ((b / 2 ^ 1 : Nat) : Int)) := bin_shrU _ _ b 1 (by decide)
  have k2 : binA Try.prog .and 122 (.int .u64 ((b / 2 ^ 1 : Nat) : Int)) (.int .u64 6148914691236517205) = some (.int .u64 (((b / 2 ^ 1) &&& 6148914691236517205 : Nat) : Int)) := bin_and _ _ (b / 2 ^ 1) 6148914691236517205 (by omega) (by decide)
  have k3 : binA Try.prog .and 122 (.int .u64 ((b : Nat) : Int)) (.int .u64 6148914691236517205) = some (.int .u64 ((b &&& 6148914691236517205 : Nat) : Int)) := bin_and _ _ b 6148914691236517205 hb (by decide)
  have k4 : binA Try.prog .add 122 (.int .u64 (((b / 2 ^ 1) &&& 6148914691236517205 : Nat) : Int)) (.int .u64 ((b &&& 6148914691236517205 : Nat) : Int)) = some (.int .u64 ((pc1 b : Nat) : Int)) := bin_addU _ _ _ _ (by omega)
  have k5 : binA Try.prog .shr 122 (.int .u64 ((pc1 b : Nat) : Int)) (.int .u64 2) = some (.int .u64 ((pc1 b / 2 ^ 2 : Nat) : Int)) := bin_shrU _ _ (pc1 b) 2 (by decide)
  have k6 : binA Try.prog .and 122 (.int .u64 ((pc1 b / 2 ^ 2 : Nat) : Int)) (.int .u64 3689348814741910323) = some (.int .u64 (((pc1 b / 2 ^ 2) &&& 3689348814741910323 : Nat) : Int)) := bin_and _ _ (pc1 b / 2 ^ 2) 3689348814741910323 (by omega) (by decide)
  have k7 : binA Try.prog .and 122 (.int .u64 ((pc1 b : Nat) : Int)) (.int .u64 3689348814741910323) = some (.int .u64 ((pc1 b &&& 3689348814741910323 : Nat) : Int)) := bin_and _ _ (pc1 b) 3689348814741910323 (by omega) (by decide)
  have k8 : binA Try.prog .add 122 (.int .u64 (((pc1 b / 2 ^ 2) &&& 3689348814741910323 : Nat) : Int)) (.int .u64 ((pc1 b &&& 3689348814741910323 : Nat) : Int)) = some (.int .u64 ((pc2 (pc1 b) : Nat) : Int)) := bin_addU _ _ _ _ (by omega)
  have k9 : binA Try.prog .shr 122 (.int .u64 ((pc2 (pc1 b) : Nat) : Int)) (.int .u64 4) = some (.int .u64 ((pc2 (pc1 b) / 2 ^ 4 : Nat) : Int)) := bin_shrU _ _ (pc2 (pc1 b)) 4 (by decide)
  have k10 : binA Try.prog .add 122 (.int .u64 ((pc2 (pc1 b) / 2 ^ 4 : Nat) : Int)) (.int .u64 ((pc2 (pc1 b) : Nat) : Int)) = some (.int .u64 ((pc2 (pc1 b) / 2 ^ 4 + pc2 (pc1 b) : Nat) : Int)) := bin_addU _ _ _ _ (by omega)
  have k11 : binA Try.prog .and 122 (.int .u64 ((pc2 (pc1 b) / 2 ^ 4 + pc2 (pc1 b) : Nat) : Int)) (.int .u64 1085102592571150095) = some (.int .u64 ((pc3 (pc2 (pc1 b)) : Nat) : Int)) := bin_and _ _ (pc2 (pc1 b) / 2 ^ 4 + pc2 (pc1 b)) 1085102592571150095 (by omega) (by decide)
  have k12 : binA Try.prog .shr 122 (.int .u64 ((pc3 (pc2 (pc1 b)) : Nat) : Int)) (.int .u64 8) = some (.int .u64 ((pc3 (pc2 (pc1 b)) / 2 ^ 8 : Nat) : Int)) := bin_shrU _ _ (pc3 (pc2 (pc1 b))) 8 (by decide)
  have k13 : binA Try.prog .add 122 (.int .u64 ((pc3 (pc2 (pc1 b)) : Nat) : Int)) (.int .u64 ((pc3 (pc2 (pc1 b)) / 2 ^ 8 : Nat) : Int)) = some (.int .u64 ((pcS8 (pc3 (pc2 (pc1 b))) : Nat) : Int)) := bin_addU _ _ _ _ (by omega)
  have k14 : binA Try.prog .shr 122 (.int .u64 ((pcS8 (pc3 (pc2 (pc1 b))) : Nat) : Int)) (.int .u64 16) = some (.int .u64 ((pcS8 (pc3 (pc2 (pc1 b))) / 2 ^ 16 : Nat) : Int)) := bin_shrU _ _ (pcS8 (pc3 (pc2 (pc1 b)))) 16 (by decide)
  have k15 : binA Try.prog .add 122 (.int .u64 ((pcS8 (pc3 (pc2 (pc1 b))) : Nat) : Int)) (.int .u64 ((pcS8 (pc3 (pc2 (pc1 b))) / 2 ^ 16 : Nat) : Int)) = some (.int .u64 ((pcS16 (pcS8 (pc3 (pc2 (pc1 b)))) : Nat) : Int)) := bin_addU _ _ _ _ (by omega)
  have k16 : binA Try.prog .shr 122 (.int .u64 ((pcS16 (pcS8 (pc3 (pc2 (pc1 b)))) : Nat) : Int)) (.int .u64 32) = some (.int .u64 ((pcS16 (pcS8 (pc3 (pc2 (pc1 b)))) / 2 ^ 32 : Nat) : Int)) := bin_shrU _ _ (pcS16 (pcS8 (pc3 (pc2 (pc1 b))))) 32 (by decide)
  have k17 : binA Try.prog .add 122 (.int .u64 ((pcS16 (pcS8 (pc3 (pc2 (pc1 b)))) : Nat) : Int)) (.int .u64 ((pcS16 (pcS8 (pc3 (pc2 (pc1 b)))) / 2 ^ 32 : Nat) : Int)) = some (.int .u64 ((pcS32 (pcS16 (pcS8 (pc3 (pc2 (pc1 b))))) : Nat) : Int)) := bin_addU _ _ _ _ (by omega)
  have c1 : convA Try.prog 122 3 (.int .u64 ((pcS32 (pcS16 (pcS8 (pc3 (pc2 (pc1 b))))) : Nat) : Int)) = some (.int .i64 ((pcS32 (pcS16 (pcS8 (pc3 (pc2 (pc1 b))))) : Nat) : Int)) := by
    simp only [convA, Try.underlying122, Try.underlying3]
    rw [wrap64 (by omega) (by omega)]
  have c2 := bin_and127 Try.prog 3 (pcS32 (pcS16 (pcS8 (pc3 (pc2 (pc1 b)))))) (by omega)
  simp (maxSteps := 1000000) (disch := omega) only [cd230, k1, k2, k3, k4, k5, k6, k7, k8, k9, k10, k11, k12, k13, k14, k15, k16, k17, c1, c2, S, S1, S2, S3, S4, S5, ST, eq_self, reduceIte, reduceCtorEq, Nat.reduceEqDiff, Nat.reduceAdd]
  refine hQ _ _ _ ?_
  simp (maxSteps := 1000000) (disch := omega) only [S, S1, S2, S3, S4, S5, ST, eq_self, reduceIte, reduceCtorEq, Nat.reduceEqDiff, Nat.reduceAdd]
  rfl
theorem Ones_c (b : Nat) (H : AH) (hb : b < 2 ^ 64) : ACalls Try.prog 172 [.int .u64 (b : Int)] H fun r H' => r = .int .i64 ((popc b : Nat) : Int) ∧ H = H' := by
  refine in172 rfl ?_
  intro Q hQ
  simp (maxSteps := 1000000) (disch := omega) only [cd172, S, S1, S2, S3, S4, S5, ST, eq_self, reduceIte, reduceCtorEq, Nat.reduceEqDiff, Nat.reduceAdd]
  refine CallH.by (Ones64_c b H hb) ?_
  rintro _ _ ⟨rfl, rfl⟩
  simp (maxSteps := 1000000) (disch := omega) only [S, S1, S2, S3, S4, S5, ST, eq_self, reduceIte, reduceCtorEq, Nat.reduceEqDiff, Nat.reduceAdd]
  refine hQ _ _ _ ?_
  simp (maxSteps := 1000000) (disch := omega) only [S, S1, S2, S3, S4, S5, ST, eq_self, reduceIte, reduceCtorEq, Nat.reduceEqDiff, Nat.reduceAdd]
theorem size_c (b : Nat) (H : AH) (hb : b < 2 ^ 64) : ACalls Try.prog 102 [.int .u64 (b : Int)] H fun r H' => r = .int .i64 ((popc b : Nat) : Int) ∧ H = H' := by
  refine in102 rfl ?_
  intro Q hQ
  simp (maxSteps := 1000000) (disch := omega) only [cd102, S, S1, S2, S3, S4, S5, ST, eq_self, reduceIte, reduceCtorEq, Nat.reduceEqDiff, Nat.reduceAdd]
  refine CallH.by (Ones_c b H hb) ?_
  rintro _ _ ⟨rfl, rfl⟩
  simp (maxSteps := 1000000) (disch := omega) only [S, S1, S2, S3, S4, S5, ST, eq_self, reduceIte, reduceCtorEq, Nat.reduceEqDiff, Nat.reduceAdd]
  refine hQ _ _ _ ?_
  simp (maxSteps := 1000000) (disch := omega) only [S, S1, S2, S3, S4, S5, ST, eq_self, reduceIte, reduceCtorEq, Nat.reduceEqDiff, Nat.reduceAdd]
end Go.Proofs.Ytlfongfhbkefmaa.Ai
namespace Go.Proofs.Ytlfongfhbkefmaa.Ai
open Go
def ords75 : List (Nat × List (Nat × Bool)) := []
def cd75 : Cd := (.seq (.reg [⟨⟨some 4, Op.alloc 28, none⟩, []⟩]) (.seq (.reg [⟨⟨some 10, Op.move (Operand.tmp 0), none⟩, []⟩,
  ⟨⟨some 11, Op.build 28 #[(0, (Operand.tmp 10))], none⟩, []⟩,
  ⟨⟨some 5, Op.alloc 28, none⟩, []⟩,
  ⟨⟨none, Op.store 28 (Operand.tmp 5) (Operand.tmp 11), none⟩, []⟩]) (.seq (.reg [⟨⟨some 12, Op.fieldAddr 28 (Operand.tmp 5) 0, none⟩, []⟩,
  ⟨⟨some 13, Op.load 26 (Operand.tmp 12), none⟩, []⟩,
  ⟨⟨some 14, Op.call { callee := (Callee.value (Operand.func 156)), args := #[(Operand.tmp 13), (Operand.func 157)], argTypes := #[26, 105] }, none⟩, []⟩]) (.seq (.seq (.reg [⟨⟨some 15, Op.fieldAddr 28 (Operand.tmp 5) 0, none⟩, []⟩,
  ⟨⟨some 16, Op.load 26 (Operand.tmp 15), none⟩, []⟩,
  ⟨⟨some 17, Op.call { callee := (Callee.builtin Builtin.len), args := #[(Operand.tmp 16)], argTypes := #[26] }, none⟩, []⟩,
  ⟨⟨some 18, Op.move (Operand.const (Value.int IntKind.i64 0)), none⟩, []⟩]) (.block 0 (.loop (.seq (.reg [⟨⟨some 19, Op.binOp BinOp.lss 3 (Operand.tmp 18) (Operand.tmp 17) 3, none⟩, []⟩]) (.seq (.cond (Operand.tmp 19) .skip (.exit 0)) (.seq (.block 1 (.seq (.reg [⟨⟨some 20, Op.move (Operand.tmp 18), none⟩, []⟩,
  ⟨⟨some 21, Op.indexAddr 26 (Operand.tmp 16) (Operand.tmp 18), none⟩, []⟩,
  ⟨⟨some 22, Op.load 38 (Operand.tmp 21), none⟩, []⟩,
  ⟨⟨some 6, Op.assign (Operand.tmp 20), none⟩, []⟩,
  ⟨⟨some 7, Op.assign (Operand.tmp 22), none⟩, []⟩]) (.seq (.reg [⟨⟨some 23, Op.fieldAddr 28 (Operand.tmp 5) 0, none⟩, []⟩,
  ⟨⟨some 24, Op.load 26 (Operand.tmp 23), none⟩, []⟩,
  ⟨⟨some 25, Op.move (Operand.tmp 6), none⟩, []⟩,
  ⟨⟨some 26, Op.binOp BinOp.add 3 (Operand.tmp 25) (Operand.const (Value.int IntKind.i64 1)) 3, none⟩, []⟩,
  ⟨⟨some 27, Op.slice 26 (Operand.tmp 24) (some (Operand.tmp 26)) none none, none⟩, []⟩,
  ⟨⟨some 28, Op.call { callee := (Callee.builtin Builtin.len), args := #[(Operand.tmp 27)], argTypes := #[26] }, none⟩, []⟩,
  ⟨⟨some 29, Op.move (Operand.const (Value.int IntKind.i64 0)), none⟩, []⟩]) (.block 2 (.loop (.seq (.reg [⟨⟨some 30, Op.binOp BinOp.lss 3 (Operand.tmp 29) (Operand.tmp 28) 3, none⟩, []⟩]) (.seq (.cond (Operand.tmp 30) .skip (.exit 2)) (.seq (.block 3 (.seq (.reg [⟨⟨some 31, Op.move (Operand.tmp 29), none⟩, []⟩,
  ⟨⟨some 32, Op.indexAddr 26 (Operand.tmp 27) (Operand.tmp 29), none⟩, []⟩,
  ⟨⟨some 33, Op.load 38 (Operand.tmp 32), none⟩, []⟩,
  ⟨⟨some 8, Op.assign (Operand.tmp 31), none⟩, []⟩,
  ⟨⟨some 9, Op.assign (Operand.tmp 33), none⟩, []⟩]) (.seq (.reg [⟨⟨some 34, Op.move (Operand.tmp 1), none⟩, []⟩,
  ⟨⟨some 35, Op.move (Operand.tmp 7), none⟩, []⟩,
  ⟨⟨some 36, Op.move (Operand.tmp 9), none⟩, []⟩,
  ⟨⟨some 37, Op.call { callee := (Callee.value (Operand.tmp 34)), args := #[(Operand.tmp 35), (Operand.tmp 36)], argTypes := #[38, 38] }, none⟩, []⟩]) (.cond (Operand.tmp 37) (.reg [⟨⟨some 38, Op.fieldAddr 28 (Operand.tmp 5) 1, none⟩, []⟩,
  ⟨⟨some 39, Op.load 22 (Operand.tmp 38), none⟩, []⟩,
  ⟨⟨some 40, Op.move (Operand.tmp 6), none⟩, []⟩,
  ⟨⟨some 41, Op.move (Operand.tmp 6), none⟩, []⟩,
  ⟨⟨some 42, Op.binOp BinOp.add 3 (Operand.tmp 41) (Operand.const (Value.int IntKind.i64 1)) 3, none⟩, []⟩,
  ⟨⟨some 43, Op.move (Operand.tmp 8), none⟩, []⟩,
  ⟨⟨some 44, Op.binOp BinOp.add 3 (Operand.tmp 42) (Operand.tmp 43) 3, none⟩, []⟩,
  ⟨⟨some 45, Op.build 81 #[(0, (Operand.tmp 40)), (1, (Operand.tmp 44))], none⟩, []⟩,
  ⟨⟨some 46, Op.buildSlice 22 1 #[(0, (Operand.tmp 45))], none⟩, []⟩,
  ⟨⟨some 47, Op.call { callee := (Callee.builtin Builtin.append), args := #[(Operand.tmp 39), (Operand.tmp 46)], argTypes := #[22, 22] }, none⟩, []⟩,
  ⟨⟨some 48, Op.fieldAddr 28 (Operand.tmp 5) 1, none⟩, []⟩,
  ⟨⟨none, Op.store 22 (Operand.tmp 48) (Operand.tmp 47), none⟩, []⟩]) .skip)))) (.reg [⟨⟨some 49, Op.binOp BinOp.add 3 (Operand.tmp 29) (Operand.const (Value.int IntKind.i64 1)) 3, none⟩, []⟩,
  ⟨⟨some 29, Op.move (Operand.tmp 49), none⟩, []⟩]))))))))) (.reg [⟨⟨some 50, Op.binOp BinOp.add 3 (Operand.tmp 18) (Operand.const (Value.int IntKind.i64 1)) 3, none⟩, []⟩,
  ⟨⟨some 18, Op.move (Operand.tmp 50), none⟩, []⟩]))))))) (.seq (.reg [⟨⟨some 51, Op.load 28 (Operand.tmp 5), none⟩, []⟩,
  ⟨⟨none, Op.store 28 (Operand.tmp 4) (Operand.tmp 51), none⟩, []⟩]) .ret)))))
theorem sl75 : slim Try.f75.ntmps ords75 (Try.f75.body.getD .skip) = some cd75 := by kernel_rfl
set_option maxRecDepth 20000 in
theorem in75 {args : List Value} {H : AH} {R : Value → AH → Prop} (hl : args.length = 2) (h : ∀ (Q : Exit → Sl → AH → Prop), (∀ e s H, endA Try.prog [ResultVar.cell 4 28] R e s H → Q e s H) → wpC Try.prog cd75 Q (enterA args) H) : ACalls Try.prog 75 args H R :=
  ACalls.intro (by kernel_rfl) Try.func75 rfl (by kernel_rfl) sl75 hl (of_decide_eq_true (by kernel_rfl)) (by kernel_rfl) h
end Go.Proofs.Ytlfongfhbkefmaa.Ai
namespace Go.Proofs.Ytlfongfhbkefmaa.Ai
open Go Go.RowKit
set_option linter.unusedVariables false
set_option linter.unusedSimpArgs false
theorem alloc_sp (H : AH) : allocA Try.prog 28 H = some (.pointer (some ⟨H.length, 0, none⟩), H ++ [.cells [.slice none 0 0, .slice none 0 0] 28 false]) := by kernel_rfl
theorem bld_sp1 (p : Option Addr) (n c : Nat) : buildA Try.prog 28 [(0, .slice p n c)] = some (.agg (List.toArray [.slice p n c, .slice none 0 0])) := by kernel_rfl
theorem bld_sp2 (p q : Option Addr) (n c m d : Nat) : buildA Try.prog 28 [(0, .slice p n c), (1, .slice q m d)] = some (.agg (List.toArray [.slice p n c, .slice q m d])) := by kernel_rfl
theorem bld_sp0 : buildA Try.prog 28 [] = some (.agg (List.toArray [.slice none 0 0, .slice none 0 0])) := by kernel_rfl
theorem st_ss {e : TypeId} {H : AH} {o : Nat} {vs : List Value} (ho : H[o]? = some (.cells vs e false)) (hv : vs.length = 2) (p q : Option Addr) (n c m d : Nat) :
    storeA Try.prog 28 (.pointer (some ⟨o, 0, none⟩)) (.agg (List.toArray [.slice p n c, .slice q m d])) H = some (H.set o (.cells [.slice p n c, .slice q m d] e false)) := by
  simp only [storeA, ho, cs28]
  have hcl : (Value.agg (List.toArray [.slice p n c, .slice q m d])).cells.toList = [.slice p n c, .slice q m d] := rfl
  rw [hcl, if_pos ⟨rfl, rfl, by decide, by rw [hv]; exact Nat.le_refl 2⟩]
  have : putAt vs 0 [.slice p n c, .slice q m d] = [.slice p n c, .slice q m d] := by
    unfold putAt
    rw [List.take_zero, List.nil_append, List.drop_of_length_le (by simp; omega), List.append_nil]
  rw [this]
/-- the end of a function with a variable and a value as results -/
theorem end_cell2 (P : Program) (a b : Nat) (t : TypeId) (R : Value → AH → Prop) (s : Sl) (H : AH) (v w : Value) (h : loadA P t (s a) H = some v) (ht : isTup v = false) (hb : s b = w) (hw : isTup w = false) (hr : R (.tuple (List.toArray [v, w])) H) : endA P [.cell a t, .tmp b] R .ret s H := by
  subst hb
  simp only [endA, resA, h, ht]
  simp [hw, outA]
  exact hr
/-- the steps between lists of which something is so -/
def stpI (p : List Int → List Int → Bool) (ls : List (List Int)) (i : Nat) : Nat → List (Int × Int)
  | 0 => []
  | k + 1 => stpI p ls i k ++ if p (ls.getD i []) (ls.getD (i + 1 + k) []) = true then [((i : Int), ((i + 1 + k : Nat) : Int))] else []
def stpO (p : List Int → List Int → Bool) (ls : List (List Int)) : Nat → List (Int × Int)
  | 0 => []
  | i + 1 => stpO p ls i ++ stpI p ls i (ls.length - (i + 1))
theorem stpI_len (p : List Int → List Int → Bool) (ls : List (List Int)) (i k : Nat) : (stpI p ls i k).length ≤ k := by
  induction k with
  | zero => simp [stpI]
  | succ k ih => simp only [stpI, List.length_append]; split <;> simp <;> omega
theorem stpO_len (p : List Int → List Int → Bool) (ls : List (List Int)) (i : Nat) : (stpO p ls i).length ≤ i * ls.length := by
  induction i with
  | zero => simp [stpO]
  | succ i ih =>
    have := stpI_len p ls i (ls.length - (i + 1))
    simp only [stpO, List.length_append, Nat.add_mul, Nat.one_mul]
    omega
abbrev steps (p : List Int → List Int → Bool) (ls : List (List Int)) : List (Int × Int) := stpO p ls ls.length
/-- is a step between two lists: a function of the program's -/
def StepFn (HB : AH) (fS : FuncId) (caps : List Value) (ls : List (List Int)) (p : List Int → List Int → Bool) : Prop :=
  ∀ (a b : Value) (x y : List Int) (H : AH), HB <+: H → Row 3 H a x → Row 3 H b y → x ∈ ls → y ∈ ls → ACalls Try.prog fS (a :: b :: caps) H fun r H' => r = .bool (p x y) ∧ H <+: H'
set_option maxRecDepth 20000 in
set_option maxHeartbeats 4000000 in
theorem spaceOf_c {HB H : AH} {v : Value} {us : List Value} {ls : List (List Int)} (h : Sts H v us ls) (hls : ls.length ≤ 1000) (fS : FuncId) (caps : List Value) (p : List Int → List Int → Bool) (hS : StepFn HB fS caps ls p) (hp : HB <+: H) :
    ACalls Try.prog 75 [v, .func (.func fS) #[] (List.toArray caps)] H fun r H' => ∃ st, r = .agg (List.toArray [v, st]) ∧ MineP 81 H H' st (steps p ls) ∧ H <+: H' := by
  refine in75 rfl ?_
  intro Q hQ
  have hul := h.len
  obtain ⟨pv, hpv⟩ := h.row.shape
  have hb1 := bld_sp1 pv us.length us.length
  rw [← hpv] at hb1
  simp (maxSteps := 1000000) (disch := omega) only [cd75, alloc_sp, hb1, S, S1, S2, S3, S4, S5, ST, eq_self, reduceIte, reduceCtorEq, Nat.reduceEqDiff, Nat.reduceAdd]
  generalize hA : H ++ [AObj.cells [.slice none 0 0, .slice none 0 0] 28 false] = A
  have pA : H <+: A := by rw [← hA]; exact List.prefix_append _ _
  have cA : A[H.length]? = some (.cells [.slice none 0 0, .slice none 0 0] 28 false) := by rw [← hA]; exact at_new ..
  have lA : A.length = H.length + 1 := by rw [← hA]; simp
  have st1 := st_ss (at_new A (.cells [.slice none 0 0, .slice none 0 0] 28 false)) rfl pv none us.length us.length 0 0
  rw [set_new, ← hpv] at st1
  simp (maxSteps := 1000000) (disch := omega) only [st1, cell_new, S, S1, S2, S3, S4, S5, ST, eq_self, reduceIte, reduceCtorEq, Nat.reduceEqDiff, Nat.reduceAdd]
  generalize hB : A ++ [AObj.cells [v, .slice none 0 0] 28 false] = B
  have pB : A <+: B := by rw [← hB]; exact List.prefix_append _ _
  have cB : B[A.length]? = some (.cells [v, .slice none 0 0] 28 false) := by rw [← hB]; exact at_new ..
  have lB : B.length = A.length + 1 := by rw [← hB]; simp
  have pHB := pA.trans pB
  refine CallH.by (SortFunc_c (h.pre pHB)) ?_
  rintro _ C pC
  have pHC := pHB.trans pC
  have lC := pC.length_le
  have cC := pre_at pC cB
  have cC0 := pre_at (pB.trans pC) cA
  simp (maxSteps := 1000000) (disch := omega) only [cell_of cC, h.row.len Try.underlying26, hul, S, S1, S2, S3, S4, S5, ST, eq_self, reduceIte, reduceCtorEq, Nat.reduceEqDiff, Nat.reduceAdd]
  refine LoopH.by (fun m s H' => ∃ i st, m + i = ls.length ∧ s 1 = .func (.func fS) #[] (List.toArray caps) ∧ s 4 = .pointer (some ⟨H.length, 0, none⟩) ∧ s 5 = .pointer (some ⟨A.length, 0, none⟩) ∧ s 16 = v ∧ s 17 = .int .i64 (ls.length : Int) ∧ s 18 = .int .i64 ((i : Nat) : Int) ∧ H'[A.length]? = some (.cells [v, st] 28 false) ∧ H'[H.length]? = some (.cells [.slice none 0 0, .slice none 0 0] 28 false) ∧ (st = .slice none 0 0 ∨ B.length ≤ rowO st) ∧ MineP 81 H H' st (stpO p ls i) ∧ H <+: H') ls.length ?_ ?_
  · exact ⟨0, .slice none 0 0, by simp, rfl, rfl, rfl, rfl, rfl, rfl, cC, cC0, .inl rfl, .inl ⟨rfl, rfl⟩, pHC⟩
  rintro m s H' ⟨i, st, hm, s1, s4, s5, s16, s17, s18, hc5, hc4, hst, hmn, hpp⟩
  simp (maxSteps := 1000000) (disch := omega) only [s1, s4, s5, s16, s17, s18, S, S1, S2, S3, S4, S5, ST, eq_self, reduceIte, reduceCtorEq, Nat.reduceEqDiff, Nat.reduceAdd]
  refine brD.intro (fun g => ?_) (fun g => ?_)
  rotate_left
  · have hi : i = ls.length := by omega
    subst hi
    have hst2 : isTup st = false := hmn.row.tup
    obtain ⟨q, hq⟩ := hmn.row.shape
    have hstA := st_ss hc4 rfl pv q us.length us.length (stpO p ls ls.length).length (stpO p ls ls.length).length
    rw [← hpv, ← hq] at hstA
    simp (maxSteps := 1000000) (disch := omega) only [s4, s5, ld_agg ag28 cs28 hc5, hstA, S, S1, S2, S3, S4, S5, ST, eq_self, reduceIte, reduceCtorEq, Nat.reduceEqDiff, Nat.reduceAdd]
    have d4 := at_set (d := .cells [v, st] 28 false) hc4
    refine hQ _ _ _ (end_cell _ _ _ _ _ _ (.agg (List.toArray [v, st])) ?_ rfl ⟨st, rfl, ?_, ?_⟩)
    · simp (maxSteps := 1000000) (disch := omega) only [s4, ld_agg ag28 cs28 d4, S, S1, S2, S3, S4, S5, ST, eq_self, reduceIte, reduceCtorEq, Nat.reduceEqDiff, Nat.reduceAdd]
    · rcases hst with e | e
      · rcases hmn with hm0 | ⟨o, zs, q1, _⟩
        · exact .inl hm0
        · rw [e] at q1; cases q1
      · refine hmn.keepL ?_
        intro hl y hy
        rw [List.getElem?_set_ne (by omega)]
        exact hy
    · exact pre_set hpp (Nat.le_refl _) _
  have hi : i < ls.length := by omega
  have hH' := h.pre hpp
  have hci := hH'.cell hi
  have hri := hH'.each i hi
  have hmi : ls.getD i [] ∈ ls := by simp [hi]
  have hsl := hH'.row.slice (P := Try.prog) (t := 26) Try.underlying26 cs38 (bound_some (k := .i64) (i := (i : Int) + 1) (by omega) 0) (hi_none us.length) (show ((i : Int) + 1).toNat ≤ us.length by omega) (Nat.le_refl _)
  have hi1 : ((i : Int) + 1).toNat = i + 1 := by omega
  rw [hi1] at hsl
  obtain ⟨hsl1, hsl2, hsl3⟩ := hsl
  have hdl : (us.drop (i + 1)).take (us.length - (i + 1)) = us.drop (i + 1) := by rw [List.take_of_length_le (by simp)]
  rw [hdl] at hsl2
  have hdn : ((us.drop (i + 1)).length : Int) = ((ls.length - (i + 1) : Nat) : Int) := by simp; omega
  simp (maxSteps := 1000000) (disch := omega) only [s1, s4, s5, s16, s17, s18, hH'.row.ix Try.underlying26 cs38, Int.toNat_natCast, hci, cell_of hc5, wrap64, hsl1, hsl2.len Try.underlying26, hdn, S, S1, S2, S3, S4, S5, ST, eq_self, reduceIte, reduceCtorEq, Nat.reduceEqDiff, Nat.reduceAdd]
  refine LoopH.by (fun m' s' H'' => ∃ j st', m' + j = ls.length - (i + 1) ∧ s' 1 = .func (.func fS) #[] (List.toArray caps) ∧ s' 4 = .pointer (some ⟨H.length, 0, none⟩) ∧ s' 5 = .pointer (some ⟨A.length, 0, none⟩) ∧ s' 6 = .int .i64 ((i : Nat) : Int) ∧ s' 7 = us.getD i undef ∧ s' 16 = v ∧ s' 17 = .int .i64 (ls.length : Int) ∧ s' 18 = .int .i64 ((i : Nat) : Int) ∧ s' 27 = subV v (i + 1) us.length ∧ s' 28 = .int .i64 ((ls.length - (i + 1) : Nat) : Int) ∧ s' 29 = .int .i64 ((j : Nat) : Int) ∧ H''[A.length]? = some (.cells [v, st'] 28 false) ∧ H''[H.length]? = some (.cells [.slice none 0 0, .slice none 0 0] 28 false) ∧ (st' = .slice none 0 0 ∨ B.length ≤ rowO st') ∧ MineP 81 H H'' st' (stpO p ls i ++ stpI p ls i j) ∧ H <+: H'') (ls.length - (i + 1)) ?_ ?_
  · refine ⟨0, st, by simp, ?_⟩
    simp only [S, S1, S2, S3, S4, S5, ST, eq_self, reduceIte, reduceCtorEq, Nat.reduceEqDiff, Nat.reduceAdd, s1, s4, s5, s16, s17, s18]
    have f0 : MineP 81 H H' st (stpO p ls i ++ stpI p ls i 0) := by rw [stpI, List.append_nil]; exact hmn
    (repeat' first | exact hc5 | exact hc4 | exact hst | exact f0 | exact hpp | apply And.intro) <;> first | (simp only [Value.int.injEq, true_and]; omega) | omega | rfl | assumption | (simp; done) | (simp; omega)
  · rintro m' s' H'' ⟨j, st', hm', g1, g4, g5, g6, g7, g16, g17, g18, g27, g28, g29, hc5', hc4', hst', hmn', hpp'⟩
    simp (maxSteps := 1000000) (disch := omega) only [g1, g4, g5, g6, g7, g16, g17, g18, g27, g28, g29, S, S1, S2, S3, S4, S5, ST, eq_self, reduceIte, reduceCtorEq, Nat.reduceEqDiff, Nat.reduceAdd]
    refine brD.intro (fun q => ?_) (fun q => ?_)
    · have hj : i + 1 + j < ls.length := by omega
      have hH2 := h.pre hpp'
      have hsl' := hH2.row.slice (P := Try.prog) (t := 26) Try.underlying26 cs38 (bound_some (k := .i64) (i := (i : Int) + 1) (by omega) 0) (hi_none us.length) (show ((i : Int) + 1).toNat ≤ us.length by omega) (Nat.le_refl _)
      rw [hi1, hdl] at hsl'
      obtain ⟨_, hsr, _⟩ := hsl'
      have hjd : j < (us.drop (i + 1)).length := by simp; omega
      have hcj := hsr.cell hjd
      have hdd : (us.drop (i + 1)).getD j undef = us.getD (i + 1 + j) undef := by
        rw [List.getD_eq_getElem?_getD, List.getD_eq_getElem?_getD, List.getElem?_drop]
      rw [hdd] at hcj
      have hmj : ls.getD (i + 1 + j) [] ∈ ls := by simp [hj]
      simp (maxSteps := 1000000) (disch := omega) only [g1, g4, g5, g6, g7, g16, g17, g18, g27, g28, g29, hsr.ix Try.underlying26 cs38, Int.toNat_natCast, hcj, S, S1, S2, S3, S4, S5, ST, eq_self, reduceIte, reduceCtorEq, Nat.reduceEqDiff, Nat.reduceAdd]
      refine CallH.by (hS _ _ _ _ H'' (hp.trans hpp') (hH2.each i hi) (hH2.each (i + 1 + j) hj) hmi hmj) ?_
      rintro _ D ⟨rfl, pD⟩
      have hcD5 := pre_at pD hc5'
      have hcD4 := pre_at pD hc4'
      have hpD := hpp'.trans pD
      have hmD := hmn'.pre pD
      have hsl1 := stpO_len p ls i
      have hsl2 := stpI_len p ls i j
      have hmul : i * ls.length ≤ 1000 * 1000 := Nat.mul_le_mul (by omega) hls
      have lD := hpD.length_le
      have l5 := at_lt hc5'
      simp (maxSteps := 1000000) (disch := omega) only [S, S1, S2, S3, S4, S5, ST, eq_self, reduceIte, reduceCtorEq, Nat.reduceEqDiff, Nat.reduceAdd]
      refine brH.intro (fun e => ?_) (fun e => ?_)
      · have hstep : stpI p ls i (j + 1) = stpI p ls i j ++ [((i : Int), ((i + 1 + j : Nat) : Int))] := by rw [stpI, if_pos e]
        obtain ⟨st2, H3, k1, k2, k3, k4, k5, k6⟩ := own1_22 hmD hpD (by rw [List.length_append]; omega) (i : Int) ((i + 1 + j : Nat) : Int)
        have hne : st' = .slice none 0 0 ∨ ∀ o, o < B.length → o ≠ rowO st' := hst'.imp id fun q o ho => by omega
        have d5 : H3[A.length]? = some (.cells [v, st'] 28 false) := k4 _ _ (hne.imp id fun q => q _ (by omega)) hcD5
        have d4 : H3[H.length]? = some (.cells [.slice none 0 0, .slice none 0 0] 28 false) := k4 _ _ (hne.imp id fun q => q _ (by omega)) hcD4
        obtain ⟨q2, hq2⟩ := k2.row.shape
        have t1 : isTup st2 = false := k6
        have t2 : st2.cells.toList = [st2] := by rw [hq2]; rfl
        have hst3 := st_at (P := Try.prog) (t := 22) (i := 1) (y := st2) cs22 d5 (by show 1 < 2; decide) t1 t2
        have hidx : (i : Int) + 1 + (j : Int) = ((i + 1 + j : Nat) : Int) := by omega
        have lDB : B.length ≤ D.length := by have := hpp'.length_le; have := pD.length_le; omega
        simp (maxSteps := 1000000) (disch := omega) only [e, g1, g4, g5, g6, g7, g16, g17, g18, g27, g28, g29, cell_of hcD5, build_a2, wrap64, hidx, k1, hst3, S, S1, S2, S3, S4, S5, ST, eq_self, reduceIte, reduceCtorEq, Nat.reduceEqDiff, Nat.reduceAdd]
        have f5 : (H3.set A.length (.cells ([v, st'].set 1 st2) 28 false))[A.length]? = some (.cells [v, st2] 28 false) := by
          rw [List.getElem?_set_self (at_lt d5)]; rfl
        have f4 : (H3.set A.length (.cells ([v, st'].set 1 st2) 28 false))[H.length]? = some (.cells [.slice none 0 0, .slice none 0 0] 28 false) := by
          rw [List.getElem?_set_ne (by omega)]; exact d4
        have fs' : st2 = .slice none 0 0 ∨ B.length ≤ rowO st2 := .inr (by omega)
        have fm : MineP 81 H (H3.set A.length (.cells ([v, st'].set 1 st2) 28 false)) st2 (stpO p ls i ++ stpI p ls i (j + 1)) := by
          rw [hstep, ← List.append_assoc]
          exact k2.keepL fun hl y hy => by rw [List.getElem?_set_ne (by omega)]; exact hy
        have fp : H <+: H3.set A.length (.cells ([v, st'].set 1 st2) 28 false) := pre_set k3 (by omega) _
        refine ⟨m' - 1, by omega, j + 1, st2, ?_⟩
        (repeat' first | exact f5 | exact f4 | exact fs' | exact fm | exact fp | apply And.intro) <;> first | (simp only [Value.int.injEq, true_and]; omega) | omega | rfl | assumption | (simp; done) | (simp; omega)
      · have hstep : stpI p ls i (j + 1) = stpI p ls i j := by rw [stpI, if_neg (by rw [e]; decide), List.append_nil]
        rw [← hstep] at hmD
        simp (maxSteps := 1000000) (disch := omega) only [e, g1, g4, g5, g6, g7, g16, g17, g18, g27, g28, g29, wrap64, S, S1, S2, S3, S4, S5, ST, eq_self, reduceIte, reduceCtorEq, Nat.reduceEqDiff, Nat.reduceAdd]
        refine ⟨m' - 1, by omega, j + 1, st', ?_⟩
        (repeat' first | exact hcD5 | exact hcD4 | exact hst' | exact hmD | exact hpD | apply And.intro) <;> first | (simp only [Value.int.injEq, true_and]; omega) | omega | rfl | assumption | (simp; done) | (simp; omega)
    · have hjj : j = ls.length - (i + 1) := by omega
      subst hjj
      have hstO : stpO p ls (i + 1) = stpO p ls i ++ stpI p ls i (ls.length - (i + 1)) := rfl
      rw [← hstO] at hmn'
      simp (maxSteps := 1000000) (disch := omega) only [g1, g4, g5, g6, g7, g16, g17, g18, g27, g28, g29, wrap64, S, S1, S2, S3, S4, S5, ST, eq_self, reduceIte, reduceCtorEq, Nat.reduceEqDiff, Nat.reduceAdd]
      refine ⟨m - 1, by omega, i + 1, st', ?_⟩
      (repeat' first | exact hc5' | exact hc4' | exact hst' | exact hmn' | exact hpp' | apply And.intro) <;> first | (simp only [Value.int.injEq, true_and]; omega) | omega | rfl | assumption | (simp; done) | (simp; omega)
end Go.Proofs.Ytlfongfhbkefmaa.Ai
namespace Go.Proofs.Ytlfongfhbkefmaa.Ai
open Go
def ords24 : List (Nat × List (Nat × Bool)) := [(6, [(0, false), (1, false), (2, false), (3, false), (4, false), (5, false), (6, false), (7, false), (8, true), (9, false)])]
def cd24 : Cd := (.seq (.reg [⟨⟨some 4, Op.assign (Operand.const (Value.bool false)), none⟩, []⟩]) (.seq (.seq (.reg [⟨⟨some 6, Op.move (Operand.tmp 0), none⟩, []⟩,
  ⟨⟨some 7, Op.call { callee := (Callee.builtin Builtin.len), args := #[(Operand.tmp 6)], argTypes := #[26] }, none⟩, []⟩,
  ⟨⟨some 8, Op.move (Operand.tmp 1), none⟩, []⟩,
  ⟨⟨some 9, Op.call { callee := (Callee.builtin Builtin.len), args := #[(Operand.tmp 8)], argTypes := #[26] }, none⟩, []⟩,
  ⟨⟨some 10, Op.binOp BinOp.neq 3 (Operand.tmp 7) (Operand.tmp 9) 3, none⟩, []⟩]) (.cond (Operand.tmp 10) (.seq (.reg [⟨⟨some 4, Op.assign (Operand.const (Value.bool false)), none⟩, []⟩]) .ret) .skip)) (.seq (.seq (.reg [⟨⟨some 5, Op.assign (Operand.const (Value.int IntKind.i64 0)), none⟩, []⟩]) (.block 0 (.loop (.seq (.seq (.reg [⟨⟨some 11, Op.move (Operand.tmp 5), none⟩, []⟩,
  ⟨⟨some 12, Op.move (Operand.tmp 0), none⟩, []⟩,
  ⟨⟨some 13, Op.call { callee := (Callee.builtin Builtin.len), args := #[(Operand.tmp 12)], argTypes := #[26] }, none⟩, []⟩,
  ⟨⟨some 14, Op.binOp BinOp.lss 3 (Operand.tmp 11) (Operand.tmp 13) 3, none⟩, []⟩]) (.cond (Operand.tmp 14) .skip (.exit 0))) (.seq (.block 1 (.seq (.reg [⟨⟨some 17, Op.move (Operand.tmp 0), none⟩, []⟩,
  ⟨⟨some 18, Op.move (Operand.tmp 5), none⟩, []⟩,
  ⟨⟨some 19, Op.indexAddr 26 (Operand.tmp 17) (Operand.tmp 18), none⟩, []⟩,
  ⟨⟨some 20, Op.load 38 (Operand.tmp 19), none⟩, []⟩,
  ⟨⟨some 21, Op.move (Operand.tmp 1), none⟩, []⟩,
  ⟨⟨some 22, Op.move (Operand.tmp 5), none⟩, []⟩,
  ⟨⟨some 23, Op.indexAddr 26 (Operand.tmp 21) (Operand.tmp 22), none⟩, []⟩,
  ⟨⟨some 24, Op.load 38 (Operand.tmp 23), none⟩, []⟩,
  ⟨⟨some 25, Op.call { callee := (Callee.value (Operand.func 25)), args := #[(Operand.tmp 20), (Operand.tmp 24)], argTypes := #[38, 38] }, none⟩, []⟩,
  ⟨⟨some 26, Op.unOp UnOp.not 4 (Operand.tmp 25), none⟩, []⟩]) (.cond (Operand.tmp 26) (.seq (.reg [⟨⟨some 4, Op.assign (Operand.const (Value.bool false)), none⟩, []⟩]) .ret) .skip))) (.reg [⟨⟨some 15, Op.move (Operand.tmp 5), none⟩, []⟩,
  ⟨⟨some 16, Op.binOp BinOp.add 3 (Operand.tmp 15) (Operand.const (Value.int IntKind.i64 1)) 3, none⟩, []⟩,
  ⟨⟨some 5, Op.assign (Operand.tmp 16), none⟩, []⟩])))))) (.seq (.reg [⟨⟨some 4, Op.assign (Operand.const (Value.bool true)), none⟩, []⟩]) .ret))))
theorem sl24 : slim Try.f24.ntmps ords24 (Try.f24.body.getD .skip) = some cd24 := by kernel_rfl
theorem in24 {args : List Value} {H : AH} {R : Value → AH → Prop} (hl : args.length = 2) (h : ∀ (Q : Exit → Sl → AH → Prop), (∀ e s H, endA Try.prog [ResultVar.tmp 4] R e s H → Q e s H) → wpC Try.prog cd24 Q (enterA args) H) : ACalls Try.prog 24 args H R :=
  ACalls.intro (by kernel_rfl) Try.func24 rfl (by kernel_rfl) sl24 hl (of_decide_eq_true (by kernel_rfl)) (by kernel_rfl) h
def ords28 : List (Nat × List (Nat × Bool)) := []
def cd28 : Cd := (.seq (.reg [⟨⟨some 4, Op.assign (Operand.const (Value.int IntKind.i64 0)), none⟩, []⟩]) (.seq (.seq (.reg [⟨⟨some 5, Op.assign (Operand.const (Value.int IntKind.i64 0)), none⟩, []⟩]) (.block 0 (.loop (.seq (.seq (.reg [⟨⟨some 6, Op.move (Operand.tmp 5), none⟩, []⟩,
  ⟨⟨some 7, Op.move (Operand.tmp 0), none⟩, []⟩,
  ⟨⟨some 8, Op.call { callee := (Callee.builtin Builtin.len), args := #[(Operand.tmp 7)], argTypes := #[26] }, none⟩, []⟩,
  ⟨⟨some 9, Op.binOp BinOp.lss 3 (Operand.tmp 6) (Operand.tmp 8) 3, none⟩, []⟩]) (.cond (Operand.tmp 9) .skip (.exit 0))) (.seq (.block 1 (.seq (.reg [⟨⟨some 12, Op.move (Operand.tmp 0), none⟩, []⟩,
  ⟨⟨some 13, Op.move (Operand.tmp 5), none⟩, []⟩,
  ⟨⟨some 14, Op.indexAddr 26 (Operand.tmp 12) (Operand.tmp 13), none⟩, []⟩,
  ⟨⟨some 15, Op.load 38 (Operand.tmp 14), none⟩, []⟩,
  ⟨⟨some 16, Op.move (Operand.tmp 1), none⟩, []⟩,
  ⟨⟨some 17, Op.call { callee := (Callee.value (Operand.func 93)), args := #[(Operand.tmp 15), (Operand.tmp 16)], argTypes := #[38, 3] }, none⟩, []⟩,
  ⟨⟨some 1, Op.assign (Operand.tmp 17), none⟩, []⟩]) (.seq (.reg [⟨⟨some 18, Op.move (Operand.tmp 1), none⟩, []⟩,
  ⟨⟨some 19, Op.binOp BinOp.lss 3 (Operand.tmp 18) (Operand.const (Value.int IntKind.i64 0)) 3, none⟩, []⟩]) (.cond (Operand.tmp 19) (.seq (.reg [⟨⟨some 4, Op.assign (Operand.const (Value.int IntKind.i64 (-1))), none⟩, []⟩]) .ret) .skip)))) (.reg [⟨⟨some 10, Op.move (Operand.tmp 5), none⟩, []⟩,
  ⟨⟨some 11, Op.binOp BinOp.add 3 (Operand.tmp 10) (Operand.const (Value.int IntKind.i64 1)) 3, none⟩, []⟩,
  ⟨⟨some 5, Op.assign (Operand.tmp 11), none⟩, []⟩])))))) (.seq (.reg [⟨⟨some 20, Op.move (Operand.tmp 1), none⟩, []⟩,
  ⟨⟨some 4, Op.assign (Operand.tmp 20), none⟩, []⟩]) .ret)))
theorem sl28 : slim Try.f28.ntmps ords28 (Try.f28.body.getD .skip) = some cd28 := by kernel_rfl
theorem in28 {args : List Value} {H : AH} {R : Value → AH → Prop} (hl : args.length = 2) (h : ∀ (Q : Exit → Sl → AH → Prop), (∀ e s H, endA Try.prog [ResultVar.tmp 4] R e s H → Q e s H) → wpC Try.prog cd28 Q (enterA args) H) : ACalls Try.prog 28 args H R :=
  ACalls.intro (by kernel_rfl) Try.func28 rfl (by kernel_rfl) sl28 hl (of_decide_eq_true (by kernel_rfl)) (by kernel_rfl) h
def ords27 : List (Nat × List (Nat × Bool)) := []
def cd27 : Cd := (.seq (.reg [⟨⟨some 4, Op.assign (Operand.const (Value.int IntKind.i64 0)), none⟩, []⟩]) (.seq (.seq (.reg [⟨⟨some 5, Op.assign (Operand.const (Value.int IntKind.i64 0)), none⟩, []⟩]) (.block 0 (.loop (.seq (.seq (.reg [⟨⟨some 6, Op.move (Operand.tmp 5), none⟩, []⟩,
  ⟨⟨some 7, Op.move (Operand.tmp 0), none⟩, []⟩,
  ⟨⟨some 8, Op.call { callee := (Callee.builtin Builtin.len), args := #[(Operand.tmp 7)], argTypes := #[26] }, none⟩, []⟩,
  ⟨⟨some 9, Op.binOp BinOp.lss 3 (Operand.tmp 6) (Operand.tmp 8) 3, none⟩, []⟩]) (.cond (Operand.tmp 9) .skip (.exit 0))) (.seq (.block 1 (.reg [⟨⟨some 12, Op.move (Operand.tmp 0), none⟩, []⟩,
  ⟨⟨some 13, Op.move (Operand.tmp 5), none⟩, []⟩,
  ⟨⟨some 14, Op.indexAddr 26 (Operand.tmp 12) (Operand.tmp 13), none⟩, []⟩,
  ⟨⟨some 15, Op.load 38 (Operand.tmp 14), none⟩, []⟩,
  ⟨⟨some 16, Op.move (Operand.tmp 1), none⟩, []⟩,
  ⟨⟨some 17, Op.call { callee := (Callee.value (Operand.func 26)), args := #[(Operand.tmp 15), (Operand.tmp 16)], argTypes := #[38, 3] }, none⟩, []⟩,
  ⟨⟨some 1, Op.assign (Operand.tmp 17), none⟩, []⟩])) (.reg [⟨⟨some 10, Op.move (Operand.tmp 5), none⟩, []⟩,
  ⟨⟨some 11, Op.binOp BinOp.add 3 (Operand.tmp 10) (Operand.const (Value.int IntKind.i64 1)) 3, none⟩, []⟩,
  ⟨⟨some 5, Op.assign (Operand.tmp 11), none⟩, []⟩])))))) (.seq (.reg [⟨⟨some 18, Op.move (Operand.tmp 1), none⟩, []⟩,
  ⟨⟨some 4, Op.assign (Operand.tmp 18), none⟩, []⟩]) .ret)))
theorem sl27 : slim Try.f27.ntmps ords27 (Try.f27.body.getD .skip) = some cd27 := by kernel_rfl
theorem in27 {args : List Value} {H : AH} {R : Value → AH → Prop} (hl : args.length = 2) (h : ∀ (Q : Exit → Sl → AH → Prop), (∀ e s H, endA Try.prog [ResultVar.tmp 4] R e s H → Q e s H) → wpC Try.prog cd27 Q (enterA args) H) : ACalls Try.prog 27 args H R :=
  ACalls.intro (by kernel_rfl) Try.func27 rfl (by kernel_rfl) sl27 hl (of_decide_eq_true (by kernel_rfl)) (by kernel_rfl) h
end Go.Proofs.Ytlfongfhbkefmaa.Ai
namespace Go.Proofs.Ytlfongfhbkefmaa.Ai
open Go Go.RowKit
set_option linter.unusedVariables false
set_option linter.unusedSimpArgs false
set_option maxHeartbeats 1000000 in
theorem eqIntSS_c (v w : Value) (ls ms : List (List Int)) (H : AH) {b b' : Nat} (hr : RowLB b 38 3 H v ls) (hr2 : RowLB b' 38 3 H w ms) (hlen : ls.length ≤ 1099511627776) (hsz : sizeL ls ≤ 1099511627776) :
    ACalls Try.prog 24 [v, w] H fun r H' => r = .bool (decide (ls = ms)) ∧ H = H' := by
  obtain ⟨us, hv, _, hul, hu⟩ := hr
  obtain ⟨ws, hw, _, hwl, hwr⟩ := hr2
  have hvl := hv.len Try.underlying26
  have hwln := hw.len Try.underlying26
  rw [hul] at hvl
  rw [hwl] at hwln
  refine in24 rfl ?_
  intro Q hQ
  simp (maxSteps := 1000000) (disch := omega) only [cd24, hvl, hwln, S, S1, S2, S3, S4, S5, ST, eq_self, reduceIte, reduceCtorEq, Nat.reduceEqDiff, Nat.reduceAdd]
  refine brD.intro (fun g => ?_) (fun g => ?_) <;> simp (maxSteps := 1000000) (disch := omega) only [hvl, S, S1, S2, S3, S4, S5, ST, eq_self, reduceIte, reduceCtorEq, Nat.reduceEqDiff, Nat.reduceAdd]
  · refine hQ _ _ _ ?_
    simp (maxSteps := 1000000) (disch := omega) only [S, S1, S2, S3, S4, S5, ST, eq_self, reduceIte, reduceCtorEq, Nat.reduceEqDiff, Nat.reduceAdd]
    have : ls ≠ ms := fun e => g (by rw [e])
    simp [this]
  · have hl : ls.length = ms.length := by omega
    refine LoopH.by (fun m s H' => ∃ i, m + i = ls.length ∧ s 0 = v ∧ s 1 = w ∧ s 5 = .int .i64 ((i : Nat) : Int) ∧ H = H' ∧ ls.take i = ms.take i) ls.length ?_ ?_
    · exact ⟨0, by simp, rfl, rfl, rfl, rfl, by simp⟩
    · rintro m s H' ⟨i, hm, h0, h1, h5, rfl, hn⟩
      simp (maxSteps := 1000000) (disch := omega) only [h0, h1, h5, hvl, S, S1, S2, S3, S4, S5, ST, eq_self, reduceIte, reduceCtorEq, Nat.reduceEqDiff, Nat.reduceAdd]
      refine brD.intro (fun g => ?_) (fun g => ?_) <;> simp (maxSteps := 1000000) (disch := omega) only [h0, h1, h5, hv.ix Try.underlying26 cs38, hv.cell, hw.ix Try.underlying26 cs38, hw.cell, Int.toNat_natCast, S, S1, S2, S3, S4, S5, ST, eq_self, reduceIte, reduceCtorEq, Nat.reduceEqDiff, Nat.reduceAdd]
      · have hi : i < ls.length := by omega
        have hg : ls.getD i [] = ls[i] := by simp [hi]
        have hg2 : ms.getD i [] = ms[i] := by simp [hl ▸ hi]
        have h1l := sizeL_take ls i hi
        have h2l := sizeL_le ls (i + 1)
        refine CallH.by (eqIntS_c _ _ _ _ H (hu i hi).1 (hwr i (by omega)).1 (by omega)) ?_
        rintro _ _ ⟨rfl, rfl⟩
        simp (maxSteps := 1000000) (disch := omega) only [S, S1, S2, S3, S4, S5, ST, eq_self, reduceIte, reduceCtorEq, Nat.reduceEqDiff, Nat.reduceAdd]
        refine brD.intro (fun e => ?_) (fun e => ?_) <;> simp (maxSteps := 1000000) (disch := omega) only [h0, h1, h5, wrap64, S, S1, S2, S3, S4, S5, ST, eq_self, reduceIte, reduceCtorEq, Nat.reduceEqDiff, Nat.reduceAdd]
        · have fx : ls.take (i + 1) = ms.take (i + 1) := by
            rw [List.take_add_one, List.take_add_one, hn, List.getElem?_eq_getElem hi, List.getElem?_eq_getElem (hl ▸ hi)]
            rw [hg, hg2] at e
            rw [e]
          refine ⟨m - 1, by omega, i + 1, ?_⟩
          (repeat' first | exact fx | apply And.intro) <;> first | (simp only [Value.int.injEq, true_and]; omega) | omega | rfl | assumption | (simp; done) | (simp; omega)
        · refine hQ _ _ _ ?_
          simp (maxSteps := 1000000) (disch := omega) only [S, S1, S2, S3, S4, S5, ST, eq_self, reduceIte, reduceCtorEq, Nat.reduceEqDiff, Nat.reduceAdd]
          have : ls ≠ ms := by
            intro e'
            subst e'
            exact e rfl
          simp [this]
      · refine hQ _ _ _ ?_
        simp (maxSteps := 1000000) (disch := omega) only [S, S1, S2, S3, S4, S5, ST, eq_self, reduceIte, reduceCtorEq, Nat.reduceEqDiff, Nat.reduceAdd]
        rw [List.take_of_length_le (by omega), List.take_of_length_le (by omega)] at hn
        simp [hn]
theorem heldIntSS_c (v : Value) (ls : List (List Int)) (k : Int) (H : AH) {b : Nat} (hr : RowLB b 38 3 H v (runL k ls)) (hlen : ls.length ≤ 1099511627776) (hsz : sizeL ls ≤ 1099511627776) (hk : 0 ≤ k ∧ k ≤ 1099511627776) :
    ACalls Try.prog 28 [v, .int .i64 k] H fun r H' => r = .int .i64 (k + sizeL ls) ∧ H = H' := by
  obtain ⟨us, hv, _, hul, hu⟩ := hr
  rw [runL_len] at hul hu
  have hvl := hv.len Try.underlying26
  rw [hul] at hvl
  refine in28 rfl ?_
  intro Q hQ
  simp (maxSteps := 1000000) (disch := omega) only [cd28, S, S1, S2, S3, S4, S5, ST, eq_self, reduceIte, reduceCtorEq, Nat.reduceEqDiff, Nat.reduceAdd]
  refine LoopH.by (fun m s H' => ∃ i, m + i = ls.length ∧ s 0 = v ∧ s 1 = .int .i64 (k + (sizeL (ls.take i) : Nat)) ∧ s 5 = .int .i64 ((i : Nat) : Int) ∧ H = H') ls.length ?_ ?_
  · exact ⟨0, by simp, rfl, by simp [S, S1, S2, S3, S4, S5, ST, eq_self, reduceIte, reduceCtorEq, Nat.reduceEqDiff, Nat.reduceAdd, sizeL], rfl, rfl⟩
  · rintro m s H' ⟨i, hm, h0, h1, h5, rfl⟩
    simp (maxSteps := 1000000) (disch := omega) only [h0, h1, h5, hvl, S, S1, S2, S3, S4, S5, ST, eq_self, reduceIte, reduceCtorEq, Nat.reduceEqDiff, Nat.reduceAdd]
    refine brD.intro (fun g => ?_) (fun g => ?_) <;> simp (maxSteps := 1000000) (disch := omega) only [h0, h1, h5, hv.ix Try.underlying26 cs38, hv.cell, Int.toNat_natCast, S, S1, S2, S3, S4, S5, ST, eq_self, reduceIte, reduceCtorEq, Nat.reduceEqDiff, Nat.reduceAdd]
    · have hi : i < ls.length := by omega
      have h1l := sizeL_take ls i hi
      have h2l := sizeL_le ls (i + 1)
      have hrow := (hu i hi).1
      rw [runL_at k ls i hi] at hrow
      refine CallH.by (heldIntS_c _ _ (k + (sizeL (ls.take i) : Nat)) H hrow (by rw [runI_len]; omega) (by omega) (by rw [runI_len])) ?_
      rintro _ _ ⟨rfl, rfl⟩
      simp (maxSteps := 1000000) (disch := omega) only [runI_len, S, S1, S2, S3, S4, S5, ST, eq_self, reduceIte, reduceCtorEq, Nat.reduceEqDiff, Nat.reduceAdd]
      refine brD.intro (fun h => absurd h (by omega)) (fun _ => ?_)
      simp (maxSteps := 1000000) (disch := omega) only [h0, h1, h5, wrap64, S, S1, S2, S3, S4, S5, ST, eq_self, reduceIte, reduceCtorEq, Nat.reduceEqDiff, Nat.reduceAdd]
      refine ⟨m - 1, by omega, i + 1, by omega, ?_⟩
      rw [h1l]
      (repeat' first | apply And.intro) <;> first | (simp only [Value.int.injEq, true_and]; omega) | omega | rfl | assumption | (simp; done) | (simp; omega)
    · refine hQ _ _ _ ?_
      simp (maxSteps := 1000000) (disch := omega) only [h1, S, S1, S2, S3, S4, S5, ST, eq_self, reduceIte, reduceCtorEq, Nat.reduceEqDiff, Nat.reduceAdd]
      have : ls.take i = ls := List.take_of_length_le (by omega)
      rw [this]
/-- the lists as far as i are marked -/
def mixL (k : Int) (ls : List (List Int)) (i : Nat) : List (List Int) := (runL k ls).take i ++ ls.drop i
theorem mixL_len (k : Int) (ls : List (List Int)) (i : Nat) : (mixL k ls i).length = ls.length := by
  unfold mixL
  simp [runL_len]; omega
theorem mixL_at (k : Int) (ls : List (List Int)) (i j : Nat) (hj : j < ls.length) : (mixL k ls i).getD j [] = if j < i then runI (k + sizeL (ls.take j)) (ls.getD j []).length else ls.getD j [] := by
  unfold mixL
  have hl : ((runL k ls).take i).length = min i ls.length := by simp [runL_len]
  by_cases h : j < i
  · rw [if_pos h, List.getD_eq_getElem?_getD, List.getElem?_append_left (by rw [hl]; omega), List.getElem?_take, if_pos h, ← List.getD_eq_getElem?_getD, runL_at k ls j hj]
  · rw [if_neg h, List.getD_eq_getElem?_getD, List.getElem?_append_right (by rw [hl]; omega), hl, List.getElem?_drop, ← List.getD_eq_getElem?_getD]
    congr 1; omega
set_option maxHeartbeats 1000000 in
theorem markIntSS_B (v : Value) (ls : List (List Int)) (k : Int) (lo hi : Nat) (H : AH) (h : InL lo hi 38 3 H v ls) (hlen : ls.length ≤ 1099511627776) (hsz : sizeL ls ≤ 1099511627776) (hk : 0 ≤ k ∧ k ≤ 1099511627776) :
    ACalls Try.prog 27 [v, .int .i64 k] H fun r H' => r = .int .i64 (k + sizeL ls) ∧ InL lo hi 38 3 H' v (runL k ls) ∧ ElseR lo hi H H' := by
  refine in27 rfl ?_
  intro Q hQ
  rcases h with ⟨rfl, rfl⟩ | ⟨o, us, rfl, hin⟩
  · simp (maxSteps := 1000000) (disch := omega) only [cd27, S, S1, S2, S3, S4, S5, ST, eq_self, reduceIte, reduceCtorEq, Nat.reduceEqDiff, Nat.reduceAdd]
    refine LoopH.by (fun m s H' => s 0 = .slice none 0 0 ∧ s 1 = .int .i64 k ∧ s 5 = .int .i64 0 ∧ H = H') 0 ?_ ?_
    · exact ⟨rfl, rfl, rfl, rfl⟩
    · rintro m s H' ⟨h0, h1, h5, rfl⟩
      simp (maxSteps := 1000000) (disch := omega) only [h0, h1, h5, S, S1, S2, S3, S4, S5, ST, eq_self, reduceIte, reduceCtorEq, Nat.reduceEqDiff, Nat.reduceAdd]
      refine brD.intro (fun g => absurd g (by decide)) (fun g => ?_)
      simp (maxSteps := 1000000) (disch := omega) only [h1, S, S1, S2, S3, S4, S5, ST, eq_self, reduceIte, reduceCtorEq, Nat.reduceEqDiff, Nat.reduceAdd]
      refine hQ _ _ _ ?_
      simp (maxSteps := 1000000) (disch := omega) only [h1, S, S1, S2, S3, S4, S5, ST, eq_self, reduceIte, reduceCtorEq, Nat.reduceEqDiff, Nat.reduceAdd]
      exact ⟨by simp [sizeL], .inl ⟨rfl, rfl⟩, ElseR.refl _ _ _⟩
  · simp (maxSteps := 1000000) (disch := omega) only [cd27, S, S1, S2, S3, S4, S5, ST, eq_self, reduceIte, reduceCtorEq, Nat.reduceEqDiff, Nat.reduceAdd]
    refine LoopH.by (fun m s H' => ∃ i, m + i = ls.length ∧ s 0 = .slice (some ⟨o, 0, none⟩) ls.length ls.length ∧ s 1 = .int .i64 (k + (sizeL (ls.take i) : Nat)) ∧ s 5 = .int .i64 ((i : Nat) : Int) ∧ InU lo hi 38 3 H' o us (mixL k ls i) ∧ ElseR lo hi H H') ls.length ?_ ?_
    · refine ⟨0, by simp, rfl, by simp [S, S1, S2, S3, S4, S5, ST, eq_self, reduceIte, reduceCtorEq, Nat.reduceEqDiff, Nat.reduceAdd, sizeL], rfl, ?_, ElseR.refl _ _ _⟩
      have : mixL k ls 0 = ls := by simp [mixL]
      rw [this]; exact hin
    · rintro m s H' ⟨i, hm, h0, h1, h5, hin', hel⟩
      have hrow := hin'.row
      rw [mixL_len] at hrow
      obtain ⟨ws, hv, _, hul, hu⟩ := hrow
      rw [mixL_len] at hul
      simp (maxSteps := 1000000) (disch := omega) only [h0, h1, h5, S, S1, S2, S3, S4, S5, ST, eq_self, reduceIte, reduceCtorEq, Nat.reduceEqDiff, Nat.reduceAdd]
      refine brD.intro (fun g => ?_) (fun g => ?_)
      · have hi' : i < ls.length := by omega
        have h1l := sizeL_take ls i hi'
        have h2l := sizeL_le ls (i + 1)
        obtain ⟨q1, q2, q3, q4, q5, q6⟩ := hin'
        rw [mixL_len] at q4 q5 q6
        have hcell : cellA H' o i = some (us.getD i undef) := by
          rw [cell_of q3, List.getD_eq_getElem?_getD, List.getElem?_eq_getElem (by omega)]; rfl
        obtain ⟨r1, r2⟩ := q5 i hi'
        rw [mixL_at k ls i i hi', if_neg (Nat.lt_irrefl _)] at r1
        simp (maxSteps := 1000000) (disch := omega) only [h0, h1, h5, hcell, Int.toNat_natCast, Nat.zero_add, S, S1, S2, S3, S4, S5, ST, eq_self, reduceIte, reduceCtorEq, Nat.reduceEqDiff, Nat.reduceAdd]
        have mk := markIntS_B (us.getD i undef) (ls.getD i []) (k + (sizeL (ls.take i) : Nat)) lo hi H' r1 (by omega) (by omega)
        have mk2 := markIntS_c (us.getD i undef) (ls.getD i []) (k + (sizeL (ls.take i) : Nat)) (List.replicate lo AObj.dead) H' (by
          rcases r1 with h | ⟨o', zs, h1, h2, h3, h4, h5⟩
          · exact .inl h
          · exact .inr ⟨o', zs, h1, by simpa using h2, h4, h5⟩) (by omega) (by omega)
        refine CallH.by mk2 ?_
        rintro _ H2 ⟨rfl, hmine, hels⟩
        simp (maxSteps := 1000000) (disch := omega) only [h0, h1, h5, wrap64, S, S1, S2, S3, S4, S5, ST, eq_self, reduceIte, reduceCtorEq, Nat.reduceEqDiff, Nat.reduceAdd]
        have keepo : H2[o]? = some (.cells us 38 false) := by
          refine hels.2 o _ ?_ q3
          rcases r2 with g | g
          · exact .inl g
          · exact .inr (fun e => g e.symm)
        have fel : ElseR lo hi H H2 := by
          refine hel.trans ⟨hels.1, fun j x hj hx => hels.2 j x ?_ hx⟩
          rcases r1.at_ with g | g
          · exact .inl g
          · exact .inr (by omega)
        have r1' : InI lo hi 3 H2 (us.getD i undef) (runI (k + (sizeL (ls.take i) : Nat)) (ls.getD i []).length) := by
          rcases r1 with ⟨g1, g2⟩ | ⟨o', zs, g1, g2, g3, g4, g5⟩
          · rw [g2]; exact .inl ⟨g1, rfl⟩
          · rcases hmine with ⟨f1, f2⟩ | ⟨o2, zs2, f1, f2, f3, f4⟩
            · rw [g1] at f1; cases f1
            · have e : o2 = o' := by
                rw [g1] at f1
                simp only [Value.slice.injEq, Option.some.injEq, Addr.mk.injEq] at f1
                exact f1.1.1.symm
              subst e
              exact .inr ⟨o2, zs2, f1, g2, g3, f3, f4⟩
        have fin : InU lo hi 38 3 H2 o us (mixL k ls (i + 1)) := by
          refine ⟨q1, q2, keepo, by rw [mixL_len]; exact q4, fun j hj => ?_, fun a b hab ha hb => q6 a b hab (by rw [mixL_len] at ha; exact ha) (by rw [mixL_len] at hb; exact hb)⟩
          rw [mixL_len] at hj
          obtain ⟨w1, w2⟩ := q5 j hj
          refine ⟨?_, w2⟩
          rw [mixL_at k ls i j hj] at w1
          rw [mixL_at k ls (i + 1) j hj]
          by_cases e : j = i
          · subst e; rw [if_pos (by omega)]; exact r1'
          · have : (if j < i then runI (k + sizeL (ls.take j)) (ls.getD j []).length else ls.getD j []) = (if j < i + 1 then runI (k + sizeL (ls.take j)) (ls.getD j []).length else ls.getD j []) := by
              by_cases c : j < i
              · rw [if_pos c, if_pos (by omega)]
              · rw [if_neg c, if_neg (by omega)]
            rw [← this]
            refine w1.move fun y hn hy => hels.2 _ _ ?_ hy
            rcases q6 j i e hj hi' with g | g | g
            · exact .inl g
            · exact absurd g hn
            · exact .inr g
        refine ⟨m - 1, by omega, i + 1, by omega, ?_⟩
        rw [h1l]
        (repeat' first | exact fin | exact fel | apply And.intro) <;> first | (simp only [Value.int.injEq, true_and]; omega) | omega | rfl | assumption | (simp; done) | (simp; omega)
      · simp (maxSteps := 1000000) (disch := omega) only [h1, S, S1, S2, S3, S4, S5, ST, eq_self, reduceIte, reduceCtorEq, Nat.reduceEqDiff, Nat.reduceAdd]
        refine hQ _ _ _ ?_
        simp (maxSteps := 1000000) (disch := omega) only [h1, S, S1, S2, S3, S4, S5, ST, eq_self, reduceIte, reduceCtorEq, Nat.reduceEqDiff, Nat.reduceAdd]
        have e1 : ls.take i = ls := List.take_of_length_le (by omega)
        have e2 : mixL k ls i = runL k ls := by
          unfold mixL
          rw [List.take_of_length_le (by rw [runL_len]; omega), List.drop_of_length_le (by omega), List.append_nil]
        rw [e2] at hin'
        rw [e1]
        exact ⟨rfl, by have := hin'.inl; rw [runL_len] at this; exact .inr ⟨o, us, by rw [runL_len], hin'⟩, hel⟩
end Go.Proofs.Ytlfongfhbkefmaa.Ai
namespace Go.Proofs.Ytlfongfhbkefmaa.Ai
open Go
def ords16 : List (Nat × List (Nat × Bool)) := []
def cd16 : Cd := (.seq (.reg [⟨⟨some 2, Op.box 28 (Operand.tmp 0), none⟩, []⟩,
  ⟨⟨some 3, Op.box 28 (Operand.tmp 1), none⟩, []⟩,
  ⟨⟨some 4, Op.assign (Operand.const (Value.bool false)), none⟩, []⟩]) (.seq (.seq (.reg [⟨⟨some 5, Op.fieldAddr 28 (Operand.tmp 2) 0, none⟩, []⟩,
  ⟨⟨some 6, Op.load 26 (Operand.tmp 5), none⟩, []⟩,
  ⟨⟨some 7, Op.fieldAddr 28 (Operand.tmp 3) 0, none⟩, []⟩,
  ⟨⟨some 8, Op.load 26 (Operand.tmp 7), none⟩, []⟩,
  ⟨⟨some 9, Op.call { callee := (Callee.value (Operand.func 24)), args := #[(Operand.tmp 6), (Operand.tmp 8)], argTypes := #[26, 26] }, none⟩, []⟩,
  ⟨⟨some 10, Op.unOp UnOp.not 4 (Operand.tmp 9), none⟩, []⟩]) (.cond (Operand.tmp 10) (.seq (.reg [⟨⟨some 4, Op.assign (Operand.const (Value.bool false)), none⟩, []⟩]) .ret) .skip)) (.seq (.seq (.reg [⟨⟨some 11, Op.fieldAddr 28 (Operand.tmp 2) 1, none⟩, []⟩,
  ⟨⟨some 12, Op.load 22 (Operand.tmp 11), none⟩, []⟩,
  ⟨⟨some 13, Op.fieldAddr 28 (Operand.tmp 3) 1, none⟩, []⟩,
  ⟨⟨some 14, Op.load 22 (Operand.tmp 13), none⟩, []⟩,
  ⟨⟨some 15, Op.call { callee := (Callee.value (Operand.func 77)), args := #[(Operand.tmp 12), (Operand.tmp 14)], argTypes := #[22, 22] }, none⟩, []⟩,
  ⟨⟨some 16, Op.unOp UnOp.not 4 (Operand.tmp 15), none⟩, []⟩]) (.cond (Operand.tmp 16) (.seq (.reg [⟨⟨some 4, Op.assign (Operand.const (Value.bool false)), none⟩, []⟩]) .ret) .skip)) (.seq (.reg [⟨⟨some 4, Op.assign (Operand.const (Value.bool true)), none⟩, []⟩]) .ret))))
theorem sl16 : slim Try.f16.ntmps ords16 (Try.f16.body.getD .skip) = some cd16 := by kernel_rfl
theorem in16 {args : List Value} {H : AH} {R : Value → AH → Prop} (hl : args.length = 2) (h : ∀ (Q : Exit → Sl → AH → Prop), (∀ e s H, endA Try.prog [ResultVar.tmp 4] R e s H → Q e s H) → wpC Try.prog cd16 Q (enterA args) H) : ACalls Try.prog 16 args H R :=
  ACalls.intro (by kernel_rfl) Try.func16 rfl (by kernel_rfl) sl16 hl (of_decide_eq_true (by kernel_rfl)) (by kernel_rfl) h
def ords19 : List (Nat × List (Nat × Bool)) := []
def cd19 : Cd := (.seq (.reg [⟨⟨some 2, Op.box 28 (Operand.tmp 0), none⟩, []⟩,
  ⟨⟨some 4, Op.assign (Operand.const (Value.int IntKind.i64 0)), none⟩, []⟩]) (.seq (.reg [⟨⟨some 5, Op.fieldAddr 28 (Operand.tmp 2) 0, none⟩, []⟩,
  ⟨⟨some 6, Op.load 26 (Operand.tmp 5), none⟩, []⟩,
  ⟨⟨some 7, Op.move (Operand.tmp 1), none⟩, []⟩,
  ⟨⟨some 8, Op.call { callee := (Callee.value (Operand.func 27)), args := #[(Operand.tmp 6), (Operand.tmp 7)], argTypes := #[26, 3] }, none⟩, []⟩,
  ⟨⟨some 1, Op.assign (Operand.tmp 8), none⟩, []⟩]) (.seq (.reg [⟨⟨some 9, Op.fieldAddr 28 (Operand.tmp 2) 1, none⟩, []⟩,
  ⟨⟨some 10, Op.load 22 (Operand.tmp 9), none⟩, []⟩,
  ⟨⟨some 11, Op.move (Operand.tmp 1), none⟩, []⟩,
  ⟨⟨some 12, Op.call { callee := (Callee.value (Operand.func 78)), args := #[(Operand.tmp 10), (Operand.tmp 11)], argTypes := #[22, 3] }, none⟩, []⟩,
  ⟨⟨some 1, Op.assign (Operand.tmp 12), none⟩, []⟩]) (.seq (.reg [⟨⟨some 13, Op.move (Operand.tmp 1), none⟩, []⟩,
  ⟨⟨some 4, Op.assign (Operand.tmp 13), none⟩, []⟩]) .ret))))
theorem sl19 : slim Try.f19.ntmps ords19 (Try.f19.body.getD .skip) = some cd19 := by kernel_rfl
theorem in19 {args : List Value} {H : AH} {R : Value → AH → Prop} (hl : args.length = 2) (h : ∀ (Q : Exit → Sl → AH → Prop), (∀ e s H, endA Try.prog [ResultVar.tmp 4] R e s H → Q e s H) → wpC Try.prog cd19 Q (enterA args) H) : ACalls Try.prog 19 args H R :=
  ACalls.intro (by kernel_rfl) Try.func19 rfl (by kernel_rfl) sl19 hl (of_decide_eq_true (by kernel_rfl)) (by kernel_rfl) h
def ords20 : List (Nat × List (Nat × Bool)) := []
def cd20 : Cd := (.seq (.reg [⟨⟨some 2, Op.box 28 (Operand.tmp 0), none⟩, []⟩,
  ⟨⟨some 4, Op.assign (Operand.const (Value.int IntKind.i64 0)), none⟩, []⟩]) (.seq (.reg [⟨⟨some 5, Op.fieldAddr 28 (Operand.tmp 2) 0, none⟩, []⟩,
  ⟨⟨some 6, Op.load 26 (Operand.tmp 5), none⟩, []⟩,
  ⟨⟨some 7, Op.move (Operand.tmp 1), none⟩, []⟩,
  ⟨⟨some 8, Op.call { callee := (Callee.value (Operand.func 28)), args := #[(Operand.tmp 6), (Operand.tmp 7)], argTypes := #[26, 3] }, none⟩, []⟩,
  ⟨⟨some 1, Op.assign (Operand.tmp 8), none⟩, []⟩]) (.seq (.seq (.reg [⟨⟨some 9, Op.move (Operand.tmp 1), none⟩, []⟩,
  ⟨⟨some 10, Op.binOp BinOp.lss 3 (Operand.tmp 9) (Operand.const (Value.int IntKind.i64 0)) 3, none⟩, []⟩]) (.cond (Operand.tmp 10) (.seq (.reg [⟨⟨some 4, Op.assign (Operand.const (Value.int IntKind.i64 (-1))), none⟩, []⟩]) .ret) .skip)) (.seq (.reg [⟨⟨some 11, Op.fieldAddr 28 (Operand.tmp 2) 1, none⟩, []⟩,
  ⟨⟨some 12, Op.load 22 (Operand.tmp 11), none⟩, []⟩,
  ⟨⟨some 13, Op.move (Operand.tmp 1), none⟩, []⟩,
  ⟨⟨some 14, Op.call { callee := (Callee.value (Operand.func 79)), args := #[(Operand.tmp 12), (Operand.tmp 13)], argTypes := #[22, 3] }, none⟩, []⟩,
  ⟨⟨some 1, Op.assign (Operand.tmp 14), none⟩, []⟩]) (.seq (.seq (.reg [⟨⟨some 15, Op.move (Operand.tmp 1), none⟩, []⟩,
  ⟨⟨some 16, Op.binOp BinOp.lss 3 (Operand.tmp 15) (Operand.const (Value.int IntKind.i64 0)) 3, none⟩, []⟩]) (.cond (Operand.tmp 16) (.seq (.reg [⟨⟨some 4, Op.assign (Operand.const (Value.int IntKind.i64 (-1))), none⟩, []⟩]) .ret) .skip)) (.seq (.reg [⟨⟨some 17, Op.move (Operand.tmp 1), none⟩, []⟩,
  ⟨⟨some 4, Op.assign (Operand.tmp 17), none⟩, []⟩]) .ret))))))
theorem sl20 : slim Try.f20.ntmps ords20 (Try.f20.body.getD .skip) = some cd20 := by kernel_rfl
theorem in20 {args : List Value} {H : AH} {R : Value → AH → Prop} (hl : args.length = 2) (h : ∀ (Q : Exit → Sl → AH → Prop), (∀ e s H, endA Try.prog [ResultVar.tmp 4] R e s H → Q e s H) → wpC Try.prog cd20 Q (enterA args) H) : ACalls Try.prog 20 args H R :=
  ACalls.intro (by kernel_rfl) Try.func20 rfl (by kernel_rfl) sl20 hl (of_decide_eq_true (by kernel_rfl)) (by kernel_rfl) h
end Go.Proofs.Ytlfongfhbkefmaa.Ai
namespace Go.Proofs.Ytlfongfhbkefmaa.Ai
open Go Go.RowKit
set_option linter.unusedVariables false
set_option linter.unusedSimpArgs false
/-- a space's two lists in memory -/
def SpRow (H : AH) (a b : Value) (ls : List (List Int)) (ps : List (Int × Int)) : Prop := (∃ bd, RowLB bd 38 3 H a ls) ∧ RowP 81 H b ps
/-- .. of one's own: the states below mid, the steps from mid on -/
def SpIn (lo hi : Nat) (H : AH) (a b : Value) (ls : List (List Int)) (ps : List (Int × Int)) : Prop := ∃ mid, lo ≤ mid ∧ mid ≤ hi ∧ InL lo mid 38 3 H a ls ∧ InP mid hi 81 H b ps
theorem SpIn.row {lo hi : Nat} {H : AH} {a b : Value} {ls : List (List Int)} {ps : List (Int × Int)} (h : SpIn lo hi H a b ls ps) : SpRow H a b ls ps := by
  obtain ⟨mid, h1, h2, h3, h4⟩ := h
  exact ⟨⟨_, h3.row⟩, h4.row.1⟩
theorem SpIn.pre {lo hi : Nat} {H H' : AH} {a b : Value} {ls : List (List Int)} {ps : List (Int × Int)} (h : SpIn lo hi H a b ls ps) (hp : H <+: H') : SpIn lo hi H' a b ls ps := by
  obtain ⟨mid, h1, h2, h3, h4⟩ := h
  exact ⟨mid, h1, h2, h3.pre hp, h4.pre hp⟩
theorem SpIn.keep {lo hi lo' hi' : Nat} {H H' : AH} {a b : Value} {ls : List (List Int)} {ps : List (Int × Int)} (h : SpIn lo hi H a b ls ps) (he : ElseR lo' hi' H H') (hl : hi ≤ lo' ∨ hi' ≤ lo) : SpIn lo hi H' a b ls ps := by
  obtain ⟨mid, h1, h2, h3, h4⟩ := h
  exact ⟨mid, h1, h2, h3.keep he (by omega), h4.keep he (by omega)⟩
theorem SpRow.pre {H H' : AH} {a b : Value} {ls : List (List Int)} {ps : List (Int × Int)} (h : SpRow H a b ls ps) (hp : H <+: H') : SpRow H' a b ls ps := ⟨h.1.imp fun _ q => q.pre hp, h.2.pre hp⟩
theorem SpRow.shape {H : AH} {a b : Value} {ls : List (List Int)} {ps : List (Int × Int)} (h : SpRow H a b ls ps) : (∃ p n c, a = .slice p n c) ∧ ∃ p n c, b = .slice p n c := by
  obtain ⟨⟨bd, us, h1, _⟩, h2⟩ := h
  obtain ⟨p, e⟩ := h1.shape
  obtain ⟨q, e2⟩ := h2.shape
  exact ⟨⟨_, _, _, e⟩, ⟨_, _, _, e2⟩⟩
theorem SpRow.box {H G : AH} {a b : Value} {ls : List (List Int)} {ps : List (Int × Int)} (h : SpRow G a b ls ps) : boxA Try.prog 28 (.agg (List.toArray [a, b])) H = some (.pointer (some ⟨H.length, 0, none⟩), H ++ [.cells [a, b] 28 false]) := by
  obtain ⟨⟨p, n, c, rfl⟩, ⟨q, m, d, rfl⟩⟩ := h.shape
  kernel_rfl
theorem SpRow.store {e : TypeId} {H G : AH} {o : Nat} {vs : List Value} {a b : Value} {ls : List (List Int)} {ps : List (Int × Int)} (h : SpRow G a b ls ps) (ho : H[o]? = some (.cells vs e false)) (hv : vs.length = 2) :
    storeA Try.prog 28 (.pointer (some ⟨o, 0, none⟩)) (.agg (List.toArray [a, b])) H = some (H.set o (.cells [a, b] e false)) := by
  obtain ⟨⟨p, n, c, rfl⟩, ⟨q, m, d, rfl⟩⟩ := h.shape
  exact st_ss ho hv p q n c m d
theorem eqSpace_c (a b c d : Value) (ls ms : List (List Int)) (ps qs : List (Int × Int)) (H : AH) (hr : SpRow H a b ls ps) (hr2 : SpRow H c d ms qs) (hl : ls.length ≤ 1099511627776) (hs : sizeL ls ≤ 1099511627776) (hp : ps.length ≤ 1099511627776) :
    ACalls Try.prog 16 [.agg (List.toArray [a, b]), .agg (List.toArray [c, d])] H fun r H' => r = .bool (decide (ls = ms ∧ ps = qs)) ∧ H <+: H' := by
  refine in16 rfl ?_
  intro Q hQ
  simp (maxSteps := 1000000) (disch := omega) only [cd16, hr.box, hr2.box, S, S1, S2, S3, S4, S5, ST, eq_self, reduceIte, reduceCtorEq, Nat.reduceEqDiff, Nat.reduceAdd]
  generalize hA : H ++ [AObj.cells [a, b] 28 false] = A
  have pA : H <+: A := by rw [← hA]; exact List.prefix_append _ _
  have a0 : A[H.length]? = some (.cells [a, b] 28 false) := by rw [← hA]; exact at_new ..
  generalize hB : A ++ [AObj.cells [c, d] 28 false] = B
  have pB : A <+: B := by rw [← hB]; exact List.prefix_append _ _
  have b0 := pre_at pB a0
  have b1 : B[A.length]? = some (.cells [c, d] 28 false) := by rw [← hB]; exact at_new ..
  have pHB := pA.trans pB
  obtain ⟨⟨bd, r1⟩, r2⟩ := hr.pre pHB
  obtain ⟨⟨bd2, r3⟩, r4⟩ := hr2.pre pHB
  simp (maxSteps := 1000000) (disch := omega) only [cell_of b0, cell_of b1, S, S1, S2, S3, S4, S5, ST, eq_self, reduceIte, reduceCtorEq, Nat.reduceEqDiff, Nat.reduceAdd]
  refine CallH.by (eqIntSS_c a c ls ms B r1 r3 hl hs) ?_
  rintro _ _ ⟨rfl, rfl⟩
  simp (maxSteps := 1000000) (disch := omega) only [S, S1, S2, S3, S4, S5, ST, eq_self, reduceIte, reduceCtorEq, Nat.reduceEqDiff, Nat.reduceAdd]
  refine brD.intro (fun g => ?_) (fun g => ?_) <;> simp (maxSteps := 1000000) (disch := omega) only [g, cell_of b0, cell_of b1, S, S1, S2, S3, S4, S5, ST, eq_self, reduceIte, reduceCtorEq, Nat.reduceEqDiff, Nat.reduceAdd]
  · refine CallH.by (eqIntA2S_c b d ps qs B r2 r4 hp) ?_
    rintro _ C ⟨rfl, pC⟩
    have pHC := pHB.trans pC
    simp (maxSteps := 1000000) (disch := omega) only [S, S1, S2, S3, S4, S5, ST, eq_self, reduceIte, reduceCtorEq, Nat.reduceEqDiff, Nat.reduceAdd]
    refine brD.intro (fun e => ?_) (fun e => ?_) <;> simp (maxSteps := 1000000) (disch := omega) only [e, S, S1, S2, S3, S4, S5, ST, eq_self, reduceIte, reduceCtorEq, Nat.reduceEqDiff, Nat.reduceAdd]
    · refine hQ _ _ _ ?_
      simp (maxSteps := 1000000) (disch := omega) only [S, S1, S2, S3, S4, S5, ST, eq_self, reduceIte, reduceCtorEq, Nat.reduceEqDiff, Nat.reduceAdd]
      exact ⟨by rw [decide_eq_true ⟨g, e⟩], pHC⟩
    · refine hQ _ _ _ ?_
      simp (maxSteps := 1000000) (disch := omega) only [S, S1, S2, S3, S4, S5, ST, eq_self, reduceIte, reduceCtorEq, Nat.reduceEqDiff, Nat.reduceAdd]
      exact ⟨by rw [decide_eq_false (fun h => e h.2)], pHC⟩
  · refine hQ _ _ _ ?_
    simp (maxSteps := 1000000) (disch := omega) only [S, S1, S2, S3, S4, S5, ST, eq_self, reduceIte, reduceCtorEq, Nat.reduceEqDiff, Nat.reduceAdd]
    exact ⟨by rw [decide_eq_false (fun h => g h.1)], pHB⟩
theorem markSpace_B (a b : Value) (ls : List (List Int)) (ps : List (Int × Int)) (k : Int) (lo hi : Nat) (H : AH) (h : SpIn lo hi H a b ls ps) (hl : ls.length ≤ 1099511627776) (hs : sizeL ls ≤ 549755813888) (hp : ps.length ≤ 1099511627776) (hk : 0 ≤ k ∧ k ≤ 1000000) (hb : hi ≤ H.length) :
    ACalls Try.prog 19 [.agg (List.toArray [a, b]), .int .i64 k] H fun r H' => r = .int .i64 (k + sizeL ls + 2 * ps.length) ∧ ∃ Hm, SpIn lo hi Hm a b (runL k ls) (runP (k + sizeL ls) ps.length) ∧ ElseR lo hi H Hm ∧ Hm <+: H' := by
  refine in19 rfl ?_
  intro Q hQ
  have hrow := h.row
  simp (maxSteps := 1000000) (disch := omega) only [cd19, hrow.box, cell_new, S, S1, S2, S3, S4, S5, ST, eq_self, reduceIte, reduceCtorEq, Nat.reduceEqDiff, Nat.reduceAdd]
  generalize hA : H ++ [AObj.cells [a, b] 28 false] = A
  have pA : H <+: A := by rw [← hA]; exact List.prefix_append _ _
  have cA : A[H.length]? = some (.cells [a, b] 28 false) := by rw [← hA]; exact at_new ..
  have lA : A.length = H.length + 1 := by rw [← hA]; simp
  obtain ⟨mid, m1, m2, m3, m4⟩ := h.pre pA
  refine CallH.by (markIntSS_B a ls k lo mid A m3 hl (by omega) (by omega)) ?_
  rintro _ B ⟨rfl, m5, e1⟩
  have m6 := m4.keep e1 (.inr (Nat.le_refl _))
  have cB := e1.2 _ _ (.inr (by omega)) cA
  simp (maxSteps := 1000000) (disch := omega) only [cell_of cB, S, S1, S2, S3, S4, S5, ST, eq_self, reduceIte, reduceCtorEq, Nat.reduceEqDiff, Nat.reduceAdd]
  refine CallH.by (markIntA2S_B b ps (k + sizeL ls) mid hi B m6 hp (by omega)) ?_
  rintro _ C ⟨rfl, m7, e2⟩
  have m8 := m5.keep e2 (.inl (Nat.le_refl _))
  simp (maxSteps := 1000000) (disch := omega) only [S, S1, S2, S3, S4, S5, ST, eq_self, reduceIte, reduceCtorEq, Nat.reduceEqDiff, Nat.reduceAdd]
  refine hQ _ _ _ ?_
  simp (maxSteps := 1000000) (disch := omega) only [S, S1, S2, S3, S4, S5, ST, eq_self, reduceIte, reduceCtorEq, Nat.reduceEqDiff, Nat.reduceAdd]
  have eAll : ElseR lo hi A C := ⟨e2.1.trans e1.1, fun o x ho hx => e2.2 o x (by omega) (e1.2 o x (by omega) hx)⟩
  have hC : ∀ o, o < H.length → (C.take H.length)[o]? = C[o]? := fun o ho => List.getElem?_take_of_lt ho
  refine ⟨C.take H.length, ⟨mid, m1, m2, ?_, ?_⟩, ⟨?_, ?_⟩, List.take_prefix _ _⟩
  · rcases m8 with q | ⟨o, us, q1, q2⟩
    · exact .inl q
    · exact .inr ⟨o, us, q1, q2.move fun j y hj1 hj2 hy => by rw [hC j (by omega)]; exact hy⟩
  · rcases m7 with q | ⟨o, zs, q1, q2, q3, q4, q5⟩
    · exact .inl q
    · exact .inr ⟨o, zs, q1, q2, q3, by rw [hC o (by omega)]; exact q4, q5⟩
  · have := eAll.1
    rw [List.length_take]; omega
  · intro o x ho hx
    rw [hC o (at_lt hx)]
    exact eAll.2 o x ho (pre_at pA hx)
theorem heldSpace_c (a b : Value) (ls : List (List Int)) (n : Nat) (k : Int) (H : AH) (h : SpRow H a b (runL k ls) (runP (k + sizeL ls) n)) (hl : ls.length ≤ 1099511627776) (hs : sizeL ls ≤ 549755813888) (hn : n ≤ 1099511627776) (hk : 0 ≤ k ∧ k ≤ 1000000) :
    ACalls Try.prog 20 [.agg (List.toArray [a, b]), .int .i64 k] H fun r H' => r = .int .i64 (k + sizeL ls + 2 * n) ∧ H <+: H' := by
  refine in20 rfl ?_
  intro Q hQ
  simp (maxSteps := 1000000) (disch := omega) only [cd20, h.box, cell_new, S, S1, S2, S3, S4, S5, ST, eq_self, reduceIte, reduceCtorEq, Nat.reduceEqDiff, Nat.reduceAdd]
  generalize hA : H ++ [AObj.cells [a, b] 28 false] = A
  have pA : H <+: A := by rw [← hA]; exact List.prefix_append _ _
  have cA : A[H.length]? = some (.cells [a, b] 28 false) := by rw [← hA]; exact at_new ..
  obtain ⟨⟨bd, r1⟩, r2⟩ := h.pre pA
  refine CallH.by (heldIntSS_c a ls k A r1 hl (by omega) (by omega)) ?_
  rintro _ _ ⟨rfl, rfl⟩
  simp (maxSteps := 1000000) (disch := omega) only [S, S1, S2, S3, S4, S5, ST, eq_self, reduceIte, reduceCtorEq, Nat.reduceEqDiff, Nat.reduceAdd]
  refine brD.intro (fun g => absurd g (by omega)) (fun g => ?_)
  simp (maxSteps := 1000000) (disch := omega) only [cell_of cA, S, S1, S2, S3, S4, S5, ST, eq_self, reduceIte, reduceCtorEq, Nat.reduceEqDiff, Nat.reduceAdd]
  refine CallH.by (heldIntA2S_c b n (k + sizeL ls) A r2 hn (by omega)) ?_
  rintro _ _ ⟨rfl, rfl⟩
  simp (maxSteps := 1000000) (disch := omega) only [S, S1, S2, S3, S4, S5, ST, eq_self, reduceIte, reduceCtorEq, Nat.reduceEqDiff, Nat.reduceAdd]
  refine brD.intro (fun g => absurd g (by omega)) (fun g => ?_)
  simp (maxSteps := 1000000) (disch := omega) only [S, S1, S2, S3, S4, S5, ST, eq_self, reduceIte, reduceCtorEq, Nat.reduceEqDiff, Nat.reduceAdd]
  refine hQ _ _ _ ?_
  simp (maxSteps := 1000000) (disch := omega) only [S, S1, S2, S3, S4, S5, ST, eq_self, reduceIte, reduceCtorEq, Nat.reduceEqDiff, Nat.reduceAdd]
  exact pA
end Go.Proofs.Ytlfongfhbkefmaa.Ai
