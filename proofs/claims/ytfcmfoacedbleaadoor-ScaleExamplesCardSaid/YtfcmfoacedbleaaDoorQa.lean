/- Benches, plainly: what is valid. -/
import Derived.Test.YtfcmfoacedbleaaDoorKa
set_option linter.all false
set_option linter.unusedVariables false
set_option linter.unusedSimpArgs false
set_option linter.unusedSectionVars false
namespace Go.Sim
open Go.Proofs
theorem take_map' {α β : Type} (f : α → β) (l : List α) (i : Nat) : (l.map f).take i = (l.take i).map f := List.map_take.symm
theorem drop_map' {α β : Type} (f : α → β) (l : List α) (i : Nat) : (l.map f).drop i = (l.drop i).map f := List.map_drop.symm
attribute [simp] take_map' drop_map'
structure Spn where
  lo : Int
  hi : Int
  deriving DecidableEq
structure Mas where
  nom : Int
  off : Spn
  deriving DecidableEq
structure Wei where
  a : Int
  b : Int
  dif : Spn
  deriving DecidableEq
structure Scl where
  fst : Spn
  dri : Spn
  deriving DecidableEq
structure Tri where
  sc : Int
  day : Int
  ms : Int
  sh : Int
  deriving DecidableEq
structure Ben where
  mas : List Mas
  wei : List Wei
  scl : List Scl
  tri : List Tri
  days : Int
  deriving DecidableEq
instance : NthD Spn := ⟨⟨0, 0⟩⟩
instance : NthD Mas := ⟨⟨0, ⟨0, 0⟩⟩⟩
instance : NthD Wei := ⟨⟨0, 0, ⟨0, 0⟩⟩⟩
instance : NthD Scl := ⟨⟨⟨0, 0⟩, ⟨0, 0⟩⟩⟩
instance : NthD Tri := ⟨⟨0, 0, 0, 0⟩⟩
def M3 (m : Mas) : AV := .agg [I m.nom, I m.off.lo, I m.off.hi]
def W4 (w : Wei) : AV := .agg [I w.a, I w.b, I w.dif.lo, I w.dif.hi]
def C4 (s : Scl) : AV := .agg [I s.fst.lo, I s.fst.hi, I s.dri.lo, I s.dri.hi]
def R4 (t : Tri) : AV := .agg [I t.sc, I t.day, I t.ms, I t.sh]
def S2 (x : Spn) : AV := .agg [I x.lo, I x.hi]
theorem M3_def (m : Mas) : M3 m = .agg [I m.nom, I m.off.lo, I m.off.hi] := rfl
theorem W4_def (w : Wei) : W4 w = .agg [I w.a, I w.b, I w.dif.lo, I w.dif.hi] := rfl
theorem C4_def (s : Scl) : C4 s = .agg [I s.fst.lo, I s.fst.hi, I s.dri.lo, I s.dri.hi] := rfl
theorem R4_def (t : Tri) : R4 t = .agg [I t.sc, I t.day, I t.ms, I t.sh] := rfl
theorem S2_def (x : Spn) : S2 x = .agg [I x.lo, I x.hi] := rfl
attribute [simp] M3_def W4_def C4_def R4_def S2_def
abbrev masV (l : List Mas) : AV := .imm (l.map M3)
abbrev weiV (l : List Wei) : AV := .imm (l.map W4)
abbrev sclV (l : List Scl) : AV := .imm (l.map C4)
abbrev triV (l : List Tri) : AV := .imm (l.map R4)
abbrev spansV (l : List Spn) : AV := .imm (l.map S2)
abbrev spnV (x : Spn) : AV := .agg [I x.lo, I x.hi]
abbrev benV (b : Ben) : AV := .agg [masV b.mas, weiV b.wei, sclV b.scl, triV b.tri, I b.days]
theorem spn_eta (x : Spn) : (⟨x.lo, x.hi⟩ : Spn) = x := rfl
/-- the first result that is not 0 -/
def firstNZ {α : Type} (f : α → Int) : List α → Int
  | [] => 0
  | x :: xs => if f x = 0 then firstNZ f xs else f x
theorem firstNZ_hit {α : Type} {f : α → Int} {l : List α} {i : Nat} (h : i < l.length) (hf : ¬ f l[i] = 0) : firstNZ f (l.drop i) = f l[i] := by
  rw [List.drop_eq_getElem_cons h, firstNZ, if_neg hf]
theorem firstNZ_skip {α : Type} {f : α → Int} {l : List α} {i : Nat} (h : i < l.length) (hf : f l[i] = 0) : firstNZ f (l.drop i) = firstNZ f (l.drop (i + 1)) := by
  rw [List.drop_eq_getElem_cons h, firstNZ, if_pos hf]
theorem firstNZ_done {α : Type} {f : α → Int} {l : List α} {i : Nat} (h : l.length ≤ i) : firstNZ f (l.drop i) = 0 := by
  rw [List.drop_of_length_le h, firstNZ]
theorem firstNZ_zero {α : Type} {f : α → Int} : ∀ {l : List α}, firstNZ f l = 0 ↔ ∀ x ∈ l, f x = 0
  | [] => by simp [firstNZ]
  | x :: l => by
    rw [firstNZ]
    by_cases h : f x = 0
    · rw [if_pos h, firstNZ_zero]; simp [h]
    · rw [if_neg h]; simp [h]
def inB (n a b : Int) : Bool := decide (a ≤ n) && decide (n ≤ b)
theorem inB_iff {n a b : Int} : inB n a b = true ↔ a ≤ n ∧ n ≤ b := by simp [inB]
theorem inB_false {n a b : Int} : inB n a b = false ↔ ¬ (a ≤ n ∧ n ≤ b) := by rw [← inB_iff, Bool.not_eq_true]
/-- the error of a span within bounds -/
def spanC (x : Spn) (low high : Int) : Int := if (!inB x.lo low high || !inB x.hi low high) = true then 1 else if x.hi < x.lo then 5 else 0
def manyC (n most : Int) : Int := if n = 0 then 7 else if most < n then 6 else 0
def masC (m : Mas) : Int := if inB m.nom 1 1000000 = false then 1 else spanC m.off (-10000) 10000
def weiC (n : Nat) (w : Wei) : Int := if (!inB w.a 0 ((n : Int) - 1) || !inB w.b 0 ((n : Int) - 1)) = true then 3 else if w.a = w.b then 2 else spanC w.dif (-20000) 20000
def sclC (s : Scl) : Int := if spanC s.fst (-10000) 10000 ≠ 0 then spanC s.fst (-10000) 10000 else spanC s.dri (-10000) 10000
def triC (ns nm : Nat) (days : Int) (t : Tri) : Int := if (!inB t.sc 0 ((ns : Int) - 1) || !inB t.ms 0 ((nm : Int) - 1)) = true then 3 else if (!inB t.day 0 days || !inB t.sh 0 2000000) = true then 1 else 0
def daysC (b : Ben) : Int := if inB b.days 0 8 = false then 1 else manyC (1 + b.tri.length) 7
/-- the checks of a bench, one after the other -/
def checksB (b : Ben) : List Int := [manyC b.mas.length 5, firstNZ masC b.mas, manyC (1 + b.wei.length) 7, firstNZ (weiC b.mas.length) b.wei, manyC b.scl.length 3, firstNZ sclC b.scl, daysC b, firstNZ (triC b.scl.length b.mas.length b.days) b.tri]
def checkB (b : Ben) : Int := firstNZ (fun x : Int => x) (checksB b)
/-- a bench that may be -/
structure ValidB (b : Ben) : Prop where
  m1 : 1 ≤ b.mas.length
  m5 : b.mas.length ≤ 5
  mas : ∀ m ∈ b.mas, (1 ≤ m.nom ∧ m.nom ≤ 1000000) ∧ -10000 ≤ m.off.lo ∧ m.off.lo ≤ m.off.hi ∧ m.off.hi ≤ 10000
  w6 : b.wei.length ≤ 6
  wei : ∀ w ∈ b.wei, (0 ≤ w.a ∧ w.a < b.mas.length) ∧ (0 ≤ w.b ∧ w.b < b.mas.length) ∧ w.a ≠ w.b ∧ -20000 ≤ w.dif.lo ∧ w.dif.lo ≤ w.dif.hi ∧ w.dif.hi ≤ 20000
  s1 : 1 ≤ b.scl.length
  s3 : b.scl.length ≤ 3
  scl : ∀ s ∈ b.scl, (-10000 ≤ s.fst.lo ∧ s.fst.lo ≤ s.fst.hi ∧ s.fst.hi ≤ 10000) ∧ -10000 ≤ s.dri.lo ∧ s.dri.lo ≤ s.dri.hi ∧ s.dri.hi ≤ 10000
  days : 0 ≤ b.days ∧ b.days ≤ 8
  t6 : b.tri.length ≤ 6
  tri : ∀ t ∈ b.tri, (0 ≤ t.sc ∧ t.sc < b.scl.length) ∧ (0 ≤ t.ms ∧ t.ms < b.mas.length) ∧ (0 ≤ t.day ∧ t.day ≤ b.days) ∧ (0 ≤ t.sh ∧ t.sh ≤ 2000000)
theorem or_inB {a b c d e f : Int} : (!inB a b c || !inB d e f) = true ↔ ¬ ((b ≤ a ∧ a ≤ c) ∧ (e ≤ d ∧ d ≤ f)) := by
  rw [← inB_iff, ← inB_iff]; cases inB a b c <;> cases inB d e f <;> simp
theorem spanC_zero {x : Spn} {low high : Int} : spanC x low high = 0 ↔ low ≤ x.lo ∧ x.lo ≤ x.hi ∧ x.hi ≤ high := by
  unfold spanC
  simp only [or_inB]
  constructor
  · intro h
    split at h
    · cases h
    split at h
    · cases h
    omega
  · intro h
    rw [if_neg (by omega), if_neg (by omega)]
theorem manyC_zero {n most : Int} (h0 : 0 ≤ n) : manyC n most = 0 ↔ 1 ≤ n ∧ n ≤ most := by
  unfold manyC
  constructor
  · intro h
    split at h
    · cases h
    split at h
    · cases h
    omega
  · intro h
    rw [if_neg (by omega), if_neg (by omega)]
theorem masC_zero {m : Mas} : masC m = 0 ↔ (1 ≤ m.nom ∧ m.nom ≤ 1000000) ∧ -10000 ≤ m.off.lo ∧ m.off.lo ≤ m.off.hi ∧ m.off.hi ≤ 10000 := by
  unfold masC
  simp only [inB_false]
  by_cases h : 1 ≤ m.nom ∧ m.nom ≤ 1000000
  · rw [if_neg (by simpa using h), spanC_zero]; simp [h]
  · rw [if_pos h]; simp [h]
theorem weiC_zero {n : Nat} {w : Wei} : weiC n w = 0 ↔ (0 ≤ w.a ∧ w.a < n) ∧ (0 ≤ w.b ∧ w.b < n) ∧ w.a ≠ w.b ∧ -20000 ≤ w.dif.lo ∧ w.dif.lo ≤ w.dif.hi ∧ w.dif.hi ≤ 20000 := by
  unfold weiC
  simp only [or_inB]
  by_cases h : (0 ≤ w.a ∧ w.a ≤ (n : Int) - 1) ∧ (0 ≤ w.b ∧ w.b ≤ (n : Int) - 1)
  · rw [if_neg (Classical.not_not.2 h)]
    by_cases h2 : w.a = w.b
    · rw [if_pos h2]; simp [h2]
    · rw [if_neg h2, spanC_zero]
      constructor
      · exact fun q => ⟨by omega, by omega, h2, q⟩
      · exact fun q => q.2.2.2
  · rw [if_pos h]
    constructor
    · intro q; cases q
    · intro q; exfalso; omega
theorem sclC_zero {s : Scl} : sclC s = 0 ↔ (-10000 ≤ s.fst.lo ∧ s.fst.lo ≤ s.fst.hi ∧ s.fst.hi ≤ 10000) ∧ -10000 ≤ s.dri.lo ∧ s.dri.lo ≤ s.dri.hi ∧ s.dri.hi ≤ 10000 := by
  unfold sclC
  by_cases h : spanC s.fst (-10000) 10000 = 0
  · rw [if_neg (by simpa using h), spanC_zero, ← spanC_zero (x := s.fst)]; simp [h]
  · rw [if_pos h, ← spanC_zero (x := s.fst)]; simp [h]
theorem triC_zero {ns nm : Nat} {days : Int} {t : Tri} : triC ns nm days t = 0 ↔ (0 ≤ t.sc ∧ t.sc < ns) ∧ (0 ≤ t.ms ∧ t.ms < nm) ∧ (0 ≤ t.day ∧ t.day ≤ days) ∧ (0 ≤ t.sh ∧ t.sh ≤ 2000000) := by
  unfold triC
  simp only [or_inB]
  by_cases h : (0 ≤ t.sc ∧ t.sc ≤ (ns : Int) - 1) ∧ (0 ≤ t.ms ∧ t.ms ≤ (nm : Int) - 1)
  · rw [if_neg (Classical.not_not.2 h)]
    by_cases h2 : (0 ≤ t.day ∧ t.day ≤ days) ∧ (0 ≤ t.sh ∧ t.sh ≤ 2000000)
    · rw [if_neg (Classical.not_not.2 h2)]; simp; omega
    · rw [if_pos h2]
      constructor
      · intro q; cases q
      · intro q; exfalso; omega
  · rw [if_pos h]
    constructor
    · intro q; cases q
    · intro q; exfalso; omega
theorem checkB_zero {b : Ben} : checkB b = 0 ↔ ValidB b := by
  rw [checkB, firstNZ_zero, checksB]
  simp only [List.mem_cons, List.not_mem_nil, or_false, forall_eq_or_imp, forall_eq]
  rw [manyC_zero (by omega), manyC_zero (by omega), manyC_zero (by omega), firstNZ_zero, firstNZ_zero, firstNZ_zero, firstNZ_zero]
  have hd : daysC b = 0 ↔ (0 ≤ b.days ∧ b.days ≤ 8) ∧ b.tri.length ≤ 6 := by
    unfold daysC
    simp only [inB_false]
    by_cases h : 0 ≤ b.days ∧ b.days ≤ 8
    · rw [if_neg (by simpa using h), manyC_zero (by omega)]; simp [h]; omega
    · rw [if_pos h]; simp [h]
  rw [hd]
  simp only [masC_zero, weiC_zero, sclC_zero, triC_zero]
  constructor
  · rintro ⟨h1, h2, h3, h4, h5, h6, h7, h8⟩
    exact ⟨by omega, by omega, h2, by omega, h4, by omega, by omega, h6, h7.1, h7.2, h8⟩
  · intro h
    have := h.m1; have := h.m5; have := h.w6; have := h.s1; have := h.s3
    exact ⟨by omega, h.mas, by omega, h.wei, by omega, h.scl, ⟨h.days, h.t6⟩, h.tri⟩
end Go.Sim
