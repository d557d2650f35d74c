/- Who is ahead of whom. -/
import Derived.Test.YtamcckgclidgkaaDoorLg
namespace Go.Sim
open Go.Proofs
set_option maxRecDepth 100000
set_option linter.unusedSimpArgs false
set_option linter.unusedVariables false
attribute [-simp] List.map_set List.map_take List.map_drop
theorem cons_eraseIdx_perm {l : List Int} {i : Nat} (h : i < l.length) : (l[i] :: l.eraseIdx i).Perm l := by
  rw [List.eraseIdx_eq_take_drop_succ]
  refine List.Perm.trans List.perm_middle.symm ?_
  rw [← List.drop_eq_getElem_cons h, List.take_append_drop]
theorem drawG_perm : ∀ (n t : Nat) (r : List Int), r.length = n → (drawG n t r).Perm r
  | 0, t, r, h => by rw [List.length_eq_zero_iff.1 h]; exact List.Perm.refl _
  | n + 1, t, r, h => by
    have hq : t % r.length < r.length := Nat.mod_lt _ (by omega)
    rw [drawG, nth_get hq]
    refine List.Perm.trans (List.Perm.cons _ (drawG_perm n _ _ (by rw [List.length_eraseIdx_of_lt hq]; omega))) ?_
    exact cons_eraseIdx_perm hq
theorem drawL_perm (l : List App) : (drawL l).Perm (idsI l.length) := drawG_perm _ _ _ (idsI_len _)
theorem mem_idsI {n : Nat} {x : Int} : x ∈ idsI n ↔ 0 ≤ x ∧ x < n := by
  rw [idsI, List.mem_map]
  constructor
  · rintro ⟨k, hk, rfl⟩
    rw [List.mem_range] at hk
    exact ⟨Int.natCast_nonneg _, by simpa using hk⟩
  · rintro ⟨h1, h2⟩
    exact ⟨x.toNat, List.mem_range.2 (by omega), by simp; omega⟩
theorem mem_drawL {l : List App} {x : Int} : x ∈ drawL l ↔ 0 ≤ x ∧ x < l.length := by rw [(drawL_perm l).mem_iff, mem_idsI]
theorem wfI {n : Int} (h1 : -9223372036854775808 ≤ n) (h2 : n < 9223372036854775808) : (Lit.int .i64 n).wf = true := by
  have e1 : IntKind.i64.min = -9223372036854775808 := by decide
  have e2 : IntKind.i64.max = 9223372036854775807 := by decide
  simp only [Lit.wf, e1, e2, Bool.and_eq_true, decide_eq_true_eq]; omega
theorem sameKey_int (a b : Int) : sameKey (.int .i64 a) (.int .i64 b) = decide (a = b) := by
  rw [Bool.eq_iff_iff]; simp [sameKey]
abbrev shI : Value := .int .i64 0
/-- the place of a number in the draw -/
def posD (l : Lett) (x : Int) : Nat := (drawL l.apps).idxOf x
def bidA (a : App) (s : Int) : Int := nth a.bids (a.wishes.idxOf s)
/-- below 0 if one applicant is ahead of another one -/
def cmpL (l : Lett) (s a b : Nat) : Int :=
  if a = b then 0 else if (nth l.stalls s).heir = a then -1 else if (nth l.stalls s).heir = b then 1
  else if (nth l.stalls s).rule = 3 ∧ bidA (nth l.apps b) s ≠ bidA (nth l.apps a) s then bidA (nth l.apps b) s - bidA (nth l.apps a) s
  else if (nth l.stalls s).rule ≠ 1 ∧ (nth l.apps a).years ≠ (nth l.apps b).years then (nth l.apps b).years - (nth l.apps a).years
  else (posD l a : Int) - posD l b
/-- is an applicant ahead of another one -/
def aheadB (l : Lett) (s a b : Nat) : Bool :=
  if (nth l.stalls s).heir = a ∨ (nth l.stalls s).heir = b then decide ((nth l.stalls s).heir = a)
  else if (nth l.stalls s).rule = 3 ∧ bidA (nth l.apps b) s ≠ bidA (nth l.apps a) s then decide (bidA (nth l.apps b) s < bidA (nth l.apps a) s)
  else if (nth l.stalls s).rule ≠ 1 ∧ (nth l.apps a).years ≠ (nth l.apps b).years then decide ((nth l.apps b).years < (nth l.apps a).years)
  else decide (posD l a < posD l b)
theorem cmpL_ahead {l : Lett} {s a b : Nat} (h : a ≠ b) : decide (cmpL l s a b < 0) = aheadB l s a b := by
  unfold cmpL aheadB
  rw [if_neg h]
  by_cases h1 : (nth l.stalls s).heir = a
  · rw [if_pos h1, if_pos (.inl h1)]; simp [h1]
  · rw [if_neg h1]
    by_cases h2 : (nth l.stalls s).heir = b
    · rw [if_pos h2, if_pos (.inr h2)]; simp [h1]
    · simp only [h1, h2, or_self, if_false]
      by_cases h3 : (nth l.stalls s).rule = 3 ∧ bidA (nth l.apps b) s ≠ bidA (nth l.apps a) s
      · rw [if_pos h3, if_pos h3, decide_eq_decide]; omega
      · rw [if_neg h3, if_neg h3]
        by_cases h4 : (nth l.stalls s).rule ≠ 1 ∧ (nth l.apps a).years ≠ (nth l.apps b).years
        · rw [if_pos h4, if_pos h4, decide_eq_decide]; omega
        · rw [if_neg h4, if_neg h4, decide_eq_decide]; omega
theorem canS_lt {st : List Stl} {a : App} {s : Int} (h : canS st a s = true) : a.wishes.idxOf s < a.wishes.length := by
  simp only [canS, Bool.and_eq_true, decide_eq_true_eq] at h
  exact List.idxOf_lt_length_iff.2 h.1
end Go.Sim
