/- Tables of differences: the operations, as they are carried out. -/
import Derived.Test.YtfcmfoacedbleaaDoorQa
set_option linter.all false
set_option linter.unusedVariables false
set_option linter.unusedSimpArgs false
set_option linter.unusedSectionVars false
namespace Go.Sim
open Go.Proofs
abbrev Dif := Int × Int
abbrev Tab := List (List Dif)
def D2 (d : Dif) : AV := .agg [I d.1, I d.2]
theorem D2_def (d : Dif) : D2 d = .agg [I d.1, I d.2] := rfl
def rowA (r : List Dif) : List AV := r.map D2
theorem rowA_def (r : List Dif) : rowA r = r.map D2 := rfl
abbrev rowV (r : List Dif) : AV := .imm (r.map D2)
abbrev tabV (t : Tab) : AV := .imm (t.map rowV)
instance : NthD Dif := ⟨(0, 0)⟩
instance : NthD (List Dif) := ⟨[]⟩
abbrev at2 (t : Tab) (i k : Nat) : Dif := nth (nth t i) k
/-- a table of n numbers -/
def Sq (n : Nat) (t : Tab) : Prop := t.length = n ∧ ∀ r ∈ t, r.length = n
theorem Sq.row {n : Nat} {t : Tab} (h : Sq n t) {i : Nat} (hi : i < t.length) : t[i].length = n := h.2 _ (List.getElem_mem hi)
theorem at2_get {t : Tab} {i k : Nat} (hi : i < t.length) (hk : k < t[i].length) : at2 t i k = t[i][k] := by
  have : nth t i = t[i] := nth_get hi
  show nth (nth t i) k = _
  rw [this, nth_get hk]
theorem Sq.ext {n : Nat} {s t : Tab} (hs : Sq n s) (ht : Sq n t) (h : ∀ i k, i < n → k < n → at2 s i k = at2 t i k) : s = t := by
  refine List.ext_getElem (by rw [hs.1, ht.1]) fun i h1 h2 => List.ext_getElem (by rw [hs.row h1, ht.row h2]) fun k g1 g2 => ?_
  have := h i k (by rw [← hs.1]; exact h1) (by rw [← hs.row h1]; exact g1)
  rwa [at2_get h1 g1, at2_get h2 g2] at this
def tabF (n : Nat) (f : Nat → Nat → Dif) : Tab := (List.range n).map fun i => (List.range n).map fun k => f i k
theorem tabF_sq (n : Nat) (f : Nat → Nat → Dif) : Sq n (tabF n f) := by
  refine ⟨by simp [tabF], fun r hr => ?_⟩
  obtain ⟨i, _, rfl⟩ := List.mem_map.1 hr; simp
theorem tabF_at {n : Nat} {f : Nat → Nat → Dif} {i k : Nat} (hi : i < n) (hk : k < n) : at2 (tabF n f) i k = f i k := by
  have h1 : i < (tabF n f).length := by rw [(tabF_sq n f).1]; exact hi
  have h2 : k < (tabF n f)[i].length := by rw [(tabF_sq n f).row h1]; exact hk
  rw [at2_get h1 h2]; simp [tabF]
theorem Sq.set {n : Nat} {t : Tab} (h : Sq n t) {i : Nat} {r : List Dif} (hr : r.length = n) : Sq n (t.set i r) := by
  refine ⟨by rw [List.length_set]; exact h.1, fun x hx => ?_⟩
  rcases List.mem_or_eq_of_mem_set hx with hx | rfl
  · exact h.2 x hx
  · exact hr
theorem at2_set {n : Nat} {t : Tab} (h : Sq n t) {i k : Nat} (hi : i < t.length) (hk : k < n) {v : Dif} {i' k' : Nat} : at2 (t.set i (t[i].set k v)) i' k' = if i' = i ∧ k' = k then v else at2 t i' k' := by
  have hl : t[i].length = n := h.row hi
  have e : ∀ (l : List (List Dif)) j, nth l j = l.getD j [] := fun _ _ => rfl
  have e2 : ∀ (l : List Dif) j, nth l j = l.getD j (0, 0) := fun _ _ => rfl
  show nth (nth (t.set i (t[i].set k v)) i') k' = if i' = i ∧ k' = k then v else nth (nth t i') k'
  by_cases h1 : i' = i
  · subst h1
    rw [nth_get (l := t.set i' (t[i'].set k v)) (by rw [List.length_set]; exact hi), nth_get hi, List.getElem_set_self, e2, e2, List.getD_eq_getElem?_getD, List.getD_eq_getElem?_getD]
    by_cases h2 : k' = k
    · subst h2
      rw [List.getElem?_set_self (by omega), if_pos ⟨rfl, rfl⟩]; rfl
    · rw [List.getElem?_set_ne (Ne.symm h2), if_neg (fun q => h2 q.2)]
  · rw [if_neg (fun q => h1 q.1)]
    congr 1
    rw [e, e, List.getD_eq_getElem?_getD, List.getD_eq_getElem?_getD, List.getElem?_set_ne (Ne.symm h1)]
def blankT (n : Nat) : Tab := tabF n fun i k => if i = k then (0, 0) else (-1099511627776, 1099511627776)
def bothD (d o : Dif) : Dif := (max d.1 o.1, min d.2 o.2)
def plusD (d o : Dif) : Dif := (if d.1 ≤ -1099511627776 ∨ o.1 ≤ -1099511627776 then -1099511627776 else IntKind.i64.wrap (d.1 + o.1), if 1099511627776 ≤ d.2 ∨ 1099511627776 ≤ o.2 then 1099511627776 else IntKind.i64.wrap (d.2 + o.2))
def turnD (d : Dif) : Dif := (IntKind.i64.wrap (-d.2), IntKind.i64.wrap (-d.1))
/-- what a table says of two numbers behind a fact -/
def withE (t : Tab) (p q : Nat) (d : Dif) (i k : Nat) : Dif := bothD (bothD (at2 t i k) (plusD (plusD (at2 t i p) d) (at2 t q k))) (plusD (plusD (at2 t i q) (turnD d)) (at2 t p k))
def withT (t : Tab) (p q : Nat) (d : Dif) : Option Tab :=
  if (bothD d (at2 t p q)).2 < (bothD d (at2 t p q)).1 then none else some (tabF t.length (withE t p q (bothD d (at2 t p q))))
end Go.Sim
