/- All holders that may be, one stall after the other (plain). -/
import Derived.Test.YticllllmgpjbcaaPf
set_option linter.all false
set_option linter.unusedVariables false
set_option linter.unusedSimpArgs false
set_option linter.unusedSectionVars false
namespace Go.Sim
def candL (l : Lett) (b : List Int) : List Int := (-1) :: ((List.range l.apps.length).filter fun a : Nat => !decide ((a : Int) ∈ b) && canS l.stalls (nth l.apps a) b.length).map fun a : Nat => (a : Int)
def allL (l : Lett) : Nat → List Int → List (List Int)
  | 0, b => [b]
  | k + 1, b => (candL l b).flatMap fun a => allL l k (b ++ [a])
theorem mem_cand {l : Lett} {b : List Int} {x : Int} : x ∈ candL l b ↔ x = -1 ∨ ∃ a : Nat, x = (a : Int) ∧ a < l.apps.length ∧ (a : Int) ∉ b ∧ canS l.stalls (nth l.apps a) b.length = true := by
  rw [candL, List.mem_cons, List.mem_map]
  refine or_congr Iff.rfl ⟨?_, ?_⟩
  · rintro ⟨a, ha, rfl⟩
    obtain ⟨h1, h2⟩ := List.mem_filter.1 ha
    rw [Bool.and_eq_true, Bool.not_eq_true', decide_eq_false_iff_not] at h2
    exact ⟨a, rfl, List.mem_range.1 h1, h2.1, h2.2⟩
  · rintro ⟨a, rfl, h1, h2, h3⟩
    refine ⟨a, List.mem_filter.2 ⟨List.mem_range.2 h1, ?_⟩, rfl⟩
    rw [Bool.and_eq_true, Bool.not_eq_true', decide_eq_false_iff_not]
    exact ⟨h2, h3⟩
theorem mem_allL {l : Lett} : ∀ (k : Nat) (b h : List Int), h ∈ allL l k b ↔ h.length = b.length + k ∧ h.take b.length = b ∧ ∀ s, b.length ≤ s → ∀ hs : s < h.length, h[s] = -1 ∨ ∃ a : Nat, h[s] = (a : Int) ∧ a < l.apps.length ∧ (a : Int) ∉ h.take s ∧ canS l.stalls (nth l.apps a) s = true
  | 0, b, h => by
    rw [allL, List.mem_singleton]
    constructor
    · rintro rfl
      exact ⟨rfl, List.take_of_length_le (Nat.le_refl _), fun s h1 h2 => by omega⟩
    · rintro ⟨h1, h2, _⟩
      rw [← h2, List.take_of_length_le (by omega)]
  | k + 1, b, h => by
    rw [allL, List.mem_flatMap]
    constructor
    · rintro ⟨x, hx, hm⟩
      obtain ⟨h1, h2, h3⟩ := (mem_allL k (b ++ [x]) h).1 hm
      rw [List.length_append, List.length_singleton] at h1 h2 h3
      have hbl : b.length < h.length := by omega
      rw [List.take_succ_eq_append_getElem hbl] at h2
      obtain ⟨e1, e2⟩ := List.append_inj' h2 rfl
      have e2 : h[b.length] = x := by simpa using e2
      refine ⟨by omega, e1, fun s hs hsl => ?_⟩
      by_cases hsb : s = b.length
      · subst hsb
        rcases mem_cand.1 hx with q | ⟨a, q1, q2, q3, q4⟩
        · exact .inl (by rw [e2, q])
        · exact .inr ⟨a, by rw [e2, q1], q2, by rw [e1]; exact q3, q4⟩
      · exact h3 s (by omega) hsl
    · rintro ⟨h1, h2, h3⟩
      have hbl : b.length < h.length := by omega
      refine ⟨h[b.length], mem_cand.2 ?_, (mem_allL k (b ++ [h[b.length]]) h).2 ⟨by rw [List.length_append, List.length_singleton]; omega, ?_, fun s hs hsl => h3 s (by rw [List.length_append] at hs; omega) hsl⟩⟩
      · rcases h3 b.length (Nat.le_refl _) hbl with q | ⟨a, q1, q2, q3, q4⟩
        · exact .inl q
        · exact .inr ⟨a, q1, q2, by rw [h2] at q3; exact q3, q4⟩
      · rw [List.length_append, List.length_singleton, List.take_succ_eq_append_getElem hbl, h2]
theorem mem_all {l : Lett} {h : List Int} : h ∈ allL l l.stalls.length [] ↔ HoldOk l h := by
  rw [mem_allL]
  simp only [List.length_nil, Nat.zero_add, List.take_zero, true_and, Nat.zero_le, true_implies]
  constructor
  · rintro ⟨h1, h2⟩
    have aux : ∀ s t (a : Nat), ∀ hs : s < h.length, ∀ ht : t < h.length, h[s] = (a : Int) → h[t] = (a : Int) → ¬ s < t := fun s t a hs ht e1 e2 hlt => by
      rcases h2 t ht with q | ⟨b, q1, _, q3, _⟩
      · omega
      · exact q3 (by rw [← q1, e2, ← e1]; exact List.mem_take_iff_getElem.2 ⟨s, by omega, rfl⟩)
    exact ⟨h1, fun s hs => (h2 s hs).imp id fun ⟨a, q1, q2, _, q4⟩ => ⟨a, q1, q2, q4⟩, fun s t a hs ht e1 e2 => by
      have := aux s t a hs ht e1 e2
      have := aux t s a ht hs e2 e1
      omega⟩
  · intro k
    refine ⟨k.len, fun s hs => (k.ok s hs).imp id fun ⟨a, q1, q2, q4⟩ => ⟨a, q1, q2, fun hm => ?_, q4⟩⟩
    obtain ⟨t, ht, h6⟩ := List.mem_take_iff_getElem.1 hm
    have := k.one t s a (by omega) hs h6 q1
    omega
#print axioms mem_all
end Go.Sim
