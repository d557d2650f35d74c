/- Draws of other tokens are other draws (plain). -/
import Derived.Test.YtmkclhnokelicaaLh
set_option linter.all false
set_option linter.unusedVariables false
set_option linter.unusedSimpArgs false
set_option linter.unusedSectionVars false
namespace Go.Sim
def facN : Nat → Nat
  | 0 => 1
  | n + 1 => (n + 1) * facN n
theorem facN_pos : ∀ n, 0 < facN n
  | 0 => by decide
  | n + 1 => Nat.mul_pos (by omega) (facN_pos n)
theorem drawG_inj : ∀ (n t t' : Nat) (r : List Int), r.Nodup → r.length = n → drawG n t r = drawG n t' r → t % facN n = t' % facN n
  | 0, t, t', r, _, _, _ => by simp [facN, Nat.mod_one]
  | n + 1, t, t', r, hd, hl, he => by
    rw [drawG, drawG] at he
    obtain ⟨h1, h2⟩ := List.cons.inj he
    have p1 : t % r.length < r.length := Nat.mod_lt _ (by omega)
    have p2 : t' % r.length < r.length := Nat.mod_lt _ (by omega)
    rw [nth_get p1, nth_get p2] at h1
    have h3 : t % r.length = t' % r.length := by
      have e1 := hd.idxOf_getElem _ p1
      have e2 := hd.idxOf_getElem _ p2
      rw [← e1, ← e2, h1]
    rw [h3] at h2
    have ih := drawG_inj n (t / r.length) (t' / r.length) (r.eraseIdx (t' % r.length)) (hd.sublist (List.eraseIdx_sublist _ _)) (by rw [List.length_eraseIdx_of_lt p2]; omega) h2
    rw [hl] at ih h3
    rw [facN, Nat.mod_mul, Nat.mod_mul, h3, ih]
theorem tok_ne {n a i j : Nat} (hi : i < facN n) (hj : j < facN n) (h : (a + i) % facN n = (a + j) % facN n) : i = j := by
  have h0 := facN_pos n
  have h1 : ((a + i : Nat) : Int) % (facN n : Int) = ((a + j : Nat) : Int) % (facN n : Int) := by exact_mod_cast h
  have h2 : ((a + i : Nat) : Int) % (facN n : Int) - ((a + j : Nat) : Int) % (facN n : Int) = 0 := by omega
  have h3 : (facN n : Int) ∣ ((a + i : Nat) : Int) - ((a + j : Nat) : Int) := Int.dvd_of_emod_eq_zero (by rw [Int.sub_emod, h1, Int.sub_self, Int.zero_emod])
  obtain ⟨k, hk⟩ := h3
  have h4 : ((a + i : Nat) : Int) - ((a + j : Nat) : Int) = (i : Int) - j := by omega
  rw [h4] at hk
  have hk0 : k = 0 := by
    rcases Int.lt_trichotomy k 0 with q | q | q
    · exfalso
      have : (facN n : Int) * k ≤ (facN n : Int) * (-1) := Int.mul_le_mul_of_nonneg_left (by omega) (by omega)
      omega
    · exact q
    · exfalso
      have : (facN n : Int) * 1 ≤ (facN n : Int) * k := Int.mul_le_mul_of_nonneg_left (by omega) (by omega)
      omega
  subst hk0
  omega
theorem tokS_set {l : List App} {w : Nat} (hw : w < l.length) {t : Int} (ht : 0 ≤ t) : tokS (l.set w { l[w] with token := t }) + l[w].token.toNat = tokS l + t.toNat := by
  induction l generalizing w with
  | nil => simp at hw
  | cons a l ih =>
    cases w with
    | zero => simp only [List.set_cons_zero, List.getElem_cons_zero, tokS]; omega
    | succ w =>
      have hw' : w < l.length := by simpa using hw
      have := ih (w := w) hw'
      simp only [List.set_cons_succ, List.getElem_cons_succ, tokS] at this ⊢
      omega
#print axioms drawG_inj
end Go.Sim
