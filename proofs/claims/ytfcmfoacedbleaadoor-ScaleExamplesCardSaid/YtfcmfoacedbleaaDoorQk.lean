/- Benches: which results contradict each other; both find the same ones. -/
import Derived.Test.YtfcmfoacedbleaaDoorQf
import Derived.Test.YtfcmfoacedbleaaDoorLl
set_option linter.all false
set_option linter.unusedVariables false
set_option linter.unusedSimpArgs false
set_option linter.unusedSectionVars false
namespace Go.Sim
open Go.Proofs
def Asc (n : Nat) : Nat → List Nat → Prop
  | _, [] => True
  | i, x :: xs => i ≤ x ∧ x < n ∧ Asc n (x + 1) xs
theorem Asc.lt {n : Nat} : ∀ {l : List Nat} {i : Nat}, Asc n i l → ∀ k ∈ l, k < n
  | [], i, h, k, hk => by cases hk
  | x :: xs, i, h, k, hk => by
    rcases List.mem_cons.1 hk with rfl | hk
    · exact h.2.1
    · exact h.2.2.lt k hk
theorem Asc.len {n : Nat} : ∀ {l : List Nat} {i : Nat}, Asc n i l → l.length + i ≤ n ∨ l = []
  | [], i, h => .inr rfl
  | x :: xs, i, h => by
    rcases h.2.2.len with g | rfl
    · have := h.1; left; simp only [List.length_cons]; omega
    · left; have := h.1; have := h.2.1; simp only [List.length_cons, List.length_nil]; omega
end Go.Sim
