/- The reference's tables: what the pivots give. -/
import Derived.Test.YtfcmfoacedbleaaDoorQe
set_option linter.unusedVariables false
set_option linter.unusedSimpArgs false
namespace Go.Sim
/-- numbers that keep all that a table says -/
def SolK (n : Nat) (K : KT) (y : Nat → Int) : Prop := ∀ u v, u < n → v < n → y v - y u ≤ at1 K u v
def NegD (n : Nat) (K : KT) : Prop := ∃ u, u < n ∧ at1 K u u < 0
theorem NegD.no {n : Nat} {K : KT} {y : Nat → Int} (h : NegD n K) (hs : SolK n K y) : False := by
  obtain ⟨u, hu, h⟩ := h
  have := hs u u hu hu
  omega
end Go.Sim
