/- The reference and the program say the same of a bench. -/
import Derived.Test.YtfcmfoacedbleaaDoorQh
import Derived.Test.YtfcmfoacedbleaaDoorQd
set_option linter.unusedVariables false
set_option linter.unusedSimpArgs false
namespace Go.Sim
structure CstB (n : Nat) (c : Cst) : Prop where
  u : c.u < n
  v : c.v < n
  ne : c.u ≠ c.v
  lo : -4000000 ≤ c.x.lo ∧ c.x.lo ≤ 4000000
  hi : -4000000 ≤ c.x.hi ∧ c.x.hi ≤ 4000000
theorem CstB.ok {n : Nat} {c : Cst} (h : CstB n c) : CstOk n c := ⟨h.u, h.v⟩
end Go.Sim
