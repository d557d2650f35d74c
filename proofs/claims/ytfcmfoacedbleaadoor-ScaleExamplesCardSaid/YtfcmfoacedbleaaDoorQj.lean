/- Seals: the reference's search finds the program's plan. -/
import Derived.Test.YtfcmfoacedbleaaDoorQg
set_option linter.all false
set_option linter.unusedVariables false
set_option linter.unusedSimpArgs false
set_option linter.unusedSectionVars false
namespace Go.Sim
open Go.Proofs
/-- the program's days are the reference's, cut at the last day -/
structure Clip (s : Sls) (u left : List Int) : Prop where
  l : left.length = s.lef.length
  ul : s.lef.length ≤ u.length
  at_ : ∀ i, i < s.lef.length → nth u i = min (nth left i) s.days
end Go.Sim
