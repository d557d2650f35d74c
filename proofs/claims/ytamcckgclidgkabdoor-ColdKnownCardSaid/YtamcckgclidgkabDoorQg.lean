/- Scoops, plainly: what the reference tries. -/
import Derived.Test.YtamcckgclidgkabDoorQf
set_option linter.all false
set_option linter.unusedVariables false
set_option linter.unusedSimpArgs false
set_option linter.unusedSectionVars false
namespace Go.Sim
open Go.Proofs
end Go.Sim
