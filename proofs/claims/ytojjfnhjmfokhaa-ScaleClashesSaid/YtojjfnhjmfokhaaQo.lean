/- Benches: more results, fewer results, and what truly is. -/
import Derived.Test.YtojjfnhjmfokhaaLl
set_option linter.all false
set_option linter.unusedVariables false
set_option linter.unusedSimpArgs false
set_option linter.unusedSectionVars false
namespace Go.Sim
open Go.Proofs
end Go.Sim
