/- Who is ahead: the reference's list, and what order it has. -/
import Derived.Test.YtadlbdekaehipaaDoorLj
import Derived.Test.YtadlbdekaehipaaDoorPe
import Derived.Test.YtadlbdekaehipaaDoorNc
namespace Go.Sim
open Go.Proofs
set_option maxRecDepth 100000
set_option linter.unusedSimpArgs false
set_option linter.unusedVariables false
attribute [-simp] List.map_set List.map_take List.map_drop
end Go.Sim
namespace Go.Sim
open Go.Proofs
set_option maxRecDepth 100000
set_option linter.unusedSimpArgs false
set_option linter.unusedVariables false
attribute [-simp] List.map_set List.map_take List.map_drop
attribute [local simp] canL_zero
end Go.Sim
