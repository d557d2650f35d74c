/- The draw of a letting, by the reference. -/
import Derived.Test.YtadlbdekaehipaaDoorLf
namespace Go.Sim
open Go.Proofs
set_option maxRecDepth 100000
set_option linter.unusedSimpArgs false
set_option linter.unusedVariables false
attribute [-simp] List.map_set List.map_take List.map_drop
end Go.Sim
