/- Ice in a box, by the reference. -/
import Derived.Test.YtamcckgclidgkabDoorLb
import Derived.Test.YtamcckgclidgkabDoorLc
import Derived.Test.YtamcckgclidgkabDoorQc
namespace Go.Sim
open Go.Proofs
set_option maxRecDepth 100000
set_option linter.unusedSimpArgs false
set_option linter.unusedVariables false
attribute [-simp] List.map_set List.map_take List.map_drop
end Go.Sim
