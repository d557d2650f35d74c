/- Numbers and spans that follow from a list of numbers. -/
import Derived.Test.YtojjfnhjmfokhaaLa
namespace Go.Sim
open Go.Proofs
set_option maxRecDepth 100000
set_option linter.unusedSimpArgs false
set_option linter.unusedVariables false
attribute [-simp] List.map_set List.map_take List.map_drop
end Go.Sim
