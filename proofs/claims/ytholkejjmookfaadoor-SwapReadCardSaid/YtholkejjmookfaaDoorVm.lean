/- The reference's check, rings and swap. -/
import Derived.Test.YtholkejjmookfaaDoorVl
namespace Go.Sim.W6
open Go.Proofs Go.Plain
set_option maxRecDepth 100000
set_option linter.unusedSimpArgs false
set_option linter.unusedVariables false
attribute [-simp] List.map_set List.map_take List.map_drop
attribute [local simp] take_map' drop_map'
end Go.Sim.W6
