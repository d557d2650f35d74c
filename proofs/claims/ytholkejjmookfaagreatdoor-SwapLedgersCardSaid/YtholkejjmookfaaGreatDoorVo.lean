/- The reference's rings and swap. -/
import Derived.Test.YtholkejjmookfaaGreatDoorVn
import Derived.Test.YtholkejjmookfaaGreatDoorRc
namespace Go.Sim.W6
open Go.Proofs Go.Plain
set_option maxRecDepth 100000
set_option linter.unusedSimpArgs false
set_option linter.unusedVariables false
attribute [-simp] List.map_set List.map_take List.map_drop List.length_flatten
attribute [local simp] take_map' drop_map'
attribute [local simp] lfOf_length
attribute [local simp] giveK_length giveR_length
end Go.Sim.W6
