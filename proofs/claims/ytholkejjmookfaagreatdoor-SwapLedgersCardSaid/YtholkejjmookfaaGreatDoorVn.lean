/- The reference's rings. -/
import Derived.Test.YtholkejjmookfaaGreatDoorVm
namespace Go.Sim.W6
open Go.Proofs Go.Plain
set_option maxRecDepth 100000
set_option linter.unusedSimpArgs false
set_option linter.unusedVariables false
attribute [-simp] List.map_set List.map_take List.map_drop
attribute [local simp] take_map' drop_map'
def lfOf (n:Nat) (L:List Nat):List Bool:=(List.range n).map fun i=>decide (i∈L)
theorem lfOf_length (n:Nat) (L:List Nat):(lfOf n L).length=n:=by simp [lfOf]
end Go.Sim.W6
