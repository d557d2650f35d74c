/- The lot that the numbers make. -/
import Derived.Test.YtamcckgclidgkabDoorLn
namespace Go.Sim
open Go.Proofs
set_option maxRecDepth 100000
set_option linter.unusedSimpArgs false
set_option linter.unusedVariables false
attribute [-simp] List.map_set List.map_take List.map_drop
/-- not more than the statements go through -/
structure SmallC (c : Cel) : Prop where
  bx : c.boxes.length ≤ 15
  fl : c.fils.length ≤ 40
  rt : c.rats.length ≤ 15
end Go.Sim
