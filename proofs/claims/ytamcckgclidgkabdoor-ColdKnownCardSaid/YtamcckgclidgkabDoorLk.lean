/- Cellars and lots made of numbers. -/
import Derived.Test.YtamcckgclidgkabDoorLf
namespace Go.Sim
open Go.Proofs
set_option maxRecDepth 100000
set_option linter.unusedSimpArgs false
set_option linter.unusedVariables false
attribute [-simp] List.map_set List.map_take List.map_drop
structure MadeC (c : Cel) (p q : Nat) : Prop where
  ok : ValidC c
  bx : c.boxes.length ≤ p
  fl : c.fils.length ≤ q
  hall : -20 ≤ c.hall.lo
  room : ∀ b ∈ c.boxes, b.room ≤ 500
end Go.Sim
