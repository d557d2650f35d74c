/- Lots made of numbers, hours, copies. -/
import Derived.Test.YtamcckgclidgkabDoorLk
namespace Go.Sim
open Go.Proofs
set_option maxRecDepth 100000
set_option linter.unusedSimpArgs false
set_option linter.unusedVariables false
attribute [-simp] List.map_set List.map_take List.map_drop
/-- a lot of the numbers: what it asks of -/
structure MadeT (c : Cel) (l : CLot) : Prop where
  ok : LotOk c.boxes.length l
  born : l.born ≤ 9
end Go.Sim
