/- Nobody can steer the draw: the law answers true. -/
import Derived.Test.YtadlbdekaehipaaDoorLc
import Derived.Test.YtadlbdekaehipaaDoorLs
import Derived.Test.YtadlbdekaehipaaDoorLh
namespace Go.Sim
open Go.Proofs
set_option maxRecDepth 100000
set_option linter.unusedSimpArgs false
set_option linter.unusedVariables false
attribute [-simp] List.map_set List.map_take List.map_drop
structure MadeL (l:Lett) (p q:Nat):Prop where
  ok:ValidL l
  st:l.stalls.length≤p
  ap:l.apps.length≤q
end Go.Sim
namespace Go.Sim
open Go.Proofs
set_option maxRecDepth 100000
set_option linter.unusedSimpArgs false
set_option linter.unusedVariables false
attribute [-simp] List.map_set List.map_take List.map_drop
end Go.Sim
set_option linter.all false
set_option linter.unusedVariables false
set_option linter.unusedSimpArgs false
set_option linter.unusedSectionVars false
namespace Go.Sim
end Go.Sim
namespace Go.Sim
open Go.Proofs
set_option maxRecDepth 100000
set_option linter.unusedSimpArgs false
set_option linter.unusedVariables false
attribute [-simp] List.map_set List.map_take List.map_drop
end Go.Sim
