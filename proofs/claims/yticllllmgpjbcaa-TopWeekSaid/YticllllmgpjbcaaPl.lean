/- All holders that may be, one stall after the other (plain). -/
import Derived.Test.YticllllmgpjbcaaLd
import Derived.Test.YticllllmgpjbcaaPf
import Derived.Test.YticllllmgpjbcaaLj
namespace Go.Sim
open Go.Proofs
set_option maxRecDepth 100000
set_option linter.unusedSimpArgs false
set_option linter.unusedVariables false
attribute [-simp] List.map_set List.map_take List.map_drop
def E2 (x : Int × Int) : AV := .agg [I x.1, I x.2]
theorem E2_def (x : Int × Int) : E2 x = .agg [I x.1, I x.2] := rfl
theorem pair_beq (a b : Int × Int) : (a.1 == b.1 && a.2 == b.2) = (a == b) := rfl
attribute [simp] E2_def pair_beq
end Go.Sim
namespace Go.Sim
open Go.Proofs
set_option maxRecDepth 100000
set_option linter.unusedSimpArgs false
set_option linter.unusedVariables false
attribute [-simp] List.map_set List.map_take List.map_drop
end Go.Sim
set_option linter.all false
set_option linter.unusedVariables false
set_option linter.unusedSimpArgs false
set_option linter.unusedSectionVars false
namespace Go.Sim
end Go.Sim
