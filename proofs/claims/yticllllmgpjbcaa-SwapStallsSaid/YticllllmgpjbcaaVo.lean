/- The reference's rings and swap. -/
import Derived.Test.YticllllmgpjbcaaLd
import Derived.Test.YticllllmgpjbcaaVn
import Derived.Test.YticllllmgpjbcaaRc
namespace Go.Sim
open Go.Proofs
set_option maxRecDepth 100000
set_option linter.unusedSimpArgs false
set_option linter.unusedVariables false
attribute [-simp] List.map_set List.map_take List.map_drop
def E2 (x : Int × Int) : AV := .agg [I x.1, I x.2]
theorem E2_def (x : Int × Int) : E2 x = .agg [I x.1, I x.2] := rfl
theorem pair_beq (a b : Int × Int) : (a.1 == b.1 && a.2 == b.2) = (a == b) := rfl
attribute [simp] E2_def pair_beq
end Go.Sim
namespace Go.Sim.W6
open Go.Proofs Go.Plain
set_option maxRecDepth 100000
set_option linter.unusedSimpArgs false
set_option linter.unusedVariables false
attribute [-simp] List.map_set List.map_take List.map_drop List.length_flatten
attribute [local simp] take_map' drop_map'
attribute [local simp] lfOf_length
attribute [local simp] giveK_length giveR_length
end Go.Sim.W6
