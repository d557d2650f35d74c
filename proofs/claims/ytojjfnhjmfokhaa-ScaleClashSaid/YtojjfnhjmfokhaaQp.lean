/- Benches: one result more makes nothing wider. -/
import Derived.Test.YtojjfnhjmfokhaaQo
import Derived.Test.YtojjfnhjmfokhaaLs
set_option linter.all false
set_option linter.unusedVariables false
set_option linter.unusedSimpArgs false
set_option linter.unusedSectionVars false
namespace Go.Sim
open Go.Proofs
theorem offE_kn {b:Ben}(hv:ValidB b):offsE b=knE b:=by unfold offsE;rw [if_neg (fun n=>n (checkB_zero.2 hv))]
theorem kn_no {b:Ben}(hu:knownT b=none):knE b=9:=by unfold knE;rw [hu];rfl
end Go.Sim
