/- The letting of the examples (plain). -/
import Derived.Test.YtamcckgclidgkaaDoorPe
import Derived.Test.YtamcckgclidgkaaDoorPf
set_option linter.all false
set_option linter.unusedVariables false
set_option linter.unusedSimpArgs false
set_option linter.unusedSectionVars false
namespace Go.Sim
open Go.Market
def hallL : Lett := ⟨[⟨1, 100, -1⟩, ⟨2, 200, -1⟩, ⟨3, 300, 2⟩], [⟨5, 7, [1, 0], [0, 0]⟩, ⟨9, 11, [1, 2], [0, 500]⟩, ⟨2, 5, [0, 2], [0, 300]⟩, ⟨5, 4, [2, 1, 0], [400, 0, 0]⟩]⟩
theorem hall_valid : ValidL hallL := checkL_zero.1 (by decide)
end Go.Sim
