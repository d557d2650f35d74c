/- The law's examples, plainly. -/
import Derived.Test.YtfcmfoacedbleaaDoorQk
import Derived.Test.YtfcmfoacedbleaaDoorQm
import Derived.Test.YtfcmfoacedbleaaDoorLg
import Derived.Test.YtfcmfoacedbleaaDoorLe
set_option linter.all false
set_option linter.unusedVariables false
set_option linter.unusedSimpArgs false
set_option linter.unusedSectionVars false
namespace Go.Sim
open Go.Proofs
def benchC : Ben := ⟨[⟨1000, ⟨0, 0⟩⟩, ⟨1000, ⟨-20, 20⟩⟩, ⟨500, ⟨-10, 10⟩⟩], [⟨1, 0, ⟨3, 5⟩⟩, ⟨2, 1, ⟨-9, -7⟩⟩], [⟨⟨-5, 5⟩, ⟨-1, 2⟩⟩], [⟨0, 2, 1, 1010⟩], 4⟩
def wrongC : Ben := ⟨[⟨1000, ⟨0, 0⟩⟩, ⟨1000, ⟨-20, 20⟩⟩, ⟨500, ⟨-10, 10⟩⟩], [⟨1, 0, ⟨3, 5⟩⟩, ⟨2, 1, ⟨-9, -7⟩⟩], [⟨⟨-5, 5⟩, ⟨-1, 2⟩⟩], [⟨0, 2, 1, 1010⟩, ⟨0, 3, 0, 1011⟩], 4⟩
def sealsC : Sls := ⟨[1, 0], [2, 3], 1, 4⟩
theorem ex_plan : planL sealsC = [⟨1, 1⟩, ⟨2, 0⟩] := by decide +kernel
theorem ex_planE : planE sealsC = 0 := by decide +kernel
theorem ex_errs : errsL benchC 0 = [⟨1, 5⟩, ⟨3, 7⟩, ⟨5, 7⟩, ⟨4, 9⟩, ⟨3, 11⟩] := by decide +kernel
theorem ex_errsE : errsE benchC 0 = 0 := by decide +kernel
theorem ex_last : lastN ⟨-2, 3⟩ ⟨-1, 2⟩ 10 = 3 ∧ lastX ⟨-2, 3⟩ ⟨-1, 2⟩ 10 = 0 := by decide +kernel
theorem ex_clash : clashL wrongC = some [0, 2, 3] := by decide +kernel
theorem ex_clashE : clashE wrongC = 0 := by decide +kernel
end Go.Sim
