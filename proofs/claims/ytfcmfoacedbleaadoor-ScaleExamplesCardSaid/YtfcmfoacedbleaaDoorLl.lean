/- Benches: the reference's answers are the program's. -/
import Derived.Test.YtfcmfoacedbleaaDoorLk
import Derived.Test.YtfcmfoacedbleaaDoorQi
set_option linter.unusedVariables false
set_option linter.unusedSimpArgs false
namespace Go.Sim
end Go.Sim
