/- Benches: the reference's answers are the program's. -/
import Derived.Test.YtojjfnhjmfokhaaLk
import Derived.Test.YtojjfnhjmfokhaaQi
set_option linter.unusedVariables false
set_option linter.unusedSimpArgs false
namespace Go.Sim
end Go.Sim
