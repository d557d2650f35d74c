/- Benches: what the reference says of masses and errors. -/
import Derived.Test.YtojjfnhjmfokhaaLf
import Derived.Test.YtojjfnhjmfokhaaLe
namespace Go.Sim
open Go.Proofs
set_option maxRecDepth 100000
set_option linter.unusedSimpArgs false
set_option linter.unusedVariables false
attribute [-simp] List.map_set List.map_take List.map_drop
def allU (b:Ben):List Bool:=List.replicate (nRes b) true
def spanK (K:KT) (v:Nat):Spn:=⟨IntKind.i64.wrap (-(at1 K v 0)),at1 K 0 v⟩
end Go.Sim
