/- Benches: what the reference says of masses and errors. -/
import Derived.Test.YtojjfnhjmfokhaaLf
import Derived.Test.YtojjfnhjmfokhaaLe
namespace Go.Sim
open Go.Proofs
set_option maxRecDepth 100000
set_option linter.unusedSimpArgs false
set_option linter.unusedVariables false
attribute [-simp] List.map_set List.map_take List.map_drop
def allU (b:Ben):List Bool:=List.replicate (nRes b) true
theorem frzB {f:Nat}{a:List AV}{l:List Bool}(h:ACalls Try.prog f a [] (fun r o=>r = .own 20000 0 l.length∧o=[(20000,.row true 4 1 (l.map B))])):ACalls Try.prog f a [] (fun r o=>r=bools l∧o=[]):=ACalls.frzs [20000] h (by simp;rfl) (by simp;rfl)
theorem All_imm (b:Ben) (hLb:b.wei.length≤1000∧b.tri.length≤1000):ACalls Try.prog 71 [benV b] [] (fun r o=>r=bools (allU b)∧o=[]):=frzB (l:=allU b) (by unfold allU;rw [List.length_replicate];exact All_ok b hLb)
end Go.Sim
