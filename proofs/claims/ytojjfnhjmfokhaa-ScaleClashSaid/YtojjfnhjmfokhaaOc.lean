/- Results in another order, and twice: the law answers true. -/
import Derived.Test.YtojjfnhjmfokhaaLs
import Derived.Test.YtojjfnhjmfokhaaLq
import Derived.Test.YtojjfnhjmfokhaaLn
namespace Go.Sim
open Go.Proofs
set_option maxRecDepth 100000
set_option linter.unusedSimpArgs false
set_option linter.unusedVariables false
attribute [-simp] List.map_set List.map_take List.map_drop
attribute [simp] spn_eta
theorem made_len {b:Ben}{p q r d:Nat}(M:MadeB b p q r d) (hp:p≤20) (hq:q≤20) (hr:r≤20):LenB b:=⟨by have:=M.mas;omega,by have:=M.wei;omega,by have:=M.scl;omega,by have:=M.tri;omega⟩
structure Mix {α:Type}(l m:List α):Prop where
  sub:∀x∈m,x∈l
end Go.Sim
