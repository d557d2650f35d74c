/- Benches that may be, and what is known: the law answers true. -/
import Derived.Test.YtojjfnhjmfokhaaLr
import Derived.Test.YtojjfnhjmfokhaaLq
import Derived.Test.YtojjfnhjmfokhaaLn
import Derived.Test.YtojjfnhjmfokhaaLl
namespace Go.Sim
open Go.Proofs
set_option maxRecDepth 100000
set_option linter.unusedSimpArgs false
set_option linter.unusedVariables false
attribute [-simp] List.map_set List.map_take List.map_drop
attribute [simp] spn_eta
theorem vast_not {b:Ben}(h:¬vastB b=true):b.mas.length≤20∧b.wei.length≤20∧b.scl.length≤20∧b.tri.length≤20:=by
  simp only [vastB,decide_eq_true_eq] at h
  omega
def Small (b:Ben):Prop:=b.mas.length≤30∧b.wei.length≤30∧b.scl.length≤30∧b.tri.length≤30
theorem Small.len {b:Ben}(h:Small b):LenB b:=⟨by have:=h.1;omega,by have:=h.2.1;omega,by have:=h.2.2.1;omega,by have:=h.2.2.2;omega⟩
theorem small_made {b:Ben}{p q r d:Nat}(M:MadeB b p q r d) (hp:p≤20) (hq:q≤20) (hr:r≤20):Small b:=⟨by have:=M.mas;omega,by have:=M.wei;omega,by have:=M.scl;omega,by have:=M.tri;omega⟩
def moreB (b:Ben) (t:Tri):Ben:=⟨b.mas,b.wei,b.scl,b.tri++[t],b.days⟩
instance:NthD Ben:=⟨⟨[],[],[],[],0⟩⟩
end Go.Sim
