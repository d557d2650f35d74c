/- Who is ahead of whom, by the reference. -/
import Derived.Test.YtadlbdekaehipaaDoorLh
namespace Go.Sim
open Go.Proofs
set_option maxRecDepth 100000
set_option linter.unusedSimpArgs false
set_option linter.unusedVariables false
attribute [-simp] List.map_set List.map_take List.map_drop
end Go.Sim
namespace Go.Sim
open Go.Proofs
set_option maxRecDepth 100000
set_option linter.unusedSimpArgs false
set_option linter.unusedVariables false
attribute [-simp] List.map_set List.map_take List.map_drop
theorem posD_get {l:Lett}{x:Nat}(h:x<l.apps.length):∃h' : posD l x<(drawL l.apps).length,(drawL l.apps)[posD l x]=x:=by
  have h1:((x:Nat):Int)∈drawL l.apps:=mem_drawL.2 (by omega)
  exact ⟨List.idxOf_lt_length_iff.2 h1,List.getElem_idxOf _⟩
end Go.Sim
