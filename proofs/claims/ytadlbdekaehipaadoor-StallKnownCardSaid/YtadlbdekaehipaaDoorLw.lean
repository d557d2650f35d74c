/- All holders that may be, and all lists of some numbers. -/
import Derived.Test.YtadlbdekaehipaaDoorPf
import Derived.Test.YtadlbdekaehipaaDoorLr
set_option linter.all false
set_option linter.unusedVariables false
set_option linter.unusedSimpArgs false
set_option linter.unusedSectionVars false
namespace Go.Sim
def candL (l:Lett) (b:List Int):List Int:=(-1) :: ((List.range l.apps.length).filter fun a:Nat=>!decide ((a:Int)∈b)&&canS l.stalls (nth l.apps a) b.length).map fun a:Nat=>(a:Int)
def allL (l:Lett):Nat→List Int→List (List Int)
  | 0,b=>[b]
  | k+1,b=>(candL l b).flatMap fun a=>allL l k (b++[a])
end Go.Sim
namespace Go.Sim
open Go.Proofs
set_option maxRecDepth 100000
set_option linter.unusedSimpArgs false
set_option linter.unusedVariables false
attribute [-simp] List.map_set List.map_take List.map_drop
def candQ (l:Lett) (b:List Int):Nat→List Int
  | 0=>[]
  | i+1=>(-1) :: ((List.range i).filter fun a:Nat=>!decide ((a:Int)∈b)&&canS l.stalls (nth l.apps a) b.length).map fun a:Nat=>(a:Int)
def allQ (l:Lett) (k:Nat) (b:List Int) (i:Nat):List (List Int):=(candQ l b i).flatMap fun a=>allL l k (b++[a])
theorem allQ_zero (l:Lett) (k:Nat) (b:List Int):allQ l k b 0=[]:=rfl
attribute [local simp] allQ_zero
end Go.Sim
