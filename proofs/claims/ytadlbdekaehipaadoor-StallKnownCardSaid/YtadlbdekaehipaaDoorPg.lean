/- The letting of the examples (plain). -/
import Derived.Test.YtadlbdekaehipaaDoorPe
import Derived.Test.YtadlbdekaehipaaDoorPf
set_option linter.all false
set_option linter.unusedVariables false
set_option linter.unusedSimpArgs false
set_option linter.unusedSectionVars false
namespace Go.Sim
open Go.Market
def hallL:Lett:=⟨[⟨1,100, -1⟩,⟨2,200, -1⟩,⟨3,300,2⟩],[⟨5,7,[1,0],[0,0]⟩,⟨9,11,[1,2],[0,500]⟩,⟨2,5,[0,2],[0,300]⟩,⟨5,4,[2,1,0],[400,0,0]⟩]⟩
theorem hall_valid:ValidL hallL:=checkL_zero.1 (by decide)
theorem hall_draw:drawL hallL.apps=[3,0,1,2]:=by decide
theorem hall_hold:HoldOk hallL [0,1,2]:=(checkH_zero.1 (by decide)).2
theorem hall_envy:envL hallL [0,1,2]=[(3,0)]:=by decide
theorem hall_best:BestL hallL [3,1,2]:=by
  have hv:=hall_valid
  have k0:RAsk hallL [-1, -1, -1] [0,0,0,0] 0 (-1):=RAsk.init hallL
  have k1:RAsk hallL [-1, -1, -1] [0,0,0,0] 1 ((0:Nat):Int):=k0.next (by decide)
  have k2:RAsk hallL [-1,0, -1] [0,0,0,0] 1 (-1):=k1.take hv (v:=0) (s:=1) rfl (by decide) (by decide) rfl (by decide) (by decide)
  have k3:RAsk hallL [-1,0, -1] [0,0,0,0] 2 ((1:Nat):Int):=k2.next (by decide)
  have k4:RAsk hallL [-1,1, -1] [1,0,0,0] 2 ((0:Nat):Int):=(k3.bump hv (v:=0) (s:=1) (b:=0) (u:=0) rfl (by decide) (by decide) rfl (by decide) rfl (by decide) rfl).1
  have k5:RAsk hallL [0,1, -1] [1,0,0,0] 2 (-1):=k4.take hv (v:=1) (s:=0) rfl (by decide) (by decide) rfl (by decide) (by decide)
  have k6:RAsk hallL [0,1, -1] [1,0,0,0] 3 ((2:Nat):Int):=k5.next (by decide)
  have k7:RAsk hallL [0,1, -1] [1,0,1,0] 3 ((2:Nat):Int):=k6.pass hv (v:=0) (s:=0) rfl (by decide) (by decide) rfl fun _=>⟨0,rfl,by decide⟩
  have k8:RAsk hallL [0,1,2] [1,0,1,0] 3 (-1):=k7.take hv (v:=1) (s:=2) rfl (by decide) (by decide) rfl (by decide) (by decide)
  have k9:RAsk hallL [0,1,2] [1,0,1,0] 4 ((3:Nat):Int):=k8.next (by decide)
  have k10:RAsk hallL [0,1,2] [1,0,1,1] 4 ((3:Nat):Int):=k9.pass hv (v:=0) (s:=2) rfl (by decide) (by decide) rfl fun _=>⟨2,rfl,by decide⟩
  have k11:RAsk hallL [0,1,2] [1,0,1,2] 4 ((3:Nat):Int):=k10.pass hv (v:=1) (s:=1) rfl (by decide) (by decide) rfl fun _=>⟨1,rfl,by decide⟩
  have k12:RAsk hallL [3,1,2] [2,0,1,2] 4 ((0:Nat):Int):=(k11.bump hv (v:=2) (s:=0) (b:=0) (u:=1) rfl (by decide) (by decide) rfl (by decide) rfl (by decide) rfl).1
  have k13:RAsk hallL [3,1,2] [2,0,1,2] 4 (-1):=k12.rest fun _=>by decide
  exact k13.best hv
#print axioms hall_best
end Go.Sim
