/- The letting of the examples, turned (plain). -/
import Derived.Test.YtadlbdekaehipaaDoorPg
import Derived.Test.YtadlbdekaehipaaDoorNh
import Derived.Test.YtadlbdekaehipaaDoorNg
import Derived.Test.YtadlbdekaehipaaDoorRt
set_option linter.all false
set_option linter.unusedVariables false
set_option linter.unusedSimpArgs false
set_option linter.unusedSectionVars false
namespace Go.Sim
open Go.Market
def heirX:Lett:=⟨[⟨1,100,4⟩,⟨2,200, -1⟩,⟨3,300,2⟩],hallL.apps⟩
def twiceX:Lett:=⟨hallL.stalls,[⟨5,7,[1,1],[0,0]⟩,⟨9,11,[1,2],[0,500]⟩,⟨2,5,[0,2],[0,300]⟩,⟨5,4,[2,1,0],[400,0,0]⟩]⟩
def bidsX:Lett:=⟨hallL.stalls,[⟨5,7,[1,0],[0]⟩,⟨9,11,[1,2],[0,500]⟩,⟨2,5,[0,2],[0,300]⟩,⟨5,4,[2,1,0],[400,0,0]⟩]⟩
def tokenX:Lett:=⟨hallL.stalls,[⟨5,8,[1,0],[0,0]⟩,⟨9,11,[1,2],[0,500]⟩,⟨2,5,[0,2],[0,300]⟩,⟨5,4,[2,1,0],[400,0,0]⟩]⟩
def poorX:Lett:=⟨hallL.stalls,[⟨5,7,[1,0],[0,0]⟩,⟨9,11,[1,2],[0,500]⟩,⟨2,5,[0,2],[0,299]⟩,⟨5,4,[2,1,0],[400,0,0]⟩]⟩
def threeX:Lett:=⟨hallL.stalls,[⟨5,7,[1,0],[0,0]⟩,⟨9,11,[1,2],[0,500]⟩,⟨2,5,[0,2],[0,300]⟩]⟩
theorem ey_hall:checkL hallL=0:=by decide +kernel
theorem ey_heir:checkL heirX=3:=by decide +kernel
theorem ey_twice:checkL twiceX=4:=by decide +kernel
theorem ey_bids:checkL bidsX=2:=by decide +kernel
theorem ey_token:checkL tokenX=0∧drawA tokenX=[0,2,1,3]:=by decide +kernel
theorem ey_r0:rankA hallL 0=[3,0,2]∧rankE hallL 0=0:=by decide +kernel
theorem ey_r1:rankA hallL 1=[1,3,0]∧rankE hallL 1=0:=by decide +kernel
theorem ey_r2:rankA hallL 2=[2,1,3]∧rankE hallL 2=0:=by decide +kernel
theorem ey_r3:rankA poorX 2=[1,3]∧rankE poorX 2=0:=by decide +kernel
theorem ey_three:checkL threeX=0:=by decide +kernel
theorem three_valid:ValidL threeX:=checkL_zero.1 ey_three
theorem ey_h:checkH hallL [3,1,2]=0∧checkH hallL [3,3,2]=4∧checkH hallL [1,1,2]=9∧checkH hallL [3,1]=2∧checkH hallL [2,1,3]=0∧checkH hallL [3,1, -1]=0:=by decide +kernel
theorem ey_e:envA hallL [3,1,2]=[]∧envA hallL [2,1,3]=[(0,0)]:=by decide +kernel
theorem ey_rent:rentA hallL [3,1,2]=[100,200,300]∧rentA hallL [3,1, -1]=[100,200,0]:=by decide +kernel
theorem three_best:BestL threeX [2,1, -1]:=by
  have hv:=three_valid
  have k0:RAsk threeX [-1, -1, -1] [0,0,0] 0 (-1):=RAsk.init threeX
  have k1:RAsk threeX [-1, -1, -1] [0,0,0] 1 ((0:Nat):Int):=k0.next (by decide)
  have k2:RAsk threeX [-1,0, -1] [0,0,0] 1 (-1):=k1.take hv (v:=0) (s:=1) rfl (by decide) (by decide) rfl (by decide) (by decide)
  have k3:RAsk threeX [-1,0, -1] [0,0,0] 2 ((1:Nat):Int):=k2.next (by decide)
  have k4:RAsk threeX [-1,1, -1] [1,0,0] 2 ((0:Nat):Int):=(k3.bump hv (v:=0) (s:=1) (b:=0) (u:=0) rfl (by decide) (by decide) rfl (by decide) rfl (by decide) rfl).1
  have k5:RAsk threeX [0,1, -1] [1,0,0] 2 (-1):=k4.take hv (v:=1) (s:=0) rfl (by decide) (by decide) rfl (by decide) (by decide)
  have k6:RAsk threeX [0,1, -1] [1,0,0] 3 ((2:Nat):Int):=k5.next (by decide)
  have k7:RAsk threeX [2,1, -1] [2,0,0] 3 ((0:Nat):Int):=(k6.bump hv (v:=0) (s:=0) (b:=0) (u:=1) rfl (by decide) (by decide) rfl (by decide) rfl (by decide) rfl).1
  have k8:RAsk threeX [2,1, -1] [2,0,0] 3 (-1):=k7.rest fun _=>by decide
  exact k8.best hv
theorem three_one {z:List Int}(h:LetR threeX z):z=[2,1, -1]:=bestL_one three_valid (h.1 three_valid) three_best
end Go.Sim
