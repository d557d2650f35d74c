/- The chapter's examples, plainly. -/
import Derived.Test.YtamcckgclidgkaaDoorXa
import Derived.Test.YtamcckgclidgkaaDoorIh
import Derived.Test.YtamcckgclidgkaaDoorVl
import Derived.Test.YtamcckgclidgkaaDoorPg
set_option linter.all false
set_option linter.unusedVariables false
set_option linter.unusedSimpArgs false
set_option linter.unusedSectionVars false
namespace Go.Sim
open Go.Proofs W6
def twiceO : List W6.Turn := [(0, 0), (0, 0), (2, 0), (3, 0)]
def lateO : List W6.Turn := [(0, 0), (1, 0), (2, 0), (3, 7)]
def againL : List (List W6.Turn) := [[(1, 0), (2, 0)], [(0, 0)], [(0, 0), (1, 0)], [(2, 0), (2, 0)]]
theorem ey_twice : checkT twiceO rowLk = 4 := by decide +kernel
theorem ey_late : checkT lateO rowLk = 1 := by decide +kernel
theorem ey_again : checkT rowOw againL = 4 := by decide +kernel
def heldA : List W6.Turn := [(1, 0), (0, 0), (2, 0), (3, 0)]
def heldB : List W6.Turn := [(0, 0), (1, 0), (2, 0), (3, 0)]
def heldC : List W6.Turn := [(2, 0), (1, 0), (0, 0), (3, 0)]
def heldD : List W6.Turn := [(1, 0), (2, 0), (0, 0), (3, 0)]
theorem ey_blk : (blocksT rowOw rowLk heldA).map (fun n : Nat => (n : Int)) = [] ∧ (blocksT rowOw rowLk heldB).map (fun n : Nat => (n : Int)) = [0, 1] ∧ (blocksT rowOw rowLk heldC).map (fun n : Nat => (n : Int)) = [0, 1] ∧ (blocksT rowOw rowLk heldD).map (fun n : Nat => (n : Int)) = [1] := by decide +kernel
theorem ey_held : heldT rowOw rowLk heldA = 0 ∧ heldT rowOw rowLk heldB = 0 ∧ heldT rowOw rowLk heldC = 0 ∧ heldT rowOw rowLk heldD = 0 := by decide +kernel
theorem ey_ple : pleaseT rowOw rowLk heldA = [] ∧ pleaseT rowOw rowLk heldC = [] := by decide +kernel
theorem ey_hx : heldT rowOw rowLk [(1, 0), (1, 0), (2, 0), (3, 0)] = 4 ∧ heldT rowOw rowLk [(1, 0), (0, 0), (2, 0)] = 2 ∧ heldT rowOw rowLk [(1, 0), (0, 0), (2, 0), (4, 0)] = 3 := by decide +kernel
theorem ey_from : frL hallL [3, 1, 2] 4 = ([(1, 4), (2, 4), (0, 4)], [[(1, 4), (2, 4)], [(0, 4), (2, 4)], [(2, 4), (1, 4), (0, 4)]], [1, 2, 3]) := by decide +kernel
theorem ey_hok : HoldOk hallL [3, 1, 2] := (checkH_zero.1 (by decide +kernel)).2
theorem ey_swap : swapT [(1, 4), (2, 4), (0, 4)] [[(1, 4), (2, 4)], [(0, 4), (2, 4)], [(2, 4), (1, 4), (0, 4)]] = [(1, 4), (0, 4), (2, 4)] ∧ checkT [(1, 4), (2, 4), (0, 4)] [[(1, 4), (2, 4)], [(0, 4), (2, 4)], [(2, 4), (1, 4), (0, 4)]] = 0 := by decide +kernel
def paperC : List UInt8 := [116,114,97,100,101,114,32,48,32,48,10,108,105,107,101,32,49,32,48,10,108,105,107,101,32,50,32,48,10,116,114,97,100,101,114,32,49,32,48,10,108,105,107,101,32,48,32,48,10,116,114,97,100,101,114,32,50,32,48,10] ++ [108,105,107,101,32,48,32,48,10,108,105,107,101,32,49,32,48,10,116,114,97,100,101,114,32,51,32,48,10,108,105,107,101,32,50,32,48,10,108,105,107,101,32,51,32,48,10,108,105,107,101,32,48,32,48,10,101,110,100,32] ++ [52,10]
theorem ey_wrT : wrTX rowOw rowLk = paperC := by decide +kernel
end Go.Sim
