/- The chapter's examples, plainly. -/
import Derived.Test.YtfcmfoacedbleaaDoorQn
import Derived.Test.YtfcmfoacedbleaaDoorIb
set_option linter.all false
set_option linter.unusedVariables false
set_option linter.unusedSimpArgs false
set_option linter.unusedSectionVars false
namespace Go.Sim
open Go.Proofs
def noneC : Ben := ⟨[], benchC.wei, benchC.scl, benchC.tri, 4⟩
def sameC : Ben := ⟨benchC.mas, [⟨1, 1, ⟨3, 5⟩⟩, ⟨2, 1, ⟨-9, -7⟩⟩], benchC.scl, benchC.tri, 4⟩
def lateC : Ben := ⟨benchC.mas, benchC.wei, benchC.scl, [⟨0, 5, 1, 1010⟩], 4⟩
def bothC : Sls := ⟨[0, 0], [2, 3], 1, 4⟩
def idleC : Sls := ⟨[1, 0], [2, 3], 0, 4⟩
theorem ey_chk : checkB benchC = 0 := by decide +kernel
theorem ey_none : checkB noneC = 7 := by decide +kernel
theorem ey_same : checkB sameC = 2 := by decide +kernel
theorem ey_late : checkB lateC = 1 := by decide +kernel
theorem ey_offs : offsL benchC = [⟨0, 0⟩, ⟨3, 5⟩, ⟨-6, -2⟩] := by decide +kernel
theorem ey_offsE : offsE benchC = 0 := by decide +kernel
theorem ey_wei : weiX benchC 0 3 750 = ⟨741, 746⟩ := by decide +kernel
theorem ey_weiE : weiE benchC 0 3 750 = 0 := by decide +kernel
theorem ey_clash : clashL benchC = none := by decide +kernel
theorem ey_clashE : clashE benchC = 3 := by decide +kernel
theorem ey_kee : keeV benchC 0 3 8 = 3 ∧ keeV benchC 0 3 9 = 1 ∧ keeV benchC 0 3 3 = 2 := by decide +kernel
theorem ey_keeE : keeE benchC 0 3 8 = 0 ∧ keeE benchC 0 3 9 = 0 ∧ keeE benchC 0 3 3 = 0 := by decide +kernel
theorem ey_both : planL bothC = [⟨0, 0⟩, ⟨1, 1⟩, ⟨3, 0⟩] := by decide +kernel
theorem ey_bothE : planE bothC = 0 := by decide +kernel
theorem ey_idle : planL idleC = [] := by decide +kernel
theorem ey_idleE : planE idleC = 3 := by decide +kernel
theorem ey_last : lastN ⟨-2, 3⟩ ⟨-1, 2⟩ 2 = -1 ∧ lastX ⟨-2, 3⟩ ⟨-1, 2⟩ 2 = 0 := by decide +kernel
def paperC : List UInt8 := [109,97,115,115,32,49,48,48,48,32,48,32,48,10,109,97,115,115,32,49,48,48,48,32,45,50,48,32,50,48,10,109,97,115,115,32,53,48,48,32,45,49,48,32,49,48,10,119,101,105,103,104,105,110,103,32,49,32,48,32,51] ++ [32,53,10,119,101,105,103,104,105,110,103,32,50,32,49,32,45,57,32,45,55,10,115,99,97,108,101,32,45,53,32,53,32,45,49,32,50,10,116,114,105,97,108,32,48,32,50,32,49,32,49,48,49,48,10,101,110,100,32,52,10]
theorem ey_paper : wrB benchC = paperC := by decide +kernel
end Go.Sim
