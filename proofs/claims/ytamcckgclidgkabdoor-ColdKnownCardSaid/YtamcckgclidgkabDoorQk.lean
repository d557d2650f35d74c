/- The chapter's examples, plainly. -/
import Derived.Test.YtamcckgclidgkabDoorLw
import Derived.Test.YtamcckgclidgkabDoorLi
import Derived.Test.YtamcckgclidgkabDoorIf
set_option linter.all false
set_option linter.unusedVariables false
set_option linter.unusedSimpArgs false
set_option linter.unusedSectionVars false
namespace Go.Sim
open Go.Proofs
def warmC : Cel := ⟨vaultC.hall, [⟨1000, ⟨500, 600⟩, ⟨200, 250⟩, ⟨51, 52⟩, ⟨50, 80⟩⟩], vaultC.fils, vaultC.rats⟩
def bareC : Cel := ⟨vaultC.hall, vaultC.boxes, vaultC.fils, []⟩
def twiceC : Cel := ⟨vaultC.hall, vaultC.boxes, vaultC.fils, [⟨-50, 1⟩, ⟨-50, 5⟩, ⟨100, 20⟩]⟩
theorem ey_chk : checkC vaultC = 0 := by decide +kernel
theorem ey_warm : checkC warmC = 9 := by decide +kernel
theorem ey_bare : checkC bareC = 7 := by decide +kernel
theorem ey_twice : checkC twiceC = 5 := by decide +kernel
theorem ey_atE {h : Int} (h0 : 0 ≤ h) (h1 : h ≤ 239) : atE vaultC 0 h = 0 := by rw [atE, if_neg (fun k => k ey_chk), if_neg (by simp [vaultC]), if_neg (by omega)]
theorem ey_ice : atS vaultC 0 0 = ⟨500, 600⟩ ∧ atS vaultC 0 2 = ⟨0, 200⟩ ∧ atS vaultC 0 3 = ⟨0, 0⟩ ∧ atS vaultC 0 4 = ⟨300, 300⟩ ∧ atS vaultC 0 5 = ⟨50, 100⟩ := by decide +kernel
theorem ey_cold : coldV (atS vaultC 0 1) = 1 ∧ coldV (atS vaultC 0 2) = 3 ∧ coldV (atS vaultC 0 3) = 2 ∧ coldV (atS vaultC 0 6) = 2 := by decide +kernel
theorem ey_lost : lotS vaultC (eelC 60) 2 = ⟨2, 2⟩ ∧ lotS vaultC (eelC 60) 3 = ⟨3, 7⟩ ∧ lotS vaultC (eelC 60) 4 = ⟨8, 12⟩ ∧ lotS vaultC (eelC 60) 6 = ⟨10, 14⟩ ∧ lotS vaultC (eelC 60) 8 = ⟨50, 54⟩ := by decide +kernel
theorem ey_lostE {h : Int} (h0 : 0 ≤ h) (h1 : h ≤ 240) : lotE vaultC (eelC 60) h = 0 := by
  rw [lotE, if_neg (fun k => k (by decide +kernel)), if_neg (by omega), if_neg (by show ¬ h < 0; omega)]
theorem ey_fresh : freshV vaultC (eelC 60) 8 = 1 ∧ freshV vaultC (eelC 60) 9 = 2 ∧ freshV vaultC (eelC 52) 8 = 3 := by decide +kernel
theorem ey_freshE : lotE vaultC (eelC 60) 8 = 0 ∧ lotE vaultC (eelC 60) 9 = 0 ∧ lotE vaultC (eelC 52) 8 = 0 := by decide +kernel
theorem ey_last : lastV vaultC (eelC 52) = 7 ∧ checkLotC vaultC (eelC 52) = 0 := by decide +kernel
theorem ey_sell : sellX vaultC [eelC 60] [⟨0, 8⟩, ⟨0, 9⟩, ⟨1, 0⟩, ⟨0, 241⟩] = some [0, 12, 3, 1] ∧ sellE vaultC [eelC 60] [⟨0, 8⟩, ⟨0, 9⟩, ⟨1, 0⟩, ⟨0, 241⟩] = 0 := by decide +kernel
theorem ey_fill : fillX vaultC 0 [2, 3] 100 5 = some [1, 1] ∧ fillE vaultC 0 [2, 3] 100 5 = 0 := by decide +kernel
theorem ey_fill2 : fillX vaultC 0 [3] 100 5 = none ∧ fillE vaultC 0 [3] 100 5 = 3 := by decide +kernel
def paperC : List UInt8 := [104,97,108,108,32,49,48,48,32,49,53,48,10,98,111,120,32,49,48,48,48,32,53,48,48,32,54,48,48,32,50,48,48,32,50,53,48,32,45,49,48,32,49,48,32,53,48,32,56,48,10,102,105,108,108,105,110,103,32,48] ++ [32,52,32,51,48,48,10,114,97,116,101,32,45,53,48,32,49,10,114,97,116,101,32,50,48,32,53,10,114,97,116,101,32,49,48,48,32,50,48,10,108,111,116,32,48,32,54,48,10,115,116,97,121,32,48,32,48,32,54,10] ++ [101,110,100,32,49,10]
theorem ey_wrX : wrX vaultC [eelC 60] = paperC := by decide +kernel
theorem ey_wrE : wrE vaultC [eelC 60] = 0 := by decide +kernel
end Go.Sim
