/- Cellars, plainly: the chapter's examples. -/
import Derived.Test.YtamcckgclidgkabDoorQe
set_option linter.all false
set_option linter.unusedVariables false
set_option linter.unusedSimpArgs false
set_option linter.unusedSectionVars false
namespace Go.Sim
open Go.Proofs
/-- the last hour at which a lot is surely fresh -/
def lastC (c : Cel) (l : CLot) : Int := l.born + lastK (fun k => (lostS c l k).hi) l.keeps (240 - l.born).toNat
/-- the fewest scoops -/
def fillC (c : Cel) (b : Nat) (vs : List Int) (grams til : Int) : Option (List Int) := bestL4 (fun sc => keepsB c b grams vs sc til) (allS vs.length)
def vaultC : Cel := ⟨⟨100, 150⟩, [⟨1000, ⟨500, 600⟩, ⟨200, 250⟩, ⟨-10, 10⟩, ⟨50, 80⟩⟩], [⟨0, 4, 300⟩], [⟨-50, 1⟩, ⟨20, 5⟩, ⟨100, 20⟩]⟩
def eelC (keeps : Int) : CLot := ⟨0, keeps, [⟨0, 0, 6⟩]⟩
theorem vault_valid : ValidC vaultC := checkC_zero.1 (by decide)
theorem eel_ok {n : Int} (h : 0 ≤ n ∧ n ≤ 100000) : LotOk 1 (eelC n) := ⟨by simp [eelC], h, by simp [eelC], by simp [eelC, StaysOk]⟩
theorem vault_ice2 : iceS vaultC 0 2 = ⟨0, 200⟩ := by decide
theorem vault_lost8 : lostS vaultC (eelC 60) 8 = ⟨50, 54⟩ := by decide
theorem lostS_hi_mono {c : Cel} (h : ValidC c) (l : CLot) (i j : Nat) (hij : i ≤ j) : (lostS c l i).hi ≤ (lostS c l j).hi := by
  obtain ⟨d, rfl⟩ : ∃ d, j = i + d := ⟨j - i, by omega⟩
  exact (lostS_mono h l).2
theorem vault_last : lastC vaultC (eelC 60) = 8 := by
  have : lastK (fun k => (lostS vaultC (eelC 60) k).hi) 60 240 = 8 := lastK_stop (lostS_hi_mono vault_valid _) (by decide) (by decide) (by decide)
  show (0 : Int) + ((lastK _ 60 240 : Nat) : Int) = 8
  rw [this]; rfl
theorem vault_fill : fillC vaultC 0 [2, 3] 100 7 = some [1, 5] := by decide +kernel
end Go.Sim
