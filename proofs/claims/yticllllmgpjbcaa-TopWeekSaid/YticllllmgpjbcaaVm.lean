/- The reference's check, rings and swap. -/
import Derived.Test.YticllllmgpjbcaaVk
namespace Go.Sim.W6
open Go.Proofs Go.Plain
set_option maxRecDepth 100000
set_option linter.unusedSimpArgs false
set_option linter.unusedVariables false
attribute [-simp] List.map_set List.map_take List.map_drop
attribute [local simp] take_map' drop_map'
theorem row_check : checkT rowOw rowLk = 0 := by kernel_rfl
theorem row_rings : ringsT rowOw rowLk = [[0, 1], [2], [3]] := by kernel_rfl
theorem row_swap : swapT rowOw rowLk = [(1, 0), (0, 0), (2, 0), (3, 0)] := by kernel_rfl
theorem row_held1 : heldT rowOw rowLk [(2, 0), (1, 0), (0, 0), (3, 0)] = 0 := by kernel_rfl
theorem row_held2 : heldT rowOw rowLk [(0, 0), (1, 0), (2, 0), (3, 0)] = 0 := by kernel_rfl
theorem row_blocks : blocksT rowOw rowLk [(2, 0), (1, 0), (0, 0), (3, 0)] = [0, 1] := by kernel_rfl
theorem row_pleases : pleaseT rowOw rowLk [(0, 0), (1, 0), (2, 0), (3, 0)] = [0, 1] := by kernel_rfl
attribute [local simp] row_check row_rings row_swap row_held1 row_held2 row_blocks row_pleases
end Go.Sim.W6
namespace Go.Sim.W6
open Go.Proofs Go.Plain
set_option maxRecDepth 100000
set_option linter.unusedSimpArgs false
set_option linter.unusedVariables false
attribute [-simp] List.map_set List.map_take List.map_drop
attribute [local simp] take_map' drop_map'
def takesT (ow : List Turn) (lk : List (List Turn)) (i : Nat) : List Turn := (nth lk i).take ((nth lk i).idxOf (nth ow i)) ++ [nth ow i]
theorem takesT_eq {ow : List Turn} {lk : List (List Turn)} {i : Nat} (hi : i < ow.length) (hk : i < lk.length) : takesT ow lk i = lk[i].take (lk[i].idxOf ow[i]) ++ [ow[i]] := by rw [takesT, nth_get hi, nth_get hk]
end Go.Sim.W6
