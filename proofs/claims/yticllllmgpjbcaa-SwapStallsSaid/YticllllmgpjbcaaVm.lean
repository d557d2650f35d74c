/- The reference's check, rings and swap. -/
import Derived.Test.YticllllmgpjbcaaVl
namespace Go.Sim.W6
open Go.Proofs Go.Plain
set_option maxRecDepth 100000
set_option linter.unusedSimpArgs false
set_option linter.unusedVariables false
attribute [-simp] List.map_set List.map_take List.map_drop
attribute [local simp] take_map' drop_map'
def takesT (ow : List Turn) (lk : List (List Turn)) (i : Nat) : List Turn := (nth lk i).take ((nth lk i).idxOf (nth ow i)) ++ [nth ow i]
theorem takesT_eq {ow : List Turn} {lk : List (List Turn)} {i : Nat} (hi : i < ow.length) (hk : i < lk.length) : takesT ow lk i = lk[i].take (lk[i].idxOf ow[i]) ++ [ow[i]] := by rw [takesT, nth_get hi, nth_get hk]
end Go.Sim.W6
