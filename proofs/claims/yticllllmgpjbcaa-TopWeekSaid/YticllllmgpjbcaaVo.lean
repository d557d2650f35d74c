/- The reference's rings and swap. -/
import Derived.Test.YticllllmgpjbcaaVm
import Derived.Test.YticllllmgpjbcaaRc
namespace Go.Sim.W6
open Go.Proofs Go.Plain
set_option maxRecDepth 100000
set_option linter.unusedSimpArgs false
set_option linter.unusedVariables false
attribute [-simp] List.map_set List.map_take List.map_drop
attribute [local simp] take_map' drop_map'
def lfOf (n : Nat) (L : List Nat) : List Bool := (List.range n).map fun i => decide (i ∈ L)
theorem lfOf_length (n : Nat) (L : List Nat) : (lfOf n L).length = n := by simp [lfOf]
def ptK (ow : List Turn) (L : List Nat) (i : Nat) : List Turn → Nat
  | [] => i
  | x :: r => if x ∈ ow ∧ ow.idxOf x ∈ L then ow.idxOf x else ptK ow L i r
theorem idxOf_self {ow : List Turn} (hd : ow.Nodup) {i : Nat} (hi : i < ow.length) : ow.idxOf ow[i] = i := by
  exact hd.idxOf_getElem i hi
theorem ptK_takes {ow : List Turn} (hd : ow.Nodup) {L : List Nat} {i : Nat} (hi : i < ow.length) : ∀ l : List Turn, ptK ow L i (l.take (l.idxOf ow[i]) ++ [ow[i]]) = ptL ow L i ow[i] l
  | [] => by
    simp only [List.idxOf_nil, List.take_nil, List.nil_append, ptK, ptL, idxOf_self hd hi]
    split <;> rfl
  | x :: r => by
    rw [ptL]
    by_cases hx : x = ow[i]
    · subst hx
      rw [if_pos rfl, List.idxOf_cons_self]
      simp only [List.take_zero, List.nil_append, ptK, idxOf_self hd hi]
      split <;> rfl
    · rw [if_neg hx, show (x :: r).idxOf ow[i] = r.idxOf ow[i] + 1 by rw [List.idxOf_cons, cond_eq_ite, if_neg (by simpa using hx)], List.take_succ_cons, List.cons_append, ptK, ptK_takes hd hi r]
theorem ptK_takesT {ow : List Turn} {lk : List (List Turn)} (hd : ow.Nodup) {L : List Nat} {i : Nat} (hi : i < ow.length) (hk : i < lk.length) : ptK ow L i (takesT ow lk i) = ptF ow lk L i := by
  rw [takesT_eq hi hk, ptK_takes hd hi, ptF_eq hi hk]
end Go.Sim.W6
namespace Go.Sim.W6
open Go.Proofs Go.Plain
set_option maxRecDepth 100000
set_option linter.unusedSimpArgs false
set_option linter.unusedVariables false
attribute [-simp] List.map_set List.map_take List.map_drop List.length_flatten
attribute [local simp] take_map' drop_map'
attribute [local simp] lfOf_length
attribute [local simp] giveK_length giveR_length
end Go.Sim.W6
