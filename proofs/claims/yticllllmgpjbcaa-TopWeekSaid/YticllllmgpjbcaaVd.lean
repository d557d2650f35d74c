/- Trades that a die makes. -/
import Derived.Test.YticllllmgpjbcaaVc
namespace Go.Sim.W6
open Go.Proofs
set_option maxRecDepth 100000
set_option linter.unusedSimpArgs false
set_option linter.unusedVariables false
attribute [-simp] List.map_set
def GoodTurns (l : List Turn) : Prop := l.Nodup ∧ ∀ x ∈ l, validT x = true
structure GoodTrade (ow : List Turn) (lk : List (List Turn)) (most : Nat) : Prop where
  most : ow.length ≤ most
  same : lk.length = ow.length
  owns : GoodTurns ow
  likes : ∀ l ∈ lk, GoodTurns l ∧ l.length ≤ ow.length + 2
theorem GoodTurns.snoc {l : List Turn} {x : Turn} (h : GoodTurns l) (hx : x ∉ l) (hv : validT x = true) : GoodTurns (l ++ [x]) := by
  refine ⟨?_, fun y hy => ?_⟩
  · rw [List.nodup_append]
    exact ⟨h.1, by simp, fun a ha b hb => by simp at hb; subst hb; exact fun e => hx (e ▸ ha)⟩
  · rcases List.mem_append.1 hy with hy | hy
    · exact h.2 y hy
    · simp at hy; subst hy; exact hv
theorem GoodTurns.nil : GoodTurns [] := ⟨List.nodup_nil, fun x hx => by simp at hx⟩
theorem map_nth_range {α : Type} [NthD α] (l : List α) : (List.range l.length).map (nth l) = l := by
  refine List.ext_getElem (by simp) fun i h1 h2 => ?_
  simp [nth_get h2]
theorem Order.pick {α : Type} [NthD α] {l : List Int} {ow : List α} (h : Order l ow.length) : (l.map fun k => nth ow k.toNat).Perm ow := by
  have h1 := List.Perm.map (fun k : Int => nth ow k.toNat) h
  rw [List.map_map] at h1
  have h2 : (List.range ow.length).map ((fun k : Int => nth ow k.toNat) ∘ Int.ofNat) = ow := by
    conv => rhs; rw [← map_nth_range ow]
    rfl
  rwa [h2] at h1
def rowOw : List Turn := [(0, 0), (1, 0), (2, 0), (3, 0)]
def rowLk : List (List Turn) := [[(1, 0), (2, 0)], [(0, 0)], [(0, 0), (1, 0)], [(2, 0), (3, 0), (0, 0)]]
end Go.Sim.W6
