/- What a die makes: numbers, orders, turns, trades. -/
import Derived.Test.YtamcckgclidgkaaDoorVb
namespace Go.Sim.W6
open Go.Proofs
set_option maxRecDepth 100000
set_option linter.unusedSimpArgs false
set_option linter.unusedVariables false
attribute [-simp] List.map_set
/-- an order of the numbers below n -/
def Order (l : List Int) (n : Nat) : Prop := l.Perm ((List.range n).map Int.ofNat)
theorem Order.length {l : List Int} {n : Nat} (h : Order l n) : l.length = n := by have := List.Perm.length_eq h; simpa using this
theorem Order.mem {l : List Int} {n : Nat} (h : Order l n) {x : Int} (hx : x ∈ l) : 0 ≤ x ∧ x < n := by
  have := (List.Perm.mem_iff h).1 hx
  simp only [List.mem_map, List.mem_range] at this
  obtain ⟨k, hk, rfl⟩ := this
  simp only [Int.ofNat_eq_natCast]; omega
theorem Order.nodup {l : List Int} {n : Nat} (h : Order l n) : l.Nodup := by
  refine (List.Perm.nodup_iff h).2 ?_
  refine List.Pairwise.map _ (fun a b hab => ?_) (List.nodup_range (n := n))
  simp only [Int.ofNat_eq_natCast, ne_eq, Int.natCast_inj]; exact hab
end Go.Sim.W6
