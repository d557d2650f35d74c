/- What a lot loses, by the reference. -/
import Derived.Test.YtamcckgclidgkabDoorLd
import Derived.Test.YtamcckgclidgkabDoorLm
namespace Go.Sim
open Go.Proofs
set_option maxRecDepth 100000
set_option linter.unusedSimpArgs false
set_option linter.unusedVariables false
attribute [-simp] List.map_set List.map_take List.map_drop
theorem StaysOk.til {n : Nat} {l : List Sty} {fr : Int} (h : StaysOk n fr l) : ∀ s ∈ l, s.til ≤ 240 ∧ (0 ≤ fr → 0 < s.til) := fun s hs => by
  obtain ⟨_, h2, h3, h4⟩ := h.mem s hs
  exact ⟨h4, fun h0 => by omega⟩
end Go.Sim
