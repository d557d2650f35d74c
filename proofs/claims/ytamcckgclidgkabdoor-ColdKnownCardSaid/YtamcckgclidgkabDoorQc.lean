/- Cellars, plainly: what is colder, what is known better, what truly is. -/
import Derived.Test.YtamcckgclidgkabDoorQb
set_option linter.all false
set_option linter.unusedVariables false
set_option linter.unusedSimpArgs false
set_option linter.unusedSectionVars false
namespace Go.Sim
open Go.Proofs
def Spn.inn (x y : Spn) : Prop := y.lo ≤ x.lo ∧ x.hi ≤ y.hi
/-- the same boxes with more ice, less that melts, a colder hall -/
structure ColderR (c m : Cel) : Prop where
  rats : m.rats = c.rats
  fils : m.fils = c.fils
  len : m.boxes.length = c.boxes.length
  hall : m.hall.lo ≤ c.hall.lo ∧ m.hall.hi ≤ c.hall.hi
  bx : ∀ b, b < c.boxes.length → (nth c.boxes b).room ≤ (nth m.boxes b).room ∧ (nth c.boxes b).ice.lo ≤ (nth m.boxes b).ice.lo ∧ (nth c.boxes b).ice.hi ≤ (nth m.boxes b).ice.hi ∧ (nth m.boxes b).melt.lo ≤ (nth c.boxes b).melt.lo ∧ (nth m.boxes b).melt.hi ≤ (nth c.boxes b).melt.hi ∧
    (nth m.boxes b).cld = (nth c.boxes b).cld ∧ (nth m.boxes b).wrm = (nth c.boxes b).wrm
theorem ColderR.ice {c m : Cel} (r : ColderR c m) {b : Nat} (hb : b < c.boxes.length) (t : Nat) : iceLo c b t ≤ iceLo m b t ∧ iceHi c b t ≤ iceHi m b t := by
  obtain ⟨h1, h2, h3, h4, h5, _⟩ := r.bx b hb
  unfold iceLo iceHi
  rw [r.fils]
  exact ⟨fallN_mono h1 h2 fun _ _ => h5, fallN_mono h1 h3 fun _ _ => h4⟩
/-- narrower spans -/
structure NarrowR (c m : Cel) : Prop where
  rats : m.rats = c.rats
  fils : m.fils = c.fils
  len : m.boxes.length = c.boxes.length
  hall : m.hall.inn c.hall
  bx : ∀ b, b < c.boxes.length → (nth m.boxes b).room = (nth c.boxes b).room ∧ (nth m.boxes b).ice.inn (nth c.boxes b).ice ∧ (nth m.boxes b).melt.inn (nth c.boxes b).melt ∧ (nth m.boxes b).cld.inn (nth c.boxes b).cld ∧ (nth m.boxes b).wrm.inn (nth c.boxes b).wrm
theorem NarrowR.ice {c m : Cel} (r : NarrowR c m) {b : Nat} (hb : b < c.boxes.length) (t : Nat) : (iceS m b t).inn (iceS c b t) := by
  obtain ⟨h1, h2, h3, _⟩ := r.bx b hb
  unfold iceS iceLo iceHi
  rw [r.fils, h1]
  exact ⟨fallN_mono (Int.le_refl _) h2.1 fun _ _ => h3.2, fallN_mono (Int.le_refl _) h2.2 fun _ _ => h3.1⟩
end Go.Sim
