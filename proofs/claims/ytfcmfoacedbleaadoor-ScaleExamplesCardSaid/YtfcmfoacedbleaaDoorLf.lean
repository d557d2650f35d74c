/- Benches: what the reference learns. -/
import Derived.Test.YtfcmfoacedbleaaDoorQe
import Derived.Test.YtfcmfoacedbleaaDoorLb
namespace Go.Sim
open Go.Proofs
set_option maxRecDepth 100000
set_option linter.unusedSimpArgs false
set_option linter.unusedVariables false
attribute [-simp] List.map_set List.map_take List.map_drop
attribute [simp] spn_eta rowK_def
theorem set_mapK (t : List (List Int)) (i : Nat) (r : List Int) : (t.map rowK).set i (r.map I) = (t.set i r).map rowK := by
  show (t.map rowK).set i (rowK r) = _
  exact List.map_set.symm
theorem gridK_last {T : KT} {R : List AV} : (T.map rowK ++ [R])[T.length]? = some R := by
  rw [List.getElem?_append_right (by simp)]; simp
theorem min_if (x y : Int) : (if y < x then y else x) = min x y := by split <;> omega
attribute [simp] set_mapK gridK_last min_if
def IsF (n : Nat) (T : KT) : Prop := T = (List.range T.length).map (rowF n)
theorem IsF.nil (n : Nat) : IsF n [] := rfl
theorem IsF.snoc {n : Nat} {T : KT} (h : IsF n T) {R : List Int} (hR : R = rowF n T.length) : IsF n (T ++ [R]) := by
  unfold IsF at h ⊢
  rw [List.length_append, List.length_singleton, List.range_succ, List.map_append, ← h, hR]; rfl
theorem IsF.all {n : Nat} {T : KT} (h : IsF n T) (hl : T.length = n) : T = freeK n := by
  unfold IsF at h
  rw [h, hl]; rfl
end Go.Sim
