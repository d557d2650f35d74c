/- The draw of a letting: arrays. -/
import Derived.Test.YtamcckgclidgkaaDoorLd
namespace Go.Sim
open Go.Proofs
set_option maxRecDepth 100000
set_option linter.unusedSimpArgs false
set_option linter.unusedVariables false
attribute [-simp] List.map_set List.map_take List.map_drop setSeg
/-- the cells of an order: eight numbers, and how many count -/
def ordC (l : List Int) (m : Int) : List AV := l.map I ++ [I m]
theorem ordC_len {l : List Int} {m : Int} (h : l.length = 8) : (ordC l m).length = 9 := by simp [ordC, h]
theorem ordC_8 {l : List Int} {m : Int} (h : l.length = 8) : (ordC l m)[8]? = some (I m) := by rw [ordC, List.getElem?_append_right (by simp [h])]; simp [h]
theorem ordC_get {l : List Int} {m : Int} {i : Nat} (hi : i < l.length) : (ordC l m)[i]? = some (I l[i]) := by rw [ordC, List.getElem?_append_left (by simpa using hi)]; simp [hi]
theorem ordC_8' {l : List Int} {m : Int} (h : l.length = 8) (h' : 8 < (ordC l m).length) : (ordC l m)[8] = I m := by have := ordC_8 (m := m) h; rw [List.getElem?_eq_getElem h'] at this; simpa using this
theorem ordC_get' {l : List Int} {m : Int} {i : Nat} (hi : i < l.length) (h' : i < (ordC l m).length) : (ordC l m)[i] = I l[i] := by have := ordC_get (m := m) hi; rw [List.getElem?_eq_getElem h'] at this; simpa using this
attribute [local simp] ordC_8' ordC_get'
theorem ordC_all {l : List Int} {m : Int} (h : l.length = 8) : (ordC l m).take 9 = ordC l m := List.take_of_length_le (by simp [ordC, h])
theorem ordC_one {l : List Int} {m : Int} : (ordC l m).all AV.one = true := by
  rw [List.all_eq_true]
  intro x hx
  rcases List.mem_append.1 hx with h | h
  · obtain ⟨v, _, rfl⟩ := List.mem_map.1 h; rfl
  · obtain rfl := List.mem_singleton.1 h; rfl
theorem ordC_kill {l : List Int} {m : Int} (i : Nat) : (ordC l m).map (AV.kill i) = ordC l m := by
  conv => rhs; rw [← List.map_id (ordC l m)]
  refine List.map_congr_left fun x hx => ?_
  rcases List.mem_append.1 hx with h | h
  · obtain ⟨v, _, rfl⟩ := List.mem_map.1 h; rfl
  · obtain rfl := List.mem_singleton.1 h; rfl
theorem ordC_kill2 {l : List Int} {m : Int} (i j : Nat) : (ordC l m).map (AV.kill i ∘ AV.kill j) = ordC l m := by rw [← List.map_map, ordC_kill, ordC_kill]
theorem setSeg_nil' {l : List AV} {k : Nat} : setSeg l k [] = l := by simp [setSeg]
attribute [local simp] ordC_one ordC_kill ordC_kill2 setSeg_nil' ordC_len ordC_8 ordC_all
theorem ordC_m {l : List Int} {m v : Int} (h : l.length = 8) : setSeg (ordC l m) 8 [I v] = ordC l v := by
  rw [setSeg, ordC, List.take_append_of_le_length (by simp [h]), List.take_of_length_le (by simp [h]), List.drop_of_length_le (by simp [h])]; rfl
theorem ordC_seg {l : List Int} {m : Int} {k : Nat} {xs : List Int} (h : l.length = 8) (hk : k + xs.length ≤ 8) : setSeg (ordC l m) k (xs.map I) = ordC (l.take k ++ (xs ++ l.drop (k + xs.length))) m := by
  rw [setSeg, ordC, ordC, List.take_append_of_le_length (by simp [h]; omega), List.length_map, List.drop_append_of_le_length (by simp [h]; omega)]
  simp only [List.map_append, List.map_take, List.map_drop, List.append_assoc]
theorem ordC_set {l : List Int} {m v : Int} {k : Nat} (h : l.length = 8) (hk : k < l.length) : setSeg (ordC l m) k [I v] = ordC (l.set k v) m := by
  have := ordC_seg (l := l) (m := m) (k := k) (xs := [v]) h (by simp; omega)
  rw [show ([v].map I) = [I v] from rfl] at this
  rw [this, List.set_eq_take_append_cons_drop, if_pos hk]
  simp
theorem ordC_data {l : List Int} {m : Int} : AV.isDataL (ordC l m) = true := by
  unfold ordC
  induction l with
  | nil => rfl
  | cons x xs ih => simpa [AV.isDataL, AV.isData] using ih
theorem ordC_ren {l : List Int} {m : Int} (ρ : Nat → Nat) : AV.renL ρ (ordC l m) = ordC l m := by
  unfold ordC
  induction l with
  | nil => rfl
  | cons x xs ih => simpa [AV.renL, AV.ren] using ih
theorem ordC_snap (st : St) (ps : List (Nat × Nat)) {l : List Int} {m : Int} : st.snapL ps (ordC l m) = some (ordC l m, false) := by
  unfold ordC
  induction l with
  | nil => simp [St.snapL, St.snap1]
  | cons x xs ih => simp only [List.map_cons, List.cons_append, St.snapL, ih]; simp [St.snap1]
attribute [local simp] ordC_ren ordC_snap
theorem setSeg_full {L xs : List AV} (h : xs.length = L.length) : setSeg L 0 xs = xs := by simp [setSeg, h]
attribute [local simp] ordC_m ordC_set ordC_data setSeg_full
end Go.Sim
