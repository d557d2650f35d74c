/- Lists, in plain Lean: what the core library lacks. -/
namespace Go.Plain
theorem idxOf_getElem_le {α : Type} [BEq α] [LawfulBEq α] : ∀ {l : List α} {i : Nat} (h : i < l.length), l.idxOf l[i] ≤ i
  | [], _, h => by simp at h
  | x :: r, 0, _ => by rw [List.idxOf_cons]; simp
  | x :: r, i + 1, h => by
    have h2 : i < r.length := by simpa using h
    rw [List.idxOf_cons]
    have := idxOf_getElem_le h2
    simp only [List.getElem_cons_succ]
    cases (x == r[i]) <;> simp <;> omega
theorem idxOf_cons_ne {α : Type} [BEq α] [LawfulBEq α] {x y : α} (r : List α) (h : x ≠ y) : (x :: r).idxOf y = r.idxOf y + 1 := by
  rw [List.idxOf_cons, show (x == y) = false by simpa using h]; rfl
theorem flatMap_congr' {α β : Type} {f g : α → List β} : ∀ {l : List α}, (∀ x ∈ l, f x = g x) → l.flatMap f = l.flatMap g
  | [], _ => rfl
  | x :: r, h => by rw [List.flatMap_cons, List.flatMap_cons, h x (by simp), flatMap_congr' fun y hy => h y (List.mem_cons_of_mem _ hy)]
theorem nodup_inj {α : Type} {l : List α} (hd : l.Nodup) {i j : Nat} {hi : i < l.length} {hj : j < l.length} : l[i] = l[j] ↔ i = j := by
  constructor
  · intro h
    refine (List.getElem?_inj hi hd).1 ?_
    rw [List.getElem?_eq_getElem hi, List.getElem?_eq_getElem hj, h]
  · intro h; subst h; rfl
theorem nodup_of_inj {α : Type} {l : List α} (h : ∀ i j (hij : i < j) (hj : j < l.length), l[i]? = l[j]? → False) : l.Nodup := by
  rw [List.nodup_iff_pairwise_ne, List.pairwise_iff_getElem]
  intro i j hi hj hij e
  exact h i j hij hj (by rw [List.getElem?_eq_getElem hi, List.getElem?_eq_getElem hj, e])
end Go.Plain
