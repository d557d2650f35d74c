/- Rounds of rings: who leaves when, and what the rounds mean for those who like some more than others (plain). -/
import Derived.Test.YticllllmgpjbcaaRc
namespace Go.Plain
def Cyc (f : Nat → Nat) (x : Nat) : Prop := ∃ k, itr f (k + 1) x = x
theorem itr_mul {f : Nat → Nat} {K m : Nat} (h : itr f K m = m) : ∀ q, itr f (q * K) m = m
  | 0 => by rw [Nat.zero_mul]; rfl
  | q + 1 => by rw [Nat.succ_mul, itr_add, itr_mul h q, h]
theorem Cyc.itr {f : Nat → Nat} {x : Nat} (h : Cyc f x) (j : Nat) : Cyc f (itr f j x) := by
  obtain ⟨k, hk⟩ := h
  exact ⟨k, by rw [← itr_add, Nat.add_comm, itr_add, hk]⟩
theorem Cyc.step {f : Nat → Nat} {x : Nat} (h : Cyc f x) : Cyc f (f x) := h.itr 1
theorem Cyc.back {f : Nat → Nat} {x : Nat} (h : Cyc f x) (j : Nat) : ∃ i, Plain.itr f i (Plain.itr f j x) = x := by
  obtain ⟨k, hk⟩ := h
  refine ⟨(j * (k + 1)) - j, ?_⟩
  rw [← itr_add, show j + (j * (k + 1) - j) = j * (k + 1) by
    have : j ≤ j * (k + 1) := Nat.le_mul_of_pos_right j (by omega)
    omega]
  exact itr_mul hk j
theorem Cyc.pred {f : Nat → Nat} {x : Nat} (h : Cyc f x) : ∃ p, f p = x ∧ Cyc f p ∧ ∃ j, p = Plain.itr f j x := by
  obtain ⟨k, hk⟩ := h
  exact ⟨Plain.itr f k x, hk, Cyc.itr ⟨k, hk⟩ k, k, rfl⟩
theorem Cyc.inj {f : Nat → Nat} {x y : Nat} (hx : Cyc f x) (hy : Cyc f y) (h : f x = f y) : x = y := by
  obtain ⟨k, hk⟩ := hx
  obtain ⟨l, hl⟩ := hy
  have h1 : Plain.itr f ((l + 1) * (k + 1)) x = x := itr_mul hk _
  have h2 : Plain.itr f ((k + 1) * (l + 1)) y = y := itr_mul hl _
  have h3 : (l + 1) * (k + 1) = 1 + ((l + 1) * (k + 1) - 1) := by
    have : 0 < (l + 1) * (k + 1) := Nat.mul_pos (by omega) (by omega)
    omega
  have h4 : (k + 1) * (l + 1) = 1 + ((l + 1) * (k + 1) - 1) := by rw [Nat.mul_comm]; exact h3
  rw [h3, itr_add] at h1
  rw [h4, itr_add] at h2
  have : Plain.itr f 1 x = Plain.itr f 1 y := h
  rw [← h1, ← h2, this]
theorem mem_round {f : Nat → Nat} {L : List Nat} {n : Nat} (hc : Closed f L) (hn : L.length ≤ n) (hL : ∀ x ∈ L, x < n) {x : Nat} : x ∈ (roundF f L n).flatten ↔ x ∈ L ∧ Cyc f x := by
  constructor
  · intro h
    refine ⟨roundF_sub hc hn hL x h, ?_⟩
    obtain ⟨r, hr, hx⟩ := List.mem_flatten.1 h
    obtain ⟨m, _, K, hF, _, rfl⟩ := (mem_roundF hc hn hL).1 hr
    obtain ⟨j, _, rfl⟩ := mem_orb.1 hx
    refine ⟨K - 1, ?_⟩
    have := hF.pos
    rw [show K - 1 + 1 = K by omega, ← itr_add, Nat.add_comm, itr_add, hF.back]
  · rintro ⟨hx, k, hk⟩
    obtain ⟨K, hF⟩ := exists_first (f := f) (m := x) (k := k + 1) (by omega) hk
    obtain ⟨m, hm, hmin⟩ := exists_min (orb f x K) (fun h => by
      have := congrArg List.length h
      rw [orb_length] at this
      have := hF.pos
      simp at *; omega)
    obtain ⟨s, hs, rfl⟩ := mem_orb.1 hm
    obtain ⟨j, hj⟩ := orb_back hF hm
    have hcm : Plain.itr f K (itr f s x) = itr f s x := by rw [← itr_add, Nat.add_comm, itr_add, hF.back]
    obtain ⟨K', hF'⟩ := exists_first (f := f) (m := itr f s x) (k := K) hF.pos hcm
    have hmL : itr f s x ∈ L := hc.itr hx s
    refine List.mem_flatten.2 ⟨orb f (itr f s x) K', (mem_roundF hc hn hL).2 ⟨itr f s x, hmL, K', hF', fun i hi => hmin _ (orb_iter hF hm i), rfl⟩, ?_⟩
    have : itr f j (itr f s x) ∈ orb f (itr f s x) K' := orb_iter hF' (mem_orb.2 ⟨0, hF'.pos, rfl⟩) j
    rwa [hj] at this
/-! ### the rounds -/
def lv (g : List Nat → Nat → Nat) (n : Nat) (L : List Nat) : Nat → List Nat
  | 0 => L
  | k + 1 => eraseAll (roundF (g (lv g n L k)) (lv g n L k) n).flatten (lv g n L k)
theorem lv_shift (g : List Nat → Nat → Nat) (n : Nat) (L : List Nat) : ∀ k, lv g n L (k + 1) = lv g n (eraseAll (roundF (g L) L n).flatten L) k
  | 0 => rfl
  | k + 1 => by rw [lv, lv_shift g n L k]; rfl
theorem lv_ok {g : List Nat → Nat → Nat} {n : Nat} {L : List Nat} (hd : L.Nodup) (hL : ∀ x ∈ L, x < n) : ∀ k, (lv g n L k).Nodup ∧ (∀ x ∈ lv g n L k, x < n) ∧ (lv g n L k).length ≤ n
  | 0 => ⟨hd, hL, le_of_nodup_lt hd hL⟩
  | k + 1 => by
    obtain ⟨h1, h2, _⟩ := lv_ok (g := g) hd hL k
    have h3 : (lv g n L (k + 1)).Nodup := eraseAll_nodup h1
    have h4 : ∀ x ∈ lv g n L (k + 1), x < n := fun x hx => h2 x ((eraseAll_sub _ _).subset hx)
    exact ⟨h3, h4, le_of_nodup_lt h3 h4⟩
theorem mem_lv_succ {g : List Nat → Nat → Nat} {n : Nat} {L : List Nat} (hg : ∀ L, Closed (g L) L) (hd : L.Nodup) (hL : ∀ x ∈ L, x < n) {k x : Nat} : x ∈ lv g n L (k + 1) ↔ x ∈ lv g n L k ∧ ¬ Cyc (g (lv g n L k)) x := by
  obtain ⟨h1, h2, h3⟩ := lv_ok (g := g) hd hL k
  rw [lv, mem_eraseAll h1, mem_round (hg _) h3 h2]
  constructor
  · rintro ⟨a, b⟩; exact ⟨a, fun c => b ⟨a, c⟩⟩
  · rintro ⟨a, b⟩; exact ⟨a, fun c => b c.2⟩
theorem lv_mono {g : List Nat → Nat → Nat} {n : Nat} {L : List Nat} {k : Nat} : ∀ {j : Nat}, k ≤ j → ∀ x ∈ lv g n L j, x ∈ lv g n L k
  | 0, h, x, hx => by obtain rfl : k = 0 := by omega
                      exact hx
  | j + 1, h, x, hx => by
    by_cases hk : k = j + 1
    · subst hk; exact hx
    · exact lv_mono (j := j) (by omega) x ((eraseAll_sub _ _).subset hx)
def Leaves (g : List Nat → Nat → Nat) (n : Nat) (L : List Nat) (k x : Nat) : Prop := x ∈ lv g n L k ∧ Cyc (g (lv g n L k)) x
theorem Leaves.unique {g : List Nat → Nat → Nat} {n : Nat} {L : List Nat} (hg : ∀ L, Closed (g L) L) (hd : L.Nodup) (hL : ∀ x ∈ L, x < n) {k j x : Nat} (h : Leaves g n L k x) (h' : Leaves g n L j x) : k = j := by
  have aux : ∀ {k j}, Leaves g n L k x → Leaves g n L j x → ¬ k < j := fun {k j} h h' hlt => ((mem_lv_succ hg hd hL).1 (lv_mono (show k + 1 ≤ j from hlt) x h'.1)).2 h.2
  have h1 := aux h h'
  have h2 := aux h' h
  omega
theorem lv_short {g : List Nat → Nat → Nat} {n : Nat} {L : List Nat} (hg : ∀ L, Closed (g L) L) (hd : L.Nodup) (hL : ∀ x ∈ L, x < n) : ∀ k, (lv g n L k).length + k ≤ L.length ∨ lv g n L k = []
  | 0 => .inl (Nat.le_refl _)
  | k + 1 => by
    obtain ⟨h1, h2, h3⟩ := lv_ok (g := g) hd hL k
    by_cases he : lv g n L k = []
    · right
      have := (eraseAll_sub (roundF (g (lv g n L k)) (lv g n L k) n).flatten (lv g n L k)).length_le
      have h0 : (lv g n L (k + 1)).length = 0 := by rw [he] at this; rw [lv, he]; simpa using this
      exact List.eq_nil_of_length_eq_zero h0
    · left
      have := round_lt (hg (lv g n L k)) h1 h2 he h3
      rcases lv_short hg hd hL k with h | h
      · show (eraseAll _ _).length + (k + 1) ≤ _; omega
      · exact absurd h he
theorem exists_leaves {g : List Nat → Nat → Nat} {n : Nat} {L : List Nat} (hg : ∀ L, Closed (g L) L) (hd : L.Nodup) (hL : ∀ x ∈ L, x < n) {x : Nat} (hx : x ∈ L) : ∃ k, k ≤ L.length ∧ Leaves g n L k x := by
  refine Classical.byContradiction fun hno => ?_
  have key : ∀ k, k ≤ L.length + 1 → x ∈ lv g n L k := by
    intro k
    induction k with
    | zero => intro _; exact hx
    | succ k ih => exact fun hk => (mem_lv_succ hg hd hL).2 ⟨ih (by omega), fun hc => hno ⟨k, by omega, ih (by omega), hc⟩⟩
  have h1 := key (L.length + 1) (Nat.le_refl _)
  rcases lv_short hg hd hL (L.length + 1) with h | h
  · omega
  · rw [h] at h1; cases h1
theorem Leaves.step {g : List Nat → Nat → Nat} {n : Nat} {L : List Nat} (hg : ∀ L, Closed (g L) L) {k x : Nat} (h : Leaves g n L k x) : Leaves g n L k (g (lv g n L k) x) := ⟨hg _ x h.1, h.2.step⟩
/-! ### rings, round by round -/
theorem mem_ringsF {g : List Nat → Nat → Nat} {n : Nat} (hg : ∀ L, Closed (g L) L) : ∀ {a : Nat} {L : List Nat}, L.Nodup → (∀ x ∈ L, x < n) → L.length ≤ a → ∀ r, r ∈ ringsF g n a L ↔ ∃ k, r ∈ roundF (g (lv g n L k)) (lv g n L k) n
  | 0, L, hd, hL, ha, r => by
    obtain rfl : L = [] := List.eq_nil_of_length_eq_zero (by omega)
    have h0 : ∀ k, lv g n [] k = [] := fun k => by
      induction k with
      | zero => rfl
      | succ k ih => rw [lv, ih]; exact List.eq_nil_of_length_eq_zero (by have := (eraseAll_sub (roundF (g []) [] n).flatten []).length_le; simpa using this)
    simp only [ringsF, List.not_mem_nil, false_iff, not_exists, h0]
    intro k h
    simp [roundF] at h
  | a + 1, L, hd, hL, ha, r => by
    rw [ringsF]
    split
    · rename_i h; subst h
      have h0 : ∀ k, lv g n [] k = [] := fun k => by
        induction k with
        | zero => rfl
        | succ k ih => rw [lv, ih]; exact List.eq_nil_of_length_eq_zero (by have := (eraseAll_sub (roundF (g []) [] n).flatten []).length_le; simpa using this)
      simp only [List.not_mem_nil, false_iff, not_exists, h0]
      intro k h
      simp [roundF] at h
    · rename_i hne
      have hlt := round_lt (hg L) hd hL hne (le_of_nodup_lt hd hL)
      rw [List.mem_append, mem_ringsF hg (eraseAll_nodup hd) (fun x hx => hL x ((eraseAll_sub _ _).subset hx)) (by omega)]
      constructor
      · rintro (h | ⟨k, h⟩)
        · exact ⟨0, h⟩
        · exact ⟨k + 1, by rw [lv_shift]; exact h⟩
      · rintro ⟨k, h⟩
        cases k with
        | zero => exact .inl h
        | succ k => exact .inr ⟨k, by rw [lv_shift] at h; exact h⟩
theorem ringsF_nodup {g : List Nat → Nat → Nat} {n : Nat} (hg : ∀ L, Closed (g L) L) : ∀ {a : Nat} {L : List Nat}, L.Nodup → (∀ x ∈ L, x < n) → (ringsF g n a L).flatten.Nodup ∧ ∀ x ∈ (ringsF g n a L).flatten, x ∈ L
  | 0, L, _, _ => by simp [ringsF]
  | a + 1, L, hd, hL => by
    rw [ringsF]
    split
    · simp
    · have hd' : (eraseAll (roundF (g L) L n).flatten L).Nodup := eraseAll_nodup hd
      have hL' : ∀ x ∈ eraseAll (roundF (g L) L n).flatten L, x < n := fun x hx => hL x ((eraseAll_sub _ _).subset hx)
      obtain ⟨h1, h2⟩ := ringsF_nodup hg (a := a) hd' hL'
      rw [List.flatten_append]
      refine ⟨List.nodup_append.2 ⟨roundF_nodup (hg L) (le_of_nodup_lt hd hL) hL, h1, fun x hx y hy hxy => ?_⟩, fun x hx => ?_⟩
      · subst hxy
        exact ((mem_eraseAll hd).1 (h2 x hy)).2 hx
      · rcases List.mem_append.1 hx with h | h
        · exact roundF_sub (hg L) (le_of_nodup_lt hd hL) hL x h
        · exact (eraseAll_sub _ _).subset (h2 x h)
theorem ring_next {f : Nat → Nat} {m : Nat} {r : List Nat} (h : IsRing f m r) {k : Nat} (hk : k < r.length) : r[(k + 1) % r.length]'(Nat.mod_lt _ (by omega)) = f r[k] := by
  obtain ⟨K, hF, _, rfl⟩ := h
  rw [orb_length] at hk
  simp only [orb, List.length_map, List.length_range, List.getElem_map, List.getElem_range]
  by_cases hlast : k + 1 = K
  · subst hlast
    rw [Nat.mod_self]
    exact hF.back.symm
  · rw [Nat.mod_eq_of_lt (by omega)]
    rfl
theorem ring_least {f : Nat → Nat} {m : Nat} {r : List Nat} (h : IsRing f m r) {k : Nat} (hk : k < r.length) : r[0]'(by omega) ≤ r[k] := by
  obtain ⟨K, hF, hmin, rfl⟩ := h
  rw [orb_length] at hk
  simp only [orb, List.getElem_map, List.getElem_range]
  exact hmin k hk
end Go.Plain
