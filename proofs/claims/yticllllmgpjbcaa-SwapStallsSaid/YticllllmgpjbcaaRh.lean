/- Swaps: rings that please, lists told otherwise, other orders, fewer traders (plain). -/
import Derived.Test.YticllllmgpjbcaaRg
namespace Go.Sim.W6
open Go.Proofs Go.Plain
set_option linter.unusedSimpArgs false
/-! ### rings that please -/
theorem firstNE_some {g : Nat → List Nat} : ∀ {l : List Nat}, firstNE g l ≠ [] → ∃ x ∈ l, firstNE g l = g x ∧ g x ≠ []
  | [], h => absurd rfl h
  | x :: xs, h => by
    rw [firstNE] at h ⊢
    by_cases hx : g x = []
    · rw [if_pos hx] at h ⊢
      obtain ⟨y, hy, e⟩ := firstNE_some h
      exact ⟨y, List.mem_cons_of_mem _ hy, e⟩
    · rw [if_neg hx]; exact ⟨x, by simp, rfl, hx⟩
theorem rple_found {P : List Nat → Bool} {n many : Nat} : ∀ (f : Nat) (l : List Nat), (∀ y ∈ l, y < n ∧ nth l 0 ≤ y) → rple P n many f l ≠ [] → P (rple P n many f l) = true ∧ ∀ y ∈ rple P n many f l, y < n ∧ nth (rple P n many f l) 0 ≤ y
  | 0, l, _, h => absurd rfl h
  | f + 1, l, hl, h => by
    rw [rple] at h ⊢
    by_cases hm : l.length = many
    · rw [if_pos hm] at h ⊢
      by_cases hP : P l = true
      · rw [if_pos hP]; exact ⟨hP, hl⟩
      · rw [if_neg hP] at h; exact absurd rfl h
    · rw [if_neg hm] at h ⊢
      obtain ⟨x, hx, e, hne⟩ := firstNE_some h
      rw [e]
      by_cases hc : l ≠ [] ∧ (x ≤ nth l 0 ∨ x ∈ l)
      · rw [if_pos hc] at hne; exact absurd rfl hne
      · rw [if_neg hc] at hne ⊢
        rw [List.mem_range'_1] at hx
        refine rple_found f (l ++ [x]) (fun y hy => ?_) hne
        by_cases hnil : l = []
        · subst hnil
          obtain rfl := List.mem_singleton.1 hy
          exact ⟨by omega, Nat.le_refl _⟩
        · have h0 : nth (l ++ [x]) 0 = nth l 0 := nth_app (List.length_pos_iff.2 hnil)
          rw [h0]
          rcases List.mem_append.1 hy with hy | hy
          · exact hl y hy
          · obtain rfl := List.mem_singleton.1 hy
            exact ⟨by omega, Nat.le_of_lt (Nat.lt_of_not_le fun h => hc ⟨hnil, .inl h⟩)⟩
theorem pleaseT_ok {ow : List Turn} {lk : List (List Turn)} {held : List Turn} (hne : pleaseT ow lk held ≠ []) : plzR ow lk held (pleaseT ow lk held) = true ∧ ∀ y ∈ pleaseT ow lk held, y < ow.length ∧ nth (pleaseT ow lk held) 0 ≤ y := by
  by_cases h0 : heldT ow lk held = 0
  · obtain ⟨hv, _⟩ := heldT_valid h0
    rw [pleaseT, if_pos h0, pleaseL] at hne ⊢
    obtain ⟨m, hm, e, hme⟩ := firstNE_some hne
    rw [e]
    rw [List.mem_range'_1] at hm
    rw [← rple_pleaseM hv hm.1] at hme ⊢
    exact rple_found _ [] (by simp) hme
  · rw [pleaseT, if_neg h0] at hne; exact absurd rfl hne
theorem swap_unpleased {ow : List Turn} {lk : List (List Turn)} (hv : ValidT ow lk) : pleaseT ow lk (swapT ow lk) = [] := by
  refine Classical.byContradiction fun hne => ?_
  obtain ⟨h1, h2⟩ := pleaseT_ok hne
  obtain ⟨l, hl⟩ : ∃ l, l = pleaseT ow lk (swapT ow lk) := ⟨_, rfl⟩
  rw [← hl] at h1 h2 hne
  obtain ⟨h3, h4⟩ := plz_all.1 h1
  have key : ∀ r i, i < l.length → ¬ LVS ow lk r (nth l i) := by
    intro r
    induction r using Nat.strongRecOn with
    | _ r ih =>
      intro i hi hr
      have hn : (i + 1) % l.length < l.length := Nat.mod_lt _ (by omega)
      obtain ⟨r', hr'⟩ := exists_LVS ow lk (h2 _ (nth_mem hn)).1
      have hw := (h3 i hi).2
      rw [wantsR, decide_eq_true_eq, nth_swap hv hr', nth_swap hv hr] at hw
      by_cases hlt : r' < r
      · exact ih r' hlt _ hn hr'
      · have hp := Plain.Leaves.step (ptF_closed ow lk) hr'
        have hb := (best_of hv hr).le _ (lv_mono (show r ≤ r' by omega) _ hp.1)
        exact Nat.lt_irrefl _ (Nat.lt_of_lt_of_le (Nat.lt_of_lt_of_le hw (Nat.min_le_right _ _)) hb)
  obtain ⟨r, hr⟩ := exists_LVS ow lk (h2 _ (nth_mem (i := 0) (by omega))).1
  exact key r 0 (by omega) hr
theorem sum_le {f : Nat → Nat} {b : Nat} : ∀ {L : List Nat}, (∀ x ∈ L, f x ≤ b) → (L.map f).sum ≤ b * L.length
  | [], _ => by simp
  | x :: L, h => by
    have h1 := h x (by simp)
    have h2 := sum_le (L := L) fun y hy => h y (List.mem_cons_of_mem _ hy)
    simp only [List.map_cons, List.sum_cons, List.length_cons, Nat.mul_succ]; omega
end Go.Sim.W6
