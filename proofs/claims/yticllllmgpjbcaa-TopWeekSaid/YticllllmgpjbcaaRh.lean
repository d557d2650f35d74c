/- Swaps: rings that please, lists told otherwise, other orders, fewer traders (plain). -/
import Derived.Test.YticllllmgpjbcaaRg
namespace Go.Sim.W6
open Go.Proofs Go.Plain
set_option linter.unusedSimpArgs false
/-! ### rings that please -/
theorem firstNE_some {g : Nat → List Nat} : ∀ {l : List Nat}, firstNE g l ≠ [] → ∃ x ∈ l, firstNE g l = g x ∧ g x ≠ []
  | [], h => absurd rfl h
  | x :: xs, h => by
    rw [firstNE] at h ⊢
    by_cases hx : g x = []
    · rw [if_pos hx] at h ⊢
      obtain ⟨y, hy, e⟩ := firstNE_some h
      exact ⟨y, List.mem_cons_of_mem _ hy, e⟩
    · rw [if_neg hx]; exact ⟨x, by simp, rfl, hx⟩
theorem rple_found {P : List Nat → Bool} {n many : Nat} : ∀ (f : Nat) (l : List Nat), (∀ y ∈ l, y < n ∧ nth l 0 ≤ y) → rple P n many f l ≠ [] → P (rple P n many f l) = true ∧ ∀ y ∈ rple P n many f l, y < n ∧ nth (rple P n many f l) 0 ≤ y
  | 0, l, _, h => absurd rfl h
  | f + 1, l, hl, h => by
    rw [rple] at h ⊢
    by_cases hm : l.length = many
    · rw [if_pos hm] at h ⊢
      by_cases hP : P l = true
      · rw [if_pos hP]; exact ⟨hP, hl⟩
      · rw [if_neg hP] at h; exact absurd rfl h
    · rw [if_neg hm] at h ⊢
      obtain ⟨x, hx, e, hne⟩ := firstNE_some h
      rw [e]
      by_cases hc : l ≠ [] ∧ (x ≤ nth l 0 ∨ x ∈ l)
      · rw [if_pos hc] at hne; exact absurd rfl hne
      · rw [if_neg hc] at hne ⊢
        rw [List.mem_range'_1] at hx
        refine rple_found f (l ++ [x]) (fun y hy => ?_) hne
        by_cases hnil : l = []
        · subst hnil
          obtain rfl := List.mem_singleton.1 hy
          exact ⟨by omega, Nat.le_refl _⟩
        · have h0 : nth (l ++ [x]) 0 = nth l 0 := nth_app (List.length_pos_iff.2 hnil)
          rw [h0]
          rcases List.mem_append.1 hy with hy | hy
          · exact hl y hy
          · obtain rfl := List.mem_singleton.1 hy
            exact ⟨by omega, Nat.le_of_lt (Nat.lt_of_not_le fun h => hc ⟨hnil, .inl h⟩)⟩
theorem pleaseT_ok {ow : List Turn} {lk : List (List Turn)} {held : List Turn} (hne : pleaseT ow lk held ≠ []) : plzR ow lk held (pleaseT ow lk held) = true ∧ ∀ y ∈ pleaseT ow lk held, y < ow.length ∧ nth (pleaseT ow lk held) 0 ≤ y := by
  by_cases h0 : heldT ow lk held = 0
  · obtain ⟨hv, _⟩ := heldT_valid h0
    rw [pleaseT, if_pos h0, pleaseL] at hne ⊢
    obtain ⟨m, hm, e, hme⟩ := firstNE_some hne
    rw [e]
    rw [List.mem_range'_1] at hm
    rw [← rple_pleaseM hv hm.1] at hme ⊢
    exact rple_found _ [] (by simp) hme
  · rw [pleaseT, if_neg h0] at hne; exact absurd rfl hne
theorem swap_unpleased {ow : List Turn} {lk : List (List Turn)} (hv : ValidT ow lk) : pleaseT ow lk (swapT ow lk) = [] := by
  refine Classical.byContradiction fun hne => ?_
  obtain ⟨h1, h2⟩ := pleaseT_ok hne
  obtain ⟨l, hl⟩ : ∃ l, l = pleaseT ow lk (swapT ow lk) := ⟨_, rfl⟩
  rw [← hl] at h1 h2 hne
  obtain ⟨h3, h4⟩ := plz_all.1 h1
  have key : ∀ r i, i < l.length → ¬ LVS ow lk r (nth l i) := by
    intro r
    induction r using Nat.strongRecOn with
    | _ r ih =>
      intro i hi hr
      have hn : (i + 1) % l.length < l.length := Nat.mod_lt _ (by omega)
      obtain ⟨r', hr'⟩ := exists_LVS ow lk (h2 _ (nth_mem hn)).1
      have hw := (h3 i hi).2
      rw [wantsR, decide_eq_true_eq, nth_swap hv hr', nth_swap hv hr] at hw
      by_cases hlt : r' < r
      · exact ih r' hlt _ hn hr'
      · have hp := Plain.Leaves.step (ptF_closed ow lk) hr'
        have hb := (best_of hv hr).le _ (lv_mono (show r ≤ r' by omega) _ hp.1)
        exact Nat.lt_irrefl _ (Nat.lt_of_lt_of_le (Nat.lt_of_lt_of_le hw (Nat.min_le_right _ _)) hb)
  obtain ⟨r, hr⟩ := exists_LVS ow lk (h2 _ (nth_mem (i := 0) (by omega))).1
  exact key r 0 (by omega) hr
theorem sum_le {f : Nat → Nat} {b : Nat} : ∀ {L : List Nat}, (∀ x ∈ L, f x ≤ b) → (L.map f).sum ≤ b * L.length
  | [], _ => by simp
  | x :: L, h => by
    have h1 := h x (by simp)
    have h2 := sum_le (L := L) fun y hy => h y (List.mem_cons_of_mem _ hy)
    simp only [List.map_cons, List.sum_cons, List.length_cons, Nat.mul_succ]; omega
/-! ### fewer traders, in another order -/
theorem sub_swap {ow ow' : List Turn} {lk lk' : List (List Turn)} {held : List Turn} (hv : ValidT ow lk) (hv' : ValidT ow' lk') (φ : Nat → Nat) (hφ : ∀ i, i < ow'.length → φ i < ow.length ∧ nth ow' i = nth ow (φ i) ∧ nth lk' i = nth lk (φ i)) (hl : held.length = ow'.length)
    (hh : ∀ i, i < ow'.length → nth held i = nth (swapT ow lk) (φ i) ∧ nth held i ∈ ow') : held = swapT ow' lk' := by
  have hinj : ∀ {i j}, i < ow'.length → j < ow'.length → φ i = φ j → i = j := fun {i j} hi hj h => by
    refine nth_injT hv'.owns.1 hi hj ?_
    rw [(hφ i hi).2.1, (hφ j hj).2.1, h]
  have h0 : heldT ow' lk' held = 0 := by
    refine (heldT_zero hv').2 ⟨hl, ?_, fun x hx => ?_⟩
    · refine nodup_of_inj fun i j hij hj h => ?_
      have e : nth held i = nth held j := by
        rw [nth_get (by omega), nth_get hj]
        rw [List.getElem?_eq_getElem (by omega), List.getElem?_eq_getElem hj] at h
        exact Option.some.inj h
      rw [(hh i (by omega)).1, (hh j (by omega)).1] at e
      have := hinj (by omega) (by omega) (swap_inj hv (hφ i (by omega)).1 (hφ j (by omega)).1 e)
      omega
    · obtain ⟨i, hi, rfl⟩ := List.mem_iff_getElem.1 hx
      rw [← nth_get hi]; exact (hh i (by omega)).2
  have htk : ∀ i, i < ow'.length → takesT ow' lk' i = takesT ow lk (φ i) := fun i hi => by rw [takesT, takesT, (hφ i hi).2.1, (hφ i hi).2.2]
  refine Classical.byContradiction fun hne => ?_
  obtain ⟨g, _, h2, h3, h4, _⟩ := (blocksT_ne h0).1 (other_blocked hv' h0 hne)
  have hgd : g.Nodup := h3.imp fun h => Nat.ne_of_lt h
  obtain ⟨s, s1, s2, s3, s4, k0, hk0, hgain⟩ := (blockG_spec hv' h2).1 h4
  have hgk : ∀ k, k < g.length → nth g k < ow'.length := fun k h => h2 _ (nth_mem h)
  have hsk : ∀ k, k < g.length → nth s k < ow'.length := fun k h => h2 _ (s3 _ (nth_mem (by omega)))
  have hmap : ∀ (l : List Nat) k, k < l.length → nth (l.map φ) k = φ (nth l k) := fun l k h => by rw [nth_get (by simpa using h), nth_get h]; simp
  have hndm : ∀ l : List Nat, l.Nodup → (∀ y ∈ l, y < ow'.length) → (l.map φ).Nodup := fun l hl hlt => by
    refine nodup_of_inj fun i j hij hj h => ?_
    rw [List.length_map] at hj
    rw [List.getElem?_map, List.getElem?_map, List.getElem?_eq_getElem (by omega), List.getElem?_eq_getElem hj] at h
    have := (nodup_inj hl).1 (hinj (hlt _ (List.getElem_mem _)) (hlt _ (List.getElem_mem _)) (Option.some.inj h))
    omega
  have hgm : ∀ y ∈ g.map φ, y < ow.length := fun y hy => by
    obtain ⟨x, hx, rfl⟩ := List.mem_map.1 hy
    exact (hφ x (h2 x hx)).1
  have hb : blockG ow lk (swapT ow lk) (g.map φ) = true := by
    refine (blockG_spec hv hgm).2 ⟨s.map φ, by simp [s1], hndm s s2 (fun y hy => h2 _ (s3 y hy)), fun o ho => ?_, fun k hk => ?_, k0, by simpa using hk0, ?_⟩
    · obtain ⟨x, hx, rfl⟩ := List.mem_map.1 ho
      exact List.mem_map.2 ⟨x, s3 x hx, rfl⟩
    · rw [List.length_map] at hk
      have a := s4 k hk
      rw [hmap g k hk, hmap s k (by omega), rkR, rkR, ← htk _ (hgk k hk), ← (hφ _ (hsk k hk)).2.1, ← (hh _ (hgk k hk)).1]
      exact a
    · rw [hmap g k0 hk0, hmap s k0 (by omega), rkR, rkR, ← htk _ (hgk k0 hk0), ← (hφ _ (hsk k0 hk0)).2.1, ← (hh _ (hgk k0 hk0)).1]
      exact hgain
  rw [core hv hgm (hndm g hgd h2)] at hb
  cases hb
end Go.Sim.W6
