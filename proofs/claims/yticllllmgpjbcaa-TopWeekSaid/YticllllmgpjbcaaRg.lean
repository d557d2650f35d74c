/- No group blocks the swap, and some group blocks whatever else is held (plain). -/
import Derived.Test.YticllllmgpjbcaaRf
namespace Go.Sim.W6
open Go.Proofs Go.Plain
set_option linter.unusedSimpArgs false
set_option linter.unusedVariables false
theorem nth_append_at (l : List Nat) (x : Nat) (r : List Nat) : nth (l ++ x :: r) l.length = x := by rw [nth_get (by simp)]; simp
theorem rblk_spec {ow : List Turn} {lk : List (List Turn)} {held : List Turn} {g : List Nat} : ∀ (f : Nat) (gv : List Nat) (better : Bool), gv.length ≤ g.length → g.length < f + gv.length → gv.Nodup →
    (rblk ow lk held g f gv better = true ↔ ∃ s : List Nat, (gv ++ s).length = g.length ∧ (gv ++ s).Nodup ∧ (∀ o ∈ s, o ∈ g) ∧
      (∀ k, gv.length ≤ k → k < g.length → rkR ow lk (nth g k) (nth ow (nth (gv ++ s) k)) < (takesT ow lk (nth g k)).length ∧ rkR ow lk (nth g k) (nth ow (nth (gv ++ s) k)) ≤ rkR ow lk (nth g k) (nth held (nth g k))) ∧
      (better = true ∨ ∃ k, gv.length ≤ k ∧ k < g.length ∧ rkR ow lk (nth g k) (nth ow (nth (gv ++ s) k)) < rkR ow lk (nth g k) (nth held (nth g k))))
  | 0, gv, better, h1, h2, _ => by omega
  | f + 1, gv, better, h1, h2, hd => by
    rw [rblk]
    by_cases hl : gv.length = g.length
    · rw [if_pos hl]
      constructor
      · intro hb
        exact ⟨[], by simpa using hl, by simpa using hd, by simp, fun k a b => by omega, .inl hb⟩
      · rintro ⟨s, _, _, _, _, h | ⟨k, a, b, _⟩⟩
        · exact h
        · omega
    · rw [if_neg hl, List.any_eq_true]
      have hlt : gv.length < g.length := by omega
      constructor
      · rintro ⟨o, ho, h⟩
        simp only [Bool.and_eq_true, Bool.not_eq_true', decide_eq_true_eq, decide_eq_false_iff_not] at h
        obtain ⟨⟨⟨hno, hc1⟩, hc2⟩, hr⟩ := h
        have hd' : (gv ++ [o]).Nodup := List.nodup_append.2 ⟨hd, by simp, fun a ha b hb => by obtain rfl := List.mem_singleton.1 hb; rintro rfl; exact hno ha⟩
        obtain ⟨s, s1, s2, s3, s4, s5⟩ := (rblk_spec f (gv ++ [o]) _ (by simp; omega) (by simp; omega) hd').1 hr
        rw [List.append_assoc, List.singleton_append] at s1 s2
        simp only [List.append_assoc, List.singleton_append, List.length_append, List.length_singleton] at s4 s5
        refine ⟨o :: s, s1, s2, fun x hx => ?_, fun k a b => ?_, ?_⟩
        · rcases List.mem_cons.1 hx with rfl | hx
          · exact ho
          · exact s3 x hx
        · by_cases hk : k = gv.length
          · subst hk; rw [nth_append_at]; exact ⟨hc1, hc2⟩
          · exact s4 k (by omega) b
        · rcases s5 with h | ⟨k, a, b, c⟩
          · rcases Bool.or_eq_true_iff.1 h with h | h
            · exact .inl h
            · exact .inr ⟨gv.length, Nat.le_refl _, hlt, by rw [nth_append_at]; simpa using h⟩
          · exact .inr ⟨k, by omega, b, c⟩
      · rintro ⟨s, s1, s2, s3, s4, s5⟩
        cases s with
        | nil => simp at s1; omega
        | cons o s =>
          have hno : o ∉ gv := fun h => (List.nodup_append.1 s2).2.2 o h o (by simp) rfl
          refine ⟨o, s3 o (by simp), ?_⟩
          have h0 := s4 gv.length (Nat.le_refl _) hlt
          rw [nth_append_at] at h0
          have hd' : (gv ++ [o]).Nodup := List.nodup_append.2 ⟨hd, by simp, fun a ha b hb => by obtain rfl := List.mem_singleton.1 hb; rintro rfl; exact hno ha⟩
          have e : gv ++ [o] ++ s = gv ++ o :: s := by simp
          have hr := (rblk_spec (ow := ow) (lk := lk) (held := held) (g := g) f (gv ++ [o]) (better || decide (rkR ow lk (nth g gv.length) (nth ow o) < rkR ow lk (nth g gv.length) (nth held (nth g gv.length)))) (by simp; omega) (by simp; omega) hd').2
            ⟨s, by rw [e]; exact s1, by rw [e]; exact s2, fun x hx => s3 x (List.mem_cons_of_mem _ hx), fun k a b => by rw [e]; exact s4 k (by simp at a; omega) b, by
              rcases s5 with h | ⟨k, a, b, c⟩
              · exact .inl (by rw [h]; rfl)
              · by_cases hk : k = gv.length
                · subst hk; rw [nth_append_at] at c; exact .inl (by rw [decide_eq_true c, Bool.or_true])
                · exact .inr ⟨k, by simp; omega, b, by rw [e]; exact c⟩⟩
          simp only [Bool.and_eq_true, Bool.not_eq_true', decide_eq_true_eq, decide_eq_false_iff_not]
          exact ⟨⟨⟨hno, h0.1⟩, h0.2⟩, hr⟩
theorem blockG_spec {ow : List Turn} {lk : List (List Turn)} {held : List Turn} (hv : ValidT ow lk) {g : List Nat} (hg : ∀ y ∈ g, y < ow.length) : blockG ow lk held g = true ↔ ∃ s : List Nat, s.length = g.length ∧ s.Nodup ∧ (∀ o ∈ s, o ∈ g) ∧
      (∀ k, k < g.length → rkR ow lk (nth g k) (nth ow (nth s k)) < (takesT ow lk (nth g k)).length ∧ rkR ow lk (nth g k) (nth ow (nth s k)) ≤ rkR ow lk (nth g k) (nth held (nth g k))) ∧
      ∃ k, k < g.length ∧ rkR ow lk (nth g k) (nth ow (nth s k)) < rkR ow lk (nth g k) (nth held (nth g k)) := by
  rw [← rblkG_eq hv hg, rblkG, rblk_spec (g.length + 1) [] false (by simp) (by simp) List.nodup_nil]
  simp
theorem core {ow : List Turn} {lk : List (List Turn)} (hv : ValidT ow lk) {g : List Nat} (hg : ∀ y ∈ g, y < ow.length) (hgd : g.Nodup) : blockG ow lk (swapT ow lk) g = false := by
  rw [Bool.eq_false_iff, Ne, blockG_spec hv hg]
  rintro ⟨s, s1, s2, s3, s4, k0, hk0, hgain⟩
  have hgk : ∀ k, k < g.length → nth g k ∈ g := fun k h => nth_mem h
  have hsk : ∀ k, k < g.length → nth s k ∈ g := fun k h => s3 _ (nth_mem (by omega))
  have key : ∀ r, ∀ k, k < g.length → LVS ow lk r (nth g k) → nth s k = ptF ow lk (LV ow lk r) (nth g k) := by
    intro r
    induction r using Nat.strongRecOn with
    | _ r ih =>
      intro k hk hl
      have b := best_of hv hl
      have hc := (s4 k hk).2
      rw [nth_swap hv hl] at hc
      by_cases ho : nth s k ∈ LV ow lk r
      · exact b.uniq _ ho hc
      · exfalso
        have hon : nth s k < ow.length := hg _ (hsk k hk)
        obtain ⟨r', hr'⟩ := exists_LVS ow lk hon
        have hlt : r' < r := by
          refine Classical.byContradiction fun h => ho (lv_mono (show r ≤ r' by omega) _ hr'.1)
        have hin : ∀ j, itr (ptF ow lk (LV ow lk r')) j (nth s k) ∈ g ∧ LVS ow lk r' (itr (ptF ow lk (LV ow lk r')) j (nth s k)) := by
          intro j
          induction j with
          | zero => exact ⟨hsk k hk, hr'⟩
          | succ j ihj =>
            refine ⟨?_, Plain.Leaves.step (ptF_closed ow lk) ihj.2⟩
            obtain ⟨k', hk', e⟩ := List.mem_iff_getElem.1 ihj.1
            have e' : nth g k' = itr (ptF ow lk (LV ow lk r')) j (nth s k) := by rw [nth_get hk', e]
            have := ih r' hlt k' hk' (by rw [e']; exact ihj.2)
            rw [e'] at this
            show ptF ow lk (LV ow lk r') (itr (ptF ow lk (LV ow lk r')) j (nth s k)) ∈ g
            rw [← this]; exact hsk k' hk'
        obtain ⟨p, hp1, hp2, j, hpj⟩ := hr'.2.pred
        have hpg := hin j
        rw [← hpj] at hpg
        obtain ⟨k', hk', e⟩ := List.mem_iff_getElem.1 hpg.1
        have e' : nth g k' = p := by rw [nth_get hk', e]
        have h1 := ih r' hlt k' hk' (by rw [e']; exact hpg.2)
        rw [e', hp1] at h1
        have hkk : k' = k := by
          rw [nth_get (by omega), nth_get (by omega)] at h1
          exact (nodup_inj s2).1 h1
        subst hkk
        rw [e'] at hl
        have := LVS_unique hl hpg.2
        omega
  obtain ⟨r, hr⟩ := exists_LVS ow lk (hg _ (hgk k0 hk0))
  rw [key r k0 hk0 hr, nth_swap hv hr] at hgain
  omega
/-! ### whatever else is held is blocked -/
theorem filter_cho (n : Nat) (p : Nat → Bool) : ∀ (d i : Nat), n - i = d → (List.range' i (n - i)).filter p ∈ cho n ((List.range' i (n - i)).filter p).length i
  | 0, i, h => by rw [h]; simp [cho]
  | d + 1, i, h => by
    have ih := filter_cho n p d (i + 1) (by omega)
    rw [range'_next (by omega)]
    rw [List.filter_cons]
    split
    · rw [List.length_cons, cho, List.mem_flatMap]
      exact ⟨i, by rw [List.mem_range'_1]; omega, List.mem_map.2 ⟨_, ih, rfl⟩⟩
    · cases hm : ((List.range' (i + 1) (n - (i + 1))).filter p).length with
      | zero => rw [List.eq_nil_of_length_eq_zero hm]; simp [cho]
      | succ m =>
        rw [hm, cho, List.mem_flatMap] at ih
        obtain ⟨j, hj, h2⟩ := ih
        rw [cho, List.mem_flatMap]
        exact ⟨j, by rw [List.mem_range'_1] at hj ⊢; omega, h2⟩
theorem cho_nodup {n : Nat} : ∀ {m i : Nat} {l : List Nat}, l ∈ cho n m i → l.Pairwise (· < ·)
  | 0, i, l, h => by simp [cho] at h; subst h; exact List.Pairwise.nil
  | m + 1, i, l, h => by
    simp only [cho, List.mem_flatMap, List.mem_map, List.mem_range'_1] at h
    obtain ⟨j, hj, r, hr, rfl⟩ := h
    exact List.pairwise_cons.2 ⟨fun y hy => by have := (cho_len hr).2 y hy; omega, cho_nodup hr⟩
theorem blocksT_ne {ow : List Turn} {lk : List (List Turn)} {held : List Turn} (h0 : heldT ow lk held = 0) : blocksT ow lk held ≠ [] ↔ ∃ g, g ≠ [] ∧ (∀ y ∈ g, y < ow.length) ∧ g.Pairwise (· < ·) ∧ blockG ow lk held g = true ∧ g ∈ cho ow.length g.length 0 := by
  have h1 : blocksT ow lk held = ((List.range' 1 (ow.length + 1 - 1)).findSome? fun many => (cho ow.length many 0).find? (blockG ow lk held)).getD [] := by
    rw [blocksT, if_pos h0, blockL]; simp only [foundG_cho]
  rw [h1]
  constructor
  · intro h
    cases hf : (List.range' 1 (ow.length + 1 - 1)).findSome? fun many => (cho ow.length many 0).find? (blockG ow lk held) with
    | none => rw [hf] at h; exact absurd rfl h
    | some g =>
      obtain ⟨many, hm, hg⟩ := List.exists_of_findSome?_eq_some hf
      have hmem := List.mem_of_find?_eq_some hg
      obtain ⟨q1, q2⟩ := cho_len hmem
      rw [List.mem_range'_1] at hm
      exact ⟨g, fun e => by subst e; simp at q1; omega, fun y hy => (q2 y hy).2, cho_nodup hmem, List.find?_some hg, by rw [q1]; exact hmem⟩
  · rintro ⟨g, hne, hlt, hp, hb, hmem⟩
    intro hnil
    have hle : g.length ≤ ow.length := le_of_nodup_lt (hp.imp fun h => Nat.ne_of_lt h) hlt
    have hpos := List.length_pos_iff.2 hne
    cases hf : (List.range' 1 (ow.length + 1 - 1)).findSome? fun many => (cho ow.length many 0).find? (blockG ow lk held) with
    | none =>
      have := List.findSome?_eq_none_iff.1 hf g.length (by rw [List.mem_range'_1]; omega)
      exact absurd hb (by simpa using List.find?_eq_none.1 this g hmem)
    | some g' =>
      rw [hf] at hnil
      obtain ⟨many, hm, hg⟩ := List.exists_of_findSome?_eq_some hf
      obtain ⟨q1, _⟩ := cho_len (List.mem_of_find?_eq_some hg)
      rw [List.mem_range'_1] at hm
      rw [show g' = [] from hnil] at q1; simp at q1; omega
theorem chkH_zero {ow : List Turn} : ∀ {r done : List Turn}, done.Nodup → (chkH ow done r = 0 ↔ (∀ x ∈ r, x ∈ ow) ∧ (done ++ r).Nodup)
  | [], done, hd => by simp [chkH, hd]
  | x :: r, done, hd => by
    rw [chkH]
    by_cases h1 : x ∈ ow
    · rw [if_neg (fun h => h h1)]
      by_cases h2 : x ∈ done
      · rw [if_pos h2]
        constructor
        · intro h; cases h
        · rintro ⟨_, h⟩; exact absurd rfl ((List.nodup_append.1 h).2.2 x h2 x (by simp))
      · rw [if_neg h2]
        have hd' : (done ++ [x]).Nodup := List.nodup_append.2 ⟨hd, by simp, fun a ha b hb => by obtain rfl := List.mem_singleton.1 hb; rintro rfl; exact h2 ha⟩
        rw [chkH_zero hd', List.append_assoc, List.singleton_append]
        simp [h1]
    · rw [if_pos h1]
      constructor
      · intro h; cases h
      · rintro ⟨h, _⟩; exact absurd (h x (by simp)) h1
theorem heldT_zero {ow : List Turn} {lk : List (List Turn)} {held : List Turn} (hv : ValidT ow lk) : heldT ow lk held = 0 ↔ held.length = ow.length ∧ held.Nodup ∧ ∀ x ∈ held, x ∈ ow := by
  rw [heldT, if_neg (by rw [checkT_zero.2 hv]; simp)]
  by_cases h : held.length = ow.length
  · rw [if_neg (fun h' => h' h), chkH_zero List.nodup_nil]; simp [h, and_comm]
  · rw [if_pos h]
    constructor
    · intro h'; cases h'
    · rintro ⟨h', _⟩; exact absurd h' h
theorem swap_held {ow : List Turn} {lk : List (List Turn)} (hv : ValidT ow lk) : heldT ow lk (swapT ow lk) = 0 := by
  rw [heldT_zero hv]
  refine ⟨swap_length hv, swap_nodup hv, fun x hx => ?_⟩
  obtain ⟨i, hi, rfl⟩ := List.mem_iff_getElem.1 hx
  have := (swap_mem hv (x := i) (by rw [swap_length hv] at hi; exact hi)).1
  rwa [nth_get hi] at this
theorem swap_unblocked {ow : List Turn} {lk : List (List Turn)} (hv : ValidT ow lk) : blocksT ow lk (swapT ow lk) = [] := by
  refine Classical.byContradiction fun h => ?_
  obtain ⟨g, _, h2, h3, h4, _⟩ := (blocksT_ne (swap_held hv)).1 h
  rw [core hv h2 (h3.imp fun h => Nat.ne_of_lt h)] at h4
  cases h4
theorem first_differs {ow : List Turn} {lk : List (List Turn)} {held : List Turn} (hl : held.length = ow.length) (hv : ValidT ow lk) (hne : held ≠ swapT ow lk) : ∃ r x, LVS ow lk r x ∧ nth held x ≠ nth (swapT ow lk) x ∧ ∀ r' y, r' < r → LVS ow lk r' y → nth held y = nth (swapT ow lk) y := by
  have hex : ∃ x, x < ow.length ∧ nth held x ≠ nth (swapT ow lk) x := by
    refine Classical.byContradiction fun h => hne ?_
    refine List.ext_getElem (by rw [hl, swap_length hv]) fun i h1 h2 => ?_
    have := Classical.byContradiction fun h' => h ⟨i, by omega, h'⟩
    rwa [nth_get h1, nth_get h2] at this
  obtain ⟨x, hx, hd⟩ := hex
  obtain ⟨r, hr⟩ := exists_LVS ow lk hx
  induction r using Nat.strongRecOn generalizing x with
  | _ r ih =>
    by_cases h : ∃ r' y, r' < r ∧ LVS ow lk r' y ∧ nth held y ≠ nth (swapT ow lk) y
    · obtain ⟨r', y, h1, h2, h3⟩ := h
      exact ih r' h1 y (LV_lt h2.1) h3 h2
    · exact ⟨r, x, hr, hd, fun r' y h1 h2 => Classical.byContradiction fun h3 => h ⟨r', y, h1, h2, h3⟩⟩
theorem other_blocked {ow : List Turn} {lk : List (List Turn)} {held : List Turn} (hv : ValidT ow lk) (h0 : heldT ow lk held = 0) (hne : held ≠ swapT ow lk) : blocksT ow lk held ≠ [] := by
  obtain ⟨hl, hnd, hmem⟩ := (heldT_zero hv).1 h0
  obtain ⟨r, x, hx, hdx, hmin⟩ := first_differs hl hv hne
  obtain ⟨f, hf⟩ : ∃ f, f = ptF ow lk (LV ow lk r) := ⟨_, rfl⟩
  have hcx : Cyc f x := hf ▸ hx.2
  have hR : ∀ j, LVS ow lk r (itr f j x) := by
    intro j
    induction j with
    | zero => exact hx
    | succ j ih => have := Plain.Leaves.step (ptF_closed ow lk) ih; rw [← hf] at this; exact this
  classical
  obtain ⟨g, hg⟩ : ∃ g, g = (List.range' 0 (ow.length - 0)).filter fun y => decide (∃ j, itr f j x = y) := ⟨_, rfl⟩
  have hgm : ∀ y, y ∈ g ↔ ∃ j, itr f j x = y := by
    intro y
    rw [hg, List.mem_filter, decide_eq_true_eq, List.mem_range'_1]
    constructor
    · exact fun h => h.2
    · rintro ⟨j, rfl⟩; have := LV_lt (hR j).1; exact ⟨by omega, j, rfl⟩
  have hgL : ∀ y ∈ g, LVS ow lk r y := fun y hy => by obtain ⟨j, rfl⟩ := (hgm y).1 hy; exact hR j
  have hglt : ∀ y ∈ g, y < ow.length := fun y hy => LV_lt (hgL y hy).1
  have hgc : g ∈ cho ow.length g.length 0 := by rw [hg]; exact filter_cho _ _ _ 0 rfl
  have hgp := cho_nodup hgc
  have hxg : x ∈ g := (hgm x).2 ⟨0, rfl⟩
  have hown : ∀ y ∈ g, ∃ j ∈ LV ow lk r, nth held y = nth ow j := by
    intro y hy
    have hyn := hglt y hy
    have hyh : nth held y ∈ ow := by rw [nth_get (by omega)]; exact hmem _ (List.getElem_mem _)
    have hjl : ow.idxOf (nth held y) < ow.length := List.idxOf_lt_length_iff.2 hyh
    have hje : nth ow (ow.idxOf (nth held y)) = nth held y := by rw [nth_get hjl]; exact List.getElem_idxOf hjl
    refine ⟨_, ?_, hje.symm⟩
    refine Classical.byContradiction fun hno => ?_
    obtain ⟨r', hr'⟩ := exists_LVS ow lk hjl
    have hlt : r' < r := Classical.byContradiction fun h => hno (lv_mono (show r ≤ r' by omega) _ hr'.1)
    obtain ⟨p, hp1, hp2, j, hpj⟩ := hr'.2.pred
    have hpl : LVS ow lk r' p := by
      rw [hpj]
      clear hpj
      induction j with
      | zero => exact hr'
      | succ j ih => exact Plain.Leaves.step (ptF_closed ow lk) ih
    have h1 := hmin r' p hlt hpl
    rw [nth_swap hv hpl, hp1, hje] at h1
    have hpn := LV_lt hpl.1
    have : p = y := nth_injT hnd (by omega) (by omega) h1
    subst this
    have := LVS_unique hpl (hgL p hy)
    omega
  have hbest : ∀ y ∈ g, rkR ow lk y (nth ow (f y)) ≤ rkR ow lk y (nth held y) := by
    intro y hy
    obtain ⟨j, hj, e⟩ := hown y hy
    rw [e, hf]
    exact (best_of hv (hgL y hy)).le j hj
  rw [blocksT_ne h0]
  refine ⟨g, fun e => (by rw [e] at hxg; cases hxg), hglt, hgp, ?_, hgc⟩
  rw [blockG_spec hv hglt]
  have hnm : ∀ k, k < g.length → nth (g.map f) k = f (nth g k) := fun k hk => by rw [nth_get (by simpa using hk), nth_get hk, List.getElem_map]
  refine ⟨g.map f, by simp, ?_, fun o ho => ?_, fun k hk => ?_, ?_⟩
  · rw [List.Nodup, List.pairwise_map]
    refine hgp.imp_of_mem fun {a b} ha hb hab => ?_
    have ca : Cyc f a := hf ▸ (hgL a ha).2
    have cb : Cyc f b := hf ▸ (hgL b hb).2
    exact fun e => Nat.ne_of_lt hab (ca.inj cb e)
  · obtain ⟨y, hy, rfl⟩ := List.mem_map.1 ho
    obtain ⟨j, rfl⟩ := (hgm y).1 hy
    exact (hgm _).2 ⟨j + 1, rfl⟩
  · rw [hnm k hk]
    have hy := nth_mem hk
    refine ⟨?_, hbest _ hy⟩
    have := (best_of hv (hgL _ hy)).takes
    rw [hf]
    exact rkR_lt_of_mem this
  · obtain ⟨k, hk, e⟩ := List.mem_iff_getElem.1 hxg
    refine ⟨k, hk, ?_⟩
    rw [hnm k hk, nth_get hk, e]
    have h1 := hbest x hxg
    refine Nat.lt_of_le_of_ne h1 fun he => hdx ?_
    obtain ⟨j, hj, e2⟩ := hown x hxg
    rw [e2, hf] at he
    have := (best_of hv hx).uniq j hj (by omega)
    rw [e2, nth_swap hv hx, this]
end Go.Sim.W6
