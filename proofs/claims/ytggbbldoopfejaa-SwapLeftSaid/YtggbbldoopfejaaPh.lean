/- Swaps: rings that please, lists told otherwise, other orders, fewer traders (plain). -/
import Derived.Test.YtggbbldoopfejaaPg
namespace Go.Sim
open Go.Proofs Go.Plain
set_option linter.unusedSimpArgs false
/-! ### rings that please -/
theorem firstNE_some {g : Nat → List Nat} : ∀ {l : List Nat}, firstNE g l ≠ [] → ∃ x ∈ l, firstNE g l = g x ∧ g x ≠ []
  | [], h => absurd rfl h
  | x :: xs, h => by
    rw [firstNE] at h ⊢
    by_cases hx : g x = []
    · rw [if_pos hx] at h ⊢
      obtain ⟨y, hy, e⟩ := firstNE_some h
      exact ⟨y, List.mem_cons_of_mem _ hy, e⟩
    · rw [if_neg hx]; exact ⟨x, by simp, rfl, hx⟩
theorem rple_found {P : List Nat → Bool} {n many : Nat} : ∀ (f : Nat) (l : List Nat), (∀ y ∈ l, y < n ∧ nth l 0 ≤ y) → rple P n many f l ≠ [] → P (rple P n many f l) = true ∧ ∀ y ∈ rple P n many f l, y < n ∧ nth (rple P n many f l) 0 ≤ y
  | 0, l, _, h => absurd rfl h
  | f + 1, l, hl, h => by
    rw [rple] at h ⊢
    by_cases hm : l.length = many
    · rw [if_pos hm] at h ⊢
      by_cases hP : P l = true
      · rw [if_pos hP]; exact ⟨hP, hl⟩
      · rw [if_neg hP] at h; exact absurd rfl h
    · rw [if_neg hm] at h ⊢
      obtain ⟨x, hx, e, hne⟩ := firstNE_some h
      rw [e]
      by_cases hc : l ≠ [] ∧ (x ≤ nth l 0 ∨ x ∈ l)
      · rw [if_pos hc] at hne; exact absurd rfl hne
      · rw [if_neg hc] at hne ⊢
        rw [List.mem_range'_1] at hx
        refine rple_found f (l ++ [x]) (fun y hy => ?_) hne
        by_cases hnil : l = []
        · subst hnil
          obtain rfl := List.mem_singleton.1 hy
          exact ⟨by omega, Nat.le_refl _⟩
        · have h0 : nth (l ++ [x]) 0 = nth l 0 := nth_app (List.length_pos_iff.2 hnil)
          rw [h0]
          rcases List.mem_append.1 hy with hy | hy
          · exact hl y hy
          · obtain rfl := List.mem_singleton.1 hy
            exact ⟨by omega, Nat.le_of_lt (Nat.lt_of_not_le fun h => hc ⟨hnil, .inl h⟩)⟩
theorem pleaseT_ok {ow : List Turn} {lk : List (List Turn)} {held : List Turn} (hne : pleaseT ow lk held ≠ []) : plzR ow lk held (pleaseT ow lk held) = true ∧ ∀ y ∈ pleaseT ow lk held, y < ow.length ∧ nth (pleaseT ow lk held) 0 ≤ y := by
  by_cases h0 : heldT ow lk held = 0
  · obtain ⟨hv, _⟩ := heldT_valid h0
    rw [pleaseT, if_pos h0, pleaseL] at hne ⊢
    obtain ⟨m, hm, e, hme⟩ := firstNE_some hne
    rw [e]
    rw [List.mem_range'_1] at hm
    rw [← rple_pleaseM hv hm.1] at hme ⊢
    exact rple_found _ [] (by simp) hme
  · rw [pleaseT, if_neg h0] at hne; exact absurd rfl hne
theorem swap_unpleased {ow : List Turn} {lk : List (List Turn)} (hv : ValidT ow lk) : pleaseT ow lk (swapT ow lk) = [] := by
  refine Classical.byContradiction fun hne => ?_
  obtain ⟨h1, h2⟩ := pleaseT_ok hne
  obtain ⟨l, hl⟩ : ∃ l, l = pleaseT ow lk (swapT ow lk) := ⟨_, rfl⟩
  rw [← hl] at h1 h2 hne
  obtain ⟨h3, h4⟩ := plz_all.1 h1
  have key : ∀ r i, i < l.length → ¬ LVS ow lk r (nth l i) := by
    intro r
    induction r using Nat.strongRecOn with
    | _ r ih =>
      intro i hi hr
      have hn : (i + 1) % l.length < l.length := Nat.mod_lt _ (by omega)
      obtain ⟨r', hr'⟩ := exists_LVS ow lk (h2 _ (nth_mem hn)).1
      have hw := (h3 i hi).2
      rw [wantsR, decide_eq_true_eq, nth_swap hv hr', nth_swap hv hr] at hw
      by_cases hlt : r' < r
      · exact ih r' hlt _ hn hr'
      · have hp := Plain.Leaves.step (ptF_closed ow lk) hr'
        have hb := (best_of hv hr).le _ (lv_mono (show r ≤ r' by omega) _ hp.1)
        exact Nat.lt_irrefl _ (Nat.lt_of_lt_of_le (Nat.lt_of_lt_of_le hw (Nat.min_le_right _ _)) hb)
  obtain ⟨r, hr⟩ := exists_LVS ow lk (h2 _ (nth_mem (i := 0) (by omega))).1
  exact key r 0 (by omega) hr
/-- what is held after a ring has given -/
theorem ring_held {ow : List Turn} {lk : List (List Turn)} {held : List Turn} (hv : ValidT ow lk) (h0 : heldT ow lk held = 0) {l : List Nat} (hp : plzR ow lk held l = true) (hl : ∀ y ∈ l, y < ow.length) :
    heldT ow lk (giveK held l held l.length) = 0 ∧ ∀ x, x < ow.length → rkR ow lk x (nth (giveK held l held l.length) x) + (if x ∈ l then 1 else 0) ≤ rkR ow lk x (nth held x) := by
  obtain ⟨g1, g2, g3⟩ := (heldT_zero hv).1 h0
  obtain ⟨h3, h4⟩ := plz_all.1 hp
  have hnd : l.Nodup := by
    refine nodup_of_inj fun i j hij hj h => ?_
    have hjl : j < l.length := by omega
    refine (h3 j hjl).1 (List.mem_take_iff_getElem.2 ⟨i, by omega, ?_⟩)
    rw [List.getElem?_eq_getElem (by omega), List.getElem?_eq_getElem hjl] at h
    rw [nth_get hjl]; exact Option.some.inj h
  obtain ⟨a1, a2⟩ := giveK_get (ow := held) (out := held) hnd (fun x hx => by have := hl x hx; omega) l.length (Nat.le_refl _)
  rw [List.take_length] at a2
  have b1 : ∀ k, k < l.length → nth (giveK held l held l.length) (nth l k) = nth held (nth l ((k + 1) % l.length)) := fun k hk => by rw [nth_get hk]; exact a1 k hk hk
  have hlen : (giveK held l held l.length).length = ow.length := by rw [giveK_length]; exact g1
  have hmod : ∀ k, (k + 1) % l.length < l.length := fun k => Nat.mod_lt _ (by omega)
  have hin : ∀ x, x ∈ l → ∃ k, k < l.length ∧ nth l k = x := fun x hx => by
    obtain ⟨k, hk, e⟩ := List.mem_iff_getElem.1 hx
    exact ⟨k, hk, by rw [nth_get hk]; exact e⟩
  have hinj : ∀ {i j}, i < l.length → j < l.length → nth l i = nth l j → i = j := fun hi hj h => by
    rw [nth_get hi, nth_get hj] at h; exact (nodup_inj hnd).1 h
  have hheld : ∀ {i j}, i < ow.length → j < ow.length → nth held i = nth held j → i = j := fun hi hj h => nth_injT g2 (by omega) (by omega) h
  have hnew : ∀ x y, x < ow.length → y < ow.length → nth (giveK held l held l.length) x = nth (giveK held l held l.length) y → x = y := by
    intro x y hx hy h
    by_cases hxl : x ∈ l <;> by_cases hyl : y ∈ l
    · obtain ⟨i, hi, rfl⟩ := hin x hxl
      obtain ⟨j, hj, rfl⟩ := hin y hyl
      rw [b1 i hi, b1 j hj] at h
      have e := hinj (hmod i) (hmod j) (hheld (hl _ (nth_mem (hmod i))) (hl _ (nth_mem (hmod j))) h)
      have : i = j := by
        by_cases h1 : i + 1 = l.length <;> by_cases h2 : j + 1 = l.length
        · omega
        · rw [h1, Nat.mod_self, Nat.mod_eq_of_lt (by omega)] at e; omega
        · rw [h2, Nat.mod_self, Nat.mod_eq_of_lt (by omega)] at e; omega
        · rw [Nat.mod_eq_of_lt (by omega), Nat.mod_eq_of_lt (by omega)] at e; omega
      rw [this]
    · obtain ⟨i, hi, rfl⟩ := hin x hxl
      rw [b1 i hi, a2 y hyl] at h
      exact absurd (hheld (hl _ (nth_mem (hmod i))) hy h ▸ nth_mem (hmod i)) hyl
    · obtain ⟨j, hj, rfl⟩ := hin y hyl
      rw [b1 j hj, a2 x hxl] at h
      exact absurd (hheld hx (hl _ (nth_mem (hmod j))) h ▸ nth_mem (hmod j)) hxl
    · rw [a2 x hxl, a2 y hyl] at h; exact hheld hx hy h
  refine ⟨(heldT_zero hv).2 ⟨hlen, ?_, ?_⟩, fun x hx => ?_⟩
  · refine nodup_of_inj fun i j hij hj h => ?_
    have := hnew i j (by omega) (by omega) (by
      rw [nth_get (by omega), nth_get hj]
      rw [List.getElem?_eq_getElem (by omega), List.getElem?_eq_getElem hj] at h
      exact Option.some.inj h)
    omega
  · intro y hy
    obtain ⟨x, hx, rfl⟩ := List.mem_iff_getElem.1 hy
    rw [← nth_get hx]
    by_cases hxl : x ∈ l
    · obtain ⟨i, hi, rfl⟩ := hin x hxl
      rw [b1 i hi]
      have := hl _ (nth_mem (hmod i))
      rw [nth_get (by omega)]; exact g3 _ (List.getElem_mem _)
    · rw [a2 x hxl, nth_get (by omega)]; exact g3 _ (List.getElem_mem _)
  · by_cases hxl : x ∈ l
    · rw [if_pos hxl]
      obtain ⟨i, hi, rfl⟩ := hin x hxl
      have hw := (h3 i hi).2
      rw [wantsR, decide_eq_true_eq] at hw
      rw [b1 i hi]; omega
    · rw [if_neg hxl, a2 x hxl]; exact Nat.le_refl _
/-- how far all are from what they like most -/
def far (ow : List Turn) (lk : List (List Turn)) (held : List Turn) : Nat := ((List.range ow.length).map fun x => rkR ow lk x (nth held x)).sum
theorem sum_less {l : List Nat} {f g : Nat → Nat} : ∀ {L : List Nat}, (∀ x ∈ L, f x + (if x ∈ l then 1 else 0) ≤ g x) → (L.map f).sum + (L.filter fun x => decide (x ∈ l)).length ≤ (L.map g).sum
  | [], _ => by simp
  | x :: L, h => by
    have h1 := h x (by simp)
    have h2 := sum_less (L := L) fun y hy => h y (List.mem_cons_of_mem _ hy)
    by_cases hx : x ∈ l
    · rw [if_pos hx] at h1; rw [List.filter_cons_of_pos (by simpa using hx)]
      simp only [List.map_cons, List.sum_cons, List.length_cons]; omega
    · rw [if_neg hx] at h1; rw [List.filter_cons_of_neg (by simpa using hx)]
      simp only [List.map_cons, List.sum_cons]; omega
theorem ring_far {ow : List Turn} {lk : List (List Turn)} {held : List Turn} (hv : ValidT ow lk) (h0 : heldT ow lk held = 0) {l : List Nat} (hp : plzR ow lk held l = true) (hl : ∀ y ∈ l, y < ow.length) : far ow lk (giveK held l held l.length) + 2 ≤ far ow lk held := by
  have h1 := sum_less (L := List.range ow.length) (l := l) (f := fun x => rkR ow lk x (nth (giveK held l held l.length) x)) (g := fun x => rkR ow lk x (nth held x)) fun x hx => (ring_held hv h0 hp hl).2 x (List.mem_range.1 hx)
  obtain ⟨h3, h4⟩ := plz_all.1 hp
  have hnd : l.Nodup := by
    refine nodup_of_inj fun i j hij hj h => ?_
    have hjl : j < l.length := by omega
    refine (h3 j hjl).1 (List.mem_take_iff_getElem.2 ⟨i, by omega, ?_⟩)
    rw [List.getElem?_eq_getElem (by omega), List.getElem?_eq_getElem hjl] at h
    rw [nth_get hjl]; exact Option.some.inj h
  have h2 : l.length ≤ ((List.range ow.length).filter fun x => decide (x ∈ l)).length := nodup_subset_length hnd fun x hx => List.mem_filter.2 ⟨List.mem_range.2 (hl x hx), by simpa using hx⟩
  unfold far
  omega
theorem sum_le {f : Nat → Nat} {b : Nat} : ∀ {L : List Nat}, (∀ x ∈ L, f x ≤ b) → (L.map f).sum ≤ b * L.length
  | [], _ => by simp
  | x :: L, h => by
    have h1 := h x (by simp)
    have h2 := sum_le (L := L) fun y hy => h y (List.mem_cons_of_mem _ hy)
    simp only [List.map_cons, List.sum_cons, List.length_cons, Nat.mul_succ]; omega
theorem far_le {ow : List Turn} {lk : List (List Turn)} {most : Nat} (hg : GoodTrade ow lk most) (held : List Turn) : far ow lk held ≤ (most + 3) * ow.length := by
  have := sum_le (L := List.range ow.length) (f := fun x => rkR ow lk x (nth held x)) (b := most + 3) fun x hx => by
    have hx := List.mem_range.1 hx
    have hk : x < lk.length := by have := hg.same; omega
    have h1 : rkR ow lk x (nth held x) ≤ (takesT ow lk x).length := List.idxOf_le_length
    rw [takesT_length, nth_get hk] at h1
    have h2 : lk[x].idxOf (nth ow x) ≤ lk[x].length := List.idxOf_le_length
    have h3 := (hg.likes _ (List.getElem_mem hk)).2
    have h4 := hg.most
    omega
  rw [List.length_range] at this
  exact this
/-! ### fewer traders, in another order -/
theorem sub_swap {ow ow' : List Turn} {lk lk' : List (List Turn)} {held : List Turn} (hv : ValidT ow lk) (hv' : ValidT ow' lk') (φ : Nat → Nat) (hφ : ∀ i, i < ow'.length → φ i < ow.length ∧ nth ow' i = nth ow (φ i) ∧ nth lk' i = nth lk (φ i)) (hl : held.length = ow'.length)
    (hh : ∀ i, i < ow'.length → nth held i = nth (swapT ow lk) (φ i) ∧ nth held i ∈ ow') : held = swapT ow' lk' := by
  have hinj : ∀ {i j}, i < ow'.length → j < ow'.length → φ i = φ j → i = j := fun {i j} hi hj h => by
    refine nth_injT hv'.owns.1 hi hj ?_
    rw [(hφ i hi).2.1, (hφ j hj).2.1, h]
  have h0 : heldT ow' lk' held = 0 := by
    refine (heldT_zero hv').2 ⟨hl, ?_, fun x hx => ?_⟩
    · refine nodup_of_inj fun i j hij hj h => ?_
      have e : nth held i = nth held j := by
        rw [nth_get (by omega), nth_get hj]
        rw [List.getElem?_eq_getElem (by omega), List.getElem?_eq_getElem hj] at h
        exact Option.some.inj h
      rw [(hh i (by omega)).1, (hh j (by omega)).1] at e
      have := hinj (by omega) (by omega) (swap_inj hv (hφ i (by omega)).1 (hφ j (by omega)).1 e)
      omega
    · obtain ⟨i, hi, rfl⟩ := List.mem_iff_getElem.1 hx
      rw [← nth_get hi]; exact (hh i (by omega)).2
  have htk : ∀ i, i < ow'.length → takesT ow' lk' i = takesT ow lk (φ i) := fun i hi => by rw [takesT, takesT, (hφ i hi).2.1, (hφ i hi).2.2]
  refine Classical.byContradiction fun hne => ?_
  obtain ⟨g, _, h2, h3, h4, _⟩ := (blocksT_ne h0).1 (other_blocked hv' h0 hne)
  have hgd : g.Nodup := h3.imp fun h => Nat.ne_of_lt h
  obtain ⟨s, s1, s2, s3, s4, k0, hk0, hgain⟩ := (blockG_spec hv' h2).1 h4
  have hgk : ∀ k, k < g.length → nth g k < ow'.length := fun k h => h2 _ (nth_mem h)
  have hsk : ∀ k, k < g.length → nth s k < ow'.length := fun k h => h2 _ (s3 _ (nth_mem (by omega)))
  have hmap : ∀ (l : List Nat) k, k < l.length → nth (l.map φ) k = φ (nth l k) := fun l k h => by rw [nth_get (by simpa using h), nth_get h]; simp
  have hndm : ∀ l : List Nat, l.Nodup → (∀ y ∈ l, y < ow'.length) → (l.map φ).Nodup := fun l hl hlt => by
    refine nodup_of_inj fun i j hij hj h => ?_
    rw [List.length_map] at hj
    rw [List.getElem?_map, List.getElem?_map, List.getElem?_eq_getElem (by omega), List.getElem?_eq_getElem hj] at h
    have := (nodup_inj hl).1 (hinj (hlt _ (List.getElem_mem _)) (hlt _ (List.getElem_mem _)) (Option.some.inj h))
    omega
  have hgm : ∀ y ∈ g.map φ, y < ow.length := fun y hy => by
    obtain ⟨x, hx, rfl⟩ := List.mem_map.1 hy
    exact (hφ x (h2 x hx)).1
  have hb : blockG ow lk (swapT ow lk) (g.map φ) = true := by
    refine (blockG_spec hv hgm).2 ⟨s.map φ, by simp [s1], hndm s s2 (fun y hy => h2 _ (s3 y hy)), fun o ho => ?_, fun k hk => ?_, k0, by simpa using hk0, ?_⟩
    · obtain ⟨x, hx, rfl⟩ := List.mem_map.1 ho
      exact List.mem_map.2 ⟨x, s3 x hx, rfl⟩
    · rw [List.length_map] at hk
      have a := s4 k hk
      rw [hmap g k hk, hmap s k (by omega), rkR, rkR, ← htk _ (hgk k hk), ← (hφ _ (hsk k hk)).2.1, ← (hh _ (hgk k hk)).1]
      exact a
    · rw [hmap g k0 hk0, hmap s k0 (by omega), rkR, rkR, ← htk _ (hgk k0 hk0), ← (hφ _ (hsk k0 hk0)).2.1, ← (hh _ (hgk k0 hk0)).1]
      exact hgain
  rw [core hv hgm (hndm g hgd h2)] at hb
  cases hb
/-! ### a list told otherwise -/
theorem ptF_congr {ow : List Turn} {lk : List (List Turn)} {L L' : List Nat} (h : ∀ x, x ∈ L ↔ x ∈ L') (i : Nat) : ptF ow lk L i = ptF ow lk L' i := by
  unfold ptF
  generalize nth lk i = l
  induction l with
  | nil => rfl
  | cons x r ih => rw [ptL, ptL, ih]; simp only [h]
theorem ptF_other {ow : List Turn} {lk : List (List Turn)} {w : Nat} {nl : List Turn} {L : List Nat} {i : Nat} (hi : i ≠ w) (hk : i < lk.length) : ptF ow (lk.set w nl) L i = ptF ow lk L i := by
  unfold ptF
  have e : nth (lk.set w nl) i = nth lk i := by rw [nth_get (l := lk.set w nl) (by simpa using hk), nth_get hk, List.getElem_set_ne (Ne.symm hi)]
  rw [e]
theorem ptF_stay {ow : List Turn} {lk : List (List Turn)} (hv : ValidT ow lk) {L L' : List Nat} (hL : ∀ x ∈ L, x < ow.length) (hs : ∀ x ∈ L', x ∈ L) {i : Nat} (hi : i ∈ L') (hp : ptF ow lk L i ∈ L') : ptF ow lk L' i = ptF ow lk L i := by
  have b := best hv hL (hs i hi)
  have b' := best hv (fun x hx => hL x (hs x hx)) hi
  exact b.uniq _ (hs _ b'.inL) (b'.le _ hp)
theorem cyc_agree {f f' : Nat → Nat} {w : Nat} {S : Nat → Prop} (hS : ∀ x, S x → S (f x)) (h : ∀ x, S x → x ≠ w → f x = f' x) (hw : ¬ Cyc f w) {x : Nat} (hx : S x) (hc : Cyc f x) : Cyc f' x := by
  have key : ∀ j, itr f' j x = itr f j x ∧ S (itr f j x) := by
    intro j
    induction j with
    | zero => exact ⟨rfl, hx⟩
    | succ j ih =>
      refine ⟨?_, hS _ ih.2⟩
      show f' (itr f' j x) = f (itr f j x)
      rw [ih.1, h _ ih.2]
      intro e
      exact hw (e ▸ hc.itr j)
  obtain ⟨k, hk⟩ := hc
  exact ⟨k, by rw [(key _).1, hk]⟩
theorem truth {ow : List Turn} {lk : List (List Turn)} (hv : ValidT ow lk) {w : Nat} {nl : List Turn} (hv' : ValidT ow (lk.set w nl)) (hw : w < ow.length) : rkR ow lk w (nth (swapT ow lk) w) ≤ rkR ow lk w (nth (swapT ow (lk.set w nl)) w) := by
  obtain ⟨k, hk⟩ := exists_LVS ow lk hw
  obtain ⟨k', hk'⟩ := exists_LVS ow (lk.set w nl) hw
  have hlen : lk.length = ow.length := hv.same
  rw [nth_swap hv hk, nth_swap hv' hk']
  have b := best_of hv hk
  have hg := ptF_closed ow lk
  have hg' := ptF_closed ow (lk.set w nl)
  have same : ∀ j, j ≤ k → j ≤ k' → ∀ x, x ∈ LV ow lk j ↔ x ∈ LV ow (lk.set w nl) j := by
    intro j
    induction j with
    | zero => intro _ _ x; rfl
    | succ j ih =>
      intro h1 h2 x
      have ih := ih (by omega) (by omega)
      have hpt : ∀ y, y ∈ LV ow lk j → y ≠ w → ptF ow lk (LV ow lk j) y = ptF ow (lk.set w nl) (LV ow (lk.set w nl) j) y := fun y hy hyw => by
        have := LV_lt hy
        rw [ptF_other hyw (by omega), ptF_congr ih]
      have hnc : ¬ Cyc (ptF ow lk (LV ow lk j)) w := fun hc => by
        have := LVS_unique hk ⟨lv_mono (show j ≤ k by omega) _ hk.1, hc⟩; omega
      have hnc' : ¬ Cyc (ptF ow (lk.set w nl) (LV ow (lk.set w nl) j)) w := fun hc => by
        have := LVS_unique hk' ⟨lv_mono (show j ≤ k' by omega) _ hk'.1, hc⟩; omega
      rw [mem_lv_succ hg List.nodup_range lt_range, mem_lv_succ hg' List.nodup_range lt_range, ← ih x]
      refine and_congr_right fun hx => not_congr ⟨fun hc => ?_, fun hc => ?_⟩
      · exact cyc_agree (S := fun y => y ∈ LV ow lk j) (fun y hy => hg _ y hy) hpt hnc hx hc
      · exact cyc_agree (S := fun y => y ∈ LV ow lk j) (fun y hy => (ih _).2 (hg' _ y ((ih y).1 hy))) (fun y hy hyw => (hpt y hy hyw).symm) hnc' hx hc
  obtain ⟨p, hp⟩ : ∃ p, p = ptF ow (lk.set w nl) (LV ow (lk.set w nl) k') w := ⟨_, rfl⟩
  have hpl : p ∈ LV ow (lk.set w nl) k' := hp ▸ hg' _ _ hk'.1
  rw [← hp]
  by_cases hle : k ≤ k'
  · exact b.le _ ((same k (Nat.le_refl _) hle p).2 (lv_mono hle _ hpl))
  · have hkk : k' ≤ k := by omega
    refine b.le _ ?_
    -- those from whom the ring comes back to w wait for it
    obtain ⟨m0, hm0⟩ := hk'.2
    obtain ⟨K, hF⟩ := exists_first (f := ptF ow (lk.set w nl) (LV ow (lk.set w nl) k')) (m := w) (k := m0 + 1) (by omega) hm0
    obtain ⟨f', hf'⟩ : ∃ f', f' = ptF ow (lk.set w nl) (LV ow (lk.set w nl) k') := ⟨_, rfl⟩
    rw [← hf'] at hF hp
    have hcl : ∀ j, itr f' j w ∈ LV ow (lk.set w nl) k' := by
      intro j
      induction j with
      | zero => exact hk'.1
      | succ j ih => show f' (itr f' j w) ∈ _; rw [hf']; exact hg' _ _ (hf' ▸ ih)
    have hne : ∀ j, 0 < j → j < K → itr f' j w ≠ w := fun j h0 hj => hF.first j h0 hj
    have hin : ∀ d, k' + d ≤ k → ∀ j, 0 < j → j ≤ K → itr f' j w ∈ LV ow lk (k' + d) ∧ (j < K → ptF ow lk (LV ow lk (k' + d)) (itr f' j w) = itr f' (j + 1) w) := by
      intro d
      induction d with
      | zero =>
        intro _ j hj0 hjK
        rw [Nat.add_zero]
        have hm := (same k' hkk (Nat.le_refl _) _).2 (hcl j)
        refine ⟨hm, fun hjK => ?_⟩
        show _ = f' (itr f' j w)
        have := LV_lt hm
        rw [hf', ptF_other (by rw [← hf']; exact hne j hj0 hjK) (by rw [← hf']; omega), ptF_congr (same k' hkk (Nat.le_refl _))]
      | succ d ih =>
        intro h2 j hj0 hjK
        have ih := ih (by omega)
        rw [← Nat.add_assoc] at h2 ⊢
        generalize k' + d = t at ih h2 ⊢
        have hmem : ∀ j, 0 < j → j ≤ K → itr f' j w ∈ LV ow lk (t + 1) := by
          intro j hj0 hjK
          refine (mem_lv_succ hg List.nodup_range lt_range).2 ⟨(ih j hj0 hjK).1, fun hc => ?_⟩
          have hto : ∀ d, j + d ≤ K → Cyc (ptF ow lk (LV ow lk t)) (itr f' (j + d) w) := by
            intro d
            induction d with
            | zero => intro _; exact hc
            | succ d ihd =>
              intro hd
              have := (ihd (by omega)).step
              rw [(ih (j + d) (by omega) (by omega)).2 (by omega)] at this
              exact this
          have hcw := hto (K - j) (by omega)
          rw [show j + (K - j) = K by omega, hF.back] at hcw
          have := LVS_unique hk ⟨lv_mono (show t ≤ k by omega) _ hk.1, hcw⟩
          omega
        refine ⟨hmem j hj0 hjK, fun hjK => ?_⟩
        have e := (ih j hj0 (by omega)).2 hjK
        rw [ptF_stay hv (L := LV ow lk t) (fun x hx => LV_lt hx) (fun x hx => lv_mono (Nat.le_succ t) x hx) (hmem j hj0 (by omega)) (by rw [e]; exact hmem (j + 1) (by omega) (by omega)), e]
    have hK := hF.pos
    have := (hin (k - k') (by omega) 1 (by omega) hK).1
    rw [show k' + (k - k') = k by omega] at this
    rw [hp]; exact this
end Go.Sim
