/- Stalls that were let, swapped, plainly. -/
import Derived.Test.YticllllmgpjbcaaXa
import Derived.Test.YticllllmgpjbcaaRh
import Derived.Test.YticllllmgpjbcaaPl
import Derived.Test.YticllllmgpjbcaaLr
set_option linter.all false
set_option linter.unusedVariables false
set_option linter.unusedSimpArgs false
set_option linter.unusedSectionVars false
namespace Go.Sim
open Go.Proofs
def whoL (l : Lett) (h : List Int) (n : Nat) : List Nat := (List.range n).filter fun a : Nat => decide ((a : Int) ∈ h)
def ownF (h : List Int) (d : Int) (a : Nat) : W6.Turn := (((h.idxOf (a : Int) : Nat) : Int), d)
def likF (l : Lett) (d : Int) (a : Nat) : List W6.Turn := likesN l (nth l.apps a) d (nth l.apps a).wishes.length
theorem frN_eq (l : Lett) (h : List Int) (d : Int) : ∀ n, frN l h d n = ((whoL l h n).map (ownF h d), (whoL l h n).map (likF l d), (whoL l h n).map fun a : Nat => (a : Int))
  | 0 => rfl
  | n + 1 => by
    rw [frN, frN_eq l h d n]
    by_cases e : (n : Int) ∈ h
    · have : whoL l h (n + 1) = whoL l h n ++ [n] := by rw [whoL, List.range_succ, List.filter_append, whoL]; simp [e]
      rw [if_pos e, this, stepF]
      simp only [List.map_append, List.map_cons, List.map_nil]
      rfl
    · have : whoL l h (n + 1) = whoL l h n := by rw [whoL, List.range_succ, List.filter_append, whoL]; simp [e]
      rw [if_neg e, this]
abbrev who (l : Lett) (h : List Int) : List Nat := whoL l h l.apps.length
theorem frL_eq (l : Lett) (h : List Int) (d : Int) : frL l h d = ((who l h).map (ownF h d), (who l h).map (likF l d), (who l h).map fun a : Nat => (a : Int)) := frN_eq l h d _
theorem mem_who {l : Lett} {h : List Int} {n a : Nat} : a ∈ whoL l h n ↔ a < n ∧ (a : Int) ∈ h := by
  rw [whoL, List.mem_filter, List.mem_range, decide_eq_true_eq]
theorem who_nodup (l : Lett) (h : List Int) (n : Nat) : (whoL l h n).Nodup := List.nodup_range.filter _
theorem who_len (l : Lett) (h : List Int) : (who l h).length ≤ l.apps.length := by
  have := List.length_filter_le (fun a : Nat => decide ((a : Int) ∈ h)) (List.range l.apps.length)
  rwa [List.length_range] at this
theorem idx_at {h : List Int} {a : Nat} (hm : (a : Int) ∈ h) : h.idxOf (a : Int) < h.length ∧ nth h (h.idxOf (a : Int)) = (a : Int) := by
  have h1 := List.idxOf_lt_length_iff.2 hm
  exact ⟨h1, by rw [nth_get h1]; exact List.getElem_idxOf h1⟩
theorem ownF_inj {l : Lett} {h : List Int} {d : Int} {a b : Nat} (ha : (a : Int) ∈ h) (hb : (b : Int) ∈ h) (e : ownF h d a = ownF h d b) : a = b := by
  have h1 : ((h.idxOf (a : Int) : Nat) : Int) = ((h.idxOf (b : Int) : Nat) : Int) := congrArg Prod.fst e
  have h2 : h.idxOf (a : Int) = h.idxOf (b : Int) := by omega
  have h3 := (idx_at ha).2
  rw [h2, (idx_at hb).2] at h3
  omega
theorem map_nodup {α β : Type} {f : α → β} : ∀ {l : List α}, l.Nodup → (∀ a ∈ l, ∀ b ∈ l, f a = f b → a = b) → (l.map f).Nodup
  | [], _, _ => List.Pairwise.nil
  | x :: l, hn, hi => by
    rw [List.nodup_cons] at hn
    rw [List.map_cons, List.nodup_cons]
    refine ⟨fun hm => ?_, map_nodup hn.2 fun a ha b hb => hi a (by simp [ha]) b (by simp [hb])⟩
    obtain ⟨y, hy, e⟩ := List.mem_map.1 hm
    have := hi y (by simp [hy]) x (by simp) e
    subst this; exact hn.1 hy
def canK (l : Lett) (a : App) (k : Nat) : List Nat := (List.range k).filter (canAt l.stalls a)
theorem likesN_eq (l : Lett) (a : App) (d : Int) : ∀ k, likesN l a d k = (canK l a k).map fun i => (nth a.wishes i, d)
  | 0 => rfl
  | k + 1 => by
    rw [likesN, likesN_eq l a d k]
    by_cases e : canAt l.stalls a k = true
    · have : canK l a (k + 1) = canK l a k ++ [k] := by rw [canK, List.range_succ, List.filter_append, canK]; simp [e]
      rw [if_pos e, this]; simp
    · have : canK l a (k + 1) = canK l a k := by rw [canK, List.range_succ, List.filter_append, canK]; simp [e]
      rw [if_neg e, this]
theorem mem_canK {l : Lett} {a : App} {k i : Nat} : i ∈ canK l a k ↔ i < k ∧ canAt l.stalls a i = true := by rw [canK, List.mem_filter, List.mem_range]
theorem canK_sorted (l : Lett) (a : App) (k : Nat) : (canK l a k).Pairwise (· < ·) := List.pairwise_lt_range.filter _
theorem wish_inj {a : App} (hn : a.wishes.Nodup) {i j : Nat} (hi : i < a.wishes.length) (hj : j < a.wishes.length) (e : nth a.wishes i = nth a.wishes j) : i = j := by
  rw [nth_get hi, nth_get hj] at e
  have h1 := hn.idxOf_getElem i hi
  have h2 := hn.idxOf_getElem j hj
  rw [e, h2] at h1; exact h1.symm
theorem map_idxOf {α β : Type} [BEq α] [LawfulBEq α] [BEq β] [LawfulBEq β] {f : α → β} : ∀ {l : List α} {x : α}, (∀ y ∈ l, f y = f x → y = x) → (l.map f).idxOf (f x) = l.idxOf x
  | [], _, _ => rfl
  | y :: l, x, h => by
    rw [List.map_cons, List.idxOf_cons, List.idxOf_cons]
    by_cases e : y = x
    · subst e; simp
    · have e2 : ¬ f y = f x := fun q => e (h y (by simp) q)
      have e3 : (f y == f x) = false := by simpa using e2
      have e4 : (y == x) = false := by simpa using e
      rw [e3, e4, map_idxOf fun z hz => h z (by simp [hz])]
theorem sorted_idx {K : List Nat} (hs : K.Pairwise (· < ·)) {i j : Nat} (hi : i ∈ K) (hj : j ∈ K) (h : K.idxOf i < K.idxOf j) : i < j := by
  have h1 := List.idxOf_lt_length_iff.2 hi
  have h2 := List.idxOf_lt_length_iff.2 hj
  have := List.pairwise_iff_getElem.1 hs _ _ h1 h2 h
  rwa [List.getElem_idxOf h1, List.getElem_idxOf h2] at this
theorem likes_before {l : Lett} {n : Nat} {a : App} (ha : AppOk n a) {d : Int} {x : W6.Turn} {o : Int} (hx : x ∈ likesN l a d a.wishes.length) (ho : canS l.stalls a o = true) (hb : (likesN l a d a.wishes.length).idxOf x < (likesN l a d a.wishes.length).idxOf (o, d)) :
    ∃ s : Nat, x = ((s : Int), d) ∧ s < n ∧ canS l.stalls a s = true ∧ a.wishes.idxOf (s : Int) < a.wishes.idxOf o := by
  rw [likesN_eq] at hx hb
  obtain ⟨i, hi, rfl⟩ := List.mem_map.1 hx
  obtain ⟨hil, hic⟩ := mem_canK.1 hi
  rw [canS, Bool.and_eq_true, decide_eq_true_eq] at ho
  have hol := List.idxOf_lt_length_iff.2 ho.1
  have hoK : a.wishes.idxOf o ∈ canK l a a.wishes.length := mem_canK.2 ⟨hol, ho.2⟩
  have hod : (o, d) = (fun i => (nth a.wishes i, d)) (a.wishes.idxOf o) := by
    show (o, d) = (nth a.wishes (a.wishes.idxOf o), d)
    rw [nth_get hol, List.getElem_idxOf hol]
  rw [hod, map_idxOf (f := fun i => (nth a.wishes i, d)), map_idxOf (f := fun i => (nth a.wishes i, d))] at hb
  · have hlt := sorted_idx (canK_sorted _ _ _) hi hoK hb
    have hw := ha.wish _ (List.getElem_mem hil)
    obtain ⟨s, hs⟩ : ∃ s : Nat, nth a.wishes i = (s : Int) := ⟨a.wishes[i].toNat, by rw [nth_get hil]; omega⟩
    have hsi : a.wishes.idxOf (s : Int) = i := by rw [← hs, nth_get hil]; exact ha.nodup.idxOf_getElem i hil
    refine ⟨s, by rw [hs], by rw [nth_get hil] at hs; omega, ?_, by rw [hsi]; exact hlt⟩
    rw [canS, Bool.and_eq_true, decide_eq_true_eq, hsi]
    exact ⟨by rw [← hs, nth_get hil]; exact List.getElem_mem hil, hic⟩
  · intro y hy e
    exact wish_inj ha.nodup (mem_canK.1 hy).1 hol (congrArg Prod.fst e)
  · intro y hy e
    exact wish_inj ha.nodup (mem_canK.1 hy).1 hil (congrArg Prod.fst e)
instance : NthD Nat := ⟨0⟩
theorem likes_good {l : Lett} {d : Int} (hd : 0 ≤ d ∧ d ≤ 6) {n : Nat} (hn : n ≤ 8) {a : App} (ha : AppOk n a) : W6.GoodTurns (likesN l a d a.wishes.length) ∧ (likesN l a d a.wishes.length).length ≤ 16 := by
  refine ⟨⟨?_, fun x hx => ?_⟩, ?_⟩
  · rw [likesN_eq]
    exact map_nodup ((canK_sorted l a _).imp fun h => Nat.ne_of_lt h) fun i hi j hj e => wish_inj ha.nodup (mem_canK.1 hi).1 (mem_canK.1 hj).1 (congrArg Prod.fst e)
  · rw [likesN_eq] at hx
    obtain ⟨i, hi, rfl⟩ := List.mem_map.1 hx
    have hil := (mem_canK.1 hi).1
    have := ha.wish _ (List.getElem_mem hil)
    rw [← nth_get hil] at this
    unfold W6.validT
    simp only [Bool.and_eq_true, decide_eq_true_eq]
    omega
  · have h1 := likesN_len l a d a.wishes.length
    have h2 := ha.wlen
    omega
theorem fr_valid {l : Lett} (hv : ValidL l) {h : List Int} (hk : HoldOk l h) {d : Int} (hd : 0 ≤ d ∧ d ≤ 6) : W6.ValidT (frL l h d).1 (frL l h d).2.1 := by
  rw [frL_eq]
  have h8 := hv.a8
  have hs8 := hv.s8
  have hl := who_len l h
  refine ⟨by show ((who l h).map _).length ≤ 8; rw [List.length_map]; omega, by simp, ⟨map_nodup (who_nodup _ _ _) fun a ha b hb e => ownF_inj (l := l) (mem_who.1 ha).2 (mem_who.1 hb).2 e, fun x hx => ?_⟩, fun x hx => ?_⟩
  · obtain ⟨a, ha, rfl⟩ := List.mem_map.1 hx
    have h1 := (idx_at (mem_who.1 ha).2).1
    have h2 := hk.len
    unfold W6.validT ownF
    simp only [Bool.and_eq_true, decide_eq_true_eq]
    omega
  · obtain ⟨a, ha, rfl⟩ := List.mem_map.1 hx
    have hal := (mem_who.1 ha).1
    exact likes_good hd hs8 (by rw [nth_get hal]; exact hv.ap _ (List.getElem_mem hal))
abbrev gotL (l : Lett) (h : List Int) (d : Int) : List W6.Turn := W6.swapT (frL l h d).1 (frL l h d).2.1
theorem fr_len (l : Lett) (h : List Int) (d : Int) : (frL l h d).1.length = (who l h).length ∧ (frL l h d).2.1.length = (who l h).length ∧ (frL l h d).2.2.length = (who l h).length := by
  rw [frL_eq]; simp
theorem got_len {l : Lett} (hv : ValidL l) {h : List Int} (hk : HoldOk l h) {d : Int} (hd : 0 ≤ d ∧ d ≤ 6) : (gotL l h d).length = (who l h).length := by
  rw [gotL, W6.swap_length (fr_valid hv hk hd), (fr_len l h d).1]
theorem swap_place {l : Lett} (hv : ValidL l) {h : List Int} (hk : HoldOk l h) {d : Int} (hd : 0 ≤ d ∧ d ≤ 6) {i : Nat} (hi : i < (who l h).length) (hg : i < (gotL l h d).length) :
    ∃ s : Nat, (gotL l h d)[i] = ((s : Int), d) ∧ s < l.stalls.length ∧ canS l.stalls (nth l.apps (who l h)[i]) s = true ∧ (nth l.apps (who l h)[i]).wishes.idxOf (s : Int) ≤ placeL l h (who l h)[i] := by
  have qv := fr_valid hv hk hd
  obtain ⟨hal, hm⟩ := mem_who.1 (List.getElem_mem hi)
  obtain ⟨e1, e2, e3⟩ := fr_len l h d
  have ho : W6.nth (frL l h d).1 i = ownF h d (who l h)[i] := by
    rw [W6.nth_get (by rw [e1]; exact hi)]
    simp only [frL_eq, List.getElem_map]
  have hl : W6.nth (frL l h d).2.1 i = likF l d (who l h)[i] := by
    rw [W6.nth_get (by rw [e2]; exact hi)]
    simp only [frL_eq, List.getElem_map]
  have hx : W6.nth (gotL l h d) i = (gotL l h d)[i] := W6.nth_get hg
  generalize (who l h)[i] = a at hal hm ho hl
  have hcan : canS l.stalls (nth l.apps a) ((h.idxOf (a : Int) : Nat) : Int) = true := by rw [nth_get hal]; exact hk.at' hal hm
  have hpl : placeL l h a = (nth l.apps a).wishes.idxOf ((h.idxOf (a : Int) : Nat) : Int) := by rw [placeL, if_pos hm]
  by_cases e : (gotL l h d)[i] = ownF h d a
  · exact ⟨h.idxOf (a : Int), e, by rw [← hk.len]; exact (idx_at hm).1, hcan, by rw [hpl]; exact Nat.le_refl _⟩
  · have hb := W6.swap_better qv (x := i) (by rw [e1]; exact hi) (by rw [ho]; show W6.nth (gotL l h d) i ≠ _; rw [hx]; exact e)
    rw [ho, hl] at hb
    have hb2 : (gotL l h d)[i] ∈ likF l d a ∧ (likF l d a).idxOf (gotL l h d)[i] < (likF l d a).idxOf (ownF h d a) := by rw [← hx]; exact hb
    obtain ⟨s, h1, h2, h3, h4⟩ := likes_before (hv.ap _ (by rw [nth_get hal]; exact List.getElem_mem hal)) hb2.1 hcan hb2.2
    exact ⟨s, h1, h2, h3, by rw [hpl]; exact Nat.le_of_lt h4⟩
theorem got_nodup {l : Lett} (hv : ValidL l) {h : List Int} (hk : HoldOk l h) {d : Int} (hd : 0 ≤ d ∧ d ≤ 6) : (gotL l h d).Nodup := W6.swap_nodup (fr_valid hv hk hd)
def nowN (m : Nat) (xs : List W6.Turn) (A : List Nat) : Nat → List Int
  | 0 => List.replicate m (-1)
  | k + 1 => (nowN m xs A k).set (W6.nth xs k).1.toNat ((nth A k : Nat) : Int)
theorem nowN_len (m : Nat) (xs : List W6.Turn) (A : List Nat) : ∀ k, (nowN m xs A k).length = m
  | 0 => List.length_replicate
  | k + 1 => by rw [nowN, List.length_set]; exact nowN_len m xs A k
theorem nth_setI {l : List Int} {i j : Nat} {v : Int} (hi : i < l.length) : nth (l.set i v) j = if j = i then v else nth l j := by
  by_cases e : j = i
  · subst e; rw [if_pos rfl, nth_get (by rw [List.length_set]; exact hi), List.getElem_set_self]
  · rw [if_neg e]
    unfold nth
    rw [List.getD_eq_getElem?_getD, List.getD_eq_getElem?_getD, List.getElem?_set_ne (Ne.symm e)]
def Sits (xs : List W6.Turn) (k i s : Nat) : Prop := i < k ∧ (W6.nth xs i).1.toNat = s
theorem nowN_spec {m : Nat} {xs : List W6.Turn} {A : List Nat} {n : Nat} (hs : ∀ i, i < n → (W6.nth xs i).1.toNat < m) (hd : ∀ i j, i < n → j < n → (W6.nth xs i).1.toNat = (W6.nth xs j).1.toNat → i = j) : ∀ k, k ≤ n → ∀ s, s < m → (∃ i, Sits xs k i s ∧ nth (nowN m xs A k) s = ((nth A i : Nat) : Int)) ∨ ((∀ i, ¬ Sits xs k i s) ∧ nth (nowN m xs A k) s = -1)
  | 0, _, s, hsm => .inr ⟨fun i h => absurd h.1 (Nat.not_lt_zero _), by rw [nowN, nth_get (by rw [List.length_replicate]; exact hsm)]; exact List.getElem_replicate _⟩
  | k + 1, hk, s, hsm => by
    have hl : (W6.nth xs k).1.toNat < (nowN m xs A k).length := by rw [nowN_len]; exact hs k (by omega)
    rw [nowN, nth_setI hl]
    by_cases e : s = (W6.nth xs k).1.toNat
    · rw [if_pos e]
      exact .inl ⟨k, ⟨by omega, e.symm⟩, rfl⟩
    · rw [if_neg e]
      rcases nowN_spec hs hd k (by omega) s hsm with ⟨i, ⟨h1, h2⟩, h3⟩ | ⟨h1, h2⟩
      · exact .inl ⟨i, ⟨by omega, h2⟩, h3⟩
      · exact .inr ⟨fun i hi => by
          by_cases q : i = k
          · exact e (by rw [← q]; exact hi.2.symm)
          · exact h1 i ⟨by have := hi.1; omega, hi.2⟩, h2⟩
abbrev nowL (l : Lett) (h : List Int) (d : Int) : List Int := nowN h.length (gotL l h d) (who l h) (who l h).length
theorem got_at {l : Lett} (hv : ValidL l) {h : List Int} (hk : HoldOk l h) {d : Int} (hd : 0 ≤ d ∧ d ≤ 6) {i : Nat} (hi : i < (who l h).length) : ∃ s : Nat, W6.nth (gotL l h d) i = ((s : Int), d) ∧ s < h.length ∧ canS l.stalls (nth l.apps (nth (who l h) i)) s = true := by
  have hg : i < (gotL l h d).length := by rw [got_len hv hk hd]; exact hi
  obtain ⟨s, h1, h2, h3, _⟩ := swap_place hv hk hd hi hg
  exact ⟨s, by rw [W6.nth_get hg]; exact h1, by rw [hk.len]; exact h2, by rw [nth_get hi]; exact h3⟩
theorem got_small {l : Lett} (hv : ValidL l) {h : List Int} (hk : HoldOk l h) {d : Int} (hd : 0 ≤ d ∧ d ≤ 6) : ∀ i, i < (who l h).length → (W6.nth (gotL l h d) i).1.toNat < h.length := fun i hi => by
  obtain ⟨s, h1, h2, _⟩ := got_at hv hk hd hi
  rw [h1]; exact h2
theorem got_inj {l : Lett} (hv : ValidL l) {h : List Int} (hk : HoldOk l h) {d : Int} (hd : 0 ≤ d ∧ d ≤ 6) : ∀ i j, i < (who l h).length → j < (who l h).length → (W6.nth (gotL l h d) i).1.toNat = (W6.nth (gotL l h d) j).1.toNat → i = j := fun i j hi hj e => by
  obtain ⟨s, h1, _, _⟩ := got_at hv hk hd hi
  obtain ⟨t, h2, _, _⟩ := got_at hv hk hd hj
  rw [h1, h2] at e
  have e2 : s = t := e
  refine W6.nth_injT (got_nodup hv hk hd) (by rw [got_len hv hk hd]; exact hi) (by rw [got_len hv hk hd]; exact hj) (by rw [h1, h2, e2])
theorem who_inj {l : Lett} {h : List Int} {i j : Nat} (hi : i < (who l h).length) (hj : j < (who l h).length) (e : nth (who l h) i = nth (who l h) j) : i = j := by
  rw [nth_get hi, nth_get hj] at e
  have h1 := (who_nodup l h l.apps.length).idxOf_getElem i hi
  have h2 := (who_nodup l h l.apps.length).idxOf_getElem j hj
  rw [e, h2] at h1
  exact h1.symm
theorem now_ok {l : Lett} (hv : ValidL l) {h : List Int} (hk : HoldOk l h) {d : Int} (hd : 0 ≤ d ∧ d ≤ 6) : HoldOk l (nowL l h d) := by
  have hlen : (nowL l h d).length = h.length := nowN_len _ _ _ _
  have sp := nowN_spec (A := who l h) (got_small hv hk hd) (got_inj hv hk hd) (who l h).length (Nat.le_refl _)
  have get : ∀ s, (hs : s < (nowL l h d).length) → (nowL l h d)[s] = -1 ∨ ∃ i, Sits (gotL l h d) (who l h).length i s ∧ (nowL l h d)[s] = ((nth (who l h) i : Nat) : Int) := fun s hs => by
    rw [← nth_get hs]
    rcases sp s (by rw [← hlen]; exact hs) with ⟨i, h1, h2⟩ | ⟨_, h2⟩
    · exact .inr ⟨i, h1, h2⟩
    · exact .inl h2
  refine ⟨by rw [hlen]; exact hk.len, fun s hs => ?_, fun s t a hs ht h1 h2 => ?_⟩
  · rcases get s hs with h1 | ⟨i, ⟨h1, h2⟩, h3⟩
    · exact .inl h1
    · obtain ⟨s', k1, k2, k3⟩ := got_at hv hk hd h1
      rw [k1] at h2
      have e : s' = s := h2
      refine .inr ⟨nth (who l h) i, h3, ?_, by rw [← e]; exact k3⟩
      exact (mem_who.1 (by rw [nth_get h1]; exact List.getElem_mem h1)).1
  · rcases get s hs with k1 | ⟨i, ⟨k1, k2⟩, k3⟩
    · rw [k1] at h1; omega
    rcases get t ht with m1 | ⟨j, ⟨m1, m2⟩, m3⟩
    · rw [m1] at h2; omega
    have e : nth (who l h) i = nth (who l h) j := by rw [k3] at h1; rw [m3] at h2; omega
    have := who_inj k1 m1 e
    subst this
    exact k2.symm.trans m2
theorem nodup_sub_len {α : Type} [DecidableEq α] {l L : List α} (h : l.Nodup) (hs : ∀ x ∈ l, x ∈ L) : l.length ≤ L.length := Go.Plain.nodup_subset_length h hs
theorem got_mem {l : Lett} (hv : ValidL l) {h : List Int} (hk : HoldOk l h) {d : Int} (hd : 0 ≤ d ∧ d ≤ 6) {x : W6.Turn} : x ∈ gotL l h d ↔ x ∈ (frL l h d).1 := by
  have qv := fr_valid hv hk hd
  have hsub : ∀ y ∈ gotL l h d, y ∈ (frL l h d).1 := fun y hy => by
    obtain ⟨i, hi, rfl⟩ := List.getElem_of_mem hy
    have := (W6.swap_mem qv (x := i) (by rw [← W6.swap_length qv]; exact hi)).1
    rwa [W6.nth_get hi] at this
  refine ⟨hsub x, fun hx => ?_⟩
  by_cases e : x ∈ gotL l h d
  · exact e
  · exfalso
    have h1 := nodup_sub_len (L := (frL l h d).1.erase x) (got_nodup hv hk hd) fun y hy => (List.mem_erase_of_ne (fun q => e (by rw [← q]; exact hy))).2 (hsub y hy)
    have h2 := List.length_erase_of_mem hx
    have h3 := List.length_pos_of_mem hx
    have h4 : (gotL l h d).length = (frL l h d).1.length := W6.swap_length qv
    omega
theorem now_iff {l : Lett} (hv : ValidL l) {h : List Int} (hk : HoldOk l h) {d : Int} (hd : 0 ≤ d ∧ d ≤ 6) {s : Nat} (hs : s < h.length) : nth (nowL l h d) s < 0 ↔ nth h s < 0 := by
  have sp := nowN_spec (A := who l h) (got_small hv hk hd) (got_inj hv hk hd) (who l h).length (Nat.le_refl _) s hs
  rcases sp with ⟨i, ⟨h1, h2⟩, h3⟩ | ⟨h1, h2⟩
  · obtain ⟨s', k1, k2, k3⟩ := got_at hv hk hd h1
    rw [k1] at h2
    have e : s' = s := h2
    have hg : i < (gotL l h d).length := by rw [got_len hv hk hd]; exact h1
    have hm : ((s : Int), d) ∈ (frL l h d).1 := by rw [← got_mem hv hk hd, ← e, ← k1, W6.nth_get hg]; exact List.getElem_mem hg
    rw [frL_eq] at hm
    obtain ⟨a, ha, e2⟩ := List.mem_map.1 hm
    have e3 : ((h.idxOf (a : Int) : Nat) : Int) = (s : Int) := congrArg Prod.fst e2
    have e4 : h.idxOf (a : Int) = s := by omega
    have e5 := (idx_at (mem_who.1 ha).2).2
    rw [e4] at e5
    rw [h3, e5]; omega
  · constructor
    · intro _
      rcases hk.ok s hs with k | ⟨a, k1, k2, _⟩
      · rw [nth_get hs, k]; omega
      · exfalso
        have ha : a ∈ who l h := mem_who.2 ⟨k2, by rw [← k1]; exact List.getElem_mem hs⟩
        have hi := (idx_at (mem_who.1 ha).2)
        have e : h.idxOf (a : Int) = s := hk.one _ _ a hi.1 hs (by rw [← nth_get hi.1]; exact hi.2) k1
        have hm : ownF h d a ∈ gotL l h d := by rw [got_mem hv hk hd, frL_eq]; exact List.mem_map.2 ⟨a, ha, rfl⟩
        obtain ⟨i, hi2, e2⟩ := List.getElem_of_mem hm
        refine h1 i ⟨by rw [← got_len hv hk hd]; exact hi2, ?_⟩
        rw [W6.nth_get hi2, e2]
        show ((h.idxOf (a : Int) : Nat) : Int).toNat = s
        rw [e]; rfl
    · intro _; rw [h2]; omega
def manyN (w : List Int) (k : Nat) : Nat := ((List.range k).filter fun s => decide (0 ≤ nth w s)).length
theorem manyN_succ (w : List Int) (k : Nat) : manyN w (k + 1) = manyN w k + if 0 ≤ nth w k then 1 else 0 := by
  rw [manyN, List.range_succ, List.filter_append, List.length_append, manyN]
  by_cases e : 0 ≤ nth w k <;> simp [e]
theorem manyN_le (w : List Int) (k : Nat) : manyN w k ≤ k := by
  have := List.length_filter_le (fun s => decide (0 ≤ nth w s)) (List.range k)
  rwa [List.length_range] at this
theorem now_many {l : Lett} (hv : ValidL l) {h : List Int} (hk : HoldOk l h) {d : Int} (hd : 0 ≤ d ∧ d ≤ 6) : manyN (nowL l h d) h.length = (who l h).length := by
  have hn1 : ((List.range h.length).filter fun s => decide (0 ≤ nth (nowL l h d) s)).Nodup := List.nodup_range.filter _
  have hn2 : ((who l h).map fun a : Nat => h.idxOf (a : Int)).Nodup := map_nodup (who_nodup l h _) fun a ha b hb e => by
    have h1 := (idx_at (mem_who.1 ha).2).2
    rw [e, (idx_at (mem_who.1 hb).2).2] at h1
    omega
  have hiff : ∀ s, s ∈ ((List.range h.length).filter fun s => decide (0 ≤ nth (nowL l h d) s)) ↔ s ∈ ((who l h).map fun a : Nat => h.idxOf (a : Int)) := fun s => by
    rw [List.mem_filter, List.mem_range, decide_eq_true_eq, List.mem_map]
    constructor
    · rintro ⟨hs, h1⟩
      have h2 := now_iff hv hk hd hs
      rcases hk.ok s hs with k | ⟨a, k1, k2, _⟩
      · rw [nth_get hs, k] at h2; omega
      · have ha : a ∈ who l h := mem_who.2 ⟨k2, by rw [← k1]; exact List.getElem_mem hs⟩
        have hi := (idx_at (mem_who.1 ha).2)
        exact ⟨a, ha, hk.one _ _ a hi.1 hs (by rw [← nth_get hi.1]; exact hi.2) k1⟩
    · rintro ⟨a, ha, rfl⟩
      have hi := (idx_at (mem_who.1 ha).2)
      refine ⟨hi.1, ?_⟩
      have h2 := now_iff hv hk hd hi.1
      rw [hi.2] at h2
      omega
  have h1 := nodup_sub_len hn1 fun x hx => (hiff x).1 hx
  have h2 := nodup_sub_len hn2 fun x hx => (hiff x).2 hx
  rw [List.length_map] at h1 h2
  unfold manyN
  omega
end Go.Sim
