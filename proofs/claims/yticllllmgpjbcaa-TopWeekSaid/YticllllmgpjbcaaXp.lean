/- Stalls that were let, swapped, plainly. -/
import Derived.Test.YticllllmgpjbcaaXa
import Derived.Test.YticllllmgpjbcaaRh
import Derived.Test.YticllllmgpjbcaaPl
set_option linter.all false
set_option linter.unusedVariables false
set_option linter.unusedSimpArgs false
set_option linter.unusedSectionVars false
namespace Go.Sim
open Go.Proofs
def whoL (l : Lett) (h : List Int) (n : Nat) : List Nat := (List.range n).filter fun a : Nat => decide ((a : Int) ∈ h)
def ownF (h : List Int) (d : Int) (a : Nat) : W6.Turn := (((h.idxOf (a : Int) : Nat) : Int), d)
def likF (l : Lett) (d : Int) (a : Nat) : List W6.Turn := likesN l (nth l.apps a) d (nth l.apps a).wishes.length
theorem frN_eq (l : Lett) (h : List Int) (d : Int) : ∀ n, frN l h d n = ((whoL l h n).map (ownF h d), (whoL l h n).map (likF l d), (whoL l h n).map fun a : Nat => (a : Int))
  | 0 => rfl
  | n + 1 => by
    rw [frN, frN_eq l h d n]
    by_cases e : (n : Int) ∈ h
    · have : whoL l h (n + 1) = whoL l h n ++ [n] := by rw [whoL, List.range_succ, List.filter_append, whoL]; simp [e]
      rw [if_pos e, this, stepF]
      simp only [List.map_append, List.map_cons, List.map_nil]
      rfl
    · have : whoL l h (n + 1) = whoL l h n := by rw [whoL, List.range_succ, List.filter_append, whoL]; simp [e]
      rw [if_neg e, this]
abbrev who (l : Lett) (h : List Int) : List Nat := whoL l h l.apps.length
theorem frL_eq (l : Lett) (h : List Int) (d : Int) : frL l h d = ((who l h).map (ownF h d), (who l h).map (likF l d), (who l h).map fun a : Nat => (a : Int)) := frN_eq l h d _
theorem mem_who {l : Lett} {h : List Int} {n a : Nat} : a ∈ whoL l h n ↔ a < n ∧ (a : Int) ∈ h := by
  rw [whoL, List.mem_filter, List.mem_range, decide_eq_true_eq]
theorem who_nodup (l : Lett) (h : List Int) (n : Nat) : (whoL l h n).Nodup := List.nodup_range.filter _
theorem who_len (l : Lett) (h : List Int) : (who l h).length ≤ l.apps.length := by
  have := List.length_filter_le (fun a : Nat => decide ((a : Int) ∈ h)) (List.range l.apps.length)
  rwa [List.length_range] at this
theorem idx_at {h : List Int} {a : Nat} (hm : (a : Int) ∈ h) : h.idxOf (a : Int) < h.length ∧ nth h (h.idxOf (a : Int)) = (a : Int) := by
  have h1 := List.idxOf_lt_length_iff.2 hm
  exact ⟨h1, by rw [nth_get h1]; exact List.getElem_idxOf h1⟩
theorem ownF_inj {l : Lett} {h : List Int} {d : Int} {a b : Nat} (ha : (a : Int) ∈ h) (hb : (b : Int) ∈ h) (e : ownF h d a = ownF h d b) : a = b := by
  have h1 : ((h.idxOf (a : Int) : Nat) : Int) = ((h.idxOf (b : Int) : Nat) : Int) := congrArg Prod.fst e
  have h2 : h.idxOf (a : Int) = h.idxOf (b : Int) := by omega
  have h3 := (idx_at ha).2
  rw [h2, (idx_at hb).2] at h3
  omega
theorem map_nodup {α β : Type} {f : α → β} : ∀ {l : List α}, l.Nodup → (∀ a ∈ l, ∀ b ∈ l, f a = f b → a = b) → (l.map f).Nodup
  | [], _, _ => List.Pairwise.nil
  | x :: l, hn, hi => by
    rw [List.nodup_cons] at hn
    rw [List.map_cons, List.nodup_cons]
    refine ⟨fun hm => ?_, map_nodup hn.2 fun a ha b hb => hi a (by simp [ha]) b (by simp [hb])⟩
    obtain ⟨y, hy, e⟩ := List.mem_map.1 hm
    have := hi y (by simp [hy]) x (by simp) e
    subst this; exact hn.1 hy
def canK (l : Lett) (a : App) (k : Nat) : List Nat := (List.range k).filter (canAt l.stalls a)
theorem likesN_eq (l : Lett) (a : App) (d : Int) : ∀ k, likesN l a d k = (canK l a k).map fun i => (nth a.wishes i, d)
  | 0 => rfl
  | k + 1 => by
    rw [likesN, likesN_eq l a d k]
    by_cases e : canAt l.stalls a k = true
    · have : canK l a (k + 1) = canK l a k ++ [k] := by rw [canK, List.range_succ, List.filter_append, canK]; simp [e]
      rw [if_pos e, this]; simp
    · have : canK l a (k + 1) = canK l a k := by rw [canK, List.range_succ, List.filter_append, canK]; simp [e]
      rw [if_neg e, this]
theorem mem_canK {l : Lett} {a : App} {k i : Nat} : i ∈ canK l a k ↔ i < k ∧ canAt l.stalls a i = true := by rw [canK, List.mem_filter, List.mem_range]
theorem canK_sorted (l : Lett) (a : App) (k : Nat) : (canK l a k).Pairwise (· < ·) := List.pairwise_lt_range.filter _
theorem wish_inj {a : App} (hn : a.wishes.Nodup) {i j : Nat} (hi : i < a.wishes.length) (hj : j < a.wishes.length) (e : nth a.wishes i = nth a.wishes j) : i = j := by
  rw [nth_get hi, nth_get hj] at e
  have h1 := hn.idxOf_getElem i hi
  have h2 := hn.idxOf_getElem j hj
  rw [e, h2] at h1; exact h1.symm
instance : NthD Nat := ⟨0⟩
theorem likes_good {l : Lett} {d : Int} (hd : 0 ≤ d ∧ d ≤ 6) {n : Nat} (hn : n ≤ 8) {a : App} (ha : AppOk n a) : W6.GoodTurns (likesN l a d a.wishes.length) ∧ (likesN l a d a.wishes.length).length ≤ 16 := by
  refine ⟨⟨?_, fun x hx => ?_⟩, ?_⟩
  · rw [likesN_eq]
    exact map_nodup ((canK_sorted l a _).imp fun h => Nat.ne_of_lt h) fun i hi j hj e => wish_inj ha.nodup (mem_canK.1 hi).1 (mem_canK.1 hj).1 (congrArg Prod.fst e)
  · rw [likesN_eq] at hx
    obtain ⟨i, hi, rfl⟩ := List.mem_map.1 hx
    have hil := (mem_canK.1 hi).1
    have := ha.wish _ (List.getElem_mem hil)
    rw [← nth_get hil] at this
    unfold W6.validT
    simp only [Bool.and_eq_true, decide_eq_true_eq]
    omega
  · have h1 := likesN_len l a d a.wishes.length
    have h2 := ha.wlen
    omega
theorem fr_valid {l : Lett} (hv : ValidL l) {h : List Int} (hk : HoldOk l h) {d : Int} (hd : 0 ≤ d ∧ d ≤ 6) : W6.ValidT (frL l h d).1 (frL l h d).2.1 := by
  rw [frL_eq]
  have h8 := hv.a8
  have hs8 := hv.s8
  have hl := who_len l h
  refine ⟨by show ((who l h).map _).length ≤ 8; rw [List.length_map]; omega, by simp, ⟨map_nodup (who_nodup _ _ _) fun a ha b hb e => ownF_inj (l := l) (mem_who.1 ha).2 (mem_who.1 hb).2 e, fun x hx => ?_⟩, fun x hx => ?_⟩
  · obtain ⟨a, ha, rfl⟩ := List.mem_map.1 hx
    have h1 := (idx_at (mem_who.1 ha).2).1
    have h2 := hk.len
    unfold W6.validT ownF
    simp only [Bool.and_eq_true, decide_eq_true_eq]
    omega
  · obtain ⟨a, ha, rfl⟩ := List.mem_map.1 hx
    have hal := (mem_who.1 ha).1
    exact likes_good hd hs8 (by rw [nth_get hal]; exact hv.ap _ (List.getElem_mem hal))
theorem fr_len (l : Lett) (h : List Int) (d : Int) : (frL l h d).1.length = (who l h).length ∧ (frL l h d).2.1.length = (who l h).length ∧ (frL l h d).2.2.length = (who l h).length := by
  rw [frL_eq]; simp
end Go.Sim
