/- What blocks and what pleases: the reference's search and the program's answer alike. -/
import Derived.Test.YticllllmgpjbcaaRu
import Derived.Test.YticllllmgpjbcaaVs
import Derived.Test.YticllllmgpjbcaaVt
namespace Go.Sim.W6
open Go.Proofs Go.Plain
set_option linter.unusedSimpArgs false
/-! ### ranks -/
theorem takesT_length {ow : List Turn} {lk : List (List Turn)} {i : Nat} : (takesT ow lk i).length = (nth lk i).idxOf (nth ow i) + 1 := by
  rw [takesT]; simp [List.length_take, Nat.min_eq_left List.idxOf_le_length]
theorem idxOf_take_of_lt {l : List Turn} {x : Turn} {c : Nat} (h : l.idxOf x < c) (hx : x ∈ l) : (l.take c).idxOf x = l.idxOf x ∧ x ∈ l.take c := by
  have hlt : l.idxOf x < l.length := List.idxOf_lt_length_iff.2 hx
  have hmem : x ∈ l.take c := by
    rw [List.mem_take_iff_getElem]
    exact ⟨l.idxOf x, by omega, List.getElem_idxOf hlt⟩
  refine ⟨?_, hmem⟩
  conv => rhs; rw [← List.take_append_drop c l]
  rw [List.idxOf_append, if_pos hmem]
theorem rkR_eq (ow : List Turn) (lk : List (List Turn)) (i : Nat) (x : Turn) : rkR ow lk i x = if x = nth ow i then (nth lk i).idxOf (nth ow i) else if (nth lk i).idxOf x < (nth lk i).idxOf (nth ow i) then (nth lk i).idxOf x else (nth lk i).idxOf (nth ow i) + 1 := by
  rw [rkR, takesT]
  generalize nth lk i = l
  generalize nth ow i = o
  have hlen : (l.take (l.idxOf o)).length = l.idxOf o := by rw [List.length_take, Nat.min_eq_left List.idxOf_le_length]
  have hno : o ∉ l.take (l.idxOf o) := by
    intro h
    obtain ⟨j, hj, he⟩ := List.mem_take_iff_getElem.1 h
    have := idxOf_getElem_le (l := l) (i := j) (by omega)
    rw [he] at this; omega
  split
  · rename_i h
    subst h
    rw [List.idxOf_append, if_neg hno, hlen]; simp
  · rename_i hne
    split
    · rename_i hlt
      have hx : x ∈ l := List.idxOf_lt_length_iff.1 (Nat.lt_of_lt_of_le hlt List.idxOf_le_length)
      obtain ⟨h1, h2⟩ := idxOf_take_of_lt hlt hx
      rw [List.idxOf_append, if_pos h2, h1]
    · rename_i hlt
      have hx : x ∉ l.take (l.idxOf o) := by
        intro h
        obtain ⟨j, hj, he⟩ := List.mem_take_iff_getElem.1 h
        have := idxOf_getElem_le (l := l) (i := j) (by omega)
        rw [he] at this; omega
      rw [List.idxOf_append, if_neg hx, hlen, idxOf_cons_ne _ (Ne.symm hne)]; simp; omega
theorem rk_rkR {ow : List Turn} {lk : List (List Turn)} (hv : ValidT ow lk) {i : Nat} (hi : i < ow.length) (x : Turn) : rkR ow lk i x ≤ (takesT ow lk i).length ∧ (takesT ow lk i).length ≤ 17 ∧ rk ow lk i x = if rkR ow lk i x < (takesT ow lk i).length then (rkR ow lk i x : Int) else 17 := by
  have hk : i < lk.length := by have := hv.same; omega
  have h16 : (nth lk i).length ≤ 16 := by rw [nth_get hk]; exact (hv.likes _ (List.getElem_mem hk)).2
  have hc : (nth lk i).idxOf (nth ow i) ≤ (nth lk i).length := List.idxOf_le_length
  rw [takesT_length, rkR_eq, rk, rankI]
  refine ⟨?_, by omega, ?_⟩
  · split
    · omega
    · split <;> omega
  · by_cases hx : x = nth ow i
    · rw [if_pos hx, if_pos hx, if_pos (by omega)]
    · rw [if_neg hx, if_neg hx]
      by_cases hlt : (nth lk i).idxOf x < (nth lk i).idxOf (nth ow i)
      · have hm : x ∈ nth lk i := List.idxOf_lt_length_iff.1 (Nat.lt_of_lt_of_le hlt hc)
        rw [if_pos hlt, if_pos hm, if_pos (by omega), if_pos (by omega)]
      · rw [if_neg hlt, if_neg (Nat.lt_irrefl _)]
        by_cases hm : x ∈ nth lk i
        · rw [if_pos hm, if_neg (by omega)]
        · rw [if_neg hm, if_neg (by omega)]
theorem can_iff {ow : List Turn} {lk : List (List Turn)} {held : List Turn} (hv : ValidT ow lk) {i o : Nat} (hi : i < ow.length) : (decide (rkR ow lk i (nth ow o) < (takesT ow lk i).length) && decide (rkR ow lk i (nth ow o) ≤ rkR ow lk i (nth held i))) = canG ow lk held i o := by
  obtain ⟨a1, a2, a3⟩ := rk_rkR hv hi (nth ow o)
  obtain ⟨b1, _, b3⟩ := rk_rkR hv hi (nth held i)
  rw [canG, a3, b3]
  by_cases h1 : rkR ow lk i (nth ow o) < (takesT ow lk i).length
  · rw [if_pos h1]
    by_cases h2 : rkR ow lk i (nth held i) < (takesT ow lk i).length
    · rw [if_pos h2]
      rw [decide_eq_true h1, decide_eq_false (show ¬ ((rkR ow lk i (nth ow o) : Int) = 17) by omega)]
      simp only [Bool.true_and, Bool.not_false]
      by_cases h3 : rkR ow lk i (nth ow o) ≤ rkR ow lk i (nth held i)
      · rw [decide_eq_true h3, decide_eq_false (by omega)]; rfl
      · rw [decide_eq_false h3, decide_eq_true (by omega)]; rfl
    · rw [if_neg h2, decide_eq_true h1, decide_eq_true (show rkR ow lk i (nth ow o) ≤ rkR ow lk i (nth held i) by omega), decide_eq_false (by omega), decide_eq_false (by omega)]; rfl
  · rw [if_neg h1, decide_eq_false h1]; simp
theorem gain_iff {ow : List Turn} {lk : List (List Turn)} {held : List Turn} (hv : ValidT ow lk) {i o : Nat} (hi : i < ow.length) (hc : canG ow lk held i o = true) : decide (rkR ow lk i (nth ow o) < rkR ow lk i (nth held i)) = gainG ow lk held i o := by
  rw [← can_iff hv hi] at hc
  simp only [Bool.and_eq_true, decide_eq_true_eq] at hc
  obtain ⟨a1, a2, a3⟩ := rk_rkR hv hi (nth ow o)
  obtain ⟨b1, _, b3⟩ := rk_rkR hv hi (nth held i)
  rw [gainG, a3, b3, if_pos hc.1]
  by_cases h2 : rkR ow lk i (nth held i) < (takesT ow lk i).length
  · rw [if_pos h2]; exact decide_eq_decide.2 (by omega)
  · rw [if_neg h2, decide_eq_true (by omega), decide_eq_true (by omega)]
theorem wants_more {ow : List Turn} {lk : List (List Turn)} {held : List Turn} (hv : ValidT ow lk) {a b : Nat} (ha : a < ow.length) : wantsR ow lk held a b = more ow lk held a b := by
  obtain ⟨a1, a2, a3⟩ := rk_rkR hv ha (nth held b)
  obtain ⟨b1, _, b3⟩ := rk_rkR hv ha (nth held a)
  rw [wantsR, more, a3, b3]
  refine decide_eq_decide.2 ?_
  by_cases h1 : rkR ow lk a (nth held b) < (takesT ow lk a).length
  · rw [if_pos h1]
    by_cases h2 : rkR ow lk a (nth held a) < (takesT ow lk a).length
    · rw [if_pos h2]; omega
    · rw [if_neg h2]; omega
  · rw [if_neg h1]
    by_cases h2 : rkR ow lk a (nth held a) < (takesT ow lk a).length
    · rw [if_pos h2]; omega
    · rw [if_neg h2]; omega
/-! ### groups that block -/
theorem any_congr' {α : Type} {p q : α → Bool} {l : List α} (h : ∀ x ∈ l, p x = q x) : l.any p = l.any q := by
  induction l with
  | nil => rfl
  | cons x xs ih => rw [List.any_cons, List.any_cons, h x (by simp), ih fun y hy => h y (List.mem_cons_of_mem _ hy)]
theorem nth_setB {l : List Bool} {i j : Nat} (hi : i < l.length) (hj : j < l.length) : nth (l.set i true) j = if i = j then true else nth l j := by
  rw [nth_get (by simpa using hj), nth_get hj, List.getElem_set]
theorem rblk_giveB {ow : List Turn} {lk : List (List Turn)} {held : List Turn} (hv : ValidT ow lk) {g : List Nat} (hg : ∀ y ∈ g, y < ow.length) : ∀ (f : Nat) (gv : List Nat) (tk : List Bool) (better : Bool), tk.length = ow.length → (∀ y, y < ow.length → nth tk y = decide (y ∈ gv)) → gv.length ≤ g.length →
    rblk ow lk held g f gv better = giveB (canG ow lk held) (gainG ow lk held) g f tk gv.length better
  | 0, _, _, _, _, _, _ => rfl
  | f + 1, gv, tk, better, hl, ht, hgl => by
    rw [rblk, giveB]
    split
    · rfl
    · rename_i hne
      have hlt : gv.length < g.length := by omega
      have ha : nth g gv.length < ow.length := by rw [nth_get hlt]; exact hg _ (List.getElem_mem hlt)
      refine any_congr' fun o ho => ?_
      have hoo := hg o ho
      rw [ht o hoo, Bool.and_assoc (!decide (o ∈ gv)), can_iff hv ha]
      cases hc : canG ow lk held (nth g gv.length) o with
      | false => simp
      | true =>
        rw [gain_iff hv ha hc]
        have := rblk_giveB (held := held) hv hg f (gv ++ [o]) (tk.set o true) (better || gainG ow lk held (nth g gv.length) o) (by simpa using hl) (fun y hy => by
          rw [nth_setB (by omega) (by omega), ht y hy]
          by_cases hyo : o = y
          · subst hyo; simp
          · rw [if_neg hyo]; simp [Ne.symm hyo]) (by simp; omega)
        rw [this, List.length_append, List.length_singleton]
theorem rblkG_eq {ow : List Turn} {lk : List (List Turn)} {held : List Turn} (hv : ValidT ow lk) {g : List Nat} (hg : ∀ y ∈ g, y < ow.length) : rblkG ow lk held g = blockG ow lk held g :=
  rblk_giveB hv hg _ [] _ _ (by simp) (fun y hy => by rw [nth_get (by simpa using hy)]; simp) (by simp)
theorem gr_cho (n many : Nat) : ∀ (f : Nat) (l : List Nat) (next : Nat), l.length ≤ many → many < f + l.length → gr n many f l next = (cho n (many - l.length) next).map (l ++ ·)
  | 0, l, next, h1, h2 => by omega
  | f + 1, l, next, h1, h2 => by
    by_cases hl : l.length = many
    · rw [gr_full hl, hl, Nat.sub_self]; simp [cho]
    · rw [gr_go hl, show many - l.length = (many - l.length - 1) + 1 by omega, cho, List.map_flatMap]
      refine flatMap_congr' fun i _ => ?_
      rw [gr_cho n many f (l ++ [i]) (i + 1) (by simp; omega) (by simp; omega), List.length_append, List.length_singleton, List.map_map, Nat.sub_sub]
      simp [Function.comp_def]
theorem foundG_cho (n many : Nat) (stop : List Nat → Bool) : foundG n many stop = (cho n many 0).find? stop := by
  rw [foundG, gr_cho n many (many + 1) [] 0 (by simp) (by simp)]; simp
/-! ### rings that please -/
theorem firstNE_congr {g h : Nat → List Nat} {l : List Nat} (e : ∀ x ∈ l, g x = h x) : firstNE g l = firstNE h l := by
  induction l with
  | nil => rfl
  | cons x xs ih => rw [firstNE, firstNE, e x (by simp), ih fun y hy => e y (List.mem_cons_of_mem _ hy)]
theorem firstNE_nil {g : Nat → List Nat} {l : List Nat} (e : ∀ x ∈ l, g x = []) : firstNE g l = [] := by
  induction l with
  | nil => rfl
  | cons x xs ih => rw [firstNE, if_pos (e x (by simp)), ih fun y hy => e y (List.mem_cons_of_mem _ hy)]
theorem firstNE_from {g : Nat → List Nat} : ∀ {k n : Nat}, (∀ x, x < k → g x = []) → k ≤ n → ∀ d, d ≤ k → firstNE g (List.range' (k - d) (n - (k - d))) = firstNE g (List.range' k (n - k))
  | k, n, h, hk, 0, _ => rfl
  | k, n, h, hk, d + 1, hd => by
    rw [firstNE_skip (by omega) (h _ (by omega)), show k - (d + 1) + 1 = k - d by omega]
    exact firstNE_from h hk d (by omega)
theorem rple_bad {P : List Nat → Bool} {n many : Nat} {l : List Nat} (h : ∀ r, P (l ++ r) = false) : ∀ (f : Nat) (r : List Nat), rple P n many f (l ++ r) = []
  | 0, _ => rfl
  | f + 1, r => by
    rw [rple]
    split
    · rw [h r]; rfl
    · refine firstNE_nil fun i _ => ?_
      split
      · rfl
      · rw [List.append_assoc]; exact rple_bad h f (r ++ [i])
def Chain (lkf : Nat → Nat → Bool) : List Nat → Prop
  | [] => True
  | [_] => True
  | a :: b :: r => lkf a b = true ∧ Chain lkf (b :: r)
theorem Chain.snoc {lkf : Nat → Nat → Bool} : ∀ {l : List Nat} {x : Nat}, Chain lkf l → (∀ h : l ≠ [], lkf (l.getLast h) x = true) → Chain lkf (l ++ [x])
  | [], _, _, _ => trivial
  | [a], x, _, h => ⟨h (by simp), trivial⟩
  | a :: b :: r, x, hc, h => ⟨hc.1, Chain.snoc (l := b :: r) hc.2 fun hne => by simpa using h (by simp)⟩
theorem Chain.get {lkf : Nat → Nat → Bool} : ∀ {l : List Nat}, Chain lkf l → ∀ i, i + 1 < l.length → lkf (nth l i) (nth l (i + 1)) = true
  | [], _, i, h => by simp at h
  | [_], _, i, h => by simp at h
  | a :: b :: r, hc, 0, _ => by simpa [nth] using hc.1
  | a :: b :: r, hc, i + 1, h => by have := Chain.get (l := b :: r) hc.2 i (by simpa using h); simpa [nth] using this
theorem plz_all {ow : List Turn} {lk : List (List Turn)} {held : List Turn} {l : List Nat} : plzR ow lk held l = true ↔ (∀ i, i < l.length → nth l i ∉ l.take i ∧ wantsR ow lk held (nth l i) (nth l ((i + 1) % l.length)) = true) ∧ 1 < l.length := by
  rw [plzR]
  simp [List.all_eq_true, List.mem_range'_1]
theorem getLast_nth {l : List Nat} (h : l ≠ []) : l.getLast h = nth l (l.length - 1) := by
  have : l.length - 1 < l.length := by have := List.length_pos_iff.2 h; omega
  rw [nth_get this, List.getLast_eq_getElem]
theorem nth_app {l r : List Nat} {i : Nat} (h : i < l.length) : nth (l ++ r) i = nth l i := by
  rw [nth_get h, nth_get (by simp; omega), List.getElem_append_left h]
theorem nth_mem {l : List Nat} {i : Nat} (h : i < l.length) : nth l i ∈ l := by rw [nth_get h]; exact List.getElem_mem h
theorem rple_seekP {ow : List Turn} {lk : List (List Turn)} {held : List Turn} (hv : ValidT ow lk) {many : Nat} (hm2 : 2 ≤ many) : ∀ (f : Nat) (l : List Nat), l ≠ [] → (∀ y ∈ l, y < ow.length) → l.Nodup → Chain (more ow lk held) l → l.length ≤ many →
    rple (plzR ow lk held) ow.length many f l = seekP (more ow lk held) ow.length many f l
  | 0, _, _, _, _, _, _ => rfl
  | f + 1, l, hne, hl, hnd, hch, hle => by
    have hpos : 0 < l.length := List.length_pos_iff.2 hne
    rw [rple, seekP]
    by_cases hfull : l.length = many
    · rw [if_pos hfull, if_pos hfull]
      have : plzR ow lk held l = more ow lk held (nth l (l.length - 1)) (nth l 0) := by
        rw [Bool.eq_iff_iff, plz_all]
        constructor
        · rintro ⟨h, _⟩
          have := (h (l.length - 1) (by omega)).2
          rw [show l.length - 1 + 1 = l.length by omega, Nat.mod_self] at this
          rwa [← wants_more hv (hl _ (nth_mem (by omega)))]
        · intro h
          refine ⟨fun i hi => ⟨?_, ?_⟩, by omega⟩
          · intro hmem
            obtain ⟨j, hj, he⟩ := List.mem_take_iff_getElem.1 hmem
            rw [nth_get hi] at he
            have := (nodup_inj hnd).1 he
            omega
          · rw [wants_more hv (hl _ (nth_mem hi))]
            by_cases hlast : i + 1 = l.length
            · rw [hlast, Nat.mod_self]
              rwa [show l.length - 1 = i by omega] at h
            · rw [Nat.mod_eq_of_lt (by omega)]
              exact hch.get i (by omega)
      rw [this]
    · rw [if_neg hfull, if_neg hfull]
      have h0 : nth l 0 < ow.length := hl _ (nth_mem hpos)
      have hff := firstNE_from (k := nth l 0 + 1) (n := ow.length) (g := fun i => if l ≠ [] ∧ (i ≤ nth l 0 ∨ i ∈ l) then [] else rple (plzR ow lk held) ow.length many f (l ++ [i])) (fun x hx => if_pos ⟨hne, .inl (by omega)⟩) (by omega) (nth l 0 + 1) (Nat.le_refl _)
      rw [Nat.sub_self] at hff
      rw [hff]
      refine firstNE_congr fun i hi => ?_
      obtain ⟨hi1, hi2⟩ := List.mem_range'_1.1 hi
      by_cases hin : i ∈ l
      · rw [if_pos ⟨hne, .inr hin⟩, if_pos (.inl hin)]
      · rw [if_neg (by rintro ⟨_, h | h⟩; omega; exact hin h)]
        cases hlk : more ow lk held (nth l (l.length - 1)) i with
        | true =>
          rw [if_neg (by simp [hin])]
          refine rple_seekP hv hm2 f (l ++ [i]) (by simp) (fun y hy => ?_) ?_ (hch.snoc fun h => by rw [getLast_nth]; exact hlk) (by simp; omega)
          · rcases List.mem_append.1 hy with h | h
            · exact hl y h
            · obtain rfl := List.mem_singleton.1 h; omega
          · rw [List.nodup_append]
            exact ⟨hnd, by simp, fun a ha b hb => by obtain rfl := List.mem_singleton.1 hb; rintro rfl; exact hin ha⟩
        | false =>
          rw [if_pos (.inr rfl)]
          have := rple_bad (P := plzR ow lk held) (n := ow.length) (many := many) (l := l ++ [i]) (fun r => by
            rw [Bool.eq_false_iff, Ne, plz_all]
            rintro ⟨h, _⟩
            have h1 := (h (l.length - 1) (by simp; omega)).2
            rw [Nat.mod_eq_of_lt (by simp; omega), show l.length - 1 + 1 = l.length by omega] at h1
            rw [List.append_assoc, nth_app (by omega), show nth (l ++ ([i] ++ r)) l.length = i by rw [nth_get (by simp)]; simp, wants_more hv (hl _ (nth_mem (by omega))), hlk] at h1
            cases h1) f []
          simpa using this
theorem rple_pleaseM {ow : List Turn} {lk : List (List Turn)} {held : List Turn} (hv : ValidT ow lk) {many : Nat} (hm2 : 2 ≤ many) : rple (plzR ow lk held) ow.length many (many + 1) [] = pleaseM (more ow lk held) ow.length many := by
  rw [rple, if_neg (by simp; omega), pleaseM]
  refine firstNE_congr fun i hi => ?_
  obtain ⟨hi1, hi2⟩ := List.mem_range'_1.1 hi
  rw [if_neg (by simp)]
  exact rple_seekP hv hm2 many [i] (by simp) (by simp; omega) (by simp) trivial (by simp; omega)
end Go.Sim.W6
