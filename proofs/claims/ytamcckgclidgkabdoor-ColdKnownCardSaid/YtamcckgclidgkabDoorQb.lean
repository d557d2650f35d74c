/- Cellars, plainly: warmer air, greater losses; the last fresh hour. -/
import Derived.Test.YtamcckgclidgkabDoorQa
set_option linter.all false
set_option linter.unusedVariables false
set_option linter.unusedSimpArgs false
set_option linter.unusedSectionVars false
namespace Go.Sim
open Go.Proofs
theorem adj_le {α : Type} [NthD α] {f : α → Int} {l : List α} (h : ∀ i, i + 1 < l.length → f (nth l i) ≤ f (nth l (i + 1))) {i : Nat} : ∀ {d : Nat}, i + d < l.length → f (nth l i) ≤ f (nth l (i + d))
  | 0, _ => Int.le_refl _
  | d + 1, hd => Int.le_trans (adj_le h (d := d) (by omega)) (h (i + d) (by omega))
theorem adj_lt {α : Type} [NthD α] {f : α → Int} {l : List α} (h : ∀ i, i + 1 < l.length → f (nth l i) < f (nth l (i + 1))) {i : Nat} {d : Nat} (hd : i + (d + 1) < l.length) : f (nth l i) < f (nth l (i + (d + 1))) :=
  Int.lt_of_le_of_lt (adj_le (fun i hi => by have := h i hi; omega) (d := d) (by omega)) (h (i + d) (by omega))
theorem RatsOk.pairs {l : List Rat} (h : RatsOk l) : l.Pairwise fun r s => r.above < s.above ∧ r.loss ≤ s.loss := by
  rw [List.pairwise_iff_getElem]
  intro i j hi hj hij
  obtain ⟨d, rfl⟩ : ∃ d, j = i + (d + 1) := ⟨j - i - 1, by omega⟩
  rw [← nth_get hi, ← nth_get hj]
  exact ⟨adj_lt (f := Rat.above) (fun i hi => (h.rts i hi).1) hj, adj_le (f := Rat.loss) (fun i hi => (h.rts i hi).2) hj⟩
theorem ValidC.rats {c : Cel} (h : ValidC c) : RatsOk c.rats := ⟨h.r0, h.r6, h.rt, h.rts⟩
theorem lossF_skip {w : Int} : ∀ {l : List Rat} {n : Int}, (∀ r ∈ l, w < r.above) → l.foldl (fun n r => if r.above ≤ w then r.loss else n) n = n
  | [], _, _ => rfl
  | r :: l, n, h => by
    simp only [List.foldl_cons]
    rw [if_neg (by have := h r (by simp); omega)]
    exact lossF_skip fun s hs => h s (by simp [hs])
theorem lossR_cut {l : List Rat} (h : RatsOk l) {w : Int} {i : Nat} (hi : i < l.length) (hw : w < l[i].above) : lossR l w = lossR (l.take i) w := by
  conv => lhs; rw [← List.take_append_drop i l]
  rw [lossR, List.foldl_append]
  refine lossF_skip fun r hr => ?_
  obtain ⟨j, hj, rfl⟩ := List.getElem_of_mem hr
  rw [List.getElem_drop]
  rcases Nat.eq_zero_or_pos j with e | e
  · subst e; simpa using hw
  · have := (List.pairwise_iff_getElem.1 h.pairs i (i + j) hi (by rw [List.length_drop] at hj; omega) (by omega)).1
    omega
theorem lossR_snoc {l : List Rat} {w : Int} {i : Nat} (hi : i < l.length) : lossR (l.take (i + 1)) w = if l[i].above ≤ w then l[i].loss else lossR (l.take i) w := by
  rw [List.take_succ_eq_append_getElem hi, lossR, List.foldl_append]; rfl
theorem verd_one {a b : Bool} : verd a b = 1 ↔ a = true := by unfold verd; cases a <;> cases b <;> simp
theorem airS_out {c : Cel} {l : CLot} {h : Int} (hb : inBox l.stays h = none) : airS c l h = c.hall := by rw [airS, hb]
theorem inBox_mem : ∀ {l : List Sty} {h b : Int}, inBox l h = some b → ∃ s ∈ l, s.box = b ∧ s.frm ≤ h ∧ h < s.til
  | s :: r, h, b, e => by
    rw [inBox] at e
    split at e
    · rename_i hs; cases e; exact ⟨s, by simp, rfl, hs.1, hs.2⟩
    · obtain ⟨s', h1, h2⟩ := inBox_mem e
      exact ⟨s', by simp [h1], h2⟩
theorem inBox_hit {l : List Sty} {h : Int} {i : Nat} (hi : i < l.length) (he : inBox l h = inBox (l.drop i) h) (hs : l[i].frm ≤ h ∧ h < l[i].til) : inBox l h = some l[i].box := by
  rw [he, List.drop_eq_getElem_cons hi, inBox, if_pos hs]
theorem inBox_skip {l : List Sty} {h : Int} {i : Nat} (hi : i < l.length) (he : inBox l h = inBox (l.drop i) h) (hs : ¬ (l[i].frm ≤ h ∧ h < l[i].til)) : inBox l h = inBox (l.drop (i + 1)) h := by
  rw [he, List.drop_eq_getElem_cons hi, inBox, if_neg hs]
theorem inBox_done {l : List Sty} {h : Int} {i : Nat} (hi : l.length ≤ i) (he : inBox l h = inBox (l.drop i) h) : inBox l h = none := by
  rw [he, List.drop_of_length_le hi]; rfl
theorem LotOk.inBox {n : Nat} {l : CLot} (k : LotOk n l) {h b : Int} (e : inBox l.stays h = some b) : 0 ≤ b ∧ b.toNat < n ∧ 0 ≤ h ∧ h < 240 := by
  obtain ⟨s, h1, rfl, h3⟩ := inBox_mem e
  have := k.st.mem s h1
  have := k.born
  omega
/-- the last of the first so many that is not above a bound -/
def lastK (f : Nat → Int) (b : Int) : Nat → Nat
  | 0 => 0
  | n + 1 => if f (n + 1) ≤ b then n + 1 else lastK f b n
theorem lastK_stop {f : Nat → Int} {b : Int} (hf : ∀ i j, i ≤ j → f i ≤ f j) {k : Nat} (h1 : f k ≤ b) (h2 : b < f (k + 1)) : ∀ {n : Nat}, k ≤ n → lastK f b n = k
  | 0, h => by rw [lastK]; omega
  | n + 1, h => by
    by_cases e : k = n + 1
    · subst e; rw [lastK, if_pos h1]
    · have := hf (k + 1) (n + 1) (by omega)
      rw [lastK, if_neg (by omega)]
      exact lastK_stop hf h1 h2 (by omega)
theorem lostS_mono {c : Cel} (h : ValidC c) (l : CLot) {i : Nat} : ∀ {d : Nat}, (lostS c l i).lo ≤ (lostS c l (i + d)).lo ∧ (lostS c l i).hi ≤ (lostS c l (i + d)).hi
  | 0 => ⟨Int.le_refl _, Int.le_refl _⟩
  | d + 1 => by
    have ih := lostS_mono h l (i := i) (d := d)
    have h1 := lossR_in h.rt (airS c l (l.born + (i + d : Nat))).lo
    have h2 := lossR_in h.rt (airS c l (l.born + (i + d : Nat))).hi
    show _ ≤ (lostS c l ((i + d) + 1)).lo ∧ _ ≤ (lostS c l ((i + d) + 1)).hi
    simp only [lostS]; omega
theorem cel_eta (c : Cel) : (⟨c.hall, c.boxes, c.fils, c.rats⟩ : Cel) = c := rfl
theorem cbox_eta (b : CBox) : (⟨b.room, b.ice, b.melt, b.cld, b.wrm⟩ : CBox) = b := rfl
theorem clot_eta (l : CLot) : (⟨l.born, l.keeps, l.stays⟩ : CLot) = l := rfl
attribute [simp] cel_eta cbox_eta clot_eta
end Go.Sim
