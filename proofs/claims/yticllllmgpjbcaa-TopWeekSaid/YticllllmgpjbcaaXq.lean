/- Two days of a week swapped in one trade, plainly. -/
import Derived.Test.YticllllmgpjbcaaXp
import Derived.Test.YticllllmgpjbcaaPe
set_option linter.all false
set_option linter.unusedVariables false
set_option linter.unusedSimpArgs false
set_option linter.unusedSectionVars false
namespace Go.Sim
open Go.Proofs
structure DayT (ow : List W6.Turn) (lk : List (List W6.Turn)) (d : Int) : Prop where
  own : ∀ x ∈ ow, x.2 = d
  like : ∀ l ∈ lk, ∀ x ∈ l, x.2 = d
theorem fr_day (l : Lett) (h : List Int) (d : Int) : DayT (frL l h d).1 (frL l h d).2.1 d := by
  rw [frL_eq]
  refine ⟨fun x hx => ?_, fun z hz x hx => ?_⟩
  · obtain ⟨a, _, rfl⟩ := List.mem_map.1 hx; rfl
  · obtain ⟨a, _, rfl⟩ := List.mem_map.1 hz
    rw [likF, likesN_eq] at hx
    obtain ⟨i, _, rfl⟩ := List.mem_map.1 hx; rfl
theorem nthT_app {a b : List W6.Turn} {i : Nat} (h : i < a.length) : W6.nth (a ++ b) i = W6.nth a i := by
  rw [W6.nth_get (by simp; omega), W6.nth_get h, List.getElem_append_left h]
theorem nthT_app2 {a b : List W6.Turn} {i : Nat} (h : i < b.length) : W6.nth (a ++ b) (a.length + i) = W6.nth b i := by
  rw [W6.nth_get (by simp; omega), W6.nth_get h, List.getElem_append_right (by omega)]; congr 1; omega
theorem nthL_app {a b : List (List W6.Turn)} {i : Nat} (h : i < a.length) : W6.nth (a ++ b) i = W6.nth a i := by
  rw [W6.nth_get (by simp; omega), W6.nth_get h, List.getElem_append_left h]
theorem nthL_app2 {a b : List (List W6.Turn)} {i : Nat} (h : i < b.length) : W6.nth (a ++ b) (a.length + i) = W6.nth b i := by
  rw [W6.nth_get (by simp; omega), W6.nth_get h, List.getElem_append_right (by omega)]; congr 1; omega
theorem takes_day {ow : List W6.Turn} {lk : List (List W6.Turn)} {d : Int} {i : Nat} (h1 : (W6.nth ow i).2 = d) (h2 : ∀ x ∈ W6.nth lk i, x.2 = d) {x : W6.Turn} (hx : x ∈ W6.takesT ow lk i) : x.2 = d := by
  rw [W6.takesT, List.mem_append] at hx
  rcases hx with hx | hx
  · exact h2 x (List.mem_of_mem_take hx)
  · obtain rfl := List.mem_singleton.1 hx; exact h1
section
variable {a b : List W6.Turn} {p q : List (List W6.Turn)} {d e : Int} (va : W6.ValidT a p) (vb : W6.ValidT b q) (da : DayT a p d) (db : DayT b q e) (hde : d ≠ e) (hm : a.length + b.length ≤ 8)
include va vb da db hde hm
theorem week_valid : W6.ValidT (a ++ b) (p ++ q) := by
  refine ⟨by simp; omega, by simp [va.same, vb.same], ⟨List.nodup_append.2 ⟨va.owns.1, vb.owns.1, fun x hx y hy h => hde ?_⟩, fun x hx => ?_⟩, fun l hl => ?_⟩
  · rw [← da.own x hx, ← db.own y hy, h]
  · rcases List.mem_append.1 hx with hx | hx
    · exact va.owns.2 x hx
    · exact vb.owns.2 x hx
  · rcases List.mem_append.1 hl with hl | hl
    · exact va.likes l hl
    · exact vb.likes l hl
theorem week_at {i : Nat} (hi : i < (a ++ b).length) : (i < a.length ∧ (W6.nth (a ++ b) i).2 = d ∧ ∀ x ∈ W6.nth (p ++ q) i, x.2 = d) ∨ (a.length ≤ i ∧ (W6.nth (a ++ b) i).2 = e ∧ ∀ x ∈ W6.nth (p ++ q) i, x.2 = e) := by
  have hsa := va.same
  have hsb := vb.same
  by_cases h : i < a.length
  · refine .inl ⟨h, ?_, ?_⟩
    · rw [nthT_app h, W6.nth_get h]; exact da.own _ (List.getElem_mem h)
    · have hp : i < p.length := by omega
      rw [nthL_app hp, W6.nth_get hp]; exact da.like _ (List.getElem_mem hp)
  · have hl : i - a.length < b.length := by simp at hi; omega
    refine .inr ⟨by omega, ?_, ?_⟩
    · have := nthT_app2 (a := a) hl
      rw [show a.length + (i - a.length) = i by omega] at this
      rw [this, W6.nth_get hl]; exact db.own _ (List.getElem_mem hl)
    · have hq : i - a.length < q.length := by omega
      have := nthL_app2 (a := p) hq
      rw [show p.length + (i - a.length) = i by omega] at this
      rw [this, W6.nth_get hq]; exact db.like _ (List.getElem_mem hq)
theorem week_day {i : Nat} (hi : i < (a ++ b).length) : (W6.nth (W6.swapT (a ++ b) (p ++ q)) i).2 = (W6.nth (a ++ b) i).2 := by
  have hv := week_valid va vb da db hde hm
  have h1 := (W6.swap_mem hv hi).2
  rcases week_at va vb da db hde hm hi with ⟨_, h2, h3⟩ | ⟨_, h2, h3⟩
  · rw [h2]; exact takes_day h2 h3 h1
  · rw [h2]; exact takes_day h2 h3 h1
theorem week_in {i : Nat} (hi : i < (a ++ b).length) : (i < a.length → W6.nth (W6.swapT (a ++ b) (p ++ q)) i ∈ a) ∧ (a.length ≤ i → W6.nth (W6.swapT (a ++ b) (p ++ q)) i ∈ b) := by
  have hv := week_valid va vb da db hde hm
  have h1 := (W6.swap_mem hv hi).1
  have h2 := week_day va vb da db hde hm hi
  have h3 := week_at va vb da db hde hm hi
  constructor
  · intro hl
    rcases h3 with ⟨_, h4, _⟩ | ⟨h4, _⟩
    · rcases List.mem_append.1 h1 with h | h
      · exact h
      · exact absurd ((h4.symm.trans h2.symm).trans (db.own _ h)) hde
    · omega
  · intro hl
    rcases h3 with ⟨h4, _⟩ | ⟨_, h4, _⟩
    · omega
    · rcases List.mem_append.1 h1 with h | h
      · exact absurd ((h4.symm.trans h2.symm).trans (da.own _ h)).symm hde
      · exact h
theorem week_swap : W6.swapT (a ++ b) (p ++ q) = W6.swapT a p ++ W6.swapT b q := by
  have hv := week_valid va vb da db hde hm
  have hsa := va.same
  have hsb := vb.same
  obtain ⟨Z, hZ⟩ : ∃ Z, Z = W6.swapT (a ++ b) (p ++ q) := ⟨_, rfl⟩
  have hl : Z.length = a.length + b.length := by rw [hZ, W6.swap_length hv]; simp
  have h1 : Z.take a.length = W6.swapT a p := by
    refine W6.sub_swap hv va id (fun i hi => ⟨by simp; omega, (nthT_app hi).symm, (nthL_app (by omega)).symm⟩) (by simp; omega) fun i hi => ?_
    have e1 : W6.nth (Z.take a.length) i = W6.nth Z i := by rw [W6.nth_get (by simp; omega), W6.nth_get (by omega)]; simp
    rw [e1, hZ]
    exact ⟨rfl, (week_in va vb da db hde hm (i := i) (by simp; omega)).1 hi⟩
  have h2 : Z.drop a.length = W6.swapT b q := by
    refine W6.sub_swap hv vb (fun i => a.length + i) (fun i hi => ⟨by simp; omega, (nthT_app2 hi).symm, ?_⟩) (by simp; omega) fun i hi => ?_
    · have := nthL_app2 (a := p) (b := q) (i := i) (by omega)
      rw [hsa] at this; exact this.symm
    · have e1 : W6.nth (Z.drop a.length) i = W6.nth Z (a.length + i) := by rw [W6.nth_get (by simp; omega), W6.nth_get (by omega)]; simp
      rw [e1, hZ]
      exact ⟨rfl, (week_in va vb da db hde hm (i := a.length + i) (by simp; omega)).2 (by omega)⟩
  rw [← hZ, ← h1, ← h2, List.take_append_drop]
theorem week_ring {r : List Nat} (hr : r ∈ W6.ringsT (a ++ b) (p ++ q)) : ∀ k, k < r.length → (W6.nth (a ++ b) (W6.nth r k)).2 = (W6.nth (a ++ b) (W6.nth r 0)).2
  | 0, _ => rfl
  | k + 1, hk => by
    have hv := week_valid va vb da db hde hm
    obtain ⟨h1, h2, _⟩ := W6.ring_swap hv hr (k := k) (by omega)
    have h3 := week_day va vb da db hde hm (i := W6.nth r k) (h1 _ (W6.nth_mem (by omega)))
    rw [h2, Nat.mod_eq_of_lt hk] at h3
    rw [h3]; exact week_ring hr k (by omega)
end
def RingDay (a : List W6.Turn) (p : List (List W6.Turn)) : Prop := ∀ r ∈ W6.ringsT a p, (∀ x ∈ r, x < a.length) ∧ ∀ k, k < r.length → (W6.nth a (W6.nth r k)).2 = (W6.nth a (W6.nth r 0)).2
structure WkOk (d e : Int) (i : Nat) (a : List W6.Turn) (p : List (List W6.Turn)) (x : List W6.Turn) : Prop where
  ok : W6.ValidT a p
  due : x = W6.swapT a p
  len : a.length ≤ 3 * i
  none : i = 0 → a = [] ∧ p = [] ∧ x = []
  one : i = 1 → DayT a p d
  two : i = 2 → RingDay a p
theorem WkOk.init (d e : Int) : WkOk d e 0 [] [] [] := ⟨⟨by simp, rfl, ⟨by simp, by simp⟩, by simp⟩, by rfl, by simp, fun _ => ⟨rfl, rfl, rfl⟩, fun h => by omega, fun h => by omega⟩
theorem WkOk.next {d e : Int} (hde : d ≠ e) {i : Nat} (hi : i < 2) {a b : List W6.Turn} {p q : List (List W6.Turn)} {x : List W6.Turn} (k : WkOk d e i a p x) {D : Int} (hD : D = if i = 0 then d else e) (vb : W6.ValidT b q) (db : DayT b q D) (hb : b.length ≤ 3) :
    WkOk d e (i + 1) (a ++ b) (p ++ q) (x ++ W6.swapT b q) := by
  have h1 := k.len
  by_cases h : i = 0
  · obtain ⟨e1, e2, e3⟩ := k.none h
    subst e1; subst e2; subst e3; subst h
    rw [if_pos rfl] at hD
    subst hD
    refine ⟨vb, rfl, by simpa using hb, fun h => by omega, fun _ => db, fun h => by omega⟩
  · have h2 : i = 1 := by omega
    subst h2
    rw [if_neg (by omega)] at hD
    subst hD
    have da := k.one rfl
    have hm : a.length + b.length ≤ 8 := by omega
    refine ⟨week_valid k.ok vb da db hde hm, by rw [k.due, week_swap k.ok vb da db hde hm], by rw [List.length_append]; omega, fun h => by omega, fun h => by omega, fun _ r hr => ⟨?_, fun j hj => week_ring k.ok vb da db hde hm hr j hj⟩⟩
    rw [W6.ringsT_eq (week_valid k.ok vb da db hde hm)] at hr
    exact fun x hx => W6.mem_allRings_flat.1 (List.mem_flatten.2 ⟨r, hr, hx⟩)
theorem WkOk.wf {d e : Int} {i : Nat} {a : List W6.Turn} {p : List (List W6.Turn)} {x : List W6.Turn} (k : WkOk d e i a p x) {y : W6.Turn} (hy : y ∈ x) : W6.validT y = true := by
  rw [k.due] at hy
  obtain ⟨j, hj, rfl⟩ := List.getElem_of_mem hy
  rw [W6.swap_length k.ok] at hj
  have := (W6.swap_mem k.ok hj).1
  rw [W6.nth_get (by rw [W6.swap_length k.ok]; exact hj)] at this
  exact k.ok.owns.2 _ this
theorem bring_week {a b : Int} (ha : 0 ≤ a ∧ a ≤ 6) (hb : 1 ≤ b ∧ b ≤ 6) : 0 ≤ bring (a + b) 7 ∧ bring (a + b) 7 ≤ 6 ∧ a ≠ bring (a + b) 7 := by
  unfold bring
  rw [Int.tmod_eq_emod_of_nonneg (by omega)]
  split
  · omega
  · split <;> omega
def cntR (l : List (List Nat)) (i : Nat) : Nat := (l.take i).flatten.length
theorem cntR_succ {l : List (List Nat)} {i : Nat} (h : i < l.length) : cntR l (i + 1) = cntR l i + l[i].length := by
  unfold cntR
  rw [List.take_succ_eq_append_getElem h, List.flatten_append, List.length_append]; simp only [List.flatten_cons, List.flatten_nil, List.append_nil]
theorem cntR_le (l : List (List Nat)) (i : Nat) : cntR l i ≤ l.flatten.length := by
  unfold cntR
  have : l.flatten = (l.take i).flatten ++ (l.drop i).flatten := by rw [← List.flatten_append, List.take_append_drop]
  rw [this, List.length_append]; exact Nat.le_add_right _ _
theorem cntR_all {l : List (List Nat)} {i : Nat} (h : l.length ≤ i) : cntR l i = l.flatten.length := by
  unfold cntR
  rw [List.take_of_length_le h]
theorem len_flatten {l : List (List Nat)} (h : ∀ r ∈ l, r ≠ []) : l.length ≤ l.flatten.length := by
  induction l with
  | nil => simp
  | cons r l ih =>
    have h1 := List.length_pos_iff.2 (h r (by simp))
    have h2 := ih fun x hx => h x (by simp [hx])
    rw [List.flatten_cons, List.length_append, List.length_cons]; omega
theorem rings_few {ow : List W6.Turn} {lk : List (List W6.Turn)} (hv : W6.ValidT ow lk) : (W6.ringsT ow lk).length ≤ 8 := by
  have h1 := W6.ringsT_count hv
  have h2 := hv.most
  have h3 : (W6.ringsT ow lk).length ≤ (W6.ringsT ow lk).flatten.length := by
    refine len_flatten fun r hr => ?_
    rw [W6.ringsT_eq hv] at hr
    obtain ⟨k, m, hm, hr2⟩ := W6.mem_allRings.1 hr
    have := (Go.Plain.IsRing.mem (W6.ptF_closed ow lk _) hm hr2).2
    exact List.ne_nil_of_mem this
  omega
def weekL : Lett := ⟨[⟨3, 3, -1⟩], [⟨0, 0, [0], [4]⟩, ⟨0, 0, [0], [5]⟩]⟩
theorem weekL_valid : ValidL weekL := checkL_zero.1 (by decide)
theorem weekL_best : BestL weekL [1] := by
  have hv := weekL_valid
  have k0 : RAsk weekL [-1] [0, 0] 0 (-1) := RAsk.init weekL
  have k1 : RAsk weekL [-1] [0, 0] 1 ((0 : Nat) : Int) := k0.next (by decide)
  have k2 : RAsk weekL [0] [0, 0] 1 (-1) := k1.take hv (v := 0) (s := 0) rfl (by decide) (by decide) rfl (by decide) (by decide)
  have k3 : RAsk weekL [0] [0, 0] 2 ((1 : Nat) : Int) := k2.next (by decide)
  have k4 : RAsk weekL [1] [1, 0] 2 ((0 : Nat) : Int) := (k3.bump hv (v := 0) (s := 0) (b := 0) (u := 0) rfl (by decide) (by decide) rfl (by decide) rfl (by decide) rfl).1
  have k5 : RAsk weekL [1] [1, 0] 2 (-1) := k4.rest fun _ => by decide
  exact k5.best hv
def weekOw : List W6.Turn := [(1, 2), (1, 3)]
def weekLk : List (List W6.Turn) := [[(1, 3)], [(1, 2)]]
theorem week_check : W6.checkT weekOw weekLk = 0 := by kernel_rfl
theorem week_ex : W6.swapT weekOw weekLk = [(1, 3), (1, 2)] := by kernel_rfl
end Go.Sim
