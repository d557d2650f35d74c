/- All fair holders leave the same stalls and the same applicants out (plain). -/
import Derived.Test.YtmkclhnokelicaaPa
set_option linter.all false
set_option linter.unusedVariables false
set_option linter.unusedSimpArgs false
set_option linter.unusedSectionVars false
namespace Go.Market
theorem nodup_le' {α : Type} [DecidableEq α] : ∀ {l r : List α}, l.Nodup → (∀ x ∈ l, x ∈ r) → l.length ≤ r.length
  | [], _, _, _ => Nat.zero_le _
  | x :: l, r, hd, hs => by
    obtain ⟨h1, h2⟩ := List.nodup_cons.1 hd
    have h3 := nodup_le' (l := l) (r := r.erase x) h2 fun y hy => (List.mem_erase_of_ne fun e => h1 (by rw [← e]; exact hy)).2 (hs y (List.mem_cons_of_mem _ hy))
    have h4 := List.length_erase_of_mem (hs x List.mem_cons_self)
    have h5 := List.length_pos_of_mem (hs x List.mem_cons_self)
    rw [List.length_cons]; omega
theorem nodup_eq' {α : Type} [DecidableEq α] {l r : List α} (hd : l.Nodup) (hs : ∀ x ∈ l, x ∈ r) (hl : r.length ≤ l.length) : ∀ x ∈ r, x ∈ l := fun x hx => by
  apply Classical.byContradiction
  intro hn
  have := nodup_le' (l := x :: l) (r := r) (List.nodup_cons.2 ⟨hn, hd⟩) fun y hy => (List.mem_cons.1 hy).elim (fun e => e ▸ hx) (hs y)
  rw [List.length_cons] at this; omega
def fillL (M : Mkt) (H : Hold) : List Nat := (List.range M.m).filter fun s => (H s).isSome
def matL (M : Mkt) (H : Hold) : List Nat := (List.range M.n).filter fun a => (List.range M.m).any fun s => H s == some a
theorem mem_fill {M : Mkt} {H : Hold} (hv : Valid M H) {s : Nat} : s ∈ fillL M H ↔ ∃ a, H s = some a := by
  rw [fillL, List.mem_filter, List.mem_range, Option.isSome_iff_exists]
  exact ⟨fun h => h.2, fun ⟨a, ha⟩ => ⟨(hv.ok s a ha).1, a, ha⟩⟩
theorem mem_mat {M : Mkt} {H : Hold} (hv : Valid M H) {a : Nat} : a ∈ matL M H ↔ ∃ s, H s = some a := by
  rw [matL, List.mem_filter, List.mem_range, List.any_eq_true]
  constructor
  · rintro ⟨_, s, _, h⟩; exact ⟨s, by simpa using h⟩
  · rintro ⟨s, hs⟩
    obtain ⟨h1, h2, _⟩ := hv.ok s a hs
    exact ⟨h2, s, List.mem_range.2 h1, by simpa using hs⟩
theorem fill_nodup (M : Mkt) (H : Hold) : (fillL M H).Nodup := List.nodup_range.sublist List.filter_sublist
theorem mat_nodup (M : Mkt) (H : Hold) : (matL M H).Nodup := List.nodup_range.sublist List.filter_sublist
theorem fill_mat {M : Mkt} {H : Hold} (hv : Valid M H) : (fillL M H).length = (matL M H).length := by
  have h1 : (fillL M H).length ≤ (matL M H).length := by
    have := nodup_le' (l := (fillL M H).map fun s => (H s).getD 0) (r := matL M H) ?_ ?_
    · simpa using this
    · rw [List.nodup_iff_pairwise_ne, List.pairwise_map]
      refine (List.nodup_iff_pairwise_ne.1 (fill_nodup M H)).imp_of_mem fun {s t} hs ht hne e => hne ?_
      obtain ⟨a, ha⟩ := (mem_fill hv).1 hs
      obtain ⟨b, hb⟩ := (mem_fill hv).1 ht
      rw [ha, hb] at e
      simp only [Option.getD_some] at e
      exact hv.one s t a ha (by rw [hb, e])
    · intro a ha
      obtain ⟨s, hs, rfl⟩ := List.mem_map.1 ha
      obtain ⟨b, hb⟩ := (mem_fill hv).1 hs
      exact (mem_mat hv).2 ⟨s, by rw [hb]; rfl⟩
  have h2 : (matL M H).length ≤ (fillL M H).length := by
    have := nodup_le' (l := matL M H) (r := (fillL M H).map fun s => (H s).getD 0) (mat_nodup M H) fun a ha => by
      obtain ⟨s, hs⟩ := (mem_mat hv).1 ha
      exact List.mem_map.2 ⟨s, (mem_fill hv).2 ⟨a, hs⟩, by rw [hs]; rfl⟩
    simpa using this
  omega
theorem fill_sub {M : Mkt} (hM : M.Ok) {H K : Hold} (hB : Best M H) (hK : Stable M K) : ∀ s ∈ fillL M H, s ∈ fillL M K := fun s hs => by
  have hv := hB.st.valid
  obtain ⟨a, ha⟩ := (mem_fill hv).1 hs
  obtain ⟨h1, h2, h3⟩ := hv.ok s a ha
  apply Classical.byContradiction
  intro hn
  have hno : ∀ b, K s ≠ some b := fun b hb => hn ((mem_fill hK.valid).2 ⟨b, hb⟩)
  have hle := hB.best K hK a h2
  rw [pl_some hv ha] at hle
  have hlt : M.rk a s < pl M K a := by
    rcases Nat.lt_or_ge (M.rk a s) (pl M K a) with q | q
    · exact q
    · exfalso
      have he : pl M K a = M.rk a s := by omega
      obtain ⟨t, ht⟩ := pl_lt (M := M) (H := K) (a := a) (by rw [he]; exact hM.lt a s h2 h1 h3)
      obtain ⟨t1, _, t3⟩ := hK.valid.ok t a ht
      rw [pl_some hK.valid ht] at he
      have := hM.inj a t s h2 t1 h1 t3 h3 he
      subst this
      exact hno a ht
  exact hK.none a s ⟨h2, h1, h3, hlt, fun b hb => absurd hb (hno b)⟩
theorem mat_sub {M : Mkt} (hM : M.Ok) {H K : Hold} (hB : Best M H) (hK : Stable M K) : ∀ a ∈ matL M K, a ∈ matL M H := fun a ha => by
  obtain ⟨s, hs⟩ := (mem_mat hK.valid).1 ha
  obtain ⟨h1, h2, h3⟩ := hK.valid.ok s a hs
  have hle := hB.best K hK a h2
  rw [pl_some hK.valid hs] at hle
  exact (mem_mat hB.st.valid).2 (pl_lt (Nat.lt_of_le_of_lt hle (hM.lt a s h2 h1 h3)))
/-- the same stalls have a holder, and the same applicants have a stall -/
theorem rural {M : Mkt} (hM : M.Ok) {H K : Hold} (hB : Best M H) (hK : Stable M K) : (∀ s, (∃ a, H s = some a) ↔ ∃ a, K s = some a) ∧ ∀ a, (∃ s, H s = some a) ↔ ∃ s, K s = some a := by
  have f1 := fill_mat hB.st.valid
  have f2 := fill_mat hK.valid
  have f3 := nodup_le' (fill_nodup M H) (fill_sub hM hB hK)
  have f4 := nodup_le' (mat_nodup M K) (mat_sub hM hB hK)
  have g1 := nodup_eq' (fill_nodup M H) (fill_sub hM hB hK) (by omega)
  have g2 := nodup_eq' (mat_nodup M K) (mat_sub hM hB hK) (by omega)
  refine ⟨fun s => ?_, fun a => ?_⟩
  · rw [← mem_fill hB.st.valid, ← mem_fill hK.valid]
    exact ⟨fill_sub hM hB hK s, g1 s⟩
  · rw [← mem_mat hB.st.valid, ← mem_mat hK.valid]
    exact ⟨g2 a, mat_sub hM hB hK a⟩
#print axioms rural
end Go.Market
