/- Scoops, plainly: what may be left out; the cellar with scoops is a valid one. -/
import Derived.Test.YtamcckgclidgkabDoorQg
set_option linter.all false
set_option linter.unusedVariables false
set_option linter.unusedSimpArgs false
set_option linter.unusedSectionVars false
namespace Go.Sim
open Go.Proofs
theorem scoopF_app {b grams : Int} : ∀ {vs pre t : List Int}, scoopF b grams vs (pre ++ t) = scoopF b grams vs pre ++ scoopF b grams (vs.drop pre.length) t
  | vs, [], t => by cases vs <;> simp [scoopF]
  | [], n :: pre, t => by simp [scoopF]
  | v :: vs, n :: pre, t => by simp only [List.cons_append, scoopF, List.length_cons, List.drop_succ_cons, List.append_assoc, scoopF_app (vs := vs) (pre := pre)]
theorem scoopF_hour {b grams : Int} : ∀ {vs sc : List Int}, ∀ f ∈ scoopF b grams vs sc, f.box = b ∧ f.grams = grams ∧ f.hour ∈ vs
  | v :: vs, n :: sc, f, hf => by
    rw [scoopF] at hf
    rcases List.mem_append.1 hf with hf | hf
    · rw [List.eq_of_mem_replicate hf]; exact ⟨rfl, rfl, by simp⟩
    · obtain ⟨h1, h2, h3⟩ := scoopF_hour f hf
      exact ⟨h1, h2, by simp [h3]⟩
  | [], _, f, hf => by simp [scoopF] at hf
  | _ :: _, [], f, hf => by simp [scoopF] at hf
theorem fallN_fils' {room b : Int} {l l' : List Fil} {m : Nat → Int} {x : Int} : ∀ {t : Nat}, (∀ h : Int, h ≤ t → l.filter (fun f => decide (f.box = b ∧ f.hour = h)) = l'.filter (fun f => decide (f.box = b ∧ f.hour = h))) → fallN room b l m x t = fallN room b l' m x t
  | 0, h => by rw [fallN, fallN, putAll_filter, h 0 (by omega), ← putAll_filter]
  | t + 1, h => by rw [fallN, fallN, fallN_fils' (t := t) fun k hk => h k (by omega), putAll_filter, h ((t : Int) + 1) (by omega), ← putAll_filter]
def VisitsOk (vs : List Int) : Prop := (∀ v ∈ vs, 0 ≤ v ∧ v ≤ 239) ∧ vs.Pairwise (· < ·)
/-- Scoops at later visits change nothing before. -/
theorem keepsB_prune {c : Cel} {b : Nat} {grams til : Int} {vs pre t : List Int} (hv : VisitsOk vs) (ht : t ≠ []) (hl : pre.length + t.length = vs.length) (h : keepsB c b grams vs (pre ++ t) til = true) : keepsB c b grams vs pre (min til (nth vs pre.length)) = true := by
  have hlt : pre.length < vs.length := by have := List.length_pos_iff.2 ht; omega
  have hge : ∀ v ∈ vs.drop pre.length, nth vs pre.length ≤ v := by
    intro v hvm
    rw [List.drop_eq_getElem_cons hlt] at hvm
    have hp := hv.2.sublist (List.drop_sublist pre.length vs)
    rw [List.drop_eq_getElem_cons hlt, List.pairwise_cons] at hp
    rw [nth_get hlt]
    rcases List.mem_cons.1 hvm with rfl | hvm
    · omega
    · have := hp.1 v hvm; omega
  unfold keepsB coldTo at h ⊢
  rw [List.all_eq_true] at h ⊢
  intro k hk
  have hk' := List.mem_range.1 hk
  have h1 := h k (List.mem_range.2 (by omega))
  have e : iceLo (withS c b grams vs pre) b k = iceLo (withS c b grams vs (pre ++ t)) b k := by
    refine fallN_fils' fun h hh => ?_
    show (c.fils ++ scoopF b grams vs pre).filter _ = (c.fils ++ scoopF b grams vs (pre ++ t)).filter _
    rw [scoopF_app, ← List.append_assoc, List.filter_append (l₁ := c.fils ++ scoopF b grams vs pre)]
    have : (scoopF b grams (vs.drop pre.length) t).filter (fun f => decide (f.box = (b : Int) ∧ f.hour = h)) = [] := by
      rw [List.filter_eq_nil_iff]
      intro f hf
      have := hge _ (scoopF_hour f hf).2.2
      simp only [decide_eq_true_eq]; omega
    rw [this, List.append_nil]
  rw [e]; exact h1
/-- The program's search and the reference's find the same. -/
theorem try_fill {c : Cel} {b : Nat} {grams til : Int} {vs : List Int} (hv : VisitsOk vs) :
    firstN (fun m => tryF (fun sc => keepsB c b grams vs sc til) (fun pre => keepsB c b grams vs pre (min til (nth vs pre.length))) vs.length [] m) 0 (5 * vs.length + 1) = fillC c b vs grams til := by
  have : (fun m => tryF (fun sc => keepsB c b grams vs sc til) (fun pre => keepsB c b grams vs pre (min til (nth vs pre.length))) vs.length [] m) = fun m => findS (fun sc => keepsB c b grams vs sc til) vs.length [] m :=
    funext fun m => tryF_eq (N := vs.length) (fun pre t ht hl h => keepsB_prune hv ht hl h) vs.length [] m (by simp)
  rw [this, first_best, fillC]
end Go.Sim
