/- Scoops, plainly: what the reference tries. -/
import Derived.Test.YtfenmmjeppehaaaQf
set_option linter.all false
set_option linter.unusedVariables false
set_option linter.unusedSimpArgs false
set_option linter.unusedSectionVars false
namespace Go.Sim
open Go.Proofs
/-- f of so many numbers from one on, each after the other -/
def foldN {α : Type} (f : Int → α → α) (i : Int) : Nat → α → α
  | 0, b => b
  | n + 1, b => foldN f (i + 1) n (f i b)
theorem foldN_range {α : Type} (f : Int → α → α) : ∀ (n : Nat) (i : Int) (b : α), foldN f i n b = (List.range n).foldl (fun b (k : Nat) => f (i + k) b) b
  | 0, i, b => rfl
  | n + 1, i, b => by
    rw [foldN, foldN_range f n, List.range_succ_eq_map, List.foldl_cons, List.foldl_map]
    have : (fun b (k : Nat) => f (i + 1 + (k : Int)) b) = fun b (k : Nat) => f (i + ((k + 1 : Nat) : Int)) b := by
      funext b k; rw [show i + 1 + (k : Int) = i + ((k + 1 : Nat) : Int) from by omega]
    rw [this, show i + ((0 : Nat) : Int) = i from by omega]
theorem foldN_snoc {α : Type} (f : Int → α → α) : ∀ (n : Nat) (i : Int) (b : α), foldN f i (n + 1) b = f (i + n) (foldN f i n b)
  | 0, i, b => by rw [foldN, foldN, foldN, show i + ((0 : Nat) : Int) = i from by omega]
  | n + 1, i, b => by rw [foldN, foldN_snoc f n (i + 1), foldN, show i + 1 + (n : Int) = i + ((n + 1 : Nat) : Int) from by omega]
/-- is there a list already that is as short as one that begins so -/
def doneB (begun : List Int) : Option (List Int) → Bool
  | none => false
  | some x => decide (sumI x ≤ sumI begun)
def fillR (ok : List Int → Bool) : Nat → List Int → Option (List Int) → Option (List Int)
  | 0, begun, best => if doneB begun best = true then best else if ok begun = true then some begun else best
  | r + 1, begun, best => if doneB begun best = true then best else foldN (fun n b => fillR ok r (begun ++ [n]) b) 0 6 best
theorem step_done {ok : List Int → Bool} {begun : List Int} {best : Option (List Int)} (h : doneB begun best = true) : ∀ {L : List (List Int)}, (∀ t ∈ L, 0 ≤ sumI t) → (L.map (begun ++ ·)).foldl (stepB ok) best = best
  | [], _ => rfl
  | t :: L, hL => by
    rw [List.map_cons, List.foldl_cons]
    have : stepB ok best (begun ++ t) = best := by
      cases best with
      | none => cases h
      | some x =>
        have h1 : sumI x ≤ sumI begun := of_decide_eq_true h
        have h2 := hL t (by simp)
        unfold stepB
        have h3 : decide (sumI (begun ++ t) < sumI x) = false := decide_eq_false (by rw [sumI_app]; omega)
        simp only [h3, Bool.false_and, Bool.false_eq_true, if_false]
    rw [this]; exact step_done h fun t ht => hL t (by simp [ht])
theorem fillR_eq {ok : List Int → Bool} : ∀ (r : Nat) (begun : List Int) (best : Option (List Int)), fillR ok r begun best = ((allS r).map (begun ++ ·)).foldl (stepB ok) best
  | 0, begun, best => by
    rw [fillR]
    split
    · rename_i h
      rw [step_done h fun t ht => (allS_sum ht).1]
    · rename_i h
      simp only [allS, List.map_cons, List.map_nil, List.append_nil, List.foldl_cons, List.foldl_nil, stepB]
      cases best with
      | none => simp
      | some x =>
        have h1 : decide (sumI begun < sumI x) = true := decide_eq_true (by
          have : ¬ sumI x ≤ sumI begun := fun q => h (decide_eq_true q)
          omega)
        simp only [h1, Bool.true_and]
  | r + 1, begun, best => by
    rw [fillR]
    split
    · rename_i h
      rw [step_done h fun t ht => (allS_sum ht).1]
    · rename_i hd
      clear hd
      rw [foldN_range, allS]
      have ih := fun n b => fillR_eq (ok := ok) r (begun ++ [n]) b
      generalize List.range 6 = L
      induction L generalizing best with
      | nil => rfl
      | cons k L ihL =>
        rw [List.foldl_cons, List.flatMap_cons, List.map_append, List.foldl_append, ih]
        have : (allS r).map (fun x => begun ++ [(0 : Int) + (k : Int)] ++ x) = ((allS r).map fun l => (k : Int) :: l).map (begun ++ ·) := by
          rw [List.map_map]
          refine List.map_congr_left fun t _ => ?_
          simp
        rw [this]
        exact ihL _
theorem fillR_best {ok : List Int → Bool} {n : Nat} : fillR ok n [] none = bestL4 ok (allS n) := by
  rw [fillR_eq, bestL4]
  congr 1
  exact (List.map_congr_left fun _ _ => rfl).trans (List.map_id _)
end Go.Sim
