/- Scoops, plainly: the fewest ones, found in two ways. -/
import Derived.Test.YtamcckgclidgkabDoorQc
set_option linter.all false
set_option linter.unusedVariables false
set_option linter.unusedSimpArgs false
set_option linter.unusedSectionVars false
namespace Go.Sim
open Go.Proofs
/-- scoops at visits, as fillings -/
def scoopF (b grams : Int) : List Int → List Int → List Fil
  | v :: vs, n :: sc => List.replicate n.toNat ⟨b, v, grams⟩ ++ scoopF b grams vs sc
  | _, _ => []
theorem scoopF_snoc {b grams : Int} : ∀ {vs sc : List Int} {i : Nat}, sc.length ≤ vs.length → (hi : i < sc.length) → (hv : i < vs.length) → scoopF b grams vs (sc.take (i + 1)) = scoopF b grams vs (sc.take i) ++ List.replicate sc[i].toNat ⟨b, vs[i], grams⟩
  | v :: vs, n :: sc, 0, _, _, _ => by simp [scoopF]
  | v :: vs, n :: sc, i + 1, hl, hi, hv => by
    simp only [List.take_succ_cons, scoopF, List.getElem_cons_succ, List.append_assoc]
    rw [scoopF_snoc (by simpa using hl) (by simpa using hi) (by simpa using hv)]
def withS (c : Cel) (b grams : Int) (vs sc : List Int) : Cel := { c with fils := c.fils ++ scoopF b grams vs sc }
/-- the box is surely cold in each hour before one -/
def coldTo (c : Cel) (b : Nat) (u : Int) : Bool := (List.range u.toNat).all fun h => decide (0 < iceLo c b h)
def keepsB (c : Cel) (b : Nat) (grams : Int) (vs sc : List Int) (u : Int) : Bool := coldTo (withS c b grams vs sc) b u
theorem putAll_filter {room b h : Int} : ∀ (l : List Fil) (x : Int), putAll room b h l x = putAll room b h (l.filter fun f => decide (f.box = b ∧ f.hour = h)) x
  | [], x => rfl
  | f :: l, x => by
    have ih := fun y => putAll_filter (room := room) (b := b) (h := h) l y
    by_cases e : f.box = b ∧ f.hour = h
    · rw [List.filter_cons_of_pos (by simpa using e)]
      simp only [putAll, List.foldl_cons] at ih ⊢
      exact ih _
    · rw [List.filter_cons_of_neg (by simpa using e)]
      simp only [putAll, List.foldl_cons, if_neg e] at ih ⊢
      exact ih _
def Hours (l : List Fil) : Prop := l.Pairwise fun f g => f.hour ≤ g.hour
theorem Hours.drop {v : Int} {l : List Fil} (h : Hours l) : Hours (l.dropWhile fun f => decide (f.hour ≤ v)) := h.sublist (List.dropWhile_sublist _)
/-! ### the fewest -/
def sumI (l : List Int) : Int := l.foldl (· + ·) 0
theorem foldl_add (l : List Int) (a : Int) : l.foldl (· + ·) a = a + sumI l := by
  unfold sumI
  induction l generalizing a with
  | nil => simp
  | cons x l ih => simp only [List.foldl_cons]; rw [ih, ih (0 + x)]; omega
theorem sumI_cons (x : Int) (l : List Int) : sumI (x :: l) = x + sumI l := by rw [sumI, List.foldl_cons, foldl_add]; omega
theorem sumI_nil : sumI [] = 0 := rfl
/-- all lists of scoops, in lexicographic order -/
def allS : Nat → List (List Int)
  | 0 => [[]]
  | n + 1 => (List.range 6).flatMap fun k : Nat => (allS n).map fun l => (k : Int) :: l
theorem mem_allS : ∀ {n : Nat} {l : List Int}, l ∈ allS n ↔ l.length = n ∧ ∀ x ∈ l, 0 ≤ x ∧ x ≤ 5
  | 0, l => by
    simp only [allS, List.mem_singleton]
    exact ⟨fun h => by subst h; simp, fun h => List.eq_nil_of_length_eq_zero h.1⟩
  | n + 1, l => by
    simp only [allS, List.mem_flatMap, List.mem_range, List.mem_map]
    constructor
    · rintro ⟨k, hk, t, ht, rfl⟩
      obtain ⟨h1, h2⟩ := mem_allS.1 ht
      refine ⟨by simp [h1], fun x hx => ?_⟩
      rcases List.mem_cons.1 hx with rfl | hx
      · omega
      · exact h2 x hx
    · rintro ⟨h1, h2⟩
      match l, h1 with
      | x :: t, h1 =>
        have hx := h2 x (by simp)
        exact ⟨x.toNat, by omega, t, mem_allS.2 ⟨by simpa using h1, fun y hy => h2 y (by simp [hy])⟩, by rw [Int.toNat_of_nonneg hx.1]⟩
theorem allS_sum {n : Nat} {l : List Int} (h : l ∈ allS n) : 0 ≤ sumI l ∧ sumI l ≤ 5 * (n : Int) := by
  obtain ⟨h1, h2⟩ := mem_allS.1 h
  clear h
  induction l generalizing n with
  | nil => simp [sumI_nil]; omega
  | cons x l ih =>
    have := h2 x (by simp)
    have h3 := ih (n := l.length) rfl (fun y hy => h2 y (by simp [hy]))
    rw [sumI_cons]; simp only [List.length_cons] at h1; omega
/-- the better one of what is best so far, and a list -/
def stepB (ok : List Int → Bool) (b : Option (List Int)) (l : List Int) : Option (List Int) :=
  if (match b with | none => true | some x => decide (sumI l < sumI x)) && ok l then some l else b
/-- the first of the best ones of a list -/
def IsB (ok : List Int → Bool) (L : List (List Int)) (l : List Int) : Prop := ∃ A B, L = A ++ l :: B ∧ ok l = true ∧ (∀ x ∈ A, ok x = true → sumI l < sumI x) ∧ ∀ x ∈ B, ok x = true → sumI l ≤ sumI x
theorem bestB_spec (ok : List Int → Bool) : ∀ (L : List (List Int)), match L.reverse.foldl (stepB ok) none with | none => ∀ x ∈ L.reverse, ok x = false | some l => IsB ok L.reverse l
  | [] => by simp
  | x :: L => by
    have ih := bestB_spec ok L
    rw [List.reverse_cons, List.foldl_append, List.foldl_cons, List.foldl_nil]
    generalize hr : L.reverse.foldl (stepB ok) none = r at ih ⊢
    cases r with
    | none =>
      simp only at ih
      simp only [stepB, Bool.true_and]
      cases hx : ok x with
      | true => exact ⟨L.reverse, [], rfl, hx, fun y hy h => (by rw [ih y hy] at h; cases h), by simp⟩
      | false =>
        simp only [Bool.false_eq_true, if_false]
        intro y hy
        rcases List.mem_append.1 hy with hy | hy
        · exact ih y hy
        · rw [List.mem_singleton.1 hy]; exact hx
    | some l =>
      simp only at ih
      obtain ⟨A, B, h1, h2, h3, h4⟩ := ih
      simp only [stepB]
      by_cases hlt : sumI x < sumI l
      · cases hx : ok x with
        | true =>
          simp only [hlt, decide_true, Bool.and_true, if_true]
          refine ⟨L.reverse, [], rfl, hx, fun y hy h => ?_, by simp⟩
          rw [h1] at hy
          rcases List.mem_append.1 hy with hy | hy
          · have := h3 y hy h; omega
          · rcases List.mem_cons.1 hy with rfl | hy
            · exact hlt
            · have := h4 y hy h; omega
        | false =>
          simp only [Bool.and_false, Bool.false_eq_true, if_false]
          refine ⟨A, B ++ [x], by rw [h1]; simp, h2, h3, fun y hy h => ?_⟩
          rcases List.mem_append.1 hy with hy | hy
          · exact h4 y hy h
          · rw [List.mem_singleton.1 hy, hx] at h; cases h
      · simp only [hlt, decide_false, Bool.false_and, Bool.false_eq_true, if_false]
        refine ⟨A, B ++ [x], by rw [h1]; simp, h2, h3, fun y hy h => ?_⟩
        rcases List.mem_append.1 hy with hy | hy
        · exact h4 y hy h
        · rw [List.mem_singleton.1 hy]; omega
def bestL4 (ok : List Int → Bool) (L : List (List Int)) : Option (List Int) := L.foldl (stepB ok) none
theorem bestL4_none {ok : List Int → Bool} {L : List (List Int)} (h : bestL4 ok L = none) : ∀ x ∈ L, ok x = false := by
  have := bestB_spec ok L.reverse
  rw [List.reverse_reverse] at this
  unfold bestL4 at h
  rw [h] at this; exact this
theorem bestL4_some {ok : List Int → Bool} {L : List (List Int)} {l : List Int} (h : bestL4 ok L = some l) : IsB ok L l := by
  have := bestB_spec ok L.reverse
  rw [List.reverse_reverse] at this
  unfold bestL4 at h
  rw [h] at this; exact this
end Go.Sim
