/- Scoops, plainly: what the program tries. -/
import Derived.Test.YtamcckgclidgkabDoorQd
set_option linter.all false
set_option linter.unusedVariables false
set_option linter.unusedSimpArgs false
set_option linter.unusedSectionVars false
namespace Go.Sim
open Go.Proofs
/-- the first of so many numbers, from one on, that gives something -/
def firstN {α : Type} (f : Int → Option α) (i : Int) : Nat → Option α
  | 0 => none
  | n + 1 => match f i with | some x => some x | none => firstN f (i + 1) n
theorem firstN_none {α : Type} {f : Int → Option α} : ∀ {n : Nat} {i : Int}, firstN f i n = none ↔ ∀ k : Nat, k < n → f (i + k) = none
  | 0, i => by simp [firstN]
  | n + 1, i => by
    rw [firstN]
    cases h : f i with
    | some x => simp only [reduceCtorEq, false_iff]; intro hk; have := hk 0 (by omega); rw [show i + ((0 : Nat) : Int) = i from by omega, h] at this; cases this
    | none =>
      simp only
      rw [firstN_none]
      constructor
      · intro hk k hkn
        cases k with
        | zero => rw [show i + ((0 : Nat) : Int) = i from by omega]; exact h
        | succ k => have := hk k (by omega); rwa [show i + 1 + (k : Int) = i + ((k + 1 : Nat) : Int) from by omega] at this
      · intro hk k hkn
        have := hk (k + 1) (by omega)
        rwa [show i + ((k + 1 : Nat) : Int) = i + 1 + (k : Int) from by omega] at this
theorem firstN_some {α : Type} {f : Int → Option α} {x : α} : ∀ {n : Nat} {i : Int}, firstN f i n = some x ↔ ∃ k : Nat, k < n ∧ f (i + k) = some x ∧ ∀ j : Nat, j < k → f (i + j) = none
  | 0, i => by simp [firstN]
  | n + 1, i => by
    rw [firstN]
    cases h : f i with
    | some y =>
      simp only [Option.some.injEq]
      constructor
      · rintro rfl; exact ⟨0, by omega, by rw [show i + ((0 : Nat) : Int) = i from by omega]; exact h, fun j hj => by omega⟩
      · rintro ⟨k, h1, h2, h3⟩
        cases k with
        | zero => rw [show i + ((0 : Nat) : Int) = i from by omega, h] at h2; cases h2; rfl
        | succ k => have := h3 0 (by omega); rw [show i + ((0 : Nat) : Int) = i from by omega, h] at this; cases this
    | none =>
      simp only
      rw [firstN_some]
      constructor
      · rintro ⟨k, h1, h2, h3⟩
        refine ⟨k + 1, by omega, by rwa [show i + 1 + (k : Int) = i + ((k + 1 : Nat) : Int) from by omega] at h2, fun j hj => ?_⟩
        cases j with
        | zero => rw [show i + ((0 : Nat) : Int) = i from by omega]; exact h
        | succ j => have := h3 j (by omega); rwa [show i + 1 + (j : Int) = i + ((j + 1 : Nat) : Int) from by omega] at this
      · rintro ⟨k, h1, h2, h3⟩
        cases k with
        | zero => rw [show i + ((0 : Nat) : Int) = i from by omega, h] at h2; cases h2
        | succ k =>
          refine ⟨k, by omega, by rwa [show i + ((k + 1 : Nat) : Int) = i + 1 + (k : Int) from by omega] at h2, fun j hj => ?_⟩
          have := h3 (j + 1) (by omega)
          rwa [show i + ((j + 1 : Nat) : Int) = i + 1 + (j : Int) from by omega] at this
/-- scoops that go on from some, with so many more, for so many more visits -/
def tryF (ok pr : List Int → Bool) : Nat → List Int → Int → Option (List Int)
  | 0, pre, more => if more = 0 ∧ ok pre = true then some pre else none
  | r + 1, pre, more => if pr pre = true then firstN (fun n => tryF ok pr r (pre ++ [n]) (more - n)) (max 0 (more - 5 * (r : Int))) (min more 5 + 1 - max 0 (more - 5 * (r : Int))).toNat else none
/-- the first of the lists with a sum that is fine -/
def findS (ok : List Int → Bool) (r : Nat) (pre : List Int) (more : Int) : Option (List Int) := ((allS r).find? fun t => decide (sumI t = more) && ok (pre ++ t)).map (pre ++ ·)
theorem findS_none {ok : List Int → Bool} {r : Nat} {pre : List Int} {more : Int} : findS ok r pre more = none ↔ ∀ t ∈ allS r, sumI t = more → ok (pre ++ t) = false := by
  rw [findS, Option.map_eq_none_iff, List.find?_eq_none]
  constructor
  · intro h t ht hs
    have := h t ht
    simpa [hs] using this
  · intro h t ht
    simp only [Bool.and_eq_true, decide_eq_true_eq, not_and, Bool.not_eq_true]
    exact h t ht
theorem find_flat {α β : Type} {p : β → Bool} {f : α → List β} : ∀ {L : List α}, (L.flatMap f).find? p = L.findSome? fun a => (f a).find? p
  | [] => rfl
  | a :: L => by
    rw [List.flatMap_cons, List.find?_append, List.findSome?_cons, find_flat]
    cases (f a).find? p <;> rfl
theorem findS_succ {ok : List Int → Bool} {r : Nat} {pre : List Int} {more : Int} : findS ok (r + 1) pre more = (List.range 6).findSome? fun k : Nat => findS ok r (pre ++ [(k : Int)]) (more - k) := by
  unfold findS
  rw [allS, find_flat]
  generalize List.range 6 = L
  induction L with
  | nil => rfl
  | cons k L ih =>
    rw [List.findSome?_cons, List.findSome?_cons, List.find?_map]
    have : ((fun t => decide (sumI t = more) && ok (pre ++ t)) ∘ fun l => (k : Int) :: l) = fun t => decide (sumI t = more - k) && ok (pre ++ [(k : Int)] ++ t) := by
      funext t
      simp only [Function.comp_def, sumI_cons, List.append_assoc, List.singleton_append]
      congr 1
      exact decide_eq_decide.2 (by omega)
    rw [this]
    cases hf : (allS r).find? (fun t => decide (sumI t = more - k) && ok (pre ++ [(k : Int)] ++ t)) with
    | none => simpa using ih
    | some t => simp
theorem tryF_eq {ok pr : List Int → Bool} {N : Nat} (hp : ∀ pre t, t ≠ [] → pre.length + t.length = N → ok (pre ++ t) = true → pr pre = true) : ∀ (r : Nat) (pre : List Int) (more : Int), pre.length + r = N → tryF ok pr r pre more = findS ok r pre more
  | 0, pre, more, _ => by
    rw [tryF]
    unfold findS
    simp only [allS, List.find?_singleton, List.append_nil]
    by_cases h : more = 0
    · subst h
      have h2 : decide (sumI [] = 0) = true := rfl
      rw [h2]
      cases ok pre <;> simp
    · have h2 : decide (sumI [] = more) = false := decide_eq_false fun e => h e.symm
      rw [if_neg fun q => h q.1, h2]; rfl
  | r + 1, pre, more, hN => by
    rw [tryF]
    have ih := fun n => tryF_eq hp r (pre ++ [n]) (more - n) (by rw [List.length_append, List.length_singleton]; omega)
    split
    · rw [findS_succ]
      have e0 : (fun n : Int => tryF ok pr r (pre ++ [n]) (more - n)) = fun n => findS ok r (pre ++ [n]) (more - n) := funext ih
      rw [e0]
      have hno : ∀ k : Nat, k < 6 → ((k : Int) < more - 5 * (r : Int) ∨ more < (k : Int)) → findS ok r (pre ++ [(k : Int)]) (more - k) = none := fun k hk hor => by
        rw [findS_none]
        intro t ht hs
        have := allS_sum ht
        omega
      cases hf : firstN (fun n => findS ok r (pre ++ [n]) (more - n)) (max 0 (more - 5 * (r : Int))) (min more 5 + 1 - max 0 (more - 5 * (r : Int))).toNat with
      | none =>
        rw [firstN_none] at hf
        symm
        rw [List.findSome?_eq_none_iff]
        intro k hk
        have hk6 := List.mem_range.1 hk
        by_cases h1 : (k : Int) < more - 5 * (r : Int) ∨ more < (k : Int)
        · exact hno k hk6 h1
        · have := hf (k - (max 0 (more - 5 * (r : Int))).toNat) (by omega)
          rwa [show max 0 (more - 5 * (r : Int)) + ((k - (max 0 (more - 5 * (r : Int))).toNat : Nat) : Int) = (k : Int) from by omega] at this
      | some l =>
        rw [firstN_some] at hf
        obtain ⟨k, h1, h2, h3⟩ := hf
        symm
        obtain ⟨m, hm⟩ : ∃ m : Nat, max 0 (more - 5 * (r : Int)) + (k : Int) = (m : Int) := ⟨(max 0 (more - 5 * (r : Int)) + (k : Int)).toNat, by omega⟩
        rw [hm] at h2
        have hm6 : m < 6 := by omega
        have hbef : ∀ j : Nat, j < m → findS ok r (pre ++ [(j : Int)]) (more - j) = none := fun j hj => by
          by_cases h4 : (j : Int) < more - 5 * (r : Int) ∨ more < (j : Int)
          · exact hno j (by omega) h4
          · have := h3 (j - (max 0 (more - 5 * (r : Int))).toNat) (by omega)
            rwa [show max 0 (more - 5 * (r : Int)) + ((j - (max 0 (more - 5 * (r : Int))).toNat : Nat) : Int) = (j : Int) from by omega] at this
        have hr : List.range 6 = List.range m ++ m :: (List.range (5 - m)).map (· + (m + 1)) := by
          have : 6 = m + (1 + (5 - m)) := by omega
          rw [this, List.range_add, List.range_add]
          simp only [List.range_one, List.map_append, List.map_cons, List.map_nil, List.singleton_append, List.map_map, Nat.add_zero]
          congr 2
          refine List.map_congr_left fun x _ => ?_
          simp only [Function.comp_apply]; omega
        rw [hr, List.findSome?_append, List.findSome?_eq_none_iff.2 fun j hj => hbef j (List.mem_range.1 hj), Option.none_or, List.findSome?_cons, h2]
    · rename_i hn
      symm
      rw [findS_none]
      intro t ht _
      cases hk : ok (pre ++ t) with
      | false => rfl
      | true =>
        refine absurd (hp pre t (fun e => ?_) (by rw [(mem_allS.1 ht).1]; exact hN) hk) hn
        have := (mem_allS.1 ht).1
        rw [e] at this; cases this
/-- What the program finds is the first of the best ones. -/
theorem first_best {ok : List Int → Bool} {n : Nat} : firstN (fun m => findS ok n [] m) 0 (5 * n + 1) = bestL4 ok (allS n) := by
  cases hb : bestL4 ok (allS n) with
  | none =>
    rw [firstN_none]
    intro k _
    rw [findS_none]
    intro t ht _
    exact bestL4_none hb t ht
  | some l =>
    obtain ⟨A, B, h1, h2, h3, h4⟩ := bestL4_some hb
    have hl : l ∈ allS n := by rw [h1]; simp
    have hs := allS_sum hl
    rw [firstN_some]
    refine ⟨(sumI l).toNat, by omega, ?_, fun j hj => ?_⟩
    · show findS ok n [] (0 + ((sumI l).toNat : Int)) = some l
      rw [show (0 : Int) + ((sumI l).toNat : Int) = sumI l from by omega]
      unfold findS
      rw [h1, List.find?_append, List.find?_eq_none.2 fun t ht => ?_]
      · simp [h2]
      · simp only [Bool.and_eq_true, decide_eq_true_eq, not_and, Bool.not_eq_true, List.nil_append]
        intro e
        cases hk : ok t with
        | false => rfl
        | true => have := h3 t ht hk; omega
    · show findS ok n [] (0 + (j : Int)) = none
      rw [findS_none]
      intro t ht hst
      rw [List.nil_append]
      cases hk : ok t with
      | false => rfl
      | true =>
        rw [h1] at ht
        rcases List.mem_append.1 ht with ht | ht
        · have := h3 t ht hk; omega
        · rcases List.mem_cons.1 ht with rfl | ht
          · omega
          · have := h4 t ht hk; omega
end Go.Sim
