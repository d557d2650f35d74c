/- Benches: the search for the fewest results that contradict each other. -/
import Derived.Test.YtfcmfoacedbleaaDoorLd
namespace Go.Sim
def withF (t : Tab) (f : Fct) : Option Tab := withT t f.1 f.2.1 f.2.2
theorem withT_sq {n : Nat} {t u : Tab} {p q : Nat} {d : Dif} (hs : Sq n t) (h : withT t p q d = some u) : Sq n u := by
  unfold withT at h
  split at h
  · cases h
  · cases h; rw [hs.1]; exact tabF_sq n _
def firstI (f : Nat → Option (List Int)) : Nat → Nat → Option (List Int)
  | _, 0 => none
  | i, c + 1 => match f i with
    | some x => some x
    | none => firstI f (i + 1) c
theorem firstI_none {f : Nat → Option (List Int)} {i c : Nat} (h : f i = none) : firstI f i (c + 1) = firstI f (i + 1) c := by simp only [firstI, h]
theorem firstI_some {f : Nat → Option (List Int)} {i c : Nat} {x : List Int} (h : f i = some x) : firstI f i (c + 1) = some x := by simp only [firstI, h]
theorem firstI_mem {f : Nat → Option (List Int)} : ∀ {c i : Nat} {x : List Int}, firstI f i c = some x → ∃ k, i ≤ k ∧ k < i + c ∧ f k = some x ∧ ∀ j, i ≤ j → j < k → f j = none
  | 0, i, x, h => by cases h
  | c + 1, i, x, h => by
    simp only [firstI] at h
    split at h
    · rename_i y hy
      exact ⟨i, Nat.le_refl _, by omega, by rw [hy]; exact h, fun j h1 h2 => by omega⟩
    · rename_i hy
      obtain ⟨k, h1, h2, h3, h4⟩ := firstI_mem h
      exact ⟨k, by omega, by omega, h3, fun j g1 g2 => by
        by_cases e : j = i
        · subst e; exact hy
        · exact h4 j (by omega) g2⟩
/-- one result more -/
def srchG (fs : List Fct) (next : Tab → List Int → Nat → Option (List Int)) (m : Nat) (t : Tab) (ch : List Int) (i : Nat) : Option (List Int) :=
  match withF t (nth fs i) with
  | none => if m = 0 then some (ch ++ [(i : Int)]) else none
  | some u => next u (ch ++ [(i : Int)]) (i + 1)
/-- some results are chosen, so many more are to be -/
def srchT (fs : List Fct) : Nat → Tab → List Int → Nat → Option (List Int)
  | 0, _, _, _ => none
  | m + 1, t, ch, i0 => firstI (srchG fs (srchT fs m) m t ch) i0 (fs.length - m - i0)
theorem srchT_ne {fs : List Fct} : ∀ {m : Nat} {t : Tab} {ch : List Int} {i : Nat} {l : List Int}, srchT fs m t ch i = some l → l ≠ []
  | 0, t, ch, i, l, h => by cases h
  | m + 1, t, ch, i, l, h => by
    obtain ⟨k, _, _, hk, _⟩ := firstI_mem h
    unfold srchG at hk
    split at hk
    · split at hk
      · cases hk; simp
      · cases hk
    · exact srchT_ne hk
def optV : Option (List Int) → AV
  | none => .val (.slice none 0 0)
  | some l => .imm (l.map I)
/-- the fewest results, so many from some on -/
def clashN (b : Ben) : Nat → Nat → Option (List Int)
  | _, 0 => none
  | n, c + 1 => match srchT (resF b) n (startT b) [] 0 with
    | some l => some l
    | none => clashN b (n + 1) c
def clashL (b : Ben) : Option (List Int) := if checkB b = 0 then clashN b 1 (resF b).length else none
def clashE (b : Ben) : Int := if checkB b = 0 then (if clashN b 1 (resF b).length = none then 3 else 0) else checkB b
end Go.Sim
