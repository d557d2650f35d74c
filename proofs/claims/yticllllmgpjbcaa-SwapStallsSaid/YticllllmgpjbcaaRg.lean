/- No group blocks the swap, and some group blocks whatever else is held (plain). -/
import Derived.Test.YticllllmgpjbcaaRf
namespace Go.Sim.W6
open Go.Proofs Go.Plain
set_option linter.unusedSimpArgs false
set_option linter.unusedVariables false
theorem chkH_zero {ow : List Turn} : ∀ {r done : List Turn}, done.Nodup → (chkH ow done r = 0 ↔ (∀ x ∈ r, x ∈ ow) ∧ (done ++ r).Nodup)
  | [], done, hd => by simp [chkH, hd]
  | x :: r, done, hd => by
    rw [chkH]
    by_cases h1 : x ∈ ow
    · rw [if_neg (fun h => h h1)]
      by_cases h2 : x ∈ done
      · rw [if_pos h2]
        constructor
        · intro h; cases h
        · rintro ⟨_, h⟩; exact absurd rfl ((List.nodup_append.1 h).2.2 x h2 x (by simp))
      · rw [if_neg h2]
        have hd' : (done ++ [x]).Nodup := List.nodup_append.2 ⟨hd, by simp, fun a ha b hb => by obtain rfl := List.mem_singleton.1 hb; rintro rfl; exact h2 ha⟩
        rw [chkH_zero hd', List.append_assoc, List.singleton_append]
        simp [h1]
    · rw [if_pos h1]
      constructor
      · intro h; cases h
      · rintro ⟨h, _⟩; exact absurd (h x (by simp)) h1
theorem heldT_zero {ow : List Turn} {lk : List (List Turn)} {held : List Turn} (hv : ValidT ow lk) : heldT ow lk held = 0 ↔ held.length = ow.length ∧ held.Nodup ∧ ∀ x ∈ held, x ∈ ow := by
  rw [heldT, if_neg (by rw [checkT_zero.2 hv]; simp)]
  by_cases h : held.length = ow.length
  · rw [if_neg (fun h' => h' h), chkH_zero List.nodup_nil]; simp [h, and_comm]
  · rw [if_pos h]
    constructor
    · intro h'; cases h'
    · rintro ⟨h', _⟩; exact absurd h' h
theorem swap_held {ow : List Turn} {lk : List (List Turn)} (hv : ValidT ow lk) : heldT ow lk (swapT ow lk) = 0 := by
  rw [heldT_zero hv]
  refine ⟨swap_length hv, swap_nodup hv, fun x hx => ?_⟩
  obtain ⟨i, hi, rfl⟩ := List.mem_iff_getElem.1 hx
  have := (swap_mem hv (x := i) (by rw [swap_length hv] at hi; exact hi)).1
  rwa [nth_get hi] at this
end Go.Sim.W6
