/- Rings of a round share nobody; how many are left (plain). -/
import Derived.Test.YticllllmgpjbcaaRb
namespace Go.Plain
theorem orb_closed {f : Nat → Nat} {m K : Nat} (h : First f m K) {x : Nat} (hx : x ∈ orb f m K) : f x ∈ orb f m K := by
  obtain ⟨j, hj, rfl⟩ := mem_orb.1 hx
  rw [mem_orb]
  by_cases h1 : j + 1 < K
  · exact ⟨j + 1, h1, rfl⟩
  · have : j + 1 = K := by omega
    refine ⟨0, h.pos, ?_⟩
    have hb := h.back
    rw [← this] at hb
    exact hb.symm
theorem orb_iter {f : Nat → Nat} {m K : Nat} (h : First f m K) {x : Nat} (hx : x ∈ orb f m K) : ∀ j, itr f j x ∈ orb f m K
  | 0 => hx
  | j + 1 => orb_closed h (orb_iter h hx j)
theorem orb_back {f : Nat → Nat} {m K : Nat} (h : First f m K) {x : Nat} (hx : x ∈ orb f m K) : ∃ j, itr f j x = m := by
  obtain ⟨j, hj, rfl⟩ := mem_orb.1 hx
  refine ⟨K - j, ?_⟩
  rw [← itr_add, show j + (K - j) = K by omega]
  exact h.back
theorem IsRing.le {f : Nat → Nat} {m m' : Nat} {r r' : List Nat} (h : IsRing f m r) (h' : IsRing f m' r') {x : Nat} (hx : x ∈ r) (hx' : x ∈ r') : m' ≤ m := by
  obtain ⟨K, h1, h2, rfl⟩ := h
  obtain ⟨K', h1', h2', rfl⟩ := h'
  obtain ⟨j, hj⟩ := orb_back h1 hx
  have := orb_iter h1' hx' j
  rw [hj] at this
  obtain ⟨i, hi, he⟩ := mem_orb.1 this
  rw [← he]
  exact h2' i hi
theorem IsRing.same {f : Nat → Nat} {m m' : Nat} {r r' : List Nat} (h : IsRing f m r) (h' : IsRing f m' r') {x : Nat} (hx : x ∈ r) (hx' : x ∈ r') : m = m' :=
  Nat.le_antisymm (h'.le h hx' hx) (h.le h' hx hx')
theorem IsRing.nodup {f : Nat → Nat} {m : Nat} {r : List Nat} (h : IsRing f m r) : r.Nodup := by
  obtain ⟨K, h1, _, rfl⟩ := h
  exact orb_nodup h1
theorem roundF_nodup {f : Nat → Nat} {L : List Nat} {n : Nat} (hc : Closed f L) (hn : L.length ≤ n) (hL : ∀ x ∈ L, x < n) : (roundF f L n).flatten.Nodup := by
  rw [List.Nodup, List.pairwise_flatten]
  refine ⟨fun r hr => ?_, ?_⟩
  · obtain ⟨m, _, h⟩ := (mem_roundF hc hn hL).1 hr
    exact h.nodup
  · unfold roundF
    rw [List.pairwise_filterMap]
    refine List.Pairwise.imp ?_ List.pairwise_lt_range
    intro a a' haa b hb b' hb' x hx y hx' hxy
    subst hxy
    have key : ∀ i r, (if i ∈ L then ringP f n i else none) = some r → IsRing f i r := by
      intro i r h
      split at h
      · rename_i hi; exact (ringP_iff hc hi hn).1 h
      · cases h
    have := (key a b hb).same (key a' b' hb') hx hx'
    omega
theorem roundF_sub {f : Nat → Nat} {L : List Nat} {n : Nat} (hc : Closed f L) (hn : L.length ≤ n) (hL : ∀ x ∈ L, x < n) : ∀ x ∈ (roundF f L n).flatten, x ∈ L := by
  intro x hx
  obtain ⟨r, hr, hx⟩ := List.mem_flatten.1 hx
  obtain ⟨m, hm, h⟩ := (mem_roundF hc hn hL).1 hr
  exact (h.mem hc hm).1 x hx
end Go.Plain
