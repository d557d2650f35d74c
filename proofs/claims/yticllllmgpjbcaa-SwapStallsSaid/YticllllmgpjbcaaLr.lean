/- Who envies a stall, and the draw. -/
import Derived.Test.YticllllmgpjbcaaPf
import Derived.Test.YticllllmgpjbcaaVo
import Derived.Test.YticllllmgpjbcaaVs
namespace Go.Sim
open Go.Proofs
set_option maxRecDepth 100000
set_option linter.unusedSimpArgs false
set_option linter.unusedVariables false
attribute [-simp] List.map_set List.map_take List.map_drop
set_option maxHeartbeats 4000000 in
theorem Place_ok (l : Lett) (h : List Int) (a : Nat) (ha : a < l.apps.length) : ACalls Try.prog 31 [letV l, ints h, I a] [] (fun r o => r = I (placeL l h a) ∧ o = []) := by
 refine ACalls.len (l := h.map I) (by simp) ⟨_, Try.func31, by kernel_rfl, by kernel_rfl⟩ fun hlh => ?_
 simp [maxLen_val] at hlh
 have F := Fx.nil
 replace F := F.add ha
 refine ent Try.func31 Try.ntmps31 Try.results31 ?_
 refine rK [1, 2, 3] ?_
 refine W.seqk fun K1 hK1 => ?_
 refine rK [1, 2, 3, 7] ?_
 refine W.block ?_
 refine lpa (α := Nat) [1, 2, 3] [10, 26] [] (fun i => [(7, I i)]) (fun i => []) (fun i => i ≤ h.length ∧ (a : Int) ∉ h.take i) (fun i => h.length - i) 0 v0 ?_
 ·
  intro i hI0
  simp only [List.cons_append, List.nil_append]
  try dsimp only at hI0
  obtain ⟨hi, hm1⟩ := hI0
  replace F := F.add hi
  refine W.seqk fun K2 hK2 => ?_
  refine rK [1, 2, 3, 7, 11] ?_
  refine it (fun hc1 => ?_) (fun hc1 => ?_)
  ·
   try simp at hc1
   replace F := F.add hc1
   refine W.skip ?_
   refine hK2 _ ?_
   clear hK2 K2
   refine W.seqk fun K3 hK3 => ?_
   refine W.block ?_
   refine rK [1, 2, 3, 7, 19] ?_
   refine it (fun hc2 => ?_) (fun hc2 => ?_)
   ·
    try simp at hc2
    replace F := F.add hc2
    refine W.seqR ?_
    refine oN 6 ?_
    refine oC [] ?_
    refine ct (Wish_ok _ _) ?_
    refine oN 1 ?_
    refine oK [6] ?_
    refine W.ret ?_
    refine br (tr (tr (br (tr ?_))))
    clear hK3 K3 hK1 K1
    refine er false [] [] ?_
    exact ⟨congrArg I (by rw [placeL, if_pos (by rw [← hc2]; exact List.getElem_mem hc1), idxOf_take hm1 hc1 hc2, nth_get ha]), rfl⟩
   ·
    try simp at hc2
    replace F := F.add hc2
    refine W.skip ?_
    refine hK3 _ ?_
    clear hK3 K3
    refine rEw ?_
    refine ⟨i + 1, lf0, ?_, v0⟩
    ·
     exact ⟨by omega, nmem_take_succ hm1 hc1 hc2⟩
  ·
   try simp at hc1
   replace F := F.add hc1
   refine W.exit ?_
   refine hK1 _ ?_
   clear hK2 K2 hK1 K1
   refine rK [6] ?_
   refine W.ret ?_
   refine er false [] [] ?_
   exact ⟨congrArg I (by rw [placeL, if_neg (nmem_of_take hm1 (by omega)), nth_get ha]), rfl⟩
theorem HoldOk.at' {l : Lett} {h : List Int} (hk : HoldOk l h) {a : Nat} (ha : a < l.apps.length) (hm : (a : Int) ∈ h) : canS l.stalls l.apps[a] ((h.idxOf (a : Int) : Nat) : Int) = true := by
  have h1 := List.idxOf_lt_length_iff.2 hm
  have h2 := List.getElem_idxOf h1
  rcases hk.ok _ h1 with q | ⟨b, q1, q2, q3⟩
  · omega
  · have : b = a := by omega
    subst this
    rwa [nth_get q2] at q3
end Go.Sim
