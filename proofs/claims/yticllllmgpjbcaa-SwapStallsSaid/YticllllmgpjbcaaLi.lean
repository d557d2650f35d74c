/- Who is ahead of whom, by the reference. -/
import Derived.Test.YticllllmgpjbcaaLh
namespace Go.Sim
open Go.Proofs
set_option maxRecDepth 100000
set_option linter.unusedSimpArgs false
set_option linter.unusedVariables false
attribute [-simp] List.map_set List.map_take List.map_drop
set_option maxHeartbeats 4000000 in
theorem Wish_ok (a : App) (s : Int) : ACalls Try.prog 30 [A4 a, I s] [] (fun r o => r = I (a.wishes.idxOf s) ∧ o = []) := by
 refine ACalls.lenA (xs := [I a.years, I a.token, ints a.wishes, ints a.bids]) (l := a.wishes.map I) (by simp) (by simp) ⟨_, Try.func30, by kernel_rfl, by kernel_rfl⟩ fun hl => ?_
 simp [maxLen_val] at hl
 have F := Fx.nil
 refine ent Try.func30 Try.ntmps30 Try.results30 ?_
 refine rK [1, 2] ?_
 refine W.seqk fun K1 hK1 => ?_
 refine rK [1, 2, 5] ?_
 refine W.block ?_
 refine lpa (α := Nat) [1, 2] [9] [] (fun i => [(5, I i)]) (fun i => []) (fun i => i ≤ a.wishes.length ∧ s ∉ a.wishes.take i) (fun i => a.wishes.length - i) 0 v0 ?_
 ·
  intro i hI0
  simp only [List.cons_append, List.nil_append]
  try dsimp only at hI0
  obtain ⟨hi, hm1⟩ := hI0
  replace F := F.add hi
  refine W.seqk fun K2 hK2 => ?_
  refine rK [1, 2, 5, 10] ?_
  refine it (fun hc1 => ?_) (fun hc1 => ?_)
  ·
   try simp at hc1
   replace F := F.add hc1
   refine W.skip ?_
   refine hK2 _ ?_
   clear hK2 K2
   refine W.seqk fun K3 hK3 => ?_
   refine W.block ?_
   refine rK [1, 2, 5, 19] ?_
   refine it (fun hc2 => ?_) (fun hc2 => ?_)
   ·
    try simp at hc2
    replace F := F.add hc2
    refine rK [4] ?_
    refine W.ret ?_
    refine br (tr (tr (br (tr ?_))))
    clear hK3 K3 hK1 K1
    refine er false [] [] ?_
    subst hc2
    exact ⟨congrArg I (by rw [idxOf_take hm1 hc1 rfl]), rfl⟩
   ·
    try simp at hc2
    replace F := F.add hc2
    refine W.skip ?_
    refine hK3 _ ?_
    clear hK3 K3
    refine rEw ?_
    refine ⟨i + 1, lf0, ?_, v0⟩
    ·
     exact ⟨by omega, nmem_take_succ hm1 hc1 hc2⟩
  ·
   try simp at hc1
   replace F := F.add hc1
   refine W.exit ?_
   refine hK1 _ ?_
   clear hK2 K2 hK1 K1
   refine rK [4] ?_
   refine W.ret ?_
   refine er false [] [] ?_
   exact ⟨congrArg I (by rw [List.idxOf_eq_length (nmem_of_take hm1 (by omega))]), rfl⟩
theorem canS_eq {st : List Stl} {a : App} {s : Nat} (hs : s < st.length) : canS st a s = (decide ((s : Int) ∈ a.wishes) && (!decide (st[s].rule = 3) || decide (st[s].least ≤ bidA a s))) := by
  rw [canS]
  by_cases h : (s : Int) ∈ a.wishes
  · have h1 := List.idxOf_lt_length_iff.2 h
    have h2 : nth a.wishes (a.wishes.idxOf (s : Int)) = s := by rw [nth_get h1]; exact List.getElem_idxOf h1
    rw [canAt, h2, Int.toNat_natCast, nth_get hs, decide_eq_true h, Bool.true_and, Bool.true_and, bidA, Bool.not_and]
    congr 1
    rw [Bool.eq_iff_iff]; simp
  · simp [h]
set_option maxHeartbeats 4000000 in
theorem Can_ok (l : Lett) (hv : ValidL l) (a s : Nat) (ha : a < l.apps.length) (hs : s < l.stalls.length) : ACalls Try.prog 58 [letV l, I a, I s] [] (fun r o => r = B (canS l.stalls l.apps[a] s) ∧ o = []) := by
 have F := Fx.nil
 replace F := F.add ha |>.add hs
 refine ent Try.func58 Try.ntmps58 Try.results58 ?_
 have qap := hv.ap _ (List.getElem_mem ha)
 refine rK [1, 2, 3] ?_
 refine rK [2, 3, 7] ?_
 refine W.seqR ?_
 refine oN 2 ?_
 refine oC [] ?_
 refine ct (Wish_ok _ _) ?_
 refine oN 1 ?_
 refine oK [2, 3, 7, 8] ?_
 by_cases hin : (s : Int) ∈ l.apps[a].wishes
 ·
  replace F := F.add hin
  have hk := List.idxOf_lt_length_iff.2 hin
  have hk2 : l.apps[a].wishes.idxOf (s : Int) < l.apps[a].bids.length := by rw [qap.len]; exact hk
  replace F := F.add hk |>.add hk2
  by_cases hru : l.stalls[s].rule = 3
  ·
   replace F := F.add hru
   have hr1 : (l.stalls[s].rule != 3) = false := by simp [hru]
   have hr2 : (l.stalls[s].rule == 3) = true := by simp [hru]
   replace F := F.add hr1 |>.add hr2
   refine wD 25 [] [[], [], [1], [1, 2], [2, 1, 3, 0], [0, 3, 1, 2, 4], [4, 2, 1, 3, 0, 5], [5, 0, 3, 1, 2, 4, 6], [4, 2, 1, 3, 0, 5], [8, 6, 4, 2, 1, 3, 0, 5, 7], [7, 5, 0, 3, 1, 2, 4, 6, 8, 9], [9, 8, 6, 4, 2, 1, 3, 0, 5, 7, 10], [10, 7, 5, 0, 3, 1, 2, 4, 6, 8, 9, 11], [11, 9, 8, 6, 4, 2, 1, 3, 0, 5, 7, 10, 12], [12, 10, 7, 5, 0, 3, 1, 2, 4, 6, 8, 9, 11, 13], [13, 11, 9, 8, 6, 4, 2, 1, 3, 0, 5, 7, 10, 12, 14], [12, 10, 7, 5, 0, 3, 1, 2, 4, 6, 8, 9, 11, 13], [16, 14, 12, 10, 7, 5, 0, 3, 1, 2, 4, 6, 8, 9, 11, 13, 15], [15, 13, 11, 9, 8, 6, 4, 2, 1, 3, 0, 5, 7, 10, 12, 14, 16, 17], [12, 10, 7, 5, 0, 3, 1, 2, 4, 6, 8, 9, 11, 13], [13, 11, 9, 8, 6, 4, 2, 1, 3, 0, 5, 7, 10, 12, 19], [12, 10, 7, 5, 0, 3, 1, 2, 4, 6, 8, 9, 11, 13], [21, 19, 12, 10, 7, 5, 0, 3, 1, 2, 4, 6, 8, 9, 11, 13, 20], [20, 13, 11, 9, 8, 6, 4, 2, 1, 3, 0, 5, 7, 10, 12, 19, 21, 22], [22, 21, 19, 12, 10, 7, 5, 0, 3, 1, 2, 4, 6, 8, 9, 11, 13, 20, 23], [23, 20, 19, 21, 22, 24, 17, 16, 14, 12, 10, 7, 5, 0, 3, 1, 2, 4, 6, 8, 9, 11, 13, 15, 18], [18, 15, 14, 16, 17, 24, 22, 21, 19, 20, 23, 25, 12, 10, 7, 5, 0, 3, 1, 2, 4, 6, 8, 9, 11, 13], [13, 11, 9, 8, 6, 7, 10, 12, 25, 23, 20, 19, 21, 22, 24, 17, 16, 14, 15, 18, 26, 4, 2, 1, 3, 0, 5], [5, 0, 3, 1, 2, 4, 26, 18, 15, 14, 16, 17, 24, 22, 21, 19, 20, 23, 25, 12, 10, 7, 6, 8, 9, 11, 13, 27]] ?_
   refine dB [([18, 19, 20], [], []), ([17], [false], []), ([17], [false, true], []), ([17], [false, true, true], []), ([], [true, true, true, true], []), ([], [true, true, true, true, true], [])] 19 6 ?_
   refine dT [25] [true, true, true, true, true, true] [] ?_
   refine dT [25] [true, true, true, true, true, true, true] [] ?_
   refine dT [23, 24] [true, true, true, true, true, true, false, false] [] ?_
   refine dT [] [true, true, true, true, true, true, true, true, true] [] ?_
   refine dT [] [true, true, true, true, true, true, true, true, true, true] [] ?_
   refine dT [] [true, true, true, true, true, true, true, true, true, true, true] [] ?_
   refine dT [] [true, true, true, true, true, true, true, true, true, true, true, true] [] ?_
   refine dT [] [true, true, true, true, true, true, true, true, true, true, true, true, true] [] ?_
   refine dT [33, 36, 37, 38, 39, 40, 41] [true, true, true, true, true, true, true, true, true, true, true, true, true, true] [] ?_
   refine dT [33, 36, 37, 38, 39, 40, 41] [true, true, true, true, true, true, true, true, true, true, true, true, true, true, true] [] ?_
   refine dT [31, 32, 36, 37, 38, 39, 40, 41] [true, true, true, true, true, true, true, true, true, true, true, true, true, true, false, false] [] ?_
   refine dT [36, 37, 38, 39, 40, 41] [true, true, true, true, true, true, true, true, true, true, true, true, true, true, true, true, true] [] ?_
   refine dT [36, 37, 38, 39, 40, 41] [true, true, true, true, true, true, true, true, true, true, true, true, true, true, true, true, true, true] [] ?_
   refine dT [31, 32, 33, 34, 35, 38] [true, true, true, true, true, true, true, true, true, true, true, true, true, true, false, false, false, false, false] [] ?_
   refine dT [31, 32, 33, 34, 35, 38] [true, true, true, true, true, true, true, true, true, true, true, true, true, true, false, false, false, false, false, true] [] ?_
   refine dT [31, 32, 33, 34, 35, 36, 37] [true, true, true, true, true, true, true, true, true, true, true, true, true, true, false, false, false, false, false, false, false] [] ?_
   refine dT [31, 32, 33, 34, 35] [true, true, true, true, true, true, true, true, true, true, true, true, true, true, false, false, false, false, false, true, true, true] [] ?_
   refine dT [31, 32, 33, 34, 35] [true, true, true, true, true, true, true, true, true, true, true, true, true, true, false, false, false, false, false, true, true, true, true] [] ?_
   refine dT [31, 32, 33, 34, 35] [true, true, true, true, true, true, true, true, true, true, true, true, true, true, false, false, false, false, false, true, true, true, true, true] [] ?_
   refine dD ?_
   refine gT ?_
   refine gT ?_
   refine oN 2 ?_
   refine oK [6] ?_
   refine W.ret ?_
   refine er false [] [] ?_
   exact ⟨congrArg B (by rw [canS_eq hs, decide_eq_true hin, decide_eq_true hru, bidA, nth_get hk2]; rfl), rfl⟩
  ·
   replace F := F.add hru
   have hr1 : (l.stalls[s].rule != 3) = true := by simp [hru]
   have hr2 : (l.stalls[s].rule == 3) = false := by simp [hru]
   replace F := F.add hr1 |>.add hr2
   refine wD 25 [] [[], [], [1], [1, 2], [2, 1, 3, 0], [0, 3, 1, 2, 4], [4, 2, 1, 3, 0, 5], [5, 0, 3, 1, 2, 4, 6], [4, 2, 1, 3, 0, 5], [8, 6, 4, 2, 1, 3, 0, 5, 7], [7, 5, 0, 3, 1, 2, 4, 6, 8, 9], [9, 8, 6, 4, 2, 1, 3, 0, 5, 7, 10], [10, 7, 5, 0, 3, 1, 2, 4, 6, 8, 9, 11], [11, 9, 8, 6, 4, 2, 1, 3, 0, 5, 7, 10, 12], [12, 10, 7, 5, 0, 3, 1, 2, 4, 6, 8, 9, 11, 13], [13, 11, 9, 8, 6, 4, 2, 1, 3, 0, 5, 7, 10, 12, 14], [12, 10, 7, 5, 0, 3, 1, 2, 4, 6, 8, 9, 11, 13], [16, 14, 12, 10, 7, 5, 0, 3, 1, 2, 4, 6, 8, 9, 11, 13, 15], [15, 13, 11, 9, 8, 6, 4, 2, 1, 3, 0, 5, 7, 10, 12, 14, 16, 17], [12, 10, 7, 5, 0, 3, 1, 2, 4, 6, 8, 9, 11, 13], [13, 11, 9, 8, 6, 4, 2, 1, 3, 0, 5, 7, 10, 12, 19], [12, 10, 7, 5, 0, 3, 1, 2, 4, 6, 8, 9, 11, 13], [21, 19, 12, 10, 7, 5, 0, 3, 1, 2, 4, 6, 8, 9, 11, 13, 20], [20, 13, 11, 9, 8, 6, 4, 2, 1, 3, 0, 5, 7, 10, 12, 19, 21, 22], [22, 21, 19, 12, 10, 7, 5, 0, 3, 1, 2, 4, 6, 8, 9, 11, 13, 20, 23], [23, 20, 19, 21, 22, 24, 17, 16, 14, 12, 10, 7, 5, 0, 3, 1, 2, 4, 6, 8, 9, 11, 13, 15, 18], [18, 15, 14, 16, 17, 24, 22, 21, 19, 20, 23, 25, 12, 10, 7, 5, 0, 3, 1, 2, 4, 6, 8, 9, 11, 13], [13, 11, 9, 8, 6, 7, 10, 12, 25, 23, 20, 19, 21, 22, 24, 17, 16, 14, 15, 18, 26, 4, 2, 1, 3, 0, 5], [5, 0, 3, 1, 2, 4, 26, 18, 15, 14, 16, 17, 24, 22, 21, 19, 20, 23, 25, 12, 10, 7, 6, 8, 9, 11, 13, 27]] ?_
   refine dB [([18, 19, 20], [], []), ([17], [false], []), ([17], [false, true], []), ([17], [false, true, true], []), ([], [true, true, true, true], []), ([], [true, true, true, true, true], [])] 19 6 ?_
   refine dT [25] [true, true, true, true, true, true] [] ?_
   refine dT [25] [true, true, true, true, true, true, true] [] ?_
   refine dT [23, 24] [true, true, true, true, true, true, false, false] [] ?_
   refine dT [] [true, true, true, true, true, true, true, true, true] [] ?_
   refine dT [] [true, true, true, true, true, true, true, true, true, true] [] ?_
   refine dT [] [true, true, true, true, true, true, true, true, true, true, true] [] ?_
   refine dT [] [true, true, true, true, true, true, true, true, true, true, true, true] [] ?_
   refine dT [] [true, true, true, true, true, true, true, true, true, true, true, true, true] [] ?_
   refine dF [some 31, some 32, some 33, some 34, some 35, some 36, some 37, some 38, some 39, some 40, some 41] 13 30 false 0 ?_
   refine dD ?_
   refine gF ?_
   refine gT ?_
   refine oN 2 ?_
   refine oK [6] ?_
   refine W.ret ?_
   refine er false [] [] ?_
   exact ⟨congrArg B (by rw [canS_eq hs, decide_eq_true hin, decide_eq_false hru]; rfl), rfl⟩
 ·
  replace F := F.add hin
  have hk := List.idxOf_eq_length hin
  replace F := F.add hk
  refine wD 25 [] [[], [], [1], [1, 2], [2, 1, 3, 0], [0, 3, 1, 2, 4], [4, 2, 1, 3, 0, 5], [5, 0, 3, 1, 2, 4, 6], [4, 2, 1, 3, 0, 5], [8, 6, 4, 2, 1, 3, 0, 5, 7], [7, 5, 0, 3, 1, 2, 4, 6, 8, 9], [9, 8, 6, 4, 2, 1, 3, 0, 5, 7, 10], [10, 7, 5, 0, 3, 1, 2, 4, 6, 8, 9, 11], [11, 9, 8, 6, 4, 2, 1, 3, 0, 5, 7, 10, 12], [12, 10, 7, 5, 0, 3, 1, 2, 4, 6, 8, 9, 11, 13], [13, 11, 9, 8, 6, 4, 2, 1, 3, 0, 5, 7, 10, 12, 14], [12, 10, 7, 5, 0, 3, 1, 2, 4, 6, 8, 9, 11, 13], [16, 14, 12, 10, 7, 5, 0, 3, 1, 2, 4, 6, 8, 9, 11, 13, 15], [15, 13, 11, 9, 8, 6, 4, 2, 1, 3, 0, 5, 7, 10, 12, 14, 16, 17], [12, 10, 7, 5, 0, 3, 1, 2, 4, 6, 8, 9, 11, 13], [13, 11, 9, 8, 6, 4, 2, 1, 3, 0, 5, 7, 10, 12, 19], [12, 10, 7, 5, 0, 3, 1, 2, 4, 6, 8, 9, 11, 13], [21, 19, 12, 10, 7, 5, 0, 3, 1, 2, 4, 6, 8, 9, 11, 13, 20], [20, 13, 11, 9, 8, 6, 4, 2, 1, 3, 0, 5, 7, 10, 12, 19, 21, 22], [22, 21, 19, 12, 10, 7, 5, 0, 3, 1, 2, 4, 6, 8, 9, 11, 13, 20, 23], [23, 20, 19, 21, 22, 24, 17, 16, 14, 12, 10, 7, 5, 0, 3, 1, 2, 4, 6, 8, 9, 11, 13, 15, 18], [18, 15, 14, 16, 17, 24, 22, 21, 19, 20, 23, 25, 12, 10, 7, 5, 0, 3, 1, 2, 4, 6, 8, 9, 11, 13], [13, 11, 9, 8, 6, 7, 10, 12, 25, 23, 20, 19, 21, 22, 24, 17, 16, 14, 15, 18, 26, 4, 2, 1, 3, 0, 5], [5, 0, 3, 1, 2, 4, 26, 18, 15, 14, 16, 17, 24, 22, 21, 19, 20, 23, 25, 12, 10, 7, 6, 8, 9, 11, 13, 27]] ?_
  refine dB [([18, 19, 20], [], []), ([17], [false], []), ([17], [false, true], []), ([17], [false, true, true], []), ([], [true, true, true, true], []), ([], [true, true, true, true, true], [])] 19 6 ?_
  refine dF [some 23, some 24, some 25, some 26, some 27, some 28, some 29, some 30] 5 22 true 11 ?_
  refine dF [some 31, some 32, some 33, some 34, some 35, some 36, some 37, some 38, some 39, some 40, some 41] 13 30 false 0 ?_
  refine dD ?_
  refine gF ?_
  refine gF ?_
  refine oN 2 ?_
  refine oK [6] ?_
  refine W.ret ?_
  refine er false [] [] ?_
  exact ⟨congrArg B (by rw [canS_eq hs, decide_eq_false hin]; rfl), rfl⟩
end Go.Sim
