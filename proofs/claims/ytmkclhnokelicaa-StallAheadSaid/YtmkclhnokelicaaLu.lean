/- One holder for a stall, and no envy: the law answers true. -/
import Derived.Test.YtmkclhnokelicaaLs
import Derived.Test.YtmkclhnokelicaaLt
namespace Go.Sim
open Go.Proofs
set_option maxRecDepth 100000
set_option linter.unusedSimpArgs false
set_option linter.unusedVariables false
attribute [-simp] List.map_set List.map_take List.map_drop
def metL (z : List Int) (i : Nat) : List Int := (z.take i).filter fun x => x != -1
theorem metL_hit {z : List Int} {i : Nat} (hi : i < z.length) (h : ¬ z[i] = -1) : metL z (i + 1) = metL z i ++ [z[i]] := by
  rw [metL, List.take_succ_eq_append_getElem hi, List.filter_append, metL]
  simp [h]
theorem metL_miss {z : List Int} {i : Nat} (hi : i < z.length) (h : z[i] = -1) : metL z (i + 1) = metL z i := by
  rw [metL, List.take_succ_eq_append_getElem hi, List.filter_append, metL]
  simp [h]
theorem metL_le {z : List Int} {i : Nat} : (metL z i).length ≤ i := by
  have h1 := List.length_filter_le (fun x : Int => x != -1) (z.take i)
  rw [List.length_take] at h1
  unfold metL; omega
set_option maxHeartbeats 4000000 in
theorem StallOne_ok (nums : List Int) : ACalls Try.prog 4 [ints nums] [] (fun r o => r = B true ∧ o = []) := by
 have F := Fx.nil
 refine ent Try.func4 Try.ntmps4 Try.results4 ?_
 refine rK [0] ?_
 refine W.seqR ?_
 refine oN 1 ?_
 refine oC [] ?_
 refine ct (DieOf_ok _) ?_
 refine oC [(10000, 88)] ?_
 refine CallT.mkE (LettingOf_ok _ 8 8 (by omega) (by omega) (by omega)) (fun z12 hz12 => ⟨(by simp), ?_⟩)
 obtain ⟨l, fd⟩ := z12
 have qmade : MadeL l 8 8 := hz12
 have hv : ValidL l := qmade.ok
 have h8 := hv.a8
 have hs8 := hv.s8
 replace F := F.add hv |>.add h8 |>.add hs8
 refine WOps.norm (by simp [hv, h8, hs8]; rfl) ?_
 refine oN 2 ?_
 refine oK [3] ?_
 refine W.seqR ?_
 refine fz 96 ?_
 refine fz 97 ?_
 refine oN 1 ?_
 refine oC [] ?_
 refine CallT.mkE (Let_ok l hv) (fun z15 hz15 => ⟨(by simp [hv, h8, hs8]), ?_⟩)
 have hk : HoldOk l z15 := hz15.hold
 have hkl := hk.len
 have hen : envL l z15 = [] := hz15.envy
 have hch : checkH l z15 = 0 := checkH_zero.2 ⟨hv, hk⟩
 replace F := F.add hk |>.add hkl |>.add hen |>.add hch
 refine WOps.norm (by simp [hv, h8, hs8, hk, hkl, hen, hch]; rfl) ?_
 refine oN 5 ?_
 refine oK [3, 4, 5] ?_
 refine W.seqk fun K1 hK1 => ?_
 refine W.seqR ?_
 refine oN 3 ?_
 refine gT ?_
 refine gT ?_
 refine gT ?_
 refine gT ?_
 refine gT ?_
 refine gT ?_
 refine oN 1 ?_
 refine oK [3, 4, 27] ?_
 refine cF ?_
 refine W.skip ?_
 refine hK1 _ ?_
 clear hK1 K1
 refine rK [3, 4, 6] ?_
 refine W.seqk fun K2 hK2 => ?_
 refine rK [3, 4, 6, 7] ?_
 refine W.block ?_
 refine sn 6 9000 3 1 ?_
 refine lp (α := Nat) [3, 4] [30, 51, 60, 69, 77, 78] [9000] (fun i => [(7, I i), (6, .own 9000 0 (metL z15 i).length)]) (fun i => [(9000, .row true 3 1 ((metL z15 i).map I))]) (fun i => i ≤ z15.length) (fun i => z15.length - i) 0 ?_ ?_ v0 ?_
 ·
  try (simp [Fx.get F])
  all_goals (
   simp [metL]
  )
 ·
  try (simp [Fx.get F])
  all_goals (
   simp [metL]
  )
 ·
  intro i hI0
  simp only [List.cons_append, List.nil_append]
  try dsimp only at hI0
  replace F := F.add hI0
  refine W.seqk fun K3 hK3 => ?_
  refine rK [3, 4, 6, 7, 31] ?_
  refine it (fun hc2 => ?_) (fun hc2 => ?_)
  ·
   try simp at hc2
   replace F := F.add hc2
   refine W.skip ?_
   refine hK3 _ ?_
   clear hK3 K3
   refine W.seqk fun K4 hK4 => ?_
   refine W.block ?_
   refine W.seqk fun K5 hK5 => ?_
   have hil : i < z15.length := by omega
   have his : i < l.stalls.length := by omega
   have hml : (metL z15 i).length ≤ 8 := by have := metL_le (z := z15) (i := i); omega
   replace F := F.add hil |>.add his |>.add hml
   refine rK [3, 4, 6, 7, 38] ?_
   refine it (fun hc3 => ?_) (fun hc3 => ?_)
   ·
    try simp at hc3
    replace F := F.add hc3
    refine W.exit ?_
    refine hK4 _ ?_
    clear hK5 K5 hK4 K4
    refine rEw ?_
    refine ⟨i + 1, lf ?_ ?_, v0, v0⟩
    ·
     try (simp [Fx.get F])
     all_goals (
      rw [metL_miss hil hc3]
     )
    ·
     try (simp [Fx.get F])
     all_goals (
      rw [metL_miss hil hc3]
     )
   ·
    try simp at hc3
    replace F := F.add hc3
    refine W.skip ?_
    refine hK5 _ ?_
    clear hK5 K5
    refine W.seqk fun K6 hK6 => ?_
    obtain ⟨a, qa, qal, qac⟩ : ∃ a : Nat, z15[i] = (a : Int) ∧ a < l.apps.length ∧ canS l.stalls (nth l.apps a) i = true := (hk.ok i hil).resolve_left (by assumption)
    have hha := qa
    have ha := qal
    have hnb : ¬ ((a : Int) < 0) := by omega
    have hna : ¬ l.apps.length ≤ a := by omega
    have hcan : canS l.stalls l.apps[a] i = true := by rw [← nth_get ha]; exact qac
    have hnm : (a : Int) ∉ metL z15 i := fun hm => by
      obtain ⟨t, ht, h6⟩ := List.mem_take_iff_getElem.1 (List.mem_filter.1 hm).1
      have := hk.one t i a (by omega) hil h6 qa
      omega
    replace F := F.add hha |>.add ha |>.add hnb |>.add hna |>.add hcan |>.add hnm
    refine wD 30 [] [[], [], [1, 0], [0, 1, 2], [2, 1, 0, 3], [3, 0, 1, 2, 4], [4, 2, 1, 0, 3, 5], [4, 2, 1, 0, 3, 5], [7, 5, 3, 0, 1, 2, 4, 6], [6, 4, 2, 1, 0, 3, 5, 7, 8], [4, 2, 1, 0, 3, 5], [5, 3, 0, 1, 2, 4, 10], [10, 4, 2, 1, 0, 3, 5, 11], [11, 10, 12, 8, 7, 5, 3, 0, 1, 2, 4, 6, 9], [9, 6, 7, 8, 12, 10, 11, 13, 4, 2, 1, 0, 3, 5], [5, 3, 0, 1, 2, 4, 13, 11, 10, 12, 8, 7, 6, 9, 14], [14, 9, 6, 7, 8, 12, 10, 11, 13, 4, 2, 1, 0, 3, 5, 15], [14, 9, 6, 7, 8, 12, 10, 11, 13, 4, 2, 1, 0, 3, 5, 15], [14, 9, 6, 7, 8, 12, 10, 11, 13, 4, 2, 1, 0, 3, 5, 15], [18, 15, 5, 3, 0, 1, 2, 4, 13, 11, 10, 12, 8, 7, 6, 9, 14, 17], [17, 14, 9, 6, 7, 8, 12, 10, 11, 13, 4, 2, 1, 0, 3, 5, 15, 18, 19], [19, 18, 17, 20, 15, 5, 3, 0, 1, 2, 4, 13, 11, 10, 12, 8, 7, 6, 9, 14, 16], [16, 20, 17, 18, 19, 21, 14, 9, 6, 7, 8, 12, 10, 11, 13, 4, 2, 1, 0, 3, 5, 15], [15, 5, 3, 0, 1, 2, 4, 13, 11, 10, 12, 8, 7, 6, 9, 14, 21, 19, 18, 17, 20, 16, 22], [22, 16, 20, 17, 18, 19, 21, 14, 9, 6, 7, 8, 12, 10, 11, 13, 4, 2, 1, 0, 3, 5, 15, 23], [22, 16, 20, 17, 18, 19, 21, 14, 9, 6, 7, 8, 12, 10, 11, 13, 4, 2, 1, 0, 3, 5, 15, 23], [22, 16, 20, 17, 18, 19, 21, 14, 9, 6, 7, 8, 12, 10, 11, 13, 4, 2, 1, 0, 3, 5, 15, 23], [26, 23, 15, 5, 3, 0, 1, 2, 4, 13, 11, 10, 12, 8, 7, 6, 9, 14, 21, 19, 18, 17, 20, 16, 22, 25], [25, 22, 16, 20, 17, 18, 19, 21, 14, 9, 6, 7, 8, 12, 10, 11, 13, 4, 2, 1, 0, 3, 5, 15, 23, 26, 27], [22, 16, 20, 17, 18, 19, 21, 14, 9, 6, 7, 8, 12, 10, 11, 13, 4, 2, 1, 0, 3, 5, 15, 23], [29, 27, 26, 25, 28, 23, 15, 5, 3, 0, 1, 2, 4, 13, 11, 10, 12, 8, 7, 6, 9, 14, 21, 19, 18, 17, 20, 16, 22, 24], [24, 22, 16, 20, 17, 18, 19, 21, 14, 9, 6, 7, 8, 12, 10, 11, 13, 4, 2, 1, 0, 3, 5, 15, 23, 28, 25, 26, 27, 29, 30], [30, 29, 27, 26, 25, 28, 24, 31, 22, 16, 20, 17, 18, 19, 21, 14, 9, 6, 7, 8, 12, 10, 11, 13, 4, 2, 1, 0, 3, 5, 15, 23]] ?_
    refine dB [([40], [], []), ([39], [false], []), ([], [true, true], []), ([], [true, true, true], []), ([], [true, true, true, true], []), ([], [true, true, true, true, true], [])] 24 6 ?_
    refine dT [46, 49, 50, 51] [true, true, true, true, true, true] [] ?_
    refine dT [45, 49, 50, 51] [true, true, true, true, true, true, false] [] ?_
    refine dT [49, 50, 51] [true, true, true, true, true, true, true, true] [] ?_
    refine dT [49, 50, 51] [true, true, true, true, true, true, true, true, true] [] ?_
    refine dT [45, 46, 47, 48] [true, true, true, true, true, true, false, false, false, false] [] ?_
    refine dT [45, 46, 47, 48] [true, true, true, true, true, true, false, false, false, false, true] [] ?_
    refine dT [45, 46, 47, 48] [true, true, true, true, true, true, false, false, false, false, true, true] [] ?_
    refine dT [] [true, true, true, true, true, true, true, true, true, true, true, true, true] [] ?_
    refine dB [([], [true, true, true, true, true, true, true, true, true, true, true, true, true, true], []), ([], [true, true, true, true, true, true, true, true, true, true, true, true, true, true, true], [])] 14 16 ?_
    refine dT [56, 57, 58, 59] [true, true, true, true, true, true, true, true, true, true, true, true, true, true, true, true] [] ?_
    refine dT [55, 57] [true, true, true, true, true, true, true, true, true, true, true, true, true, true, true, true, false] [] ?_
    refine dT [55, 56] [true, true, true, true, true, true, true, true, true, true, true, true, true, true, true, true, false, false] [] ?_
    refine dT [55] [true, true, true, true, true, true, true, true, true, true, true, true, true, true, true, true, false, true, true] [] ?_
    refine dT [55] [true, true, true, true, true, true, true, true, true, true, true, true, true, true, true, true, false, true, true, true] [] ?_
    refine dG [] [true, true, true, true, true, true, true, true, true, true, true, true, true, true, true, true, true, true, true, true, true] [] [] ?_
    refine cd (Has_ok _ _) ?_
    refine dB [([], [true, true, true, true, true, true, true, true, true, true, true, true, true, true, true, true, true, true, true, true, true, true], []), ([], [true, true, true, true, true, true, true, true, true, true, true, true, true, true, true, true, true, true, true, true, true, true, true], [])] 6 24 ?_
    refine dT [64, 65, 66, 67, 68] [true, true, true, true, true, true, true, true, true, true, true, true, true, true, true, true, true, true, true, true, true, true, true, true] [] ?_
    refine dT [63, 65, 68] [true, true, true, true, true, true, true, true, true, true, true, true, true, true, true, true, true, true, true, true, true, true, true, true, false] [] ?_
    refine dT [63, 64, 68] [true, true, true, true, true, true, true, true, true, true, true, true, true, true, true, true, true, true, true, true, true, true, true, true, false, false] [] ?_
    refine dT [63, 68] [true, true, true, true, true, true, true, true, true, true, true, true, true, true, true, true, true, true, true, true, true, true, true, true, false, true, true] [] ?_
    refine dT [63, 68] [true, true, true, true, true, true, true, true, true, true, true, true, true, true, true, true, true, true, true, true, true, true, true, true, false, true, true, true] [] ?_
    refine dT [63, 64, 65, 66, 67] [true, true, true, true, true, true, true, true, true, true, true, true, true, true, true, true, true, true, true, true, true, true, true, true, false, false, false, false, false] [] ?_
    refine dD ?_
    refine gC [] ?_
    refine ct (Can_ok l hv a i ha his) ?_
    refine gT ?_
    refine oN 1 ?_
    refine oK [3, 4, 6, 7, 71] ?_
    refine cF ?_
    refine W.skip ?_
    refine hK6 _ ?_
    clear hK6 K6
    refine rEw ?_
    refine hK4 _ ?_
    clear hK4 K4
    refine rEw ?_
    refine ⟨i + 1, lf ?_ ?_, v0, v0⟩
    ·
     try (simp [Fx.get F])
     all_goals (
      rw [metL_hit hil hc3, hha]; simp
     )
    ·
     try (simp [Fx.get F])
     all_goals (
      rw [metL_hit hil hc3, hha]; simp
     )
  ·
   try simp at hc2
   replace F := F.add hc2
   refine W.exit ?_
   refine hK2 _ ?_
   clear hK3 K3 hK2 K2
   refine W.seqR ?_
   refine oN 2 ?_
   refine oC [] ?_
   refine ct (Envies_ok l hv z15 hk) ?_
   refine oN 5 ?_
   refine oK [3, 4, 8, 9] ?_
   refine W.seqR ?_
   refine oN 3 ?_
   refine gT ?_
   refine gT ?_
   refine gT ?_
   refine oN 2 ?_
   refine gT ?_
   refine gT ?_
   refine gC [] ?_
   refine ct (CheckHolders_ok _ _) ?_
   refine gT ?_
   refine oN 2 ?_
   refine gC [] ?_
   refine ct (awake_ok) ?_
   refine oN 2 ?_
   refine oK [2] ?_
   refine W.ret ?_
   exact er0 false [] []
end Go.Sim
