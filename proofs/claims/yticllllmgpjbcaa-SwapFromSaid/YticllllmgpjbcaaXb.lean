/- The trade of stalls that were let: the law answers true. -/
import Derived.Test.YticllllmgpjbcaaXa
import Derived.Test.YticllllmgpjbcaaLt
import Derived.Test.YticllllmgpjbcaaLq
import Derived.Test.YticllllmgpjbcaaLn
import Derived.Test.YticllllmgpjbcaaVl
namespace Go.Sim
open Go.Proofs
set_option maxRecDepth 100000
set_option linter.unusedSimpArgs false
set_option linter.unusedVariables false
attribute [-simp] List.map_set List.map_take List.map_drop
set_option maxHeartbeats 4000000 in
theorem SameLet_ok (a : Lett) (h1 : a.stalls.length ≤ 1000) (h2 : a.apps.length ≤ 1000) : ACalls Try.prog 27 [letV a, letV a] [] (fun r o => r = B true ∧ o = []) := by
 have F := Fx.nil
 replace F := F.add h1 |>.add h2
 refine ent Try.func27 Try.ntmps27 Try.results27 ?_
 refine rK [2, 3] ?_
 refine W.seqR ?_
 refine oN 8 ?_
 refine gT ?_
 refine gT ?_
 refine gT ?_
 refine gT ?_
 refine gT ?_
 refine gT ?_
 refine gT ?_
 refine oN 2 ?_
 refine oK [2, 3, 5] ?_
 refine W.seqk fun K1 hK1 => ?_
 refine rK [2, 3, 5, 6] ?_
 refine W.block ?_
 refine lpa (α := Nat) [2, 3] [31] [] (fun i => [(6, I i), (5, B true)]) (fun i => []) (fun i => i ≤ a.stalls.length) (fun i => a.stalls.length - i) 0 v0 ?_
 ·
  intro i hI0
  simp only [List.cons_append, List.nil_append]
  try dsimp only at hI0
  replace F := F.add hI0
  refine W.seqk fun K2 hK2 => ?_
  refine W.seqR ?_
  refine oN 2 ?_
  refine gT ?_
  refine gT ?_
  refine gT ?_
  refine gT ?_
  refine gT ?_
  refine oN 1 ?_
  refine oK [2, 3, 5, 6, 33] ?_
  refine it (fun hc1 => ?_) (fun hc1 => ?_)
  ·
   try simp at hc1
   replace F := F.add hc1
   refine W.skip ?_
   refine hK2 _ ?_
   clear hK2 K2
   refine W.seqk fun K3 hK3 => ?_
   refine W.block ?_
   have hia : i < a.stalls.length := by omega
   replace F := F.add hia
   refine wDe 10 [] [[], [0], [], [2, 0, 1], [1, 0, 2, 3], [], [5], [], [7, 5, 6], [6, 5, 7, 8], [8, 7, 5, 6, 9, 3, 2, 0, 1, 4], [4, 1, 0, 2, 3, 9, 6, 5, 7, 8, 10]] ?_
   refine dB [([38, 41, 42, 43, 44, 45], [], []), ([38, 41, 42, 43, 44, 45], [true], []), ([36, 37, 41, 42, 43, 44, 45], [false, false], []), ([41, 42, 43, 44, 45], [true, true, true], []), ([41, 42, 43, 44, 45], [true, true, true, true], []), ([36, 37, 38, 39, 40, 43], [false, false, false, false, false], []), ([36, 37, 38, 39, 40, 43], [false, false, false, false, false, true], []), ([36, 37, 38, 39, 40, 41, 42], [false, false, false, false, false, false, false], []), ([36, 37, 38, 39, 40], [false, false, false, false, false, true, true, true], []), ([36, 37, 38, 39, 40], [false, false, false, false, false, true, true, true, true], [])] 0 10 ?_
   refine dD ?_
   refine oN 2 ?_
   refine WOps.endK ?_
   refine hK3 _ ?_
   clear hK3 K3
   refine rEw ?_
   refine ⟨i + 1, lf0, v0, v0⟩
  ·
   try simp at hc1
   replace F := F.add hc1
   refine W.exit ?_
   refine hK1 _ ?_
   clear hK2 K2 hK1 K1
   refine W.seqk fun K4 hK4 => ?_
   refine rK [2, 3, 5, 7] ?_
   refine W.block ?_
   refine lpa (α := Nat) [2, 3] [8, 9, 52, 84, 91] [] (fun i => [(7, I i), (5, B true)]) (fun i => []) (fun i => i ≤ a.apps.length) (fun i => a.apps.length - i) 0 v0 ?_
   ·
    intro i hI1
    simp only [List.cons_append, List.nil_append]
    try dsimp only at hI1
    replace F := F.add hI1
    refine W.seqk fun K5 hK5 => ?_
    refine W.seqR ?_
    refine oN 2 ?_
    refine gT ?_
    refine gT ?_
    refine gT ?_
    refine gT ?_
    refine gT ?_
    refine oN 1 ?_
    refine oK [2, 3, 5, 7, 54] ?_
    refine it (fun hc2 => ?_) (fun hc2 => ?_)
    ·
     try simp at hc2
     replace F := F.add hc2
     refine W.skip ?_
     refine hK5 _ ?_
     clear hK5 K5
     refine W.seqk fun K6 hK6 => ?_
     refine W.block ?_
     have hia : i < a.apps.length := by omega
     replace F := F.add hia
     refine wD 13 [(12, [64])] [[], [0], [], [2, 0, 1], [1, 0, 2, 3], [], [5], [], [7, 5, 6], [6, 5, 7, 8], [], [], [11, 3, 2, 0, 1, 4, 10], [10, 4, 1, 0, 2, 3, 12, 8, 7, 5, 6, 9, 11]] ?_
     refine dB [([59, 62, 63, 64, 65, 66, 8, 9], [], []), ([59, 62, 63, 64, 65, 66, 8, 9], [true], []), ([57, 58, 62, 63, 64, 65, 66, 8, 9], [false, false], []), ([62, 63, 64, 65, 66, 8, 9], [true, true, true], []), ([62, 63, 64, 65, 66, 8, 9], [true, true, true, true], []), ([57, 58, 59, 60, 61, 64, 8, 9], [false, false, false, false, false], [64]), ([57, 58, 59, 60, 61, 64, 8, 9], [false, false, false, false, false, true], [64]), ([57, 58, 59, 60, 61, 62, 63, 8, 9], [false, false, false, false, false, false, false], [64]), ([57, 58, 59, 60, 61, 8, 9], [false, false, false, false, false, true, true, true], [64]), ([57, 58, 59, 60, 61, 8, 9], [false, false, false, false, false, true, true, true, true], [64]), ([57, 58, 59, 60, 61, 62, 63, 64, 65, 66, 9], [false, false, false, false, false, false, false, false, false, false], []), ([57, 58, 59, 60, 61, 62, 63, 64, 65, 66, 8], [false, false, false, false, false, false, false, false, false, false, false], [])] 1 12 ?_
     refine WDraw.upd hΓ [64] (viewB_eq (L := [62, 63, 64, 65, 66]) (S := [true, true, true, true, true, false, false, false, false, false, true, true]) (O := []) (by kernel_rfl) (by kernel_rfl) (by simp [h1, h2, hI0, hc1, hI1, hc2, hia]; rfl)) (by first | rfl | simp) (by simp [h1, h2, hI0, hc1, hI1, hc2, hia]; first | rfl | exact ⟨rfl, rfl⟩) (by simp [h1, h2, hI0, hc1, hI1, hc2, hia]; first | done | rfl) (.inr (by simp)) (by simp [h1, h2, hI0, hc1, hI1, hc2, hia]; rfl) ?_
     refine dD ?_
     refine WOps.le Le.dedup rfl rfl ?_
     refine WOps.norm (by simp [h1, h2, hI0, hc1, hI1, hc2, hia]; rfl) ?_
     refine oN 1 ?_
     refine oK [2, 3, 7, 8, 9] ?_
     refine W.region ?_
     refine oN 6 ?_
     refine gT ?_
     refine gT ?_
     refine gT ?_
     refine gT ?_
     refine gT ?_
     refine oN 2 ?_
     refine gT ?_
     refine gT ?_
     refine gT ?_
     refine gT ?_
     refine gC [] ?_
     refine ct (SameInts_ok _ _) ?_
     refine oN 2 ?_
     refine gT ?_
     refine gT ?_
     refine gT ?_
     refine gT ?_
     refine gC [] ?_
     refine ct (SameInts_ok _ _) ?_
     refine oN 2 ?_
     refine WOps.endK ?_
     refine hK6 _ ?_
     clear hK6 K6
     refine rEw ?_
     refine ⟨i + 1, lf0, v0, v0⟩
    ·
     try simp at hc2
     replace F := F.add hc2
     refine W.exit ?_
     refine hK4 _ ?_
     clear hK5 K5 hK4 K4
     refine rK [4] ?_
     refine W.ret ?_
     exact er0 false [] []
def Small15 (l : Lett) : Prop := l.stalls.length ≤ 15 ∧ l.apps.length ≤ 15 ∧ ∀ a ∈ l.apps, a.wishes.length ≤ 15 ∧ a.bids.length ≤ 15
theorem small15_made {l : Lett} (hv : ValidL l) : Small15 l := by
  refine ⟨by have := hv.s8; omega, by have := hv.a8; omega, fun a ha => ?_⟩
  have k := hv.ap a ha
  have := k.wlen
  have := k.len
  have := hv.s8
  omega
theorem frE_zero {l : Lett} {h : List Int} {d : Int} (e : frE l h d = 0) : (ValidL l ∧ HoldOk l h) ∧ (0 ≤ d ∧ d ≤ 6) := by
  unfold frE at e
  split at e
  · contradiction
  split at e
  · cases e
  rename_i h1 h2
  exact ⟨checkH_zero.1 (Classical.not_not.1 h1), by omega⟩
set_option maxHeartbeats 4000000 in
theorem SwapFrom_ok (l0 : Lett) (h0 : List Int) (d0 : Int) (nums : List Int) : ACalls Try.prog 4 [letV l0, ints h0, I d0, ints nums] [] (fun r o => r = B true ∧ o = []) := by
 refine ACalls.lenA (xs := [stalls l0.stalls, apps l0.apps]) (l := l0.apps.map A4) (by simp) (by simp) ⟨_, Try.func4, by kernel_rfl, by kernel_rfl⟩ fun hln => ?_
 simp [maxLen_val] at hln
 have F := Fx.nil
 refine ent Try.func4 Try.ntmps4 Try.results4 ?_
 refine rK [1, 2, 3, 4] ?_
 refine W.seqk fun K1 hK1 => ?_
 refine rK [1, 2, 3, 4, 9] ?_
 refine W.block ?_
 refine lpa (α := Nat) [1, 2, 3, 4] [29, 39, 48, 51] [] (fun i => [(9, I i)]) (fun i => []) (fun i => i ≤ l0.apps.length ∧ ∀ j, j < i → (nth l0.apps j).wishes.length ≤ 15 ∧ (nth l0.apps j).bids.length ≤ 15) (fun i => l0.apps.length - i) 0 v0 ?_
 ·
  intro i hI0
  simp only [List.cons_append, List.nil_append]
  try dsimp only at hI0
  obtain ⟨hi, km1⟩ := hI0
  replace F := F.add hi
  refine W.seqk fun K2 hK2 => ?_
  refine rK [1, 2, 3, 4, 9, 30] ?_
  refine it (fun hc1 => ?_) (fun hc1 => ?_)
  ·
   try simp at hc1
   replace F := F.add hc1
   refine W.skip ?_
   refine hK2 _ ?_
   clear hK2 K2
   refine W.seqk fun K3 hK3 => ?_
   refine W.block ?_
   have hil : i < l0.apps.length := by omega
   replace F := F.add hil
   by_cases hwi : (15 : Int) < l0.apps[i].wishes.length
   ·
    replace F := F.add hwi
    refine W.seqR ?_
    refine oN 9 ?_
    refine gF ?_
    refine gF ?_
    refine gF ?_
    refine gF ?_
    refine gF ?_
    refine gF ?_
    refine gF ?_
    refine gF ?_
    refine oN 1 ?_
    refine oK [1, 2, 3, 4, 9, 50] ?_
    refine cT ?_
    refine W.seqR ?_
    refine oC [] ?_
    refine ct (W6.awake_ok) ?_
    refine oN 1 ?_
    refine oK [8] ?_
    refine W.ret ?_
    refine br (tr (tr (br (tr ?_))))
    clear hK3 K3 hK1 K1
    refine er false [] [] ?_
    exact ⟨rfl, rfl⟩
   ·
    replace F := F.add hwi
    by_cases hbi : (15 : Int) < l0.apps[i].bids.length
    ·
     replace F := F.add hbi
     refine W.seqR ?_
     refine oN 9 ?_
     refine gT ?_
     refine gT ?_
     refine gT ?_
     refine gT ?_
     refine gT ?_
     refine gT ?_
     refine gT ?_
     refine gT ?_
     refine oN 1 ?_
     refine oK [1, 2, 3, 4, 9, 50] ?_
     refine cT ?_
     refine W.seqR ?_
     refine oC [] ?_
     refine ct (W6.awake_ok) ?_
     refine oN 1 ?_
     refine oK [8] ?_
     refine W.ret ?_
     refine br (tr (tr (br (tr ?_))))
     clear hK3 K3 hK1 K1
     refine er false [] [] ?_
     exact ⟨rfl, rfl⟩
    ·
     replace F := F.add hbi
     refine W.seqR ?_
     refine oN 9 ?_
     refine gT ?_
     refine gT ?_
     refine gT ?_
     refine gT ?_
     refine gT ?_
     refine gT ?_
     refine gT ?_
     refine gT ?_
     refine oN 1 ?_
     refine oK [1, 2, 3, 4, 9, 50] ?_
     refine cF ?_
     refine W.skip ?_
     refine hK3 _ ?_
     clear hK3 K3
     refine rEw ?_
     refine ⟨i + 1, lf0, ?_, v0⟩
     ·
      first
      | exact ⟨by omega, fun j hj => by
          by_cases e : j = i
          · rw [e, nth_get hil]; omega
          · exact km1 j (by omega)⟩
      | omega
  ·
   try simp at hc1
   replace F := F.add hc1
   refine W.exit ?_
   refine hK1 _ ?_
   clear hK2 K2 hK1 K1
   refine W.seqk fun K4 hK4 => ?_
   by_cases hsi : (15 : Int) < l0.stalls.length
   ·
    replace F := F.add hsi
    refine W.seqR ?_
    refine oN 5 ?_
    refine gF ?_
    refine gF ?_
    refine gF ?_
    refine gF ?_
    refine oN 2 ?_
    refine gF ?_
    refine gF ?_
    refine gF ?_
    refine oN 1 ?_
    refine oK [1, 2, 3, 4, 66] ?_
    refine cT ?_
    refine W.seqR ?_
    refine oC [] ?_
    refine ct (W6.awake_ok) ?_
    refine oN 1 ?_
    refine oK [8] ?_
    refine W.ret ?_
    refine tr ?_
    clear hK4 K4
    refine er false [] [] ?_
    exact ⟨rfl, rfl⟩
   ·
    replace F := F.add hsi
    by_cases hai : (15 : Int) < l0.apps.length
    ·
     replace F := F.add hai
     refine W.seqR ?_
     refine oN 5 ?_
     refine gT ?_
     refine gT ?_
     refine gT ?_
     refine gT ?_
     refine oN 2 ?_
     refine gF ?_
     refine gF ?_
     refine gF ?_
     refine oN 1 ?_
     refine oK [1, 2, 3, 4, 66] ?_
     refine cT ?_
     refine W.seqR ?_
     refine oC [] ?_
     refine ct (W6.awake_ok) ?_
     refine oN 1 ?_
     refine oK [8] ?_
     refine W.ret ?_
     refine tr ?_
     clear hK4 K4
     refine er false [] [] ?_
     exact ⟨rfl, rfl⟩
    ·
     replace F := F.add hai
     by_cases hhi : (20 : Int) < h0.length
     ·
      replace F := F.add hhi
      refine W.seqR ?_
      refine oN 5 ?_
      refine gT ?_
      refine gT ?_
      refine gT ?_
      refine gT ?_
      refine oN 2 ?_
      refine gT ?_
      refine gT ?_
      refine gT ?_
      refine oN 1 ?_
      refine oK [1, 2, 3, 4, 66] ?_
      refine cT ?_
      refine W.seqR ?_
      refine oC [] ?_
      refine ct (W6.awake_ok) ?_
      refine oN 1 ?_
      refine oK [8] ?_
      refine W.ret ?_
      refine tr ?_
      clear hK4 K4
      refine er false [] [] ?_
      exact ⟨rfl, rfl⟩
     ·
      replace F := F.add hhi
      refine W.seqR ?_
      refine oN 5 ?_
      refine gT ?_
      refine gT ?_
      refine gT ?_
      refine gT ?_
      refine oN 2 ?_
      refine gT ?_
      refine gT ?_
      refine gT ?_
      refine oN 1 ?_
      refine oK [1, 2, 3, 4, 66] ?_
      refine cF ?_
      refine W.skip ?_
      refine hK4 _ ?_
      clear hK4 K4
      have qs0 : Small15 l0 := by
        refine ⟨by omega, by omega, fun a ha => ?_⟩
        obtain ⟨j, hj, rfl⟩ := List.getElem_of_mem ha
        have := km1 j (by omega)
        rwa [nth_get hj] at this
      refine W.seqR ?_
      refine oN 1 ?_
      refine oC [] ?_
      refine ct (DieOf_ok _) ?_
      refine oN 1 ?_
      refine oK [1, 2, 4, 10] ?_
      refine W.seqR ?_
      refine oN 1 ?_
      refine oC [(10000, 552)] ?_
      refine CallT.mkE (LettingOf_ok _ 6 6 (by omega) (by omega) (by omega)) (fun z71 hz71 => ⟨(by simp [hi, hc1, hsi, hai, hhi]), ?_⟩)
      obtain ⟨l, fd⟩ := z71
      have qmade : MadeL l 6 6 := hz71
      have hv : ValidL l := qmade.ok
      have h8 := hv.a8
      have hs8 := hv.s8
      replace F := F.add hv |>.add h8 |>.add hs8
      refine WOps.norm (by simp [hi, hc1, hsi, hai, hhi, hv, h8, hs8]; rfl) ?_
      refine oN 2 ?_
      refine oK [1, 2, 4, 10, 11] ?_
      refine W.seqR ?_
      refine fz 568 ?_
      refine fz 569 ?_
      refine oN 1 ?_
      refine oC [] ?_
      refine CallT.mkE (rLet_ok l hv) (fun z74 hz74 => ⟨(by simp [hi, hc1, hsi, hai, hhi, hv, h8, hs8]), ?_⟩)
      obtain ⟨z, qz⟩ : ∃ z, z = z74 := ⟨_, rfl⟩
      have hz := qz.symm
      have hzl : z.length = l.stalls.length := by rw [qz]; exact hz74.hold.len
      replace F := F.add hz |>.add hzl
      refine WOps.norm (by simp [hi, hc1, hsi, hai, hhi, hv, h8, hs8, hz, hzl]; rfl) ?_
      refine oN 5 ?_
      refine oK [1, 2, 4, 10, 11, 12] ?_
      obtain ⟨dv, qdv⟩ : ∃ v, castV fd 7 = v := ⟨_, rfl⟩
      have hdv := qdv
      obtain ⟨g2, qg2⟩ : ∃ v, castF fd 7 = v := ⟨_, rfl⟩
      have hg2 := qg2
      replace F := F.add hdv |>.add hg2
      refine wD 15 [(10, [552])] [[], [], [], [2, 1, 0], [], [], [], [6, 5, 4], [], [], [9], [], [11, 9, 10, 8], [9, 10, 0, 1, 2, 3], [3, 2, 1, 0, 10, 9, 13, 4, 5, 6, 7], [7, 6, 5, 4, 13, 0, 1, 2, 3, 14, 8, 10, 9, 11, 12]] ?_
      refine dB [([78, 79, 81, 82, 83, 84, 85, 86, 87, 88, 89], [], [552]), ([77, 79, 81, 82, 83, 84, 85, 86, 87, 88, 89], [false], [552]), ([77, 78, 81, 82, 83, 84, 85, 86, 87, 88, 89], [false, false], [552]), ([81, 82, 83, 84, 85, 86, 87, 88, 89], [true, true, true], [552]), ([77, 78, 79, 80, 82, 83, 85, 86, 87, 88, 89, 14], [false, false, false, false], [552]), ([77, 78, 79, 80, 81, 83, 85, 86, 87, 88, 89, 14], [false, false, false, false, false], [552]), ([77, 78, 79, 80, 81, 82, 85, 86, 87, 88, 89, 14], [false, false, false, false, false, false], [552]), ([77, 78, 79, 80, 85, 86, 87, 88, 89, 14], [false, false, false, false, true, true, true], [552]), ([77, 78, 79, 80, 81, 82, 83, 84, 86, 87, 88, 14, 15], [false, false, false, false, false, false, false, false], [552]), ([77, 78, 79, 80, 81, 82, 83, 84, 85, 88], [false, false, false, false, false, false, false, false, false], [])] 5 10 ?_
      refine dC [77, 78, 79, 80, 81, 82, 83, 84, 85, 88] [false, false, false, false, false, false, false, false, false, true] [] [(10000, 552)] ?_
      refine cd (Cast_ok fd 7 (by omega)) ?_
      refine dB [([77, 78, 79, 80, 81, 82, 83, 84, 85, 86, 87, 14, 15], [false, false, false, false, false, false, false, false, false, false, false], [552]), ([77, 78, 79, 80, 81, 82, 83, 84, 14, 15], [false, false, false, false, false, false, false, false, true, true, true, true], []), ([81, 82, 83, 84, 85, 88, 89], [true, true, true, true, false, false, false, false, false, true, true, false, false], []), ([85, 88, 89], [true, true, true, true, true, true, true, true, false, true, true, false, false, true], [])] 0 15 ?_
      refine dD ?_
      refine oN 1 ?_
      refine oK [14, 15, 16] ?_
      refine W.seqk fun K5 hK5 => ?_
      obtain ⟨LS, qLS⟩ : ∃ LS, LS = [l0, l, l] := ⟨_, rfl⟩
      have hLS : [letV l0, letV l, letV l] = LS.map letV := by rw [qLS]; rfl
      obtain ⟨HS, qHS⟩ : ∃ HS, HS = [h0, z, z] := ⟨_, rfl⟩
      have hHS : [ints h0, ints z, ints z] = HS.map ints := by rw [qHS]; rfl
      obtain ⟨DS, qDS⟩ : ∃ DS, DS = [d0, dv, d0] := ⟨_, rfl⟩
      have hDS : [I d0, I dv, I d0] = DS.map I := by rw [qDS]; rfl
      have hLSl : LS.length = 3 := by rw [qLS]; rfl
      have hHSl : HS.length = 3 := by rw [qHS]; rfl
      have hDSl : DS.length = 3 := by rw [qDS]; rfl
      have qsm : ∀ x ∈ LS, Small15 x := fun x hx => by
        rw [qLS] at hx
        simp only [List.mem_cons, List.not_mem_nil, or_false] at hx
        rcases hx with rfl | rfl | rfl
        · exact qs0
        · exact small15_made hv
        · exact small15_made hv
      have qhm : ∀ x ∈ HS, x.length ≤ 20 := fun x hx => by
        rw [qHS] at hx
        simp only [List.mem_cons, List.not_mem_nil, or_false] at hx
        rcases hx with rfl | rfl | rfl
        · omega
        · omega
        · omega
      replace F := F.add hLS |>.add hHS |>.add hDS |>.add hLSl |>.add hHSl |>.add hDSl
      refine rK [14, 15, 16, 17] ?_
      refine W.block ?_
      refine lpa (α := Nat) [14, 15, 16] [18, 20, 23, 92, 100, 105, 113, 130, 140, 146, 155, 164] [552] (fun i => [(17, I i)]) (fun i => [(552, die g2)]) (fun i => i ≤ 3) (fun i => 3 - i) 0 v0 ?_
      ·
       intro j hI1
       simp only [List.cons_append, List.nil_append]
       try dsimp only at hI1
       replace F := F.add hI1
       refine W.seqk fun K6 hK6 => ?_
       refine rK [14, 15, 16, 17, 93] ?_
       refine it (fun hc9 => ?_) (fun hc9 => ?_)
       ·
        try simp at hc9
        replace F := F.add hc9
        refine W.skip ?_
        refine hK6 _ ?_
        clear hK6 K6
        refine W.seqk fun K7 hK7 => ?_
        refine W.block ?_
        have hi3 : j < 3 := by omega
        have hiL : j < LS.length := by omega
        have hiH : j < HS.length := by omega
        have hiD : j < DS.length := by omega
        have qsi := qsm _ (List.getElem_mem hiL)
        have qhi := qhm _ (List.getElem_mem hiH)
        obtain ⟨L, qL⟩ : ∃ L, L = LS[j] := ⟨_, rfl⟩
        have hL := qL.symm
        rw [← qL] at qsi
        obtain ⟨H, qH⟩ : ∃ H, H = HS[j] := ⟨_, rfl⟩
        have hH := qH.symm
        rw [← qH] at qhi
        obtain ⟨D, qD⟩ : ∃ D, D = DS[j] := ⟨_, rfl⟩
        have hD := qD.symm
        replace F := F.add hi3 |>.add hiL |>.add hiH |>.add hiD |>.add hL |>.add hH |>.add hD
        by_cases hfe : frE L H D = 0
        ·
         replace F := F.add hfe
         obtain ⟨⟨qv2, qho⟩, qdr⟩ := frE_zero hfe
         have qF1 := From_fine L qv2 H qho D qdr
         have qF2 := rFrom_fine L qv2 H qho D qdr
         obtain ⟨FR, qFR⟩ : ∃ x, frL L H D = x := ⟨_, rfl⟩
         rw [qFR] at qF1 qF2
         refine wD 11 [] [[], [], [1, 0], [0, 1, 2], [2, 1, 0, 3], [], [], [6, 5], [5, 6, 7], [3, 0, 1, 2, 4, 7, 6, 5, 8], [], [8, 5, 6, 7, 9, 3, 0, 1, 2, 4, 10], [10, 11, 8, 5, 6, 7, 4, 2, 1, 0, 3, 9]] ?_
         refine dB [([97, 101, 102, 103, 104, 18], [], []), ([96, 101, 102, 103, 104, 18], [false], []), ([101, 102, 103, 104, 18], [true, true], []), ([101, 102, 103, 104, 18], [true, true, true], [])] 7 4 ?_
         refine dC [101, 102, 103, 104, 18] [true, true, true, true] [] [] ?_
         refine cd (CopyLetting_imm L (by have := qsi.1; omega) (by have := qsi.2.1; omega) (fun a ha => by have := qsi.2.2 a ha; omega)) ?_
         refine dB [([96, 97, 98, 99, 100, 102, 18], [false, false, false, false, false], []), ([96, 97, 98, 99, 100, 101, 18], [false, false, false, false, false, false], []), ([96, 97, 98, 99, 100, 18], [false, false, false, false, false, true, true], []), ([96, 97, 98, 99, 100, 18], [false, false, false, false, false, true, true, true], [])] 2 9 ?_
         refine dC [18] [true, true, true, true, true, true, true, true, true] [] [] ?_
         refine cd (CopyInts_imm H (by omega)) ?_
         refine dB [([96, 97, 98, 99, 100, 101, 102, 103, 104, 105], [false, false, false, false, false, false, false, false, false, false], [])] 0 11 ?_
         refine dD ?_
         refine oN 2 ?_
         refine oK [14, 15, 16, 17, 18, 19] ?_
         refine wD 14 [(12, [160])] [[], [], [], [], [3, 2], [2, 3, 4], [4, 3, 2, 5, 1, 0], [0, 1, 5, 2, 3, 4, 6], [6, 4, 3, 2, 5, 1, 0, 7], [6, 4, 3, 2, 5, 1, 0, 7], [6, 4, 3, 2, 5, 1, 0, 7], [], [7, 0, 1, 5, 2, 3, 4, 6, 8, 11], [11, 8, 12, 7, 0, 1, 5, 2, 3, 4, 6, 9], [9, 12, 8, 11, 13, 7, 0, 1, 5, 2, 3, 4, 6, 10]] ?_
         refine dB [([108, 109, 110, 111, 112, 20], [], []), ([107, 109, 110, 111, 112, 20], [false], []), ([107, 108, 110, 20], [false, false], []), ([107, 108, 109, 20], [false, false, false], []), ([107, 108, 20], [false, false, true, true], []), ([107, 108, 20], [false, false, true, true, true], [])] 8 6 ?_
         refine dC [20] [true, true, true, true, true, true] [] [] ?_
         refine cd (qF1) ?_
         refine dB [([20], [true, true, true, true, true, true, true], []), ([115, 116, 20], [true, true, true, true, true, true, true, true], []), ([114, 116, 20], [true, true, true, true, true, true, true, true, false], [160]), ([114, 115, 20, 21], [true, true, true, true, true, true, true, true, false, false], [160]), ([107, 108, 109, 110, 111, 112, 113, 106, 114, 115, 116], [false, false, false, false, false, false, false, false, false, false, false], [])] 2 12 ?_
         refine WDraw.upd hΓ [160] (viewB_eq (L := [115, 116]) (S := [true, true, true, true, true, true, true, true, true, false, false, true]) (O := []) (by kernel_rfl) (by kernel_rfl) (by simp [hi, hc1, hsi, hai, hhi, hv, h8, hs8, hz, hzl, hdv, hg2, hLS, hHS, hDS, hLSl, hHSl, hDSl, hI1, hc9, hi3, hiL, hiH, hiD, hL, hH, hD, hfe]; rfl)) (by first | rfl | simp) (by simp [hi, hc1, hsi, hai, hhi, hv, h8, hs8, hz, hzl, hdv, hg2, hLS, hHS, hDS, hLSl, hHSl, hDSl, hI1, hc9, hi3, hiL, hiH, hiD, hL, hH, hD, hfe]; first | rfl | exact ⟨rfl, rfl⟩) (by simp [hi, hc1, hsi, hai, hhi, hv, h8, hs8, hz, hzl, hdv, hg2, hLS, hHS, hDS, hLSl, hHSl, hDSl, hI1, hc9, hi3, hiL, hiH, hiD, hL, hH, hD, hfe]; first | done | rfl) (.inr (by simp)) (by simp [hi, hc1, hsi, hai, hhi, hv, h8, hs8, hz, hzl, hdv, hg2, hLS, hHS, hDS, hLSl, hHSl, hDSl, hI1, hc9, hi3, hiL, hiH, hiD, hL, hH, hD, hfe]; rfl) ?_
         refine dB [([116], [true, true, true, true, true, true, true, true, true, true, false, true, true], [])] 0 14 ?_
         refine dD ?_
         refine WOps.le Le.dedup rfl rfl ?_
         refine WOps.norm (by simp [hi, hc1, hsi, hai, hhi, hv, h8, hs8, hz, hzl, hdv, hg2, hLS, hHS, hDS, hLSl, hHSl, hDSl, hI1, hc9, hi3, hiL, hiH, hiD, hL, hH, hD, hfe]; rfl) ?_
         refine oN 1 ?_
         refine oK [14, 15, 16, 17, 18, 19, 20, 21, 22] ?_
         refine wD 20 [(18, [184])] [[], [], [1, 0], [0, 1, 2], [], [], [5, 4], [4, 5, 6], [], [], [9, 8], [8, 9, 10], [10, 9, 8, 11, 6, 5, 4, 7, 2, 1, 0, 3], [3, 0, 1, 2, 7, 4, 5, 6, 11, 8, 9, 10, 12], [12, 10, 9, 8, 11, 6, 5, 4, 7, 2, 1, 0, 3, 13], [12, 10, 9, 8, 11, 6, 5, 4, 7, 2, 1, 0, 3, 13], [12, 10, 9, 8, 11, 6, 5, 4, 7, 2, 1, 0, 3, 13], [], [13, 3, 0, 1, 2, 7, 4, 5, 6, 11, 8, 9, 10, 12, 14, 17], [17, 14, 18, 13, 3, 0, 1, 2, 7, 4, 5, 6, 11, 8, 9, 10, 12, 15], [15, 18, 14, 17, 19, 13, 3, 0, 1, 2, 7, 4, 5, 6, 11, 8, 9, 10, 12, 16]] ?_
         refine dB [([119, 122, 123, 124, 125, 126, 127, 128, 129, 23], [], []), ([118, 122, 123, 124, 125, 126, 127, 128, 129, 23], [false], []), ([122, 123, 124, 125, 126, 127, 128, 129, 23], [true, true], []), ([122, 123, 124, 125, 126, 127, 128, 129, 23], [true, true, true], []), ([118, 119, 120, 121, 123, 126, 127, 128, 129, 23], [false, false, false, false], []), ([118, 119, 120, 121, 122, 126, 127, 128, 129, 23], [false, false, false, false, false], []), ([118, 119, 120, 121, 126, 127, 128, 129, 23], [false, false, false, false, true, true], []), ([118, 119, 120, 121, 126, 127, 128, 129, 23], [false, false, false, false, true, true, true], []), ([118, 119, 120, 121, 122, 123, 124, 125, 127, 23], [false, false, false, false, false, false, false, false], []), ([118, 119, 120, 121, 122, 123, 124, 125, 126, 23], [false, false, false, false, false, false, false, false, false], []), ([118, 119, 120, 121, 122, 123, 124, 125, 23], [false, false, false, false, false, false, false, false, true, true], []), ([118, 119, 120, 121, 122, 123, 124, 125, 23], [false, false, false, false, false, false, false, false, true, true, true], [])] 8 12 ?_
         refine dC [23] [true, true, true, true, true, true, true, true, true, true, true, true] [] [] ?_
         refine cd (qF2) ?_
         refine dB [([23], [true, true, true, true, true, true, true, true, true, true, true, true, true], []), ([132, 133, 23], [true, true, true, true, true, true, true, true, true, true, true, true, true, true], []), ([131, 133, 23], [true, true, true, true, true, true, true, true, true, true, true, true, true, true, false], [184]), ([131, 132, 23, 24], [true, true, true, true, true, true, true, true, true, true, true, true, true, true, false, false], [184]), ([118, 119, 120, 121, 122, 123, 124, 125, 126, 127, 128, 129, 130, 117, 131, 132, 133], [false, false, false, false, false, false, false, false, false, false, false, false, false, false, false, false, false], [])] 2 18 ?_
         refine WDraw.upd hΓ [184] (viewB_eq (L := [132, 133]) (S := [true, true, true, true, true, true, true, true, true, true, true, true, true, true, true, false, false, true]) (O := []) (by kernel_rfl) (by kernel_rfl) (by simp [hi, hc1, hsi, hai, hhi, hv, h8, hs8, hz, hzl, hdv, hg2, hLS, hHS, hDS, hLSl, hHSl, hDSl, hI1, hc9, hi3, hiL, hiH, hiD, hL, hH, hD, hfe]; rfl)) (by first | rfl | simp) (by simp [hi, hc1, hsi, hai, hhi, hv, h8, hs8, hz, hzl, hdv, hg2, hLS, hHS, hDS, hLSl, hHSl, hDSl, hI1, hc9, hi3, hiL, hiH, hiD, hL, hH, hD, hfe]; first | rfl | exact ⟨rfl, rfl⟩) (by simp [hi, hc1, hsi, hai, hhi, hv, h8, hs8, hz, hzl, hdv, hg2, hLS, hHS, hDS, hLSl, hHSl, hDSl, hI1, hc9, hi3, hiL, hiH, hiD, hL, hH, hD, hfe]; first | done | rfl) (.inr (by simp)) (by simp [hi, hc1, hsi, hai, hhi, hv, h8, hs8, hz, hzl, hdv, hg2, hLS, hHS, hDS, hLSl, hHSl, hDSl, hI1, hc9, hi3, hiL, hiH, hiD, hL, hH, hD, hfe]; rfl) ?_
         refine dB [([133], [true, true, true, true, true, true, true, true, true, true, true, true, true, true, true, true, false, true, true], [])] 0 20 ?_
         refine dD ?_
         refine WOps.le Le.dedup rfl rfl ?_
         refine WOps.norm (by simp [hi, hc1, hsi, hai, hhi, hv, h8, hs8, hz, hzl, hdv, hg2, hLS, hHS, hDS, hLSl, hHSl, hDSl, hI1, hc9, hi3, hiL, hiH, hiD, hL, hH, hD, hfe]; rfl) ?_
         refine oN 1 ?_
         refine oK [14, 15, 16, 17, 18, 19, 20, 21, 22, 23, 24, 25] ?_
         refine wD 30 [] [[], [], [1, 0], [0, 1, 2], [2, 1, 0, 3], [2, 1, 0, 3], [5, 3, 0, 1, 2, 4], [4, 2, 1, 0, 3, 5, 6], [6, 5, 4, 7, 2, 1, 0, 3], [3, 0, 1, 2, 7, 4, 5, 6, 8], [8, 6, 5, 4, 7, 2, 1, 0, 3, 9], [8, 6, 5, 4, 7, 2, 1, 0, 3, 9], [11, 9, 3, 0, 1, 2, 7, 4, 5, 6, 8, 10], [10, 8, 6, 5, 4, 7, 2, 1, 0, 3, 9, 11, 12], [12, 11, 10, 13, 8, 6, 5, 4, 7, 2, 1, 0, 3, 9], [9, 3, 0, 1, 2, 7, 4, 5, 6, 8, 13, 10, 11, 12, 14], [14, 12, 11, 10, 13, 8, 6, 5, 4, 7, 2, 1, 0, 3, 9, 15], [14, 12, 11, 10, 13, 8, 6, 5, 4, 7, 2, 1, 0, 3, 9, 15], [14, 12, 11, 10, 13, 8, 6, 5, 4, 7, 2, 1, 0, 3, 9, 15], [18, 15, 9, 3, 0, 1, 2, 7, 4, 5, 6, 8, 13, 10, 11, 12, 14, 17], [17, 14, 12, 11, 10, 13, 8, 6, 5, 4, 7, 2, 1, 0, 3, 9, 15, 18, 19], [19, 18, 17, 20, 15, 9, 3, 0, 1, 2, 7, 4, 5, 6, 8, 13, 10, 11, 12, 14, 16], [16, 14, 12, 11, 10, 13, 8, 6, 5, 4, 7, 2, 1, 0, 3, 9, 15, 20, 17, 18, 19, 21], [21, 19, 18, 17, 20, 16, 22, 14, 12, 11, 10, 13, 8, 6, 5, 4, 7, 2, 1, 0, 3, 9, 15], [15, 9, 3, 0, 1, 2, 7, 4, 5, 6, 8, 13, 10, 11, 12, 14, 22, 16, 20, 17, 18, 19, 21, 23], [23, 21, 19, 18, 17, 20, 16, 22, 14, 12, 11, 10, 13, 8, 6, 5, 4, 7, 2, 1, 0, 3, 9, 15, 24], [23, 21, 19, 18, 17, 20, 16, 22, 14, 12, 11, 10, 13, 8, 6, 5, 4, 7, 2, 1, 0, 3, 9, 15, 24], [23, 21, 19, 18, 17, 20, 16, 22, 14, 12, 11, 10, 13, 8, 6, 5, 4, 7, 2, 1, 0, 3, 9, 15, 24], [27, 24, 15, 9, 3, 0, 1, 2, 7, 4, 5, 6, 8, 13, 10, 11, 12, 14, 22, 16, 20, 17, 18, 19, 21, 23, 26], [26, 23, 21, 19, 18, 17, 20, 16, 22, 14, 12, 11, 10, 13, 8, 6, 5, 4, 7, 2, 1, 0, 3, 9, 15, 24, 27, 28], [28, 27, 26, 29, 24, 15, 9, 3, 0, 1, 2, 7, 4, 5, 6, 8, 13, 10, 11, 12, 14, 22, 16, 20, 17, 18, 19, 21, 23, 25], [25, 23, 21, 19, 18, 17, 20, 16, 22, 14, 12, 11, 10, 13, 8, 6, 5, 4, 7, 2, 1, 0, 3, 9, 15, 24, 29, 26, 27, 28, 30], [30, 28, 27, 26, 29, 25, 31, 23, 21, 19, 18, 17, 20, 16, 22, 14, 12, 11, 10, 13, 8, 6, 5, 4, 7, 2, 1, 0, 3, 9, 15, 24]] ?_
         refine dB [([135], [], []), ([134], [false], []), ([], [true, true], []), ([], [true, true, true], [])] 26 4 ?_
         refine dT [139] [true, true, true, true] [] ?_
         refine dT [138] [true, true, true, true, false] [] ?_
         refine dG [] [true, true, true, true, true, true] [] [] ?_
         refine cd (W6.SameTrades_ok FR.1 FR.1 FR.2.1 FR.2.1) ?_
         refine dT [] [true, true, true, true, true, true, true] [] ?_
         refine dB [([], [true, true, true, true, true, true, true, true], []), ([], [true, true, true, true, true, true, true, true, true], [])] 20 10 ?_
         refine dT [145] [true, true, true, true, true, true, true, true, true, true] [] ?_
         refine dT [144] [true, true, true, true, true, true, true, true, true, true, false] [] ?_
         refine dG [] [true, true, true, true, true, true, true, true, true, true, true, true] [] [] ?_
         refine cd (SameInts_ok FR.2.2 FR.2.2) ?_
         refine dT [] [true, true, true, true, true, true, true, true, true, true, true, true, true] [] ?_
         refine dB [([], [true, true, true, true, true, true, true, true, true, true, true, true, true, true], []), ([], [true, true, true, true, true, true, true, true, true, true, true, true, true, true, true], [])] 14 16 ?_
         refine dT [151, 152, 153, 154] [true, true, true, true, true, true, true, true, true, true, true, true, true, true, true, true] [] ?_
         refine dT [150, 152] [true, true, true, true, true, true, true, true, true, true, true, true, true, true, true, true, false] [] ?_
         refine dT [150, 151] [true, true, true, true, true, true, true, true, true, true, true, true, true, true, true, true, false, false] [] ?_
         refine dT [150] [true, true, true, true, true, true, true, true, true, true, true, true, true, true, true, true, false, true, true] [] ?_
         refine dT [150] [true, true, true, true, true, true, true, true, true, true, true, true, true, true, true, true, false, true, true, true] [] ?_
         refine dG [] [true, true, true, true, true, true, true, true, true, true, true, true, true, true, true, true, true, true, true, true, true] [] [] ?_
         refine cd (SameLet_ok L (by have := qsi.1; omega) (by have := qsi.2.1; omega)) ?_
         refine dT [] [true, true, true, true, true, true, true, true, true, true, true, true, true, true, true, true, true, true, true, true, true, true] [] ?_
         refine dB [([], [true, true, true, true, true, true, true, true, true, true, true, true, true, true, true, true, true, true, true, true, true, true, true], []), ([], [true, true, true, true, true, true, true, true, true, true, true, true, true, true, true, true, true, true, true, true, true, true, true, true], [])] 5 25 ?_
         refine dT [160, 161, 162, 163] [true, true, true, true, true, true, true, true, true, true, true, true, true, true, true, true, true, true, true, true, true, true, true, true, true] [] ?_
         refine dT [159, 161] [true, true, true, true, true, true, true, true, true, true, true, true, true, true, true, true, true, true, true, true, true, true, true, true, true, false] [] ?_
         refine dT [159, 160] [true, true, true, true, true, true, true, true, true, true, true, true, true, true, true, true, true, true, true, true, true, true, true, true, true, false, false] [] ?_
         refine dT [159] [true, true, true, true, true, true, true, true, true, true, true, true, true, true, true, true, true, true, true, true, true, true, true, true, true, false, true, true] [] ?_
         refine dT [159] [true, true, true, true, true, true, true, true, true, true, true, true, true, true, true, true, true, true, true, true, true, true, true, true, true, false, true, true, true] [] ?_
         refine dD ?_
         refine gC [] ?_
         refine ct (SameInts_ok H H) ?_
         refine gT ?_
         refine oN 1 ?_
         refine oK [14, 15, 16, 17, 166] ?_
         refine cF ?_
         refine W.skip ?_
         refine hK7 _ ?_
         clear hK7 K7
         refine rEw ?_
         refine ⟨j + 1, lf0, ?_, v0⟩
         ·
          first
          | exact ⟨by omega, fun j hj => by
              by_cases e : j = i
              · rw [e, nth_get hil]; omega
              · exact km1 j (by omega)⟩
          | omega
        ·
         replace F := F.add hfe
         refine wD 11 [] [[], [], [1, 0], [0, 1, 2], [2, 1, 0, 3], [], [], [6, 5], [5, 6, 7], [3, 0, 1, 2, 4, 7, 6, 5, 8], [], [8, 5, 6, 7, 9, 3, 0, 1, 2, 4, 10], [10, 11, 8, 5, 6, 7, 4, 2, 1, 0, 3, 9]] ?_
         refine dB [([97, 101, 102, 103, 104, 18], [], []), ([96, 101, 102, 103, 104, 18], [false], []), ([101, 102, 103, 104, 18], [true, true], []), ([101, 102, 103, 104, 18], [true, true, true], [])] 7 4 ?_
         refine dC [101, 102, 103, 104, 18] [true, true, true, true] [] [] ?_
         refine cd (CopyLetting_imm L (by have := qsi.1; omega) (by have := qsi.2.1; omega) (fun a ha => by have := qsi.2.2 a ha; omega)) ?_
         refine dB [([96, 97, 98, 99, 100, 102, 18], [false, false, false, false, false], []), ([96, 97, 98, 99, 100, 101, 18], [false, false, false, false, false, false], []), ([96, 97, 98, 99, 100, 18], [false, false, false, false, false, true, true], []), ([96, 97, 98, 99, 100, 18], [false, false, false, false, false, true, true, true], [])] 2 9 ?_
         refine dC [18] [true, true, true, true, true, true, true, true, true] [] [] ?_
         refine cd (CopyInts_imm H (by omega)) ?_
         refine dB [([96, 97, 98, 99, 100, 101, 102, 103, 104, 105], [false, false, false, false, false, false, false, false, false, false], [])] 0 11 ?_
         refine dD ?_
         refine oN 2 ?_
         refine oK [14, 15, 16, 17, 18, 19] ?_
         refine wD 14 [(12, [160])] [[], [], [], [], [3, 2], [2, 3, 4], [4, 3, 2, 5, 1, 0], [0, 1, 5, 2, 3, 4, 6], [6, 4, 3, 2, 5, 1, 0, 7], [6, 4, 3, 2, 5, 1, 0, 7], [6, 4, 3, 2, 5, 1, 0, 7], [], [7, 0, 1, 5, 2, 3, 4, 6, 8, 11], [11, 8, 12, 7, 0, 1, 5, 2, 3, 4, 6, 9], [9, 12, 8, 11, 13, 7, 0, 1, 5, 2, 3, 4, 6, 10]] ?_
         refine dB [([108, 109, 110, 111, 112, 20], [], []), ([107, 109, 110, 111, 112, 20], [false], []), ([107, 108, 110, 20], [false, false], []), ([107, 108, 109, 20], [false, false, false], []), ([107, 108, 20], [false, false, true, true], []), ([107, 108, 20], [false, false, true, true, true], [])] 8 6 ?_
         refine dC [20] [true, true, true, true, true, true] [] [] ?_
         refine cd (From_err L H D hfe) ?_
         refine dB [([20], [true, true, true, true, true, true, true], []), ([115, 116, 20], [true, true, true, true, true, true, true, true], []), ([114, 116, 20], [true, true, true, true, true, true, true, true, false], [160]), ([114, 115, 20, 21], [true, true, true, true, true, true, true, true, false, false], [160]), ([107, 108, 109, 110, 111, 112, 113, 106, 114, 115, 116], [false, false, false, false, false, false, false, false, false, false, false], [])] 2 12 ?_
         refine WDraw.upd hΓ [160] (viewB_eq (L := [115, 116]) (S := [true, true, true, true, true, true, true, true, true, false, false, true]) (O := []) (by kernel_rfl) (by kernel_rfl) (by simp [hi, hc1, hsi, hai, hhi, hv, h8, hs8, hz, hzl, hdv, hg2, hLS, hHS, hDS, hLSl, hHSl, hDSl, hI1, hc9, hi3, hiL, hiH, hiD, hL, hH, hD, hfe]; rfl)) (by first | rfl | simp) (by simp [hi, hc1, hsi, hai, hhi, hv, h8, hs8, hz, hzl, hdv, hg2, hLS, hHS, hDS, hLSl, hHSl, hDSl, hI1, hc9, hi3, hiL, hiH, hiD, hL, hH, hD, hfe]; first | rfl | exact ⟨rfl, rfl⟩) (by simp [hi, hc1, hsi, hai, hhi, hv, h8, hs8, hz, hzl, hdv, hg2, hLS, hHS, hDS, hLSl, hHSl, hDSl, hI1, hc9, hi3, hiL, hiH, hiD, hL, hH, hD, hfe]; first | done | rfl) (.inr (by simp)) (by simp [hi, hc1, hsi, hai, hhi, hv, h8, hs8, hz, hzl, hdv, hg2, hLS, hHS, hDS, hLSl, hHSl, hDSl, hI1, hc9, hi3, hiL, hiH, hiD, hL, hH, hD, hfe]; rfl) ?_
         refine dB [([116], [true, true, true, true, true, true, true, true, true, true, false, true, true], [])] 0 14 ?_
         refine dD ?_
         refine WOps.le Le.dedup rfl rfl ?_
         refine WOps.norm (by simp [hi, hc1, hsi, hai, hhi, hv, h8, hs8, hz, hzl, hdv, hg2, hLS, hHS, hDS, hLSl, hHSl, hDSl, hI1, hc9, hi3, hiL, hiH, hiD, hL, hH, hD, hfe]; rfl) ?_
         refine oN 1 ?_
         refine oK [14, 15, 16, 17, 18, 19, 20, 21, 22] ?_
         refine wD 20 [(18, [184])] [[], [], [1, 0], [0, 1, 2], [], [], [5, 4], [4, 5, 6], [], [], [9, 8], [8, 9, 10], [10, 9, 8, 11, 6, 5, 4, 7, 2, 1, 0, 3], [3, 0, 1, 2, 7, 4, 5, 6, 11, 8, 9, 10, 12], [12, 10, 9, 8, 11, 6, 5, 4, 7, 2, 1, 0, 3, 13], [12, 10, 9, 8, 11, 6, 5, 4, 7, 2, 1, 0, 3, 13], [12, 10, 9, 8, 11, 6, 5, 4, 7, 2, 1, 0, 3, 13], [], [13, 3, 0, 1, 2, 7, 4, 5, 6, 11, 8, 9, 10, 12, 14, 17], [17, 14, 18, 13, 3, 0, 1, 2, 7, 4, 5, 6, 11, 8, 9, 10, 12, 15], [15, 18, 14, 17, 19, 13, 3, 0, 1, 2, 7, 4, 5, 6, 11, 8, 9, 10, 12, 16]] ?_
         refine dB [([119, 122, 123, 124, 125, 126, 127, 128, 129, 23], [], []), ([118, 122, 123, 124, 125, 126, 127, 128, 129, 23], [false], []), ([122, 123, 124, 125, 126, 127, 128, 129, 23], [true, true], []), ([122, 123, 124, 125, 126, 127, 128, 129, 23], [true, true, true], []), ([118, 119, 120, 121, 123, 126, 127, 128, 129, 23], [false, false, false, false], []), ([118, 119, 120, 121, 122, 126, 127, 128, 129, 23], [false, false, false, false, false], []), ([118, 119, 120, 121, 126, 127, 128, 129, 23], [false, false, false, false, true, true], []), ([118, 119, 120, 121, 126, 127, 128, 129, 23], [false, false, false, false, true, true, true], []), ([118, 119, 120, 121, 122, 123, 124, 125, 127, 23], [false, false, false, false, false, false, false, false], []), ([118, 119, 120, 121, 122, 123, 124, 125, 126, 23], [false, false, false, false, false, false, false, false, false], []), ([118, 119, 120, 121, 122, 123, 124, 125, 23], [false, false, false, false, false, false, false, false, true, true], []), ([118, 119, 120, 121, 122, 123, 124, 125, 23], [false, false, false, false, false, false, false, false, true, true, true], [])] 8 12 ?_
         refine dC [23] [true, true, true, true, true, true, true, true, true, true, true, true] [] [] ?_
         refine cd (rFrom_err L H D hfe) ?_
         refine dB [([23], [true, true, true, true, true, true, true, true, true, true, true, true, true], []), ([132, 133, 23], [true, true, true, true, true, true, true, true, true, true, true, true, true, true], []), ([131, 133, 23], [true, true, true, true, true, true, true, true, true, true, true, true, true, true, false], [184]), ([131, 132, 23, 24], [true, true, true, true, true, true, true, true, true, true, true, true, true, true, false, false], [184]), ([118, 119, 120, 121, 122, 123, 124, 125, 126, 127, 128, 129, 130, 117, 131, 132, 133], [false, false, false, false, false, false, false, false, false, false, false, false, false, false, false, false, false], [])] 2 18 ?_
         refine WDraw.upd hΓ [184] (viewB_eq (L := [132, 133]) (S := [true, true, true, true, true, true, true, true, true, true, true, true, true, true, true, false, false, true]) (O := []) (by kernel_rfl) (by kernel_rfl) (by simp [hi, hc1, hsi, hai, hhi, hv, h8, hs8, hz, hzl, hdv, hg2, hLS, hHS, hDS, hLSl, hHSl, hDSl, hI1, hc9, hi3, hiL, hiH, hiD, hL, hH, hD, hfe]; rfl)) (by first | rfl | simp) (by simp [hi, hc1, hsi, hai, hhi, hv, h8, hs8, hz, hzl, hdv, hg2, hLS, hHS, hDS, hLSl, hHSl, hDSl, hI1, hc9, hi3, hiL, hiH, hiD, hL, hH, hD, hfe]; first | rfl | exact ⟨rfl, rfl⟩) (by simp [hi, hc1, hsi, hai, hhi, hv, h8, hs8, hz, hzl, hdv, hg2, hLS, hHS, hDS, hLSl, hHSl, hDSl, hI1, hc9, hi3, hiL, hiH, hiD, hL, hH, hD, hfe]; first | done | rfl) (.inr (by simp)) (by simp [hi, hc1, hsi, hai, hhi, hv, h8, hs8, hz, hzl, hdv, hg2, hLS, hHS, hDS, hLSl, hHSl, hDSl, hI1, hc9, hi3, hiL, hiH, hiD, hL, hH, hD, hfe]; rfl) ?_
         refine dB [([133], [true, true, true, true, true, true, true, true, true, true, true, true, true, true, true, true, false, true, true], [])] 0 20 ?_
         refine dD ?_
         refine WOps.le Le.dedup rfl rfl ?_
         refine WOps.norm (by simp [hi, hc1, hsi, hai, hhi, hv, h8, hs8, hz, hzl, hdv, hg2, hLS, hHS, hDS, hLSl, hHSl, hDSl, hI1, hc9, hi3, hiL, hiH, hiD, hL, hH, hD, hfe]; rfl) ?_
         refine oN 1 ?_
         refine oK [14, 15, 16, 17, 18, 19, 20, 21, 22, 23, 24, 25] ?_
         refine wD 30 [] [[], [], [1, 0], [0, 1, 2], [2, 1, 0, 3], [2, 1, 0, 3], [5, 3, 0, 1, 2, 4], [4, 2, 1, 0, 3, 5, 6], [6, 5, 4, 7, 2, 1, 0, 3], [3, 0, 1, 2, 7, 4, 5, 6, 8], [8, 6, 5, 4, 7, 2, 1, 0, 3, 9], [8, 6, 5, 4, 7, 2, 1, 0, 3, 9], [11, 9, 3, 0, 1, 2, 7, 4, 5, 6, 8, 10], [10, 8, 6, 5, 4, 7, 2, 1, 0, 3, 9, 11, 12], [12, 11, 10, 13, 8, 6, 5, 4, 7, 2, 1, 0, 3, 9], [9, 3, 0, 1, 2, 7, 4, 5, 6, 8, 13, 10, 11, 12, 14], [14, 12, 11, 10, 13, 8, 6, 5, 4, 7, 2, 1, 0, 3, 9, 15], [14, 12, 11, 10, 13, 8, 6, 5, 4, 7, 2, 1, 0, 3, 9, 15], [14, 12, 11, 10, 13, 8, 6, 5, 4, 7, 2, 1, 0, 3, 9, 15], [18, 15, 9, 3, 0, 1, 2, 7, 4, 5, 6, 8, 13, 10, 11, 12, 14, 17], [17, 14, 12, 11, 10, 13, 8, 6, 5, 4, 7, 2, 1, 0, 3, 9, 15, 18, 19], [19, 18, 17, 20, 15, 9, 3, 0, 1, 2, 7, 4, 5, 6, 8, 13, 10, 11, 12, 14, 16], [16, 14, 12, 11, 10, 13, 8, 6, 5, 4, 7, 2, 1, 0, 3, 9, 15, 20, 17, 18, 19, 21], [21, 19, 18, 17, 20, 16, 22, 14, 12, 11, 10, 13, 8, 6, 5, 4, 7, 2, 1, 0, 3, 9, 15], [15, 9, 3, 0, 1, 2, 7, 4, 5, 6, 8, 13, 10, 11, 12, 14, 22, 16, 20, 17, 18, 19, 21, 23], [23, 21, 19, 18, 17, 20, 16, 22, 14, 12, 11, 10, 13, 8, 6, 5, 4, 7, 2, 1, 0, 3, 9, 15, 24], [23, 21, 19, 18, 17, 20, 16, 22, 14, 12, 11, 10, 13, 8, 6, 5, 4, 7, 2, 1, 0, 3, 9, 15, 24], [23, 21, 19, 18, 17, 20, 16, 22, 14, 12, 11, 10, 13, 8, 6, 5, 4, 7, 2, 1, 0, 3, 9, 15, 24], [27, 24, 15, 9, 3, 0, 1, 2, 7, 4, 5, 6, 8, 13, 10, 11, 12, 14, 22, 16, 20, 17, 18, 19, 21, 23, 26], [26, 23, 21, 19, 18, 17, 20, 16, 22, 14, 12, 11, 10, 13, 8, 6, 5, 4, 7, 2, 1, 0, 3, 9, 15, 24, 27, 28], [28, 27, 26, 29, 24, 15, 9, 3, 0, 1, 2, 7, 4, 5, 6, 8, 13, 10, 11, 12, 14, 22, 16, 20, 17, 18, 19, 21, 23, 25], [25, 23, 21, 19, 18, 17, 20, 16, 22, 14, 12, 11, 10, 13, 8, 6, 5, 4, 7, 2, 1, 0, 3, 9, 15, 24, 29, 26, 27, 28, 30], [30, 28, 27, 26, 29, 25, 31, 23, 21, 19, 18, 17, 20, 16, 22, 14, 12, 11, 10, 13, 8, 6, 5, 4, 7, 2, 1, 0, 3, 9, 15, 24]] ?_
         refine dB [([135], [], []), ([134], [false], []), ([], [true, true], []), ([], [true, true, true], [])] 26 4 ?_
         refine dT [139] [true, true, true, true] [] ?_
         refine dT [138] [true, true, true, true, false] [] ?_
         refine dG [] [true, true, true, true, true, true] [] [] ?_
         refine cd (W6.SameTrades_ok [] [] [] []) ?_
         refine dT [] [true, true, true, true, true, true, true] [] ?_
         refine dB [([], [true, true, true, true, true, true, true, true], []), ([], [true, true, true, true, true, true, true, true, true], [])] 20 10 ?_
         refine dT [145] [true, true, true, true, true, true, true, true, true, true] [] ?_
         refine dT [144] [true, true, true, true, true, true, true, true, true, true, false] [] ?_
         refine dG [] [true, true, true, true, true, true, true, true, true, true, true, true] [] [] ?_
         refine cd (SameInts_ok [] []) ?_
         refine dT [] [true, true, true, true, true, true, true, true, true, true, true, true, true] [] ?_
         refine dB [([], [true, true, true, true, true, true, true, true, true, true, true, true, true, true], []), ([], [true, true, true, true, true, true, true, true, true, true, true, true, true, true, true], [])] 14 16 ?_
         refine dT [151, 152, 153, 154] [true, true, true, true, true, true, true, true, true, true, true, true, true, true, true, true] [] ?_
         refine dT [150, 152] [true, true, true, true, true, true, true, true, true, true, true, true, true, true, true, true, false] [] ?_
         refine dT [150, 151] [true, true, true, true, true, true, true, true, true, true, true, true, true, true, true, true, false, false] [] ?_
         refine dT [150] [true, true, true, true, true, true, true, true, true, true, true, true, true, true, true, true, false, true, true] [] ?_
         refine dT [150] [true, true, true, true, true, true, true, true, true, true, true, true, true, true, true, true, false, true, true, true] [] ?_
         refine dG [] [true, true, true, true, true, true, true, true, true, true, true, true, true, true, true, true, true, true, true, true, true] [] [] ?_
         refine cd (SameLet_ok L (by have := qsi.1; omega) (by have := qsi.2.1; omega)) ?_
         refine dT [] [true, true, true, true, true, true, true, true, true, true, true, true, true, true, true, true, true, true, true, true, true, true] [] ?_
         refine dB [([], [true, true, true, true, true, true, true, true, true, true, true, true, true, true, true, true, true, true, true, true, true, true, true], []), ([], [true, true, true, true, true, true, true, true, true, true, true, true, true, true, true, true, true, true, true, true, true, true, true, true], [])] 5 25 ?_
         refine dT [160, 161, 162, 163] [true, true, true, true, true, true, true, true, true, true, true, true, true, true, true, true, true, true, true, true, true, true, true, true, true] [] ?_
         refine dT [159, 161] [true, true, true, true, true, true, true, true, true, true, true, true, true, true, true, true, true, true, true, true, true, true, true, true, true, false] [] ?_
         refine dT [159, 160] [true, true, true, true, true, true, true, true, true, true, true, true, true, true, true, true, true, true, true, true, true, true, true, true, true, false, false] [] ?_
         refine dT [159] [true, true, true, true, true, true, true, true, true, true, true, true, true, true, true, true, true, true, true, true, true, true, true, true, true, false, true, true] [] ?_
         refine dT [159] [true, true, true, true, true, true, true, true, true, true, true, true, true, true, true, true, true, true, true, true, true, true, true, true, true, false, true, true, true] [] ?_
         refine dD ?_
         refine gC [] ?_
         refine ct (SameInts_ok H H) ?_
         refine gT ?_
         refine oN 1 ?_
         refine oK [14, 15, 16, 17, 166] ?_
         refine cF ?_
         refine W.skip ?_
         refine hK7 _ ?_
         clear hK7 K7
         refine rEw ?_
         refine ⟨j + 1, lf0, ?_, v0⟩
         ·
          first
          | exact ⟨by omega, fun j hj => by
              by_cases e : j = i
              · rw [e, nth_get hil]; omega
              · exact km1 j (by omega)⟩
          | omega
       ·
        try simp at hc9
        replace F := F.add hc9
        refine W.exit ?_
        refine hK5 _ ?_
        clear hK6 K6 hK5 K5
        refine W.seqR ?_
        refine oC [] ?_
        refine ct (W6.awake_ok) ?_
        refine oN 1 ?_
        refine oK [8] ?_
        refine W.ret ?_
        refine er false [] [] ?_
        exact ⟨rfl, rfl⟩
end Go.Sim
