/- Copies and comparisons of cellars and lots; what is too wide. -/
import Derived.Test.YtfenmmjeppehaaaLn
namespace Go.Sim
open Go.Proofs
set_option maxRecDepth 100000
set_option linter.unusedSimpArgs false
set_option linter.unusedVariables false
attribute [-simp] List.map_set List.map_take List.map_drop
theorem CopyCellar_imm (c : Cel) (h1 : c.boxes.length ≤ 1000) (h2 : c.fils.length ≤ 1000) (h3 : c.rats.length ≤ 1000) : ACalls Try.prog 22 [celV c] [] (fun r o => r = celV c ∧ o = []) := ACalls.frzs [20000, 20001, 20002] (CopyCellar_own c h1 h2 h3) (by simp; rfl) (by simp; rfl)
set_option maxHeartbeats 4000000 in
theorem CopyLot_own (l : CLot) (h1 : l.stays.length ≤ 1000) : ACalls Try.prog 32 [lotV l] [] (fun r o => r = .agg [I l.born, I l.keeps, .own 20000 0 l.stays.length] ∧ o = [(20000, .row true 114 3 (l.stays.map T3))]) := by
 have F := Fx.nil
 replace F := F.add h1
 refine ent Try.func32 Try.ntmps32 Try.results32 ?_
 refine rK [1, 2] ?_
 refine rKw [1, 2] ?_
 refine rK [2] ?_
 refine W.ret ?_
 exact er0 false [] [(20000, 24)]
theorem CopyLot_imm (l : CLot) (h1 : l.stays.length ≤ 1000) : ACalls Try.prog 32 [lotV l] [] (fun r o => r = lotV l ∧ o = []) := ACalls.frzs [20000] (CopyLot_own l h1) (by simp; rfl) (by simp; rfl)
theorem B9_inj {a b : CBox} : (a.room = b.room ∧ a.ice.lo = b.ice.lo ∧ a.ice.hi = b.ice.hi ∧ a.melt.lo = b.melt.lo ∧ a.melt.hi = b.melt.hi ∧ a.cld.lo = b.cld.lo ∧ a.cld.hi = b.cld.hi ∧ a.wrm.lo = b.wrm.lo ∧ a.wrm.hi = b.wrm.hi) ↔ a = b := by
  constructor
  · obtain ⟨r, ⟨i1, i2⟩, ⟨m1, m2⟩, ⟨c1, c2⟩, ⟨w1, w2⟩⟩ := a
    obtain ⟨r', ⟨i1', i2'⟩, ⟨m1', m2'⟩, ⟨c1', c2'⟩, ⟨w1', w2'⟩⟩ := b
    rintro ⟨h1, h2, h3, h4, h5, h6, h7, h8, h9⟩
    simp_all
  · rintro rfl; simp
set_option maxHeartbeats 4000000 in
theorem wide_ok (c : Cel) (ls : List CLot) : ACalls Try.prog 14 [celV c, lotsV ls] [] (fun r o => ∃ z : Bool, r = B z ∧ o = [] ∧ (z = false → (∀ l ∈ ls, l.stays.length ≤ 15) ∧ c.boxes.length ≤ 15 ∧ c.fils.length ≤ 40 ∧ c.rats.length ≤ 15 ∧ ls.length ≤ 40)) := by
 refine ACalls.lenA (xs := [I c.hall.lo, I c.hall.hi, boxesV c.boxes, filsV c.fils, ratsV c.rats]) (l := c.boxes.map B9) (by simp) (by simp) ⟨_, Try.func14, by kernel_rfl, by kernel_rfl⟩ fun hl1 => ?_
 simp [maxLen_val] at hl1
 have F := Fx.nil
 refine ent Try.func14 Try.ntmps14 Try.results14 ?_
 refine rK [1, 2] ?_
 refine W.seqk fun K1 hK1 => ?_
 refine rK [1, 2, 5] ?_
 refine W.block ?_
 refine lpa (α := Nat) [1, 2] [8, 21] [] (fun i => [(5, I i)]) (fun i => []) (fun i => i ≤ ls.length ∧ i ≤ 40 ∧ ∀ j, j < i → (nth ls j).stays.length ≤ 15) (fun i => ls.length - i) 0 v0 ?_
 ·
  intro i hI0
  simp only [List.cons_append, List.nil_append]
  try dsimp only at hI0
  obtain ⟨hi, hi4, hm1⟩ := hI0
  replace F := F.add hi |>.add hi4
  refine W.seqk fun K2 hK2 => ?_
  refine W.seqR ?_
  refine oN 5 ?_
  refine gX ?_
  refine gX ?_
  refine oN 1 ?_
  refine oK [1, 2, 5, 13] ?_
  refine it (fun hc1 => ?_) (fun hc1 => ?_)
  ·
   try simp at hc1
   replace F := F.add hc1
   refine W.skip ?_
   refine hK2 _ ?_
   clear hK2 K2
   refine W.seqk fun K3 hK3 => ?_
   refine W.block ?_
   refine rK [1, 2, 5, 22] ?_
   refine it (fun hc2 => ?_) (fun hc2 => ?_)
   ·
    try simp at hc2
    replace F := F.add hc2
    refine rK [4] ?_
    refine W.ret ?_
    refine br (tr (tr (br (tr ?_))))
    clear hK3 K3 hK1 K1
    refine er false [] [] ?_
    first
    | exact ⟨true, rfl, rfl, fun h => by cases h⟩
    | (refine ⟨_, rfl, rfl, fun h => ?_⟩
       simp at h
       refine ⟨fun l hl => ?_, by omega, by omega, by omega, by omega⟩
       obtain ⟨j, hj, rfl⟩ := List.getElem_of_mem hl
       have h5 := hm1 j (by omega)
       rwa [nth_get hj] at h5)
   ·
    try simp at hc2
    replace F := F.add hc2
    refine W.skip ?_
    refine hK3 _ ?_
    clear hK3 K3
    refine rEw ?_
    refine ⟨i + 1, lf0, ?_, v0⟩
    ·
     refine ⟨by omega, by omega, fun j hj => ?_⟩
     by_cases e : j = i
     · rw [e, nth_get (by omega)]; omega
     · exact hm1 j (by omega)
  ·
   try simp at hc1
   replace F := F.add hc1
   refine W.exit ?_
   refine hK1 _ ?_
   clear hK2 K2 hK1 K1
   by_cases hw1 : (15 : Int) < c.boxes.length
   ·
    replace F := F.add hw1
    refine W.seqR ?_
    refine oN 5 ?_
    refine gF ?_
    refine gF ?_
    refine gF ?_
    refine gF ?_
    refine oN 2 ?_
    refine gF ?_
    refine gF ?_
    refine gF ?_
    refine gF ?_
    refine oN 2 ?_
    refine gF ?_
    refine gF ?_
    refine gF ?_
    refine oN 2 ?_
    refine oK [4] ?_
    refine W.ret ?_
    refine er false [] [] ?_
    first
    | exact ⟨true, rfl, rfl, fun h => by cases h⟩
    | (refine ⟨_, rfl, rfl, fun h => ?_⟩
       simp at h
       refine ⟨fun l hl => ?_, by omega, by omega, by omega, by omega⟩
       obtain ⟨j, hj, rfl⟩ := List.getElem_of_mem hl
       have h5 := hm1 j (by omega)
       rwa [nth_get hj] at h5)
   ·
    replace F := F.add hw1
    by_cases hw2 : (40 : Int) < c.fils.length
    ·
     replace F := F.add hw2
     refine W.seqR ?_
     refine oN 5 ?_
     refine gT ?_
     refine gT ?_
     refine gT ?_
     refine gT ?_
     refine oN 2 ?_
     refine gF ?_
     refine gF ?_
     refine gF ?_
     refine gF ?_
     refine oN 2 ?_
     refine gF ?_
     refine gF ?_
     refine gF ?_
     refine oN 2 ?_
     refine oK [4] ?_
     refine W.ret ?_
     refine er false [] [] ?_
     first
     | exact ⟨true, rfl, rfl, fun h => by cases h⟩
     | (refine ⟨_, rfl, rfl, fun h => ?_⟩
        simp at h
        refine ⟨fun l hl => ?_, by omega, by omega, by omega, by omega⟩
        obtain ⟨j, hj, rfl⟩ := List.getElem_of_mem hl
        have h5 := hm1 j (by omega)
        rwa [nth_get hj] at h5)
    ·
     replace F := F.add hw2
     by_cases hw3 : (15 : Int) < c.rats.length
     ·
      replace F := F.add hw3
      refine W.seqR ?_
      refine oN 5 ?_
      refine gT ?_
      refine gT ?_
      refine gT ?_
      refine gT ?_
      refine oN 2 ?_
      refine gT ?_
      refine gT ?_
      refine gT ?_
      refine gT ?_
      refine oN 2 ?_
      refine gF ?_
      refine gF ?_
      refine gF ?_
      refine oN 2 ?_
      refine oK [4] ?_
      refine W.ret ?_
      refine er false [] [] ?_
      first
      | exact ⟨true, rfl, rfl, fun h => by cases h⟩
      | (refine ⟨_, rfl, rfl, fun h => ?_⟩
         simp at h
         refine ⟨fun l hl => ?_, by omega, by omega, by omega, by omega⟩
         obtain ⟨j, hj, rfl⟩ := List.getElem_of_mem hl
         have h5 := hm1 j (by omega)
         rwa [nth_get hj] at h5)
     ·
      replace F := F.add hw3
      refine W.seqR ?_
      refine oN 5 ?_
      refine gT ?_
      refine gT ?_
      refine gT ?_
      refine gT ?_
      refine oN 2 ?_
      refine gT ?_
      refine gT ?_
      refine gT ?_
      refine gT ?_
      refine oN 2 ?_
      refine gT ?_
      refine gT ?_
      refine gT ?_
      refine oN 2 ?_
      refine oK [4] ?_
      refine W.ret ?_
      refine er false [] [] ?_
      first
      | exact ⟨true, rfl, rfl, fun h => by cases h⟩
      | (refine ⟨_, rfl, rfl, fun h => ?_⟩
         simp at h
         refine ⟨fun l hl => ?_, by omega, by omega, by omega, by omega⟩
         obtain ⟨j, hj, rfl⟩ := List.getElem_of_mem hl
         have h5 := hm1 j (by omega)
         rwa [nth_get hj] at h5)
set_option maxHeartbeats 4000000 in
theorem SameCellars_ok (c : Cel) (h1 : c.boxes.length ≤ 1000) (h2 : c.fils.length ≤ 1000) (h3 : c.rats.length ≤ 1000) : ACalls Try.prog 27 [celV c, celV c] [] (fun r o => r = B true ∧ o = []) := by
 have F := Fx.nil
 replace F := F.add h1 |>.add h2 |>.add h3
 refine ent Try.func27 Try.ntmps27 Try.results27 ?_
 refine rK [2, 3] ?_
 refine W.seqR ?_
 refine oN 6 ?_
 refine gT ?_
 refine gT ?_
 refine gT ?_
 refine gT ?_
 refine gT ?_
 refine gT ?_
 refine gT ?_
 refine oN 2 ?_
 refine gT ?_
 refine gT ?_
 refine gT ?_
 refine gT ?_
 refine gT ?_
 refine gT ?_
 refine gT ?_
 refine oN 2 ?_
 refine gT ?_
 refine gT ?_
 refine gT ?_
 refine gT ?_
 refine gT ?_
 refine gT ?_
 refine gT ?_
 refine oN 2 ?_
 refine oK [2, 3, 5] ?_
 refine W.seqk fun K1 hK1 => ?_
 refine rK [2, 3, 5, 6] ?_
 refine W.block ?_
 refine lpa (α := Nat) [2, 3] [46] [] (fun i => [(5, B true), (6, I i)]) (fun i => []) (fun i => i ≤ c.boxes.length) (fun i => c.boxes.length - i) 0 v0 ?_
 ·
  intro i hI0
  simp only [List.cons_append, List.nil_append]
  try dsimp only at hI0
  replace F := F.add hI0
  refine W.seqk fun K2 hK2 => ?_
  refine W.seqR ?_
  refine oN 2 ?_
  refine gT ?_
  refine gT ?_
  refine gT ?_
  refine gT ?_
  refine gT ?_
  refine oN 1 ?_
  refine oK [2, 3, 5, 6, 48] ?_
  refine it (fun hc1 => ?_) (fun hc1 => ?_)
  ·
   try simp at hc1
   replace F := F.add hc1
   refine W.skip ?_
   refine hK2 _ ?_
   clear hK2 K2
   refine W.seqk fun K3 hK3 => ?_
   refine W.block ?_
   refine wDe 10 [] [[], [0], [], [2, 0, 1], [1, 0, 2, 3], [], [5], [], [7, 5, 6], [6, 5, 7, 8], [8, 7, 5, 6, 9, 3, 2, 0, 1, 4], [4, 1, 0, 2, 3, 9, 6, 5, 7, 8, 10]] ?_
   refine dB [([53, 56, 57, 58, 59, 60], [], []), ([53, 56, 57, 58, 59, 60], [true], []), ([51, 52, 56, 57, 58, 59, 60], [false, false], []), ([56, 57, 58, 59, 60], [true, true, true], []), ([56, 57, 58, 59, 60], [true, true, true, true], []), ([51, 52, 53, 54, 55, 58], [false, false, false, false, false], []), ([51, 52, 53, 54, 55, 58], [false, false, false, false, false, true], []), ([51, 52, 53, 54, 55, 56, 57], [false, false, false, false, false, false, false], []), ([51, 52, 53, 54, 55], [false, false, false, false, false, true, true, true], []), ([51, 52, 53, 54, 55], [false, false, false, false, false, true, true, true, true], [])] 0 10 ?_
   refine dD ?_
   refine oN 2 ?_
   refine WOps.endK ?_
   refine hK3 _ ?_
   clear hK3 K3
   refine rEw ?_
   refine ⟨i + 1, lf0, v0, v0⟩
  ·
   try simp at hc1
   replace F := F.add hc1
   refine W.exit ?_
   refine hK1 _ ?_
   clear hK2 K2 hK1 K1
   refine W.seqk fun K4 hK4 => ?_
   refine rK [2, 3, 5, 7] ?_
   refine W.block ?_
   refine lpa (α := Nat) [2, 3] [67] [] (fun i => [(5, B true), (7, I i)]) (fun i => []) (fun i => i ≤ c.fils.length) (fun i => c.fils.length - i) 0 v0 ?_
   ·
    intro i hI1
    simp only [List.cons_append, List.nil_append]
    try dsimp only at hI1
    replace F := F.add hI1
    refine W.seqk fun K5 hK5 => ?_
    refine W.seqR ?_
    refine oN 2 ?_
    refine gT ?_
    refine gT ?_
    refine gT ?_
    refine gT ?_
    refine gT ?_
    refine oN 1 ?_
    refine oK [2, 3, 5, 7, 69] ?_
    refine it (fun hc2 => ?_) (fun hc2 => ?_)
    ·
     try simp at hc2
     replace F := F.add hc2
     refine W.skip ?_
     refine hK5 _ ?_
     clear hK5 K5
     refine W.seqk fun K6 hK6 => ?_
     refine W.block ?_
     refine wDe 10 [] [[], [0], [], [2, 0, 1], [1, 0, 2, 3], [], [5], [], [7, 5, 6], [6, 5, 7, 8], [8, 7, 5, 6, 9, 3, 2, 0, 1, 4], [4, 1, 0, 2, 3, 9, 6, 5, 7, 8, 10]] ?_
     refine dB [([74, 77, 78, 79, 80, 81], [], []), ([74, 77, 78, 79, 80, 81], [true], []), ([72, 73, 77, 78, 79, 80, 81], [false, false], []), ([77, 78, 79, 80, 81], [true, true, true], []), ([77, 78, 79, 80, 81], [true, true, true, true], []), ([72, 73, 74, 75, 76, 79], [false, false, false, false, false], []), ([72, 73, 74, 75, 76, 79], [false, false, false, false, false, true], []), ([72, 73, 74, 75, 76, 77, 78], [false, false, false, false, false, false, false], []), ([72, 73, 74, 75, 76], [false, false, false, false, false, true, true, true], []), ([72, 73, 74, 75, 76], [false, false, false, false, false, true, true, true, true], [])] 0 10 ?_
     refine dD ?_
     refine oN 2 ?_
     refine WOps.endK ?_
     refine hK6 _ ?_
     clear hK6 K6
     refine rEw ?_
     refine ⟨i + 1, lf0, v0, v0⟩
    ·
     try simp at hc2
     replace F := F.add hc2
     refine W.exit ?_
     refine hK4 _ ?_
     clear hK5 K5 hK4 K4
     refine W.seqk fun K7 hK7 => ?_
     refine rK [2, 3, 5, 8] ?_
     refine W.block ?_
     refine lpa (α := Nat) [2, 3] [88] [] (fun i => [(5, B true), (8, I i)]) (fun i => []) (fun i => i ≤ c.rats.length) (fun i => c.rats.length - i) 0 v0 ?_
     ·
      intro i hI2
      simp only [List.cons_append, List.nil_append]
      try dsimp only at hI2
      replace F := F.add hI2
      refine W.seqk fun K8 hK8 => ?_
      refine W.seqR ?_
      refine oN 2 ?_
      refine gT ?_
      refine gT ?_
      refine gT ?_
      refine gT ?_
      refine gT ?_
      refine oN 1 ?_
      refine oK [2, 3, 5, 8, 90] ?_
      refine it (fun hc3 => ?_) (fun hc3 => ?_)
      ·
       try simp at hc3
       replace F := F.add hc3
       refine W.skip ?_
       refine hK8 _ ?_
       clear hK8 K8
       refine W.seqk fun K9 hK9 => ?_
       refine W.block ?_
       refine wDe 10 [] [[], [0], [], [2, 0, 1], [1, 0, 2, 3], [], [5], [], [7, 5, 6], [6, 5, 7, 8], [8, 7, 5, 6, 9, 3, 2, 0, 1, 4], [4, 1, 0, 2, 3, 9, 6, 5, 7, 8, 10]] ?_
       refine dB [([95, 98, 99, 100, 101, 102], [], []), ([95, 98, 99, 100, 101, 102], [true], []), ([93, 94, 98, 99, 100, 101, 102], [false, false], []), ([98, 99, 100, 101, 102], [true, true, true], []), ([98, 99, 100, 101, 102], [true, true, true, true], []), ([93, 94, 95, 96, 97, 100], [false, false, false, false, false], []), ([93, 94, 95, 96, 97, 100], [false, false, false, false, false, true], []), ([93, 94, 95, 96, 97, 98, 99], [false, false, false, false, false, false, false], []), ([93, 94, 95, 96, 97], [false, false, false, false, false, true, true, true], []), ([93, 94, 95, 96, 97], [false, false, false, false, false, true, true, true, true], [])] 0 10 ?_
       refine dD ?_
       refine oN 2 ?_
       refine WOps.endK ?_
       refine hK9 _ ?_
       clear hK9 K9
       refine rEw ?_
       refine ⟨i + 1, lf0, v0, v0⟩
      ·
       try simp at hc3
       replace F := F.add hc3
       refine W.exit ?_
       refine hK7 _ ?_
       clear hK8 K8 hK7 K7
       refine rK [4] ?_
       refine W.ret ?_
       exact er0 false [] []
set_option maxHeartbeats 4000000 in
theorem SameLots_ok (ls : List CLot) (h1 : ls.length ≤ 1000) (h2 : ∀ l ∈ ls, l.stays.length ≤ 1000) : ACalls Try.prog 37 [lotsV ls, lotsV ls] [] (fun r o => r = B true ∧ o = []) := by
 have F := Fx.nil
 replace F := F.add h1
 refine ent Try.func37 Try.ntmps37 Try.results37 ?_
 refine rK [0, 1] ?_
 refine rK [0, 1, 5] ?_
 refine W.seqk fun K1 hK1 => ?_
 refine rK [0, 1, 5, 6] ?_
 refine W.block ?_
 refine lpa (α := Nat) [0, 1] [17, 52, 58, 69] [] (fun i => [(5, B true), (6, I i)]) (fun i => []) (fun i => i ≤ ls.length) (fun i => ls.length - i) 0 v0 ?_
 ·
  intro i hI0
  simp only [List.cons_append, List.nil_append]
  try dsimp only at hI0
  replace F := F.add hI0
  refine W.seqk fun K2 hK2 => ?_
  refine W.seqR ?_
  refine oN 2 ?_
  refine gT ?_
  refine gT ?_
  refine gT ?_
  refine gT ?_
  refine oN 1 ?_
  refine oK [0, 1, 5, 6, 19] ?_
  refine it (fun hc1 => ?_) (fun hc1 => ?_)
  ·
   try simp at hc1
   replace F := F.add hc1
   refine W.skip ?_
   refine hK2 _ ?_
   clear hK2 K2
   refine W.seqk fun K3 hK3 => ?_
   refine W.block ?_
   have hil : i < ls.length := by omega
   have hst := h2 _ (List.getElem_mem hil)
   replace F := F.add hil |>.add hst
   refine wD 37 [] [[], [], [1, 0], [0, 1, 2], [2, 1, 0, 3], [], [], [6, 5], [5, 6, 7], [7, 6, 5, 8], [8, 5, 6, 7, 9, 3, 0, 1, 2, 4], [4, 2, 1, 0, 3, 9, 7, 6, 5, 8, 10], [10, 8, 5, 6, 7, 9, 3, 0, 1, 2, 4, 11], [10, 8, 5, 6, 7, 9, 3, 0, 1, 2, 4, 11], [13, 11, 4, 2, 1, 0, 3, 9, 7, 6, 5, 8, 10, 12], [12, 10, 8, 5, 6, 7, 9, 3, 0, 1, 2, 4, 11, 13, 14], [14, 13, 11, 4, 2, 1, 0, 3, 9, 7, 6, 5, 8, 10, 12, 15], [10, 8, 5, 6, 7, 9, 3, 0, 1, 2, 4, 11], [10, 8, 5, 6, 7, 9, 3, 0, 1, 2, 4, 11], [18, 11, 4, 2, 1, 0, 3, 9, 7, 6, 5, 8, 10, 17], [17, 10, 8, 5, 6, 7, 9, 3, 0, 1, 2, 4, 11, 18, 19], [19, 18, 11, 4, 2, 1, 0, 3, 9, 7, 6, 5, 8, 10, 17, 20], [20, 17, 18, 19, 21, 15, 12, 10, 8, 5, 6, 7, 9, 3, 0, 1, 2, 4, 11, 13, 14, 16], [16, 14, 13, 12, 15, 21, 19, 18, 17, 20, 22, 10, 8, 5, 6, 7, 9, 3, 0, 1, 2, 4, 11], [11, 4, 2, 1, 0, 3, 9, 7, 6, 5, 8, 10, 22, 20, 17, 18, 19, 21, 15, 12, 13, 14, 16, 23], [23, 16, 14, 13, 12, 15, 21, 19, 18, 17, 20, 22, 10, 8, 5, 6, 7, 9, 3, 0, 1, 2, 4, 11, 24], [23, 16, 14, 13, 12, 15, 21, 19, 18, 17, 20, 22, 10, 8, 5, 6, 7, 9, 3, 0, 1, 2, 4, 11, 24], [26, 24, 11, 4, 2, 1, 0, 3, 9, 7, 6, 5, 8, 10, 22, 20, 17, 18, 19, 21, 15, 12, 13, 14, 16, 23, 25], [25, 23, 16, 14, 13, 12, 15, 21, 19, 18, 17, 20, 22, 10, 8, 5, 6, 7, 9, 3, 0, 1, 2, 4, 11, 24, 26, 27], [27, 26, 24, 11, 4, 2, 1, 0, 3, 9, 7, 6, 5, 8, 10, 22, 20, 17, 18, 19, 21, 15, 12, 13, 14, 16, 23, 25, 28], [28, 25, 23, 16, 14, 13, 12, 15, 21, 19, 18, 17, 20, 22, 10, 8, 5, 6, 7, 9, 3, 0, 1, 2, 4, 11, 24, 26, 27, 29], [23, 16, 14, 13, 12, 15, 21, 19, 18, 17, 20, 22, 10, 8, 5, 6, 7, 9, 3, 0, 1, 2, 4, 11, 24], [23, 16, 14, 13, 12, 15, 21, 19, 18, 17, 20, 22, 10, 8, 5, 6, 7, 9, 3, 0, 1, 2, 4, 11, 24], [32, 24, 11, 4, 2, 1, 0, 3, 9, 7, 6, 5, 8, 10, 22, 20, 17, 18, 19, 21, 15, 12, 13, 14, 16, 23, 31], [31, 23, 16, 14, 13, 12, 15, 21, 19, 18, 17, 20, 22, 10, 8, 5, 6, 7, 9, 3, 0, 1, 2, 4, 11, 24, 32, 33], [33, 32, 24, 11, 4, 2, 1, 0, 3, 9, 7, 6, 5, 8, 10, 22, 20, 17, 18, 19, 21, 15, 12, 13, 14, 16, 23, 31, 34], [34, 31, 23, 16, 14, 13, 12, 15, 21, 19, 18, 17, 20, 22, 10, 8, 5, 6, 7, 9, 3, 0, 1, 2, 4, 11, 24, 32, 33, 35], [35, 33, 32, 31, 34, 36, 29, 27, 26, 24, 11, 4, 2, 1, 0, 3, 9, 7, 6, 5, 8, 10, 22, 20, 17, 18, 19, 21, 15, 12, 13, 14, 16, 23, 25, 28, 30], [30, 28, 25, 26, 27, 29, 36, 34, 31, 32, 33, 35, 37, 23, 16, 14, 13, 12, 15, 21, 19, 18, 17, 20, 22, 10, 8, 5, 6, 7, 9, 3, 0, 1, 2, 4, 11, 24], [24, 11, 4, 2, 1, 0, 3, 9, 7, 6, 5, 8, 10, 22, 20, 17, 18, 19, 21, 15, 12, 13, 14, 16, 23, 37, 35, 33, 32, 31, 34, 36, 29, 27, 26, 25, 28, 30, 38]] ?_
   refine dB [([23, 27, 28, 29, 30, 31], [], []), ([22, 27, 28, 29, 30, 31], [false], []), ([27, 28, 29, 30, 31], [true, true], []), ([27, 28, 29, 30, 31], [true, true, true], []), ([27, 28, 29, 30, 31], [true, true, true, true], []), ([22, 23, 24, 25, 26, 28], [false, false, false, false, false], []), ([22, 23, 24, 25, 26, 27], [false, false, false, false, false, false], []), ([22, 23, 24, 25, 26], [false, false, false, false, false, true, true], []), ([22, 23, 24, 25, 26], [false, false, false, false, false, true, true, true], []), ([22, 23, 24, 25, 26], [false, false, false, false, false, true, true, true, true], []), ([], [true, true, true, true, true, true, true, true, true, true], []), ([], [true, true, true, true, true, true, true, true, true, true, true], [])] 25 12 ?_
   refine dT [35, 39, 40, 41, 42, 43] [true, true, true, true, true, true, true, true, true, true, true, true] [] ?_
   refine dT [34, 39, 40, 41, 42, 43] [true, true, true, true, true, true, true, true, true, true, true, true, false] [] ?_
   refine dT [39, 40, 41, 42, 43] [true, true, true, true, true, true, true, true, true, true, true, true, true, true] [] ?_
   refine dT [39, 40, 41, 42, 43] [true, true, true, true, true, true, true, true, true, true, true, true, true, true, true] [] ?_
   refine dT [39, 40, 41, 42, 43] [true, true, true, true, true, true, true, true, true, true, true, true, true, true, true, true] [] ?_
   refine dT [34, 35, 36, 37, 38, 40] [true, true, true, true, true, true, true, true, true, true, true, true, false, false, false, false, false] [] ?_
   refine dT [34, 35, 36, 37, 38, 39] [true, true, true, true, true, true, true, true, true, true, true, true, false, false, false, false, false, false] [] ?_
   refine dT [34, 35, 36, 37, 38] [true, true, true, true, true, true, true, true, true, true, true, true, false, false, false, false, false, true, true] [] ?_
   refine dT [34, 35, 36, 37, 38] [true, true, true, true, true, true, true, true, true, true, true, true, false, false, false, false, false, true, true, true] [] ?_
   refine dT [34, 35, 36, 37, 38] [true, true, true, true, true, true, true, true, true, true, true, true, false, false, false, false, false, true, true, true, true] [] ?_
   refine dT [] [true, true, true, true, true, true, true, true, true, true, true, true, true, true, true, true, true, true, true, true, true, true] [] ?_
   refine dB [([], [true, true, true, true, true, true, true, true, true, true, true, true, true, true, true, true, true, true, true, true, true, true, true], []), ([], [true, true, true, true, true, true, true, true, true, true, true, true, true, true, true, true, true, true, true, true, true, true, true, true], [])] 12 25 ?_
   refine dT [48, 53, 54, 55, 56, 57, 58] [true, true, true, true, true, true, true, true, true, true, true, true, true, true, true, true, true, true, true, true, true, true, true, true, true] [] ?_
   refine dT [47, 53, 54, 55, 56, 57, 58] [true, true, true, true, true, true, true, true, true, true, true, true, true, true, true, true, true, true, true, true, true, true, true, true, true, false] [] ?_
   refine dT [53, 54, 55, 56, 57, 58] [true, true, true, true, true, true, true, true, true, true, true, true, true, true, true, true, true, true, true, true, true, true, true, true, true, true, true] [] ?_
   refine dT [53, 54, 55, 56, 57, 58] [true, true, true, true, true, true, true, true, true, true, true, true, true, true, true, true, true, true, true, true, true, true, true, true, true, true, true, true] [] ?_
   refine dT [53, 54, 55, 56, 57, 58] [true, true, true, true, true, true, true, true, true, true, true, true, true, true, true, true, true, true, true, true, true, true, true, true, true, true, true, true, true] [] ?_
   refine dT [53, 54, 55, 56, 57, 58] [true, true, true, true, true, true, true, true, true, true, true, true, true, true, true, true, true, true, true, true, true, true, true, true, true, true, true, true, true, true] [] ?_
   refine dT [47, 48, 49, 50, 51, 52, 54] [true, true, true, true, true, true, true, true, true, true, true, true, true, true, true, true, true, true, true, true, true, true, true, true, true, false, false, false, false, false, false] [] ?_
   refine dT [47, 48, 49, 50, 51, 52, 53] [true, true, true, true, true, true, true, true, true, true, true, true, true, true, true, true, true, true, true, true, true, true, true, true, true, false, false, false, false, false, false, false] [] ?_
   refine dT [47, 48, 49, 50, 51, 52] [true, true, true, true, true, true, true, true, true, true, true, true, true, true, true, true, true, true, true, true, true, true, true, true, true, false, false, false, false, false, false, true, true] [] ?_
   refine dT [47, 48, 49, 50, 51, 52] [true, true, true, true, true, true, true, true, true, true, true, true, true, true, true, true, true, true, true, true, true, true, true, true, true, false, false, false, false, false, false, true, true, true] [] ?_
   refine dT [47, 48, 49, 50, 51, 52] [true, true, true, true, true, true, true, true, true, true, true, true, true, true, true, true, true, true, true, true, true, true, true, true, true, false, false, false, false, false, false, true, true, true, true] [] ?_
   refine dT [47, 48, 49, 50, 51, 52] [true, true, true, true, true, true, true, true, true, true, true, true, true, true, true, true, true, true, true, true, true, true, true, true, true, false, false, false, false, false, false, true, true, true, true, true] [] ?_
   refine dD ?_
   refine gT ?_
   refine oN 2 ?_
   refine oK [0, 1, 5, 6] ?_
   refine rK [0, 1, 5, 6, 7] ?_
   refine W.block ?_
   refine lpa (α := Nat) [0, 1, 6] [69] [] (fun k => [(5, B true), (7, I k)]) (fun k => []) (fun k => k ≤ ls[i].stays.length) (fun k => ls[i].stays.length - k) 0 v0 ?_
   ·
    intro k hI1
    simp only [List.cons_append, List.nil_append]
    try dsimp only at hI1
    replace F := F.add hI1
    refine W.seqk fun K4 hK4 => ?_
    refine W.seqR ?_
    refine oN 2 ?_
    refine gT ?_
    refine gT ?_
    refine gT ?_
    refine gT ?_
    refine gT ?_
    refine gT ?_
    refine gT ?_
    refine gT ?_
    refine oN 1 ?_
    refine oK [0, 1, 5, 6, 7, 71] ?_
    refine it (fun hc2 => ?_) (fun hc2 => ?_)
    ·
     try simp at hc2
     replace F := F.add hc2
     refine W.skip ?_
     refine hK4 _ ?_
     clear hK4 K4
     refine W.seqk fun K5 hK5 => ?_
     refine W.block ?_
     refine wDe 16 [] [[], [], [1, 0], [0, 1, 2], [2, 1, 0, 3], [], [5, 3, 0, 1, 2, 4], [4, 2, 1, 0, 3, 5, 6], [], [], [9, 8], [8, 9, 10], [10, 9, 8, 11], [], [13, 11, 8, 9, 10, 12], [12, 10, 9, 8, 11, 13, 14], [14, 13, 11, 8, 9, 10, 12, 15, 6, 5, 3, 0, 1, 2, 4, 7], [7, 4, 2, 1, 0, 3, 5, 6, 15, 12, 10, 9, 8, 11, 13, 14, 16]] ?_
     refine dB [([75, 79, 82, 83, 84, 85, 86, 87, 88, 89], [], []), ([74, 79, 82, 83, 84, 85, 86, 87, 88, 89], [false], []), ([79, 82, 83, 84, 85, 86, 87, 88, 89], [true, true], []), ([79, 82, 83, 84, 85, 86, 87, 88, 89], [true, true, true], []), ([79, 82, 83, 84, 85, 86, 87, 88, 89], [true, true, true, true], []), ([74, 75, 76, 77, 78, 82, 83, 84, 85, 86, 87, 88, 89], [false, false, false, false, false], []), ([82, 83, 84, 85, 86, 87, 88, 89], [true, true, true, true, true, true], []), ([82, 83, 84, 85, 86, 87, 88, 89], [true, true, true, true, true, true, true], []), ([74, 75, 76, 77, 78, 79, 80, 81, 83, 87], [false, false, false, false, false, false, false, false], []), ([74, 75, 76, 77, 78, 79, 80, 81, 82, 87], [false, false, false, false, false, false, false, false, false], []), ([74, 75, 76, 77, 78, 79, 80, 81, 87], [false, false, false, false, false, false, false, false, true, true], []), ([74, 75, 76, 77, 78, 79, 80, 81, 87], [false, false, false, false, false, false, false, false, true, true, true], []), ([74, 75, 76, 77, 78, 79, 80, 81, 87], [false, false, false, false, false, false, false, false, true, true, true, true], []), ([74, 75, 76, 77, 78, 79, 80, 81, 82, 83, 84, 85, 86], [false, false, false, false, false, false, false, false, false, false, false, false, false], []), ([74, 75, 76, 77, 78, 79, 80, 81], [false, false, false, false, false, false, false, false, true, true, true, true, true, true], []), ([74, 75, 76, 77, 78, 79, 80, 81], [false, false, false, false, false, false, false, false, true, true, true, true, true, true, true], [])] 0 16 ?_
     refine dD ?_
     refine oN 2 ?_
     refine WOps.endK ?_
     refine hK5 _ ?_
     clear hK5 K5
     refine rEw ?_
     refine ⟨k + 1, lf0, v0, v0⟩
    ·
     try simp at hc2
     replace F := F.add hc2
     refine W.exit ?_
     refine hK3 _ ?_
     clear hK4 K4 hK3 K3
     refine rEw ?_
     refine ⟨i + 1, lf0, v0, v0⟩
  ·
   try simp at hc1
   replace F := F.add hc1
   refine W.exit ?_
   refine hK1 _ ?_
   clear hK2 K2 hK1 K1
   refine rK [4] ?_
   refine W.ret ?_
   exact er0 false [] []
end Go.Sim
