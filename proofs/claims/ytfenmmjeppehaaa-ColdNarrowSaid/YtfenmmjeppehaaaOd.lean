/- What is known better: the law answers true. -/
import Derived.Test.YtfenmmjeppehaaaOc
namespace Go.Sim
open Go.Proofs
set_option maxRecDepth 100000
set_option linter.unusedSimpArgs false
set_option linter.unusedVariables false
attribute [-simp] List.map_set List.map_take List.map_drop
set_option maxHeartbeats 4000000 in
theorem ColdNarrow_ok (nums : List Int) : ACalls Try.prog 11 [ints nums] [] (fun r o => r = B true ∧ o = []) := by
 have F := Fx.nil
 refine ent Try.func11 Try.ntmps11 Try.results11 ?_
 refine rK [0] ?_
 refine W.seqR ?_
 refine oN 1 ?_
 refine oC [] ?_
 refine ct (DieOf_ok _) ?_
 refine oN 1 ?_
 refine oK [3] ?_
 refine W.seqR ?_
 refine oN 1 ?_
 refine oC [(10000, 184)] ?_
 refine CallT.mkE (CellarOf_ok _ 3 5 (by omega) (by omega)) (fun z25 hz25 => ⟨(by simp), ?_⟩)
 obtain ⟨c, g1⟩ := z25
 have qmc : MadeC c 3 5 := hz25
 have qv := qmc.ok
 have hb6 : c.boxes.length ≤ 1000 := by have := qmc.bx; omega
 have hf6 : c.fils.length ≤ 1000 := by have := qmc.fl; omega
 have hr6 : c.rats.length ≤ 1000 := by have := qv.r6; omega
 have hha := qv.hall
 replace F := F.add hb6 |>.add hf6 |>.add hr6 |>.add hha
 refine WOps.norm (by simp [hb6, hf6, hr6, hha]; rfl) ?_
 refine oN 2 ?_
 refine oK [3, 4] ?_
 refine W.seqR ?_
 refine oN 2 ?_
 refine oC [(10000, 184)] ?_
 refine CallT.mkE (LotOf_ok g1 c hb6 4 (by omega)) (fun z28 hz28 => ⟨(by simp [hb6, hf6, hr6, hha]), ?_⟩)
 obtain ⟨l, g2⟩ := z28
 have qml : MadeT c l := hz28
 have ql := qml.ok
 have hbn : 0 ≤ l.born ∧ l.born ≤ 9 := ⟨ql.born.1, qml.born⟩
 have qkk := ql.keeps
 replace F := F.add hbn
 refine WOps.norm (by simp [hb6, hf6, hr6, hha, hbn]; rfl) ?_
 refine oN 2 ?_
 refine oK [3, 4, 5] ?_
 obtain ⟨h, qh⟩ : ∃ h, hourV g2 l = h := ⟨_, rfl⟩
 obtain ⟨g3, qg3⟩ : ∃ g, hourF g2 = g := ⟨_, rfl⟩
 obtain ⟨bq, qbq⟩ : ∃ b, castV g3 c.boxes.length = b := ⟨_, rfl⟩
 obtain ⟨g4, qg4⟩ : ∃ g, castF g3 c.boxes.length = g := ⟨_, rfl⟩
 have hh := qh
 have hg3 := qg3
 have hbq := qbq
 have hg4 := qg4
 have hh9 : l.born ≤ h ∧ h ≤ 240 := by rw [← qh]; exact hourV_range g2 (by omega)
 have qb0 : 0 ≤ bq := by rw [← qbq]; exact castV_lo _ _
 have qb1 : 0 < c.boxes.length → bq < c.boxes.length := fun k => by have := castV_hi g3 c.boxes.length (by omega); omega
 replace F := F.add hh |>.add hg3 |>.add hbq |>.add hg4 |>.add hh9
 refine wD 7 [(2, [184])] [[], [], [1, 0], [], [], [4], [4, 5], [0, 1, 2, 5, 4, 6, 3], [3, 6, 4, 5, 7, 0, 1, 2], [8, 3, 6, 4, 5, 2, 1, 0, 7]] ?_
 refine dB [([30, 32, 33, 34, 35], [], []), ([29, 32, 33, 34, 35], [false], [])] 5 2 ?_
 refine dC [32, 33, 34, 35] [true, true] [] [(10000, 184)] ?_
 refine cd (HourOf_det g2 l (by omega)) ?_
 refine dB [([29, 30, 31, 33, 34, 35], [false, false, false], [184]), ([29, 30, 31, 32], [false, false, false, false], [184]), ([29, 30, 31, 32], [false, false, false, false, true], [184]), ([29, 30, 31, 32], [false, false, false, false, true, true], [184])] 0 7 ?_
 refine dD ?_
 refine oC [(10000, 184)] ?_
 refine ct (Cast_ok g3 c.boxes.length (by omega)) ?_
 refine oN 2 ?_
 refine oK [3, 4, 5, 6, 7] ?_
 refine W.seqR ?_
 refine oN 1 ?_
 refine oC [] ?_
 refine ct (CopyCellar_own c hb6 hf6 hr6) ?_
 refine oN 2 ?_
 refine oK [3, 4, 5, 6, 7, 8] ?_
 obtain ⟨hn, qhn⟩ : ∃ x, narV g4 c.hall = x := ⟨_, rfl⟩
 obtain ⟨g5, qg5⟩ : ∃ g, narF g4 c.hall = g := ⟨_, rfl⟩
 have hhn := qhn
 have hg5 := qg5
 have hhnr : c.hall.lo ≤ hn.lo ∧ hn.lo ≤ hn.hi ∧ hn.hi ≤ c.hall.hi := by rw [← qhn]; exact narV_range g4 (by omega)
 replace F := F.add hhn |>.add hg5 |>.add hhnr
 refine W.seqR ?_
 refine oN 3 ?_
 refine oC [(10000, 184)] ?_
 refine ct (Narrow_ok g4 c.hall (by omega) (by omega) (by omega)) ?_
 refine oN 2 ?_
 refine oK [3, 4, 5, 6, 7, 8] ?_
 refine W.seqk fun K1 hK1 => ?_
 refine rK [3, 4, 5, 6, 7, 8, 9] ?_
 refine W.block ?_
 refine lpa (α := Nat × List CBox × Int) [3, 4, 5, 6, 7, 8] [47, 64, 70, 76, 82] [304, 184] (fun x => [(9, I x.1)]) (fun x => [(304, .row true 56 9 (x.2.1.map B9)), (184, die x.2.2)]) (fun x => x.1 ≤ c.boxes.length ∧ x.2.1.length = c.boxes.length ∧ (∀ j, j < x.1 → NarB (nth c.boxes j) (nth x.2.1 j)) ∧ ∀ j, x.1 ≤ j → nth x.2.1 j = nth c.boxes j) (fun x => c.boxes.length - x.1) (0, c.boxes, g5) ?_ ?_
 ·
  exact ⟨Nat.zero_le _, rfl, fun j hj => absurd hj (Nat.not_lt_zero _), fun j _ => rfl⟩
 ·
  intro ⟨i, bs, g⟩ hI0
  simp only [List.cons_append, List.nil_append]
  try dsimp only at hI0
  obtain ⟨hi, hbl, km1, km2⟩ := hI0
  replace F := F.add hi |>.add hbl
  refine W.seqk fun K2 hK2 => ?_
  refine rK [3, 4, 5, 6, 7, 8, 9, 48] ?_
  refine it (fun hc1 => ?_) (fun hc1 => ?_)
  ·
   try simp at hc1
   replace F := F.add hc1
   refine W.skip ?_
   refine hK2 _ ?_
   clear hK2 K2
   refine W.seqk fun K3 hK3 => ?_
   refine W.block ?_
   have hil : i < c.boxes.length := by omega
   have hib : i < bs.length := by omega
   obtain ⟨B, qB⟩ : ∃ B, B = bs[i] := ⟨_, rfl⟩
   have hB : bs[i] = B := qB.symm
   have qBc : B = nth c.boxes i := by rw [qB, ← nth_get hib]; exact km2 i (Nat.le_refl _)
   have qBk : BoxOk B := by rw [qBc]; exact qv.box hil
   have hr1 := qBk.room
   have hr2 := qBk.ice
   have hr3 := qBk.melt
   have hr4 := qBk.cld
   have hr5 := qBk.wrm
   obtain ⟨n1, qn1⟩ : ∃ x, narV g B.ice = x := ⟨_, rfl⟩
   obtain ⟨e1, qe1⟩ : ∃ x, narF g B.ice = x := ⟨_, rfl⟩
   obtain ⟨n2, qn2⟩ : ∃ x, narV e1 B.melt = x := ⟨_, rfl⟩
   obtain ⟨e2, qe2⟩ : ∃ x, narF e1 B.melt = x := ⟨_, rfl⟩
   obtain ⟨n3, qn3⟩ : ∃ x, narV e2 B.cld = x := ⟨_, rfl⟩
   obtain ⟨e3, qe3⟩ : ∃ x, narF e2 B.cld = x := ⟨_, rfl⟩
   obtain ⟨n4, qn4⟩ : ∃ x, narV e3 B.wrm = x := ⟨_, rfl⟩
   obtain ⟨e4, qe4⟩ : ∃ x, narF e3 B.wrm = x := ⟨_, rfl⟩
   have hn1 := qn1
   have he1 := qe1
   have hn2 := qn2
   have he2 := qe2
   have hn3 := qn3
   have he3 := qe3
   have hn4 := qn4
   have he4 := qe4
   have qr1 : B.ice.lo ≤ n1.lo ∧ n1.lo ≤ n1.hi ∧ n1.hi ≤ B.ice.hi := by rw [← qn1]; exact narV_range g (by omega)
   have qr2 : B.melt.lo ≤ n2.lo ∧ n2.lo ≤ n2.hi ∧ n2.hi ≤ B.melt.hi := by rw [← qn2]; exact narV_range e1 (by omega)
   have qr3 : B.cld.lo ≤ n3.lo ∧ n3.lo ≤ n3.hi ∧ n3.hi ≤ B.cld.hi := by rw [← qn3]; exact narV_range e2 (by omega)
   have qr4 : B.wrm.lo ≤ n4.lo ∧ n4.lo ≤ n4.hi ∧ n4.hi ≤ B.wrm.hi := by rw [← qn4]; exact narV_range e3 (by omega)
   replace F := F.add hil |>.add hib |>.add hB |>.add hr1 |>.add hr2 |>.add hr3 |>.add hr4 |>.add hr5 |>.add hn1 |>.add he1 |>.add hn2 |>.add he2 |>.add hn3 |>.add he3 |>.add hn4 |>.add he4
   refine rK [3, 4, 5, 6, 7, 8, 9, 10] ?_
   refine wDe 37 [(9, [184]), (15, [184]), (21, [184]), (27, [184]), (30, [304]), (33, [304]), (36, [304])] [[], [], [], [], [], [], [5], [5, 6], [6, 5, 7], [7, 5, 6, 8, 4], [], [], [11], [11, 12], [12, 11, 13], [4, 8, 6, 5, 7, 9, 13, 11, 12, 14, 10], [], [], [17], [17, 18], [18, 17, 19], [10, 14, 12, 11, 13, 9, 7, 5, 6, 8, 4, 15, 19, 17, 18, 20, 16], [], [], [23], [23, 24], [24, 23, 25], [16, 20, 18, 17, 19, 15, 4, 8, 6, 5, 7, 9, 13, 11, 12, 14, 10, 21, 25, 23, 24, 26, 22], [22, 27, 25, 23, 24, 26, 16, 21, 19, 17, 18, 20, 10, 15, 13, 11, 12, 14, 9, 8, 7, 6, 5, 4, 0], [0, 4, 5, 6, 7, 8, 9, 14, 12, 11, 13, 15, 10, 20, 18, 17, 19, 21, 16, 26, 24, 23, 25, 27, 22, 28], [28, 22, 27, 25, 23, 24, 26, 16, 21, 19, 17, 18, 20, 10, 15, 13, 11, 12, 14, 9, 8, 7, 6, 5, 4, 0, 29], [30, 29, 28, 22, 27, 25, 23, 24, 26, 16, 21, 19, 17, 18, 20, 15, 14, 13, 12, 11, 10, 9, 8, 7, 6, 5, 4, 0, 1], [1, 0, 4, 5, 6, 7, 8, 9, 10, 11, 12, 13, 14, 15, 20, 18, 17, 19, 21, 16, 26, 24, 23, 25, 27, 22, 28, 29, 30, 31], [31, 30, 29, 28, 22, 27, 25, 23, 24, 26, 16, 21, 19, 17, 18, 20, 15, 14, 13, 12, 11, 10, 9, 8, 7, 6, 5, 4, 0, 1, 32], [33, 32, 31, 30, 29, 28, 22, 27, 25, 23, 24, 26, 21, 20, 19, 18, 17, 16, 15, 14, 13, 12, 11, 10, 9, 8, 7, 6, 5, 4, 1, 0, 2], [2, 0, 1, 4, 5, 6, 7, 8, 9, 10, 11, 12, 13, 14, 15, 16, 17, 18, 19, 20, 21, 26, 24, 23, 25, 27, 22, 28, 29, 30, 31, 32, 33, 34], [34, 33, 32, 31, 30, 29, 28, 22, 27, 25, 23, 24, 26, 21, 20, 19, 18, 17, 16, 15, 14, 13, 12, 11, 10, 9, 8, 7, 6, 5, 4, 1, 0, 2, 35], [36, 35, 34, 33, 32, 31, 30, 29, 28, 27, 26, 25, 24, 23, 22, 21, 20, 19, 18, 17, 16, 15, 14, 13, 12, 11, 10, 9, 8, 7, 6, 5, 4, 2, 1, 0, 3], [3, 0, 1, 2, 4, 5, 6, 7, 8, 9, 10, 11, 12, 13, 14, 15, 16, 17, 18, 19, 20, 21, 22, 23, 24, 25, 26, 27, 28, 29, 30, 31, 32, 33, 34, 35, 36, 37], [37, 36, 35, 34, 33, 32, 31, 30, 29, 28, 27, 26, 25, 24, 23, 22, 21, 20, 19, 18, 17, 16, 15, 14, 13, 12, 11, 10, 9, 8, 7, 6, 5, 4, 2, 1, 0, 3, 38]] ?_
   refine dB [([56, 57, 58, 59, 60, 61, 62, 63, 64, 65, 66, 67, 68, 69, 70, 71, 72, 73, 74, 75, 76, 77, 78, 79, 80, 81, 82], [], [184, 184, 184, 184]), ([55, 57, 58, 59, 60, 61, 62, 63, 64, 65, 66, 67, 68, 69, 70, 71, 72, 73, 74, 75, 76, 77, 78, 79, 80, 81, 82, 83, 84], [false], [184, 184, 184, 184, 304]), ([55, 56, 58, 59, 60, 61, 62, 63, 64, 65, 66, 67, 68, 69, 70, 71, 72, 73, 74, 75, 76, 77, 78, 79, 80, 81, 82, 83, 84, 85, 86], [false, false], [184, 184, 184, 184, 304, 304]), ([55, 56, 57, 59, 60, 61, 62, 63, 64, 65, 66, 67, 68, 69, 70, 71, 72, 73, 74, 75, 76, 77, 78, 79, 80, 81, 82, 83, 84, 85, 86, 87, 88], [false, false, false], [184, 184, 184, 184, 304, 304, 304]), ([55, 56, 57, 58, 60, 61, 62, 63, 65, 66, 67, 68, 69, 71, 72, 73, 74, 75, 77, 78, 79, 80, 81], [false, false, false, false], []), ([55, 56, 57, 58, 59, 65, 66, 67, 68, 69, 71, 72, 73, 74, 75, 77, 78, 79, 80, 81], [false, false, false, false, false], []), ([55, 56, 57, 58, 59, 65, 66, 67, 68, 69, 71, 72, 73, 74, 75, 77, 78, 79, 80, 81], [false, false, false, false, false, true], []), ([55, 56, 57, 58, 59, 65, 66, 67, 68, 69, 71, 72, 73, 74, 75, 77, 78, 79, 80, 81], [false, false, false, false, false, true, true], []), ([55, 56, 57, 58, 59, 65, 66, 67, 68, 69, 71, 72, 73, 74, 75, 77, 78, 79, 80, 81], [false, false, false, false, false, true, true, true], [])] 28 9 ?_
   refine dC [55, 56, 57, 58, 65, 66, 67, 68, 69, 71, 72, 73, 74, 75, 77, 78, 79, 80, 81] [false, false, false, false, true, true, true, true, true] [] [(10000, 184)] ?_
   refine cd (Narrow_ok g B.ice (by omega) (by omega) (by omega)) ?_
   refine dB [([55, 56, 57, 58, 59, 60, 61, 62, 63, 64, 66, 67, 68, 69, 71, 72, 73, 74, 75, 77, 78, 79, 80, 81], [false, false, false, false, false, false, false, false, false, false], [184]), ([55, 56, 57, 58, 59, 60, 61, 62, 63, 64, 65, 71, 72, 73, 74, 75, 77, 78, 79, 80, 81], [false, false, false, false, false, false, false, false, false, false, false], [184]), ([55, 56, 57, 58, 59, 60, 61, 62, 63, 64, 65, 71, 72, 73, 74, 75, 77, 78, 79, 80, 81], [false, false, false, false, false, false, false, false, false, false, false, true], [184]), ([55, 56, 57, 58, 59, 60, 61, 62, 63, 64, 65, 71, 72, 73, 74, 75, 77, 78, 79, 80, 81], [false, false, false, false, false, false, false, false, false, false, false, true, true], [184]), ([55, 56, 57, 58, 59, 60, 61, 62, 63, 64, 65, 71, 72, 73, 74, 75, 77, 78, 79, 80, 81], [false, false, false, false, false, false, false, false, false, false, false, true, true, true], [184])] 22 15 ?_
   refine dC [55, 56, 57, 58, 71, 72, 73, 74, 75, 77, 78, 79, 80, 81] [false, false, false, false, true, true, true, true, true, true, true, true, true, true, true] [] [(10000, 184)] ?_
   refine cd (Narrow_ok e1 B.melt (by omega) (by omega) (by omega)) ?_
   refine dB [([55, 56, 57, 58, 59, 60, 61, 62, 63, 64, 65, 66, 67, 68, 69, 70, 72, 73, 74, 75, 77, 78, 79, 80, 81], [false, false, false, false, false, false, false, false, false, false, false, false, false, false, false, false], [184, 184]), ([55, 56, 57, 58, 59, 60, 61, 62, 63, 64, 65, 66, 67, 68, 69, 70, 71, 77, 78, 79, 80, 81], [false, false, false, false, false, false, false, false, false, false, false, false, false, false, false, false, false], [184, 184]), ([55, 56, 57, 58, 59, 60, 61, 62, 63, 64, 65, 66, 67, 68, 69, 70, 71, 77, 78, 79, 80, 81], [false, false, false, false, false, false, false, false, false, false, false, false, false, false, false, false, false, true], [184, 184]), ([55, 56, 57, 58, 59, 60, 61, 62, 63, 64, 65, 66, 67, 68, 69, 70, 71, 77, 78, 79, 80, 81], [false, false, false, false, false, false, false, false, false, false, false, false, false, false, false, false, false, true, true], [184, 184]), ([55, 56, 57, 58, 59, 60, 61, 62, 63, 64, 65, 66, 67, 68, 69, 70, 71, 77, 78, 79, 80, 81], [false, false, false, false, false, false, false, false, false, false, false, false, false, false, false, false, false, true, true, true], [184, 184])] 16 21 ?_
   refine dC [55, 56, 57, 58, 77, 78, 79, 80, 81] [false, false, false, false, true, true, true, true, true, true, true, true, true, true, true, true, true, true, true, true, true] [] [(10000, 184)] ?_
   refine cd (Narrow_ok e2 B.cld (by omega) (by omega) (by omega)) ?_
   refine dB [([55, 56, 57, 58, 59, 60, 61, 62, 63, 64, 65, 66, 67, 68, 69, 70, 71, 72, 73, 74, 75, 76, 78, 79, 80, 81], [false, false, false, false, false, false, false, false, false, false, false, false, false, false, false, false, false, false, false, false, false, false], [184, 184, 184]), ([55, 56, 57, 58, 59, 60, 61, 62, 63, 64, 65, 66, 67, 68, 69, 70, 71, 72, 73, 74, 75, 76, 77], [false, false, false, false, false, false, false, false, false, false, false, false, false, false, false, false, false, false, false, false, false, false, false], [184, 184, 184]), ([55, 56, 57, 58, 59, 60, 61, 62, 63, 64, 65, 66, 67, 68, 69, 70, 71, 72, 73, 74, 75, 76, 77], [false, false, false, false, false, false, false, false, false, false, false, false, false, false, false, false, false, false, false, false, false, false, false, true], [184, 184, 184]), ([55, 56, 57, 58, 59, 60, 61, 62, 63, 64, 65, 66, 67, 68, 69, 70, 71, 72, 73, 74, 75, 76, 77], [false, false, false, false, false, false, false, false, false, false, false, false, false, false, false, false, false, false, false, false, false, false, false, true, true], [184, 184, 184]), ([55, 56, 57, 58, 59, 60, 61, 62, 63, 64, 65, 66, 67, 68, 69, 70, 71, 72, 73, 74, 75, 76, 77], [false, false, false, false, false, false, false, false, false, false, false, false, false, false, false, false, false, false, false, false, false, false, false, true, true, true], [184, 184, 184])] 10 27 ?_
   refine dC [55, 56, 57, 58] [false, false, false, false, true, true, true, true, true, true, true, true, true, true, true, true, true, true, true, true, true, true, true, true, true, true, true] [] [(10000, 184)] ?_
   refine cd (Narrow_ok e3 B.wrm (by omega) (by omega) (by omega)) ?_
   refine dB [([56, 57, 58], [true, false, false, false, true, true, true, true, true, true, true, true, true, true, true, true, true, true, true, true, true, true, true, true, true, true, true, true], []), ([56, 57, 58], [true, false, false, false, true, true, true, true, true, true, true, true, true, true, true, true, true, true, true, true, true, true, true, true, true, true, true, true, true], [])] 7 30 ?_
   refine WDraw.upd hΓ [304] (viewB_eq (L := [56, 57, 58]) (S := [true, false, false, false, true, true, true, true, true, true, true, true, true, true, true, true, true, true, true, true, true, true, true, true, true, true, true, true, true, true]) (O := []) (by kernel_rfl) (by kernel_rfl) (by simp [hb6, hf6, hr6, hha, hbn, hh, hg3, hbq, hg4, hh9, hhn, hg5, hhnr, hi, hbl, hc1, hil, hib, hB, hr1, hr2, hr3, hr4, hr5, hn1, he1, hn2, he2, hn3, he3, hn4, he4]; rfl)) (by first | rfl | simp) (by simp [hb6, hf6, hr6, hha, hbn, hh, hg3, hbq, hg4, hh9, hhn, hg5, hhnr, hi, hbl, hc1, hil, hib, hB, hr1, hr2, hr3, hr4, hr5, hn1, he1, hn2, he2, hn3, he3, hn4, he4]; first | rfl | exact ⟨rfl, rfl⟩) (by simp [hb6, hf6, hr6, hha, hbn, hh, hg3, hbq, hg4, hh9, hhn, hg5, hhnr, hi, hbl, hc1, hil, hib, hB, hr1, hr2, hr3, hr4, hr5, hn1, he1, hn2, he2, hn3, he3, hn4, he4]; first | done | rfl) (.inr (by simp)) (by simp [hb6, hf6, hr6, hha, hbn, hh, hg3, hbq, hg4, hh9, hhn, hg5, hhnr, hi, hbl, hc1, hil, hib, hB, hr1, hr2, hr3, hr4, hr5, hn1, he1, hn2, he2, hn3, he3, hn4, he4]; rfl) ?_
   refine dB [([57, 58], [true, true, false, false, true, true, true, true, true, true, true, true, true, true, true, true, true, true, true, true, true, true, true, true, true, true, true, true, true, true, true], []), ([57, 58], [true, true, false, false, true, true, true, true, true, true, true, true, true, true, true, true, true, true, true, true, true, true, true, true, true, true, true, true, true, true, true, true], [])] 4 33 ?_
   refine WDraw.upd hΓ [304] (viewB_eq (L := [57, 58]) (S := [true, true, false, false, true, true, true, true, true, true, true, true, true, true, true, true, true, true, true, true, true, true, true, true, true, true, true, true, true, true, true, true, true]) (O := []) (by kernel_rfl) (by kernel_rfl) (by simp [hb6, hf6, hr6, hha, hbn, hh, hg3, hbq, hg4, hh9, hhn, hg5, hhnr, hi, hbl, hc1, hil, hib, hB, hr1, hr2, hr3, hr4, hr5, hn1, he1, hn2, he2, hn3, he3, hn4, he4]; rfl)) (by first | rfl | simp) (by simp [hb6, hf6, hr6, hha, hbn, hh, hg3, hbq, hg4, hh9, hhn, hg5, hhnr, hi, hbl, hc1, hil, hib, hB, hr1, hr2, hr3, hr4, hr5, hn1, he1, hn2, he2, hn3, he3, hn4, he4]; first | rfl | exact ⟨rfl, rfl⟩) (by simp [hb6, hf6, hr6, hha, hbn, hh, hg3, hbq, hg4, hh9, hhn, hg5, hhnr, hi, hbl, hc1, hil, hib, hB, hr1, hr2, hr3, hr4, hr5, hn1, he1, hn2, he2, hn3, he3, hn4, he4]; first | done | rfl) (.inr (by simp)) (by simp [hb6, hf6, hr6, hha, hbn, hh, hg3, hbq, hg4, hh9, hhn, hg5, hhnr, hi, hbl, hc1, hil, hib, hB, hr1, hr2, hr3, hr4, hr5, hn1, he1, hn2, he2, hn3, he3, hn4, he4]; rfl) ?_
   refine dB [([58], [true, true, true, false, true, true, true, true, true, true, true, true, true, true, true, true, true, true, true, true, true, true, true, true, true, true, true, true, true, true, true, true, true, true], []), ([58], [true, true, true, false, true, true, true, true, true, true, true, true, true, true, true, true, true, true, true, true, true, true, true, true, true, true, true, true, true, true, true, true, true, true, true], [])] 1 36 ?_
   refine WDraw.upd hΓ [304] (viewB_eq (L := [58]) (S := [true, true, true, false, true, true, true, true, true, true, true, true, true, true, true, true, true, true, true, true, true, true, true, true, true, true, true, true, true, true, true, true, true, true, true, true]) (O := []) (by kernel_rfl) (by kernel_rfl) (by simp [hb6, hf6, hr6, hha, hbn, hh, hg3, hbq, hg4, hh9, hhn, hg5, hhnr, hi, hbl, hc1, hil, hib, hB, hr1, hr2, hr3, hr4, hr5, hn1, he1, hn2, he2, hn3, he3, hn4, he4]; rfl)) (by first | rfl | simp) (by simp [hb6, hf6, hr6, hha, hbn, hh, hg3, hbq, hg4, hh9, hhn, hg5, hhnr, hi, hbl, hc1, hil, hib, hB, hr1, hr2, hr3, hr4, hr5, hn1, he1, hn2, he2, hn3, he3, hn4, he4]; first | rfl | exact ⟨rfl, rfl⟩) (by simp [hb6, hf6, hr6, hha, hbn, hh, hg3, hbq, hg4, hh9, hhn, hg5, hhnr, hi, hbl, hc1, hil, hib, hB, hr1, hr2, hr3, hr4, hr5, hn1, he1, hn2, he2, hn3, he3, hn4, he4]; first | done | rfl) (.inr (by simp)) (by simp [hb6, hf6, hr6, hha, hbn, hh, hg3, hbq, hg4, hh9, hhn, hg5, hhnr, hi, hbl, hc1, hil, hib, hB, hr1, hr2, hr3, hr4, hr5, hn1, he1, hn2, he2, hn3, he3, hn4, he4]; rfl) ?_
   refine dD ?_
   refine WOps.le Le.dedup rfl rfl ?_
   refine WOps.norm (by simp [hb6, hf6, hr6, hha, hbn, hh, hg3, hbq, hg4, hh9, hhn, hg5, hhnr, hi, hbl, hc1, hil, hib, hB, hr1, hr2, hr3, hr4, hr5, hn1, he1, hn2, he2, hn3, he3, hn4, he4]; rfl) ?_
   refine oN 3 ?_
   refine WOps.endK ?_
   refine hK3 _ ?_
   clear hK3 K3
   refine rEw ?_
   refine ⟨(i + 1, bs.set i ⟨B.room, n1, n2, n3, n4⟩, e4), lf ?_ ?_, ?_, v0⟩
   ·
    exact v1
   ·
    try (simp [Fx.get F])
    all_goals (
     exact set_mapB9
    )
   ·
    refine ⟨by show i + 1 ≤ _; omega, by show (bs.set i _).length = _; rw [List.length_set]; exact hbl, fun j hj => ?_, fun j hj => ?_⟩
    · have hj' : j < i + 1 := hj
      show NarB (nth c.boxes j) (nth (bs.set i _) j)
      by_cases e : j = i
      · subst e
        rw [nth_set_eq hib, ← qBc]
        exact ⟨rfl, qr1, qr2, qr3, qr4⟩
      · rw [nth_set_ne e]; exact km1 j (by omega)
    · have hj' : i + 1 ≤ j := hj
      show nth (bs.set i _) j = nth c.boxes j
      rw [nth_set_ne (by omega)]; exact km2 j (by omega)
  ·
   try simp at hc1
   replace F := F.add hc1
   refine W.exit ?_
   refine hK1 _ ?_
   clear hK2 K2 hK1 K1
   obtain ⟨M, qM⟩ : ∃ M : Cel, M = ⟨⟨hn.lo, hn.hi⟩, bs, c.fils, c.rats⟩ := ⟨_, rfl⟩
   have hie : i = c.boxes.length := by omega
   have htk : List.take c.boxes.length bs = bs := List.take_of_length_le (by omega)
   have qmb : ∀ j, j < c.boxes.length → NarB (nth c.boxes j) (nth bs j) := fun j hj => km1 j (by omega)
   have qmv : ValidC M := by
     rw [qM]
     refine ⟨by show -300 ≤ hn.lo ∧ hn.lo ≤ hn.hi ∧ hn.hi ≤ 400; omega, by show bs.length ≤ 6; rw [hbl]; exact qv.b6, fun b hb => ?_, qv.f20, fun f hf => ?_, qv.fls, qv.r0, qv.r6, qv.rt, qv.rts⟩
     · obtain ⟨j, hj, rfl⟩ := List.getElem_of_mem hb
       have hj2 : j < bs.length := hj
       have := (qmb j (by omega)).ok (qv.box (by omega))
       rwa [nth_get hj2] at this
     · show FilOk bs.length f
       rw [hbl]; exact qv.fl f hf
   have qmr : NarrowR c M := by
     rw [qM]
     refine ⟨rfl, rfl, hbl, ⟨hhnr.1, hhnr.2.2⟩, fun b hb => ?_⟩
     obtain ⟨h1, h2, h3, h4, h5⟩ := qmb b hb
     exact ⟨h1, ⟨h2.1, h2.2.2⟩, ⟨h3.1, h3.2.2⟩, ⟨h4.1, h4.2.2⟩, ⟨h5.1, h5.2.2⟩⟩
   have qlM : M.boxes.length = c.boxes.length := by rw [qM]; exact hbl
   have qml2 : LotOk M.boxes.length l := by rw [qlM]; exact ql
   obtain ⟨qc1, qc2⟩ := lotE_cong (m := c) qv ql hh9.1 hh9.2
   obtain ⟨qd1, qd2⟩ := lotE_cong (m := c) qmv qml2 hh9.1 hh9.2
   have qlo := qmr.lost qv qmv ql (h - l.born).toNat
   obtain ⟨v, qvv⟩ : ∃ v, freshV c l h = v := ⟨_, rfl⟩
   obtain ⟨w, qww⟩ : ∃ w, freshV M l h = w := ⟨_, rfl⟩
   have qvw : v ≠ 3 → w = v := fun k => by rw [← qvv, ← qww]; exact fresh_narrow qv qmv qmr ql qml2 hh9.1 hh9.2 (by rw [qvv]; exact k)
   have hM : (⟨⟨hn.lo, hn.hi⟩, bs, c.fils, c.rats⟩ : Cel) = M := qM.symm
   have hM2 : (⟨hn, bs, c.fils, c.rats⟩ : Cel) = M := qM.symm
   have hx1 := qc1
   have hx2 := qc2
   have hx3 := qd1
   have hx4 := qd2
   have hx5 : (lostS c l (h - l.born).toNat).lo ≤ (lostS M l (h - l.born).toNat).lo := qlo.1
   have hx6 : (lostS M l (h - l.born).toNat).hi ≤ (lostS c l (h - l.born).toNat).hi := qlo.2
   have hx7 := qvv
   have hx8 := qww
   replace F := F.add hie |>.add htk |>.add hM |>.add hM2 |>.add hx1 |>.add hx2 |>.add hx3 |>.add hx4 |>.add hx5 |>.add hx6 |>.add hx7 |>.add hx8
   refine W.seqR ?_
   refine oN 3 ?_
   refine oC [] ?_
   refine ct (Lost_ok ⟨⟨_, _⟩, _, _, _⟩ ⟨_, _, _⟩ _) ?_
   refine oN 6 ?_
   refine oK [4, 5, 6, 7, 8, 11, 12] ?_
   refine W.seqR ?_
   refine oN 3 ?_
   refine oC [] ?_
   refine ct (Lost_ok ⟨⟨_, _⟩, _, _, _⟩ ⟨_, _, _⟩ _) ?_
   refine oN 6 ?_
   refine oK [4, 5, 6, 7, 8, 11, 12, 13, 14] ?_
   refine W.seqR ?_
   refine oN 3 ?_
   refine oC [] ?_
   refine ct (Fresh_ok ⟨⟨_, _⟩, _, _, _⟩ ⟨_, _, _⟩ _) ?_
   refine oN 5 ?_
   refine oK [4, 5, 6, 7, 8, 11, 12, 13, 14, 15, 16] ?_
   refine W.seqR ?_
   refine oN 3 ?_
   refine oC [] ?_
   refine ct (Fresh_ok ⟨⟨_, _⟩, _, _, _⟩ ⟨_, _, _⟩ _) ?_
   refine oN 5 ?_
   refine oK [4, 6, 7, 8, 11, 12, 13, 14, 15, 16, 17, 18] ?_
   refine W.seqk fun K4 hK4 => ?_
   by_cases hv3 : (v == 3) = true
   ·
    replace F := F.add hv3
    have hv4 : v = 3 := by simpa using hv3
    replace F := F.add hv4
    refine W.seqR ?_
    refine oN 3 ?_
    refine gT ?_
    refine gT ?_
    refine oN 2 ?_
    refine gT ?_
    refine gT ?_
    refine oN 2 ?_
    refine gT ?_
    refine gT ?_
    refine oN 2 ?_
    refine gT ?_
    refine gT ?_
    refine gC [] ?_
    refine ct (Within_ok (lostS M l (h - l.born).toNat) (lostS c l (h - l.born).toNat)) ?_
    refine gT ?_
    refine oN 2 ?_
    refine gT ?_
    refine gT ?_
    refine gT ?_
    refine gF ?_
    refine gF ?_
    refine gF ?_
    refine gT ?_
    refine oN 1 ?_
    refine oK [4, 6, 7, 8, 147] ?_
    refine cF ?_
    refine W.skip ?_
    refine hK4 _ ?_
    clear hK4 K4
    refine W.seqk fun K5 hK5 => ?_
    refine rK [4, 6, 7, 8, 151] ?_
    refine it (fun hc3 => ?_) (fun hc3 => ?_)
    ·
     try simp at hc3
     replace F := F.add hc3
     refine W.seqR ?_
     refine oC [] ?_
     refine ct (awake_ok) ?_
     refine oN 1 ?_
     refine oK [2] ?_
     refine W.ret ?_
     refine tr ?_
     clear hK5 K5
     exact er0 false [] []
    ·
     try simp at hc3
     replace F := F.add hc3
     refine W.skip ?_
     refine hK5 _ ?_
     clear hK5 K5
     have hbl0 : 0 < c.boxes.length := by first | omega | exact List.length_pos_iff.2 (by assumption)
     obtain ⟨b, qbb⟩ : ∃ b : Nat, bq = (b : Int) := ⟨bq.toNat, by omega⟩
     have hbb := qbb
     have hbc : b < c.boxes.length := by have := qb1 hbl0; omega
     obtain ⟨t, qt⟩ : ∃ t : Nat, min h 239 = (t : Int) := ⟨(min h 239).toNat, by omega⟩
     have ht1 : (if 239 < h then 239 else h) = (t : Int) := by split <;> omega
     have ht2 : (if h < 239 then h else 239) = (t : Int) := by split <;> omega
     have ht3 : t ≤ 239 := by omega
     obtain ⟨qe1, qe2⟩ := atE_at qv (b := (b : Int)) (t := (t : Int)) (by omega) (by omega)
     obtain ⟨qf1, qf2⟩ := atE_at qmv (b := (b : Int)) (t := (t : Int)) (by rw [qlM]; omega) (by omega)
     have qin := qmr.ice hbc t
     have hy1 := qe1
     have hy2 : atS c b t = iceS c b t := qe2
     have hy3 := qf1
     have hy4 : atS M b t = iceS M b t := qf2
     have hy5 : (iceS c b t).lo ≤ (iceS M b t).lo := qin.1
     have hy6 : (iceS M b t).hi ≤ (iceS c b t).hi := qin.2
     obtain ⟨p, qp⟩ : ∃ p, coldV (iceS c b t) = p := ⟨_, rfl⟩
     obtain ⟨q, qq⟩ : ∃ q, coldV (iceS M b t) = q := ⟨_, rfl⟩
     have hy7 := qp
     have hy8 := qq
     have qpq : p ≠ 3 → q = p := fun k => by rw [← qp, ← qq]; exact cold_narrow qmv qmr hbc (by rw [qp]; exact k)
     replace F := F.add hbl0 |>.add hbb |>.add hbc |>.add ht1 |>.add ht2 |>.add ht3 |>.add hy1 |>.add hy2 |>.add hy3 |>.add hy4 |>.add hy5 |>.add hy6 |>.add hy7 |>.add hy8
     refine rK [4, 7, 8, 19] ?_
     refine W.seqR ?_
     refine oN 3 ?_
     refine oC [] ?_
     refine ct (Ice_ok ⟨⟨_, _⟩, _, _, _⟩ _ _) ?_
     refine oN 6 ?_
     refine oK [4, 7, 8, 12, 19, 20] ?_
     refine W.seqR ?_
     refine oN 3 ?_
     refine oC [] ?_
     refine ct (Ice_ok ⟨⟨_, _⟩, _, _, _⟩ _ _) ?_
     refine oN 6 ?_
     refine oK [4, 7, 8, 12, 14, 19, 20, 21] ?_
     refine W.seqR ?_
     refine oN 3 ?_
     refine oC [] ?_
     refine ct (Cold_ok ⟨⟨_, _⟩, _, _, _⟩ _ _) ?_
     refine oN 5 ?_
     refine oK [7, 8, 12, 14, 15, 16, 19, 20, 21] ?_
     refine W.seqR ?_
     refine oN 3 ?_
     refine oC [] ?_
     refine ct (Cold_ok ⟨⟨_, _⟩, _, _, _⟩ _ _) ?_
     refine oN 5 ?_
     refine oK [12, 14, 15, 16, 17, 18, 20, 21] ?_
     by_cases hp3 : (p == 3) = true
     ·
      replace F := F.add hp3
      have hp4 : p = 3 := by simpa using hp3
      replace F := F.add hp4
      refine W.seqR ?_
      refine oN 3 ?_
      refine gT ?_
      refine gT ?_
      refine oN 2 ?_
      refine gT ?_
      refine gT ?_
      refine oN 2 ?_
      refine gT ?_
      refine gT ?_
      refine oN 2 ?_
      refine gT ?_
      refine gT ?_
      refine gC [] ?_
      refine ct (Within_ok (iceS M b t) (iceS c b t)) ?_
      refine oN 2 ?_
      refine gT ?_
      refine gT ?_
      refine gT ?_
      refine gF ?_
      refine gF ?_
      refine gF ?_
      refine gT ?_
      refine oN 2 ?_
      refine gC [] ?_
      refine ct (awake_ok) ?_
      refine oN 2 ?_
      refine oK [2] ?_
      refine W.ret ?_
      exact er0 false [] []
     ·
      replace F := F.add hp3
      have hp4 : q = p := qpq (by simpa using hp3)
      replace F := F.add hp4
      refine W.seqR ?_
      refine oN 3 ?_
      refine gT ?_
      refine gT ?_
      refine oN 2 ?_
      refine gT ?_
      refine gT ?_
      refine oN 2 ?_
      refine gT ?_
      refine gT ?_
      refine oN 2 ?_
      refine gT ?_
      refine gT ?_
      refine gC [] ?_
      refine ct (Within_ok (iceS M b t) (iceS c b t)) ?_
      refine oN 2 ?_
      refine gT ?_
      refine gT ?_
      refine gT ?_
      refine gT ?_
      refine gT ?_
      refine gT ?_
      refine gT ?_
      refine oN 2 ?_
      refine gC [] ?_
      refine ct (awake_ok) ?_
      refine oN 2 ?_
      refine oK [2] ?_
      refine W.ret ?_
      exact er0 false [] []
   ·
    replace F := F.add hv3
    have hv4 : w = v := qvw (by simpa using hv3)
    replace F := F.add hv4
    refine W.seqR ?_
    refine oN 3 ?_
    refine gT ?_
    refine gT ?_
    refine oN 2 ?_
    refine gT ?_
    refine gT ?_
    refine oN 2 ?_
    refine gT ?_
    refine gT ?_
    refine oN 2 ?_
    refine gT ?_
    refine gT ?_
    refine gC [] ?_
    refine ct (Within_ok (lostS M l (h - l.born).toNat) (lostS c l (h - l.born).toNat)) ?_
    refine gT ?_
    refine oN 2 ?_
    refine gT ?_
    refine gT ?_
    refine gT ?_
    refine gX ?_
    refine gX ?_
    refine gX ?_
    refine gT ?_
    refine oN 1 ?_
    refine oK [4, 6, 7, 8, 147] ?_
    refine cF ?_
    refine W.skip ?_
    refine hK4 _ ?_
    clear hK4 K4
    refine W.seqk fun K6 hK6 => ?_
    refine rK [4, 6, 7, 8, 151] ?_
    refine it (fun hc5 => ?_) (fun hc5 => ?_)
    ·
     try simp at hc5
     replace F := F.add hc5
     refine W.seqR ?_
     refine oC [] ?_
     refine ct (awake_ok) ?_
     refine oN 1 ?_
     refine oK [2] ?_
     refine W.ret ?_
     refine tr ?_
     clear hK6 K6
     exact er0 false [] []
    ·
     try simp at hc5
     replace F := F.add hc5
     refine W.skip ?_
     refine hK6 _ ?_
     clear hK6 K6
     have hbl0 : 0 < c.boxes.length := by first | omega | exact List.length_pos_iff.2 (by assumption)
     obtain ⟨b, qbb⟩ : ∃ b : Nat, bq = (b : Int) := ⟨bq.toNat, by omega⟩
     have hbb := qbb
     have hbc : b < c.boxes.length := by have := qb1 hbl0; omega
     obtain ⟨t, qt⟩ : ∃ t : Nat, min h 239 = (t : Int) := ⟨(min h 239).toNat, by omega⟩
     have ht1 : (if 239 < h then 239 else h) = (t : Int) := by split <;> omega
     have ht2 : (if h < 239 then h else 239) = (t : Int) := by split <;> omega
     have ht3 : t ≤ 239 := by omega
     obtain ⟨qe1, qe2⟩ := atE_at qv (b := (b : Int)) (t := (t : Int)) (by omega) (by omega)
     obtain ⟨qf1, qf2⟩ := atE_at qmv (b := (b : Int)) (t := (t : Int)) (by rw [qlM]; omega) (by omega)
     have qin := qmr.ice hbc t
     have hy1 := qe1
     have hy2 : atS c b t = iceS c b t := qe2
     have hy3 := qf1
     have hy4 : atS M b t = iceS M b t := qf2
     have hy5 : (iceS c b t).lo ≤ (iceS M b t).lo := qin.1
     have hy6 : (iceS M b t).hi ≤ (iceS c b t).hi := qin.2
     obtain ⟨p, qp⟩ : ∃ p, coldV (iceS c b t) = p := ⟨_, rfl⟩
     obtain ⟨q, qq⟩ : ∃ q, coldV (iceS M b t) = q := ⟨_, rfl⟩
     have hy7 := qp
     have hy8 := qq
     have qpq : p ≠ 3 → q = p := fun k => by rw [← qp, ← qq]; exact cold_narrow qmv qmr hbc (by rw [qp]; exact k)
     replace F := F.add hbl0 |>.add hbb |>.add hbc |>.add ht1 |>.add ht2 |>.add ht3 |>.add hy1 |>.add hy2 |>.add hy3 |>.add hy4 |>.add hy5 |>.add hy6 |>.add hy7 |>.add hy8
     refine rK [4, 7, 8, 19] ?_
     refine W.seqR ?_
     refine oN 3 ?_
     refine oC [] ?_
     refine ct (Ice_ok ⟨⟨_, _⟩, _, _, _⟩ _ _) ?_
     refine oN 6 ?_
     refine oK [4, 7, 8, 12, 19, 20] ?_
     refine W.seqR ?_
     refine oN 3 ?_
     refine oC [] ?_
     refine ct (Ice_ok ⟨⟨_, _⟩, _, _, _⟩ _ _) ?_
     refine oN 6 ?_
     refine oK [4, 7, 8, 12, 14, 19, 20, 21] ?_
     refine W.seqR ?_
     refine oN 3 ?_
     refine oC [] ?_
     refine ct (Cold_ok ⟨⟨_, _⟩, _, _, _⟩ _ _) ?_
     refine oN 5 ?_
     refine oK [7, 8, 12, 14, 15, 16, 19, 20, 21] ?_
     refine W.seqR ?_
     refine oN 3 ?_
     refine oC [] ?_
     refine ct (Cold_ok ⟨⟨_, _⟩, _, _, _⟩ _ _) ?_
     refine oN 5 ?_
     refine oK [12, 14, 15, 16, 17, 18, 20, 21] ?_
     by_cases hp3 : (p == 3) = true
     ·
      replace F := F.add hp3
      have hp4 : p = 3 := by simpa using hp3
      replace F := F.add hp4
      refine W.seqR ?_
      refine oN 3 ?_
      refine gT ?_
      refine gT ?_
      refine oN 2 ?_
      refine gT ?_
      refine gT ?_
      refine oN 2 ?_
      refine gT ?_
      refine gT ?_
      refine oN 2 ?_
      refine gT ?_
      refine gT ?_
      refine gC [] ?_
      refine ct (Within_ok (iceS M b t) (iceS c b t)) ?_
      refine oN 2 ?_
      refine gT ?_
      refine gT ?_
      refine gT ?_
      refine gF ?_
      refine gF ?_
      refine gF ?_
      refine gT ?_
      refine oN 2 ?_
      refine gC [] ?_
      refine ct (awake_ok) ?_
      refine oN 2 ?_
      refine oK [2] ?_
      refine W.ret ?_
      exact er0 false [] []
     ·
      replace F := F.add hp3
      have hp4 : q = p := qpq (by simpa using hp3)
      replace F := F.add hp4
      refine W.seqR ?_
      refine oN 3 ?_
      refine gT ?_
      refine gT ?_
      refine oN 2 ?_
      refine gT ?_
      refine gT ?_
      refine oN 2 ?_
      refine gT ?_
      refine gT ?_
      refine oN 2 ?_
      refine gT ?_
      refine gT ?_
      refine gC [] ?_
      refine ct (Within_ok (iceS M b t) (iceS c b t)) ?_
      refine oN 2 ?_
      refine gT ?_
      refine gT ?_
      refine gT ?_
      refine gT ?_
      refine gT ?_
      refine gT ?_
      refine gT ?_
      refine oN 2 ?_
      refine gC [] ?_
      refine ct (awake_ok) ?_
      refine oN 2 ?_
      refine oK [2] ?_
      refine W.ret ?_
      exact er0 false [] []
end Go.Sim
