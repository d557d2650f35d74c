/- The fewest scoops of ice: the law answers true. -/
import Derived.Test.YtfenmmjeppehaaaLp
import Derived.Test.YtfenmmjeppehaaaLi
import Derived.Test.YtfenmmjeppehaaaLr
import Derived.Test.YtfenmmjeppehaaaLs
import Derived.Test.YtfenmmjeppehaaaLo
namespace Go.Sim
open Go.Proofs
set_option maxRecDepth 100000
set_option linter.unusedSimpArgs false
set_option linter.unusedVariables false
attribute [-simp] List.map_set List.map_take List.map_drop
attribute [local simp high] optV_ren optV_kill optV_kill1 optV_men optV_data optV_named
attribute [-simp] St.snap
attribute [local simp] optV_snap snap_agg snap_val snap_imm snap_own snap_ptr
set_option maxHeartbeats 4000000 in
theorem ColdFills_ok (c0 : Cel) (box : Int) (vs0 : List Int) (gr un : Int) (nums : List Int) : ACalls Try.prog 3 [celV c0, I box, ints vs0, I gr, I un, ints nums] [] (fun r o => r = B true ∧ o = []) := by
 have F := Fx.nil
 refine ent Try.func3 Try.ntmps3 Try.results3 ?_
 refine rK [1, 2, 3, 4, 5, 6] ?_
 refine W.seqk fun K1 hK1 => ?_
 by_cases hwd : wideB c0 [] = true
 ·
  replace F := F.add hwd
  refine W.seqR ?_
  refine oN 1 ?_
  refine oC [] ?_
  refine ct (wide_det c0 []) ?_
  refine oN 1 ?_
  refine gF ?_
  refine gF ?_
  refine gF ?_
  refine gF ?_
  refine gF ?_
  refine gF ?_
  refine gF ?_
  refine gF ?_
  refine oN 2 ?_
  refine gF ?_
  refine gF ?_
  refine gF ?_
  refine oN 1 ?_
  refine oK [1, 2, 3, 4, 5, 6, 44] ?_
  refine cT ?_
  refine W.seqR ?_
  refine oC [] ?_
  refine ct (awake_ok) ?_
  refine oN 1 ?_
  refine oK [12] ?_
  refine W.ret ?_
  refine tr ?_
  clear hK1 K1
  exact er0 false [] []
 ·
  replace F := F.add hwd
  by_cases hl2 : (2 : Int) < vs0.length
  ·
   replace F := F.add hl2
   by_cases hl6 : (vs0.length : Int) ≤ 6
   ·
    replace F := F.add hl6
    refine W.seqR ?_
    refine oN 1 ?_
    refine oC [] ?_
    refine ct (wide_det c0 []) ?_
    refine oN 1 ?_
    refine gT ?_
    refine gT ?_
    refine gT ?_
    refine gT ?_
    refine gT ?_
    refine gT ?_
    refine gT ?_
    refine gT ?_
    refine oN 2 ?_
    refine gF ?_
    refine gF ?_
    refine gF ?_
    refine oN 1 ?_
    refine oK [1, 2, 3, 4, 5, 6, 44] ?_
    refine cT ?_
    refine W.seqR ?_
    refine oC [] ?_
    refine ct (awake_ok) ?_
    refine oN 1 ?_
    refine oK [12] ?_
    refine W.ret ?_
    refine tr ?_
    clear hK1 K1
    exact er0 false [] []
   ·
    replace F := F.add hl6
    refine W.seqR ?_
    refine oN 1 ?_
    refine oC [] ?_
    refine ct (wide_det c0 []) ?_
    refine oN 1 ?_
    refine gT ?_
    refine gT ?_
    refine gT ?_
    refine gT ?_
    refine gT ?_
    refine gT ?_
    refine gT ?_
    refine gT ?_
    refine oN 2 ?_
    refine gT ?_
    refine gT ?_
    refine gT ?_
    refine oN 1 ?_
    refine oK [1, 2, 3, 4, 5, 6, 44] ?_
    refine it (fun hc3 => ?_) (fun hc3 => ?_)
    ·
     try simp at hc3
     replace F := F.add hc3
     refine W.seqR ?_
     refine oC [] ?_
     refine ct (awake_ok) ?_
     refine oN 1 ?_
     refine oK [12] ?_
     refine W.ret ?_
     refine tr ?_
     clear hK1 K1
     exact er0 false [] []
    ·
     try simp at hc3
     replace F := F.add hc3
     refine W.skip ?_
     refine hK1 _ ?_
     clear hK1 K1
     have qsc0 : SmallC c0 := by
       obtain ⟨_, ⟨q2, q3, q4⟩, _⟩ := wideB_f hwd
       exact ⟨q2, q3, q4⟩
     have qsv0 : vs0.length ≤ 12 := by omega
     refine W.seqR ?_
     refine oN 1 ?_
     refine oC [] ?_
     refine ct (DieOf_ok _) ?_
     refine oN 1 ?_
     refine oK [1, 2, 3, 4, 6, 13] ?_
     refine W.seqR ?_
     refine oN 1 ?_
     refine oC [(10000, 376)] ?_
     refine CallT.mkE (CellarOf_ok _ 2 3 (by omega) (by omega)) (fun z49 hz49 => ⟨(by simp [hwd, hl2, hl6, hc3]), ?_⟩)
     obtain ⟨c, g1⟩ := z49
     have qmc : MadeC c 2 3 := hz49
     have qv := qmc.ok
     have hb6 : c.boxes.length ≤ 1000 := by have := qmc.bx; omega
     replace F := F.add hb6
     refine WOps.norm (by simp [hwd, hl2, hl6, hc3, hb6]; rfl) ?_
     refine oN 2 ?_
     refine oK [1, 2, 3, 4, 6, 13, 14] ?_
     refine W.seqR ?_
     refine oN 1 ?_
     refine oC [(10000, 376)] ?_
     refine CallT.mkE (visitsOf_ok g1 3 (by omega) (by omega)) (fun z51 hz51 => ⟨(by simp [hwd, hl2, hl6, hc3, hb6]), ?_⟩)
     obtain ⟨vs, g2⟩ := z51
     have qmv : MadeV vs 3 := hz51
     have qvl := qmv.len
     refine WOps.norm (by simp [hwd, hl2, hl6, hc3, hb6]; rfl) ?_
     refine oN 1 ?_
     refine oK [1, 2, 3, 4, 6, 13, 14, 15] ?_
     obtain ⟨b, qb⟩ : ∃ b, castV g2 c.boxes.length = b := ⟨_, rfl⟩
     obtain ⟨g3, qg3⟩ : ∃ g, castF g2 c.boxes.length = g := ⟨_, rfl⟩
     have hb := qb
     have hg3 := qg3
     obtain ⟨y, qy⟩ : ∃ y, oneV g3 [20, 200] = y := ⟨_, rfl⟩
     obtain ⟨g4, qg4⟩ : ∃ g, oneF g3 [20, 200] = g := ⟨_, rfl⟩
     have hy := qy
     have hg4 := qg4
     have qyo := oneV_mem g3 [20, 200] (by simp)
     rw [qy] at qyo
     simp only [List.mem_cons, List.not_mem_nil, or_false] at qyo
     obtain ⟨m, qm⟩ : ∃ m, fromV g4 1 y = m := ⟨_, rfl⟩
     obtain ⟨g5, qg5⟩ : ∃ g, fromF g4 1 y = g := ⟨_, rfl⟩
     have hm9 := qm
     have hg5 := qg5
     obtain ⟨u, qu⟩ : ∃ u, fromV g5 1 15 = u := ⟨_, rfl⟩
     obtain ⟨g6, qg6⟩ : ∃ g, fromF g5 1 15 = g := ⟨_, rfl⟩
     have hu := qu
     have hg6 := qg6
     replace F := F.add hb |>.add hg3 |>.add hy |>.add hg4 |>.add hm9 |>.add hg5 |>.add hu |>.add hg6
     refine wD 33 [(9, [376]), (20, [376]), (21, [376]), (26, [376])] [[], [], [], [2, 1, 0], [], [], [], [6], [6, 7], [7, 6, 8, 5], [], [10, 5, 8, 6, 7, 9, 4], [], [], [], [14, 13, 12], [], [], [], [], [5, 8, 6, 7, 9, 19, 18], [18, 19, 9, 7, 6, 8, 5, 20, 17], [], [22, 17, 20, 5, 8, 6, 7, 9, 19, 18, 21, 16], [], [], [17, 20, 5, 8, 6, 7, 9, 19, 18, 21, 25], [], [27, 25, 21, 18, 19, 9, 7, 6, 8, 5, 20, 17, 26, 24], [25, 21, 18, 19, 9, 7, 6, 8, 5, 20, 17, 26, 0, 1, 2, 3], [3, 2, 1, 0, 26, 17, 20, 19, 18, 21, 25, 29, 4, 9, 7, 6, 8, 5, 10, 11], [11, 10, 5, 8, 6, 7, 9, 4, 29, 25, 21, 18, 19, 20, 17, 26, 0, 1, 2, 3, 30, 12, 13, 14, 15], [15, 14, 13, 12, 30, 3, 2, 1, 0, 26, 25, 29, 4, 10, 11, 31, 16, 21, 18, 19, 9, 7, 6, 8, 5, 20, 17, 22, 23], [23, 22, 16, 31, 11, 10, 4, 29, 0, 1, 2, 3, 30, 12, 13, 14, 15, 32, 24, 26, 17, 20, 5, 8, 6, 7, 9, 19, 18, 21, 25, 27, 28]] ?_
     refine dB [([53, 54, 56, 57, 58, 59, 60, 61, 62, 63, 64, 65, 66, 67, 68, 69, 70, 71, 72, 73, 74, 75, 76, 77, 78, 79, 80], [], [376, 376, 376, 376]), ([52, 54, 56, 57, 58, 59, 60, 61, 62, 63, 64, 65, 66, 67, 68, 69, 70, 71, 72, 73, 74, 75, 76, 77, 78, 79, 80], [false], [376, 376, 376, 376]), ([52, 53, 56, 57, 58, 59, 60, 61, 62, 63, 64, 65, 66, 67, 68, 69, 70, 71, 72, 73, 74, 75, 76, 77, 78, 79, 80], [false, false], [376, 376, 376, 376]), ([56, 57, 58, 59, 60, 61, 62, 63, 64, 65, 66, 67, 68, 69, 70, 71, 72, 73, 74, 75, 76, 77, 78, 79, 80], [true, true, true], [376, 376, 376, 376]), ([52, 53, 54, 55, 57, 58, 59, 60, 61, 62, 64, 65, 66, 67, 68, 69, 70, 71, 72, 73, 74, 75, 76, 77, 78, 79, 80, 16], [false, false, false, false], [376, 376, 376, 376]), ([52, 53, 54, 55, 56, 58, 59, 60, 62, 64, 65, 66, 67, 68, 69, 70, 71, 74, 76, 77, 79], [false, false, false, false, false], []), ([52, 53, 54, 55, 56, 57, 62, 64, 65, 66, 67, 68, 69, 70, 71, 74, 76, 77, 79], [false, false, false, false, false, false], []), ([52, 53, 54, 55, 56, 57, 62, 64, 65, 66, 67, 68, 69, 70, 71, 74, 76, 77, 79], [false, false, false, false, false, false, true], []), ([52, 53, 54, 55, 56, 57, 62, 64, 65, 66, 67, 68, 69, 70, 71, 74, 76, 77, 79], [false, false, false, false, false, false, true, true], [])] 24 9 ?_
     refine dC [52, 53, 54, 55, 56, 62, 64, 65, 66, 67, 68, 69, 70, 71, 74, 76, 77, 79] [false, false, false, false, false, true, true, true, true] [] [(10000, 376)] ?_
     refine cd (Cast_ok g2 c.boxes.length (by omega)) ?_
     refine dB [([52, 53, 54, 55, 56, 57, 58, 59, 60, 61, 64, 65, 66, 67, 68, 69, 70, 71, 72, 73, 74, 75, 76, 77, 78, 79, 80, 16], [false, false, false, false, false, false, false, false, false, false], [376, 376, 376, 376]), ([52, 53, 54, 55, 64, 65, 66, 67, 68, 69, 70, 71, 72, 73, 74, 75, 76, 77, 78, 79, 80, 16], [false, false, false, false, true, true, true, true, true, true, true], [376, 376, 376]), ([52, 53, 54, 55, 56, 57, 58, 59, 60, 61, 62, 63, 65, 66, 68, 69, 70, 71, 72, 73, 74, 75, 76, 77, 78, 79, 80, 16, 17], [false, false, false, false, false, false, false, false, false, false, false, false], [376, 376, 376, 376]), ([52, 53, 54, 55, 56, 57, 58, 59, 60, 61, 62, 63, 64, 66, 68, 69, 70, 71, 72, 73, 74, 75, 76, 77, 78, 79, 80, 16, 17], [false, false, false, false, false, false, false, false, false, false, false, false, false], [376, 376, 376, 376]), ([52, 53, 54, 55, 56, 57, 58, 59, 60, 61, 62, 63, 64, 65, 68, 69, 70, 71, 72, 73, 74, 75, 76, 77, 78, 79, 80, 16, 17], [false, false, false, false, false, false, false, false, false, false, false, false, false, false], [376, 376, 376, 376]), ([52, 53, 54, 55, 56, 57, 58, 59, 60, 61, 62, 63, 68, 69, 70, 71, 72, 73, 74, 75, 76, 77, 78, 79, 80, 16, 17], [false, false, false, false, false, false, false, false, false, false, false, false, true, true, true], [376, 376, 376, 376]), ([52, 53, 54, 55, 56, 57, 58, 59, 60, 61, 62, 63, 64, 65, 66, 67, 69, 70, 71, 72, 73, 74, 76, 77, 78, 79, 80, 16, 17, 18], [false, false, false, false, false, false, false, false, false, false, false, false, false, false, false, false], [376, 376, 376, 376]), ([52, 53, 54, 55, 56, 57, 58, 59, 60, 61, 62, 63, 64, 65, 66, 67, 68, 70, 71, 72, 74, 76, 77, 79], [false, false, false, false, false, false, false, false, false, false, false, false, false, false, false, false, false], [376, 376]), ([52, 53, 54, 55, 56, 57, 58, 59, 60, 61, 62, 63, 64, 65, 66, 67, 68, 69, 71, 74, 76, 77, 79], [false, false, false, false, false, false, false, false, false, false, false, false, false, false, false, false, false, false], [376]), ([52, 53, 54, 55, 56, 57, 58, 59, 60, 61, 62, 63, 64, 65, 66, 67, 68, 69, 70, 74, 76, 77, 79], [false, false, false, false, false, false, false, false, false, false, false, false, false, false, false, false, false, false, false], [376])] 13 20 ?_
     refine dC [52, 53, 54, 55, 56, 62, 63, 64, 65, 66, 67, 68, 69, 74, 76, 77, 79] [false, false, false, false, false, true, true, true, true, true, false, false, false, false, false, false, false, false, true, true] [] [(10000, 376)] ?_
     refine cd (One_ok g3 [20, 200] (by simp)) ?_
     refine dC [52, 53, 54, 55, 56, 62, 63, 64, 65, 66, 67, 68, 74, 76, 77, 79] [false, false, false, false, false, true, true, true, true, true, false, false, false, false, false, false, false, true, true, true, true] [] [(10000, 376)] ?_
     refine cd (From_ok g4 1 y (by omega) (by omega) (by omega) (by omega)) ?_
     refine dB [([52, 53, 54, 55, 56, 57, 58, 59, 60, 61, 62, 63, 64, 65, 66, 67, 68, 69, 70, 71, 72, 73, 76, 77, 78, 79, 80, 16, 17, 18], [false, false, false, false, false, false, false, false, false, false, false, false, false, false, false, false, false, false, false, false, false, false], [376, 376, 376, 376]), ([52, 53, 54, 55, 56, 62, 63, 64, 65, 66, 67, 76, 77, 78, 79, 80, 16, 17, 18], [false, false, false, false, false, true, true, true, true, true, false, false, false, false, false, false, true, true, true, true, true, true, true], [376]), ([52, 53, 54, 55, 56, 57, 58, 59, 60, 61, 62, 63, 64, 65, 66, 67, 68, 69, 70, 71, 72, 73, 74, 75, 77, 78, 79, 16, 17, 18, 19], [false, false, false, false, false, false, false, false, false, false, false, false, false, false, false, false, false, false, false, false, false, false, false, false], [376, 376, 376, 376]), ([52, 53, 54, 55, 56, 57, 58, 59, 60, 61, 62, 63, 64, 65, 66, 67, 68, 69, 70, 71, 72, 73, 74, 75, 76, 79], [false, false, false, false, false, false, false, false, false, false, false, false, false, false, false, false, false, false, false, false, false, false, false, false, false], [376, 376, 376])] 7 26 ?_
     refine dC [52, 53, 54, 55, 56, 62, 63, 64, 65, 66, 67, 68, 74, 75, 76, 79] [false, false, false, false, false, true, true, true, true, true, false, false, false, false, false, false, false, true, true, true, true, true, false, false, false, true] [] [(10000, 376)] ?_
     refine cd (From_ok g5 1 15 (by omega) (by omega) (by omega) (by omega)) ?_
     refine dB [([52, 53, 54, 55, 56, 57, 58, 59, 60, 61, 62, 63, 64, 65, 66, 67, 68, 69, 70, 71, 72, 73, 74, 75, 76, 77, 78, 16, 17, 18, 19], [false, false, false, false, false, false, false, false, false, false, false, false, false, false, false, false, false, false, false, false, false, false, false, false, false, false, false], [376, 376, 376, 376]), ([52, 53, 54, 55, 56, 62, 63, 64, 65, 66, 67, 68, 74, 75, 16, 17, 18, 19], [false, false, false, false, false, true, true, true, true, true, false, false, false, false, false, false, false, true, true, true, true, true, false, false, true, true, true, true], []), ([56, 62, 63, 64, 65, 66, 67, 68, 74, 75, 76, 79, 80], [true, true, true, true, false, true, true, true, true, true, false, false, false, false, false, false, false, true, true, true, true, true, false, false, false, true, true, false, false], []), ([64, 65, 66, 67, 68, 74, 75, 76, 79, 80], [true, true, true, true, true, true, true, true, true, true, true, true, false, false, false, false, false, true, true, true, true, true, false, false, false, true, true, false, false, true], []), ([68, 74, 75, 76, 79, 80], [true, true, true, true, true, true, true, true, true, true, true, true, true, true, true, true, false, true, true, true, true, true, false, false, false, true, true, false, false, true, true], []), ([76, 79, 80], [true, true, true, true, true, true, true, true, true, true, true, true, true, true, true, true, true, true, true, true, true, true, true, true, false, true, true, false, false, true, true, true], [])] 0 33 ?_
     refine dD ?_
     refine oN 1 ?_
     refine oK [16, 17, 18, 19, 20] ?_
     refine W.seqk fun K2 hK2 => ?_
     obtain ⟨CS, qCS⟩ : ∃ CS, CS = [c0, c, c] := ⟨_, rfl⟩
     have hCS : [celV c0, celV c, celV c] = CS.map celV := by rw [qCS]; rfl
     obtain ⟨BS, qBS⟩ : ∃ BS, BS = [box, b, box] := ⟨_, rfl⟩
     have hBS : [I box, I b, I box] = BS.map I := by rw [qBS]; rfl
     obtain ⟨VS, qVS⟩ : ∃ VS, VS = [vs0, vs, vs] := ⟨_, rfl⟩
     have hVS : [ints vs0, ints vs, ints vs] = VS.map ints := by rw [qVS]; rfl
     obtain ⟨WS, qWS⟩ : ∃ WS, WS = [gr, m, gr] := ⟨_, rfl⟩
     have hWS : [I gr, I m, I gr] = WS.map I := by rw [qWS]; rfl
     obtain ⟨US, qUS⟩ : ∃ US, US = [un, u, un] := ⟨_, rfl⟩
     have hUS : [I un, I u, I un] = US.map I := by rw [qUS]; rfl
     have hCSl : CS.length = 3 := by rw [qCS]; rfl
     have hBSl : BS.length = 3 := by rw [qBS]; rfl
     have hVSl : VS.length = 3 := by rw [qVS]; rfl
     have hWSl : WS.length = 3 := by rw [qWS]; rfl
     have hUSl : US.length = 3 := by rw [qUS]; rfl
     have qcs : ∀ x ∈ CS, SmallC x := fun x hx => by
       rw [qCS] at hx
       simp only [List.mem_cons, List.not_mem_nil, or_false] at hx
       rcases hx with rfl | rfl | rfl
       · exact qsc0
       · exact qmc.small
       · exact qmc.small
     have qvs : ∀ x ∈ VS, x.length ≤ 12 := fun x hx => by
       rw [qVS] at hx
       simp only [List.mem_cons, List.not_mem_nil, or_false] at hx
       rcases hx with rfl | rfl | rfl
       · exact qsv0
       · omega
       · omega
     replace F := F.add hCS |>.add hBS |>.add hVS |>.add hWS |>.add hUS |>.add hCSl |>.add hBSl |>.add hVSl |>.add hWSl |>.add hUSl
     refine rK [16, 17, 18, 19, 20, 21] ?_
     refine W.block ?_
     refine lpa (α := Nat) [16, 17, 18, 19, 20] [22, 83, 91, 96, 112, 136, 145, 154, 163] [376] (fun i => [(21, I i)]) (fun i => [(376, die g6)]) (fun i => i ≤ 3) (fun i => 3 - i) 0 v0 ?_
     ·
      intro i hI0
      simp only [List.cons_append, List.nil_append]
      try dsimp only at hI0
      replace F := F.add hI0
      refine W.seqk fun K3 hK3 => ?_
      refine rK [16, 17, 18, 19, 20, 21, 84] ?_
      refine it (fun hc4 => ?_) (fun hc4 => ?_)
      ·
       try simp at hc4
       replace F := F.add hc4
       refine W.skip ?_
       refine hK3 _ ?_
       clear hK3 K3
       refine W.seqk fun K4 hK4 => ?_
       refine W.block ?_
       have hi3 : i < 3 := by omega
       have hiC : i < CS.length := by omega
       have hiB : i < BS.length := by omega
       have hiV : i < VS.length := by omega
       have hiW : i < WS.length := by omega
       have hiU : i < US.length := by omega
       have qsi := qcs _ (List.getElem_mem hiC)
       have qvi := qvs _ (List.getElem_mem hiV)
       obtain ⟨C, qC⟩ : ∃ C, C = CS[i] := ⟨_, rfl⟩
       have hC := qC.symm
       have qsC : SmallC C := by rw [qC]; exact qsi
       have q1 := qsC.bx
       have q2 := qsC.fl
       have q3 := qsC.rt
       obtain ⟨V, qV⟩ : ∃ V, V = VS[i] := ⟨_, rfl⟩
       have hV := qV.symm
       have qsV : V.length ≤ 12 := by rw [qV]; exact qvi
       obtain ⟨s, qs⟩ : ∃ s, s = BS[i] := ⟨_, rfl⟩
       have hs := qs.symm
       obtain ⟨t, qt⟩ : ∃ t, t = WS[i] := ⟨_, rfl⟩
       have ht := qt.symm
       obtain ⟨w, qw2⟩ : ∃ w, w = US[i] := ⟨_, rfl⟩
       have hw := qw2.symm
       obtain ⟨X, qX⟩ : ∃ X, fillX C s V t w = X := ⟨_, rfl⟩
       have hX := qX
       replace F := F.add hi3 |>.add hiC |>.add hiB |>.add hiV |>.add hiW |>.add hiU |>.add hC |>.add hV |>.add hs |>.add ht |>.add hw |>.add hX
       refine wD 11 [] [[], [], [1, 0], [0, 1, 2], [2, 1, 0, 3], [], [], [6, 5], [5, 6, 7], [3, 0, 1, 2, 4, 7, 6, 5, 8], [], [8, 5, 6, 7, 9, 3, 0, 1, 2, 4, 10], [10, 11, 8, 5, 6, 7, 4, 2, 1, 0, 3, 9]] ?_
       refine dB [([88, 92, 93, 94, 95, 22], [], []), ([87, 92, 93, 94, 95, 22], [false], []), ([92, 93, 94, 95, 22], [true, true], []), ([92, 93, 94, 95, 22], [true, true, true], [])] 7 4 ?_
       refine dC [92, 93, 94, 95, 22] [true, true, true, true] [] [] ?_
       refine cd (CopyCellar_imm C (by omega) (by omega) (by omega)) ?_
       refine dB [([87, 88, 89, 90, 91, 93, 22], [false, false, false, false, false], []), ([87, 88, 89, 90, 91, 92, 22], [false, false, false, false, false, false], []), ([87, 88, 89, 90, 91, 22], [false, false, false, false, false, true, true], []), ([87, 88, 89, 90, 91, 22], [false, false, false, false, false, true, true, true], [])] 2 9 ?_
       refine dC [22] [true, true, true, true, true, true, true, true, true] [] [] ?_
       refine cd (CopyInts_imm V (by omega)) ?_
       refine dB [([87, 88, 89, 90, 91, 92, 93, 94, 95, 96], [false, false, false, false, false, false, false, false, false, false], [])] 0 11 ?_
       refine dD ?_
       refine oN 1 ?_
       refine oN 1 ?_
       refine oK [16, 17, 18, 19, 20, 21, 22, 23] ?_
       refine wD 19 [] [[], [], [], [2, 1], [1, 2, 3], [], [], [], [7, 6], [6, 7, 8], [], [], [11, 10], [10, 11, 12], [12, 11, 10, 13, 8, 7, 6, 9, 5, 3, 2, 1, 4, 0], [0, 4, 1, 2, 3, 5, 9, 6, 7, 8, 13, 10, 11, 12, 14], [14, 12, 11, 10, 13, 8, 7, 6, 9, 5, 3, 2, 1, 4, 0, 15], [14, 12, 11, 10, 13, 8, 7, 6, 9, 5, 3, 2, 1, 4, 0, 15], [15, 0, 4, 1, 2, 3, 5, 9, 6, 7, 8, 13, 10, 11, 12, 14, 16], [16, 18, 15, 0, 4, 1, 2, 3, 5, 9, 6, 7, 8, 13, 10, 11, 12, 14, 17]] ?_
       refine dB [([99, 100, 101, 102, 103, 104, 105, 106, 107, 108, 109, 110, 111], [], []), ([98, 100, 103, 104, 105, 106, 107, 108, 109, 110, 111], [false], []), ([98, 99, 103, 104, 105, 106, 107, 108, 109, 110, 111], [false, false], []), ([98, 103, 104, 105, 106, 107, 108, 109, 110, 111], [false, true, true], []), ([98, 103, 104, 105, 106, 107, 108, 109, 110, 111], [false, true, true, true], []), ([98, 99, 100, 101, 102, 104, 105, 106, 107, 108, 109, 110, 111], [false, false, false, false, false], []), ([98, 99, 100, 101, 102, 103, 105, 108, 109, 110, 111], [false, false, false, false, false, false], []), ([98, 99, 100, 101, 102, 103, 104, 108, 109, 110, 111], [false, false, false, false, false, false, false], []), ([98, 99, 100, 101, 102, 103, 108, 109, 110, 111], [false, false, false, false, false, false, true, true], []), ([98, 99, 100, 101, 102, 103, 108, 109, 110, 111], [false, false, false, false, false, false, true, true, true], []), ([98, 99, 100, 101, 102, 103, 104, 105, 106, 107, 109], [false, false, false, false, false, false, false, false, false, false], []), ([98, 99, 100, 101, 102, 103, 104, 105, 106, 107, 108], [false, false, false, false, false, false, false, false, false, false, false], []), ([98, 99, 100, 101, 102, 103, 104, 105, 106, 107], [false, false, false, false, false, false, false, false, false, false, true, true], []), ([98, 99, 100, 101, 102, 103, 104, 105, 106, 107], [false, false, false, false, false, false, false, false, false, false, true, true, true], [])] 5 14 ?_
       refine dC [] [true, true, true, true, true, true, true, true, true, true, true, true, true, true] [] [] ?_
       refine cd (Fill_ok C s V t w) ?_
       refine dB [([], [true, true, true, true, true, true, true, true, true, true, true, true, true, true, true], []), ([114], [true, true, true, true, true, true, true, true, true, true, true, true, true, true, true, true], []), ([113, 24], [true, true, true, true, true, true, true, true, true, true, true, true, true, true, true, true, false], []), ([114], [true, true, true, true, true, true, true, true, true, true, true, true, true, true, true, true, true, false], [])] 0 19 ?_
       refine dD ?_
       refine oN 1 ?_
       refine oK [16, 17, 18, 19, 20, 21, 22, 23, 24, 25] ?_
       refine wD 25 [] [[], [], [1, 0], [0, 1, 2], [], [], [5, 4], [4, 5, 6], [], [], [9, 8], [8, 9, 10], [], [], [13, 12], [12, 13, 14], [], [], [17, 16], [16, 17, 18], [18, 17, 16, 19, 14, 13, 12, 15, 10, 9, 8, 11, 6, 5, 4, 7, 2, 1, 0, 3], [3, 0, 1, 2, 7, 4, 5, 6, 11, 8, 9, 10, 15, 12, 13, 14, 19, 16, 17, 18, 20], [20, 18, 17, 16, 19, 14, 13, 12, 15, 10, 9, 8, 11, 6, 5, 4, 7, 2, 1, 0, 3, 21], [20, 18, 17, 16, 19, 14, 13, 12, 15, 10, 9, 8, 11, 6, 5, 4, 7, 2, 1, 0, 3, 21], [21, 3, 0, 1, 2, 7, 4, 5, 6, 11, 8, 9, 10, 15, 12, 13, 14, 19, 16, 17, 18, 20, 22], [22, 24, 21, 3, 0, 1, 2, 7, 4, 5, 6, 11, 8, 9, 10, 15, 12, 13, 14, 19, 16, 17, 18, 20, 23]] ?_
       refine dB [([117, 120, 121, 122, 123, 124, 125, 126, 127, 128, 129, 130, 131, 132, 133, 134, 135], [], []), ([116, 120, 121, 122, 123, 124, 125, 126, 127, 128, 129, 130, 131, 132, 133, 134, 135], [false], []), ([120, 121, 122, 123, 124, 125, 126, 127, 128, 129, 130, 131, 132, 133, 134, 135], [true, true], []), ([120, 121, 122, 123, 124, 125, 126, 127, 128, 129, 130, 131, 132, 133, 134, 135], [true, true, true], []), ([116, 117, 118, 119, 121, 124, 125, 126, 127, 128, 129, 130, 131, 132, 133, 134, 135], [false, false, false, false], []), ([116, 117, 118, 119, 120, 124, 125, 126, 127, 128, 129, 130, 131, 132, 133, 134, 135], [false, false, false, false, false], []), ([116, 117, 118, 119, 124, 125, 126, 127, 128, 129, 130, 131, 132, 133, 134, 135], [false, false, false, false, true, true], []), ([116, 117, 118, 119, 124, 125, 126, 127, 128, 129, 130, 131, 132, 133, 134, 135], [false, false, false, false, true, true, true], []), ([116, 117, 118, 119, 120, 121, 122, 123, 125, 128, 129, 130, 131, 132, 133, 134, 135], [false, false, false, false, false, false, false, false], []), ([116, 117, 118, 119, 120, 121, 122, 123, 124, 128, 129, 130, 131, 132, 133, 134, 135], [false, false, false, false, false, false, false, false, false], []), ([116, 117, 118, 119, 120, 121, 122, 123, 128, 129, 130, 131, 132, 133, 134, 135], [false, false, false, false, false, false, false, false, true, true], []), ([116, 117, 118, 119, 120, 121, 122, 123, 128, 129, 130, 131, 132, 133, 134, 135], [false, false, false, false, false, false, false, false, true, true, true], []), ([116, 117, 118, 119, 120, 121, 122, 123, 124, 125, 126, 127, 129, 132, 133, 134, 135], [false, false, false, false, false, false, false, false, false, false, false, false], []), ([116, 117, 118, 119, 120, 121, 122, 123, 124, 125, 126, 127, 128, 132, 133, 134, 135], [false, false, false, false, false, false, false, false, false, false, false, false, false], []), ([116, 117, 118, 119, 120, 121, 122, 123, 124, 125, 126, 127, 132, 133, 134, 135], [false, false, false, false, false, false, false, false, false, false, false, false, true, true], []), ([116, 117, 118, 119, 120, 121, 122, 123, 124, 125, 126, 127, 132, 133, 134, 135], [false, false, false, false, false, false, false, false, false, false, false, false, true, true, true], []), ([116, 117, 118, 119, 120, 121, 122, 123, 124, 125, 126, 127, 128, 129, 130, 131, 133], [false, false, false, false, false, false, false, false, false, false, false, false, false, false, false, false], []), ([116, 117, 118, 119, 120, 121, 122, 123, 124, 125, 126, 127, 128, 129, 130, 131, 132], [false, false, false, false, false, false, false, false, false, false, false, false, false, false, false, false, false], []), ([116, 117, 118, 119, 120, 121, 122, 123, 124, 125, 126, 127, 128, 129, 130, 131], [false, false, false, false, false, false, false, false, false, false, false, false, false, false, false, false, true, true], []), ([116, 117, 118, 119, 120, 121, 122, 123, 124, 125, 126, 127, 128, 129, 130, 131], [false, false, false, false, false, false, false, false, false, false, false, false, false, false, false, false, true, true, true], [])] 5 20 ?_
       refine dC [] [true, true, true, true, true, true, true, true, true, true, true, true, true, true, true, true, true, true, true, true] [] [] ?_
       refine cd (rFill_ok C s V t w) ?_
       refine dB [([], [true, true, true, true, true, true, true, true, true, true, true, true, true, true, true, true, true, true, true, true, true], []), ([138], [true, true, true, true, true, true, true, true, true, true, true, true, true, true, true, true, true, true, true, true, true, true], []), ([137, 26], [true, true, true, true, true, true, true, true, true, true, true, true, true, true, true, true, true, true, true, true, true, true, false], []), ([138], [true, true, true, true, true, true, true, true, true, true, true, true, true, true, true, true, true, true, true, true, true, true, true, false], [])] 0 25 ?_
       refine dD ?_
       refine oN 1 ?_
       refine oK [16, 17, 18, 19, 20, 21, 22, 23, 24, 25, 26, 27] ?_
       refine wD 24 [] [[], [], [1, 0], [0, 1, 2], [2, 1, 0, 3], [2, 1, 0, 3], [5, 3, 0, 1, 2, 4], [4, 2, 1, 0, 3, 5, 6], [6, 5, 4, 7, 2, 1, 0, 3], [3, 0, 1, 2, 7, 4, 5, 6, 8], [8, 6, 5, 4, 7, 2, 1, 0, 3, 9], [8, 6, 5, 4, 7, 2, 1, 0, 3, 9], [8, 6, 5, 4, 7, 2, 1, 0, 3, 9], [12, 9, 3, 0, 1, 2, 7, 4, 5, 6, 8, 11], [11, 8, 6, 5, 4, 7, 2, 1, 0, 3, 9, 12, 13], [13, 12, 11, 14, 9, 3, 0, 1, 2, 7, 4, 5, 6, 8, 10], [10, 8, 6, 5, 4, 7, 2, 1, 0, 3, 9, 14, 11, 12, 13, 15], [15, 13, 12, 11, 14, 10, 16, 8, 6, 5, 4, 7, 2, 1, 0, 3, 9], [9, 3, 0, 1, 2, 7, 4, 5, 6, 8, 16, 10, 14, 11, 12, 13, 15, 17], [17, 15, 13, 12, 11, 14, 10, 16, 8, 6, 5, 4, 7, 2, 1, 0, 3, 9, 18], [17, 15, 13, 12, 11, 14, 10, 16, 8, 6, 5, 4, 7, 2, 1, 0, 3, 9, 18], [17, 15, 13, 12, 11, 14, 10, 16, 8, 6, 5, 4, 7, 2, 1, 0, 3, 9, 18], [21, 18, 9, 3, 0, 1, 2, 7, 4, 5, 6, 8, 16, 10, 14, 11, 12, 13, 15, 17, 20], [20, 17, 15, 13, 12, 11, 14, 10, 16, 8, 6, 5, 4, 7, 2, 1, 0, 3, 9, 18, 21, 22], [22, 21, 20, 23, 18, 9, 3, 0, 1, 2, 7, 4, 5, 6, 8, 16, 10, 14, 11, 12, 13, 15, 17, 19], [19, 17, 15, 13, 12, 11, 14, 10, 16, 8, 6, 5, 4, 7, 2, 1, 0, 3, 9, 18, 23, 20, 21, 22, 24], [24, 22, 21, 20, 23, 19, 25, 17, 15, 13, 12, 11, 14, 10, 16, 8, 6, 5, 4, 7, 2, 1, 0, 3, 9, 18]] ?_
       refine dB [([140], [], []), ([139], [false], []), ([], [true, true], []), ([], [true, true, true], [])] 20 4 ?_
       refine dT [144] [true, true, true, true] [] ?_
       refine dT [143] [true, true, true, true, false] [] ?_
       refine dG [] [true, true, true, true, true, true] [] [] ?_
       refine cd (SameInts_ok (X.getD []) (X.getD [])) ?_
       refine dT [] [true, true, true, true, true, true, true] [] ?_
       refine dB [([], [true, true, true, true, true, true, true, true], []), ([], [true, true, true, true, true, true, true, true, true], [])] 14 10 ?_
       refine dT [150, 151, 152, 153] [true, true, true, true, true, true, true, true, true, true] [] ?_
       refine dT [149, 151] [true, true, true, true, true, true, true, true, true, true, false] [] ?_
       refine dT [149, 150] [true, true, true, true, true, true, true, true, true, true, false, false] [] ?_
       refine dT [149] [true, true, true, true, true, true, true, true, true, true, false, true, true] [] ?_
       refine dT [149] [true, true, true, true, true, true, true, true, true, true, false, true, true, true] [] ?_
       refine dG [] [true, true, true, true, true, true, true, true, true, true, true, true, true, true, true] [] [] ?_
       refine cd (SameCellars_ok C (by omega) (by omega) (by omega)) ?_
       refine dT [] [true, true, true, true, true, true, true, true, true, true, true, true, true, true, true, true] [] ?_
       refine dB [([], [true, true, true, true, true, true, true, true, true, true, true, true, true, true, true, true, true], []), ([], [true, true, true, true, true, true, true, true, true, true, true, true, true, true, true, true, true, true], [])] 5 19 ?_
       refine dT [159, 160, 161, 162] [true, true, true, true, true, true, true, true, true, true, true, true, true, true, true, true, true, true, true] [] ?_
       refine dT [158, 160] [true, true, true, true, true, true, true, true, true, true, true, true, true, true, true, true, true, true, true, false] [] ?_
       refine dT [158, 159] [true, true, true, true, true, true, true, true, true, true, true, true, true, true, true, true, true, true, true, false, false] [] ?_
       refine dT [158] [true, true, true, true, true, true, true, true, true, true, true, true, true, true, true, true, true, true, true, false, true, true] [] ?_
       refine dT [158] [true, true, true, true, true, true, true, true, true, true, true, true, true, true, true, true, true, true, true, false, true, true, true] [] ?_
       refine dD ?_
       refine gC [] ?_
       refine ct (SameInts_ok V V) ?_
       refine gT ?_
       refine oN 1 ?_
       refine oK [16, 17, 18, 19, 20, 21, 165] ?_
       refine cF ?_
       refine W.skip ?_
       refine hK4 _ ?_
       clear hK4 K4
       refine rEw ?_
       refine ⟨i + 1, lf0, v0, v0⟩
      ·
       try simp at hc4
       replace F := F.add hc4
       refine W.exit ?_
       refine hK2 _ ?_
       clear hK3 K3 hK2 K2
       refine W.seqR ?_
       refine oC [] ?_
       refine ct (awake_ok) ?_
       refine oN 1 ?_
       refine oK [12] ?_
       refine W.ret ?_
       exact er0 false [] []
  ·
   replace F := F.add hl2
   have hl9 : ¬ (12 : Int) < vs0.length := by omega
   replace F := F.add hl9
   refine W.seqR ?_
   refine oN 1 ?_
   refine oC [] ?_
   refine ct (wide_det c0 []) ?_
   refine oN 1 ?_
   refine gT ?_
   refine gT ?_
   refine gT ?_
   refine gT ?_
   refine gF ?_
   refine gF ?_
   refine gF ?_
   refine gT ?_
   refine oN 2 ?_
   refine gT ?_
   refine gT ?_
   refine gT ?_
   refine oN 1 ?_
   refine oK [1, 2, 3, 4, 5, 6, 44] ?_
   refine cF ?_
   refine W.skip ?_
   refine hK1 _ ?_
   clear hK1 K1
   have qsc0 : SmallC c0 := by
     obtain ⟨_, ⟨q2, q3, q4⟩, _⟩ := wideB_f hwd
     exact ⟨q2, q3, q4⟩
   have qsv0 : vs0.length ≤ 12 := by omega
   refine W.seqR ?_
   refine oN 1 ?_
   refine oC [] ?_
   refine ct (DieOf_ok _) ?_
   refine oN 1 ?_
   refine oK [1, 2, 3, 4, 6, 13] ?_
   refine W.seqR ?_
   refine oN 1 ?_
   refine oC [(10000, 376)] ?_
   refine CallT.mkE (CellarOf_ok _ 2 3 (by omega) (by omega)) (fun z49 hz49 => ⟨(by simp [hwd, hl2, hl9]), ?_⟩)
   obtain ⟨c, g1⟩ := z49
   have qmc : MadeC c 2 3 := hz49
   have qv := qmc.ok
   have hb6 : c.boxes.length ≤ 1000 := by have := qmc.bx; omega
   replace F := F.add hb6
   refine WOps.norm (by simp [hwd, hl2, hl9, hb6]; rfl) ?_
   refine oN 2 ?_
   refine oK [1, 2, 3, 4, 6, 13, 14] ?_
   refine W.seqR ?_
   refine oN 1 ?_
   refine oC [(10000, 376)] ?_
   refine CallT.mkE (visitsOf_ok g1 3 (by omega) (by omega)) (fun z51 hz51 => ⟨(by simp [hwd, hl2, hl9, hb6]), ?_⟩)
   obtain ⟨vs, g2⟩ := z51
   have qmv : MadeV vs 3 := hz51
   have qvl := qmv.len
   refine WOps.norm (by simp [hwd, hl2, hl9, hb6]; rfl) ?_
   refine oN 1 ?_
   refine oK [1, 2, 3, 4, 6, 13, 14, 15] ?_
   obtain ⟨b, qb⟩ : ∃ b, castV g2 c.boxes.length = b := ⟨_, rfl⟩
   obtain ⟨g3, qg3⟩ : ∃ g, castF g2 c.boxes.length = g := ⟨_, rfl⟩
   have hb := qb
   have hg3 := qg3
   obtain ⟨y, qy⟩ : ∃ y, oneV g3 [20, 200] = y := ⟨_, rfl⟩
   obtain ⟨g4, qg4⟩ : ∃ g, oneF g3 [20, 200] = g := ⟨_, rfl⟩
   have hy := qy
   have hg4 := qg4
   have qyo := oneV_mem g3 [20, 200] (by simp)
   rw [qy] at qyo
   simp only [List.mem_cons, List.not_mem_nil, or_false] at qyo
   obtain ⟨m, qm⟩ : ∃ m, fromV g4 1 y = m := ⟨_, rfl⟩
   obtain ⟨g5, qg5⟩ : ∃ g, fromF g4 1 y = g := ⟨_, rfl⟩
   have hm9 := qm
   have hg5 := qg5
   obtain ⟨u, qu⟩ : ∃ u, fromV g5 1 15 = u := ⟨_, rfl⟩
   obtain ⟨g6, qg6⟩ : ∃ g, fromF g5 1 15 = g := ⟨_, rfl⟩
   have hu := qu
   have hg6 := qg6
   replace F := F.add hb |>.add hg3 |>.add hy |>.add hg4 |>.add hm9 |>.add hg5 |>.add hu |>.add hg6
   refine wD 33 [(9, [376]), (20, [376]), (21, [376]), (26, [376])] [[], [], [], [2, 1, 0], [], [], [], [6], [6, 7], [7, 6, 8, 5], [], [10, 5, 8, 6, 7, 9, 4], [], [], [], [14, 13, 12], [], [], [], [], [5, 8, 6, 7, 9, 19, 18], [18, 19, 9, 7, 6, 8, 5, 20, 17], [], [22, 17, 20, 5, 8, 6, 7, 9, 19, 18, 21, 16], [], [], [17, 20, 5, 8, 6, 7, 9, 19, 18, 21, 25], [], [27, 25, 21, 18, 19, 9, 7, 6, 8, 5, 20, 17, 26, 24], [25, 21, 18, 19, 9, 7, 6, 8, 5, 20, 17, 26, 0, 1, 2, 3], [3, 2, 1, 0, 26, 17, 20, 19, 18, 21, 25, 29, 4, 9, 7, 6, 8, 5, 10, 11], [11, 10, 5, 8, 6, 7, 9, 4, 29, 25, 21, 18, 19, 20, 17, 26, 0, 1, 2, 3, 30, 12, 13, 14, 15], [15, 14, 13, 12, 30, 3, 2, 1, 0, 26, 25, 29, 4, 10, 11, 31, 16, 21, 18, 19, 9, 7, 6, 8, 5, 20, 17, 22, 23], [23, 22, 16, 31, 11, 10, 4, 29, 0, 1, 2, 3, 30, 12, 13, 14, 15, 32, 24, 26, 17, 20, 5, 8, 6, 7, 9, 19, 18, 21, 25, 27, 28]] ?_
   refine dB [([53, 54, 56, 57, 58, 59, 60, 61, 62, 63, 64, 65, 66, 67, 68, 69, 70, 71, 72, 73, 74, 75, 76, 77, 78, 79, 80], [], [376, 376, 376, 376]), ([52, 54, 56, 57, 58, 59, 60, 61, 62, 63, 64, 65, 66, 67, 68, 69, 70, 71, 72, 73, 74, 75, 76, 77, 78, 79, 80], [false], [376, 376, 376, 376]), ([52, 53, 56, 57, 58, 59, 60, 61, 62, 63, 64, 65, 66, 67, 68, 69, 70, 71, 72, 73, 74, 75, 76, 77, 78, 79, 80], [false, false], [376, 376, 376, 376]), ([56, 57, 58, 59, 60, 61, 62, 63, 64, 65, 66, 67, 68, 69, 70, 71, 72, 73, 74, 75, 76, 77, 78, 79, 80], [true, true, true], [376, 376, 376, 376]), ([52, 53, 54, 55, 57, 58, 59, 60, 61, 62, 64, 65, 66, 67, 68, 69, 70, 71, 72, 73, 74, 75, 76, 77, 78, 79, 80, 16], [false, false, false, false], [376, 376, 376, 376]), ([52, 53, 54, 55, 56, 58, 59, 60, 62, 64, 65, 66, 67, 68, 69, 70, 71, 74, 76, 77, 79], [false, false, false, false, false], []), ([52, 53, 54, 55, 56, 57, 62, 64, 65, 66, 67, 68, 69, 70, 71, 74, 76, 77, 79], [false, false, false, false, false, false], []), ([52, 53, 54, 55, 56, 57, 62, 64, 65, 66, 67, 68, 69, 70, 71, 74, 76, 77, 79], [false, false, false, false, false, false, true], []), ([52, 53, 54, 55, 56, 57, 62, 64, 65, 66, 67, 68, 69, 70, 71, 74, 76, 77, 79], [false, false, false, false, false, false, true, true], [])] 24 9 ?_
   refine dC [52, 53, 54, 55, 56, 62, 64, 65, 66, 67, 68, 69, 70, 71, 74, 76, 77, 79] [false, false, false, false, false, true, true, true, true] [] [(10000, 376)] ?_
   refine cd (Cast_ok g2 c.boxes.length (by omega)) ?_
   refine dB [([52, 53, 54, 55, 56, 57, 58, 59, 60, 61, 64, 65, 66, 67, 68, 69, 70, 71, 72, 73, 74, 75, 76, 77, 78, 79, 80, 16], [false, false, false, false, false, false, false, false, false, false], [376, 376, 376, 376]), ([52, 53, 54, 55, 64, 65, 66, 67, 68, 69, 70, 71, 72, 73, 74, 75, 76, 77, 78, 79, 80, 16], [false, false, false, false, true, true, true, true, true, true, true], [376, 376, 376]), ([52, 53, 54, 55, 56, 57, 58, 59, 60, 61, 62, 63, 65, 66, 68, 69, 70, 71, 72, 73, 74, 75, 76, 77, 78, 79, 80, 16, 17], [false, false, false, false, false, false, false, false, false, false, false, false], [376, 376, 376, 376]), ([52, 53, 54, 55, 56, 57, 58, 59, 60, 61, 62, 63, 64, 66, 68, 69, 70, 71, 72, 73, 74, 75, 76, 77, 78, 79, 80, 16, 17], [false, false, false, false, false, false, false, false, false, false, false, false, false], [376, 376, 376, 376]), ([52, 53, 54, 55, 56, 57, 58, 59, 60, 61, 62, 63, 64, 65, 68, 69, 70, 71, 72, 73, 74, 75, 76, 77, 78, 79, 80, 16, 17], [false, false, false, false, false, false, false, false, false, false, false, false, false, false], [376, 376, 376, 376]), ([52, 53, 54, 55, 56, 57, 58, 59, 60, 61, 62, 63, 68, 69, 70, 71, 72, 73, 74, 75, 76, 77, 78, 79, 80, 16, 17], [false, false, false, false, false, false, false, false, false, false, false, false, true, true, true], [376, 376, 376, 376]), ([52, 53, 54, 55, 56, 57, 58, 59, 60, 61, 62, 63, 64, 65, 66, 67, 69, 70, 71, 72, 73, 74, 76, 77, 78, 79, 80, 16, 17, 18], [false, false, false, false, false, false, false, false, false, false, false, false, false, false, false, false], [376, 376, 376, 376]), ([52, 53, 54, 55, 56, 57, 58, 59, 60, 61, 62, 63, 64, 65, 66, 67, 68, 70, 71, 72, 74, 76, 77, 79], [false, false, false, false, false, false, false, false, false, false, false, false, false, false, false, false, false], [376, 376]), ([52, 53, 54, 55, 56, 57, 58, 59, 60, 61, 62, 63, 64, 65, 66, 67, 68, 69, 71, 74, 76, 77, 79], [false, false, false, false, false, false, false, false, false, false, false, false, false, false, false, false, false, false], [376]), ([52, 53, 54, 55, 56, 57, 58, 59, 60, 61, 62, 63, 64, 65, 66, 67, 68, 69, 70, 74, 76, 77, 79], [false, false, false, false, false, false, false, false, false, false, false, false, false, false, false, false, false, false, false], [376])] 13 20 ?_
   refine dC [52, 53, 54, 55, 56, 62, 63, 64, 65, 66, 67, 68, 69, 74, 76, 77, 79] [false, false, false, false, false, true, true, true, true, true, false, false, false, false, false, false, false, false, true, true] [] [(10000, 376)] ?_
   refine cd (One_ok g3 [20, 200] (by simp)) ?_
   refine dC [52, 53, 54, 55, 56, 62, 63, 64, 65, 66, 67, 68, 74, 76, 77, 79] [false, false, false, false, false, true, true, true, true, true, false, false, false, false, false, false, false, true, true, true, true] [] [(10000, 376)] ?_
   refine cd (From_ok g4 1 y (by omega) (by omega) (by omega) (by omega)) ?_
   refine dB [([52, 53, 54, 55, 56, 57, 58, 59, 60, 61, 62, 63, 64, 65, 66, 67, 68, 69, 70, 71, 72, 73, 76, 77, 78, 79, 80, 16, 17, 18], [false, false, false, false, false, false, false, false, false, false, false, false, false, false, false, false, false, false, false, false, false, false], [376, 376, 376, 376]), ([52, 53, 54, 55, 56, 62, 63, 64, 65, 66, 67, 76, 77, 78, 79, 80, 16, 17, 18], [false, false, false, false, false, true, true, true, true, true, false, false, false, false, false, false, true, true, true, true, true, true, true], [376]), ([52, 53, 54, 55, 56, 57, 58, 59, 60, 61, 62, 63, 64, 65, 66, 67, 68, 69, 70, 71, 72, 73, 74, 75, 77, 78, 79, 16, 17, 18, 19], [false, false, false, false, false, false, false, false, false, false, false, false, false, false, false, false, false, false, false, false, false, false, false, false], [376, 376, 376, 376]), ([52, 53, 54, 55, 56, 57, 58, 59, 60, 61, 62, 63, 64, 65, 66, 67, 68, 69, 70, 71, 72, 73, 74, 75, 76, 79], [false, false, false, false, false, false, false, false, false, false, false, false, false, false, false, false, false, false, false, false, false, false, false, false, false], [376, 376, 376])] 7 26 ?_
   refine dC [52, 53, 54, 55, 56, 62, 63, 64, 65, 66, 67, 68, 74, 75, 76, 79] [false, false, false, false, false, true, true, true, true, true, false, false, false, false, false, false, false, true, true, true, true, true, false, false, false, true] [] [(10000, 376)] ?_
   refine cd (From_ok g5 1 15 (by omega) (by omega) (by omega) (by omega)) ?_
   refine dB [([52, 53, 54, 55, 56, 57, 58, 59, 60, 61, 62, 63, 64, 65, 66, 67, 68, 69, 70, 71, 72, 73, 74, 75, 76, 77, 78, 16, 17, 18, 19], [false, false, false, false, false, false, false, false, false, false, false, false, false, false, false, false, false, false, false, false, false, false, false, false, false, false, false], [376, 376, 376, 376]), ([52, 53, 54, 55, 56, 62, 63, 64, 65, 66, 67, 68, 74, 75, 16, 17, 18, 19], [false, false, false, false, false, true, true, true, true, true, false, false, false, false, false, false, false, true, true, true, true, true, false, false, true, true, true, true], []), ([56, 62, 63, 64, 65, 66, 67, 68, 74, 75, 76, 79, 80], [true, true, true, true, false, true, true, true, true, true, false, false, false, false, false, false, false, true, true, true, true, true, false, false, false, true, true, false, false], []), ([64, 65, 66, 67, 68, 74, 75, 76, 79, 80], [true, true, true, true, true, true, true, true, true, true, true, true, false, false, false, false, false, true, true, true, true, true, false, false, false, true, true, false, false, true], []), ([68, 74, 75, 76, 79, 80], [true, true, true, true, true, true, true, true, true, true, true, true, true, true, true, true, false, true, true, true, true, true, false, false, false, true, true, false, false, true, true], []), ([76, 79, 80], [true, true, true, true, true, true, true, true, true, true, true, true, true, true, true, true, true, true, true, true, true, true, true, true, false, true, true, false, false, true, true, true], [])] 0 33 ?_
   refine dD ?_
   refine oN 1 ?_
   refine oK [16, 17, 18, 19, 20] ?_
   refine W.seqk fun K5 hK5 => ?_
   obtain ⟨CS, qCS⟩ : ∃ CS, CS = [c0, c, c] := ⟨_, rfl⟩
   have hCS : [celV c0, celV c, celV c] = CS.map celV := by rw [qCS]; rfl
   obtain ⟨BS, qBS⟩ : ∃ BS, BS = [box, b, box] := ⟨_, rfl⟩
   have hBS : [I box, I b, I box] = BS.map I := by rw [qBS]; rfl
   obtain ⟨VS, qVS⟩ : ∃ VS, VS = [vs0, vs, vs] := ⟨_, rfl⟩
   have hVS : [ints vs0, ints vs, ints vs] = VS.map ints := by rw [qVS]; rfl
   obtain ⟨WS, qWS⟩ : ∃ WS, WS = [gr, m, gr] := ⟨_, rfl⟩
   have hWS : [I gr, I m, I gr] = WS.map I := by rw [qWS]; rfl
   obtain ⟨US, qUS⟩ : ∃ US, US = [un, u, un] := ⟨_, rfl⟩
   have hUS : [I un, I u, I un] = US.map I := by rw [qUS]; rfl
   have hCSl : CS.length = 3 := by rw [qCS]; rfl
   have hBSl : BS.length = 3 := by rw [qBS]; rfl
   have hVSl : VS.length = 3 := by rw [qVS]; rfl
   have hWSl : WS.length = 3 := by rw [qWS]; rfl
   have hUSl : US.length = 3 := by rw [qUS]; rfl
   have qcs : ∀ x ∈ CS, SmallC x := fun x hx => by
     rw [qCS] at hx
     simp only [List.mem_cons, List.not_mem_nil, or_false] at hx
     rcases hx with rfl | rfl | rfl
     · exact qsc0
     · exact qmc.small
     · exact qmc.small
   have qvs : ∀ x ∈ VS, x.length ≤ 12 := fun x hx => by
     rw [qVS] at hx
     simp only [List.mem_cons, List.not_mem_nil, or_false] at hx
     rcases hx with rfl | rfl | rfl
     · exact qsv0
     · omega
     · omega
   replace F := F.add hCS |>.add hBS |>.add hVS |>.add hWS |>.add hUS |>.add hCSl |>.add hBSl |>.add hVSl |>.add hWSl |>.add hUSl
   refine rK [16, 17, 18, 19, 20, 21] ?_
   refine W.block ?_
   refine lpa (α := Nat) [16, 17, 18, 19, 20] [22, 83, 91, 96, 112, 136, 145, 154, 163] [376] (fun i => [(21, I i)]) (fun i => [(376, die g6)]) (fun i => i ≤ 3) (fun i => 3 - i) 0 v0 ?_
   ·
    intro i hI0
    simp only [List.cons_append, List.nil_append]
    try dsimp only at hI0
    replace F := F.add hI0
    refine W.seqk fun K6 hK6 => ?_
    refine rK [16, 17, 18, 19, 20, 21, 84] ?_
    refine it (fun hc7 => ?_) (fun hc7 => ?_)
    ·
     try simp at hc7
     replace F := F.add hc7
     refine W.skip ?_
     refine hK6 _ ?_
     clear hK6 K6
     refine W.seqk fun K7 hK7 => ?_
     refine W.block ?_
     have hi3 : i < 3 := by omega
     have hiC : i < CS.length := by omega
     have hiB : i < BS.length := by omega
     have hiV : i < VS.length := by omega
     have hiW : i < WS.length := by omega
     have hiU : i < US.length := by omega
     have qsi := qcs _ (List.getElem_mem hiC)
     have qvi := qvs _ (List.getElem_mem hiV)
     obtain ⟨C, qC⟩ : ∃ C, C = CS[i] := ⟨_, rfl⟩
     have hC := qC.symm
     have qsC : SmallC C := by rw [qC]; exact qsi
     have q1 := qsC.bx
     have q2 := qsC.fl
     have q3 := qsC.rt
     obtain ⟨V, qV⟩ : ∃ V, V = VS[i] := ⟨_, rfl⟩
     have hV := qV.symm
     have qsV : V.length ≤ 12 := by rw [qV]; exact qvi
     obtain ⟨s, qs⟩ : ∃ s, s = BS[i] := ⟨_, rfl⟩
     have hs := qs.symm
     obtain ⟨t, qt⟩ : ∃ t, t = WS[i] := ⟨_, rfl⟩
     have ht := qt.symm
     obtain ⟨w, qw2⟩ : ∃ w, w = US[i] := ⟨_, rfl⟩
     have hw := qw2.symm
     obtain ⟨X, qX⟩ : ∃ X, fillX C s V t w = X := ⟨_, rfl⟩
     have hX := qX
     replace F := F.add hi3 |>.add hiC |>.add hiB |>.add hiV |>.add hiW |>.add hiU |>.add hC |>.add hV |>.add hs |>.add ht |>.add hw |>.add hX
     refine wD 11 [] [[], [], [1, 0], [0, 1, 2], [2, 1, 0, 3], [], [], [6, 5], [5, 6, 7], [3, 0, 1, 2, 4, 7, 6, 5, 8], [], [8, 5, 6, 7, 9, 3, 0, 1, 2, 4, 10], [10, 11, 8, 5, 6, 7, 4, 2, 1, 0, 3, 9]] ?_
     refine dB [([88, 92, 93, 94, 95, 22], [], []), ([87, 92, 93, 94, 95, 22], [false], []), ([92, 93, 94, 95, 22], [true, true], []), ([92, 93, 94, 95, 22], [true, true, true], [])] 7 4 ?_
     refine dC [92, 93, 94, 95, 22] [true, true, true, true] [] [] ?_
     refine cd (CopyCellar_imm C (by omega) (by omega) (by omega)) ?_
     refine dB [([87, 88, 89, 90, 91, 93, 22], [false, false, false, false, false], []), ([87, 88, 89, 90, 91, 92, 22], [false, false, false, false, false, false], []), ([87, 88, 89, 90, 91, 22], [false, false, false, false, false, true, true], []), ([87, 88, 89, 90, 91, 22], [false, false, false, false, false, true, true, true], [])] 2 9 ?_
     refine dC [22] [true, true, true, true, true, true, true, true, true] [] [] ?_
     refine cd (CopyInts_imm V (by omega)) ?_
     refine dB [([87, 88, 89, 90, 91, 92, 93, 94, 95, 96], [false, false, false, false, false, false, false, false, false, false], [])] 0 11 ?_
     refine dD ?_
     refine oN 1 ?_
     refine oN 1 ?_
     refine oK [16, 17, 18, 19, 20, 21, 22, 23] ?_
     refine wD 19 [] [[], [], [], [2, 1], [1, 2, 3], [], [], [], [7, 6], [6, 7, 8], [], [], [11, 10], [10, 11, 12], [12, 11, 10, 13, 8, 7, 6, 9, 5, 3, 2, 1, 4, 0], [0, 4, 1, 2, 3, 5, 9, 6, 7, 8, 13, 10, 11, 12, 14], [14, 12, 11, 10, 13, 8, 7, 6, 9, 5, 3, 2, 1, 4, 0, 15], [14, 12, 11, 10, 13, 8, 7, 6, 9, 5, 3, 2, 1, 4, 0, 15], [15, 0, 4, 1, 2, 3, 5, 9, 6, 7, 8, 13, 10, 11, 12, 14, 16], [16, 18, 15, 0, 4, 1, 2, 3, 5, 9, 6, 7, 8, 13, 10, 11, 12, 14, 17]] ?_
     refine dB [([99, 100, 101, 102, 103, 104, 105, 106, 107, 108, 109, 110, 111], [], []), ([98, 100, 103, 104, 105, 106, 107, 108, 109, 110, 111], [false], []), ([98, 99, 103, 104, 105, 106, 107, 108, 109, 110, 111], [false, false], []), ([98, 103, 104, 105, 106, 107, 108, 109, 110, 111], [false, true, true], []), ([98, 103, 104, 105, 106, 107, 108, 109, 110, 111], [false, true, true, true], []), ([98, 99, 100, 101, 102, 104, 105, 106, 107, 108, 109, 110, 111], [false, false, false, false, false], []), ([98, 99, 100, 101, 102, 103, 105, 108, 109, 110, 111], [false, false, false, false, false, false], []), ([98, 99, 100, 101, 102, 103, 104, 108, 109, 110, 111], [false, false, false, false, false, false, false], []), ([98, 99, 100, 101, 102, 103, 108, 109, 110, 111], [false, false, false, false, false, false, true, true], []), ([98, 99, 100, 101, 102, 103, 108, 109, 110, 111], [false, false, false, false, false, false, true, true, true], []), ([98, 99, 100, 101, 102, 103, 104, 105, 106, 107, 109], [false, false, false, false, false, false, false, false, false, false], []), ([98, 99, 100, 101, 102, 103, 104, 105, 106, 107, 108], [false, false, false, false, false, false, false, false, false, false, false], []), ([98, 99, 100, 101, 102, 103, 104, 105, 106, 107], [false, false, false, false, false, false, false, false, false, false, true, true], []), ([98, 99, 100, 101, 102, 103, 104, 105, 106, 107], [false, false, false, false, false, false, false, false, false, false, true, true, true], [])] 5 14 ?_
     refine dC [] [true, true, true, true, true, true, true, true, true, true, true, true, true, true] [] [] ?_
     refine cd (Fill_ok C s V t w) ?_
     refine dB [([], [true, true, true, true, true, true, true, true, true, true, true, true, true, true, true], []), ([114], [true, true, true, true, true, true, true, true, true, true, true, true, true, true, true, true], []), ([113, 24], [true, true, true, true, true, true, true, true, true, true, true, true, true, true, true, true, false], []), ([114], [true, true, true, true, true, true, true, true, true, true, true, true, true, true, true, true, true, false], [])] 0 19 ?_
     refine dD ?_
     refine oN 1 ?_
     refine oK [16, 17, 18, 19, 20, 21, 22, 23, 24, 25] ?_
     refine wD 25 [] [[], [], [1, 0], [0, 1, 2], [], [], [5, 4], [4, 5, 6], [], [], [9, 8], [8, 9, 10], [], [], [13, 12], [12, 13, 14], [], [], [17, 16], [16, 17, 18], [18, 17, 16, 19, 14, 13, 12, 15, 10, 9, 8, 11, 6, 5, 4, 7, 2, 1, 0, 3], [3, 0, 1, 2, 7, 4, 5, 6, 11, 8, 9, 10, 15, 12, 13, 14, 19, 16, 17, 18, 20], [20, 18, 17, 16, 19, 14, 13, 12, 15, 10, 9, 8, 11, 6, 5, 4, 7, 2, 1, 0, 3, 21], [20, 18, 17, 16, 19, 14, 13, 12, 15, 10, 9, 8, 11, 6, 5, 4, 7, 2, 1, 0, 3, 21], [21, 3, 0, 1, 2, 7, 4, 5, 6, 11, 8, 9, 10, 15, 12, 13, 14, 19, 16, 17, 18, 20, 22], [22, 24, 21, 3, 0, 1, 2, 7, 4, 5, 6, 11, 8, 9, 10, 15, 12, 13, 14, 19, 16, 17, 18, 20, 23]] ?_
     refine dB [([117, 120, 121, 122, 123, 124, 125, 126, 127, 128, 129, 130, 131, 132, 133, 134, 135], [], []), ([116, 120, 121, 122, 123, 124, 125, 126, 127, 128, 129, 130, 131, 132, 133, 134, 135], [false], []), ([120, 121, 122, 123, 124, 125, 126, 127, 128, 129, 130, 131, 132, 133, 134, 135], [true, true], []), ([120, 121, 122, 123, 124, 125, 126, 127, 128, 129, 130, 131, 132, 133, 134, 135], [true, true, true], []), ([116, 117, 118, 119, 121, 124, 125, 126, 127, 128, 129, 130, 131, 132, 133, 134, 135], [false, false, false, false], []), ([116, 117, 118, 119, 120, 124, 125, 126, 127, 128, 129, 130, 131, 132, 133, 134, 135], [false, false, false, false, false], []), ([116, 117, 118, 119, 124, 125, 126, 127, 128, 129, 130, 131, 132, 133, 134, 135], [false, false, false, false, true, true], []), ([116, 117, 118, 119, 124, 125, 126, 127, 128, 129, 130, 131, 132, 133, 134, 135], [false, false, false, false, true, true, true], []), ([116, 117, 118, 119, 120, 121, 122, 123, 125, 128, 129, 130, 131, 132, 133, 134, 135], [false, false, false, false, false, false, false, false], []), ([116, 117, 118, 119, 120, 121, 122, 123, 124, 128, 129, 130, 131, 132, 133, 134, 135], [false, false, false, false, false, false, false, false, false], []), ([116, 117, 118, 119, 120, 121, 122, 123, 128, 129, 130, 131, 132, 133, 134, 135], [false, false, false, false, false, false, false, false, true, true], []), ([116, 117, 118, 119, 120, 121, 122, 123, 128, 129, 130, 131, 132, 133, 134, 135], [false, false, false, false, false, false, false, false, true, true, true], []), ([116, 117, 118, 119, 120, 121, 122, 123, 124, 125, 126, 127, 129, 132, 133, 134, 135], [false, false, false, false, false, false, false, false, false, false, false, false], []), ([116, 117, 118, 119, 120, 121, 122, 123, 124, 125, 126, 127, 128, 132, 133, 134, 135], [false, false, false, false, false, false, false, false, false, false, false, false, false], []), ([116, 117, 118, 119, 120, 121, 122, 123, 124, 125, 126, 127, 132, 133, 134, 135], [false, false, false, false, false, false, false, false, false, false, false, false, true, true], []), ([116, 117, 118, 119, 120, 121, 122, 123, 124, 125, 126, 127, 132, 133, 134, 135], [false, false, false, false, false, false, false, false, false, false, false, false, true, true, true], []), ([116, 117, 118, 119, 120, 121, 122, 123, 124, 125, 126, 127, 128, 129, 130, 131, 133], [false, false, false, false, false, false, false, false, false, false, false, false, false, false, false, false], []), ([116, 117, 118, 119, 120, 121, 122, 123, 124, 125, 126, 127, 128, 129, 130, 131, 132], [false, false, false, false, false, false, false, false, false, false, false, false, false, false, false, false, false], []), ([116, 117, 118, 119, 120, 121, 122, 123, 124, 125, 126, 127, 128, 129, 130, 131], [false, false, false, false, false, false, false, false, false, false, false, false, false, false, false, false, true, true], []), ([116, 117, 118, 119, 120, 121, 122, 123, 124, 125, 126, 127, 128, 129, 130, 131], [false, false, false, false, false, false, false, false, false, false, false, false, false, false, false, false, true, true, true], [])] 5 20 ?_
     refine dC [] [true, true, true, true, true, true, true, true, true, true, true, true, true, true, true, true, true, true, true, true] [] [] ?_
     refine cd (rFill_ok C s V t w) ?_
     refine dB [([], [true, true, true, true, true, true, true, true, true, true, true, true, true, true, true, true, true, true, true, true, true], []), ([138], [true, true, true, true, true, true, true, true, true, true, true, true, true, true, true, true, true, true, true, true, true, true], []), ([137, 26], [true, true, true, true, true, true, true, true, true, true, true, true, true, true, true, true, true, true, true, true, true, true, false], []), ([138], [true, true, true, true, true, true, true, true, true, true, true, true, true, true, true, true, true, true, true, true, true, true, true, false], [])] 0 25 ?_
     refine dD ?_
     refine oN 1 ?_
     refine oK [16, 17, 18, 19, 20, 21, 22, 23, 24, 25, 26, 27] ?_
     refine wD 24 [] [[], [], [1, 0], [0, 1, 2], [2, 1, 0, 3], [2, 1, 0, 3], [5, 3, 0, 1, 2, 4], [4, 2, 1, 0, 3, 5, 6], [6, 5, 4, 7, 2, 1, 0, 3], [3, 0, 1, 2, 7, 4, 5, 6, 8], [8, 6, 5, 4, 7, 2, 1, 0, 3, 9], [8, 6, 5, 4, 7, 2, 1, 0, 3, 9], [8, 6, 5, 4, 7, 2, 1, 0, 3, 9], [12, 9, 3, 0, 1, 2, 7, 4, 5, 6, 8, 11], [11, 8, 6, 5, 4, 7, 2, 1, 0, 3, 9, 12, 13], [13, 12, 11, 14, 9, 3, 0, 1, 2, 7, 4, 5, 6, 8, 10], [10, 8, 6, 5, 4, 7, 2, 1, 0, 3, 9, 14, 11, 12, 13, 15], [15, 13, 12, 11, 14, 10, 16, 8, 6, 5, 4, 7, 2, 1, 0, 3, 9], [9, 3, 0, 1, 2, 7, 4, 5, 6, 8, 16, 10, 14, 11, 12, 13, 15, 17], [17, 15, 13, 12, 11, 14, 10, 16, 8, 6, 5, 4, 7, 2, 1, 0, 3, 9, 18], [17, 15, 13, 12, 11, 14, 10, 16, 8, 6, 5, 4, 7, 2, 1, 0, 3, 9, 18], [17, 15, 13, 12, 11, 14, 10, 16, 8, 6, 5, 4, 7, 2, 1, 0, 3, 9, 18], [21, 18, 9, 3, 0, 1, 2, 7, 4, 5, 6, 8, 16, 10, 14, 11, 12, 13, 15, 17, 20], [20, 17, 15, 13, 12, 11, 14, 10, 16, 8, 6, 5, 4, 7, 2, 1, 0, 3, 9, 18, 21, 22], [22, 21, 20, 23, 18, 9, 3, 0, 1, 2, 7, 4, 5, 6, 8, 16, 10, 14, 11, 12, 13, 15, 17, 19], [19, 17, 15, 13, 12, 11, 14, 10, 16, 8, 6, 5, 4, 7, 2, 1, 0, 3, 9, 18, 23, 20, 21, 22, 24], [24, 22, 21, 20, 23, 19, 25, 17, 15, 13, 12, 11, 14, 10, 16, 8, 6, 5, 4, 7, 2, 1, 0, 3, 9, 18]] ?_
     refine dB [([140], [], []), ([139], [false], []), ([], [true, true], []), ([], [true, true, true], [])] 20 4 ?_
     refine dT [144] [true, true, true, true] [] ?_
     refine dT [143] [true, true, true, true, false] [] ?_
     refine dG [] [true, true, true, true, true, true] [] [] ?_
     refine cd (SameInts_ok (X.getD []) (X.getD [])) ?_
     refine dT [] [true, true, true, true, true, true, true] [] ?_
     refine dB [([], [true, true, true, true, true, true, true, true], []), ([], [true, true, true, true, true, true, true, true, true], [])] 14 10 ?_
     refine dT [150, 151, 152, 153] [true, true, true, true, true, true, true, true, true, true] [] ?_
     refine dT [149, 151] [true, true, true, true, true, true, true, true, true, true, false] [] ?_
     refine dT [149, 150] [true, true, true, true, true, true, true, true, true, true, false, false] [] ?_
     refine dT [149] [true, true, true, true, true, true, true, true, true, true, false, true, true] [] ?_
     refine dT [149] [true, true, true, true, true, true, true, true, true, true, false, true, true, true] [] ?_
     refine dG [] [true, true, true, true, true, true, true, true, true, true, true, true, true, true, true] [] [] ?_
     refine cd (SameCellars_ok C (by omega) (by omega) (by omega)) ?_
     refine dT [] [true, true, true, true, true, true, true, true, true, true, true, true, true, true, true, true] [] ?_
     refine dB [([], [true, true, true, true, true, true, true, true, true, true, true, true, true, true, true, true, true], []), ([], [true, true, true, true, true, true, true, true, true, true, true, true, true, true, true, true, true, true], [])] 5 19 ?_
     refine dT [159, 160, 161, 162] [true, true, true, true, true, true, true, true, true, true, true, true, true, true, true, true, true, true, true] [] ?_
     refine dT [158, 160] [true, true, true, true, true, true, true, true, true, true, true, true, true, true, true, true, true, true, true, false] [] ?_
     refine dT [158, 159] [true, true, true, true, true, true, true, true, true, true, true, true, true, true, true, true, true, true, true, false, false] [] ?_
     refine dT [158] [true, true, true, true, true, true, true, true, true, true, true, true, true, true, true, true, true, true, true, false, true, true] [] ?_
     refine dT [158] [true, true, true, true, true, true, true, true, true, true, true, true, true, true, true, true, true, true, true, false, true, true, true] [] ?_
     refine dD ?_
     refine gC [] ?_
     refine ct (SameInts_ok V V) ?_
     refine gT ?_
     refine oN 1 ?_
     refine oK [16, 17, 18, 19, 20, 21, 165] ?_
     refine cF ?_
     refine W.skip ?_
     refine hK7 _ ?_
     clear hK7 K7
     refine rEw ?_
     refine ⟨i + 1, lf0, v0, v0⟩
    ·
     try simp at hc7
     replace F := F.add hc7
     refine W.exit ?_
     refine hK5 _ ?_
     clear hK6 K6 hK5 K5
     refine W.seqR ?_
     refine oC [] ?_
     refine ct (awake_ok) ?_
     refine oN 1 ?_
     refine oK [12] ?_
     refine W.ret ?_
     exact er0 false [] []
end Go.Sim
