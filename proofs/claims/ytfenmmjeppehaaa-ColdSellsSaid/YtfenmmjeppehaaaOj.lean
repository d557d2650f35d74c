/- Sales that are in time: the law answers true. -/
import Derived.Test.YtfenmmjeppehaaaLw
import Derived.Test.YtfenmmjeppehaaaLs
import Derived.Test.YtfenmmjeppehaaaLi
namespace Go.Sim
open Go.Proofs
set_option maxRecDepth 100000
set_option linter.unusedSimpArgs false
set_option linter.unusedVariables false
attribute [-simp] List.map_set List.map_take List.map_drop
attribute [local simp high] optW_ren optW_kill optW_kill1 optW_men optW_data optW_named optW_frz
attribute [-simp] St.snap
attribute [local simp] optW_snap snap_agg snap_val snap_imm snap_own snap_ptr
set_option maxHeartbeats 4000000 in
theorem ColdSells_ok (c0 : Cel) (ls0 : List CLot) (ss0 : List Sld) (s0 : Sld) (nums : List Int) : ACalls Try.prog 12 [celV c0, lotsV ls0, soldsV ss0, soldV s0, ints nums] [] (fun r o => r = B true ∧ o = []) := by
 have F := Fx.nil
 refine ent Try.func12 Try.ntmps12 Try.results12 ?_
 refine rK [1, 2, 4, 5, 8] ?_
 refine W.seqk fun K1 hK1 => ?_
 by_cases hwd : wideB c0 ls0 = true
 ·
  replace F := F.add hwd
  refine W.seqR ?_
  refine oN 2 ?_
  refine oC [] ?_
  refine ct (wide_det c0 ls0) ?_
  refine oN 1 ?_
  refine gF ?_
  refine gF ?_
  refine gF ?_
  refine oN 1 ?_
  refine oK [1, 2, 4, 5, 8, 35] ?_
  refine cT ?_
  refine W.seqR ?_
  refine oC [] ?_
  refine ct (awake_ok) ?_
  refine oN 1 ?_
  refine oK [10] ?_
  refine W.ret ?_
  refine tr ?_
  clear hK1 K1
  exact er0 false [] []
 ·
  replace F := F.add hwd
  refine W.seqR ?_
  refine oN 2 ?_
  refine oC [] ?_
  refine ct (wide_det c0 ls0) ?_
  refine oN 1 ?_
  refine gT ?_
  refine gT ?_
  refine gT ?_
  refine oN 1 ?_
  refine oK [1, 2, 4, 5, 8, 35] ?_
  refine it (fun hc2 => ?_) (fun hc2 => ?_)
  ·
   try simp at hc2
   replace F := F.add hc2
   refine W.seqR ?_
   refine oC [] ?_
   refine ct (awake_ok) ?_
   refine oN 1 ?_
   refine oK [10] ?_
   refine W.ret ?_
   refine tr ?_
   clear hK1 K1
   exact er0 false [] []
  ·
   try simp at hc2
   replace F := F.add hc2
   refine W.skip ?_
   refine hK1 _ ?_
   clear hK1 K1
   obtain ⟨qst0, ⟨qw2, qw3, qw4⟩, qw5⟩ := wideB_f hwd
   have qsc0 : SmallC c0 := ⟨qw2, qw3, qw4⟩
   have hss0 : ss0.length ≤ 60 := by omega
   replace F := F.add hss0
   refine W.seqR ?_
   refine oN 1 ?_
   refine oC [] ?_
   refine ct (DieOf_ok _) ?_
   refine oN 1 ?_
   refine oK [1, 2, 5, 8, 11] ?_
   refine W.seqR ?_
   refine oN 1 ?_
   refine oC [(10000, 304)] ?_
   refine CallT.mkE (CellarOf_ok _ 3 5 (by omega) (by omega)) (fun z40 hz40 => ⟨(by simp [hwd, hc2, hss0]), ?_⟩)
   obtain ⟨c, g1⟩ := z40
   have qmc : MadeC c 3 5 := hz40
   have qv := qmc.ok
   have hb6 : c.boxes.length ≤ 1000 := by have := qmc.bx; omega
   replace F := F.add hb6
   refine WOps.norm (by simp [hwd, hc2, hss0, hb6]; rfl) ?_
   refine oN 2 ?_
   refine oK [1, 2, 5, 8, 11, 12] ?_
   refine W.seqR ?_
   refine oN 2 ?_
   refine oC [(10000, 304)] ?_
   refine CallT.mkE (LotsOf_ok g1 c hb6 4 (by omega)) (fun z43 hz43 => ⟨(by simp [hwd, hc2, hss0, hb6]), ?_⟩)
   obtain ⟨ml, g2⟩ := z43
   have hml : ml.length ≤ 4 := hz43.1
   have qml : ∀ l ∈ ml, MadeT c l := hz43.2
   replace F := F.add hml
   refine WOps.norm (by simp [hwd, hc2, hss0, hb6, hml]; rfl) ?_
   refine oN 1 ?_
   refine oK [1, 2, 5, 8, 11, 12, 13] ?_
   refine rK [1, 2, 5, 8, 11, 12, 13, 14] ?_
   refine W.seqk fun K2 hK2 => ?_
   refine rK [1, 2, 5, 8, 11, 12, 13, 14, 15] ?_
   refine W.block ?_
   refine sn 14 9000 88 2 ?_
   refine lpa (α := Nat × List Sld × Int) [1, 2, 5, 8, 11, 12, 13] [46, 57, 59, 60] [9000, 304] (fun x => [(15, I x.1), (14, .own 9000 0 x.2.1.length)]) (fun x => [(9000, .row true 88 2 (x.2.1.map D2)), (304, die x.2.2)]) (fun x => x.1 ≤ ml.length ∧ x.2.1.length = x.1) (fun x => ml.length - x.1) (0, [], g2) v0 ?_
   ·
    intro ⟨i, sd, g⟩ hI0
    simp only [List.cons_append, List.nil_append]
    try dsimp only at hI0
    obtain ⟨hi, hsd⟩ := hI0
    replace F := F.add hi |>.add hsd
    refine W.seqk fun K3 hK3 => ?_
    refine rK [1, 2, 5, 8, 11, 12, 13, 14, 15, 47] ?_
    refine it (fun hc3 => ?_) (fun hc3 => ?_)
    ·
     try simp at hc3
     replace F := F.add hc3
     refine W.skip ?_
     refine hK3 _ ?_
     clear hK3 K3
     refine W.seqk fun K4 hK4 => ?_
     refine W.block ?_
     have him : i < ml.length := by omega
     have qmi := (qml _ (List.getElem_mem him)).ok.born
     obtain ⟨h, qh⟩ : ∃ h, hourV g ml[i] = h := ⟨_, rfl⟩
     obtain ⟨g3, qg3⟩ : ∃ x, hourF g = x := ⟨_, rfl⟩
     have hh := qh
     have hg3 := qg3
     replace F := F.add him |>.add hh |>.add hg3
     refine W.region ?_
     refine oN 7 ?_
     refine oC [(10000, 304)] ?_
     refine ct (HourOf_det g ml[i] (by omega)) ?_
     refine oNw 4 ?_
     refine WOps.endK ?_
     refine hK4 _ ?_
     clear hK4 K4
     refine rEw ?_
     refine ⟨(i + 1, sd ++ [⟨i, h⟩], g3), lf0, v0, v0⟩
    ·
     try simp at hc3
     replace F := F.add hc3
     refine W.exit ?_
     refine hK2 _ ?_
     clear hK3 K3 hK2 K2
     have htk : List.take i sd = sd := List.take_of_length_le (by omega)
     replace F := F.add htk
     refine wD 17 [(12, [9000])] [[], [], [], [2, 1, 0], [], [], [], [6, 5, 4], [], [], [], [10], [10, 11, 9], [], [13, 9, 11, 10, 12, 8], [9, 11, 10, 12, 0, 1, 2, 3], [3, 2, 1, 0, 12, 10, 11, 9, 15, 4, 5, 6, 7], [7, 6, 5, 4, 15, 0, 1, 2, 3, 16, 8, 12, 10, 11, 9, 13, 14]] ?_
     refine dB [([62, 63, 65, 66, 67, 68, 69, 70, 71, 72, 73, 74, 75], [], [9000]), ([61, 63, 65, 66, 67, 68, 69, 70, 71, 72, 73, 74, 75], [false], [9000]), ([61, 62, 65, 66, 67, 68, 69, 70, 71, 72, 73, 74, 75], [false, false], [9000]), ([65, 66, 67, 68, 69, 70, 71, 72, 73, 74, 75], [true, true, true], [9000]), ([61, 62, 63, 64, 66, 67, 69, 70, 71, 72, 73, 74, 75, 16], [false, false, false, false], [9000]), ([61, 62, 63, 64, 65, 67, 69, 70, 71, 72, 73, 74, 75, 16], [false, false, false, false, false], [9000]), ([61, 62, 63, 64, 65, 66, 69, 70, 71, 72, 73, 74, 75, 16], [false, false, false, false, false, false], [9000]), ([61, 62, 63, 64, 69, 70, 71, 72, 73, 74, 75, 16], [false, false, false, false, true, true, true], [9000]), ([61, 62, 63, 64, 65, 66, 67, 68, 70, 71, 72, 73, 74, 16, 17], [false, false, false, false, false, false, false, false], [9000]), ([61, 62, 63, 64, 65, 66, 67, 68, 69, 71, 72, 74], [false, false, false, false, false, false, false, false, false], []), ([61, 62, 63, 64, 65, 66, 67, 68, 69, 70, 74], [false, false, false, false, false, false, false, false, false, false], []), ([61, 62, 63, 64, 65, 66, 67, 68, 69, 70, 74], [false, false, false, false, false, false, false, false, false, false, true], [])] 5 12 ?_
     refine WDraw.appI hΓ [9000] (viewB_eq (L := [61, 62, 63, 64, 65, 66, 67, 68, 69, 74]) (S := [false, false, false, false, false, false, false, false, false, true, true, true]) (O := []) (by kernel_rfl) (by kernel_rfl) (by simp [hwd, hc2, hss0, hb6, hml, hi, hsd, hc3, htk]; rfl)) (by first | rfl | simp) (by simp [hwd, hc2, hss0, hb6, hml, hi, hsd, hc3, htk]; (try (simp (disch := omega) only [wrap_i64, mul_i64, capOk_of]; (try simp [hwd, hc2, hss0, hb6, hml, hi, hsd, hc3, htk]))); first | rfl | exact ⟨rfl, rfl⟩) (by simp [hwd, hc2, hss0, hb6, hml, hi, hsd, hc3, htk, imD]; first | rfl | exact ⟨rfl, rfl⟩) (by first | rfl | simp) (by simp [hwd, hc2, hss0, hb6, hml, hi, hsd, hc3, htk]; first | done | rfl) (.inr (by simp)) (by simp [hwd, hc2, hss0, hb6, hml, hi, hsd, hc3, htk]; rfl) ?_
     refine dB [([61, 62, 63, 64, 65, 66, 67, 68, 69, 70, 71, 72, 73, 16, 17], [false, false, false, false, false, false, false, false, false, false, false, false, false], [9000]), ([61, 62, 63, 64, 65, 66, 67, 68, 16, 17], [false, false, false, false, false, false, false, false, true, true, true, true, true, true], []), ([65, 66, 67, 68, 69, 74, 75], [true, true, true, true, false, false, false, false, false, true, true, true, true, false, false], []), ([69, 74, 75], [true, true, true, true, true, true, true, true, false, true, true, true, true, false, false, true], [])] 0 17 ?_
     refine dD ?_
     refine oN 1 ?_
     refine oK [16, 17, 18] ?_
     refine W.seqk fun K5 hK5 => ?_
     obtain ⟨CS, qCS⟩ : ∃ CS, CS = [c0, c, c] := ⟨_, rfl⟩
     have hCS : [celV c0, celV c, celV c] = CS.map celV := by rw [qCS]; rfl
     obtain ⟨LS, qLS⟩ : ∃ LS, LS = [ls0, ml, ml] := ⟨_, rfl⟩
     have hLS : [lotsV ls0, lotsV ml, lotsV ml] = LS.map lotsV := by rw [qLS]; rfl
     obtain ⟨SS, qSS⟩ : ∃ SS, SS = [ss0, sd ++ [s0], ss0] := ⟨_, rfl⟩
     have hSS : [soldsV ss0, .imm (sd.map D2 ++ [soldV s0]), soldsV ss0] = SS.map soldsV := by rw [qSS]; simp
     have hCSl : CS.length = 3 := by rw [qCS]; rfl
     have hLSl : LS.length = 3 := by rw [qLS]; rfl
     have hSSl : SS.length = 3 := by rw [qSS]; rfl
     have qcs : ∀ x ∈ CS, SmallC x := fun x hx => by
       rw [qCS] at hx
       simp only [List.mem_cons, List.not_mem_nil, or_false] at hx
       rcases hx with rfl | rfl | rfl
       · exact qsc0
       · exact qmc.small
       · exact qmc.small
     have qls : ∀ x ∈ LS, x.length ≤ 40 ∧ ∀ l ∈ x, l.stays.length ≤ 15 := fun x hx => by
       have q8 : ∀ l ∈ ml, l.stays.length ≤ 15 := fun l hl => by have := (qml l hl).ok.s8; omega
       rw [qLS] at hx
       simp only [List.mem_cons, List.not_mem_nil, or_false] at hx
       rcases hx with rfl | rfl | rfl
       · exact ⟨qw5, qst0⟩
       · exact ⟨by omega, q8⟩
       · exact ⟨by omega, q8⟩
     have qss : ∀ x ∈ SS, x.length ≤ 60 := fun x hx => by
       rw [qSS] at hx
       simp only [List.mem_cons, List.not_mem_nil, or_false] at hx
       rcases hx with rfl | rfl | rfl
       · omega
       · simp; omega
       · omega
     replace F := F.add hCS |>.add hLS |>.add hSS |>.add hCSl |>.add hLSl |>.add hSSl
     refine rK [16, 17, 18, 19] ?_
     refine W.block ?_
     refine W.weaken Le.dedup ?_
     refine W.norm (by simp; rfl) ?_
     refine lpa (α := Nat) [16, 17, 18] [20, 78, 86, 91, 92, 97, 102, 118, 127, 136, 145, 150] [] (fun i => [(19, I i)]) (fun i => []) (fun i => i ≤ 3) (fun i => 3 - i) 0 v0 ?_
     ·
      intro j hI1
      simp only [List.cons_append, List.nil_append]
      try dsimp only at hI1
      replace F := F.add hI1
      refine W.seqk fun K6 hK6 => ?_
      refine rK [16, 17, 18, 19, 79] ?_
      refine it (fun hc4 => ?_) (fun hc4 => ?_)
      ·
       try simp at hc4
       replace F := F.add hc4
       refine W.skip ?_
       refine hK6 _ ?_
       clear hK6 K6
       refine W.seqk fun K7 hK7 => ?_
       refine W.block ?_
       have hi3 : j < 3 := by omega
       have hiC : j < CS.length := by omega
       have hiL : j < LS.length := by omega
       have hiS : j < SS.length := by omega
       have qsi := qcs _ (List.getElem_mem hiC)
       have qli := qls _ (List.getElem_mem hiL)
       have qsj := qss _ (List.getElem_mem hiS)
       obtain ⟨C, qC⟩ : ∃ C, C = CS[j] := ⟨_, rfl⟩
       have hC := qC.symm
       rw [← qC] at qsi
       have q1 := qsi.bx
       have q2 := qsi.fl
       have q3 := qsi.rt
       obtain ⟨LL, qL⟩ : ∃ L, L = LS[j] := ⟨_, rfl⟩
       have hL := qL.symm
       rw [← qL] at qli
       obtain ⟨SL, qS⟩ : ∃ s, s = SS[j] := ⟨_, rfl⟩
       have hS := qS.symm
       rw [← qS] at qsj
       obtain ⟨X, qX⟩ : ∃ X, sellX C LL SL = X := ⟨_, rfl⟩
       have hX := qX
       have qXl : (X.getD []).length ≤ 1000 := by
         rw [← qX, sellX]
         split
         · show (SL.map _).length ≤ 1000
           rw [List.length_map]; omega
         · show 0 ≤ 1000
           omega
       replace F := F.add hi3 |>.add hiC |>.add hiL |>.add hiS |>.add hC |>.add hL |>.add hS |>.add hX
       refine wD 17 [(15, [736])] [[], [], [1, 0], [0, 1, 2], [2, 1, 0, 3], [], [], [6, 5], [5, 6, 7], [3, 0, 1, 2, 4, 7, 6, 5, 8], [], [], [], [12, 11], [11, 12, 13], [8, 5, 6, 7, 4, 2, 1, 0, 3, 9, 13, 12, 11, 14, 10], [], [10, 14, 11, 12, 13, 9, 7, 6, 5, 8, 15, 3, 0, 1, 2, 4, 16], [16, 15, 13, 12, 11, 14, 10, 17, 8, 5, 6, 7, 4, 2, 1, 0, 3, 9], [17, 16, 18, 10, 14, 11, 12, 13, 9, 3, 0, 1, 2, 4, 7, 6, 5, 8, 15]] ?_
       refine dB [([83, 87, 88, 89, 90, 92, 93, 94, 95, 96, 20], [], []), ([82, 87, 88, 89, 90, 92, 93, 94, 95, 96, 20], [false], []), ([87, 88, 89, 90, 92, 93, 94, 95, 96, 20], [true, true], []), ([87, 88, 89, 90, 92, 93, 94, 95, 96, 20], [true, true, true], [])] 13 4 ?_
       refine dC [87, 88, 89, 90, 92, 93, 94, 95, 96, 20] [true, true, true, true] [] [] ?_
       refine cd (CopyCellar_imm C (by omega) (by omega) (by omega)) ?_
       refine dB [([82, 83, 84, 85, 86, 88, 92, 93, 94, 95, 96, 20], [false, false, false, false, false], []), ([82, 83, 84, 85, 86, 87, 92, 93, 94, 95, 96, 20], [false, false, false, false, false, false], []), ([82, 83, 84, 85, 86, 92, 93, 94, 95, 96, 20], [false, false, false, false, false, true, true], []), ([82, 83, 84, 85, 86, 92, 93, 94, 95, 96, 20], [false, false, false, false, false, true, true, true], [])] 8 9 ?_
       refine dC [92, 93, 94, 95, 96, 20] [true, true, true, true, true, true, true, true, true] [] [] ?_
       refine cd (CopyLots_imm LL (by omega) (fun l hl => by have := qli.2 l hl; omega)) ?_
       refine dB [([82, 83, 84, 85, 86, 87, 88, 89, 90, 91, 93, 94, 95, 96, 20], [false, false, false, false, false, false, false, false, false, false], []), ([82, 83, 84, 85, 86, 87, 88, 89, 90, 91, 92, 94, 20], [false, false, false, false, false, false, false, false, false, false, false], []), ([82, 83, 84, 85, 86, 87, 88, 89, 90, 91, 92, 93, 20], [false, false, false, false, false, false, false, false, false, false, false, false], []), ([82, 83, 84, 85, 86, 87, 88, 89, 90, 91, 92, 20], [false, false, false, false, false, false, false, false, false, false, false, true, true], []), ([82, 83, 84, 85, 86, 87, 88, 89, 90, 91, 92, 20], [false, false, false, false, false, false, false, false, false, false, false, true, true, true], [])] 2 15 ?_
       refine dAw [20] [true, true, true, true, true, true, true, true, true, true, true, true, true, true, true] [] [736] ?_
       refine dB [([82, 83, 84, 85, 86, 87, 88, 89, 90, 91, 92, 93, 94, 95, 96, 97], [false, false, false, false, false, false, false, false, false, false, false, false, false, false, false, false], [736])] 0 17 ?_
       refine dD ?_
       refine oN 3 ?_
       refine oK [16, 17, 18, 19, 20, 21, 22] ?_
       refine W.weaken (Le.freeze (id := 776) (by simp [hwd, hc2, hss0, hb6, hml, hi, hsd, hc3, htk, hCS, hLS, hSS, hCSl, hLSl, hSSl, hI1, hc4, hi3, hiC, hiL, hiS, hC, hL, hS, hX]; rfl)) ?_
       refine W.seqR ?_
       refine oN 3 ?_
       refine oC [] ?_
       refine ct (Sell_ok C LL SL) ?_
       refine oN 5 ?_
       refine oK [16, 17, 18, 19, 20, 21, 22, 23, 24] ?_
       refine wD 17 [] [[], [], [1, 0], [0, 1, 2], [], [], [5, 4], [4, 5, 6], [], [], [9, 8], [8, 9, 10], [10, 9, 8, 11, 6, 5, 4, 7, 2, 1, 0, 3], [3, 0, 1, 2, 7, 4, 5, 6, 11, 8, 9, 10, 12], [12, 10, 9, 8, 11, 6, 5, 4, 7, 2, 1, 0, 3, 13], [12, 10, 9, 8, 11, 6, 5, 4, 7, 2, 1, 0, 3, 13], [13, 3, 0, 1, 2, 7, 4, 5, 6, 11, 8, 9, 10, 12, 14], [14, 16, 13, 3, 0, 1, 2, 7, 4, 5, 6, 11, 8, 9, 10, 12, 15]] ?_
       refine dB [([107, 110, 111, 112, 113, 114, 115, 116, 117], [], []), ([106, 110, 111, 112, 113, 114, 115, 116, 117], [false], []), ([110, 111, 112, 113, 114, 115, 116, 117], [true, true], []), ([110, 111, 112, 113, 114, 115, 116, 117], [true, true, true], []), ([106, 107, 108, 109, 111, 114, 115, 116, 117], [false, false, false, false], []), ([106, 107, 108, 109, 110, 114, 115, 116, 117], [false, false, false, false, false], []), ([106, 107, 108, 109, 114, 115, 116, 117], [false, false, false, false, true, true], []), ([106, 107, 108, 109, 114, 115, 116, 117], [false, false, false, false, true, true, true], []), ([106, 107, 108, 109, 110, 111, 112, 113, 115], [false, false, false, false, false, false, false, false], []), ([106, 107, 108, 109, 110, 111, 112, 113, 114], [false, false, false, false, false, false, false, false, false], []), ([106, 107, 108, 109, 110, 111, 112, 113], [false, false, false, false, false, false, false, false, true, true], []), ([106, 107, 108, 109, 110, 111, 112, 113], [false, false, false, false, false, false, false, false, true, true, true], [])] 5 12 ?_
       refine dC [] [true, true, true, true, true, true, true, true, true, true, true, true] [] [] ?_
       refine cd (rSell_ok C LL SL) ?_
       refine dB [([], [true, true, true, true, true, true, true, true, true, true, true, true, true], []), ([120], [true, true, true, true, true, true, true, true, true, true, true, true, true, true], []), ([119, 25], [true, true, true, true, true, true, true, true, true, true, true, true, true, true, false], []), ([120], [true, true, true, true, true, true, true, true, true, true, true, true, true, true, true, false], [])] 0 17 ?_
       refine dD ?_
       refine oN 1 ?_
       refine oK [16, 17, 18, 19, 20, 21, 22, 23, 24, 25, 26] ?_
       refine W.seqk fun K8 hK8 => ?_
       refine wD 24 [] [[], [], [1, 0], [0, 1, 2], [2, 1, 0, 3], [2, 1, 0, 3], [5, 3, 0, 1, 2, 4], [4, 2, 1, 0, 3, 5, 6], [6, 5, 4, 7, 2, 1, 0, 3], [3, 0, 1, 2, 7, 4, 5, 6, 8], [8, 6, 5, 4, 7, 2, 1, 0, 3, 9], [8, 6, 5, 4, 7, 2, 1, 0, 3, 9], [8, 6, 5, 4, 7, 2, 1, 0, 3, 9], [12, 9, 3, 0, 1, 2, 7, 4, 5, 6, 8, 11], [11, 8, 6, 5, 4, 7, 2, 1, 0, 3, 9, 12, 13], [13, 12, 11, 14, 9, 3, 0, 1, 2, 7, 4, 5, 6, 8, 10], [10, 8, 6, 5, 4, 7, 2, 1, 0, 3, 9, 14, 11, 12, 13, 15], [15, 13, 12, 11, 14, 10, 16, 8, 6, 5, 4, 7, 2, 1, 0, 3, 9], [9, 3, 0, 1, 2, 7, 4, 5, 6, 8, 16, 10, 14, 11, 12, 13, 15, 17], [17, 15, 13, 12, 11, 14, 10, 16, 8, 6, 5, 4, 7, 2, 1, 0, 3, 9, 18], [17, 15, 13, 12, 11, 14, 10, 16, 8, 6, 5, 4, 7, 2, 1, 0, 3, 9, 18], [17, 15, 13, 12, 11, 14, 10, 16, 8, 6, 5, 4, 7, 2, 1, 0, 3, 9, 18], [21, 18, 9, 3, 0, 1, 2, 7, 4, 5, 6, 8, 16, 10, 14, 11, 12, 13, 15, 17, 20], [20, 17, 15, 13, 12, 11, 14, 10, 16, 8, 6, 5, 4, 7, 2, 1, 0, 3, 9, 18, 21, 22], [22, 21, 20, 23, 18, 9, 3, 0, 1, 2, 7, 4, 5, 6, 8, 16, 10, 14, 11, 12, 13, 15, 17, 19], [19, 17, 15, 13, 12, 11, 14, 10, 16, 8, 6, 5, 4, 7, 2, 1, 0, 3, 9, 18, 23, 20, 21, 22, 24], [24, 22, 21, 20, 23, 19, 25, 17, 15, 13, 12, 11, 14, 10, 16, 8, 6, 5, 4, 7, 2, 1, 0, 3, 9, 18]] ?_
       refine dB [([122], [], []), ([121], [false], []), ([], [true, true], []), ([], [true, true, true], [])] 20 4 ?_
       refine dT [126] [true, true, true, true] [] ?_
       refine dT [125] [true, true, true, true, false] [] ?_
       refine dG [] [true, true, true, true, true, true] [] [] ?_
       refine cd (SameErrors_ok (X.getD []) qXl) ?_
       refine dT [] [true, true, true, true, true, true, true] [] ?_
       refine dB [([], [true, true, true, true, true, true, true, true], []), ([], [true, true, true, true, true, true, true, true, true], [])] 14 10 ?_
       refine dT [132, 133, 134, 135] [true, true, true, true, true, true, true, true, true, true] [] ?_
       refine dT [131, 133] [true, true, true, true, true, true, true, true, true, true, false] [] ?_
       refine dT [131, 132] [true, true, true, true, true, true, true, true, true, true, false, false] [] ?_
       refine dT [131] [true, true, true, true, true, true, true, true, true, true, false, true, true] [] ?_
       refine dT [131] [true, true, true, true, true, true, true, true, true, true, false, true, true, true] [] ?_
       refine dG [] [true, true, true, true, true, true, true, true, true, true, true, true, true, true, true] [] [] ?_
       refine cd (SameCellars_ok C (by omega) (by omega) (by omega)) ?_
       refine dT [] [true, true, true, true, true, true, true, true, true, true, true, true, true, true, true, true] [] ?_
       refine dB [([], [true, true, true, true, true, true, true, true, true, true, true, true, true, true, true, true, true], []), ([], [true, true, true, true, true, true, true, true, true, true, true, true, true, true, true, true, true, true], [])] 5 19 ?_
       refine dT [141, 142, 143, 144] [true, true, true, true, true, true, true, true, true, true, true, true, true, true, true, true, true, true, true] [] ?_
       refine dT [140, 142] [true, true, true, true, true, true, true, true, true, true, true, true, true, true, true, true, true, true, true, false] [] ?_
       refine dT [140, 141] [true, true, true, true, true, true, true, true, true, true, true, true, true, true, true, true, true, true, true, false, false] [] ?_
       refine dT [140] [true, true, true, true, true, true, true, true, true, true, true, true, true, true, true, true, true, true, true, false, true, true] [] ?_
       refine dT [140] [true, true, true, true, true, true, true, true, true, true, true, true, true, true, true, true, true, true, true, false, true, true, true] [] ?_
       refine dD ?_
       refine gC [] ?_
       refine ct (SameLots_ok LL (by omega) (fun l hl => by have := qli.2 l hl; omega)) ?_
       refine gT ?_
       refine oN 1 ?_
       refine oK [16, 17, 18, 19, 22, 147] ?_
       refine cF ?_
       refine W.skip ?_
       refine hK8 _ ?_
       clear hK8 K8
       refine rK [16, 17, 18, 19, 22, 27] ?_
       refine W.block ?_
       refine W.weaken Le.dedup ?_
       refine W.norm (by simp; rfl) ?_
       refine lpa (α := Nat) [16, 17, 18, 19, 22] [150] [] (fun k => [(27, I k)]) (fun k => []) (fun k => k ≤ SL.length) (fun k => SL.length - k) 0 v0 ?_
       ·
        intro k hI2
        simp only [List.cons_append, List.nil_append]
        try dsimp only at hI2
        replace F := F.add hI2
        refine W.seqk fun K9 hK9 => ?_
        refine rK [16, 17, 18, 19, 22, 27, 151] ?_
        refine it (fun hc6 => ?_) (fun hc6 => ?_)
        ·
         try simp at hc6
         replace F := F.add hc6
         refine W.skip ?_
         refine hK9 _ ?_
         clear hK9 K9
         refine W.seqk fun K10 hK10 => ?_
         refine W.block ?_
         refine wD 11 [] [[], [], [1, 0], [0, 1, 2], [], [], [5, 4], [4, 5, 6], [], [8, 6, 5, 4, 7], [7, 4, 5, 6, 8, 9], [9, 8, 6, 5, 4, 7, 10, 2, 1, 0, 3]] ?_
         refine dB [([155, 158, 159, 160, 161, 162, 163, 164], [], []), ([154, 158, 159, 160, 161, 162, 163, 164], [false], []), ([158, 159, 160, 161, 162, 163, 164], [true, true], []), ([158, 159, 160, 161, 162, 163, 164], [true, true, true], []), ([154, 155, 156, 157, 159, 162], [false, false, false, false], []), ([154, 155, 156, 157, 158, 162], [false, false, false, false, false], []), ([154, 155, 156, 157, 162], [false, false, false, false, true, true], []), ([154, 155, 156, 157, 162], [false, false, false, false, true, true, true], []), ([154, 155, 156, 157, 158, 159, 160, 161], [false, false, false, false, false, false, false, false], []), ([154, 155, 156, 157], [false, false, false, false, true, true, true, true, true], []), ([154, 155, 156, 157], [false, false, false, false, true, true, true, true, true, true], [])] 0 11 ?_
         refine dD ?_
         refine oN 1 ?_
         refine oK [16, 17, 18, 19, 22, 27, 165] ?_
         refine cF ?_
         refine W.skip ?_
         refine hK10 _ ?_
         clear hK10 K10
         refine rEw ?_
         refine ⟨k + 1, lf0, v0, v0⟩
        ·
         try simp at hc6
         replace F := F.add hc6
         refine W.exit ?_
         refine hK7 _ ?_
         clear hK9 K9 hK7 K7
         refine rEw ?_
         refine ⟨j + 1, lf0, v0, v0⟩
      ·
       try simp at hc4
       replace F := F.add hc4
       refine W.exit ?_
       refine hK5 _ ?_
       clear hK6 K6 hK5 K5
       refine W.seqR ?_
       refine oC [] ?_
       refine ct (awake_ok) ?_
       refine oN 1 ?_
       refine oK [10] ?_
       refine W.ret ?_
       exact er0 false [] []
end Go.Sim
