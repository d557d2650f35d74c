/- What a lot has lost, by program and reference: the law answers true. -/
import Derived.Test.YtfenmmjeppehaaaLp
import Derived.Test.YtfenmmjeppehaaaLi
import Derived.Test.YtfenmmjeppehaaaLj
import Derived.Test.YtfenmmjeppehaaaLo
namespace Go.Sim
open Go.Proofs
set_option maxRecDepth 100000
set_option linter.unusedSimpArgs false
set_option linter.unusedVariables false
attribute [-simp] List.map_set List.map_take List.map_drop
set_option maxHeartbeats 4000000 in
theorem ColdLosses_ok (c0 : Cel) (l0 : CLot) (hour : Int) (nums : List Int) : ACalls Try.prog 5 [celV c0, lotV l0, I hour, ints nums] [] (fun r o => r = B true ∧ o = []) := by
 have F := Fx.nil
 refine ent Try.func5 Try.ntmps5 Try.results5 ?_
 refine rK [2, 3, 4, 5] ?_
 refine W.seqk fun K1 hK1 => ?_
 refine W.seqR ?_
 refine oN 3 ?_
 refine oC [] ?_
 refine CallT.mkE (wide_ok c0 [l0]) (fun z33 hz33 => ⟨(by simp), ?_⟩)
 have qw := hz33
 refine WOps.norm (by simp; rfl) ?_
 refine oK [2, 3, 4, 5, 33] ?_
 refine it (fun hc1 => ?_) (fun hc1 => ?_)
 ·
  try simp at hc1
  replace F := F.add hc1
  refine W.seqR ?_
  refine oC [] ?_
  refine ct (awake_ok) ?_
  refine oN 1 ?_
  refine oK [8] ?_
  refine W.ret ?_
  refine tr ?_
  clear hK1 K1
  exact er0 false [] []
 ·
  try simp at hc1
  replace F := F.add hc1
  refine W.skip ?_
  refine hK1 _ ?_
  clear hK1 K1
  refine W.seqR ?_
  refine oN 1 ?_
  refine oC [] ?_
  refine ct (DieOf_ok _) ?_
  refine oN 1 ?_
  refine oK [2, 4, 5, 9] ?_
  have qsc0 : SmallC c0 := by
    obtain ⟨_, q2, q3, q4, _⟩ := qw (by simpa using hc1)
    exact ⟨q2, q3, q4⟩
  have qsl0 : l0.stays.length ≤ 15 := by
    obtain ⟨q1, _⟩ := qw (by simpa using hc1)
    exact q1 l0 (by simp)
  refine W.seqR ?_
  refine oN 1 ?_
  refine oC [(10000, 288)] ?_
  refine CallT.mkE (CellarOf_ok _ 3 5 (by omega) (by omega)) (fun z38 hz38 => ⟨(by simp [hc1]), ?_⟩)
  obtain ⟨c, g1⟩ := z38
  have qmc : MadeC c 3 5 := hz38
  have qv := qmc.ok
  have hb6 : c.boxes.length ≤ 1000 := by have := qmc.bx; omega
  replace F := F.add hb6
  refine WOps.norm (by simp [hc1, hb6]; rfl) ?_
  refine oN 2 ?_
  refine oK [2, 4, 5, 9, 10] ?_
  refine W.seqR ?_
  refine oN 2 ?_
  refine oC [(10000, 288)] ?_
  refine CallT.mkE (LotOf_ok g1 c hb6 4 (by omega)) (fun z41 hz41 => ⟨(by simp [hc1, hb6]), ?_⟩)
  obtain ⟨l, g2⟩ := z41
  have qml : MadeT c l := hz41
  have ql := qml.ok
  have hbn : 0 ≤ l.born ∧ l.born ≤ 9 := ⟨ql.born.1, qml.born⟩
  replace F := F.add hbn
  refine WOps.norm (by simp [hc1, hb6, hbn]; rfl) ?_
  refine oN 2 ?_
  refine oK [2, 4, 5, 9, 10, 11] ?_
  obtain ⟨h, qh⟩ : ∃ h, hourV g2 l = h := ⟨_, rfl⟩
  obtain ⟨g3, qg3⟩ : ∃ g, hourF g2 = g := ⟨_, rfl⟩
  have hh := qh
  have hg3 := qg3
  replace F := F.add hh |>.add hg3
  refine wD 16 [(11, [288])] [[], [], [], [2, 1, 0], [], [], [], [6, 5, 4], [], [], [], [10, 9], [], [12, 9, 10, 11, 8], [9, 10, 11, 0, 1, 2, 3], [3, 2, 1, 0, 11, 10, 9, 14, 4, 5, 6, 7], [7, 6, 5, 4, 14, 0, 1, 2, 3, 15, 8, 11, 10, 9, 12, 13]] ?_
  refine dB [([43, 44, 46, 47, 48, 49, 50, 51, 52, 53, 54, 55], [], [288]), ([42, 44, 46, 47, 48, 49, 50, 51, 52, 53, 54, 55], [false], [288]), ([42, 43, 46, 47, 48, 49, 50, 51, 52, 53, 54, 55], [false, false], [288]), ([46, 47, 48, 49, 50, 51, 52, 53, 54, 55], [true, true, true], [288]), ([42, 43, 44, 45, 47, 48, 50, 51, 52, 53, 54, 55, 12], [false, false, false, false], [288]), ([42, 43, 44, 45, 46, 48, 50, 51, 52, 53, 54, 55, 12], [false, false, false, false, false], [288]), ([42, 43, 44, 45, 46, 47, 50, 51, 52, 53, 54, 55, 12], [false, false, false, false, false, false], [288]), ([42, 43, 44, 45, 50, 51, 52, 53, 54, 55, 12], [false, false, false, false, true, true, true], [288]), ([42, 43, 44, 45, 46, 47, 48, 49, 51, 52, 53, 54, 12, 13], [false, false, false, false, false, false, false, false], [288]), ([42, 43, 44, 45, 46, 47, 48, 49, 50, 52, 54], [false, false, false, false, false, false, false, false, false], []), ([42, 43, 44, 45, 46, 47, 48, 49, 50, 51, 54], [false, false, false, false, false, false, false, false, false, false], [])] 5 11 ?_
  refine dC [42, 43, 44, 45, 46, 47, 48, 49, 50, 54] [false, false, false, false, false, false, false, false, false, true, true] [] [(10000, 288)] ?_
  refine cd (HourOf_det g2 l (by omega)) ?_
  refine dB [([42, 43, 44, 45, 46, 47, 48, 49, 50, 51, 52, 53, 12, 13], [false, false, false, false, false, false, false, false, false, false, false, false], [288]), ([42, 43, 44, 45, 46, 47, 48, 49, 12, 13], [false, false, false, false, false, false, false, false, true, true, true, true, true], []), ([46, 47, 48, 49, 50, 54, 55], [true, true, true, true, false, false, false, false, false, true, true, true, false, false], []), ([50, 54, 55], [true, true, true, true, true, true, true, true, false, true, true, true, false, false, true], [])] 0 16 ?_
  refine dD ?_
  refine oN 1 ?_
  refine oK [12, 13, 14] ?_
  refine W.seqk fun K2 hK2 => ?_
  obtain ⟨CS, qCS⟩ : ∃ CS, CS = [c0, c, c] := ⟨_, rfl⟩
  have hCS : [celV c0, celV c, celV c] = CS.map celV := by rw [qCS]; rfl
  obtain ⟨LS, qLS⟩ : ∃ LS, LS = [l0, l, l] := ⟨_, rfl⟩
  have hLS : [lotV l0, lotV l, lotV l] = LS.map lotV := by rw [qLS]; rfl
  obtain ⟨HS, qHS⟩ : ∃ HS, HS = [hour, h, hour] := ⟨_, rfl⟩
  have hHS : [I hour, I h, I hour] = HS.map I := by rw [qHS]; rfl
  have hCSl : CS.length = 3 := by rw [qCS]; rfl
  have hLSl : LS.length = 3 := by rw [qLS]; rfl
  have hHSl : HS.length = 3 := by rw [qHS]; rfl
  have qcs : ∀ x ∈ CS, SmallC x := fun x hx => by
    rw [qCS] at hx
    simp only [List.mem_cons, List.not_mem_nil, or_false] at hx
    rcases hx with rfl | rfl | rfl
    · exact qsc0
    · exact qmc.small
    · exact qmc.small
  have qls : ∀ x ∈ LS, x.stays.length ≤ 15 := fun x hx => by
    have := ql.s8
    rw [qLS] at hx
    simp only [List.mem_cons, List.not_mem_nil, or_false] at hx
    rcases hx with rfl | rfl | rfl
    · exact qsl0
    · omega
    · omega
  replace F := F.add hCS |>.add hLS |>.add hHS |>.add hCSl |>.add hLSl |>.add hHSl
  refine rK [12, 13, 14, 15] ?_
  refine W.block ?_
  refine lpa (α := Nat) [12, 13, 14] [16, 17, 18, 20, 58, 66, 71, 79, 95, 105, 121, 127, 139, 176, 181, 187] [288] (fun i => [(15, I i)]) (fun i => [(288, die g3)]) (fun i => i ≤ 3) (fun i => 3 - i) 0 v0 ?_
  ·
   intro i hI0
   simp only [List.cons_append, List.nil_append]
   try dsimp only at hI0
   replace F := F.add hI0
   refine W.seqk fun K3 hK3 => ?_
   refine rK [12, 13, 14, 15, 59] ?_
   refine it (fun hc2 => ?_) (fun hc2 => ?_)
   ·
    try simp at hc2
    replace F := F.add hc2
    refine W.skip ?_
    refine hK3 _ ?_
    clear hK3 K3
    refine W.seqk fun K4 hK4 => ?_
    refine W.block ?_
    have hi3 : i < 3 := by omega
    have hiC : i < CS.length := by omega
    have hiL : i < LS.length := by omega
    have hiH : i < HS.length := by omega
    have qsi := qcs _ (List.getElem_mem hiC)
    have qli := qls _ (List.getElem_mem hiL)
    obtain ⟨C, qC⟩ : ∃ C, C = CS[i] := ⟨_, rfl⟩
    have hC := qC.symm
    have qsC : SmallC C := by rw [qC]; exact qsi
    have q1 := qsC.bx
    have q2 := qsC.fl
    have q3 := qsC.rt
    obtain ⟨L, qL⟩ : ∃ L, L = LS[i] := ⟨_, rfl⟩
    have hL := qL.symm
    have qsL : L.stays.length ≤ 15 := by rw [qL]; exact qli
    obtain ⟨t, qt⟩ : ∃ t, t = HS[i] := ⟨_, rfl⟩
    have ht := qt.symm
    replace F := F.add hi3 |>.add hiC |>.add hiL |>.add hiH |>.add hC |>.add hL |>.add ht
    refine wD 12 [] [[], [], [1, 0], [0, 1, 2], [2, 1, 0, 3], [], [], [6, 5], [5, 6, 7], [3, 0, 1, 2, 4, 7, 6, 5, 8], [], [], [11, 8, 5, 6, 7, 9, 3, 0, 1, 2, 4, 10], [10, 12, 8, 5, 6, 7, 4, 2, 1, 0, 3, 9, 11]] ?_
    refine dB [([63, 67, 68, 69, 70, 16, 17], [], []), ([62, 67, 68, 69, 70, 16, 17], [false], []), ([67, 68, 69, 70, 16, 17], [true, true], []), ([67, 68, 69, 70, 16, 17], [true, true, true], [])] 8 4 ?_
    refine dC [67, 68, 69, 70, 16, 17] [true, true, true, true] [] [] ?_
    refine cd (CopyCellar_imm C (by omega) (by omega) (by omega)) ?_
    refine dB [([62, 63, 64, 65, 66, 68, 16, 17], [false, false, false, false, false], []), ([62, 63, 64, 65, 66, 67, 16, 17], [false, false, false, false, false, false], []), ([62, 63, 64, 65, 66, 16, 17], [false, false, false, false, false, true, true], []), ([62, 63, 64, 65, 66, 16, 17], [false, false, false, false, false, true, true, true], [])] 3 9 ?_
    refine dC [16, 17] [true, true, true, true, true, true, true, true, true] [] [] ?_
    refine cd (CopyLot_imm L (by omega)) ?_
    refine dB [([62, 63, 64, 65, 66, 67, 68, 69, 70, 71, 17], [false, false, false, false, false, false, false, false, false, false], []), ([62, 63, 64, 65, 66, 67, 68, 69, 70, 71, 16], [false, false, false, false, false, false, false, false, false, false, false], [])] 0 12 ?_
    refine dD ?_
    refine oN 2 ?_
    refine oK [12, 13, 14, 15, 16, 17] ?_
    refine wD 12 [(11, [144])] [[], [], [], [], [3, 2], [2, 3, 4], [4, 3, 2, 5, 1, 0], [0, 1, 5, 2, 3, 4, 6], [6, 4, 3, 2, 5, 1, 0, 7], [6, 4, 3, 2, 5, 1, 0, 7], [], [7, 0, 1, 5, 2, 3, 4, 6, 8, 10], [10, 8, 11, 7, 0, 1, 5, 2, 3, 4, 6, 9]] ?_
    refine dB [([74, 75, 76, 77, 78, 18], [], []), ([73, 75, 76, 77, 78, 18], [false], []), ([73, 74, 76, 18], [false, false], []), ([73, 74, 75, 18], [false, false, false], []), ([73, 74, 18], [false, false, true, true], []), ([73, 74, 18], [false, false, true, true, true], [])] 6 6 ?_
    refine dC [18] [true, true, true, true, true, true] [] [] ?_
    refine cd (Lost_ok C L t) ?_
    refine dB [([18], [true, true, true, true, true, true, true], []), ([81, 18], [true, true, true, true, true, true, true, true], []), ([80, 18], [true, true, true, true, true, true, true, true, false], [144]), ([73, 74, 75, 76, 77, 78, 79, 72, 80, 81], [false, false, false, false, false, false, false, false, false, false], [])] 1 11 ?_
    refine WDraw.upd hΓ [144] (viewB_eq (L := [81]) (S := [true, true, true, true, true, true, true, true, true, false, true]) (O := []) (by kernel_rfl) (by kernel_rfl) (by simp [hc1, hb6, hbn, hh, hg3, hCS, hLS, hHS, hCSl, hLSl, hHSl, hI0, hc2, hi3, hiC, hiL, hiH, hC, hL, ht]; rfl)) (by first | rfl | simp) (by simp [hc1, hb6, hbn, hh, hg3, hCS, hLS, hHS, hCSl, hLSl, hHSl, hI0, hc2, hi3, hiC, hiL, hiH, hC, hL, ht]; first | rfl | exact ⟨rfl, rfl⟩) (by simp [hc1, hb6, hbn, hh, hg3, hCS, hLS, hHS, hCSl, hLSl, hHSl, hI0, hc2, hi3, hiC, hiL, hiH, hC, hL, ht]; first | done | rfl) (.inr (by simp)) (by simp [hc1, hb6, hbn, hh, hg3, hCS, hLS, hHS, hCSl, hLSl, hHSl, hI0, hc2, hi3, hiC, hiL, hiH, hC, hL, ht]; rfl) ?_
    refine dD ?_
    refine WOps.le Le.dedup rfl rfl ?_
    refine WOps.norm (by simp [hc1, hb6, hbn, hh, hg3, hCS, hLS, hHS, hCSl, hLSl, hHSl, hI0, hc2, hi3, hiC, hiL, hiH, hC, hL, ht]; rfl) ?_
    refine oN 1 ?_
    refine oK [12, 13, 14, 15, 16, 17, 18, 19] ?_
    refine wD 18 [(17, [160])] [[], [], [1, 0], [0, 1, 2], [], [], [5, 4], [4, 5, 6], [], [], [9, 8], [8, 9, 10], [10, 9, 8, 11, 6, 5, 4, 7, 2, 1, 0, 3], [3, 0, 1, 2, 7, 4, 5, 6, 11, 8, 9, 10, 12], [12, 10, 9, 8, 11, 6, 5, 4, 7, 2, 1, 0, 3, 13], [12, 10, 9, 8, 11, 6, 5, 4, 7, 2, 1, 0, 3, 13], [], [13, 3, 0, 1, 2, 7, 4, 5, 6, 11, 8, 9, 10, 12, 14, 16], [16, 14, 17, 13, 3, 0, 1, 2, 7, 4, 5, 6, 11, 8, 9, 10, 12, 15]] ?_
    refine dB [([84, 87, 88, 89, 90, 91, 92, 93, 94, 20], [], []), ([83, 87, 88, 89, 90, 91, 92, 93, 94, 20], [false], []), ([87, 88, 89, 90, 91, 92, 93, 94, 20], [true, true], []), ([87, 88, 89, 90, 91, 92, 93, 94, 20], [true, true, true], []), ([83, 84, 85, 86, 88, 91, 92, 93, 94, 20], [false, false, false, false], []), ([83, 84, 85, 86, 87, 91, 92, 93, 94, 20], [false, false, false, false, false], []), ([83, 84, 85, 86, 91, 92, 93, 94, 20], [false, false, false, false, true, true], []), ([83, 84, 85, 86, 91, 92, 93, 94, 20], [false, false, false, false, true, true, true], []), ([83, 84, 85, 86, 87, 88, 89, 90, 92, 20], [false, false, false, false, false, false, false, false], []), ([83, 84, 85, 86, 87, 88, 89, 90, 91, 20], [false, false, false, false, false, false, false, false, false], []), ([83, 84, 85, 86, 87, 88, 89, 90, 20], [false, false, false, false, false, false, false, false, true, true], []), ([83, 84, 85, 86, 87, 88, 89, 90, 20], [false, false, false, false, false, false, false, false, true, true, true], [])] 6 12 ?_
    refine dC [20] [true, true, true, true, true, true, true, true, true, true, true, true] [] [] ?_
    refine cd (rLost_ok C L t) ?_
    refine dB [([20], [true, true, true, true, true, true, true, true, true, true, true, true, true], []), ([97, 20], [true, true, true, true, true, true, true, true, true, true, true, true, true, true], []), ([96, 20], [true, true, true, true, true, true, true, true, true, true, true, true, true, true, false], [160]), ([83, 84, 85, 86, 87, 88, 89, 90, 91, 92, 93, 94, 95, 82, 96, 97], [false, false, false, false, false, false, false, false, false, false, false, false, false, false, false, false], [])] 1 17 ?_
    refine WDraw.upd hΓ [160] (viewB_eq (L := [97]) (S := [true, true, true, true, true, true, true, true, true, true, true, true, true, true, true, false, true]) (O := []) (by kernel_rfl) (by kernel_rfl) (by simp [hc1, hb6, hbn, hh, hg3, hCS, hLS, hHS, hCSl, hLSl, hHSl, hI0, hc2, hi3, hiC, hiL, hiH, hC, hL, ht]; rfl)) (by first | rfl | simp) (by simp [hc1, hb6, hbn, hh, hg3, hCS, hLS, hHS, hCSl, hLSl, hHSl, hI0, hc2, hi3, hiC, hiL, hiH, hC, hL, ht]; first | rfl | exact ⟨rfl, rfl⟩) (by simp [hc1, hb6, hbn, hh, hg3, hCS, hLS, hHS, hCSl, hLSl, hHSl, hI0, hc2, hi3, hiC, hiL, hiH, hC, hL, ht]; first | done | rfl) (.inr (by simp)) (by simp [hc1, hb6, hbn, hh, hg3, hCS, hLS, hHS, hCSl, hLSl, hHSl, hI0, hc2, hi3, hiC, hiL, hiH, hC, hL, ht]; rfl) ?_
    refine dD ?_
    refine WOps.le Le.dedup rfl rfl ?_
    refine WOps.norm (by simp [hc1, hb6, hbn, hh, hg3, hCS, hLS, hHS, hCSl, hLSl, hHSl, hI0, hc2, hi3, hiC, hiL, hiH, hC, hL, ht]; rfl) ?_
    refine oN 1 ?_
    refine oK [12, 13, 14, 15, 16, 17, 18, 19, 20, 21] ?_
    refine wD 11 [] [[], [], [], [], [3, 2], [2, 3, 4], [4, 3, 2, 5, 1, 0], [0, 1, 5, 2, 3, 4, 6], [6, 4, 3, 2, 5, 1, 0, 7], [6, 4, 3, 2, 5, 1, 0, 7], [7, 0, 1, 5, 2, 3, 4, 6, 8], [8, 10, 7, 0, 1, 5, 2, 3, 4, 6, 9]] ?_
    refine dB [([100, 101, 102, 103, 104], [], []), ([99, 101, 102, 103, 104], [false], []), ([99, 100, 102], [false, false], []), ([99, 100, 101], [false, false, false], []), ([99, 100], [false, false, true, true], []), ([99, 100], [false, false, true, true, true], [])] 5 6 ?_
    refine dC [] [true, true, true, true, true, true] [] [] ?_
    refine cd (Fresh_ok C L t) ?_
    refine dB [([], [true, true, true, true, true, true, true], []), ([107], [true, true, true, true, true, true, true, true], []), ([106, 22], [true, true, true, true, true, true, true, true, false], []), ([107], [true, true, true, true, true, true, true, true, true, false], [])] 0 11 ?_
    refine dD ?_
    refine oN 1 ?_
    refine oK [12, 13, 14, 15, 16, 17, 18, 19, 20, 21, 22, 23] ?_
    refine wD 17 [] [[], [], [1, 0], [0, 1, 2], [], [], [5, 4], [4, 5, 6], [], [], [9, 8], [8, 9, 10], [10, 9, 8, 11, 6, 5, 4, 7, 2, 1, 0, 3], [3, 0, 1, 2, 7, 4, 5, 6, 11, 8, 9, 10, 12], [12, 10, 9, 8, 11, 6, 5, 4, 7, 2, 1, 0, 3, 13], [12, 10, 9, 8, 11, 6, 5, 4, 7, 2, 1, 0, 3, 13], [13, 3, 0, 1, 2, 7, 4, 5, 6, 11, 8, 9, 10, 12, 14], [14, 16, 13, 3, 0, 1, 2, 7, 4, 5, 6, 11, 8, 9, 10, 12, 15]] ?_
    refine dB [([110, 113, 114, 115, 116, 117, 118, 119, 120], [], []), ([109, 113, 114, 115, 116, 117, 118, 119, 120], [false], []), ([113, 114, 115, 116, 117, 118, 119, 120], [true, true], []), ([113, 114, 115, 116, 117, 118, 119, 120], [true, true, true], []), ([109, 110, 111, 112, 114, 117, 118, 119, 120], [false, false, false, false], []), ([109, 110, 111, 112, 113, 117, 118, 119, 120], [false, false, false, false, false], []), ([109, 110, 111, 112, 117, 118, 119, 120], [false, false, false, false, true, true], []), ([109, 110, 111, 112, 117, 118, 119, 120], [false, false, false, false, true, true, true], []), ([109, 110, 111, 112, 113, 114, 115, 116, 118], [false, false, false, false, false, false, false, false], []), ([109, 110, 111, 112, 113, 114, 115, 116, 117], [false, false, false, false, false, false, false, false, false], []), ([109, 110, 111, 112, 113, 114, 115, 116], [false, false, false, false, false, false, false, false, true, true], []), ([109, 110, 111, 112, 113, 114, 115, 116], [false, false, false, false, false, false, false, false, true, true, true], [])] 5 12 ?_
    refine dC [] [true, true, true, true, true, true, true, true, true, true, true, true] [] [] ?_
    refine cd (rFresh_ok C L t) ?_
    refine dB [([], [true, true, true, true, true, true, true, true, true, true, true, true, true], []), ([123], [true, true, true, true, true, true, true, true, true, true, true, true, true, true], []), ([122, 24], [true, true, true, true, true, true, true, true, true, true, true, true, true, true, false], []), ([123], [true, true, true, true, true, true, true, true, true, true, true, true, true, true, true, false], [])] 0 17 ?_
    refine dD ?_
    refine oN 1 ?_
    refine oK [12, 13, 14, 15, 16, 17, 18, 19, 20, 21, 22, 23, 24, 25] ?_
    refine W.seqR ?_
    refine oN 2 ?_
    refine oC [] ?_
    refine ct (Last_ok C L) ?_
    refine oN 5 ?_
    refine oK [12, 13, 14, 15, 16, 17, 18, 19, 20, 21, 22, 23, 24, 25, 26, 27] ?_
    refine wD 13 [] [[], [], [1, 0], [0, 1, 2], [], [], [5, 4], [4, 5, 6], [6, 5, 4, 7, 2, 1, 0, 3], [3, 0, 1, 2, 7, 4, 5, 6, 8], [8, 6, 5, 4, 7, 2, 1, 0, 3, 9], [8, 6, 5, 4, 7, 2, 1, 0, 3, 9], [9, 3, 0, 1, 2, 7, 4, 5, 6, 8, 10], [10, 12, 9, 3, 0, 1, 2, 7, 4, 5, 6, 8, 11]] ?_
    refine dB [([132, 135, 136, 137, 138], [], []), ([131, 135, 136, 137, 138], [false], []), ([135, 136, 137, 138], [true, true], []), ([135, 136, 137, 138], [true, true, true], []), ([131, 132, 133, 134, 136], [false, false, false, false], []), ([131, 132, 133, 134, 135], [false, false, false, false, false], []), ([131, 132, 133, 134], [false, false, false, false, true, true], []), ([131, 132, 133, 134], [false, false, false, false, true, true, true], [])] 5 8 ?_
    refine dC [] [true, true, true, true, true, true, true, true] [] [] ?_
    refine cd (rLast_ok C L) ?_
    refine dB [([], [true, true, true, true, true, true, true, true, true], []), ([141], [true, true, true, true, true, true, true, true, true, true], []), ([140, 28], [true, true, true, true, true, true, true, true, true, true, false], []), ([141], [true, true, true, true, true, true, true, true, true, true, true, false], [])] 0 13 ?_
    refine dD ?_
    refine oN 1 ?_
    refine oK [12, 13, 14, 15, 16, 17, 18, 19, 20, 21, 22, 23, 24, 25, 26, 27, 28, 29] ?_
    have hi4 : (0 : Int) ≤ (i : Int) + 1 := by omega
    have hi5 : i ≤ 2 := by omega
    have hsub : List.take 1 (List.drop i LS) = [L] := by
      rw [List.drop_eq_getElem_cons hiL, hL]; rfl
    replace F := F.add hi4 |>.add hi5 |>.add hsub
    refine wD 45 [] [[], [], [1, 0], [0, 1, 2], [2, 1, 0, 3], [2, 1, 0, 3], [5, 3, 0, 1, 2, 4], [4, 5, 6, 2, 1, 0, 3], [3, 0, 1, 2, 6, 5, 4, 7], [7, 4, 5, 6, 2, 1, 0, 3, 8], [7, 4, 5, 6, 2, 1, 0, 3, 8], [10, 8, 3, 0, 1, 2, 6, 5, 4, 7, 9], [9, 10, 11, 7, 4, 5, 6, 2, 1, 0, 3, 8], [8, 3, 0, 1, 2, 6, 5, 4, 7, 11, 10, 9, 12], [12, 9, 10, 11, 7, 4, 5, 6, 2, 1, 0, 3, 8, 13], [12, 9, 10, 11, 7, 4, 5, 6, 2, 1, 0, 3, 8, 13], [15, 13, 8, 3, 0, 1, 2, 6, 5, 4, 7, 11, 10, 9, 12, 14], [14, 15, 16, 12, 9, 10, 11, 7, 4, 5, 6, 2, 1, 0, 3, 8, 13], [13, 8, 3, 0, 1, 2, 6, 5, 4, 7, 11, 10, 9, 12, 16, 15, 14, 17], [17, 14, 15, 16, 12, 9, 10, 11, 7, 4, 5, 6, 2, 1, 0, 3, 8, 13, 18], [17, 14, 15, 16, 12, 9, 10, 11, 7, 4, 5, 6, 2, 1, 0, 3, 8, 13, 18], [20, 18, 13, 8, 3, 0, 1, 2, 6, 5, 4, 7, 11, 10, 9, 12, 16, 15, 14, 17, 19], [19, 20, 21, 17, 14, 15, 16, 12, 9, 10, 11, 7, 4, 5, 6, 2, 1, 0, 3, 8, 13, 18], [18, 13, 8, 3, 0, 1, 2, 6, 5, 4, 7, 11, 10, 9, 12, 16, 15, 14, 17, 21, 20, 19, 22], [22, 19, 20, 21, 17, 14, 15, 16, 12, 9, 10, 11, 7, 4, 5, 6, 2, 1, 0, 3, 8, 13, 18, 23], [22, 19, 20, 21, 17, 14, 15, 16, 12, 9, 10, 11, 7, 4, 5, 6, 2, 1, 0, 3, 8, 13, 18, 23], [25, 23, 18, 13, 8, 3, 0, 1, 2, 6, 5, 4, 7, 11, 10, 9, 12, 16, 15, 14, 17, 21, 20, 19, 22, 24], [24, 25, 26, 22, 19, 20, 21, 17, 14, 15, 16, 12, 9, 10, 11, 7, 4, 5, 6, 2, 1, 0, 3, 8, 13, 18, 23], [23, 18, 13, 8, 3, 0, 1, 2, 6, 5, 4, 7, 11, 10, 9, 12, 16, 15, 14, 17, 21, 20, 19, 22, 26, 25, 24, 27], [27, 24, 25, 26, 22, 19, 20, 21, 17, 14, 15, 16, 12, 9, 10, 11, 7, 4, 5, 6, 2, 1, 0, 3, 8, 13, 18, 23, 28], [27, 24, 25, 26, 22, 19, 20, 21, 17, 14, 15, 16, 12, 9, 10, 11, 7, 4, 5, 6, 2, 1, 0, 3, 8, 13, 18, 23, 28], [27, 24, 25, 26, 22, 19, 20, 21, 17, 14, 15, 16, 12, 9, 10, 11, 7, 4, 5, 6, 2, 1, 0, 3, 8, 13, 18, 23, 28], [31, 28, 23, 18, 13, 8, 3, 0, 1, 2, 6, 5, 4, 7, 11, 10, 9, 12, 16, 15, 14, 17, 21, 20, 19, 22, 26, 25, 24, 27, 30], [30, 27, 24, 25, 26, 22, 19, 20, 21, 17, 14, 15, 16, 12, 9, 10, 11, 7, 4, 5, 6, 2, 1, 0, 3, 8, 13, 18, 23, 28, 31, 32], [32, 31, 30, 33, 28, 23, 18, 13, 8, 3, 0, 1, 2, 6, 5, 4, 7, 11, 10, 9, 12, 16, 15, 14, 17, 21, 20, 19, 22, 26, 25, 24, 27, 29], [29, 27, 24, 25, 26, 22, 19, 20, 21, 17, 14, 15, 16, 12, 9, 10, 11, 7, 4, 5, 6, 2, 1, 0, 3, 8, 13, 18, 23, 28, 33, 30, 31, 32, 34], [34, 32, 31, 30, 33, 29, 35, 27, 24, 25, 26, 22, 19, 20, 21, 17, 14, 15, 16, 12, 9, 10, 11, 7, 4, 5, 6, 2, 1, 0, 3, 8, 13, 18, 23, 28], [28, 23, 18, 13, 8, 3, 0, 1, 2, 6, 5, 4, 7, 11, 10, 9, 12, 16, 15, 14, 17, 21, 20, 19, 22, 26, 25, 24, 27, 35, 29, 33, 30, 31, 32, 34, 36], [36, 34, 32, 31, 30, 33, 29, 35, 27, 24, 25, 26, 22, 19, 20, 21, 17, 14, 15, 16, 12, 9, 10, 11, 7, 4, 5, 6, 2, 1, 0, 3, 8, 13, 18, 23, 28, 37], [37, 28, 23, 18, 13, 8, 3, 0, 1, 2, 6, 5, 4, 7, 11, 10, 9, 12, 16, 15, 14, 17, 21, 20, 19, 22, 26, 25, 24, 27, 35, 29, 33, 30, 31, 32, 34, 36, 38], [36, 34, 32, 31, 30, 33, 29, 35, 27, 24, 25, 26, 22, 19, 20, 21, 17, 14, 15, 16, 12, 9, 10, 11, 7, 4, 5, 6, 2, 1, 0, 3, 8, 13, 18, 23, 28, 37], [36, 34, 32, 31, 30, 33, 29, 35, 27, 24, 25, 26, 22, 19, 20, 21, 17, 14, 15, 16, 12, 9, 10, 11, 7, 4, 5, 6, 2, 1, 0, 3, 8, 13, 18, 23, 28, 37], [36, 34, 32, 31, 30, 33, 29, 35, 27, 24, 25, 26, 22, 19, 20, 21, 17, 14, 15, 16, 12, 9, 10, 11, 7, 4, 5, 6, 2, 1, 0, 3, 8, 13, 18, 23, 28, 37], [37, 28, 23, 18, 13, 8, 3, 0, 1, 2, 6, 5, 4, 7, 11, 10, 9, 12, 16, 15, 14, 17, 21, 20, 19, 22, 26, 25, 24, 27, 35, 29, 33, 30, 31, 32, 34, 36, 42], [42, 43, 41, 37, 28, 23, 18, 13, 8, 3, 0, 1, 2, 6, 5, 4, 7, 11, 10, 9, 12, 16, 15, 14, 17, 21, 20, 19, 22, 26, 25, 24, 27, 35, 29, 33, 30, 31, 32, 34, 36, 40], [40, 41, 43, 42, 44, 38, 36, 34, 32, 31, 30, 33, 29, 35, 27, 24, 25, 26, 22, 19, 20, 21, 17, 14, 15, 16, 12, 9, 10, 11, 7, 4, 5, 6, 2, 1, 0, 3, 8, 13, 18, 23, 28, 37, 39], [39, 37, 28, 23, 18, 13, 8, 3, 0, 1, 2, 6, 5, 4, 7, 11, 10, 9, 12, 16, 15, 14, 17, 21, 20, 19, 22, 26, 25, 24, 27, 35, 29, 33, 30, 31, 32, 34, 36, 38, 44, 42, 43, 41, 40, 45], [45, 40, 41, 43, 42, 44, 38, 39, 46, 36, 34, 32, 31, 30, 33, 29, 35, 27, 24, 25, 26, 22, 19, 20, 21, 17, 14, 15, 16, 12, 9, 10, 11, 7, 4, 5, 6, 2, 1, 0, 3, 8, 13, 18, 23, 28, 37]] ?_
    refine dB [([143], [], []), ([142], [false], []), ([], [true, true], []), ([], [true, true, true], [])] 41 4 ?_
    refine dT [147] [true, true, true, true] [] ?_
    refine dT [146] [true, true, true, true, false] [] ?_
    refine dT [] [true, true, true, true, true, true] [] ?_
    refine dB [([], [true, true, true, true, true, true, true], []), ([], [true, true, true, true, true, true, true, true], [])] 36 9 ?_
    refine dT [152] [true, true, true, true, true, true, true, true, true] [] ?_
    refine dT [151] [true, true, true, true, true, true, true, true, true, false] [] ?_
    refine dT [] [true, true, true, true, true, true, true, true, true, true, true] [] ?_
    refine dB [([], [true, true, true, true, true, true, true, true, true, true, true, true], []), ([], [true, true, true, true, true, true, true, true, true, true, true, true, true], [])] 31 14 ?_
    refine dT [157] [true, true, true, true, true, true, true, true, true, true, true, true, true, true] [] ?_
    refine dT [156] [true, true, true, true, true, true, true, true, true, true, true, true, true, true, false] [] ?_
    refine dT [] [true, true, true, true, true, true, true, true, true, true, true, true, true, true, true, true] [] ?_
    refine dB [([], [true, true, true, true, true, true, true, true, true, true, true, true, true, true, true, true, true], []), ([], [true, true, true, true, true, true, true, true, true, true, true, true, true, true, true, true, true, true], [])] 26 19 ?_
    refine dT [162] [true, true, true, true, true, true, true, true, true, true, true, true, true, true, true, true, true, true, true] [] ?_
    refine dT [161] [true, true, true, true, true, true, true, true, true, true, true, true, true, true, true, true, true, true, true, false] [] ?_
    refine dT [] [true, true, true, true, true, true, true, true, true, true, true, true, true, true, true, true, true, true, true, true, true] [] ?_
    refine dB [([], [true, true, true, true, true, true, true, true, true, true, true, true, true, true, true, true, true, true, true, true, true, true], []), ([], [true, true, true, true, true, true, true, true, true, true, true, true, true, true, true, true, true, true, true, true, true, true, true], [])] 21 24 ?_
    refine dT [167] [true, true, true, true, true, true, true, true, true, true, true, true, true, true, true, true, true, true, true, true, true, true, true, true] [] ?_
    refine dT [166] [true, true, true, true, true, true, true, true, true, true, true, true, true, true, true, true, true, true, true, true, true, true, true, true, false] [] ?_
    refine dT [] [true, true, true, true, true, true, true, true, true, true, true, true, true, true, true, true, true, true, true, true, true, true, true, true, true, true] [] ?_
    refine dB [([], [true, true, true, true, true, true, true, true, true, true, true, true, true, true, true, true, true, true, true, true, true, true, true, true, true, true, true], []), ([], [true, true, true, true, true, true, true, true, true, true, true, true, true, true, true, true, true, true, true, true, true, true, true, true, true, true, true, true], [])] 16 29 ?_
    refine dT [172, 173, 174, 175] [true, true, true, true, true, true, true, true, true, true, true, true, true, true, true, true, true, true, true, true, true, true, true, true, true, true, true, true, true] [] ?_
    refine dT [171, 173] [true, true, true, true, true, true, true, true, true, true, true, true, true, true, true, true, true, true, true, true, true, true, true, true, true, true, true, true, true, false] [] ?_
    refine dT [171, 172] [true, true, true, true, true, true, true, true, true, true, true, true, true, true, true, true, true, true, true, true, true, true, true, true, true, true, true, true, true, false, false] [] ?_
    refine dT [171] [true, true, true, true, true, true, true, true, true, true, true, true, true, true, true, true, true, true, true, true, true, true, true, true, true, true, true, true, true, false, true, true] [] ?_
    refine dT [171] [true, true, true, true, true, true, true, true, true, true, true, true, true, true, true, true, true, true, true, true, true, true, true, true, true, true, true, true, true, false, true, true, true] [] ?_
    refine dG [] [true, true, true, true, true, true, true, true, true, true, true, true, true, true, true, true, true, true, true, true, true, true, true, true, true, true, true, true, true, true, true, true, true, true] [] [] ?_
    refine cd (SameCellars_ok C (by omega) (by omega) (by omega)) ?_
    refine dT [] [true, true, true, true, true, true, true, true, true, true, true, true, true, true, true, true, true, true, true, true, true, true, true, true, true, true, true, true, true, true, true, true, true, true, true] [] ?_
    refine dB [([], [true, true, true, true, true, true, true, true, true, true, true, true, true, true, true, true, true, true, true, true, true, true, true, true, true, true, true, true, true, true, true, true, true, true, true, true], []), ([], [true, true, true, true, true, true, true, true, true, true, true, true, true, true, true, true, true, true, true, true, true, true, true, true, true, true, true, true, true, true, true, true, true, true, true, true, true], [])] 7 38 ?_
    refine dT [182, 183, 184, 185, 186] [true, true, true, true, true, true, true, true, true, true, true, true, true, true, true, true, true, true, true, true, true, true, true, true, true, true, true, true, true, true, true, true, true, true, true, true, true, true] [] ?_
    refine dT [182, 183, 184, 185, 186] [true, true, true, true, true, true, true, true, true, true, true, true, true, true, true, true, true, true, true, true, true, true, true, true, true, true, true, true, true, true, true, true, true, true, true, true, true, true, true] [] ?_
    refine dT [180, 181, 183, 184, 185] [true, true, true, true, true, true, true, true, true, true, true, true, true, true, true, true, true, true, true, true, true, true, true, true, true, true, true, true, true, true, true, true, true, true, true, true, true, true, false, false] [] ?_
    refine dT [180, 181, 182, 184, 185] [true, true, true, true, true, true, true, true, true, true, true, true, true, true, true, true, true, true, true, true, true, true, true, true, true, true, true, true, true, true, true, true, true, true, true, true, true, true, false, false, false] [] ?_
    refine dT [180, 181, 182, 183] [true, true, true, true, true, true, true, true, true, true, true, true, true, true, true, true, true, true, true, true, true, true, true, true, true, true, true, true, true, true, true, true, true, true, true, true, true, true, false, false, false, false] [] ?_
    refine dTw [180, 181, 182, 183] [true, true, true, true, true, true, true, true, true, true, true, true, true, true, true, true, true, true, true, true, true, true, true, true, true, true, true, true, true, true, true, true, true, true, true, true, true, true, false, false, false, false, true] [] ?_
    refine dT [180, 181] [true, true, true, true, true, true, true, true, true, true, true, true, true, true, true, true, true, true, true, true, true, true, true, true, true, true, true, true, true, true, true, true, true, true, true, true, true, true, false, false, true, true, true, true] [] ?_
    refine dD ?_
    refine gC [] ?_
    refine ct (SameLots_ok [L] (by simp) (by simp; omega)) ?_
    refine gT ?_
    refine oN 1 ?_
    refine oK [12, 13, 14, 15, 189] ?_
    refine cF ?_
    refine W.skip ?_
    refine hK4 _ ?_
    clear hK4 K4
    refine rEw ?_
    refine ⟨i + 1, lf0, v0, v0⟩
   ·
    try simp at hc2
    replace F := F.add hc2
    refine W.exit ?_
    refine hK2 _ ?_
    clear hK3 K3 hK2 K2
    refine W.seqR ?_
    refine oC [] ?_
    refine ct (awake_ok) ?_
    refine oN 1 ?_
    refine oK [8] ?_
    refine W.ret ?_
    exact er0 false [] []
end Go.Sim
