/- Cellars and lots that may be, ice hour by hour: the law answers true. -/
import Derived.Test.YtfenmmjeppehaaaLp
import Derived.Test.YtfenmmjeppehaaaLo
import Derived.Test.YtfenmmjeppehaaaLd
import Derived.Test.YtfenmmjeppehaaaLi
namespace Go.Sim
open Go.Proofs
set_option maxRecDepth 100000
set_option linter.unusedSimpArgs false
set_option linter.unusedVariables false
attribute [-simp] List.map_set List.map_take List.map_drop
set_option maxHeartbeats 4000000 in
theorem ColdChecks_ok (c0 : Cel) (l0 : CLot) (box hour : Int) (nums : List Int) : ACalls Try.prog 7 [celV c0, lotV l0, I box, I hour, ints nums] [] (fun r o => r = B true ∧ o = []) := by
 have F := Fx.nil
 refine ent Try.func7 Try.ntmps7 Try.results7 ?_
 refine rK [2, 3, 4, 5, 6] ?_
 refine W.seqk fun K1 hK1 => ?_
 refine W.seqR ?_
 refine oN 3 ?_
 refine oC [] ?_
 refine CallT.mkE (wide_ok c0 [l0]) (fun z31 hz31 => ⟨(by simp), ?_⟩)
 have qw := hz31
 refine WOps.norm (by simp; rfl) ?_
 refine oK [2, 3, 4, 5, 6, 31] ?_
 refine it (fun hc1 => ?_) (fun hc1 => ?_)
 ·
  try simp at hc1
  replace F := F.add hc1
  refine W.seqR ?_
  refine oC [] ?_
  refine ct (awake_ok) ?_
  refine oN 1 ?_
  refine oK [10] ?_
  refine W.ret ?_
  refine tr ?_
  clear hK1 K1
  exact er0 false [] []
 ·
  try simp at hc1
  replace F := F.add hc1
  refine W.skip ?_
  refine hK1 _ ?_
  clear hK1 K1
  refine W.seqR ?_
  refine oN 1 ?_
  refine oC [] ?_
  refine ct (DieOf_ok _) ?_
  refine oN 1 ?_
  refine oK [2, 3, 5, 6, 11] ?_
  have qsc0 : SmallC c0 := by
    obtain ⟨_, q2, q3, q4, _⟩ := qw (by simpa using hc1)
    exact ⟨q2, q3, q4⟩
  have qsl0 : l0.stays.length ≤ 15 := by
    obtain ⟨q1, _⟩ := qw (by simpa using hc1)
    exact q1 l0 (by simp)
  refine W.seqR ?_
  refine oN 1 ?_
  refine oC [(10000, 272)] ?_
  refine CallT.mkE (CellarOf_ok _ 3 5 (by omega) (by omega)) (fun z36 hz36 => ⟨(by simp [hc1]), ?_⟩)
  obtain ⟨c, g1⟩ := z36
  have qmc : MadeC c 3 5 := hz36
  have qv := qmc.ok
  have hb6 : c.boxes.length ≤ 1000 := by have := qmc.bx; omega
  replace F := F.add hb6
  refine WOps.norm (by simp [hc1, hb6]; rfl) ?_
  refine oN 2 ?_
  refine oK [2, 3, 5, 6, 11, 12] ?_
  obtain ⟨l, qll⟩ : ∃ l, (lotD g1 c 4).1 = l := ⟨_, rfl⟩
  obtain ⟨g2, qg2⟩ : ∃ g, (lotD g1 c 4).2 = g := ⟨_, rfl⟩
  have hll := qll
  have hg2 := qg2
  have qml : MadeT c l := by rw [← qll]; exact lotD_ok g1 c hb6 4 (by omega)
  have ql := qml.ok
  obtain ⟨b, qb⟩ : ∃ b, castV g2 c.boxes.length = b := ⟨_, rfl⟩
  obtain ⟨g3, qg3⟩ : ∃ g, castF g2 c.boxes.length = g := ⟨_, rfl⟩
  have hb := qb
  have hg3 := qg3
  obtain ⟨h, qh⟩ : ∃ h, castV g3 40 = h := ⟨_, rfl⟩
  obtain ⟨g4, qg4⟩ : ∃ g, castF g3 40 = g := ⟨_, rfl⟩
  have hh := qh
  have hg4 := qg4
  replace F := F.add hll |>.add hg2 |>.add hb |>.add hg3 |>.add hh |>.add hg4
  refine wD 26 [(7, [272]), (15, [272]), (20, [272])] [[], [], [], [2, 1, 0], [], [], [], [6, 5], [], [8, 5, 6, 7, 4], [], [], [], [12], [12, 13], [5, 6, 7, 13, 12, 14, 11], [], [16, 11, 14, 12, 13, 7, 6, 5, 15, 10], [], [], [11, 14, 12, 13, 7, 6, 5, 15, 19], [], [21, 19, 15, 5, 6, 7, 13, 12, 14, 11, 20, 18], [19, 15, 5, 6, 7, 13, 12, 14, 11, 20, 0, 1, 2, 3], [3, 2, 1, 0, 20, 11, 14, 12, 13, 15, 19, 23, 4, 7, 6, 5, 8, 9], [9, 8, 4, 23, 19, 20, 0, 1, 2, 3, 24, 10, 15, 5, 6, 7, 13, 12, 14, 11, 16, 17], [17, 16, 10, 24, 3, 2, 1, 0, 23, 4, 8, 9, 25, 18, 20, 11, 14, 12, 13, 7, 6, 5, 15, 19, 21, 22]] ?_
  refine dB [([38, 39, 41, 42, 43, 44, 45, 46, 47, 48, 49, 50, 51, 52, 53, 54, 55, 56, 57, 58, 59], [], [272, 272, 272]), ([37, 39, 41, 42, 43, 44, 45, 46, 47, 48, 49, 50, 51, 52, 53, 54, 55, 56, 57, 58, 59], [false], [272, 272, 272]), ([37, 38, 41, 42, 43, 44, 45, 46, 47, 48, 49, 50, 51, 52, 53, 54, 55, 56, 57, 58, 59], [false, false], [272, 272, 272]), ([41, 42, 43, 44, 45, 46, 47, 48, 49, 50, 51, 52, 53, 54, 55, 56, 57, 58, 59], [true, true, true], [272, 272, 272]), ([37, 38, 39, 40, 42, 43, 44, 45, 47, 48, 49, 50, 51, 52, 53, 54, 55, 56, 57, 58, 59, 13], [false, false, false, false], [272, 272, 272]), ([37, 38, 39, 40, 41, 43, 45, 47, 48, 49, 50, 51, 53, 55, 56, 58], [false, false, false, false, false], []), ([37, 38, 39, 40, 41, 42, 45, 47, 48, 49, 50, 51, 53, 55, 56, 58], [false, false, false, false, false, false], [])] 19 7 ?_
  refine dC [37, 38, 39, 40, 41, 45, 47, 48, 49, 50, 51, 53, 55, 56, 58] [false, false, false, false, false, true, true] [] [(10000, 272)] ?_
  refine cd (LotOf_det g1 c (by omega) 4 (by omega)) ?_
  refine dB [([37, 38, 39, 40, 41, 42, 43, 44, 47, 48, 49, 50, 51, 52, 53, 54, 55, 56, 57, 58, 59, 13], [false, false, false, false, false, false, false, false], [272, 272, 272]), ([37, 38, 39, 40, 47, 48, 49, 50, 51, 52, 53, 54, 55, 56, 57, 58, 59, 13], [false, false, false, false, true, true, true, true, true], [272, 272]), ([37, 38, 39, 40, 41, 42, 43, 44, 45, 46, 48, 49, 50, 51, 52, 53, 55, 56, 57, 58, 59, 13, 14], [false, false, false, false, false, false, false, false, false, false], [272, 272, 272]), ([37, 38, 39, 40, 41, 42, 43, 44, 45, 46, 47, 49, 50, 51, 53, 55, 56, 58], [false, false, false, false, false, false, false, false, false, false, false], [272]), ([37, 38, 39, 40, 41, 42, 43, 44, 45, 46, 47, 48, 53, 55, 56, 58], [false, false, false, false, false, false, false, false, false, false, false, false], [272]), ([37, 38, 39, 40, 41, 42, 43, 44, 45, 46, 47, 48, 53, 55, 56, 58], [false, false, false, false, false, false, false, false, false, false, false, false, true], [272]), ([37, 38, 39, 40, 41, 42, 43, 44, 45, 46, 47, 48, 53, 55, 56, 58], [false, false, false, false, false, false, false, false, false, false, false, false, true, true], [272])] 11 15 ?_
  refine dC [37, 38, 39, 40, 41, 45, 46, 47, 53, 55, 56, 58] [false, false, false, false, false, true, true, true, false, false, false, true, true, true, true] [] [(10000, 272)] ?_
  refine cd (Cast_ok g2 c.boxes.length (by omega)) ?_
  refine dB [([37, 38, 39, 40, 41, 42, 43, 44, 45, 46, 47, 48, 49, 50, 51, 52, 55, 56, 57, 58, 59, 13, 14], [false, false, false, false, false, false, false, false, false, false, false, false, false, false, false, false], [272, 272, 272]), ([37, 38, 39, 40, 41, 45, 46, 55, 56, 57, 58, 59, 13, 14], [false, false, false, false, false, true, true, true, false, false, true, true, true, true, true, true, true], [272]), ([37, 38, 39, 40, 41, 42, 43, 44, 45, 46, 47, 48, 49, 50, 51, 52, 53, 54, 56, 57, 58, 13, 14, 15], [false, false, false, false, false, false, false, false, false, false, false, false, false, false, false, false, false, false], [272, 272, 272]), ([37, 38, 39, 40, 41, 42, 43, 44, 45, 46, 47, 48, 49, 50, 51, 52, 53, 54, 55, 58], [false, false, false, false, false, false, false, false, false, false, false, false, false, false, false, false, false, false, false], [272, 272])] 6 20 ?_
  refine dC [37, 38, 39, 40, 41, 45, 46, 47, 53, 54, 55, 58] [false, false, false, false, false, true, true, true, false, false, false, true, true, true, true, true, false, false, false, true] [] [(10000, 272)] ?_
  refine cd (Cast_ok g3 40 (by omega)) ?_
  refine dB [([37, 38, 39, 40, 41, 42, 43, 44, 45, 46, 47, 48, 49, 50, 51, 52, 53, 54, 55, 56, 57, 13, 14, 15], [false, false, false, false, false, false, false, false, false, false, false, false, false, false, false, false, false, false, false, false, false], [272, 272, 272]), ([37, 38, 39, 40, 41, 45, 46, 47, 53, 54, 13, 14, 15], [false, false, false, false, false, true, true, true, false, false, false, true, true, true, true, true, false, false, true, true, true, true], []), ([41, 45, 46, 47, 53, 54, 55, 58, 59], [true, true, true, true, false, true, true, true, false, false, false, true, true, true, true, true, false, false, false, true, true, false, false], []), ([47, 53, 54, 55, 58, 59], [true, true, true, true, true, true, true, true, true, true, false, true, true, true, true, true, false, false, false, true, true, false, false, true], []), ([55, 58, 59], [true, true, true, true, true, true, true, true, true, true, true, true, true, true, true, true, true, true, false, true, true, false, false, true, true], [])] 0 26 ?_
  refine dD ?_
  refine oN 1 ?_
  refine oK [13, 14, 15, 16] ?_
  refine W.seqk fun K2 hK2 => ?_
  obtain ⟨CS, qCS⟩ : ∃ CS, CS = [c0, c, c] := ⟨_, rfl⟩
  have hCS : [celV c0, celV c, celV c] = CS.map celV := by rw [qCS]; rfl
  obtain ⟨LS, qLS⟩ : ∃ LS, LS = [l0, l, l0] := ⟨_, rfl⟩
  have hLS : [lotV l0, lotV l, lotV l0] = LS.map lotV := by rw [qLS]; rfl
  obtain ⟨BS, qBS⟩ : ∃ BS, BS = [box, b, box] := ⟨_, rfl⟩
  have hBS : [I box, I b, I box] = BS.map I := by rw [qBS]; rfl
  obtain ⟨HS, qHS⟩ : ∃ HS, HS = [hour, h, hour] := ⟨_, rfl⟩
  have hHS : [I hour, I h, I hour] = HS.map I := by rw [qHS]; rfl
  have hCSl : CS.length = 3 := by rw [qCS]; rfl
  have hLSl : LS.length = 3 := by rw [qLS]; rfl
  have hBSl : BS.length = 3 := by rw [qBS]; rfl
  have hHSl : HS.length = 3 := by rw [qHS]; rfl
  have qcs : ∀ x ∈ CS, SmallC x := fun x hx => by
    rw [qCS] at hx
    simp only [List.mem_cons, List.not_mem_nil, or_false] at hx
    rcases hx with rfl | rfl | rfl
    · exact qsc0
    · exact qmc.small
    · exact qmc.small
  have qls : ∀ x ∈ LS, x.stays.length ≤ 15 := fun x hx => by
    have := ql.s8
    rw [qLS] at hx
    simp only [List.mem_cons, List.not_mem_nil, or_false] at hx
    rcases hx with rfl | rfl | rfl
    · exact qsl0
    · omega
    · exact qsl0
  replace F := F.add hCS |>.add hLS |>.add hBS |>.add hHS |>.add hCSl |>.add hLSl |>.add hBSl |>.add hHSl
  refine rK [13, 14, 15, 16, 17] ?_
  refine W.block ?_
  refine lpa (α := Nat) [13, 14, 15, 16] [18, 19, 20, 22, 62, 70, 75, 86, 102, 115, 131, 135, 140, 145, 154, 182, 186, 192] [272] (fun i => [(17, I i)]) (fun i => [(272, die g4)]) (fun i => i ≤ 3) (fun i => 3 - i) 0 v0 ?_
  ·
   intro i hI0
   simp only [List.cons_append, List.nil_append]
   try dsimp only at hI0
   replace F := F.add hI0
   refine W.seqk fun K3 hK3 => ?_
   refine rK [13, 14, 15, 16, 17, 63] ?_
   refine it (fun hc2 => ?_) (fun hc2 => ?_)
   ·
    try simp at hc2
    replace F := F.add hc2
    refine W.skip ?_
    refine hK3 _ ?_
    clear hK3 K3
    refine W.seqk fun K4 hK4 => ?_
    refine W.block ?_
    have hi3 : i < 3 := by omega
    have hiC : i < CS.length := by omega
    have hiL : i < LS.length := by omega
    have hiB : i < BS.length := by omega
    have hiH : i < HS.length := by omega
    have qsi := qcs _ (List.getElem_mem hiC)
    have qli := qls _ (List.getElem_mem hiL)
    obtain ⟨C, qC⟩ : ∃ C, C = CS[i] := ⟨_, rfl⟩
    have hC := qC.symm
    have qsC : SmallC C := by rw [qC]; exact qsi
    have q1 := qsC.bx
    have q2 := qsC.fl
    have q3 := qsC.rt
    obtain ⟨L, qL⟩ : ∃ L, L = LS[i] := ⟨_, rfl⟩
    have hL := qL.symm
    have qsL : L.stays.length ≤ 15 := by rw [qL]; exact qli
    obtain ⟨s, qs⟩ : ∃ s, s = BS[i] := ⟨_, rfl⟩
    have hs := qs.symm
    obtain ⟨t, qt⟩ : ∃ t, t = HS[i] := ⟨_, rfl⟩
    have ht := qt.symm
    replace F := F.add hi3 |>.add hiC |>.add hiL |>.add hiB |>.add hiH |>.add hC |>.add hL |>.add hs |>.add ht
    refine wD 12 [] [[], [], [1, 0], [0, 1, 2], [2, 1, 0, 3], [], [], [6, 5], [5, 6, 7], [3, 0, 1, 2, 4, 7, 6, 5, 8], [], [], [11, 8, 5, 6, 7, 9, 3, 0, 1, 2, 4, 10], [10, 12, 8, 5, 6, 7, 4, 2, 1, 0, 3, 9, 11]] ?_
    refine dB [([67, 71, 72, 73, 74, 18, 19], [], []), ([66, 71, 72, 73, 74, 18, 19], [false], []), ([71, 72, 73, 74, 18, 19], [true, true], []), ([71, 72, 73, 74, 18, 19], [true, true, true], [])] 8 4 ?_
    refine dC [71, 72, 73, 74, 18, 19] [true, true, true, true] [] [] ?_
    refine cd (CopyCellar_imm C (by omega) (by omega) (by omega)) ?_
    refine dB [([66, 67, 68, 69, 70, 72, 18, 19], [false, false, false, false, false], []), ([66, 67, 68, 69, 70, 71, 18, 19], [false, false, false, false, false, false], []), ([66, 67, 68, 69, 70, 18, 19], [false, false, false, false, false, true, true], []), ([66, 67, 68, 69, 70, 18, 19], [false, false, false, false, false, true, true, true], [])] 3 9 ?_
    refine dC [18, 19] [true, true, true, true, true, true, true, true, true] [] [] ?_
    refine cd (CopyLot_imm L (by omega)) ?_
    refine dB [([66, 67, 68, 69, 70, 71, 72, 73, 74, 75, 19], [false, false, false, false, false, false, false, false, false, false], []), ([66, 67, 68, 69, 70, 71, 72, 73, 74, 75, 18], [false, false, false, false, false, false, false, false, false, false, false], [])] 0 12 ?_
    refine dD ?_
    refine oN 2 ?_
    refine oK [13, 14, 15, 16, 17, 18, 19] ?_
    refine wD 15 [(14, [160])] [[], [], [], [2, 1], [1, 2, 3], [], [], [6, 5], [5, 6, 7], [7, 6, 5, 8, 3, 2, 1, 4, 0], [0, 4, 1, 2, 3, 8, 5, 6, 7, 9], [9, 7, 6, 5, 8, 3, 2, 1, 4, 0, 10], [9, 7, 6, 5, 8, 3, 2, 1, 4, 0, 10], [], [10, 0, 4, 1, 2, 3, 8, 5, 6, 7, 9, 11, 13], [13, 11, 14, 10, 0, 4, 1, 2, 3, 8, 5, 6, 7, 9, 12]] ?_
    refine dB [([78, 79, 80, 81, 82, 83, 84, 85, 20], [], []), ([77, 79, 82, 83, 84, 85, 20], [false], []), ([77, 78, 82, 83, 84, 85, 20], [false, false], []), ([77, 82, 83, 84, 85, 20], [false, true, true], []), ([77, 82, 83, 84, 85, 20], [false, true, true, true], []), ([77, 78, 79, 80, 81, 83, 20], [false, false, false, false, false], []), ([77, 78, 79, 80, 81, 82, 20], [false, false, false, false, false, false], []), ([77, 78, 79, 80, 81, 20], [false, false, false, false, false, true, true], []), ([77, 78, 79, 80, 81, 20], [false, false, false, false, false, true, true, true], [])] 6 9 ?_
    refine dC [20] [true, true, true, true, true, true, true, true, true] [] [] ?_
    refine cd (Ice_ok C s t) ?_
    refine dB [([20], [true, true, true, true, true, true, true, true, true, true], []), ([88, 20], [true, true, true, true, true, true, true, true, true, true, true], []), ([87, 20], [true, true, true, true, true, true, true, true, true, true, true, false], [160]), ([77, 78, 79, 80, 81, 82, 83, 84, 85, 86, 76, 87, 88], [false, false, false, false, false, false, false, false, false, false, false, false, false], [])] 1 14 ?_
    refine WDraw.upd hΓ [160] (viewB_eq (L := [88]) (S := [true, true, true, true, true, true, true, true, true, true, true, true, false, true]) (O := []) (by kernel_rfl) (by kernel_rfl) (by simp [hc1, hb6, hll, hg2, hb, hg3, hh, hg4, hCS, hLS, hBS, hHS, hCSl, hLSl, hBSl, hHSl, hI0, hc2, hi3, hiC, hiL, hiB, hiH, hC, hL, hs, ht]; rfl)) (by first | rfl | simp) (by simp [hc1, hb6, hll, hg2, hb, hg3, hh, hg4, hCS, hLS, hBS, hHS, hCSl, hLSl, hBSl, hHSl, hI0, hc2, hi3, hiC, hiL, hiB, hiH, hC, hL, hs, ht]; first | rfl | exact ⟨rfl, rfl⟩) (by simp [hc1, hb6, hll, hg2, hb, hg3, hh, hg4, hCS, hLS, hBS, hHS, hCSl, hLSl, hBSl, hHSl, hI0, hc2, hi3, hiC, hiL, hiB, hiH, hC, hL, hs, ht]; first | done | rfl) (.inr (by simp)) (by simp [hc1, hb6, hll, hg2, hb, hg3, hh, hg4, hCS, hLS, hBS, hHS, hCSl, hLSl, hBSl, hHSl, hI0, hc2, hi3, hiC, hiL, hiB, hiH, hC, hL, hs, ht]; rfl) ?_
    refine dD ?_
    refine WOps.le Le.dedup rfl rfl ?_
    refine WOps.norm (by simp [hc1, hb6, hll, hg2, hb, hg3, hh, hg4, hCS, hLS, hBS, hHS, hCSl, hLSl, hBSl, hHSl, hI0, hc2, hi3, hiC, hiL, hiB, hiH, hC, hL, hs, ht]; rfl) ?_
    refine oN 1 ?_
    refine oK [13, 14, 15, 16, 17, 18, 19, 20, 21] ?_
    refine wD 18 [(17, [176])] [[], [], [1, 0], [0, 1, 2], [], [], [5, 4], [4, 5, 6], [], [], [9, 8], [8, 9, 10], [10, 9, 8, 11, 6, 5, 4, 7, 2, 1, 0, 3], [3, 0, 1, 2, 7, 4, 5, 6, 11, 8, 9, 10, 12], [12, 10, 9, 8, 11, 6, 5, 4, 7, 2, 1, 0, 3, 13], [12, 10, 9, 8, 11, 6, 5, 4, 7, 2, 1, 0, 3, 13], [], [13, 3, 0, 1, 2, 7, 4, 5, 6, 11, 8, 9, 10, 12, 14, 16], [16, 14, 17, 13, 3, 0, 1, 2, 7, 4, 5, 6, 11, 8, 9, 10, 12, 15]] ?_
    refine dB [([91, 94, 95, 96, 97, 98, 99, 100, 101, 22], [], []), ([90, 94, 95, 96, 97, 98, 99, 100, 101, 22], [false], []), ([94, 95, 96, 97, 98, 99, 100, 101, 22], [true, true], []), ([94, 95, 96, 97, 98, 99, 100, 101, 22], [true, true, true], []), ([90, 91, 92, 93, 95, 98, 99, 100, 101, 22], [false, false, false, false], []), ([90, 91, 92, 93, 94, 98, 99, 100, 101, 22], [false, false, false, false, false], []), ([90, 91, 92, 93, 98, 99, 100, 101, 22], [false, false, false, false, true, true], []), ([90, 91, 92, 93, 98, 99, 100, 101, 22], [false, false, false, false, true, true, true], []), ([90, 91, 92, 93, 94, 95, 96, 97, 99, 22], [false, false, false, false, false, false, false, false], []), ([90, 91, 92, 93, 94, 95, 96, 97, 98, 22], [false, false, false, false, false, false, false, false, false], []), ([90, 91, 92, 93, 94, 95, 96, 97, 22], [false, false, false, false, false, false, false, false, true, true], []), ([90, 91, 92, 93, 94, 95, 96, 97, 22], [false, false, false, false, false, false, false, false, true, true, true], [])] 6 12 ?_
    refine dC [22] [true, true, true, true, true, true, true, true, true, true, true, true] [] [] ?_
    refine cd (rIce_ok C s t) ?_
    refine dB [([22], [true, true, true, true, true, true, true, true, true, true, true, true, true], []), ([104, 22], [true, true, true, true, true, true, true, true, true, true, true, true, true, true], []), ([103, 22], [true, true, true, true, true, true, true, true, true, true, true, true, true, true, false], [176]), ([90, 91, 92, 93, 94, 95, 96, 97, 98, 99, 100, 101, 102, 89, 103, 104], [false, false, false, false, false, false, false, false, false, false, false, false, false, false, false, false], [])] 1 17 ?_
    refine WDraw.upd hΓ [176] (viewB_eq (L := [104]) (S := [true, true, true, true, true, true, true, true, true, true, true, true, true, true, true, false, true]) (O := []) (by kernel_rfl) (by kernel_rfl) (by simp [hc1, hb6, hll, hg2, hb, hg3, hh, hg4, hCS, hLS, hBS, hHS, hCSl, hLSl, hBSl, hHSl, hI0, hc2, hi3, hiC, hiL, hiB, hiH, hC, hL, hs, ht]; rfl)) (by first | rfl | simp) (by simp [hc1, hb6, hll, hg2, hb, hg3, hh, hg4, hCS, hLS, hBS, hHS, hCSl, hLSl, hBSl, hHSl, hI0, hc2, hi3, hiC, hiL, hiB, hiH, hC, hL, hs, ht]; first | rfl | exact ⟨rfl, rfl⟩) (by simp [hc1, hb6, hll, hg2, hb, hg3, hh, hg4, hCS, hLS, hBS, hHS, hCSl, hLSl, hBSl, hHSl, hI0, hc2, hi3, hiC, hiL, hiB, hiH, hC, hL, hs, ht]; first | done | rfl) (.inr (by simp)) (by simp [hc1, hb6, hll, hg2, hb, hg3, hh, hg4, hCS, hLS, hBS, hHS, hCSl, hLSl, hBSl, hHSl, hI0, hc2, hi3, hiC, hiL, hiB, hiH, hC, hL, hs, ht]; rfl) ?_
    refine dD ?_
    refine WOps.le Le.dedup rfl rfl ?_
    refine WOps.norm (by simp [hc1, hb6, hll, hg2, hb, hg3, hh, hg4, hCS, hLS, hBS, hHS, hCSl, hLSl, hBSl, hHSl, hI0, hc2, hi3, hiC, hiL, hiB, hiH, hC, hL, hs, ht]; rfl) ?_
    refine oN 1 ?_
    refine oK [13, 14, 15, 16, 17, 18, 19, 20, 21, 22, 23] ?_
    refine wD 14 [] [[], [], [], [2, 1], [1, 2, 3], [], [], [6, 5], [5, 6, 7], [7, 6, 5, 8, 3, 2, 1, 4, 0], [0, 4, 1, 2, 3, 8, 5, 6, 7, 9], [9, 7, 6, 5, 8, 3, 2, 1, 4, 0, 10], [9, 7, 6, 5, 8, 3, 2, 1, 4, 0, 10], [10, 0, 4, 1, 2, 3, 8, 5, 6, 7, 9, 11], [11, 13, 10, 0, 4, 1, 2, 3, 8, 5, 6, 7, 9, 12]] ?_
    refine dB [([107, 108, 109, 110, 111, 112, 113, 114], [], []), ([106, 108, 111, 112, 113, 114], [false], []), ([106, 107, 111, 112, 113, 114], [false, false], []), ([106, 111, 112, 113, 114], [false, true, true], []), ([106, 111, 112, 113, 114], [false, true, true, true], []), ([106, 107, 108, 109, 110, 112], [false, false, false, false, false], []), ([106, 107, 108, 109, 110, 111], [false, false, false, false, false, false], []), ([106, 107, 108, 109, 110], [false, false, false, false, false, true, true], []), ([106, 107, 108, 109, 110], [false, false, false, false, false, true, true, true], [])] 5 9 ?_
    refine dC [] [true, true, true, true, true, true, true, true, true] [] [] ?_
    refine cd (Cold_ok C s t) ?_
    refine dB [([], [true, true, true, true, true, true, true, true, true, true], []), ([117], [true, true, true, true, true, true, true, true, true, true, true], []), ([116, 24], [true, true, true, true, true, true, true, true, true, true, true, false], []), ([117], [true, true, true, true, true, true, true, true, true, true, true, true, false], [])] 0 14 ?_
    refine dD ?_
    refine oN 1 ?_
    refine oK [13, 14, 15, 16, 17, 18, 19, 20, 21, 22, 23, 24, 25] ?_
    refine wD 17 [] [[], [], [1, 0], [0, 1, 2], [], [], [5, 4], [4, 5, 6], [], [], [9, 8], [8, 9, 10], [10, 9, 8, 11, 6, 5, 4, 7, 2, 1, 0, 3], [3, 0, 1, 2, 7, 4, 5, 6, 11, 8, 9, 10, 12], [12, 10, 9, 8, 11, 6, 5, 4, 7, 2, 1, 0, 3, 13], [12, 10, 9, 8, 11, 6, 5, 4, 7, 2, 1, 0, 3, 13], [13, 3, 0, 1, 2, 7, 4, 5, 6, 11, 8, 9, 10, 12, 14], [14, 16, 13, 3, 0, 1, 2, 7, 4, 5, 6, 11, 8, 9, 10, 12, 15]] ?_
    refine dB [([120, 123, 124, 125, 126, 127, 128, 129, 130], [], []), ([119, 123, 124, 125, 126, 127, 128, 129, 130], [false], []), ([123, 124, 125, 126, 127, 128, 129, 130], [true, true], []), ([123, 124, 125, 126, 127, 128, 129, 130], [true, true, true], []), ([119, 120, 121, 122, 124, 127, 128, 129, 130], [false, false, false, false], []), ([119, 120, 121, 122, 123, 127, 128, 129, 130], [false, false, false, false, false], []), ([119, 120, 121, 122, 127, 128, 129, 130], [false, false, false, false, true, true], []), ([119, 120, 121, 122, 127, 128, 129, 130], [false, false, false, false, true, true, true], []), ([119, 120, 121, 122, 123, 124, 125, 126, 128], [false, false, false, false, false, false, false, false], []), ([119, 120, 121, 122, 123, 124, 125, 126, 127], [false, false, false, false, false, false, false, false, false], []), ([119, 120, 121, 122, 123, 124, 125, 126], [false, false, false, false, false, false, false, false, true, true], []), ([119, 120, 121, 122, 123, 124, 125, 126], [false, false, false, false, false, false, false, false, true, true, true], [])] 5 12 ?_
    refine dC [] [true, true, true, true, true, true, true, true, true, true, true, true] [] [] ?_
    refine cd (rCold_ok C s t) ?_
    refine dB [([], [true, true, true, true, true, true, true, true, true, true, true, true, true], []), ([133], [true, true, true, true, true, true, true, true, true, true, true, true, true, true], []), ([132, 26], [true, true, true, true, true, true, true, true, true, true, true, true, true, true, false], []), ([133], [true, true, true, true, true, true, true, true, true, true, true, true, true, true, true, false], [])] 0 17 ?_
    refine dD ?_
    refine oN 1 ?_
    refine oK [13, 14, 15, 16, 17, 18, 19, 20, 21, 22, 23, 24, 25, 26, 27] ?_
    refine W.seqk fun K5 hK5 => ?_
    refine wD 41 [] [[], [0], [], [], [3, 2], [2, 3, 4], [0, 1, 4, 3, 2, 5], [5, 2, 3, 4, 6, 0, 1], [1, 0, 6, 4, 3, 2, 5, 7], [7, 5, 2, 3, 4, 6, 0, 1, 8], [7, 5, 2, 3, 4, 6, 0, 1, 8], [10, 8, 1, 0, 6, 4, 3, 2, 5, 7, 9], [7, 5, 2, 3, 4, 6, 0, 1, 8], [7, 5, 2, 3, 4, 6, 0, 1, 8], [13, 8, 1, 0, 6, 4, 3, 2, 5, 7, 12], [12, 7, 5, 2, 3, 4, 6, 0, 1, 8, 13, 14], [7, 5, 2, 3, 4, 6, 0, 1, 8], [7, 5, 2, 3, 4, 6, 0, 1, 8], [17, 8, 1, 0, 6, 4, 3, 2, 5, 7, 16], [16, 7, 5, 2, 3, 4, 6, 0, 1, 8, 17, 18], [9, 10, 11, 18, 17, 16, 19, 14, 13, 8, 1, 0, 6, 4, 3, 2, 5, 7, 12, 15], [15, 12, 13, 14, 19, 16, 17, 18, 20, 9, 7, 5, 2, 3, 4, 6, 0, 1, 8, 10, 11], [11, 10, 9, 20, 18, 17, 16, 19, 14, 13, 12, 15, 21, 7, 5, 2, 3, 4, 6, 0, 1, 8], [8, 1, 0, 6, 4, 3, 2, 5, 7, 21, 15, 12, 13, 14, 19, 16, 17, 18, 20, 9, 10, 11, 22], [22, 11, 10, 9, 20, 18, 17, 16, 19, 14, 13, 12, 15, 21, 7, 5, 2, 3, 4, 6, 0, 1, 8, 23], [22, 11, 10, 9, 20, 18, 17, 16, 19, 14, 13, 12, 15, 21, 7, 5, 2, 3, 4, 6, 0, 1, 8, 23], [25, 23, 8, 1, 0, 6, 4, 3, 2, 5, 7, 21, 15, 12, 13, 14, 19, 16, 17, 18, 20, 9, 10, 11, 22, 24], [24, 25, 26, 22, 11, 10, 9, 20, 18, 17, 16, 19, 14, 13, 12, 15, 21, 7, 5, 2, 3, 4, 6, 0, 1, 8, 23], [23, 8, 1, 0, 6, 4, 3, 2, 5, 7, 21, 15, 12, 13, 14, 19, 16, 17, 18, 20, 9, 10, 11, 22, 26, 25, 24, 27], [27, 24, 25, 26, 22, 11, 10, 9, 20, 18, 17, 16, 19, 14, 13, 12, 15, 21, 7, 5, 2, 3, 4, 6, 0, 1, 8, 23, 28], [27, 24, 25, 26, 22, 11, 10, 9, 20, 18, 17, 16, 19, 14, 13, 12, 15, 21, 7, 5, 2, 3, 4, 6, 0, 1, 8, 23, 28], [30, 28, 23, 8, 1, 0, 6, 4, 3, 2, 5, 7, 21, 15, 12, 13, 14, 19, 16, 17, 18, 20, 9, 10, 11, 22, 26, 25, 24, 27, 29], [29, 30, 31, 27, 24, 25, 26, 22, 11, 10, 9, 20, 18, 17, 16, 19, 14, 13, 12, 15, 21, 7, 5, 2, 3, 4, 6, 0, 1, 8, 23, 28], [28, 23, 8, 1, 0, 6, 4, 3, 2, 5, 7, 21, 15, 12, 13, 14, 19, 16, 17, 18, 20, 9, 10, 11, 22, 26, 25, 24, 27, 31, 30, 29, 32], [32, 29, 30, 31, 27, 24, 25, 26, 22, 11, 10, 9, 20, 18, 17, 16, 19, 14, 13, 12, 15, 21, 7, 5, 2, 3, 4, 6, 0, 1, 8, 23, 28, 33], [32, 29, 30, 31, 27, 24, 25, 26, 22, 11, 10, 9, 20, 18, 17, 16, 19, 14, 13, 12, 15, 21, 7, 5, 2, 3, 4, 6, 0, 1, 8, 23, 28, 33], [35, 33, 28, 23, 8, 1, 0, 6, 4, 3, 2, 5, 7, 21, 15, 12, 13, 14, 19, 16, 17, 18, 20, 9, 10, 11, 22, 26, 25, 24, 27, 31, 30, 29, 32, 34], [34, 35, 36, 32, 29, 30, 31, 27, 24, 25, 26, 22, 11, 10, 9, 20, 18, 17, 16, 19, 14, 13, 12, 15, 21, 7, 5, 2, 3, 4, 6, 0, 1, 8, 23, 28, 33], [33, 28, 23, 8, 1, 0, 6, 4, 3, 2, 5, 7, 21, 15, 12, 13, 14, 19, 16, 17, 18, 20, 9, 10, 11, 22, 26, 25, 24, 27, 31, 30, 29, 32, 36, 35, 34, 37], [37, 34, 35, 36, 32, 29, 30, 31, 27, 24, 25, 26, 22, 11, 10, 9, 20, 18, 17, 16, 19, 14, 13, 12, 15, 21, 7, 5, 2, 3, 4, 6, 0, 1, 8, 23, 28, 33, 38], [37, 34, 35, 36, 32, 29, 30, 31, 27, 24, 25, 26, 22, 11, 10, 9, 20, 18, 17, 16, 19, 14, 13, 12, 15, 21, 7, 5, 2, 3, 4, 6, 0, 1, 8, 23, 28, 33, 38], [40, 38, 33, 28, 23, 8, 1, 0, 6, 4, 3, 2, 5, 7, 21, 15, 12, 13, 14, 19, 16, 17, 18, 20, 9, 10, 11, 22, 26, 25, 24, 27, 31, 30, 29, 32, 36, 35, 34, 37, 39], [39, 40, 41, 37, 34, 35, 36, 32, 29, 30, 31, 27, 24, 25, 26, 22, 11, 10, 9, 20, 18, 17, 16, 19, 14, 13, 12, 15, 21, 7, 5, 2, 3, 4, 6, 0, 1, 8, 23, 28, 33, 38]] ?_
    refine dB [([136, 137, 138, 139], [], [])] 40 1 ?_
    refine dC [136, 137, 138, 139] [true] [] [] ?_
    refine cd (Check_ok C) ?_
    refine dB [([134, 135, 137], [false, false], []), ([134, 135, 136], [false, false, false], []), ([134, 135], [false, false, true, true], []), ([134, 135], [false, false, true, true, true], [])] 35 6 ?_
    refine dC [] [true, true, true, true, true, true] [] [] ?_
    refine cd (rCheck_ok C) ?_
    refine dB [([], [true, true, true, true, true, true, true], []), ([], [true, true, true, true, true, true, true, true], [])] 32 9 ?_
    refine dT [144, 146, 147, 148, 149, 150, 151, 152, 153] [true, true, true, true, true, true, true, true, true] [] ?_
    refine dT [143, 146, 147, 148, 149, 150, 151, 152, 153] [true, true, true, true, true, true, true, true, true, false] [] ?_
    refine dG [146, 147, 148, 149, 150, 151, 152, 153] [true, true, true, true, true, true, true, true, true, true, true] [] [] ?_
    refine cd (CheckLot_ok C L) ?_
    refine dT [143, 144, 145, 147, 150, 151, 152, 153] [true, true, true, true, true, true, true, true, true, false, false, false] [] ?_
    refine dT [143, 144, 145, 146, 150, 151, 152, 153] [true, true, true, true, true, true, true, true, true, false, false, false, false] [] ?_
    refine dT [143, 144, 145, 150, 151, 152, 153] [true, true, true, true, true, true, true, true, true, false, false, false, true, true] [] ?_
    refine dT [143, 144, 145, 150, 151, 152, 153] [true, true, true, true, true, true, true, true, true, false, false, false, true, true, true] [] ?_
    refine dT [143, 144, 145, 146, 147, 148, 149, 151] [true, true, true, true, true, true, true, true, true, false, false, false, false, false, false, false] [] ?_
    refine dT [143, 144, 145, 146, 147, 148, 149, 150] [true, true, true, true, true, true, true, true, true, false, false, false, false, false, false, false, false] [] ?_
    refine dT [143, 144, 145, 146, 147, 148, 149] [true, true, true, true, true, true, true, true, true, false, false, false, false, false, false, false, true, true] [] ?_
    refine dT [143, 144, 145, 146, 147, 148, 149] [true, true, true, true, true, true, true, true, true, false, false, false, false, false, false, false, true, true, true] [] ?_
    refine dG [] [true, true, true, true, true, true, true, true, true, true, true, true, true, true, true, true, true, true, true, true] [] [] ?_
    refine cd (rCheckLot_ok C L) ?_
    refine dT [] [true, true, true, true, true, true, true, true, true, true, true, true, true, true, true, true, true, true, true, true, true] [] ?_
    refine dB [([], [true, true, true, true, true, true, true, true, true, true, true, true, true, true, true, true, true, true, true, true, true, true], []), ([], [true, true, true, true, true, true, true, true, true, true, true, true, true, true, true, true, true, true, true, true, true, true, true], [])] 17 24 ?_
    refine dT [159] [true, true, true, true, true, true, true, true, true, true, true, true, true, true, true, true, true, true, true, true, true, true, true, true] [] ?_
    refine dT [158] [true, true, true, true, true, true, true, true, true, true, true, true, true, true, true, true, true, true, true, true, true, true, true, true, false] [] ?_
    refine dT [] [true, true, true, true, true, true, true, true, true, true, true, true, true, true, true, true, true, true, true, true, true, true, true, true, true, true] [] ?_
    refine dB [([], [true, true, true, true, true, true, true, true, true, true, true, true, true, true, true, true, true, true, true, true, true, true, true, true, true, true, true], []), ([], [true, true, true, true, true, true, true, true, true, true, true, true, true, true, true, true, true, true, true, true, true, true, true, true, true, true, true, true], [])] 12 29 ?_
    refine dT [164] [true, true, true, true, true, true, true, true, true, true, true, true, true, true, true, true, true, true, true, true, true, true, true, true, true, true, true, true, true] [] ?_
    refine dT [163] [true, true, true, true, true, true, true, true, true, true, true, true, true, true, true, true, true, true, true, true, true, true, true, true, true, true, true, true, true, false] [] ?_
    refine dT [] [true, true, true, true, true, true, true, true, true, true, true, true, true, true, true, true, true, true, true, true, true, true, true, true, true, true, true, true, true, true, true] [] ?_
    refine dB [([], [true, true, true, true, true, true, true, true, true, true, true, true, true, true, true, true, true, true, true, true, true, true, true, true, true, true, true, true, true, true, true, true], []), ([], [true, true, true, true, true, true, true, true, true, true, true, true, true, true, true, true, true, true, true, true, true, true, true, true, true, true, true, true, true, true, true, true, true], [])] 7 34 ?_
    refine dT [169] [true, true, true, true, true, true, true, true, true, true, true, true, true, true, true, true, true, true, true, true, true, true, true, true, true, true, true, true, true, true, true, true, true, true] [] ?_
    refine dT [168] [true, true, true, true, true, true, true, true, true, true, true, true, true, true, true, true, true, true, true, true, true, true, true, true, true, true, true, true, true, true, true, true, true, true, false] [] ?_
    refine dT [] [true, true, true, true, true, true, true, true, true, true, true, true, true, true, true, true, true, true, true, true, true, true, true, true, true, true, true, true, true, true, true, true, true, true, true, true] [] ?_
    refine dB [([], [true, true, true, true, true, true, true, true, true, true, true, true, true, true, true, true, true, true, true, true, true, true, true, true, true, true, true, true, true, true, true, true, true, true, true, true, true], []), ([], [true, true, true, true, true, true, true, true, true, true, true, true, true, true, true, true, true, true, true, true, true, true, true, true, true, true, true, true, true, true, true, true, true, true, true, true, true, true], [])] 2 39 ?_
    refine dT [174] [true, true, true, true, true, true, true, true, true, true, true, true, true, true, true, true, true, true, true, true, true, true, true, true, true, true, true, true, true, true, true, true, true, true, true, true, true, true, true] [] ?_
    refine dT [173] [true, true, true, true, true, true, true, true, true, true, true, true, true, true, true, true, true, true, true, true, true, true, true, true, true, true, true, true, true, true, true, true, true, true, true, true, true, true, true, false] [] ?_
    refine dD ?_
    refine gT ?_
    refine oN 1 ?_
    refine oK [13, 14, 15, 16, 17, 18, 19, 176] ?_
    refine cF ?_
    refine W.skip ?_
    refine hK5 _ ?_
    clear hK5 K5
    have hi4 : (0 : Int) ≤ (i : Int) + 1 := by omega
    have hi5 : i ≤ 2 := by omega
    have hsub : List.take 1 (List.drop i LS) = [L] := by
      rw [List.drop_eq_getElem_cons hiL, hL]; rfl
    replace F := F.add hi4 |>.add hi5 |>.add hsub
    refine wD 15 [] [[], [], [], [2, 1], [1, 2, 3], [3, 2, 1, 4, 0], [0, 4, 1, 2, 3, 5], [5, 3, 2, 1, 4, 0, 6], [6, 0, 4, 1, 2, 3, 5, 7], [7, 5, 3, 2, 1, 4, 0, 6, 8], [6, 0, 4, 1, 2, 3, 5, 7], [6, 0, 4, 1, 2, 3, 5, 7], [6, 0, 4, 1, 2, 3, 5, 7], [7, 5, 3, 2, 1, 4, 0, 6, 12], [12, 13, 11, 7, 5, 3, 2, 1, 4, 0, 6, 10], [10, 11, 13, 12, 14, 8, 6, 0, 4, 1, 2, 3, 5, 7, 9], [9, 7, 5, 3, 2, 1, 4, 0, 6, 8, 14, 12, 13, 11, 10, 15], [15, 10, 11, 13, 12, 14, 8, 9, 16, 6, 0, 4, 1, 2, 3, 5, 7]] ?_
    refine dB [([178, 179, 180, 181], [], []), ([177, 179], [false], []), ([177, 178], [false, false], []), ([177], [false, true, true], []), ([177], [false, true, true, true], [])] 10 5 ?_
    refine dC [] [true, true, true, true, true] [] [] ?_
    refine cd (SameCellars_ok C (by omega) (by omega) (by omega)) ?_
    refine dB [([], [true, true, true, true, true, true], []), ([], [true, true, true, true, true, true, true], [])] 7 8 ?_
    refine dT [187, 188, 189, 190, 191] [true, true, true, true, true, true, true, true] [] ?_
    refine dT [187, 188, 189, 190, 191] [true, true, true, true, true, true, true, true, true] [] ?_
    refine dT [185, 186, 188, 189, 190] [true, true, true, true, true, true, true, true, false, false] [] ?_
    refine dT [185, 186, 187, 189, 190] [true, true, true, true, true, true, true, true, false, false, false] [] ?_
    refine dT [185, 186, 187, 188] [true, true, true, true, true, true, true, true, false, false, false, false] [] ?_
    refine dTw [185, 186, 187, 188] [true, true, true, true, true, true, true, true, false, false, false, false, true] [] ?_
    refine dT [185, 186] [true, true, true, true, true, true, true, true, false, false, true, true, true, true] [] ?_
    refine dD ?_
    refine gC [] ?_
    refine ct (SameLots_ok [L] (by simp) (by simp; omega)) ?_
    refine gT ?_
    refine oN 1 ?_
    refine oK [13, 14, 15, 16, 17, 194] ?_
    refine cF ?_
    refine W.skip ?_
    refine hK4 _ ?_
    clear hK4 K4
    refine rEw ?_
    refine ⟨i + 1, lf0, v0, v0⟩
   ·
    try simp at hc2
    replace F := F.add hc2
    refine W.exit ?_
    refine hK2 _ ?_
    clear hK3 K3 hK2 K2
    refine W.seqR ?_
    refine oC [] ?_
    refine ct (awake_ok) ?_
    refine oN 1 ?_
    refine oK [10] ?_
    refine W.ret ?_
    exact er0 false [] []
end Go.Sim
