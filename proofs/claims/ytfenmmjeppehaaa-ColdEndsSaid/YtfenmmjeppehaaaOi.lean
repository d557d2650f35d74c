/- Both ends are reached: the law answers true. -/
import Derived.Test.YtfenmmjeppehaaaLv
import Derived.Test.YtfenmmjeppehaaaLi
namespace Go.Sim
open Go.Proofs
set_option maxRecDepth 100000
set_option linter.unusedSimpArgs false
set_option linter.unusedVariables false
attribute [-simp] List.map_set List.map_take List.map_drop
set_option maxHeartbeats 4000000 in
theorem ColdEnds_ok (nums : List Int) : ACalls Try.prog 10 [ints nums] [] (fun r o => r = B true ∧ o = []) := by
 have F := Fx.nil
 refine ent Try.func10 Try.ntmps10 Try.results10 ?_
 refine rK [0] ?_
 refine W.seqR ?_
 refine oN 1 ?_
 refine oC [] ?_
 refine ct (DieOf_ok _) ?_
 refine oN 1 ?_
 refine oK [3] ?_
 refine W.seqR ?_
 refine oN 1 ?_
 refine oC [(10000, 168)] ?_
 refine CallT.mkE (CellarOf_ok _ 3 5 (by omega) (by omega)) (fun z23 hz23 => ⟨(by simp), ?_⟩)
 obtain ⟨c, g1⟩ := z23
 have qmc : MadeC c 3 5 := hz23
 have qv := qmc.ok
 have hb6 : c.boxes.length ≤ 1000 := by have := qmc.bx; omega
 replace F := F.add hb6
 refine WOps.norm (by simp [hb6]; rfl) ?_
 refine oN 2 ?_
 refine oK [3, 4] ?_
 refine W.seqR ?_
 refine oN 2 ?_
 refine oC [(10000, 168)] ?_
 refine CallT.mkE (LotOf_ok g1 c hb6 4 (by omega)) (fun z26 hz26 => ⟨(by simp [hb6]), ?_⟩)
 obtain ⟨l, g2⟩ := z26
 have qml : MadeT c l := hz26
 have ql := qml.ok
 have hbn : 0 ≤ l.born ∧ l.born ≤ 9 := ⟨ql.born.1, qml.born⟩
 have qkk := ql.keeps
 replace F := F.add hbn
 refine WOps.norm (by simp [hb6, hbn]; rfl) ?_
 refine oN 2 ?_
 refine oK [3, 4, 5] ?_
 obtain ⟨hv0, qh⟩ : ∃ h, hourV g2 l = h := ⟨_, rfl⟩
 obtain ⟨g3, qg3⟩ : ∃ g, hourF g2 = g := ⟨_, rfl⟩
 obtain ⟨bq, qbq⟩ : ∃ b, castV g3 c.boxes.length = b := ⟨_, rfl⟩
 obtain ⟨g4, qg4⟩ : ∃ g, castF g3 c.boxes.length = g := ⟨_, rfl⟩
 have hh := qh
 have hg3 := qg3
 have hbq := qbq
 have hg4 := qg4
 have qh9 : l.born ≤ hv0 ∧ hv0 ≤ 240 := by rw [← qh]; exact hourV_range g2 (by omega)
 obtain ⟨h, qhn⟩ : ∃ h : Nat, min 50 hv0 = (h : Int) := ⟨(min 50 hv0).toNat, by omega⟩
 have hm1 : (if 50 < hv0 then 50 else hv0) = (h : Int) := by split <;> omega
 have hm2 : (if hv0 < 50 then hv0 else 50) = (h : Int) := by split <;> omega
 have hh5 : h ≤ 50 := by omega
 have qhb : l.born ≤ h := by omega
 obtain ⟨d, qd⟩ : ∃ d : Nat, l.born + d = (h : Int) := ⟨((h : Int) - l.born).toNat, by omega⟩
 have qdd : ((h : Int) - l.born).toNat = d := by omega
 have qb0 : 0 ≤ bq := by rw [← qbq]; exact castV_lo _ _
 have qb1 : 0 < c.boxes.length → bq < c.boxes.length := fun k => by have := castV_hi g3 c.boxes.length (by omega); omega
 obtain ⟨qc1, qc2⟩ := lotE_cong (m := c) qv ql qhb (by omega)
 rw [qdd] at qc2
 have hx1 := qc1
 have hx2 := qc2
 obtain ⟨EB, qEB⟩ : ∃ T, edgeT c 51 true = T := ⟨_, rfl⟩
 obtain ⟨EW, qEW⟩ : ∃ T, edgeT c 51 false = T := ⟨_, rfl⟩
 have hEB := qEB
 have hEW := qEW
 have qtB : TruOk c 51 EB := by rw [← qEB]; exact edgeT_ok qv 51 true
 have qtW : TruOk c 51 EW := by rw [← qEW]; exact edgeT_ok qv 51 false
 have qTB := truly_ok c qv l ql 51 (by omega) EB qtB d (by omega)
 have qTW := truly_ok c qv l ql 51 (by omega) EW qtW d (by omega)
 rw [qd] at qTB qTW
 obtain ⟨qeB, qeW⟩ := edge_lost qv ql (n := 51) (d := d) (by omega)
 rw [qEB] at qeB
 rw [qEW] at qeW
 rw [qeB] at qTB
 rw [qeW] at qTW
 obtain ⟨X, qX⟩ : ∃ X, lostS c l d = X := ⟨_, rfl⟩
 have hX := qX
 rw [qX] at qTB qTW
 obtain ⟨v, qvv⟩ : ∃ v, freshV c l h = v := ⟨_, rfl⟩
 have hvv := qvv
 have hfr : v = verd (decide (X.hi ≤ l.keeps)) (decide (X.lo ≤ l.keeps)) := by rw [← qvv, freshV, if_pos qc1, qc2, qX]
 replace F := F.add hh |>.add hg3 |>.add hbq |>.add hg4 |>.add hm1 |>.add hm2 |>.add hh5 |>.add hx1 |>.add hx2 |>.add hEB |>.add hEW |>.add hX |>.add hvv |>.add hfr
 refine wD 9 [(2, [168]), (8, [168])] [[], [], [1, 0], [0, 1, 2], [], [], [5], [5, 6], [0, 1, 2, 6, 5, 7, 4], [4, 7, 5, 6, 8, 2, 1, 0, 3], [3, 9, 4, 7, 5, 6, 2, 1, 0, 8]] ?_
 refine dB [([28, 31, 32, 33, 34], [], []), ([27, 31, 32, 33, 34], [false], [])] 7 2 ?_
 refine dC [31, 32, 33, 34] [true, true] [] [(10000, 168)] ?_
 refine cd (HourOf_det g2 l (by omega)) ?_
 refine dB [([31, 32, 33, 34, 35], [true, true, true], [168]), ([27, 28, 29, 30, 32, 33, 34], [false, false, false, false], [168]), ([27, 28, 29, 30, 31], [false, false, false, false, false], [168]), ([27, 28, 29, 30, 31], [false, false, false, false, false, true], [168]), ([27, 28, 29, 30, 31], [false, false, false, false, false, true, true], [168])] 1 8 ?_
 refine dC [30] [true, true, true, false, true, true, true, true] [] [(10000, 168)] ?_
 refine cd (Cast_ok g3 c.boxes.length (by omega)) ?_
 refine dD ?_
 refine oN 2 ?_
 refine oK [4, 5, 6, 7] ?_
 refine wD 6 [] [[], [0], [], [0, 1, 2], [], [], [5, 2, 3, 0, 1, 4], [4, 6, 2, 1, 0, 3, 5]] ?_
 refine dB [([38, 8, 9], [], [])] 5 1 ?_
 refine dC [38, 8, 9] [true] [] [] ?_
 refine cd (edge_ok c qv 51 (by omega) true) ?_
 refine dB [([36, 37, 8, 9], [false, false], [])] 3 3 ?_
 refine dC [8, 9] [true, true, true] [] [] ?_
 refine cd (edge_ok c qv 51 (by omega) false) ?_
 refine dB [([36, 37, 38, 39, 9], [false, false, false, false], []), ([36, 37, 38, 39, 8], [false, false, false, false, false], [])] 0 6 ?_
 refine dD ?_
 refine oN 2 ?_
 refine oK [4, 5, 6, 7, 8, 9] ?_
 refine W.seqR ?_
 refine oN 3 ?_
 refine oC [] ?_
 refine ct (Lost_ok ⟨⟨_, _⟩, _, _, _⟩ ⟨_, _, _⟩ _) ?_
 refine oN 6 ?_
 refine oK [4, 5, 6, 7, 8, 9, 10, 11] ?_
 refine W.seqR ?_
 refine oN 3 ?_
 refine oC [] ?_
 refine ct (Fresh_ok ⟨⟨_, _⟩, _, _, _⟩ ⟨_, _, _⟩ _) ?_
 refine oN 5 ?_
 refine oK [4, 5, 6, 7, 8, 9, 10, 11, 12, 13] ?_
 refine wD 12 [] [[], [], [], [], [3, 2, 1, 0], [], [], [], [], [0, 1, 2, 3, 4, 8, 7, 6, 5], [5, 6, 7, 8, 9, 0, 1, 2, 3, 4], [], [4, 3, 2, 1, 0, 9, 8, 7, 6, 5, 10, 11]] ?_
 refine dB [([55, 56, 57, 59, 60, 61, 62, 14], [], []), ([54, 56, 57, 59, 60, 61, 62, 14], [false], []), ([54, 55, 57, 59, 60, 61, 62, 14], [false, false], []), ([54, 55, 56, 59, 60, 61, 62, 14], [false, false, false], [])] 8 4 ?_
 refine dC [59, 60, 61, 62, 14] [true, true, true, true] [] [] ?_
 refine cd (qTB) ?_
 refine dB [([54, 55, 56, 57, 58, 60, 61, 62, 14], [false, false, false, false, false], []), ([54, 55, 56, 57, 58, 59, 61, 62, 14], [false, false, false, false, false, false], []), ([54, 55, 56, 57, 58, 59, 60, 62, 14], [false, false, false, false, false, false, false], []), ([54, 55, 56, 57, 58, 59, 60, 61, 14], [false, false, false, false, false, false, false, false], [])] 3 9 ?_
 refine dC [14] [true, true, true, true, true, true, true, true, true] [] [] ?_
 refine cd (qTW) ?_
 refine dC [14] [true, true, true, true, true, true, true, true, true, true] [] [] ?_
 refine cd (span_ok _ _) ?_
 refine dB [([54, 55, 56, 57, 58, 59, 60, 61, 62, 63, 64], [false, false, false, false, false, false, false, false, false, false, false], [])] 0 12 ?_
 refine dD ?_
 refine oN 1 ?_
 refine oK [4, 5, 6, 7, 8, 9, 10, 11, 12, 13, 14] ?_
 refine W.seqk fun K1 hK1 => ?_
 refine W.seqR ?_
 refine oN 3 ?_
 refine gT ?_
 refine gT ?_
 refine oN 2 ?_
 refine gT ?_
 refine gT ?_
 refine gT ?_
 refine oN 2 ?_
 refine gT ?_
 refine gT ?_
 refine gT ?_
 refine gT ?_
 refine gT ?_
 refine gT ?_
 refine gT ?_
 refine gT ?_
 refine gT ?_
 refine gT ?_
 refine gT ?_
 refine gC [] ?_
 refine ct (told_ok _ _) ?_
 refine gT ?_
 refine oN 1 ?_
 refine oK [4, 6, 7, 8, 9, 90] ?_
 refine cF ?_
 refine W.skip ?_
 refine hK1 _ ?_
 clear hK1 K1
 refine W.seqk fun K2 hK2 => ?_
 refine rK [4, 6, 7, 8, 9, 94] ?_
 refine it (fun hc2 => ?_) (fun hc2 => ?_)
 ·
  try simp at hc2
  replace F := F.add hc2
  refine W.seqR ?_
  refine oC [] ?_
  refine ct (awake_ok) ?_
  refine oN 1 ?_
  refine oK [2] ?_
  refine W.ret ?_
  refine tr ?_
  clear hK2 K2
  exact er0 false [] []
 ·
  try simp at hc2
  replace F := F.add hc2
  refine W.skip ?_
  refine hK2 _ ?_
  clear hK2 K2
  have hbl0 : 0 < c.boxes.length := by first | omega | exact List.length_pos_iff.2 (by assumption)
  obtain ⟨b, qbb⟩ : ∃ b : Nat, bq = (b : Int) := ⟨bq.toNat, by omega⟩
  have hbb := qbb
  have hbc : b < c.boxes.length := by have := qb1 hbl0; omega
  obtain ⟨qe1, qe2⟩ := atE_at qv (b := (b : Int)) (t := (h : Int)) (by omega) (by omega)
  have hy1 := qe1
  have hy2 : atS c b h = iceS c b h := qe2
  obtain ⟨Y, qY⟩ : ∃ Y, iceS c b h = Y := ⟨_, rfl⟩
  have hY := qY
  obtain ⟨w, qw⟩ : ∃ w, coldV Y = w := ⟨_, rfl⟩
  have hw := qw
  have hw2 : verd (decide (0 < Y.lo)) (decide (0 < Y.hi)) = w := qw
  have qFB := Fall_true qv (n := 51) (by omega) qtB hbc h (by omega)
  have qFW := Fall_true qv (n := 51) (by omega) qtW hbc h (by omega)
  have qIB := edge_ice (n := 51) (k := true) hbc (h := h) (by omega)
  have qIW := edge_ice (n := 51) (k := false) hbc (h := h) (by omega)
  rw [if_pos rfl, qEB] at qIB
  rw [if_neg (by decide), qEW] at qIW
  have qY1 : iceLo c b h = Y.lo := by rw [← qY]; rfl
  have qY2 : iceHi c b h = Y.hi := by rw [← qY]; rfl
  have hbi : b < EB.ice.length := by rw [qtB.len]; exact hbc
  have hbm : b < EB.melts.length := by rw [qtB.bx.1.1]; exact hbi
  have hci : b < EW.ice.length := by rw [qtW.len]; exact hbc
  have hcm : b < EW.melts.length := by rw [qtW.bx.1.1]; exact hci
  obtain ⟨x0, qx0⟩ : ∃ x, EB.ice[b] = x := ⟨_, rfl⟩
  obtain ⟨M, qM⟩ : ∃ x, EB.melts[b] = x := ⟨_, rfl⟩
  obtain ⟨x1, qx1⟩ : ∃ x, EW.ice[b] = x := ⟨_, rfl⟩
  obtain ⟨N, qN⟩ : ∃ x, EW.melts[b] = x := ⟨_, rfl⟩
  have hx0 := qx0
  have hM := qM
  have hx9 := qx1
  have hN := qN
  rw [qIB, qY2, nth_get hbi, qx0, nth_get hbm, qM] at qFB
  rw [qIW, qY1, nth_get hci, qx1, nth_get hcm, qN] at qFW
  replace F := F.add hbl0 |>.add hbb |>.add hbc |>.add hy1 |>.add hy2 |>.add hY |>.add hw |>.add hw2 |>.add hbi |>.add hbm |>.add hci |>.add hcm |>.add hx0 |>.add hM |>.add hx9 |>.add hN
  refine W.seqR ?_
  refine oN 3 ?_
  refine oC [] ?_
  refine ct (Ice_ok ⟨⟨_, _⟩, _, _, _⟩ _ _) ?_
  refine oN 6 ?_
  refine oK [4, 6, 7, 8, 9, 15, 16] ?_
  refine W.seqR ?_
  refine oN 3 ?_
  refine oC [] ?_
  refine ct (Cold_ok ⟨⟨_, _⟩, _, _, _⟩ _ _) ?_
  refine oN 5 ?_
  refine oK [4, 6, 7, 8, 9, 15, 16, 17, 18] ?_
  refine wD 30 [] [[], [], [], [2], [], [4, 2, 3], [3, 2, 4, 5], [], [7], [], [9, 7, 8], [8, 7, 9, 10], [], [12, 10, 9, 7, 8, 11, 5, 4, 2, 3, 6, 1, 0], [], [], [], [16], [], [18, 16, 17], [17, 16, 18, 19], [], [21], [], [23, 21, 22], [22, 21, 23, 24], [], [0, 1, 6, 3, 2, 4, 5, 11, 8, 7, 9, 10, 12, 13, 26, 24, 23, 21, 22, 25, 19, 18, 16, 17, 20, 15, 14], [14, 15, 20, 17, 16, 18, 19, 25, 22, 21, 23, 24, 26, 27, 0, 1, 6, 3, 2, 4, 5, 11, 8, 7, 9, 10, 12, 13], [], [13, 12, 10, 9, 7, 8, 11, 5, 4, 2, 3, 6, 1, 0, 27, 26, 24, 23, 21, 22, 25, 19, 18, 16, 17, 20, 15, 14, 28, 29]] ?_
  refine dB [([111, 112, 113, 114, 115, 116, 117, 118, 119, 120, 121, 122, 124, 125, 126, 127, 128, 129, 130, 131, 132, 133, 134, 135, 136, 19], [], []), ([110, 112, 113, 114, 115, 116, 117, 118, 119, 120, 121, 122, 124, 125, 126, 127, 128, 129, 130, 131, 132, 133, 134, 135, 136, 19], [false], []), ([110, 111, 114, 117, 118, 119, 120, 121, 122, 124, 125, 126, 127, 128, 129, 130, 131, 132, 133, 134, 135, 136, 19], [false, false], []), ([110, 111, 114, 117, 118, 119, 120, 121, 122, 124, 125, 126, 127, 128, 129, 130, 131, 132, 133, 134, 135, 136, 19], [false, false, true], []), ([110, 111, 112, 113, 117, 118, 119, 120, 121, 122, 124, 125, 126, 127, 128, 129, 130, 131, 132, 133, 134, 135, 136, 19], [false, false, false, false], []), ([110, 111, 117, 118, 119, 120, 121, 122, 124, 125, 126, 127, 128, 129, 130, 131, 132, 133, 134, 135, 136, 19], [false, false, true, true, true], []), ([110, 111, 117, 118, 119, 120, 121, 122, 124, 125, 126, 127, 128, 129, 130, 131, 132, 133, 134, 135, 136, 19], [false, false, true, true, true, true], []), ([110, 111, 112, 113, 114, 115, 116, 119, 122, 124, 125, 126, 127, 128, 129, 130, 131, 132, 133, 134, 135, 136, 19], [false, false, false, false, false, false, false], []), ([110, 111, 112, 113, 114, 115, 116, 119, 122, 124, 125, 126, 127, 128, 129, 130, 131, 132, 133, 134, 135, 136, 19], [false, false, false, false, false, false, false, true], []), ([110, 111, 112, 113, 114, 115, 116, 117, 118, 122, 124, 125, 126, 127, 128, 129, 130, 131, 132, 133, 134, 135, 136, 19], [false, false, false, false, false, false, false, false, false], []), ([110, 111, 112, 113, 114, 115, 116, 122, 124, 125, 126, 127, 128, 129, 130, 131, 132, 133, 134, 135, 136, 19], [false, false, false, false, false, false, false, true, true, true], []), ([110, 111, 112, 113, 114, 115, 116, 122, 124, 125, 126, 127, 128, 129, 130, 131, 132, 133, 134, 135, 136, 19], [false, false, false, false, false, false, false, true, true, true, true], []), ([110, 111, 112, 113, 114, 115, 116, 117, 118, 119, 120, 121, 124, 125, 126, 127, 128, 129, 130, 131, 132, 133, 134, 135, 136, 19], [false, false, false, false, false, false, false, false, false, false, false, false], [])] 17 13 ?_
  refine dC [124, 125, 126, 127, 128, 129, 130, 131, 132, 133, 134, 135, 136, 19] [true, true, true, true, true, true, true, true, true, true, true, true, true] [] [] ?_
  refine cd (qFW) ?_
  refine dB [([110, 111, 112, 113, 114, 115, 116, 117, 118, 119, 120, 121, 122, 123, 125, 126, 127, 128, 129, 130, 131, 132, 133, 134, 135, 136, 19], [false, false, false, false, false, false, false, false, false, false, false, false, false, false], []), ([110, 111, 112, 113, 114, 115, 116, 117, 118, 119, 120, 121, 122, 123, 124, 126, 127, 128, 129, 130, 131, 132, 133, 134, 135, 136, 19], [false, false, false, false, false, false, false, false, false, false, false, false, false, false, false], []), ([110, 111, 112, 113, 114, 115, 116, 117, 118, 119, 120, 121, 122, 123, 124, 125, 128, 131, 132, 133, 134, 135, 136, 19], [false, false, false, false, false, false, false, false, false, false, false, false, false, false, false, false], []), ([110, 111, 112, 113, 114, 115, 116, 117, 118, 119, 120, 121, 122, 123, 124, 125, 128, 131, 132, 133, 134, 135, 136, 19], [false, false, false, false, false, false, false, false, false, false, false, false, false, false, false, false, true], []), ([110, 111, 112, 113, 114, 115, 116, 117, 118, 119, 120, 121, 122, 123, 124, 125, 126, 127, 131, 132, 133, 134, 135, 136, 19], [false, false, false, false, false, false, false, false, false, false, false, false, false, false, false, false, false, false], []), ([110, 111, 112, 113, 114, 115, 116, 117, 118, 119, 120, 121, 122, 123, 124, 125, 131, 132, 133, 134, 135, 136, 19], [false, false, false, false, false, false, false, false, false, false, false, false, false, false, false, false, true, true, true], []), ([110, 111, 112, 113, 114, 115, 116, 117, 118, 119, 120, 121, 122, 123, 124, 125, 131, 132, 133, 134, 135, 136, 19], [false, false, false, false, false, false, false, false, false, false, false, false, false, false, false, false, true, true, true, true], []), ([110, 111, 112, 113, 114, 115, 116, 117, 118, 119, 120, 121, 122, 123, 124, 125, 126, 127, 128, 129, 130, 133, 136, 19], [false, false, false, false, false, false, false, false, false, false, false, false, false, false, false, false, false, false, false, false, false], []), ([110, 111, 112, 113, 114, 115, 116, 117, 118, 119, 120, 121, 122, 123, 124, 125, 126, 127, 128, 129, 130, 133, 136, 19], [false, false, false, false, false, false, false, false, false, false, false, false, false, false, false, false, false, false, false, false, false, true], []), ([110, 111, 112, 113, 114, 115, 116, 117, 118, 119, 120, 121, 122, 123, 124, 125, 126, 127, 128, 129, 130, 131, 132, 136, 19], [false, false, false, false, false, false, false, false, false, false, false, false, false, false, false, false, false, false, false, false, false, false, false], []), ([110, 111, 112, 113, 114, 115, 116, 117, 118, 119, 120, 121, 122, 123, 124, 125, 126, 127, 128, 129, 130, 136, 19], [false, false, false, false, false, false, false, false, false, false, false, false, false, false, false, false, false, false, false, false, false, true, true, true], []), ([110, 111, 112, 113, 114, 115, 116, 117, 118, 119, 120, 121, 122, 123, 124, 125, 126, 127, 128, 129, 130, 136, 19], [false, false, false, false, false, false, false, false, false, false, false, false, false, false, false, false, false, false, false, false, false, true, true, true, true], []), ([110, 111, 112, 113, 114, 115, 116, 117, 118, 119, 120, 121, 122, 123, 124, 125, 126, 127, 128, 129, 130, 131, 132, 133, 134, 135, 19], [false, false, false, false, false, false, false, false, false, false, false, false, false, false, false, false, false, false, false, false, false, false, false, false, false, false], [])] 3 27 ?_
  refine dC [19] [true, true, true, true, true, true, true, true, true, true, true, true, true, true, true, true, true, true, true, true, true, true, true, true, true, true, true] [] [] ?_
  refine cd (qFB) ?_
  refine dC [19] [true, true, true, true, true, true, true, true, true, true, true, true, true, true, true, true, true, true, true, true, true, true, true, true, true, true, true, true] [] [] ?_
  refine cd (span_ok _ _) ?_
  refine dB [([110, 111, 112, 113, 114, 115, 116, 117, 118, 119, 120, 121, 122, 123, 124, 125, 126, 127, 128, 129, 130, 131, 132, 133, 134, 135, 136, 137, 138], [false, false, false, false, false, false, false, false, false, false, false, false, false, false, false, false, false, false, false, false, false, false, false, false, false, false, false, false, false], [])] 0 30 ?_
  refine dD ?_
  refine oN 1 ?_
  refine oK [15, 16, 17, 18, 19] ?_
  refine W.seqR ?_
  refine oN 3 ?_
  refine gT ?_
  refine gT ?_
  refine oN 2 ?_
  refine gT ?_
  refine gT ?_
  refine gT ?_
  refine oN 2 ?_
  refine gT ?_
  refine gT ?_
  refine gT ?_
  refine gT ?_
  refine gT ?_
  refine gT ?_
  refine gT ?_
  refine gC [] ?_
  refine ct (told_ok _ _) ?_
  refine gT ?_
  refine oN 2 ?_
  refine gC [] ?_
  refine ct (awake_ok) ?_
  refine oN 2 ?_
  refine oK [2] ?_
  refine W.ret ?_
  exact er0 false [] []
end Go.Sim
