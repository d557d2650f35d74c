/- Whatever truly is: the law answers true. -/
import Derived.Test.YtfenmmjeppehaaaLv
import Derived.Test.YtfenmmjeppehaaaLi
namespace Go.Sim
open Go.Proofs
set_option maxRecDepth 100000
set_option linter.unusedSimpArgs false
set_option linter.unusedVariables false
attribute [-simp] List.map_set List.map_take List.map_drop
set_option maxHeartbeats 4000000 in
theorem ColdTrue_ok (nums : List Int) : ACalls Try.prog 9 [ints nums] [] (fun r o => r = B true ∧ o = []) := by
 have F := Fx.nil
 refine ent Try.func9 Try.ntmps9 Try.results9 ?_
 refine rK [0] ?_
 refine W.seqR ?_
 refine oN 1 ?_
 refine oC [] ?_
 refine ct (DieOf_ok _) ?_
 refine oN 1 ?_
 refine oK [3] ?_
 refine W.seqR ?_
 refine oN 1 ?_
 refine oC [(10000, 168)] ?_
 refine CallT.mkE (CellarOf_ok _ 3 5 (by omega) (by omega)) (fun z23 hz23 => ⟨(by simp), ?_⟩)
 obtain ⟨c, g1⟩ := z23
 have qmc : MadeC c 3 5 := hz23
 have qv := qmc.ok
 have hb6 : c.boxes.length ≤ 1000 := by have := qmc.bx; omega
 replace F := F.add hb6
 refine WOps.norm (by simp [hb6]; rfl) ?_
 refine oN 2 ?_
 refine oK [3, 4] ?_
 refine W.seqR ?_
 refine oN 2 ?_
 refine oC [(10000, 168)] ?_
 refine CallT.mkE (LotOf_ok g1 c hb6 4 (by omega)) (fun z26 hz26 => ⟨(by simp [hb6]), ?_⟩)
 obtain ⟨l, g2⟩ := z26
 have qml : MadeT c l := hz26
 have ql := qml.ok
 have hbn : 0 ≤ l.born ∧ l.born ≤ 9 := ⟨ql.born.1, qml.born⟩
 have qkk := ql.keeps
 replace F := F.add hbn
 refine WOps.norm (by simp [hb6, hbn]; rfl) ?_
 refine oN 2 ?_
 refine oK [3, 4, 5] ?_
 obtain ⟨hv0, qh⟩ : ∃ h, hourV g2 l = h := ⟨_, rfl⟩
 obtain ⟨g3, qg3⟩ : ∃ g, hourF g2 = g := ⟨_, rfl⟩
 obtain ⟨bq, qbq⟩ : ∃ b, castV g3 c.boxes.length = b := ⟨_, rfl⟩
 obtain ⟨g4, qg4⟩ : ∃ g, castF g3 c.boxes.length = g := ⟨_, rfl⟩
 have hh := qh
 have hg3 := qg3
 have hbq := qbq
 have hg4 := qg4
 have qh9 : l.born ≤ hv0 ∧ hv0 ≤ 240 := by rw [← qh]; exact hourV_range g2 (by omega)
 obtain ⟨h, qhn⟩ : ∃ h : Nat, min 50 hv0 = (h : Int) := ⟨(min 50 hv0).toNat, by omega⟩
 have hm1 : (if 50 < hv0 then 50 else hv0) = (h : Int) := by split <;> omega
 have hm2 : (if hv0 < 50 then hv0 else 50) = (h : Int) := by split <;> omega
 have hh5 : h ≤ 50 := by omega
 have qhb : l.born ≤ h := by omega
 obtain ⟨d, qd⟩ : ∃ d : Nat, l.born + d = (h : Int) := ⟨((h : Int) - l.born).toNat, by omega⟩
 have qdd : ((h : Int) - l.born).toNat = d := by omega
 have qb0 : 0 ≤ bq := by rw [← qbq]; exact castV_lo _ _
 have qb1 : 0 < c.boxes.length → bq < c.boxes.length := fun k => by have := castV_hi g3 c.boxes.length (by omega); omega
 obtain ⟨qc1, qc2⟩ := lotE_cong (m := c) qv ql qhb (by omega)
 rw [qdd] at qc2
 have hx1 := qc1
 have hx2 := qc2
 obtain ⟨X, qX⟩ : ∃ X, lostS c l d = X := ⟨_, rfl⟩
 have hX := qX
 obtain ⟨v, qvv⟩ : ∃ v, freshV c l h = v := ⟨_, rfl⟩
 have hvv := qvv
 have qfr : v = verd (decide (X.hi ≤ l.keeps)) (decide (X.lo ≤ l.keeps)) := by rw [← qvv, freshV, if_pos qc1, qc2, qX]
 replace F := F.add hh |>.add hg3 |>.add hbq |>.add hg4 |>.add hm1 |>.add hm2 |>.add hh5 |>.add hx1 |>.add hx2 |>.add hX |>.add hvv
 refine wD 9 [(2, [168]), (8, [168])] [[], [], [1, 0], [0, 1, 2], [], [], [5], [5, 6], [0, 1, 2, 6, 5, 7, 4], [4, 7, 5, 6, 8, 2, 1, 0, 3], [3, 9, 4, 7, 5, 6, 2, 1, 0, 8]] ?_
 refine dB [([28, 31, 32, 33, 34], [], []), ([27, 31, 32, 33, 34], [false], [])] 7 2 ?_
 refine dC [31, 32, 33, 34] [true, true] [] [(10000, 168)] ?_
 refine cd (HourOf_det g2 l (by omega)) ?_
 refine dB [([31, 32, 33, 34, 35], [true, true, true], [168]), ([27, 28, 29, 30, 32, 33, 34], [false, false, false, false], [168]), ([27, 28, 29, 30, 31], [false, false, false, false, false], [168]), ([27, 28, 29, 30, 31], [false, false, false, false, false, true], [168]), ([27, 28, 29, 30, 31], [false, false, false, false, false, true, true], [168])] 1 8 ?_
 refine dC [30] [true, true, true, false, true, true, true, true] [] [(10000, 168)] ?_
 refine cd (Cast_ok g3 c.boxes.length (by omega)) ?_
 refine dD ?_
 refine oN 2 ?_
 refine oK [3, 4, 5, 6, 7] ?_
 refine W.seqR ?_
 refine oN 3 ?_
 refine oC [] ?_
 refine ct (Lost_ok ⟨⟨_, _⟩, _, _, _⟩ ⟨_, _, _⟩ _) ?_
 refine oN 6 ?_
 refine oK [3, 4, 5, 6, 7, 8, 9] ?_
 refine W.seqR ?_
 refine oN 3 ?_
 refine oC [] ?_
 refine ct (Fresh_ok ⟨⟨_, _⟩, _, _, _⟩ ⟨_, _, _⟩ _) ?_
 refine oN 5 ?_
 refine oK [3, 4, 5, 6, 7, 8, 9, 10, 11] ?_
 refine W.seqk fun K1 hK1 => ?_
 refine W.seqR ?_
 refine oN 3 ?_
 refine gT ?_
 refine gT ?_
 refine oN 1 ?_
 refine oK [3, 4, 5, 6, 7, 8, 10, 55] ?_
 refine cF ?_
 refine W.skip ?_
 refine hK1 _ ?_
 clear hK1 K1
 refine W.seqk fun K2 hK2 => ?_
 refine rK [3, 4, 5, 6, 7, 8, 10, 12] ?_
 refine W.block ?_
 refine lpa (α := Nat × Int) [3, 4, 5, 6, 7, 8, 10] [13, 15, 62, 67, 70, 94, 100, 107, 123, 133] [168] (fun x => [(12, I x.1)]) (fun x => [(168, die x.2)]) (fun x => x.1 ≤ 5) (fun x => 5 - x.1) (0, g4) v0 ?_
 ·
  intro ⟨i, g⟩ hI0
  simp only [List.cons_append, List.nil_append]
  try dsimp only at hI0
  replace F := F.add hI0
  refine W.seqk fun K3 hK3 => ?_
  refine rK [3, 4, 5, 6, 7, 8, 10, 12, 57] ?_
  refine it (fun hc2 => ?_) (fun hc2 => ?_)
  ·
   try simp at hc2
   replace F := F.add hc2
   refine W.skip ?_
   refine hK3 _ ?_
   clear hK3 K3
   refine W.seqk fun K4 hK4 => ?_
   refine W.block ?_
   refine W.seqR ?_
   refine oN 2 ?_
   refine oC [(10000, 168)] ?_
   refine CallT.mkE (truthOf_ok g c qv 51 (by omega)) (fun z62 hz62 => ⟨(by simp [hb6, hbn, hh, hg3, hbq, hg4, hm1, hm2, hh5, hx1, hx2, hX, hvv, hI0, hc2]), ?_⟩)
   obtain ⟨t, g5⟩ := z62
   have qt : TruOk c 51 t := hz62
   have qTr := truly_ok c qv l ql 51 (by omega) t qt d (by omega)
   rw [qd] at qTr
   obtain ⟨n, qn⟩ : ∃ n, trulyV c l t d = n := ⟨_, rfl⟩
   rw [qn] at qTr
   have qin := truly_in qv ql qt (d := d) (by omega)
   rw [qn, qX] at qin
   have hn1 : X.lo ≤ n := qin.1
   have hn2 : n ≤ X.hi := qin.2
   replace F := F.add hn1 |>.add hn2
   refine WOps.norm (by simp [hb6, hbn, hh, hg3, hbq, hg4, hm1, hm2, hh5, hx1, hx2, hX, hvv, hI0, hc2, hn1, hn2]; rfl) ?_
   refine oN 2 ?_
   refine oK [3, 4, 5, 6, 7, 8, 10, 12, 13] ?_
   refine W.seqR ?_
   refine oN 4 ?_
   refine oC [] ?_
   refine ct (qTr) ?_
   refine oN 1 ?_
   refine oK [3, 4, 5, 6, 7, 8, 10, 12, 13, 14] ?_
   refine W.seqk fun K5 hK5 => ?_
   by_cases hv1 : (v == 1) = true
   ·
    replace F := F.add hv1
    have hv3 : v = 1 := by simpa using hv1
    have hn3 : ¬ l.keeps < n := by
      have := verd_one.1 (qfr.symm.trans hv3)
      simp only [decide_eq_true_eq] at this
      omega
    replace F := F.add hv3 |>.add hn3
    refine W.seqR ?_
    refine oN 2 ?_
    refine oC [] ?_
    refine ct (Holds_ok ⟨_, _⟩ _) ?_
    refine oN 2 ?_
    refine gT ?_
    refine gT ?_
    refine gT ?_
    refine gT ?_
    refine gT ?_
    refine gT ?_
    refine gT ?_
    refine gT ?_
    refine oN 2 ?_
    refine gT ?_
    refine gT ?_
    refine gT ?_
    refine gF ?_
    refine gF ?_
    refine gF ?_
    refine gF ?_
    refine gT ?_
    refine oN 1 ?_
    refine oK [3, 4, 5, 6, 7, 8, 10, 12, 13, 91] ?_
    refine cF ?_
    refine W.skip ?_
    refine hK5 _ ?_
    clear hK5 K5
    refine W.seqk fun K6 hK6 => ?_
    refine rK [3, 4, 5, 6, 7, 8, 10, 12, 13, 95] ?_
    refine it (fun hc4 => ?_) (fun hc4 => ?_)
    ·
     try simp at hc4
     replace F := F.add hc4
     refine W.exit ?_
     refine hK4 _ ?_
     clear hK6 K6 hK4 K4
     refine rEw ?_
     refine ⟨(i + 1, g5), lf0, v0, v0⟩
    ·
     try simp at hc4
     replace F := F.add hc4
     refine W.skip ?_
     refine hK6 _ ?_
     clear hK6 K6
     have hbl0 : 0 < c.boxes.length := by first | omega | exact List.length_pos_iff.2 (by assumption)
     obtain ⟨b, qbb⟩ : ∃ b : Nat, bq = (b : Int) := ⟨bq.toNat, by omega⟩
     have hbb := qbb
     have hbc : b < c.boxes.length := by have := qb1 hbl0; omega
     obtain ⟨qe1, qe2⟩ := atE_at qv (b := (b : Int)) (t := (h : Int)) (by omega) (by omega)
     have hy1 := qe1
     have hy2 : atS c b h = iceS c b h := qe2
     obtain ⟨Y, qY⟩ : ∃ Y, iceS c b h = Y := ⟨_, rfl⟩
     have hY := qY
     obtain ⟨w, qw⟩ : ∃ w, coldV Y = w := ⟨_, rfl⟩
     have hw := qw
     have qF := Fall_true qv (n := 51) (by omega) qt hbc h (by omega)
     have qIn := iceT_in qt hbc (h := h) (by omega)
     have hbi : b < t.ice.length := by rw [qt.len]; exact hbc
     have hbm : b < t.melts.length := by rw [qt.bx.1.1]; exact hbi
     obtain ⟨x0, qx0⟩ : ∃ x, t.ice[b] = x := ⟨_, rfl⟩
     obtain ⟨M, qM⟩ : ∃ x, t.melts[b] = x := ⟨_, rfl⟩
     have hx0 := qx0
     have hM := qM
     obtain ⟨m, qm⟩ : ∃ y, iceT c t b h = y := ⟨_, rfl⟩
     rw [qm, nth_get hbi, qx0, nth_get hbm, qM] at qF
     rw [qm] at qIn
     have hm3 : Y.lo ≤ m := by rw [← qY]; exact qIn.1
     have hm4 : m ≤ Y.hi := by rw [← qY]; exact qIn.2
     replace F := F.add hbl0 |>.add hbb |>.add hbc |>.add hy1 |>.add hy2 |>.add hY |>.add hw |>.add hbi |>.add hbm |>.add hx0 |>.add hM |>.add hm3 |>.add hm4
     refine W.seqR ?_
     refine oN 3 ?_
     refine oC [] ?_
     refine ct (Ice_ok ⟨⟨_, _⟩, _, _, _⟩ _ _) ?_
     refine oN 6 ?_
     refine oK [3, 4, 5, 6, 7, 8, 10, 12, 13, 15, 16] ?_
     refine W.seqR ?_
     refine oN 3 ?_
     refine oC [] ?_
     refine ct (Cold_ok ⟨⟨_, _⟩, _, _, _⟩ _ _) ?_
     refine oN 5 ?_
     refine oK [3, 4, 5, 6, 7, 8, 10, 12, 13, 15, 16, 17, 18] ?_
     refine wD 13 [] [[], [], [], [2], [], [4, 2, 3], [3, 2, 4, 5], [], [7], [], [9, 7, 8], [8, 7, 9, 10], [], [12, 10, 9, 7, 8, 11, 5, 4, 2, 3, 6, 1, 0], [0, 1, 6, 3, 2, 4, 5, 11, 8, 7, 9, 10, 12, 13]] ?_
     refine dB [([111, 112, 113, 114, 115, 116, 117, 118, 119, 120, 121, 122], [], []), ([110, 112, 113, 114, 115, 116, 117, 118, 119, 120, 121, 122], [false], []), ([110, 111, 114, 117, 118, 119, 120, 121, 122], [false, false], []), ([110, 111, 114, 117, 118, 119, 120, 121, 122], [false, false, true], []), ([110, 111, 112, 113, 117, 118, 119, 120, 121, 122], [false, false, false, false], []), ([110, 111, 117, 118, 119, 120, 121, 122], [false, false, true, true, true], []), ([110, 111, 117, 118, 119, 120, 121, 122], [false, false, true, true, true, true], []), ([110, 111, 112, 113, 114, 115, 116, 119, 122], [false, false, false, false, false, false, false], []), ([110, 111, 112, 113, 114, 115, 116, 119, 122], [false, false, false, false, false, false, false, true], []), ([110, 111, 112, 113, 114, 115, 116, 117, 118, 122], [false, false, false, false, false, false, false, false, false], []), ([110, 111, 112, 113, 114, 115, 116, 122], [false, false, false, false, false, false, false, true, true, true], []), ([110, 111, 112, 113, 114, 115, 116, 122], [false, false, false, false, false, false, false, true, true, true, true], []), ([110, 111, 112, 113, 114, 115, 116, 117, 118, 119, 120, 121], [false, false, false, false, false, false, false, false, false, false, false, false], [])] 0 13 ?_
     refine dD ?_
     refine oC [] ?_
     refine ct (qF) ?_
     refine oN 1 ?_
     refine oK [3, 4, 5, 6, 7, 8, 10, 12, 15, 16, 17, 18, 19] ?_
     by_cases hw1 : (w == 1) = true
     ·
      replace F := F.add hw1
      have hw3 : w = 1 := by simpa using hw1
      have hm5 : ¬ m = 0 := by
        have := verd_one.1 (qw.trans hw3)
        simp only [decide_eq_true_eq] at this
        omega
      replace F := F.add hw3 |>.add hm5
      refine W.seqR ?_
      refine oN 3 ?_
      refine gT ?_
      refine gT ?_
      refine oN 2 ?_
      refine gT ?_
      refine gT ?_
      refine gC [] ?_
      refine ct (Holds_ok ⟨_, _⟩ _) ?_
      refine gT ?_
      refine oN 2 ?_
      refine gT ?_
      refine gT ?_
      refine gT ?_
      refine gT ?_
      refine gT ?_
      refine gT ?_
      refine oN 2 ?_
      refine gX ?_
      refine gX ?_
      refine gX ?_
      refine gF ?_
      refine gF ?_
      refine gX ?_
      refine oN 1 ?_
      refine oK [3, 4, 5, 6, 7, 8, 10, 12, 151] ?_
      refine cF ?_
      refine W.skip ?_
      refine hK4 _ ?_
      clear hK4 K4
      refine rEw ?_
      refine ⟨(i + 1, g5), lf0, v0, v0⟩
     ·
      replace F := F.add hw1
      have hw3 : ¬ w = 1 := by simpa using hw1
      replace F := F.add hw3
      by_cases hw2 : (w == 2) = true
      ·
       replace F := F.add hw2
       have hw4 : w = 2 := by simpa using hw2
       have hm6 : ¬ 0 < m := by
         have := (verd_two.1 (qw.trans hw4)).2
         simp only [decide_eq_false_iff_not] at this
         omega
       replace F := F.add hw4 |>.add hm6
       refine W.seqR ?_
       refine oN 3 ?_
       refine gT ?_
       refine gT ?_
       refine oN 2 ?_
       refine gT ?_
       refine gT ?_
       refine gC [] ?_
       refine ct (Holds_ok ⟨_, _⟩ _) ?_
       refine gT ?_
       refine oN 2 ?_
       refine gT ?_
       refine gT ?_
       refine gT ?_
       refine gF ?_
       refine gF ?_
       refine gT ?_
       refine oN 2 ?_
       refine gT ?_
       refine gT ?_
       refine gT ?_
       refine gT ?_
       refine gT ?_
       refine gT ?_
       refine oN 1 ?_
       refine oK [3, 4, 5, 6, 7, 8, 10, 12, 151] ?_
       refine cF ?_
       refine W.skip ?_
       refine hK4 _ ?_
       clear hK4 K4
       refine rEw ?_
       refine ⟨(i + 1, g5), lf0, v0, v0⟩
      ·
       replace F := F.add hw2
       have hw4 : ¬ w = 2 := by simpa using hw2
       replace F := F.add hw4
       refine W.seqR ?_
       refine oN 3 ?_
       refine gT ?_
       refine gT ?_
       refine oN 2 ?_
       refine gT ?_
       refine gT ?_
       refine gC [] ?_
       refine ct (Holds_ok ⟨_, _⟩ _) ?_
       refine gT ?_
       refine oN 2 ?_
       refine gT ?_
       refine gT ?_
       refine gT ?_
       refine gF ?_
       refine gF ?_
       refine gT ?_
       refine oN 2 ?_
       refine gT ?_
       refine gT ?_
       refine gT ?_
       refine gF ?_
       refine gF ?_
       refine gT ?_
       refine oN 1 ?_
       refine oK [3, 4, 5, 6, 7, 8, 10, 12, 151] ?_
       refine cF ?_
       refine W.skip ?_
       refine hK4 _ ?_
       clear hK4 K4
       refine rEw ?_
       refine ⟨(i + 1, g5), lf0, v0, v0⟩
   ·
    replace F := F.add hv1
    have hv3 : ¬ v = 1 := by simpa using hv1
    replace F := F.add hv3
    by_cases hv2 : (v == 2) = true
    ·
     replace F := F.add hv2
     have hv4 : v = 2 := by simpa using hv2
     have hn4 : ¬ n ≤ l.keeps := by
       have := (verd_two.1 (qfr.symm.trans hv4)).2
       simp only [decide_eq_false_iff_not] at this
       omega
     replace F := F.add hv4 |>.add hn4
     refine W.seqR ?_
     refine oN 2 ?_
     refine oC [] ?_
     refine ct (Holds_ok ⟨_, _⟩ _) ?_
     refine oN 2 ?_
     refine gT ?_
     refine gT ?_
     refine gT ?_
     refine gF ?_
     refine gF ?_
     refine gF ?_
     refine gF ?_
     refine gT ?_
     refine oN 2 ?_
     refine gT ?_
     refine gT ?_
     refine gT ?_
     refine gT ?_
     refine gT ?_
     refine gT ?_
     refine gT ?_
     refine gT ?_
     refine oN 1 ?_
     refine oK [3, 4, 5, 6, 7, 8, 10, 12, 13, 91] ?_
     refine cF ?_
     refine W.skip ?_
     refine hK5 _ ?_
     clear hK5 K5
     refine W.seqk fun K7 hK7 => ?_
     refine rK [3, 4, 5, 6, 7, 8, 10, 12, 13, 95] ?_
     refine it (fun hc9 => ?_) (fun hc9 => ?_)
     ·
      try simp at hc9
      replace F := F.add hc9
      refine W.exit ?_
      refine hK4 _ ?_
      clear hK7 K7 hK4 K4
      refine rEw ?_
      refine ⟨(i + 1, g5), lf0, v0, v0⟩
     ·
      try simp at hc9
      replace F := F.add hc9
      refine W.skip ?_
      refine hK7 _ ?_
      clear hK7 K7
      have hbl0 : 0 < c.boxes.length := by first | omega | exact List.length_pos_iff.2 (by assumption)
      obtain ⟨b, qbb⟩ : ∃ b : Nat, bq = (b : Int) := ⟨bq.toNat, by omega⟩
      have hbb := qbb
      have hbc : b < c.boxes.length := by have := qb1 hbl0; omega
      obtain ⟨qe1, qe2⟩ := atE_at qv (b := (b : Int)) (t := (h : Int)) (by omega) (by omega)
      have hy1 := qe1
      have hy2 : atS c b h = iceS c b h := qe2
      obtain ⟨Y, qY⟩ : ∃ Y, iceS c b h = Y := ⟨_, rfl⟩
      have hY := qY
      obtain ⟨w, qw⟩ : ∃ w, coldV Y = w := ⟨_, rfl⟩
      have hw := qw
      have qF := Fall_true qv (n := 51) (by omega) qt hbc h (by omega)
      have qIn := iceT_in qt hbc (h := h) (by omega)
      have hbi : b < t.ice.length := by rw [qt.len]; exact hbc
      have hbm : b < t.melts.length := by rw [qt.bx.1.1]; exact hbi
      obtain ⟨x0, qx0⟩ : ∃ x, t.ice[b] = x := ⟨_, rfl⟩
      obtain ⟨M, qM⟩ : ∃ x, t.melts[b] = x := ⟨_, rfl⟩
      have hx0 := qx0
      have hM := qM
      obtain ⟨m, qm⟩ : ∃ y, iceT c t b h = y := ⟨_, rfl⟩
      rw [qm, nth_get hbi, qx0, nth_get hbm, qM] at qF
      rw [qm] at qIn
      have hm3 : Y.lo ≤ m := by rw [← qY]; exact qIn.1
      have hm4 : m ≤ Y.hi := by rw [← qY]; exact qIn.2
      replace F := F.add hbl0 |>.add hbb |>.add hbc |>.add hy1 |>.add hy2 |>.add hY |>.add hw |>.add hbi |>.add hbm |>.add hx0 |>.add hM |>.add hm3 |>.add hm4
      refine W.seqR ?_
      refine oN 3 ?_
      refine oC [] ?_
      refine ct (Ice_ok ⟨⟨_, _⟩, _, _, _⟩ _ _) ?_
      refine oN 6 ?_
      refine oK [3, 4, 5, 6, 7, 8, 10, 12, 13, 15, 16] ?_
      refine W.seqR ?_
      refine oN 3 ?_
      refine oC [] ?_
      refine ct (Cold_ok ⟨⟨_, _⟩, _, _, _⟩ _ _) ?_
      refine oN 5 ?_
      refine oK [3, 4, 5, 6, 7, 8, 10, 12, 13, 15, 16, 17, 18] ?_
      refine wD 13 [] [[], [], [], [2], [], [4, 2, 3], [3, 2, 4, 5], [], [7], [], [9, 7, 8], [8, 7, 9, 10], [], [12, 10, 9, 7, 8, 11, 5, 4, 2, 3, 6, 1, 0], [0, 1, 6, 3, 2, 4, 5, 11, 8, 7, 9, 10, 12, 13]] ?_
      refine dB [([111, 112, 113, 114, 115, 116, 117, 118, 119, 120, 121, 122], [], []), ([110, 112, 113, 114, 115, 116, 117, 118, 119, 120, 121, 122], [false], []), ([110, 111, 114, 117, 118, 119, 120, 121, 122], [false, false], []), ([110, 111, 114, 117, 118, 119, 120, 121, 122], [false, false, true], []), ([110, 111, 112, 113, 117, 118, 119, 120, 121, 122], [false, false, false, false], []), ([110, 111, 117, 118, 119, 120, 121, 122], [false, false, true, true, true], []), ([110, 111, 117, 118, 119, 120, 121, 122], [false, false, true, true, true, true], []), ([110, 111, 112, 113, 114, 115, 116, 119, 122], [false, false, false, false, false, false, false], []), ([110, 111, 112, 113, 114, 115, 116, 119, 122], [false, false, false, false, false, false, false, true], []), ([110, 111, 112, 113, 114, 115, 116, 117, 118, 122], [false, false, false, false, false, false, false, false, false], []), ([110, 111, 112, 113, 114, 115, 116, 122], [false, false, false, false, false, false, false, true, true, true], []), ([110, 111, 112, 113, 114, 115, 116, 122], [false, false, false, false, false, false, false, true, true, true, true], []), ([110, 111, 112, 113, 114, 115, 116, 117, 118, 119, 120, 121], [false, false, false, false, false, false, false, false, false, false, false, false], [])] 0 13 ?_
      refine dD ?_
      refine oC [] ?_
      refine ct (qF) ?_
      refine oN 1 ?_
      refine oK [3, 4, 5, 6, 7, 8, 10, 12, 15, 16, 17, 18, 19] ?_
      by_cases hw1 : (w == 1) = true
      ·
       replace F := F.add hw1
       have hw3 : w = 1 := by simpa using hw1
       have hm5 : ¬ m = 0 := by
         have := verd_one.1 (qw.trans hw3)
         simp only [decide_eq_true_eq] at this
         omega
       replace F := F.add hw3 |>.add hm5
       refine W.seqR ?_
       refine oN 3 ?_
       refine gT ?_
       refine gT ?_
       refine oN 2 ?_
       refine gT ?_
       refine gT ?_
       refine gC [] ?_
       refine ct (Holds_ok ⟨_, _⟩ _) ?_
       refine gT ?_
       refine oN 2 ?_
       refine gT ?_
       refine gT ?_
       refine gT ?_
       refine gT ?_
       refine gT ?_
       refine gT ?_
       refine oN 2 ?_
       refine gX ?_
       refine gX ?_
       refine gX ?_
       refine gF ?_
       refine gF ?_
       refine gX ?_
       refine oN 1 ?_
       refine oK [3, 4, 5, 6, 7, 8, 10, 12, 151] ?_
       refine cF ?_
       refine W.skip ?_
       refine hK4 _ ?_
       clear hK4 K4
       refine rEw ?_
       refine ⟨(i + 1, g5), lf0, v0, v0⟩
      ·
       replace F := F.add hw1
       have hw3 : ¬ w = 1 := by simpa using hw1
       replace F := F.add hw3
       by_cases hw2 : (w == 2) = true
       ·
        replace F := F.add hw2
        have hw4 : w = 2 := by simpa using hw2
        have hm6 : ¬ 0 < m := by
          have := (verd_two.1 (qw.trans hw4)).2
          simp only [decide_eq_false_iff_not] at this
          omega
        replace F := F.add hw4 |>.add hm6
        refine W.seqR ?_
        refine oN 3 ?_
        refine gT ?_
        refine gT ?_
        refine oN 2 ?_
        refine gT ?_
        refine gT ?_
        refine gC [] ?_
        refine ct (Holds_ok ⟨_, _⟩ _) ?_
        refine gT ?_
        refine oN 2 ?_
        refine gT ?_
        refine gT ?_
        refine gT ?_
        refine gF ?_
        refine gF ?_
        refine gT ?_
        refine oN 2 ?_
        refine gT ?_
        refine gT ?_
        refine gT ?_
        refine gT ?_
        refine gT ?_
        refine gT ?_
        refine oN 1 ?_
        refine oK [3, 4, 5, 6, 7, 8, 10, 12, 151] ?_
        refine cF ?_
        refine W.skip ?_
        refine hK4 _ ?_
        clear hK4 K4
        refine rEw ?_
        refine ⟨(i + 1, g5), lf0, v0, v0⟩
       ·
        replace F := F.add hw2
        have hw4 : ¬ w = 2 := by simpa using hw2
        replace F := F.add hw4
        refine W.seqR ?_
        refine oN 3 ?_
        refine gT ?_
        refine gT ?_
        refine oN 2 ?_
        refine gT ?_
        refine gT ?_
        refine gC [] ?_
        refine ct (Holds_ok ⟨_, _⟩ _) ?_
        refine gT ?_
        refine oN 2 ?_
        refine gT ?_
        refine gT ?_
        refine gT ?_
        refine gF ?_
        refine gF ?_
        refine gT ?_
        refine oN 2 ?_
        refine gT ?_
        refine gT ?_
        refine gT ?_
        refine gF ?_
        refine gF ?_
        refine gT ?_
        refine oN 1 ?_
        refine oK [3, 4, 5, 6, 7, 8, 10, 12, 151] ?_
        refine cF ?_
        refine W.skip ?_
        refine hK4 _ ?_
        clear hK4 K4
        refine rEw ?_
        refine ⟨(i + 1, g5), lf0, v0, v0⟩
    ·
     replace F := F.add hv2
     have hv4 : ¬ v = 2 := by simpa using hv2
     replace F := F.add hv4
     refine W.seqR ?_
     refine oN 2 ?_
     refine oC [] ?_
     refine ct (Holds_ok ⟨_, _⟩ _) ?_
     refine oN 2 ?_
     refine gT ?_
     refine gT ?_
     refine gT ?_
     refine gF ?_
     refine gF ?_
     refine gF ?_
     refine gF ?_
     refine gT ?_
     refine oN 2 ?_
     refine gT ?_
     refine gT ?_
     refine gT ?_
     refine gF ?_
     refine gF ?_
     refine gF ?_
     refine gF ?_
     refine gT ?_
     refine oN 1 ?_
     refine oK [3, 4, 5, 6, 7, 8, 10, 12, 13, 91] ?_
     refine cF ?_
     refine W.skip ?_
     refine hK5 _ ?_
     clear hK5 K5
     refine W.seqk fun K8 hK8 => ?_
     refine rK [3, 4, 5, 6, 7, 8, 10, 12, 13, 95] ?_
     refine it (fun hc14 => ?_) (fun hc14 => ?_)
     ·
      try simp at hc14
      replace F := F.add hc14
      refine W.exit ?_
      refine hK4 _ ?_
      clear hK8 K8 hK4 K4
      refine rEw ?_
      refine ⟨(i + 1, g5), lf0, v0, v0⟩
     ·
      try simp at hc14
      replace F := F.add hc14
      refine W.skip ?_
      refine hK8 _ ?_
      clear hK8 K8
      have hbl0 : 0 < c.boxes.length := by first | omega | exact List.length_pos_iff.2 (by assumption)
      obtain ⟨b, qbb⟩ : ∃ b : Nat, bq = (b : Int) := ⟨bq.toNat, by omega⟩
      have hbb := qbb
      have hbc : b < c.boxes.length := by have := qb1 hbl0; omega
      obtain ⟨qe1, qe2⟩ := atE_at qv (b := (b : Int)) (t := (h : Int)) (by omega) (by omega)
      have hy1 := qe1
      have hy2 : atS c b h = iceS c b h := qe2
      obtain ⟨Y, qY⟩ : ∃ Y, iceS c b h = Y := ⟨_, rfl⟩
      have hY := qY
      obtain ⟨w, qw⟩ : ∃ w, coldV Y = w := ⟨_, rfl⟩
      have hw := qw
      have qF := Fall_true qv (n := 51) (by omega) qt hbc h (by omega)
      have qIn := iceT_in qt hbc (h := h) (by omega)
      have hbi : b < t.ice.length := by rw [qt.len]; exact hbc
      have hbm : b < t.melts.length := by rw [qt.bx.1.1]; exact hbi
      obtain ⟨x0, qx0⟩ : ∃ x, t.ice[b] = x := ⟨_, rfl⟩
      obtain ⟨M, qM⟩ : ∃ x, t.melts[b] = x := ⟨_, rfl⟩
      have hx0 := qx0
      have hM := qM
      obtain ⟨m, qm⟩ : ∃ y, iceT c t b h = y := ⟨_, rfl⟩
      rw [qm, nth_get hbi, qx0, nth_get hbm, qM] at qF
      rw [qm] at qIn
      have hm3 : Y.lo ≤ m := by rw [← qY]; exact qIn.1
      have hm4 : m ≤ Y.hi := by rw [← qY]; exact qIn.2
      replace F := F.add hbl0 |>.add hbb |>.add hbc |>.add hy1 |>.add hy2 |>.add hY |>.add hw |>.add hbi |>.add hbm |>.add hx0 |>.add hM |>.add hm3 |>.add hm4
      refine W.seqR ?_
      refine oN 3 ?_
      refine oC [] ?_
      refine ct (Ice_ok ⟨⟨_, _⟩, _, _, _⟩ _ _) ?_
      refine oN 6 ?_
      refine oK [3, 4, 5, 6, 7, 8, 10, 12, 13, 15, 16] ?_
      refine W.seqR ?_
      refine oN 3 ?_
      refine oC [] ?_
      refine ct (Cold_ok ⟨⟨_, _⟩, _, _, _⟩ _ _) ?_
      refine oN 5 ?_
      refine oK [3, 4, 5, 6, 7, 8, 10, 12, 13, 15, 16, 17, 18] ?_
      refine wD 13 [] [[], [], [], [2], [], [4, 2, 3], [3, 2, 4, 5], [], [7], [], [9, 7, 8], [8, 7, 9, 10], [], [12, 10, 9, 7, 8, 11, 5, 4, 2, 3, 6, 1, 0], [0, 1, 6, 3, 2, 4, 5, 11, 8, 7, 9, 10, 12, 13]] ?_
      refine dB [([111, 112, 113, 114, 115, 116, 117, 118, 119, 120, 121, 122], [], []), ([110, 112, 113, 114, 115, 116, 117, 118, 119, 120, 121, 122], [false], []), ([110, 111, 114, 117, 118, 119, 120, 121, 122], [false, false], []), ([110, 111, 114, 117, 118, 119, 120, 121, 122], [false, false, true], []), ([110, 111, 112, 113, 117, 118, 119, 120, 121, 122], [false, false, false, false], []), ([110, 111, 117, 118, 119, 120, 121, 122], [false, false, true, true, true], []), ([110, 111, 117, 118, 119, 120, 121, 122], [false, false, true, true, true, true], []), ([110, 111, 112, 113, 114, 115, 116, 119, 122], [false, false, false, false, false, false, false], []), ([110, 111, 112, 113, 114, 115, 116, 119, 122], [false, false, false, false, false, false, false, true], []), ([110, 111, 112, 113, 114, 115, 116, 117, 118, 122], [false, false, false, false, false, false, false, false, false], []), ([110, 111, 112, 113, 114, 115, 116, 122], [false, false, false, false, false, false, false, true, true, true], []), ([110, 111, 112, 113, 114, 115, 116, 122], [false, false, false, false, false, false, false, true, true, true, true], []), ([110, 111, 112, 113, 114, 115, 116, 117, 118, 119, 120, 121], [false, false, false, false, false, false, false, false, false, false, false, false], [])] 0 13 ?_
      refine dD ?_
      refine oC [] ?_
      refine ct (qF) ?_
      refine oN 1 ?_
      refine oK [3, 4, 5, 6, 7, 8, 10, 12, 15, 16, 17, 18, 19] ?_
      by_cases hw1 : (w == 1) = true
      ·
       replace F := F.add hw1
       have hw3 : w = 1 := by simpa using hw1
       have hm5 : ¬ m = 0 := by
         have := verd_one.1 (qw.trans hw3)
         simp only [decide_eq_true_eq] at this
         omega
       replace F := F.add hw3 |>.add hm5
       refine W.seqR ?_
       refine oN 3 ?_
       refine gT ?_
       refine gT ?_
       refine oN 2 ?_
       refine gT ?_
       refine gT ?_
       refine gC [] ?_
       refine ct (Holds_ok ⟨_, _⟩ _) ?_
       refine gT ?_
       refine oN 2 ?_
       refine gT ?_
       refine gT ?_
       refine gT ?_
       refine gT ?_
       refine gT ?_
       refine gT ?_
       refine oN 2 ?_
       refine gX ?_
       refine gX ?_
       refine gX ?_
       refine gF ?_
       refine gF ?_
       refine gX ?_
       refine oN 1 ?_
       refine oK [3, 4, 5, 6, 7, 8, 10, 12, 151] ?_
       refine cF ?_
       refine W.skip ?_
       refine hK4 _ ?_
       clear hK4 K4
       refine rEw ?_
       refine ⟨(i + 1, g5), lf0, v0, v0⟩
      ·
       replace F := F.add hw1
       have hw3 : ¬ w = 1 := by simpa using hw1
       replace F := F.add hw3
       by_cases hw2 : (w == 2) = true
       ·
        replace F := F.add hw2
        have hw4 : w = 2 := by simpa using hw2
        have hm6 : ¬ 0 < m := by
          have := (verd_two.1 (qw.trans hw4)).2
          simp only [decide_eq_false_iff_not] at this
          omega
        replace F := F.add hw4 |>.add hm6
        refine W.seqR ?_
        refine oN 3 ?_
        refine gT ?_
        refine gT ?_
        refine oN 2 ?_
        refine gT ?_
        refine gT ?_
        refine gC [] ?_
        refine ct (Holds_ok ⟨_, _⟩ _) ?_
        refine gT ?_
        refine oN 2 ?_
        refine gT ?_
        refine gT ?_
        refine gT ?_
        refine gF ?_
        refine gF ?_
        refine gT ?_
        refine oN 2 ?_
        refine gT ?_
        refine gT ?_
        refine gT ?_
        refine gT ?_
        refine gT ?_
        refine gT ?_
        refine oN 1 ?_
        refine oK [3, 4, 5, 6, 7, 8, 10, 12, 151] ?_
        refine cF ?_
        refine W.skip ?_
        refine hK4 _ ?_
        clear hK4 K4
        refine rEw ?_
        refine ⟨(i + 1, g5), lf0, v0, v0⟩
       ·
        replace F := F.add hw2
        have hw4 : ¬ w = 2 := by simpa using hw2
        replace F := F.add hw4
        refine W.seqR ?_
        refine oN 3 ?_
        refine gT ?_
        refine gT ?_
        refine oN 2 ?_
        refine gT ?_
        refine gT ?_
        refine gC [] ?_
        refine ct (Holds_ok ⟨_, _⟩ _) ?_
        refine gT ?_
        refine oN 2 ?_
        refine gT ?_
        refine gT ?_
        refine gT ?_
        refine gF ?_
        refine gF ?_
        refine gT ?_
        refine oN 2 ?_
        refine gT ?_
        refine gT ?_
        refine gT ?_
        refine gF ?_
        refine gF ?_
        refine gT ?_
        refine oN 1 ?_
        refine oK [3, 4, 5, 6, 7, 8, 10, 12, 151] ?_
        refine cF ?_
        refine W.skip ?_
        refine hK4 _ ?_
        clear hK4 K4
        refine rEw ?_
        refine ⟨(i + 1, g5), lf0, v0, v0⟩
  ·
   try simp at hc2
   replace F := F.add hc2
   refine W.exit ?_
   refine hK2 _ ?_
   clear hK3 K3 hK2 K2
   refine W.seqR ?_
   refine oC [] ?_
   refine ct (awake_ok) ?_
   refine oN 1 ?_
   refine oK [2] ?_
   refine W.ret ?_
   exact er0 false [] []
end Go.Sim
