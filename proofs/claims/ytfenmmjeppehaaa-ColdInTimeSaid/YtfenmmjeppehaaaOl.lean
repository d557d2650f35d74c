/- No lot is sold beyond its hours: the law answers true. -/
import Derived.Test.YtfenmmjeppehaaaLw
import Derived.Test.YtfenmmjeppehaaaLv
import Derived.Test.YtfenmmjeppehaaaLi
namespace Go.Sim
open Go.Proofs
set_option maxRecDepth 100000
set_option linter.unusedSimpArgs false
set_option linter.unusedVariables false
attribute [-simp] List.map_set List.map_take List.map_drop
theorem last_spec {c : Cel} {l : CLot} (hv : ValidC c) (hl : LotOk c.boxes.length l) : ∃ k : Nat, lastV c l = l.born + k ∧ l.born + k ≤ 240 ∧ ∀ d : Nat, l.born + d ≤ 240 → ((lostS c l d).hi ≤ l.keeps ↔ d ≤ k) := by
  have hb := hl.born
  have hk := hl.keeps
  have h0 : (lostS c l 0).hi ≤ l.keeps := by show (0 : Int) ≤ _; omega
  have h1 := lastK_le (fun k => (lostS c l k).hi) l.keeps (240 - l.born).toNat
  refine ⟨lastK (fun k => (lostS c l k).hi) l.keeps (240 - l.born).toNat, by rw [lastV, if_pos (checkLotC_zero.2 ⟨hv, hl⟩), lastC], by omega, fun d hd => ⟨fun h => lastK_max (f := fun k => (lostS c l k).hi) (by omega) h, fun h => ?_⟩⟩
  have h2 := lastK_spec (f := fun k => (lostS c l k).hi) h0 (240 - l.born).toNat
  exact Int.le_trans (lostS_hi_mono hv l _ _ h) h2
theorem sale_at {c : Cel} {ls : List CLot} {i k : Nat} {l : CLot} (hv : ValidC c) (hi : i < ls.length) (hl : ls[i] = l) (ho : LotOk c.boxes.length l) (hk : ∀ d : Nat, l.born + d ≤ 240 → ((lostS c l d).hi ≤ l.keeps ↔ d ≤ k)) {h : Int} {d : Nat} (hd : h = l.born + d) (h2 : h ≤ 240) : saleC c ls ⟨i, h⟩ = if d ≤ k then 0 else 12 := by
  have hb := ho.born
  obtain ⟨e1, e2⟩ := lotE_cong (m := c) hv ho (h := h) (by omega) h2
  have e3 : (h - l.born).toNat = d := by omega
  rw [saleC, if_neg (by show ¬ ¬ (0 ≤ (i : Int) ∧ (i : Int) ≤ (ls.length : Int) - 1); omega), if_neg (by show ¬ ¬ (0 ≤ h ∧ h ≤ 240); omega)]
  show (if lotE c (nth ls (i : Int).toNat) h = 0 ∧ freshV c (nth ls (i : Int).toNat) h = 1 then (0 : Int) else 12) = _
  rw [Int.toNat_natCast, nth_get hi, hl]
  have e4 : freshV c l h = 1 ↔ d ≤ k := by rw [freshV, if_pos e1, e2, e3, verd_one, decide_eq_true_eq, hk d (by omega)]
  by_cases q : d ≤ k
  · rw [if_pos ⟨e1, e4.2 q⟩, if_pos q]
  · rw [if_neg (fun z => q (e4.1 z.2)), if_neg q]
set_option maxHeartbeats 4000000 in
theorem ColdInTime_ok (nums : List Int) : ACalls Try.prog 13 [ints nums] [] (fun r o => r = B true ∧ o = []) := by
 have F := Fx.nil
 refine ent Try.func13 Try.ntmps13 Try.results13 ?_
 refine rK [0] ?_
 refine W.seqR ?_
 refine oN 1 ?_
 refine oC [] ?_
 refine ct (DieOf_ok _) ?_
 refine oN 1 ?_
 refine oK [3] ?_
 refine W.seqR ?_
 refine oN 1 ?_
 refine oC [(10000, 120)] ?_
 refine CallT.mkE (CellarOf_ok _ 3 5 (by omega) (by omega)) (fun z17 hz17 => ⟨(by simp), ?_⟩)
 obtain ⟨c, g1⟩ := z17
 have qmc : MadeC c 3 5 := hz17
 have qv := qmc.ok
 have hb6 : c.boxes.length ≤ 1000 := by have := qmc.bx; omega
 replace F := F.add hb6
 refine WOps.norm (by simp [hb6]; rfl) ?_
 refine oN 2 ?_
 refine oK [3, 4] ?_
 refine W.seqR ?_
 refine oN 2 ?_
 refine oC [(10000, 120)] ?_
 refine CallT.mkE (LotsOf_ok g1 c hb6 4 (by omega)) (fun z20 hz20 => ⟨(by simp [hb6]), ?_⟩)
 obtain ⟨ls, g2⟩ := z20
 have hml : ls.length ≤ 4 := hz20.1
 have qml : ∀ l ∈ ls, MadeT c l := hz20.2
 have qle : lotsErr c ls = 0 := lotsErr_zero.2 ⟨qv, by omega, fun l hl => (qml l hl).ok⟩
 replace F := F.add hml
 refine WOps.norm (by simp [hb6, hml]; rfl) ?_
 refine oN 1 ?_
 refine oK [3, 4, 5] ?_
 refine W.seqk fun K1 hK1 => ?_
 refine rK [3, 4, 5, 6] ?_
 refine W.block ?_
 refine lpa (α := Nat × Int) [3, 4, 5] [7, 23, 34, 51, 52, 63, 68, 75, 109, 111, 119, 121] [120] (fun x => [(6, I x.1)]) (fun x => [(120, die x.2)]) (fun x => x.1 ≤ ls.length) (fun x => ls.length - x.1) (0, g2) v0 ?_
 ·
  intro ⟨i, g⟩ hI0
  simp only [List.cons_append, List.nil_append]
  try dsimp only at hI0
  replace F := F.add hI0
  refine W.seqk fun K2 hK2 => ?_
  refine rK [3, 4, 5, 6, 24] ?_
  refine it (fun hc1 => ?_) (fun hc1 => ?_)
  ·
   try simp at hc1
   replace F := F.add hc1
   refine W.skip ?_
   refine hK2 _ ?_
   clear hK2 K2
   refine W.seqk fun K3 hK3 => ?_
   refine W.block ?_
   have hil : i < ls.length := by omega
   obtain ⟨L, qL⟩ : ∃ L, ls[i] = L := ⟨_, rfl⟩
   have hL := qL
   have qmt : MadeT c L := by rw [← qL]; exact qml _ (List.getElem_mem hil)
   have ql := qmt.ok
   have hbn : 0 ≤ L.born ∧ L.born ≤ 9 := ⟨ql.born.1, qmt.born⟩
   have hck : checkLotC c L = 0 := checkLotC_zero.2 ⟨qv, ql⟩
   obtain ⟨k, qk1, qk2, qk3⟩ := last_spec qv ql
   obtain ⟨la, qla⟩ : ∃ x, lastV c L = x := ⟨_, rfl⟩
   have hla := qla
   have hlr : L.born ≤ la ∧ la ≤ 240 := by omega
   replace F := F.add hil |>.add hL |>.add hbn |>.add hck |>.add hla |>.add hlr
   refine rK [3, 4, 5, 6, 7] ?_
   refine W.seqR ?_
   refine oN 2 ?_
   refine oC [] ?_
   refine ct (Last_ok ⟨⟨_, _⟩, _, _, _⟩ ⟨_, _, _⟩) ?_
   refine oN 5 ?_
   refine oK [3, 4, 5, 6, 7, 8, 9] ?_
   refine W.seqk fun K4 hK4 => ?_
   refine W.seqR ?_
   refine oN 3 ?_
   refine gT ?_
   refine gT ?_
   refine gT ?_
   refine gT ?_
   refine oN 2 ?_
   refine gX ?_
   refine gX ?_
   refine oN 1 ?_
   refine oK [3, 4, 5, 6, 7, 8, 48] ?_
   refine cF ?_
   refine W.skip ?_
   refine hK4 _ ?_
   clear hK4 K4
   obtain ⟨hv0, qh⟩ : ∃ h, hourV g L = h := ⟨_, rfl⟩
   obtain ⟨g3, qg3⟩ : ∃ g', hourF g = g' := ⟨_, rfl⟩
   have hh := qh
   have hg3 := qg3
   have qh9 : L.born ≤ hv0 ∧ hv0 ≤ 240 := by rw [← qh]; exact hourV_range g (by omega)
   obtain ⟨h, qhn⟩ : ∃ h, min 50 hv0 = h := ⟨_, rfl⟩
   have hm1 : (if 50 < hv0 then 50 else hv0) = h := by split <;> omega
   have hm2 : (if hv0 < 50 then hv0 else 50) = h := by split <;> omega
   have hh5 : h ≤ 50 := by omega
   obtain ⟨d, qd⟩ : ∃ d : Nat, h = L.born + d := ⟨(h - L.born).toNat, by omega⟩
   obtain ⟨a0, qa0⟩ : ∃ a, saleC c ls ⟨i, h⟩ = a := ⟨_, rfl⟩
   obtain ⟨a2, qa2⟩ : ∃ a, saleC c ls ⟨i, la + 1⟩ = a := ⟨_, rfl⟩
   have qs0 := sale_at qv hil qL ql qk3 qd (by omega)
   have qs1 := sale_at qv hil qL ql qk3 (qla.symm.trans qk1) (by omega)
   rw [qa0] at qs0
   rw [if_pos (Nat.le_refl _)] at qs1
   have ha2 : ¬ a2 = 0 := by
     by_cases q : la + 1 ≤ 240
     · have := sale_at qv hil qL ql qk3 (h := la + 1) (d := k + 1) (by omega) q
       rw [qa2, if_neg (by omega)] at this
       omega
     · rw [← qa2, saleC, if_neg (by show ¬ ¬ (0 ≤ (i : Int) ∧ (i : Int) ≤ (ls.length : Int) - 1); omega), if_pos (by show ¬ (0 ≤ la + 1 ∧ la + 1 ≤ 240); omega)]
       decide
   have qSE : sellE c ls [⟨i, h⟩, ⟨i, la⟩, ⟨i, la + 1⟩] = 0 := by rw [sellE, if_neg (fun z => z qle), if_neg (by show ¬ 40 < 3; decide)]
   have qSX : sellX c ls [⟨i, h⟩, ⟨i, la⟩, ⟨i, la + 1⟩] = some [a0, 0, a2] := by rw [sellX, if_pos qSE, ← qa0, ← qa2, ← qs1]; rfl
   have qSe := Sell_ok c ls [⟨i, h⟩, ⟨i, la⟩, ⟨i, la + 1⟩]
   rw [qSX, qSE] at qSe
   have qSe2 : ACalls Try.prog 60 [celV c, lotsV ls, soldsV [⟨i, h⟩, ⟨i, la⟩, ⟨i, la + 1⟩]] [] (fun r o => r = .tup [ints [a0, 0, a2], I 0] ∧ o = []) := qSe
   replace F := F.add hh |>.add hg3 |>.add hm1 |>.add hm2 |>.add hh5 |>.add ha2
   refine W.seqR ?_
   refine oN 2 ?_
   refine oC [(10000, 120)] ?_
   refine ct (HourOf_det g L (by omega)) ?_
   refine oN 2 ?_
   refine oK [3, 4, 5, 6, 7, 8, 10] ?_
   refine rKw [3, 4, 5, 6, 7, 8, 10, 11] ?_
   refine W.seqR ?_
   refine oN 3 ?_
   refine fz 504 ?_
   refine oC [] ?_
   refine ct (qSe2) ?_
   refine oN 5 ?_
   refine oK [3, 4, 5, 6, 7, 8, 10, 12, 13] ?_
   refine W.seqk fun K5 hK5 => ?_
   by_cases hle : h ≤ la
   ·
    replace F := F.add hle
    have ha0 : a0 = 0 := by rw [qs0, if_pos (by omega)]
    have qhi : (lostS c L d).hi ≤ L.keeps := (qk3 d (by omega)).2 (by omega)
    obtain ⟨T, qT⟩ : ∃ x, (truthD g3 c 51).1 = x := ⟨_, rfl⟩
    obtain ⟨g5, qg5⟩ : ∃ x, (truthD g3 c 51).2 = x := ⟨_, rfl⟩
    have hT := qT
    have hg5 := qg5
    have qTo : TruOk c 51 T := by rw [← qT]; exact truthD_ok qv g3 51
    obtain ⟨EW, qEW⟩ : ∃ T, edgeT c 51 false = T := ⟨_, rfl⟩
    have hEW := qEW
    have qtW : TruOk c 51 EW := by rw [← qEW]; exact edgeT_ok qv 51 false
    have qT1 := truly_ok c qv L ql 51 (by omega) T qTo d (by omega)
    have qT2 := truly_ok c qv L ql 51 (by omega) EW qtW d (by omega)
    obtain ⟨n1, qn1⟩ : ∃ x, trulyV c L T d = x := ⟨_, rfl⟩
    obtain ⟨n2, qn2⟩ : ∃ x, trulyV c L EW d = x := ⟨_, rfl⟩
    have qi1 := truly_in qv ql qTo (d := d) (by omega)
    have qi2 := truly_in qv ql qtW (d := d) (by omega)
    rw [qn1, ← qd] at qT1
    rw [qn2, ← qd] at qT2
    rw [qn1] at qi1
    rw [qn2] at qi2
    have hn1 : ¬ L.keeps < n1 := by omega
    have hn2 : ¬ L.keeps < n2 := by omega
    replace F := F.add ha0 |>.add hT |>.add hg5 |>.add hEW |>.add hn1 |>.add hn2
    refine W.seqR ?_
    refine oN 3 ?_
    refine gT ?_
    refine gT ?_
    refine gT ?_
    refine oN 2 ?_
    refine gT ?_
    refine gT ?_
    refine gT ?_
    refine gT ?_
    refine oN 2 ?_
    refine gT ?_
    refine gT ?_
    refine gT ?_
    refine gT ?_
    refine gT ?_
    refine gT ?_
    refine gT ?_
    refine gT ?_
    refine oN 2 ?_
    refine gT ?_
    refine gT ?_
    refine gT ?_
    refine gT ?_
    refine oN 1 ?_
    refine oK [3, 4, 5, 6, 7, 10, 12, 99] ?_
    refine cF ?_
    refine W.skip ?_
    refine hK5 _ ?_
    clear hK5 K5
    refine wD 24 [(9, [120])] [[], [0], [0, 1], [1, 0, 2], [2, 0, 1, 3], [3, 1, 0, 2, 4], [3, 1, 0, 2, 4], [3, 1, 0, 2, 4], [3, 1, 0, 2, 4], [8, 4, 2, 0, 1, 3, 7], [3, 1, 0, 2, 4], [10, 7, 8, 9, 6, 4, 2, 0, 1, 3, 5], [3, 1, 0, 2, 4], [4, 2, 0, 1, 3, 12], [12, 13, 5, 3, 1, 0, 2, 4, 6, 9, 8, 7, 10, 11], [11, 10, 7, 8, 9, 6, 4, 2, 0, 1, 3, 5, 13, 12, 14], [14, 12, 13, 5, 3, 1, 0, 2, 4, 6, 9, 8, 7, 10, 11, 15], [14, 12, 13, 5, 3, 1, 0, 2, 4, 6, 9, 8, 7, 10, 11, 15], [14, 12, 13, 5, 3, 1, 0, 2, 4, 6, 9, 8, 7, 10, 11, 15], [15, 11, 10, 7, 8, 9, 6, 4, 2, 0, 1, 3, 5, 13, 12, 14, 18], [14, 12, 13, 5, 3, 1, 0, 2, 4, 6, 9, 8, 7, 10, 11, 15], [20, 18, 19, 17, 15, 11, 10, 7, 8, 9, 6, 4, 2, 0, 1, 3, 5, 13, 12, 14, 16], [14, 12, 13, 5, 3, 1, 0, 2, 4, 6, 9, 8, 7, 10, 11, 15], [15, 11, 10, 7, 8, 9, 6, 4, 2, 0, 1, 3, 5, 13, 12, 14, 22], [22, 23, 16, 14, 12, 13, 5, 3, 1, 0, 2, 4, 6, 9, 8, 7, 10, 11, 15, 17, 19, 18, 20, 21], [21, 20, 18, 19, 17, 16, 23, 22, 24, 14, 12, 13, 5, 3, 1, 0, 2, 4, 6, 9, 8, 7, 10, 11, 15], [15, 11, 10, 7, 8, 9, 6, 5, 13, 12, 14, 24, 22, 23, 16, 17, 19, 18, 20, 21, 25, 3, 1, 0, 2, 4]] ?_
    refine dB [([], [], []), ([], [true], []), ([], [true, true], []), ([], [true, true, true], []), ([], [true, true, true, true], [])] 19 5 ?_
    refine dT [106, 107, 108, 109, 110, 112, 113] [true, true, true, true, true] [120] ?_
    refine dT [105, 107, 108, 109, 110, 112, 113] [true, true, true, true, true, false] [120] ?_
    refine dT [105, 106, 108, 110, 112, 113] [true, true, true, true, true, false, false] [] ?_
    refine dT [105, 106, 107, 110, 112, 113] [true, true, true, true, true, false, false, false] [] ?_
    refine dG [105, 106, 110, 112, 113] [true, true, true, true, true, false, false, true, true] [] [(10000, 120)] ?_
    refine cd (truthOf_det g3 c qv 51 (by omega)) ?_
    refine dT [105, 106, 107, 108, 109, 112, 113] [true, true, true, true, true, false, false, false, false, false] [120] ?_
    refine dG [112, 113] [true, true, true, true, true, true, true, true, true, true, true] [] [] ?_
    refine cd (qT1) ?_
    refine dT [105, 106, 107, 108, 109, 110, 111] [true, true, true, true, true, false, false, false, false, false, false, false] [120] ?_
    refine dT [105, 106, 107, 108, 109, 110, 111] [true, true, true, true, true, false, false, false, false, false, false, false, true] [120] ?_
    refine dT [] [true, true, true, true, true, true, true, true, true, true, true, true, true, true] [] ?_
    refine dT [] [true, true, true, true, true, true, true, true, true, true, true, true, true, true, true] [] ?_
    refine dT [117, 118, 119, 120, 122, 123] [true, true, true, true, true, true, true, true, true, true, true, true, true, true, true, true] [] ?_
    refine dT [116, 118, 119, 120, 122, 123] [true, true, true, true, true, true, true, true, true, true, true, true, true, true, true, true, false] [] ?_
    refine dT [116, 117, 120, 122, 123] [true, true, true, true, true, true, true, true, true, true, true, true, true, true, true, true, false, false] [] ?_
    refine dG [116, 117, 120, 122, 123] [true, true, true, true, true, true, true, true, true, true, true, true, true, true, true, true, false, false, true] [] [] ?_
    refine cd (edge_ok c qv 51 (by omega) false) ?_
    refine dT [116, 117, 118, 119, 122, 123] [true, true, true, true, true, true, true, true, true, true, true, true, true, true, true, true, false, false, false, false] [] ?_
    refine dG [122, 123] [true, true, true, true, true, true, true, true, true, true, true, true, true, true, true, true, true, true, true, true, true] [] [] ?_
    refine cd (qT2) ?_
    refine dT [116, 117, 118, 119, 120, 121] [true, true, true, true, true, true, true, true, true, true, true, true, true, true, true, true, false, false, false, false, false, false] [] ?_
    refine dT [116, 117, 118, 119, 120, 121] [true, true, true, true, true, true, true, true, true, true, true, true, true, true, true, true, false, false, false, false, false, false, true] [] ?_
    refine dD ?_
    refine gT ?_
    refine gT ?_
    refine oN 1 ?_
    refine oK [3, 4, 5, 6, 126] ?_
    refine cF ?_
    refine W.skip ?_
    refine hK3 _ ?_
    clear hK3 K3
    refine rEw ?_
    refine ⟨(i + 1, g5), lf0, v0, v0⟩
   ·
    replace F := F.add hle
    have ha0 : a0 = 12 := by rw [qs0, if_neg (by omega)]
    replace F := F.add ha0
    refine W.seqR ?_
    refine oN 3 ?_
    refine gT ?_
    refine gT ?_
    refine gT ?_
    refine oN 2 ?_
    refine gT ?_
    refine gT ?_
    refine gT ?_
    refine gT ?_
    refine oN 2 ?_
    refine gT ?_
    refine gT ?_
    refine gT ?_
    refine gT ?_
    refine gT ?_
    refine gT ?_
    refine gT ?_
    refine gT ?_
    refine oN 2 ?_
    refine gT ?_
    refine gT ?_
    refine gT ?_
    refine gT ?_
    refine oN 1 ?_
    refine oK [3, 4, 5, 6, 7, 10, 12, 99] ?_
    refine cF ?_
    refine W.skip ?_
    refine hK5 _ ?_
    clear hK5 K5
    refine wD 24 [(9, [120])] [[], [0], [0, 1], [1, 0, 2], [2, 0, 1, 3], [3, 1, 0, 2, 4], [3, 1, 0, 2, 4], [3, 1, 0, 2, 4], [3, 1, 0, 2, 4], [8, 4, 2, 0, 1, 3, 7], [3, 1, 0, 2, 4], [10, 7, 8, 9, 6, 4, 2, 0, 1, 3, 5], [3, 1, 0, 2, 4], [4, 2, 0, 1, 3, 12], [12, 13, 5, 3, 1, 0, 2, 4, 6, 9, 8, 7, 10, 11], [11, 10, 7, 8, 9, 6, 4, 2, 0, 1, 3, 5, 13, 12, 14], [14, 12, 13, 5, 3, 1, 0, 2, 4, 6, 9, 8, 7, 10, 11, 15], [14, 12, 13, 5, 3, 1, 0, 2, 4, 6, 9, 8, 7, 10, 11, 15], [14, 12, 13, 5, 3, 1, 0, 2, 4, 6, 9, 8, 7, 10, 11, 15], [15, 11, 10, 7, 8, 9, 6, 4, 2, 0, 1, 3, 5, 13, 12, 14, 18], [14, 12, 13, 5, 3, 1, 0, 2, 4, 6, 9, 8, 7, 10, 11, 15], [20, 18, 19, 17, 15, 11, 10, 7, 8, 9, 6, 4, 2, 0, 1, 3, 5, 13, 12, 14, 16], [14, 12, 13, 5, 3, 1, 0, 2, 4, 6, 9, 8, 7, 10, 11, 15], [15, 11, 10, 7, 8, 9, 6, 4, 2, 0, 1, 3, 5, 13, 12, 14, 22], [22, 23, 16, 14, 12, 13, 5, 3, 1, 0, 2, 4, 6, 9, 8, 7, 10, 11, 15, 17, 19, 18, 20, 21], [21, 20, 18, 19, 17, 16, 23, 22, 24, 14, 12, 13, 5, 3, 1, 0, 2, 4, 6, 9, 8, 7, 10, 11, 15], [15, 11, 10, 7, 8, 9, 6, 5, 13, 12, 14, 24, 22, 23, 16, 17, 19, 18, 20, 21, 25, 3, 1, 0, 2, 4]] ?_
    refine dB [([], [], []), ([], [true], []), ([], [true, true], []), ([], [true, true, true], []), ([], [true, true, true, true], [])] 19 5 ?_
    refine dF [some 105, some 106, some 107, some 108, some 109, some 110, some 111, some 112, some 113, some 114, some 115] 4 104 true 8 ?_
    refine dF [some 116, some 117, some 118, some 119, some 120, some 121, some 122, some 123] 15 115 false 0 ?_
    refine dD ?_
    refine gF ?_
    refine gF ?_
    refine oN 1 ?_
    refine oK [3, 4, 5, 6, 126] ?_
    refine cF ?_
    refine W.skip ?_
    refine hK3 _ ?_
    clear hK3 K3
    refine rEw ?_
    refine ⟨(i + 1, g3), lf0, v0, v0⟩
  ·
   try simp at hc1
   replace F := F.add hc1
   refine W.exit ?_
   refine hK1 _ ?_
   clear hK2 K2 hK1 K1
   refine W.seqR ?_
   refine oC [] ?_
   refine ct (awake_ok) ?_
   refine oN 1 ?_
   refine oK [2] ?_
   refine W.ret ?_
   exact er0 false [] []
end Go.Sim
