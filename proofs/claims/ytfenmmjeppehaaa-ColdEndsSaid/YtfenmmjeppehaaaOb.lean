/- More ice, a colder hall: the law answers true. -/
import Derived.Test.YtfenmmjeppehaaaLn
import Derived.Test.YtfenmmjeppehaaaLi
import Derived.Test.YtfenmmjeppehaaaQc
namespace Go.Sim
open Go.Proofs
set_option maxRecDepth 100000
set_option linter.unusedSimpArgs false
set_option linter.unusedVariables false
attribute [-simp] List.map_set List.map_take List.map_drop
theorem lotE_cong {c m : Cel} {l : CLot} (hv : ValidC c) (hl : LotOk c.boxes.length l) {h : Int} (h1 : l.born ≤ h) (h2 : h ≤ 240) : lotE c l h = 0 ∧ lotS c l h = lostS c l (h - l.born).toNat := by
  have hb := hl.born
  have e : lotE c l h = 0 := by rw [lotE, if_neg (fun q => q (checkLotC_zero.2 ⟨hv, hl⟩)), if_neg (by omega), if_neg (by omega)]
  exact ⟨e, by rw [lotS, if_pos e]⟩
/-- a box with more ice -/
def MoreB (b b' : CBox) : Prop := ∃ n : Int, 0 ≤ n ∧ n ≤ 19 ∧ b'.room = b.room + n ∧ b'.ice = ⟨b.ice.lo + n, b.ice.hi + n⟩ ∧ (0 ≤ b'.melt.lo ∧ b'.melt.lo ≤ b.melt.lo) ∧ b'.melt.hi = b.melt.hi ∧ b'.cld = b.cld ∧ b'.wrm = b.wrm
theorem MoreB.ok {b b' : CBox} (h : MoreB b b') (k : BoxOk b) (hr : b.room ≤ 500) : BoxOk b' := by
  obtain ⟨n, h1, h2, h3, h4, h5, h6, h7, h8⟩ := h
  have k1 := k.room; have k2 := k.ice; have k3 := k.melt
  refine ⟨by omega, ?_, by omega, by rw [h7]; exact k.cld, by rw [h8]; exact k.wrm, by rw [h7, h8]; exact k.clash⟩
  rw [h4]
  dsimp only
  omega
def setB (l : List CBox) (i : Nat) (b : CBox) : List CBox := l.set i b
theorem set_mapB9 {l : List CBox} {i : Nat} {a1 a2 a3 a4 a5 a6 a7 a8 a9 : Int} : (l.map B9).set i (.agg [I a1, I a2, I a3, I a4, I a5, I a6, I a7, I a8, I a9]) = (l.set i ⟨a1, ⟨a2, a3⟩, ⟨a4, a5⟩, ⟨a6, a7⟩, ⟨a8, a9⟩⟩).map B9 := by rw [List.map_set]; rfl
theorem nth_set_eq {α : Type} [NthD α] {l : List α} {i : Nat} {x : α} (h : i < l.length) : nth (l.set i x) i = x := by rw [nth_get (by rw [List.length_set]; exact h), List.getElem_set_self]
theorem nth_set_ne {α : Type} [NthD α] {l : List α} {i j : Nat} {x : α} (h : j ≠ i) : nth (l.set i x) j = nth l j := by
  unfold nth
  rw [List.getD_eq_getElem?_getD, List.getD_eq_getElem?_getD, List.getElem?_set_ne (Ne.symm h)]
set_option maxHeartbeats 4000000 in
theorem ColdColder_ok (nums : List Int) : ACalls Try.prog 4 [ints nums] [] (fun r o => r = B true ∧ o = []) := by
 have F := Fx.nil
 refine ent Try.func4 Try.ntmps4 Try.results4 ?_
 refine rK [0] ?_
 refine W.seqR ?_
 refine oN 1 ?_
 refine oC [] ?_
 refine ct (DieOf_ok _) ?_
 refine oN 1 ?_
 refine oK [3] ?_
 refine W.seqR ?_
 refine oN 1 ?_
 refine oC [(10000, 168)] ?_
 refine CallT.mkE (CellarOf_ok _ 3 5 (by omega) (by omega)) (fun z23 hz23 => ⟨(by simp), ?_⟩)
 obtain ⟨c, g1⟩ := z23
 have qmc : MadeC c 3 5 := hz23
 have qv := qmc.ok
 have hb6 : c.boxes.length ≤ 1000 := by have := qmc.bx; omega
 have hf6 : c.fils.length ≤ 1000 := by have := qmc.fl; omega
 have hr6 : c.rats.length ≤ 1000 := by have := qv.r6; omega
 have hha := qv.hall
 have hh20 := qmc.hall
 replace F := F.add hb6 |>.add hf6 |>.add hr6 |>.add hha |>.add hh20
 refine WOps.norm (by simp [hb6, hf6, hr6, hha, hh20]; rfl) ?_
 refine oN 2 ?_
 refine oK [3, 4] ?_
 refine W.seqR ?_
 refine oN 2 ?_
 refine oC [(10000, 168)] ?_
 refine CallT.mkE (LotOf_ok g1 c hb6 4 (by omega)) (fun z26 hz26 => ⟨(by simp [hb6, hf6, hr6, hha, hh20]), ?_⟩)
 obtain ⟨l, g2⟩ := z26
 have qml : MadeT c l := hz26
 have ql := qml.ok
 have hbn : 0 ≤ l.born ∧ l.born ≤ 9 := ⟨ql.born.1, qml.born⟩
 have qkk := ql.keeps
 replace F := F.add hbn
 refine WOps.norm (by simp [hb6, hf6, hr6, hha, hh20, hbn]; rfl) ?_
 refine oN 2 ?_
 refine oK [3, 4, 5] ?_
 refine W.seqR ?_
 refine oN 2 ?_
 refine oC [(10000, 168)] ?_
 refine CallT.mkE (HourOf_ok g2 l (by omega)) (fun z29 hz29 => ⟨(by simp [hb6, hf6, hr6, hha, hh20, hbn]), ?_⟩)
 obtain ⟨h, g3⟩ := z29
 have hh9 : l.born ≤ h ∧ h ≤ 240 := hz29
 replace F := F.add hh9
 refine WOps.norm (by simp [hb6, hf6, hr6, hha, hh20, hbn, hh9]; rfl) ?_
 refine oN 1 ?_
 refine oK [3, 4, 5, 6] ?_
 refine W.seqR ?_
 refine oN 1 ?_
 refine oC [] ?_
 refine ct (CopyCellar_own c hb6 hf6 hr6) ?_
 refine oN 2 ?_
 refine oK [3, 4, 5, 6, 7] ?_
 refine W.seqR ?_
 refine oN 1 ?_
 refine oC [(10000, 168)] ?_
 refine CallT.mkE (Cast_E g3 30 (by omega) (by omega)) (fun z33 hz33 => ⟨(by simp [hb6, hf6, hr6, hha, hh20, hbn, hh9]), ?_⟩)
 obtain ⟨w, g4⟩ := z33
 have hw9 : 0 ≤ w ∧ w ≤ 30 - 1 := hz33
 replace F := F.add hw9
 refine WOps.norm (by simp [hb6, hf6, hr6, hha, hh20, hbn, hh9, hw9]; rfl) ?_
 refine oN 1 ?_
 refine oK [3, 4, 5, 6, 7, 8] ?_
 refine rKw [3, 4, 5, 6, 7] ?_
 refine W.seqk fun K1 hK1 => ?_
 refine rK [3, 4, 5, 6, 7, 9] ?_
 refine W.block ?_
 refine lpa (α := Nat × List CBox × Int) [3, 4, 5, 6, 7] [51, 60, 99] [248, 168] (fun x => [(9, I x.1)]) (fun x => [(248, .row true 56 9 (x.2.1.map B9)), (168, die x.2.2)]) (fun x => x.1 ≤ c.boxes.length ∧ x.2.1.length = c.boxes.length ∧ (∀ j, j < x.1 → MoreB (nth c.boxes j) (nth x.2.1 j)) ∧ ∀ j, x.1 ≤ j → nth x.2.1 j = nth c.boxes j) (fun x => c.boxes.length - x.1) (0, c.boxes, g4) ?_ ?_
 ·
  exact ⟨Nat.zero_le _, rfl, fun j hj => absurd hj (Nat.not_lt_zero _), fun j _ => rfl⟩
 ·
  intro ⟨i, bs, g⟩ hI0
  simp only [List.cons_append, List.nil_append]
  try dsimp only at hI0
  obtain ⟨hi, hbl, km1, km2⟩ := hI0
  replace F := F.add hi |>.add hbl
  refine W.seqk fun K2 hK2 => ?_
  refine rK [3, 4, 5, 6, 7, 9, 52] ?_
  refine it (fun hc1 => ?_) (fun hc1 => ?_)
  ·
   try simp at hc1
   replace F := F.add hc1
   refine W.skip ?_
   refine hK2 _ ?_
   clear hK2 K2
   refine W.seqk fun K3 hK3 => ?_
   refine W.block ?_
   have hil : i < c.boxes.length := by omega
   have hib : i < bs.length := by omega
   obtain ⟨B, qB⟩ : ∃ B, B = bs[i] := ⟨_, rfl⟩
   have hB : bs[i] = B := qB.symm
   have qBc : B = nth c.boxes i := by rw [qB, ← nth_get hib]; exact km2 i (Nat.le_refl _)
   have qBk : BoxOk B := by rw [qBc]; exact qv.box hil
   have qBr : B.room ≤ 500 := by rw [qBc, nth_get hil]; exact qmc.room _ (List.getElem_mem hil)
   have hr1 := qBk.room
   have hr2 := qBk.ice
   have hr3 := qBk.melt
   have hr4 : B.room ≤ 500 := qBr
   replace F := F.add hil |>.add hib |>.add hB |>.add hr1 |>.add hr2 |>.add hr3 |>.add hr4
   refine rK [3, 4, 5, 6, 7, 9, 10] ?_
   refine W.seqR ?_
   refine oN 1 ?_
   refine oC [(10000, 168)] ?_
   refine CallT.mkE (Cast_E g 20 (by omega) (by omega)) (fun z60 hz60 => ⟨(by simp [hb6, hf6, hr6, hha, hh20, hbn, hh9, hw9, hi, hbl, hc1, hil, hib, hB, hr1, hr2, hr3, hr4]), ?_⟩)
   obtain ⟨n, g5⟩ := z60
   have hn9 : 0 ≤ n ∧ n ≤ 20 - 1 := hz60
   replace F := F.add hn9
   refine WOps.norm (by simp [hb6, hf6, hr6, hha, hh20, hbn, hh9, hw9, hi, hbl, hc1, hil, hib, hB, hr1, hr2, hr3, hr4, hn9]; rfl) ?_
   refine oN 1 ?_
   refine oK [3, 4, 5, 6, 7, 9, 10, 11] ?_
   refine wD 30 [(25, [248]), (29, [248])] [[], [], [], [], [3], [3, 4], [4, 3, 5], [], [7, 5, 3, 4, 6], [], [9], [9, 10], [10, 9, 11], [11, 9, 10, 12], [], [14, 12, 10, 9, 11, 13], [], [16], [16, 17], [17, 16, 18], [18, 16, 17, 19], [], [21, 19, 17, 16, 18, 20], [19, 17, 16, 18, 20, 12, 10, 9, 11, 13, 8, 7, 6, 5, 4, 3, 0], [0, 3, 4, 5, 6, 7, 8, 13, 11, 9, 10, 12, 20, 18, 16, 17, 19, 23], [23, 19, 17, 16, 18, 20, 12, 10, 9, 11, 13, 8, 7, 6, 5, 4, 3, 0, 24], [25, 24, 23, 19, 17, 16, 18, 20, 15, 14, 13, 12, 11, 10, 9, 8, 7, 6, 5, 4, 3, 0, 1], [1, 0, 3, 4, 5, 6, 7, 8, 9, 10, 11, 12, 13, 14, 15, 20, 18, 16, 17, 19, 23, 24, 25, 26], [26, 25, 24, 23, 19, 17, 16, 18, 20, 15, 14, 13, 12, 11, 10, 9, 8, 7, 6, 5, 4, 3, 0, 1, 27], [27, 1, 0, 3, 4, 5, 6, 7, 8, 9, 10, 11, 12, 13, 14, 15, 20, 18, 16, 17, 19, 23, 24, 25, 26, 28], [29, 28, 27, 26, 25, 24, 23, 22, 21, 20, 19, 18, 17, 16, 15, 14, 13, 12, 11, 10, 9, 8, 7, 6, 5, 4, 3, 1, 0, 2], [2, 0, 1, 3, 4, 5, 6, 7, 8, 9, 10, 11, 12, 13, 14, 15, 16, 17, 18, 19, 20, 21, 22, 23, 24, 25, 26, 27, 28, 29, 30], [30, 29, 28, 27, 26, 25, 24, 23, 22, 21, 20, 19, 18, 17, 16, 15, 14, 13, 12, 11, 10, 9, 8, 7, 6, 5, 4, 3, 1, 0, 2, 31], [31, 2, 0, 1, 3, 4, 5, 6, 7, 8, 9, 10, 11, 12, 13, 14, 15, 16, 17, 18, 19, 20, 21, 22, 23, 24, 25, 26, 27, 28, 29, 30, 32]] ?_
   refine dBw [([62, 63, 64, 65, 66, 67, 68, 69, 70, 71, 72, 73, 74, 75, 76, 77, 78, 79, 80, 81, 82, 83], [], []), ([61, 63, 64, 65, 66, 67, 68, 69, 70, 71, 72, 73, 74, 75, 76, 77, 78, 79, 80, 81, 82, 83, 84, 85], [false], [248]), ([61, 62, 64, 65, 66, 67, 68, 69, 70, 71, 72, 73, 74, 75, 76, 77, 78, 79, 80, 81, 82, 83, 84, 85, 86, 87, 88], [false, false], [248, 248]), ([61, 62, 63, 68, 70, 71, 72, 73, 74, 75, 76, 77, 78, 79, 80, 81, 82, 83], [false, false, false], []), ([61, 62, 63, 68, 70, 71, 72, 73, 74, 75, 76, 77, 78, 79, 80, 81, 82, 83], [false, false, false, true], []), ([61, 62, 63, 68, 70, 71, 72, 73, 74, 75, 76, 77, 78, 79, 80, 81, 82, 83], [false, false, false, true, true], []), ([61, 62, 63, 68, 70, 71, 72, 73, 74, 75, 76, 77, 78, 79, 80, 81, 82, 83], [false, false, false, true, true, true], []), ([61, 62, 63, 64, 65, 66, 67, 70, 71, 72, 73, 74, 75, 76, 77, 78, 79, 80, 81, 82, 83], [false, false, false, false, false, false, false], []), ([61, 62, 63, 70, 71, 72, 73, 74, 75, 76, 77, 78, 79, 80, 81, 82, 83], [false, false, false, true, true, true, true, true], []), ([61, 62, 63, 64, 65, 66, 67, 68, 69, 75, 77, 78, 79, 80, 81, 82, 83], [false, false, false, false, false, false, false, false, false], []), ([61, 62, 63, 64, 65, 66, 67, 68, 69, 75, 77, 78, 79, 80, 81, 82, 83], [false, false, false, false, false, false, false, false, false, true], []), ([61, 62, 63, 64, 65, 66, 67, 68, 69, 75, 77, 78, 79, 80, 81, 82, 83], [false, false, false, false, false, false, false, false, false, true, true], []), ([61, 62, 63, 64, 65, 66, 67, 68, 69, 75, 77, 78, 79, 80, 81, 82, 83], [false, false, false, false, false, false, false, false, false, true, true, true], []), ([61, 62, 63, 64, 65, 66, 67, 68, 69, 75, 77, 78, 79, 80, 81, 82, 83], [false, false, false, false, false, false, false, false, false, true, true, true, true], []), ([61, 62, 63, 64, 65, 66, 67, 68, 69, 70, 71, 72, 73, 74, 77, 78, 79, 80, 81, 82, 83, 84, 85], [false, false, false, false, false, false, false, false, false, false, false, false, false, false], [248]), ([61, 62, 63, 64, 65, 66, 67, 68, 69, 77, 78, 79, 80, 81, 82, 83, 84, 85], [false, false, false, false, false, false, false, false, false, true, true, true, true, true, true], [248]), ([61, 62, 63, 64, 65, 66, 67, 68, 69, 70, 71, 72, 73, 74, 75, 76, 82], [false, false, false, false, false, false, false, false, false, false, false, false, false, false, false, false], []), ([61, 62, 63, 64, 65, 66, 67, 68, 69, 70, 71, 72, 73, 74, 75, 76, 82], [false, false, false, false, false, false, false, false, false, false, false, false, false, false, false, false, true], []), ([61, 62, 63, 64, 65, 66, 67, 68, 69, 70, 71, 72, 73, 74, 75, 76, 82], [false, false, false, false, false, false, false, false, false, false, false, false, false, false, false, false, true, true], []), ([61, 62, 63, 64, 65, 66, 67, 68, 69, 70, 71, 72, 73, 74, 75, 76, 82], [false, false, false, false, false, false, false, false, false, false, false, false, false, false, false, false, true, true, true], []), ([61, 62, 63, 64, 65, 66, 67, 68, 69, 70, 71, 72, 73, 74, 75, 76, 82], [false, false, false, false, false, false, false, false, false, false, false, false, false, false, false, false, true, true, true, true], []), ([61, 62, 63, 64, 65, 66, 67, 68, 69, 70, 71, 72, 73, 74, 75, 76, 77, 78, 79, 80, 81, 84, 85, 86, 87, 88], [false, false, false, false, false, false, false, false, false, false, false, false, false, false, false, false, false, false, false, false, false], [248, 248]), ([61, 62, 63, 64, 65, 66, 67, 68, 69, 70, 71, 72, 73, 74, 75, 76, 84, 85, 86, 87, 88], [false, false, false, false, false, false, false, false, false, false, false, false, false, false, false, false, true, true, true, true, true, true], [248, 248]), ([62, 63, 75, 76, 82, 83], [true, false, false, true, true, true, true, true, true, true, true, true, true, true, false, false, true, true, true, true, true, false, false], []), ([62, 63, 75, 76, 82, 83], [true, false, false, true, true, true, true, true, true, true, true, true, true, true, false, false, true, true, true, true, true, false, false, true], [])] 5 25 ?_
   refine WDraw.upd hΓ [248] (viewB_eq (L := [62, 63, 75, 76, 82, 83]) (S := [true, false, false, true, true, true, true, true, true, true, true, true, true, true, false, false, true, true, true, true, true, false, false, true, true]) (O := []) (by kernel_rfl) (by kernel_rfl) (by simp [hb6, hf6, hr6, hha, hh20, hbn, hh9, hw9, hi, hbl, hc1, hil, hib, hB, hr1, hr2, hr3, hr4, hn9]; rfl)) (by first | rfl | simp) (by simp [hb6, hf6, hr6, hha, hh20, hbn, hh9, hw9, hi, hbl, hc1, hil, hib, hB, hr1, hr2, hr3, hr4, hn9]; first | rfl | exact ⟨rfl, rfl⟩) (by simp [hb6, hf6, hr6, hha, hh20, hbn, hh9, hw9, hi, hbl, hc1, hil, hib, hB, hr1, hr2, hr3, hr4, hn9]; first | done | rfl) (.inr (by simp)) (by simp [hb6, hf6, hr6, hha, hh20, hbn, hh9, hw9, hi, hbl, hc1, hil, hib, hB, hr1, hr2, hr3, hr4, hn9]; rfl) ?_
   refine dB [([63, 82, 83], [true, true, false, true, true, true, true, true, true, true, true, true, true, true, true, true, true, true, true, true, true, false, false, true, true, true], []), ([63, 82, 83], [true, true, false, true, true, true, true, true, true, true, true, true, true, true, true, true, true, true, true, true, true, false, false, true, true, true, true], []), ([63, 82, 83], [true, true, false, true, true, true, true, true, true, true, true, true, true, true, true, true, true, true, true, true, true, false, false, true, true, true, true, true], [])] 1 29 ?_
   refine WDraw.upd hΓ [248] (viewB_eq (L := [63, 82, 83]) (S := [true, true, false, true, true, true, true, true, true, true, true, true, true, true, true, true, true, true, true, true, true, false, false, true, true, true, true, true, true]) (O := []) (by kernel_rfl) (by kernel_rfl) (by simp [hb6, hf6, hr6, hha, hh20, hbn, hh9, hw9, hi, hbl, hc1, hil, hib, hB, hr1, hr2, hr3, hr4, hn9]; rfl)) (by first | rfl | simp) (by simp [hb6, hf6, hr6, hha, hh20, hbn, hh9, hw9, hi, hbl, hc1, hil, hib, hB, hr1, hr2, hr3, hr4, hn9]; first | rfl | exact ⟨rfl, rfl⟩) (by simp [hb6, hf6, hr6, hha, hh20, hbn, hh9, hw9, hi, hbl, hc1, hil, hib, hB, hr1, hr2, hr3, hr4, hn9]; first | done | rfl) (.inr (by simp)) (by simp [hb6, hf6, hr6, hha, hh20, hbn, hh9, hw9, hi, hbl, hc1, hil, hib, hB, hr1, hr2, hr3, hr4, hn9]; rfl) ?_
   refine dD ?_
   refine WOps.le Le.dedup rfl rfl ?_
   refine WOps.norm (by simp [hb6, hf6, hr6, hha, hh20, hbn, hh9, hw9, hi, hbl, hc1, hil, hib, hB, hr1, hr2, hr3, hr4, hn9]; rfl) ?_
   refine oN 4 ?_
   refine oK [3, 4, 5, 6, 7, 9, 10] ?_
   obtain ⟨y, qy⟩ : ∃ y, fromV g5 0 B.melt.lo = y := ⟨_, rfl⟩
   obtain ⟨g6, qg6⟩ : ∃ g6, fromF g5 0 B.melt.lo = g6 := ⟨_, rfl⟩
   have hy := qy
   have hg6 := qg6
   have qyr : 0 ≤ y ∧ y ≤ B.melt.lo := by rw [← qy]; exact fromV_range _ (by omega)
   replace F := F.add hy |>.add hg6
   refine W.region ?_
   refine oN 7 ?_
   refine oC [(10000, 168)] ?_
   refine ct (From_ok g5 0 B.melt.lo (by omega) (by omega) (by omega) (by omega)) ?_
   refine oN 4 ?_
   refine WOps.endK ?_
   refine hK3 _ ?_
   clear hK3 K3
   refine rEw ?_
   refine ⟨(i + 1, bs.set i ⟨B.room + n, ⟨B.ice.lo + n, B.ice.hi + n⟩, ⟨y, B.melt.hi⟩, B.cld, B.wrm⟩, g6), lf ?_ ?_, ?_, v0⟩
   ·
    exact v1
   ·
    try (simp [Fx.get F])
    all_goals (
     exact set_mapB9
    )
   ·
    refine ⟨by show i + 1 ≤ _; omega, by show (bs.set i _).length = _; rw [List.length_set]; exact hbl, fun j hj => ?_, fun j hj => ?_⟩
    · have hj' : j < i + 1 := hj
      show MoreB (nth c.boxes j) (nth (bs.set i _) j)
      by_cases e : j = i
      · subst e
        rw [nth_set_eq hib, ← qBc]
        exact ⟨n, by omega, by omega, rfl, rfl, by show 0 ≤ y ∧ y ≤ B.melt.lo; exact qyr, rfl, rfl, rfl⟩
      · rw [nth_set_ne e]; exact km1 j (by omega)
    · have hj' : i + 1 ≤ j := hj
      show nth (bs.set i _) j = nth c.boxes j
      rw [nth_set_ne (by omega)]; exact km2 j (by omega)
  ·
   try simp at hc1
   replace F := F.add hc1
   refine W.exit ?_
   refine hK1 _ ?_
   clear hK2 K2 hK1 K1
   obtain ⟨M, qM⟩ : ∃ M : Cel, M = ⟨⟨c.hall.lo - w, c.hall.hi - w⟩, bs, c.fils, c.rats⟩ := ⟨_, rfl⟩
   have hie : i = c.boxes.length := by omega
   have htk : List.take c.boxes.length bs = bs := List.take_of_length_le (by omega)
   have qmb : ∀ j, j < c.boxes.length → MoreB (nth c.boxes j) (nth bs j) := fun j hj => km1 j (by omega)
   have qmv : ValidC M := by
     rw [qM]
     refine ⟨by show -300 ≤ c.hall.lo - w ∧ c.hall.lo - w ≤ c.hall.hi - w ∧ c.hall.hi - w ≤ 400; omega, by show bs.length ≤ 6; rw [hbl]; exact qv.b6, fun b hb => ?_, qv.f20, fun f hf => ?_, qv.fls, qv.r0, qv.r6, qv.rt, qv.rts⟩
     · obtain ⟨j, hj, rfl⟩ := List.getElem_of_mem hb
       have hj2 : j < bs.length := hj
       have := (qmb j (by omega)).ok (qv.box (by omega)) (by rw [nth_get (show j < c.boxes.length by omega)]; exact qmc.room _ (List.getElem_mem _))
       rwa [nth_get hj2] at this
     · show FilOk bs.length f
       rw [hbl]; exact qv.fl f hf
   have qmr : ColderR c M := by
     rw [qM]
     refine ⟨rfl, rfl, hbl, ⟨by show c.hall.lo - w ≤ c.hall.lo; omega, by show c.hall.hi - w ≤ c.hall.hi; omega⟩, fun b hb => ?_⟩
     obtain ⟨n, h1, h2, h3, h4, h5, h6, h7, h8⟩ := qmb b hb
     show (nth c.boxes b).room ≤ (nth bs b).room ∧ (nth c.boxes b).ice.lo ≤ (nth bs b).ice.lo ∧ (nth c.boxes b).ice.hi ≤ (nth bs b).ice.hi ∧ (nth bs b).melt.lo ≤ (nth c.boxes b).melt.lo ∧ (nth bs b).melt.hi ≤ (nth c.boxes b).melt.hi ∧ (nth bs b).cld = (nth c.boxes b).cld ∧ (nth bs b).wrm = (nth c.boxes b).wrm
     rw [h3, h4, h7, h8]
     dsimp only
     exact ⟨by omega, by omega, by omega, by omega, by omega, rfl, rfl⟩
   have qml2 : LotOk M.boxes.length l := by rw [qM]; show LotOk bs.length l; rw [hbl]; exact ql
   obtain ⟨qc1, qc2⟩ := lotE_cong (m := c) qv ql hh9.1 hh9.2
   obtain ⟨qd1, qd2⟩ := lotE_cong (m := c) qmv qml2 hh9.1 hh9.2
   have qlo := qmr.lost qv qmv ql (h - l.born).toNat
   have qc3 : checkLotC c l = 0 := checkLotC_zero.2 ⟨qv, ql⟩
   have qd3 : checkLotC M l = 0 := checkLotC_zero.2 ⟨qmv, qml2⟩
   have qla : lastV c l ≤ lastV M l := by
     rw [lastV, lastV, if_pos qc3, if_pos qd3, lastC, lastC]
     have := lastK_anti (f := fun k => (lostS c l k).hi) (g := fun k => (lostS M l k).hi) (b := l.keeps) (fun k => (qmr.lost qv qmv ql k).2) (by show (0 : Int) ≤ _; omega) (240 - l.born).toNat
     omega
   have hM : (⟨⟨c.hall.lo - w, c.hall.hi - w⟩, bs, c.fils, c.rats⟩ : Cel) = M := qM.symm
   have hx1 := qc1
   have hx2 := qc2
   have hx3 := qd1
   have hx4 := qd2
   have hx5 := qc3
   have hx6 := qd3
   have hx7 := qlo
   have hx8 := qla
   replace F := F.add hie |>.add htk |>.add hM |>.add hx1 |>.add hx2 |>.add hx3 |>.add hx4 |>.add hx5 |>.add hx6 |>.add hx7 |>.add hx8
   refine W.seqR ?_
   refine oN 3 ?_
   refine oC [] ?_
   refine ct (Lost_ok ⟨⟨_, _⟩, _, _, _⟩ ⟨_, _, _⟩ _) ?_
   refine oN 6 ?_
   refine oK [4, 5, 6, 7, 12, 13] ?_
   refine W.seqR ?_
   refine oN 3 ?_
   refine oC [] ?_
   refine ct (Lost_ok ⟨⟨_, _⟩, _, _, _⟩ ⟨_, _, _⟩ _) ?_
   refine oN 6 ?_
   refine oK [4, 5, 7, 12, 13, 14, 15] ?_
   refine W.seqR ?_
   refine oN 2 ?_
   refine oC [] ?_
   refine ct (Last_ok ⟨⟨_, _⟩, _, _, _⟩ ⟨_, _, _⟩) ?_
   refine oN 5 ?_
   refine oK [5, 7, 12, 13, 14, 15, 16, 17] ?_
   refine W.seqR ?_
   refine oN 2 ?_
   refine oC [] ?_
   refine ct (Last_ok ⟨⟨_, _⟩, _, _, _⟩ ⟨_, _, _⟩) ?_
   refine oN 5 ?_
   refine oK [12, 13, 14, 15, 16, 17, 18, 19] ?_
   refine W.seqR ?_
   refine oN 3 ?_
   refine gT ?_
   refine gT ?_
   refine oN 2 ?_
   refine gT ?_
   refine gT ?_
   refine oN 2 ?_
   refine gT ?_
   refine gT ?_
   refine oN 2 ?_
   refine gT ?_
   refine gT ?_
   refine gT ?_
   refine gT ?_
   refine gT ?_
   refine oN 2 ?_
   refine gT ?_
   refine gT ?_
   refine gT ?_
   refine gT ?_
   refine gT ?_
   refine oN 2 ?_
   refine gT ?_
   refine gT ?_
   refine gT ?_
   refine oN 2 ?_
   refine gC [] ?_
   refine ct (awake_ok) ?_
   refine oN 2 ?_
   refine oK [2] ?_
   refine W.ret ?_
   exact er0 false [] []
end Go.Sim
