/- From hour to hour: the law answers true. -/
import Derived.Test.YtfenmmjeppehaaaLn
import Derived.Test.YtfenmmjeppehaaaLi
namespace Go.Sim
open Go.Proofs
set_option maxRecDepth 100000
set_option linter.unusedSimpArgs false
set_option linter.unusedVariables false
attribute [-simp] List.map_set List.map_take List.map_drop
theorem lotE_at {c : Cel} {l : CLot} (hv : ValidC c) (hl : LotOk c.boxes.length l) {k : Nat} (hk : l.born + k ≤ 240) : lotE c l (l.born + k) = 0 ∧ lotS c l (l.born + k) = lostS c l k := by
  have hb := hl.born
  have e : lotE c l (l.born + k) = 0 := by rw [lotE, if_neg (fun q => q (checkLotC_zero.2 ⟨hv, hl⟩)), if_neg (by omega), if_neg (by omega)]
  exact ⟨e, by rw [lotS, if_pos e, show (l.born + (k : Int) - l.born).toNat = k by omega]⟩
theorem fresh_at {c : Cel} {l : CLot} (hv : ValidC c) (hl : LotOk c.boxes.length l) {k : Nat} (hk : l.born + k ≤ 240) : freshV c l (l.born + k) = verd (decide ((lostS c l k).hi ≤ l.keeps)) (decide ((lostS c l k).lo ≤ l.keeps)) := by
  obtain ⟨h1, h2⟩ := lotE_at hv hl hk
  rw [freshV, if_pos h1, h2]
set_option maxHeartbeats 4000000 in
theorem ColdOn_ok (nums : List Int) : ACalls Try.prog 6 [ints nums] [] (fun r o => r = B true ∧ o = []) := by
 have F := Fx.nil
 refine ent Try.func6 Try.ntmps6 Try.results6 ?_
 refine rK [0] ?_
 refine W.seqR ?_
 refine oN 1 ?_
 refine oC [] ?_
 refine ct (DieOf_ok _) ?_
 refine oN 1 ?_
 refine oK [3] ?_
 refine W.seqR ?_
 refine oN 1 ?_
 refine oC [(10000, 112)] ?_
 refine CallT.mkE (CellarOf_ok _ 3 5 (by omega) (by omega)) (fun z16 hz16 => ⟨(by simp), ?_⟩)
 obtain ⟨c, g1⟩ := z16
 have qmc : MadeC c 3 5 := hz16
 have qv := qmc.ok
 have hb6 : c.boxes.length ≤ 1000 := by have := qmc.bx; omega
 replace F := F.add hb6
 refine WOps.norm (by simp [hb6]; rfl) ?_
 refine oN 2 ?_
 refine oK [3, 4] ?_
 refine W.seqR ?_
 refine oN 2 ?_
 refine oC [(10000, 112)] ?_
 refine CallT.mkE (LotOf_ok g1 c hb6 4 (by omega)) (fun z19 hz19 => ⟨(by simp [hb6]), ?_⟩)
 obtain ⟨l, g2⟩ := z19
 have qml : MadeT c l := hz19
 have ql := qml.ok
 have hbn : 0 ≤ l.born ∧ l.born ≤ 9 := ⟨ql.born.1, qml.born⟩
 have qk0 := ql.keeps
 replace F := F.add hbn
 refine WOps.norm (by simp [hb6, hbn]; rfl) ?_
 refine oN 2 ?_
 refine oK [4, 5] ?_
 refine W.seqR ?_
 refine oC [] ?_
 refine ct (span_ok _ _) ?_
 refine oN 3 ?_
 refine oK [4, 5, 6, 7] ?_
 refine W.seqk fun K1 hK1 => ?_
 refine rK [4, 5, 6, 7, 8] ?_
 refine W.block ?_
 refine lpa (α := Nat × Spn × Bool) [4, 5, 6] [9, 34, 41, 71] [48] (fun x => [(8, I (l.born + x.1)), (7, B x.2.2)]) (fun x => [(48, .row false 23 2 [.agg [I x.2.1.lo, I x.2.1.hi]])]) (fun x => x.1 ≤ 25 ∧ x.2.1 = lostS c l (x.1 - 1) ∧ x.2.2 = decide ((lostS c l (x.1 - 1)).hi ≤ l.keeps)) (fun x => 25 - x.1) (0, ⟨0, 0⟩, true) ?_ ?_
 ·
  exact ⟨Nat.zero_le _, rfl, by show true = decide ((0 : Int) ≤ l.keeps); rw [decide_eq_true qk0.1]⟩
 ·
  intro ⟨k, bf, s⟩ hI0
  simp only [List.cons_append, List.nil_append]
  try dsimp only at hI0
  obtain ⟨hk, qbf, qs⟩ := hI0
  replace F := F.add hk
  refine W.seqk fun K2 hK2 => ?_
  refine rKw [4, 5, 6, 7, 8, 27] ?_
  refine it (fun hc1 => ?_) (fun hc1 => ?_)
  ·
   try simp at hc1
   replace F := F.add hc1
   refine W.skip ?_
   refine hK2 _ ?_
   clear hK2 K2
   refine W.seqk fun K3 hK3 => ?_
   refine W.block ?_
   have hk5 : k < 25 := by omega
   obtain ⟨qe1, qe2⟩ := lotE_at qv ql (k := k) (by omega)
   have he := qe1
   have hs := qe2
   obtain ⟨v, qvv⟩ : ∃ v, freshV c l (l.born + k) = v := ⟨_, rfl⟩
   have hvv := qvv
   have qv1 : v = 1 ↔ (lostS c l k).hi ≤ l.keeps := by rw [← qvv, fresh_at qv ql (by omega), verd_one]; simp
   have qmo := lostS_mono qv l (i := k - 1) (d := k - (k - 1))
   rw [show k - 1 + (k - (k - 1)) = k by omega, ← qbf] at qmo
   have hm1 : ¬ (lostS c l k).lo < bf.lo := by omega
   have hm2 : ¬ (lostS c l k).hi < bf.hi := by omega
   replace F := F.add hk5 |>.add he |>.add hs |>.add hvv |>.add hm1 |>.add hm2
   refine W.seqR ?_
   refine oN 3 ?_
   refine oC [] ?_
   refine ct (Lost_ok ⟨⟨_, _⟩, _, _, _⟩ ⟨_, _, _⟩ _) ?_
   refine oN 6 ?_
   refine oK [4, 5, 6, 7, 8, 9, 10] ?_
   refine W.seqR ?_
   refine oN 3 ?_
   refine oC [] ?_
   refine ct (Fresh_ok ⟨⟨_, _⟩, _, _, _⟩ ⟨_, _, _⟩ _) ?_
   refine oN 5 ?_
   refine oK [4, 5, 6, 7, 8, 9, 10, 11, 12] ?_
   refine W.seqk fun K4 hK4 => ?_
   by_cases hk0 : (k == 0) = true
   ·
    replace F := F.add hk0
    have qkz : k = 0 := by simpa using hk0
    have hkz : lostS c l k = ⟨0, 0⟩ := by rw [qkz]; rfl
    have hz1 : ¬ (0 : Int) < bf.lo := by have := hm1; rw [hkz] at this; exact this
    have hz2 : ¬ (0 : Int) < bf.hi := by have := hm2; rw [hkz] at this; exact this
    have hkb : (l.born + (k : Int) == l.born) = true := by rw [qkz]; simp
    replace F := F.add hkz |>.add hz1 |>.add hz2 |>.add hkb
    by_cases hss : s = true
    ·
     replace F := F.add hss
     refine wD 28 [] [[], [0], [0, 1], [1, 0, 2], [2, 0, 1, 3], [3, 4, 1, 0, 2], [2, 0, 1, 4, 3, 5], [5, 3, 4, 1, 0, 2, 6], [6, 2, 0, 1, 4, 3, 5, 7], [5, 3, 4, 1, 0, 2, 6], [6, 2, 0, 1, 4, 3, 5, 9], [9, 10, 7, 5, 3, 4, 1, 0, 2, 6, 8], [8, 7, 10, 9, 11, 5, 3, 4, 1, 0, 2, 6], [6, 2, 0, 1, 4, 3, 5, 11, 9, 10, 7, 8, 12], [12, 8, 7, 10, 9, 11, 5, 3, 4, 1, 0, 2, 6, 13], [13, 6, 2, 0, 1, 4, 3, 5, 11, 9, 10, 7, 8, 12, 14], [12, 8, 7, 10, 9, 11, 5, 3, 4, 1, 0, 2, 6, 13], [13, 6, 2, 0, 1, 4, 3, 5, 11, 9, 10, 7, 8, 12, 16], [16, 17, 14, 12, 8, 7, 10, 9, 11, 5, 3, 4, 1, 0, 2, 6, 13, 15], [15, 14, 17, 16, 18, 12, 8, 7, 10, 9, 11, 5, 3, 4, 1, 0, 2, 6, 13], [13, 6, 2, 0, 1, 4, 3, 5, 11, 9, 10, 7, 8, 12, 18, 16, 17, 14, 15, 19], [19, 15, 14, 17, 16, 18, 12, 8, 7, 10, 9, 11, 5, 3, 4, 1, 0, 2, 6, 13, 20], [19, 15, 14, 17, 16, 18, 12, 8, 7, 10, 9, 11, 5, 3, 4, 1, 0, 2, 6, 13, 20], [20, 13, 6, 2, 0, 1, 4, 3, 5, 11, 9, 10, 7, 8, 12, 18, 16, 17, 14, 15, 19, 22], [22, 23, 20, 13, 6, 2, 0, 1, 4, 3, 5, 11, 9, 10, 7, 8, 12, 18, 16, 17, 14, 15, 19, 21], [21, 19, 15, 14, 17, 16, 18, 12, 8, 7, 10, 9, 11, 5, 3, 4, 1, 0, 2, 6, 13, 20, 23, 22, 24], [24, 22, 23, 20, 13, 6, 2, 0, 1, 4, 3, 5, 11, 9, 10, 7, 8, 12, 18, 16, 17, 14, 15, 19, 21, 25], [24, 22, 23, 20, 13, 6, 2, 0, 1, 4, 3, 5, 11, 9, 10, 7, 8, 12, 18, 16, 17, 14, 15, 19, 21, 25], [27, 25, 21, 19, 15, 14, 17, 16, 18, 12, 8, 7, 10, 9, 11, 5, 3, 4, 1, 0, 2, 6, 13, 20, 23, 22, 24, 26], [26, 27, 28, 24, 22, 23, 20, 13, 6, 2, 0, 1, 4, 3, 5, 11, 9, 10, 7, 8, 12, 18, 16, 17, 14, 15, 19, 21, 25], [25, 21, 23, 22, 24, 28, 27, 26, 29, 19, 15, 14, 17, 16, 18, 12, 8, 7, 10, 9, 11, 5, 3, 4, 1, 0, 2, 6, 13, 20], [20, 13, 6, 2, 0, 1, 4, 3, 5, 11, 9, 10, 7, 8, 12, 18, 16, 17, 14, 15, 19, 29, 26, 27, 28, 24, 22, 23, 21, 25, 30], [30, 25, 21, 23, 22, 24, 28, 27, 26, 29, 19, 15, 14, 17, 16, 18, 12, 8, 7, 10, 9, 11, 5, 3, 4, 1, 0, 2, 6, 13, 20, 31], [31, 20, 13, 6, 2, 0, 1, 4, 3, 5, 11, 9, 10, 7, 8, 12, 18, 16, 17, 14, 15, 19, 29, 26, 27, 28, 24, 22, 23, 21, 25, 30, 32], [32, 30, 25, 21, 23, 22, 24, 28, 27, 26, 29, 19, 15, 14, 17, 16, 18, 12, 8, 7, 10, 9, 11, 5, 3, 4, 1, 0, 2, 6, 13, 20, 31, 33], [33, 31, 20, 13, 6, 2, 0, 1, 4, 3, 5, 11, 9, 10, 7, 8, 12, 18, 16, 17, 14, 15, 19, 29, 26, 27, 28, 24, 22, 23, 21, 25, 30, 32, 34], [34, 32, 30, 25, 21, 23, 22, 24, 28, 27, 26, 29, 19, 15, 14, 17, 16, 18, 12, 8, 7, 10, 9, 11, 5, 3, 4, 1, 0, 2, 6, 13, 20, 31, 33, 35], [35, 36, 33, 31, 20, 13, 6, 2, 0, 1, 4, 3, 5, 11, 9, 10, 7, 8, 12, 18, 16, 17, 14, 15, 19, 29, 26, 27, 28, 24, 22, 23, 21, 25, 30, 32, 34], [34, 32, 33, 36, 35, 37, 30, 25, 21, 23, 22, 24, 28, 27, 26, 29, 19, 15, 14, 17, 16, 18, 12, 8, 7, 10, 9, 11, 5, 3, 4, 1, 0, 2, 6, 13, 20, 31]] ?_
     refine dB [([], [], []), ([], [true], []), ([], [true, true], [])] 25 3 ?_
     refine dT [] [true, true, true] [] ?_
     refine dT [] [true, true, true, true] [] ?_
     refine dB [([], [true, true, true, true, true], []), ([], [true, true, true, true, true, true], [])] 21 7 ?_
     refine dT [53, 54] [true, true, true, true, true, true, true] [] ?_
     refine dT [53, 54] [true, true, true, true, true, true, true, true] [] ?_
     refine dT [51, 52] [true, true, true, true, true, true, true, false, false] [] ?_
     refine dT [51, 52] [true, true, true, true, true, true, true, false, false, true] [] ?_
     refine dT [] [true, true, true, true, true, true, true, true, true, true, true] [] ?_
     refine dB [([], [true, true, true, true, true, true, true, true, true, true, true, true], []), ([], [true, true, true, true, true, true, true, true, true, true, true, true, true], [])] 14 14 ?_
     refine dT [60, 61] [true, true, true, true, true, true, true, true, true, true, true, true, true, true] [] ?_
     refine dT [60, 61] [true, true, true, true, true, true, true, true, true, true, true, true, true, true, true] [] ?_
     refine dT [58, 59] [true, true, true, true, true, true, true, true, true, true, true, true, true, true, false, false] [] ?_
     refine dT [58, 59] [true, true, true, true, true, true, true, true, true, true, true, true, true, true, false, false, true] [] ?_
     refine dT [] [true, true, true, true, true, true, true, true, true, true, true, true, true, true, true, true, true, true] [] ?_
     refine dB [([], [true, true, true, true, true, true, true, true, true, true, true, true, true, true, true, true, true, true, true], []), ([], [true, true, true, true, true, true, true, true, true, true, true, true, true, true, true, true, true, true, true, true], [])] 7 21 ?_
     refine dT [66, 67] [true, true, true, true, true, true, true, true, true, true, true, true, true, true, true, true, true, true, true, true, true] [] ?_
     refine dT [65] [true, true, true, true, true, true, true, true, true, true, true, true, true, true, true, true, true, true, true, true, true, false] [] ?_
     refine dT [65] [true, true, true, true, true, true, true, true, true, true, true, true, true, true, true, true, true, true, true, true, true, false, true] [] ?_
     refine dT [] [true, true, true, true, true, true, true, true, true, true, true, true, true, true, true, true, true, true, true, true, true, true, true, true] [] ?_
     refine dT [] [true, true, true, true, true, true, true, true, true, true, true, true, true, true, true, true, true, true, true, true, true, true, true, true, true] [] ?_
     refine dT [71] [true, true, true, true, true, true, true, true, true, true, true, true, true, true, true, true, true, true, true, true, true, true, true, true, true, true] [] ?_
     refine dG [70] [true, true, true, true, true, true, true, true, true, true, true, true, true, true, true, true, true, true, true, true, true, true, true, true, true, true, false] [] [] ?_
     refine cd (span_ok _ _) ?_
     refine dD ?_
     refine gT ?_
     refine gT ?_
     refine oN 2 ?_
     refine gT ?_
     refine gT ?_
     refine gT ?_
     refine gX ?_
     refine gX ?_
     refine gT ?_
     refine oN 1 ?_
     refine oK [4, 5, 6, 8, 9, 11, 82] ?_
     refine cF ?_
     refine W.skip ?_
     refine hK4 _ ?_
     clear hK4 K4
     refine rE ?_
     refine hK3 _ ?_
     clear hK3 K3
     refine rEw ?_
     refine ⟨(k + 1, lostS c l k, decide (v = 1)), lf ?_ ?_, ?_, v0⟩
     ·
      try (simp [Fx.get F])
      all_goals (
       first | exact ⟨by omega, by simpa using hsv⟩ | exact ⟨by omega, rfl⟩ | omega | rfl
      )
     ·
      exact v1
     ·
      refine ⟨by show k + 1 ≤ 25; omega, rfl, ?_⟩
      show decide (v = 1) = decide ((lostS c l k).hi ≤ l.keeps)
      exact decide_eq_decide.2 qv1
    ·
     replace F := F.add hss
     have hsv : (v == 1) = false := by
       rw [beq_eq_false_iff_ne]
       intro e
       have h1 := qv1.1 e
       apply hss
       rw [qs]
       refine decide_eq_true ?_
       rw [← qbf]; omega
     replace F := F.add hsv
     refine wD 28 [] [[], [0], [0, 1], [1, 0, 2], [2, 0, 1, 3], [3, 4, 1, 0, 2], [2, 0, 1, 4, 3, 5], [5, 3, 4, 1, 0, 2, 6], [6, 2, 0, 1, 4, 3, 5, 7], [5, 3, 4, 1, 0, 2, 6], [6, 2, 0, 1, 4, 3, 5, 9], [9, 10, 7, 5, 3, 4, 1, 0, 2, 6, 8], [8, 7, 10, 9, 11, 5, 3, 4, 1, 0, 2, 6], [6, 2, 0, 1, 4, 3, 5, 11, 9, 10, 7, 8, 12], [12, 8, 7, 10, 9, 11, 5, 3, 4, 1, 0, 2, 6, 13], [13, 6, 2, 0, 1, 4, 3, 5, 11, 9, 10, 7, 8, 12, 14], [12, 8, 7, 10, 9, 11, 5, 3, 4, 1, 0, 2, 6, 13], [13, 6, 2, 0, 1, 4, 3, 5, 11, 9, 10, 7, 8, 12, 16], [16, 17, 14, 12, 8, 7, 10, 9, 11, 5, 3, 4, 1, 0, 2, 6, 13, 15], [15, 14, 17, 16, 18, 12, 8, 7, 10, 9, 11, 5, 3, 4, 1, 0, 2, 6, 13], [13, 6, 2, 0, 1, 4, 3, 5, 11, 9, 10, 7, 8, 12, 18, 16, 17, 14, 15, 19], [19, 15, 14, 17, 16, 18, 12, 8, 7, 10, 9, 11, 5, 3, 4, 1, 0, 2, 6, 13, 20], [19, 15, 14, 17, 16, 18, 12, 8, 7, 10, 9, 11, 5, 3, 4, 1, 0, 2, 6, 13, 20], [20, 13, 6, 2, 0, 1, 4, 3, 5, 11, 9, 10, 7, 8, 12, 18, 16, 17, 14, 15, 19, 22], [22, 23, 20, 13, 6, 2, 0, 1, 4, 3, 5, 11, 9, 10, 7, 8, 12, 18, 16, 17, 14, 15, 19, 21], [21, 19, 15, 14, 17, 16, 18, 12, 8, 7, 10, 9, 11, 5, 3, 4, 1, 0, 2, 6, 13, 20, 23, 22, 24], [24, 22, 23, 20, 13, 6, 2, 0, 1, 4, 3, 5, 11, 9, 10, 7, 8, 12, 18, 16, 17, 14, 15, 19, 21, 25], [24, 22, 23, 20, 13, 6, 2, 0, 1, 4, 3, 5, 11, 9, 10, 7, 8, 12, 18, 16, 17, 14, 15, 19, 21, 25], [27, 25, 21, 19, 15, 14, 17, 16, 18, 12, 8, 7, 10, 9, 11, 5, 3, 4, 1, 0, 2, 6, 13, 20, 23, 22, 24, 26], [26, 27, 28, 24, 22, 23, 20, 13, 6, 2, 0, 1, 4, 3, 5, 11, 9, 10, 7, 8, 12, 18, 16, 17, 14, 15, 19, 21, 25], [25, 21, 23, 22, 24, 28, 27, 26, 29, 19, 15, 14, 17, 16, 18, 12, 8, 7, 10, 9, 11, 5, 3, 4, 1, 0, 2, 6, 13, 20], [20, 13, 6, 2, 0, 1, 4, 3, 5, 11, 9, 10, 7, 8, 12, 18, 16, 17, 14, 15, 19, 29, 26, 27, 28, 24, 22, 23, 21, 25, 30], [30, 25, 21, 23, 22, 24, 28, 27, 26, 29, 19, 15, 14, 17, 16, 18, 12, 8, 7, 10, 9, 11, 5, 3, 4, 1, 0, 2, 6, 13, 20, 31], [31, 20, 13, 6, 2, 0, 1, 4, 3, 5, 11, 9, 10, 7, 8, 12, 18, 16, 17, 14, 15, 19, 29, 26, 27, 28, 24, 22, 23, 21, 25, 30, 32], [32, 30, 25, 21, 23, 22, 24, 28, 27, 26, 29, 19, 15, 14, 17, 16, 18, 12, 8, 7, 10, 9, 11, 5, 3, 4, 1, 0, 2, 6, 13, 20, 31, 33], [33, 31, 20, 13, 6, 2, 0, 1, 4, 3, 5, 11, 9, 10, 7, 8, 12, 18, 16, 17, 14, 15, 19, 29, 26, 27, 28, 24, 22, 23, 21, 25, 30, 32, 34], [34, 32, 30, 25, 21, 23, 22, 24, 28, 27, 26, 29, 19, 15, 14, 17, 16, 18, 12, 8, 7, 10, 9, 11, 5, 3, 4, 1, 0, 2, 6, 13, 20, 31, 33, 35], [35, 36, 33, 31, 20, 13, 6, 2, 0, 1, 4, 3, 5, 11, 9, 10, 7, 8, 12, 18, 16, 17, 14, 15, 19, 29, 26, 27, 28, 24, 22, 23, 21, 25, 30, 32, 34], [34, 32, 33, 36, 35, 37, 30, 25, 21, 23, 22, 24, 28, 27, 26, 29, 19, 15, 14, 17, 16, 18, 12, 8, 7, 10, 9, 11, 5, 3, 4, 1, 0, 2, 6, 13, 20, 31]] ?_
     refine dB [([], [], []), ([], [true], []), ([], [true, true], [])] 25 3 ?_
     refine dT [] [true, true, true] [] ?_
     refine dT [] [true, true, true, true] [] ?_
     refine dB [([], [true, true, true, true, true], []), ([], [true, true, true, true, true, true], [])] 21 7 ?_
     refine dT [53, 54] [true, true, true, true, true, true, true] [] ?_
     refine dT [53, 54] [true, true, true, true, true, true, true, true] [] ?_
     refine dT [51, 52] [true, true, true, true, true, true, true, false, false] [] ?_
     refine dT [51, 52] [true, true, true, true, true, true, true, false, false, true] [] ?_
     refine dT [] [true, true, true, true, true, true, true, true, true, true, true] [] ?_
     refine dB [([], [true, true, true, true, true, true, true, true, true, true, true, true], []), ([], [true, true, true, true, true, true, true, true, true, true, true, true, true], [])] 14 14 ?_
     refine dT [60, 61] [true, true, true, true, true, true, true, true, true, true, true, true, true, true] [] ?_
     refine dT [60, 61] [true, true, true, true, true, true, true, true, true, true, true, true, true, true, true] [] ?_
     refine dT [58, 59] [true, true, true, true, true, true, true, true, true, true, true, true, true, true, false, false] [] ?_
     refine dT [58, 59] [true, true, true, true, true, true, true, true, true, true, true, true, true, true, false, false, true] [] ?_
     refine dT [] [true, true, true, true, true, true, true, true, true, true, true, true, true, true, true, true, true, true] [] ?_
     refine dB [([], [true, true, true, true, true, true, true, true, true, true, true, true, true, true, true, true, true, true, true], []), ([], [true, true, true, true, true, true, true, true, true, true, true, true, true, true, true, true, true, true, true, true], [])] 7 21 ?_
     refine dT [66, 67] [true, true, true, true, true, true, true, true, true, true, true, true, true, true, true, true, true, true, true, true, true] [] ?_
     refine dT [65] [true, true, true, true, true, true, true, true, true, true, true, true, true, true, true, true, true, true, true, true, true, false] [] ?_
     refine dT [65] [true, true, true, true, true, true, true, true, true, true, true, true, true, true, true, true, true, true, true, true, true, false, true] [] ?_
     refine dT [] [true, true, true, true, true, true, true, true, true, true, true, true, true, true, true, true, true, true, true, true, true, true, true, true] [] ?_
     refine dT [] [true, true, true, true, true, true, true, true, true, true, true, true, true, true, true, true, true, true, true, true, true, true, true, true, true] [] ?_
     refine dT [71] [true, true, true, true, true, true, true, true, true, true, true, true, true, true, true, true, true, true, true, true, true, true, true, true, true, true] [] ?_
     refine dG [70] [true, true, true, true, true, true, true, true, true, true, true, true, true, true, true, true, true, true, true, true, true, true, true, true, true, true, false] [] [] ?_
     refine cd (span_ok _ _) ?_
     refine dD ?_
     refine gT ?_
     refine gT ?_
     refine oN 2 ?_
     refine gT ?_
     refine gT ?_
     refine gT ?_
     refine gF ?_
     refine gF ?_
     refine gT ?_
     refine oN 1 ?_
     refine oK [4, 5, 6, 8, 9, 11, 82] ?_
     refine cF ?_
     refine W.skip ?_
     refine hK4 _ ?_
     clear hK4 K4
     refine rE ?_
     refine hK3 _ ?_
     clear hK3 K3
     refine rEw ?_
     refine ⟨(k + 1, lostS c l k, decide (v = 1)), lf ?_ ?_, ?_, v0⟩
     ·
      try (simp [Fx.get F])
      all_goals (
       first | exact ⟨by omega, by simpa using hsv⟩ | exact ⟨by omega, rfl⟩ | omega | rfl
      )
     ·
      exact v1
     ·
      refine ⟨by show k + 1 ≤ 25; omega, rfl, ?_⟩
      show decide (v = 1) = decide ((lostS c l k).hi ≤ l.keeps)
      exact decide_eq_decide.2 qv1
   ·
    replace F := F.add hk0
    have qkz : ¬ k = 0 := by simpa using hk0
    have hkb : (l.born + (k : Int) == l.born) = false := by
      rw [beq_eq_false_iff_ne]; omega
    replace F := F.add hkb
    by_cases hss : s = true
    ·
     replace F := F.add hss
     refine wD 28 [] [[], [0], [0, 1], [1, 0, 2], [2, 0, 1, 3], [3, 4, 1, 0, 2], [2, 0, 1, 4, 3, 5], [5, 3, 4, 1, 0, 2, 6], [6, 2, 0, 1, 4, 3, 5, 7], [5, 3, 4, 1, 0, 2, 6], [6, 2, 0, 1, 4, 3, 5, 9], [9, 10, 7, 5, 3, 4, 1, 0, 2, 6, 8], [8, 7, 10, 9, 11, 5, 3, 4, 1, 0, 2, 6], [6, 2, 0, 1, 4, 3, 5, 11, 9, 10, 7, 8, 12], [12, 8, 7, 10, 9, 11, 5, 3, 4, 1, 0, 2, 6, 13], [13, 6, 2, 0, 1, 4, 3, 5, 11, 9, 10, 7, 8, 12, 14], [12, 8, 7, 10, 9, 11, 5, 3, 4, 1, 0, 2, 6, 13], [13, 6, 2, 0, 1, 4, 3, 5, 11, 9, 10, 7, 8, 12, 16], [16, 17, 14, 12, 8, 7, 10, 9, 11, 5, 3, 4, 1, 0, 2, 6, 13, 15], [15, 14, 17, 16, 18, 12, 8, 7, 10, 9, 11, 5, 3, 4, 1, 0, 2, 6, 13], [13, 6, 2, 0, 1, 4, 3, 5, 11, 9, 10, 7, 8, 12, 18, 16, 17, 14, 15, 19], [19, 15, 14, 17, 16, 18, 12, 8, 7, 10, 9, 11, 5, 3, 4, 1, 0, 2, 6, 13, 20], [19, 15, 14, 17, 16, 18, 12, 8, 7, 10, 9, 11, 5, 3, 4, 1, 0, 2, 6, 13, 20], [20, 13, 6, 2, 0, 1, 4, 3, 5, 11, 9, 10, 7, 8, 12, 18, 16, 17, 14, 15, 19, 22], [22, 23, 20, 13, 6, 2, 0, 1, 4, 3, 5, 11, 9, 10, 7, 8, 12, 18, 16, 17, 14, 15, 19, 21], [21, 19, 15, 14, 17, 16, 18, 12, 8, 7, 10, 9, 11, 5, 3, 4, 1, 0, 2, 6, 13, 20, 23, 22, 24], [24, 22, 23, 20, 13, 6, 2, 0, 1, 4, 3, 5, 11, 9, 10, 7, 8, 12, 18, 16, 17, 14, 15, 19, 21, 25], [24, 22, 23, 20, 13, 6, 2, 0, 1, 4, 3, 5, 11, 9, 10, 7, 8, 12, 18, 16, 17, 14, 15, 19, 21, 25], [27, 25, 21, 19, 15, 14, 17, 16, 18, 12, 8, 7, 10, 9, 11, 5, 3, 4, 1, 0, 2, 6, 13, 20, 23, 22, 24, 26], [26, 27, 28, 24, 22, 23, 20, 13, 6, 2, 0, 1, 4, 3, 5, 11, 9, 10, 7, 8, 12, 18, 16, 17, 14, 15, 19, 21, 25], [25, 21, 23, 22, 24, 28, 27, 26, 29, 19, 15, 14, 17, 16, 18, 12, 8, 7, 10, 9, 11, 5, 3, 4, 1, 0, 2, 6, 13, 20], [20, 13, 6, 2, 0, 1, 4, 3, 5, 11, 9, 10, 7, 8, 12, 18, 16, 17, 14, 15, 19, 29, 26, 27, 28, 24, 22, 23, 21, 25, 30], [30, 25, 21, 23, 22, 24, 28, 27, 26, 29, 19, 15, 14, 17, 16, 18, 12, 8, 7, 10, 9, 11, 5, 3, 4, 1, 0, 2, 6, 13, 20, 31], [31, 20, 13, 6, 2, 0, 1, 4, 3, 5, 11, 9, 10, 7, 8, 12, 18, 16, 17, 14, 15, 19, 29, 26, 27, 28, 24, 22, 23, 21, 25, 30, 32], [32, 30, 25, 21, 23, 22, 24, 28, 27, 26, 29, 19, 15, 14, 17, 16, 18, 12, 8, 7, 10, 9, 11, 5, 3, 4, 1, 0, 2, 6, 13, 20, 31, 33], [33, 31, 20, 13, 6, 2, 0, 1, 4, 3, 5, 11, 9, 10, 7, 8, 12, 18, 16, 17, 14, 15, 19, 29, 26, 27, 28, 24, 22, 23, 21, 25, 30, 32, 34], [34, 32, 30, 25, 21, 23, 22, 24, 28, 27, 26, 29, 19, 15, 14, 17, 16, 18, 12, 8, 7, 10, 9, 11, 5, 3, 4, 1, 0, 2, 6, 13, 20, 31, 33, 35], [35, 36, 33, 31, 20, 13, 6, 2, 0, 1, 4, 3, 5, 11, 9, 10, 7, 8, 12, 18, 16, 17, 14, 15, 19, 29, 26, 27, 28, 24, 22, 23, 21, 25, 30, 32, 34], [34, 32, 33, 36, 35, 37, 30, 25, 21, 23, 22, 24, 28, 27, 26, 29, 19, 15, 14, 17, 16, 18, 12, 8, 7, 10, 9, 11, 5, 3, 4, 1, 0, 2, 6, 13, 20, 31]] ?_
     refine dB [([], [], []), ([], [true], []), ([], [true, true], [])] 25 3 ?_
     refine dT [] [true, true, true] [] ?_
     refine dT [] [true, true, true, true] [] ?_
     refine dB [([], [true, true, true, true, true], []), ([], [true, true, true, true, true, true], [])] 21 7 ?_
     refine dT [53, 54] [true, true, true, true, true, true, true] [] ?_
     refine dT [53, 54] [true, true, true, true, true, true, true, true] [] ?_
     refine dT [51, 52] [true, true, true, true, true, true, true, false, false] [] ?_
     refine dT [51, 52] [true, true, true, true, true, true, true, false, false, true] [] ?_
     refine dT [] [true, true, true, true, true, true, true, true, true, true, true] [] ?_
     refine dB [([], [true, true, true, true, true, true, true, true, true, true, true, true], []), ([], [true, true, true, true, true, true, true, true, true, true, true, true, true], [])] 14 14 ?_
     refine dT [60, 61] [true, true, true, true, true, true, true, true, true, true, true, true, true, true] [] ?_
     refine dT [60, 61] [true, true, true, true, true, true, true, true, true, true, true, true, true, true, true] [] ?_
     refine dT [58, 59] [true, true, true, true, true, true, true, true, true, true, true, true, true, true, false, false] [] ?_
     refine dT [58, 59] [true, true, true, true, true, true, true, true, true, true, true, true, true, true, false, false, true] [] ?_
     refine dT [] [true, true, true, true, true, true, true, true, true, true, true, true, true, true, true, true, true, true] [] ?_
     refine dB [([], [true, true, true, true, true, true, true, true, true, true, true, true, true, true, true, true, true, true, true], []), ([], [true, true, true, true, true, true, true, true, true, true, true, true, true, true, true, true, true, true, true, true], [])] 7 21 ?_
     refine dT [66, 67] [true, true, true, true, true, true, true, true, true, true, true, true, true, true, true, true, true, true, true, true, true] [] ?_
     refine dT [65] [true, true, true, true, true, true, true, true, true, true, true, true, true, true, true, true, true, true, true, true, true, false] [] ?_
     refine dT [65] [true, true, true, true, true, true, true, true, true, true, true, true, true, true, true, true, true, true, true, true, true, false, true] [] ?_
     refine dT [] [true, true, true, true, true, true, true, true, true, true, true, true, true, true, true, true, true, true, true, true, true, true, true, true] [] ?_
     refine dT [] [true, true, true, true, true, true, true, true, true, true, true, true, true, true, true, true, true, true, true, true, true, true, true, true, true] [] ?_
     refine dF [some 70, some 71] 25 69 true 0 ?_
     refine dD ?_
     refine gF ?_
     refine gT ?_
     refine oN 2 ?_
     refine gT ?_
     refine gT ?_
     refine gT ?_
     refine gX ?_
     refine gX ?_
     refine gT ?_
     refine oN 1 ?_
     refine oK [4, 5, 6, 8, 9, 11, 82] ?_
     refine cF ?_
     refine W.skip ?_
     refine hK4 _ ?_
     clear hK4 K4
     refine rE ?_
     refine hK3 _ ?_
     clear hK3 K3
     refine rEw ?_
     refine ⟨(k + 1, lostS c l k, decide (v = 1)), lf ?_ ?_, ?_, v0⟩
     ·
      try (simp [Fx.get F])
      all_goals (
       first | exact ⟨by omega, by simpa using hsv⟩ | exact ⟨by omega, rfl⟩ | omega | rfl
      )
     ·
      exact v1
     ·
      refine ⟨by show k + 1 ≤ 25; omega, rfl, ?_⟩
      show decide (v = 1) = decide ((lostS c l k).hi ≤ l.keeps)
      exact decide_eq_decide.2 qv1
    ·
     replace F := F.add hss
     have hsv : (v == 1) = false := by
       rw [beq_eq_false_iff_ne]
       intro e
       have h1 := qv1.1 e
       apply hss
       rw [qs]
       refine decide_eq_true ?_
       rw [← qbf]; omega
     replace F := F.add hsv
     refine wD 28 [] [[], [0], [0, 1], [1, 0, 2], [2, 0, 1, 3], [3, 4, 1, 0, 2], [2, 0, 1, 4, 3, 5], [5, 3, 4, 1, 0, 2, 6], [6, 2, 0, 1, 4, 3, 5, 7], [5, 3, 4, 1, 0, 2, 6], [6, 2, 0, 1, 4, 3, 5, 9], [9, 10, 7, 5, 3, 4, 1, 0, 2, 6, 8], [8, 7, 10, 9, 11, 5, 3, 4, 1, 0, 2, 6], [6, 2, 0, 1, 4, 3, 5, 11, 9, 10, 7, 8, 12], [12, 8, 7, 10, 9, 11, 5, 3, 4, 1, 0, 2, 6, 13], [13, 6, 2, 0, 1, 4, 3, 5, 11, 9, 10, 7, 8, 12, 14], [12, 8, 7, 10, 9, 11, 5, 3, 4, 1, 0, 2, 6, 13], [13, 6, 2, 0, 1, 4, 3, 5, 11, 9, 10, 7, 8, 12, 16], [16, 17, 14, 12, 8, 7, 10, 9, 11, 5, 3, 4, 1, 0, 2, 6, 13, 15], [15, 14, 17, 16, 18, 12, 8, 7, 10, 9, 11, 5, 3, 4, 1, 0, 2, 6, 13], [13, 6, 2, 0, 1, 4, 3, 5, 11, 9, 10, 7, 8, 12, 18, 16, 17, 14, 15, 19], [19, 15, 14, 17, 16, 18, 12, 8, 7, 10, 9, 11, 5, 3, 4, 1, 0, 2, 6, 13, 20], [19, 15, 14, 17, 16, 18, 12, 8, 7, 10, 9, 11, 5, 3, 4, 1, 0, 2, 6, 13, 20], [20, 13, 6, 2, 0, 1, 4, 3, 5, 11, 9, 10, 7, 8, 12, 18, 16, 17, 14, 15, 19, 22], [22, 23, 20, 13, 6, 2, 0, 1, 4, 3, 5, 11, 9, 10, 7, 8, 12, 18, 16, 17, 14, 15, 19, 21], [21, 19, 15, 14, 17, 16, 18, 12, 8, 7, 10, 9, 11, 5, 3, 4, 1, 0, 2, 6, 13, 20, 23, 22, 24], [24, 22, 23, 20, 13, 6, 2, 0, 1, 4, 3, 5, 11, 9, 10, 7, 8, 12, 18, 16, 17, 14, 15, 19, 21, 25], [24, 22, 23, 20, 13, 6, 2, 0, 1, 4, 3, 5, 11, 9, 10, 7, 8, 12, 18, 16, 17, 14, 15, 19, 21, 25], [27, 25, 21, 19, 15, 14, 17, 16, 18, 12, 8, 7, 10, 9, 11, 5, 3, 4, 1, 0, 2, 6, 13, 20, 23, 22, 24, 26], [26, 27, 28, 24, 22, 23, 20, 13, 6, 2, 0, 1, 4, 3, 5, 11, 9, 10, 7, 8, 12, 18, 16, 17, 14, 15, 19, 21, 25], [25, 21, 23, 22, 24, 28, 27, 26, 29, 19, 15, 14, 17, 16, 18, 12, 8, 7, 10, 9, 11, 5, 3, 4, 1, 0, 2, 6, 13, 20], [20, 13, 6, 2, 0, 1, 4, 3, 5, 11, 9, 10, 7, 8, 12, 18, 16, 17, 14, 15, 19, 29, 26, 27, 28, 24, 22, 23, 21, 25, 30], [30, 25, 21, 23, 22, 24, 28, 27, 26, 29, 19, 15, 14, 17, 16, 18, 12, 8, 7, 10, 9, 11, 5, 3, 4, 1, 0, 2, 6, 13, 20, 31], [31, 20, 13, 6, 2, 0, 1, 4, 3, 5, 11, 9, 10, 7, 8, 12, 18, 16, 17, 14, 15, 19, 29, 26, 27, 28, 24, 22, 23, 21, 25, 30, 32], [32, 30, 25, 21, 23, 22, 24, 28, 27, 26, 29, 19, 15, 14, 17, 16, 18, 12, 8, 7, 10, 9, 11, 5, 3, 4, 1, 0, 2, 6, 13, 20, 31, 33], [33, 31, 20, 13, 6, 2, 0, 1, 4, 3, 5, 11, 9, 10, 7, 8, 12, 18, 16, 17, 14, 15, 19, 29, 26, 27, 28, 24, 22, 23, 21, 25, 30, 32, 34], [34, 32, 30, 25, 21, 23, 22, 24, 28, 27, 26, 29, 19, 15, 14, 17, 16, 18, 12, 8, 7, 10, 9, 11, 5, 3, 4, 1, 0, 2, 6, 13, 20, 31, 33, 35], [35, 36, 33, 31, 20, 13, 6, 2, 0, 1, 4, 3, 5, 11, 9, 10, 7, 8, 12, 18, 16, 17, 14, 15, 19, 29, 26, 27, 28, 24, 22, 23, 21, 25, 30, 32, 34], [34, 32, 33, 36, 35, 37, 30, 25, 21, 23, 22, 24, 28, 27, 26, 29, 19, 15, 14, 17, 16, 18, 12, 8, 7, 10, 9, 11, 5, 3, 4, 1, 0, 2, 6, 13, 20, 31]] ?_
     refine dB [([], [], []), ([], [true], []), ([], [true, true], [])] 25 3 ?_
     refine dT [] [true, true, true] [] ?_
     refine dT [] [true, true, true, true] [] ?_
     refine dB [([], [true, true, true, true, true], []), ([], [true, true, true, true, true, true], [])] 21 7 ?_
     refine dT [53, 54] [true, true, true, true, true, true, true] [] ?_
     refine dT [53, 54] [true, true, true, true, true, true, true, true] [] ?_
     refine dT [51, 52] [true, true, true, true, true, true, true, false, false] [] ?_
     refine dT [51, 52] [true, true, true, true, true, true, true, false, false, true] [] ?_
     refine dT [] [true, true, true, true, true, true, true, true, true, true, true] [] ?_
     refine dB [([], [true, true, true, true, true, true, true, true, true, true, true, true], []), ([], [true, true, true, true, true, true, true, true, true, true, true, true, true], [])] 14 14 ?_
     refine dT [60, 61] [true, true, true, true, true, true, true, true, true, true, true, true, true, true] [] ?_
     refine dT [60, 61] [true, true, true, true, true, true, true, true, true, true, true, true, true, true, true] [] ?_
     refine dT [58, 59] [true, true, true, true, true, true, true, true, true, true, true, true, true, true, false, false] [] ?_
     refine dT [58, 59] [true, true, true, true, true, true, true, true, true, true, true, true, true, true, false, false, true] [] ?_
     refine dT [] [true, true, true, true, true, true, true, true, true, true, true, true, true, true, true, true, true, true] [] ?_
     refine dB [([], [true, true, true, true, true, true, true, true, true, true, true, true, true, true, true, true, true, true, true], []), ([], [true, true, true, true, true, true, true, true, true, true, true, true, true, true, true, true, true, true, true, true], [])] 7 21 ?_
     refine dT [66, 67] [true, true, true, true, true, true, true, true, true, true, true, true, true, true, true, true, true, true, true, true, true] [] ?_
     refine dT [65] [true, true, true, true, true, true, true, true, true, true, true, true, true, true, true, true, true, true, true, true, true, false] [] ?_
     refine dT [65] [true, true, true, true, true, true, true, true, true, true, true, true, true, true, true, true, true, true, true, true, true, false, true] [] ?_
     refine dT [] [true, true, true, true, true, true, true, true, true, true, true, true, true, true, true, true, true, true, true, true, true, true, true, true] [] ?_
     refine dT [] [true, true, true, true, true, true, true, true, true, true, true, true, true, true, true, true, true, true, true, true, true, true, true, true, true] [] ?_
     refine dF [some 70, some 71] 25 69 true 0 ?_
     refine dD ?_
     refine gF ?_
     refine gT ?_
     refine oN 2 ?_
     refine gT ?_
     refine gT ?_
     refine gT ?_
     refine gF ?_
     refine gF ?_
     refine gT ?_
     refine oN 1 ?_
     refine oK [4, 5, 6, 8, 9, 11, 82] ?_
     refine cF ?_
     refine W.skip ?_
     refine hK4 _ ?_
     clear hK4 K4
     refine rE ?_
     refine hK3 _ ?_
     clear hK3 K3
     refine rEw ?_
     refine ⟨(k + 1, lostS c l k, decide (v = 1)), lf ?_ ?_, ?_, v0⟩
     ·
      try (simp [Fx.get F])
      all_goals (
       first | exact ⟨by omega, by simpa using hsv⟩ | exact ⟨by omega, rfl⟩ | omega | rfl
      )
     ·
      exact v1
     ·
      refine ⟨by show k + 1 ≤ 25; omega, rfl, ?_⟩
      show decide (v = 1) = decide ((lostS c l k).hi ≤ l.keeps)
      exact decide_eq_decide.2 qv1
  ·
   try simp at hc1
   replace F := F.add hc1
   refine W.exit ?_
   refine hK1 _ ?_
   clear hK2 K2 hK1 K1
   refine W.seqR ?_
   refine oC [] ?_
   refine ct (awake_ok) ?_
   refine oN 1 ?_
   refine oK [2] ?_
   refine W.ret ?_
   exact er0 false [] []
end Go.Sim
