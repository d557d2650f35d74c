/- Days of a week, let and swapped together: the law answers true. -/
import Derived.Test.YticllllmgpjbcaaXq
import Derived.Test.YticllllmgpjbcaaLt
import Derived.Test.YticllllmgpjbcaaLm
import Derived.Test.YticllllmgpjbcaaVm
namespace Go.Sim
open Go.Proofs
set_option maxRecDepth 100000
set_option linter.unusedSimpArgs false
set_option linter.unusedVariables false
attribute [-simp] List.map_set List.map_take List.map_drop
theorem wf_turn2 {x : W6.Turn} (h : W6.validT x = true) : W6.WfT x := by
  unfold W6.validT at h
  simp only [Bool.and_eq_true, decide_eq_true_eq] at h
  exact ⟨wfI (by omega) (by omega), wfI (by omega) (by omega)⟩
theorem Cast_w (f : Int) : ACalls Try.prog 7 [.ptr 10000 0 0, I 7] [(10000, die f)] (fun r o => ∃ z : Int × Int, r = I z.1 ∧ o = [(10000, die z.2)] ∧ (0 ≤ z.1 ∧ z.1 ≤ 6)) :=
  (Cast_ok f 7 (by omega)).mono fun _ _ h => ⟨(castV f 7, castF f 7), h.1, h.2, castV_lo f 7, castV_le f 7 (by omega)⟩
theorem From_w (f : Int) : ACalls Try.prog 9 [.ptr 10000 0 0, I 1, I 6] [(10000, die f)] (fun r o => ∃ z : Int × Int, r = I z.1 ∧ o = [(10000, die z.2)] ∧ (1 ≤ z.1 ∧ z.1 ≤ 6)) :=
  (From_ok f 1 6 (by omega) (by omega) (by omega) (by omega)).mono fun _ _ h => ⟨(fromV f 1 6, fromF f 1 6), h.1, h.2, fromV_range f (by omega)⟩
attribute [local simp] week_check week_ex
set_option maxHeartbeats 4000000 in
theorem WeekAwake_ok  : ACalls Try.prog 19 [] [] (fun r o => r = B true ∧ o = []) := by
 have F := Fx.nil
 refine ent Try.func19 Try.ntmps19 Try.results19 ?_
 refine rK [] ?_
 refine W.seqR ?_
 refine oN 10 ?_
 refine fz 72 ?_
 refine fz 128 ?_
 refine oN 2 ?_
 refine oK [1] ?_
 refine W.seqR ?_
 refine oN 1 ?_
 refine oC [] ?_
 refine CallT.mkE (Let_ok weekL weekL_valid) (fun z20 hz20 => ⟨(by simp), ?_⟩)
 have hz := bestL_one weekL_valid hz20 weekL_best
 replace F := F.add hz
 refine WOps.norm (by simp [hz]; rfl) ?_
 refine oN 5 ?_
 refine oK [2, 3] ?_
 refine rK [2, 3, 4, 5] ?_
 refine W.seqR ?_
 refine oN 8 ?_
 refine fz 224 ?_
 refine fz 264 ?_
 refine oN 1 ?_
 refine oC [] ?_
 refine ct (W6.Swap_ok weekOw weekLk) ?_
 refine oN 5 ?_
 refine oK [2, 3, 4, 5, 6, 7] ?_
 refine W.seqR ?_
 refine oN 3 ?_
 refine gT ?_
 refine gT ?_
 refine oN 2 ?_
 refine gT ?_
 refine gT ?_
 refine gC [] ?_
 refine ct (SameInts_ok [1] [1]) ?_
 refine oN 2 ?_
 refine gT ?_
 refine gT ?_
 refine gT ?_
 refine gT ?_
 refine gC [] ?_
 refine ct (W6.SameTurns_ok [(1, 3), (1, 2)] [(1, 3), (1, 2)]) ?_
 refine oN 2 ?_
 refine oK [0] ?_
 refine W.ret ?_
 exact er0 false [] []
set_option maxHeartbeats 4000000 in
theorem TopWeek_ok (nums : List Int) : ACalls Try.prog 3 [ints nums] [] (fun r o => r = B true ∧ o = []) := by
 have F := Fx.nil
 refine ent Try.func3 Try.ntmps3 Try.results3 ?_
 refine rK [0] ?_
 refine W.seqR ?_
 refine oN 1 ?_
 refine oC [] ?_
 refine ct (DieOf_ok _) ?_
 refine oN 1 ?_
 refine oK [3] ?_
 refine W.seqR ?_
 refine oN 1 ?_
 refine oC [(10000, 256)] ?_
 refine CallT.mkE (Cast_w _) (fun z34 hz34 => ⟨(by simp), ?_⟩)
 obtain ⟨d0, f1⟩ := z34
 have hd0 : 0 ≤ d0 ∧ d0 ≤ 6 := hz34
 replace F := F.add hd0
 refine WOps.norm (by simp [hd0]; rfl) ?_
 refine oN 1 ?_
 refine oK [3, 4] ?_
 refine W.seqR ?_
 refine oN 3 ?_
 refine oC [(10000, 256)] ?_
 refine CallT.mkE (From_w _) (fun z38 hz38 => ⟨(by simp [hd0]), ?_⟩)
 obtain ⟨dv, f2⟩ := z38
 have hdv : 1 ≤ dv ∧ dv ≤ 6 := hz38
 obtain ⟨hb1, hb2, hb3⟩ := bring_week hd0 hdv
 obtain ⟨d1, qd1⟩ : ∃ z, bring (d0 + dv) 7 = z := ⟨_, rfl⟩
 rw [qd1] at hb1 hb2 hb3
 have hd1 := qd1
 have hd19 : 0 ≤ d1 ∧ d1 ≤ 6 := ⟨hb1, hb2⟩
 replace F := F.add hdv |>.add hd1 |>.add hd19
 refine WOps.norm (by simp [hd0, hdv, hd1, hd19]; rfl) ?_
 refine oNw 1 ?_
 refine oC [] ?_
 refine ct (Bring_ok (d0 + dv) 7 (by omega)) ?_
 refine oN 2 ?_
 refine oK [3, 5] ?_
 obtain ⟨DS, qDS⟩ : ∃ DS, DS = [d0, d1] := ⟨_, rfl⟩
 have hDS : [I d0, I d1] = DS.map I := by rw [qDS]; rfl
 have hDSl : DS.length = 2 := by rw [qDS]; rfl
 have hDt : List.take 2 DS = DS := List.take_of_length_le (by omega)
 have qDs : ∀ i, (hi : i < DS.length) → (0 ≤ DS[i] ∧ DS[i] ≤ 6) ∧ DS[i] = if i = 0 then d0 else d1 := by
   subst qDS
   intro i hi
   match i, hi with
   | 0, _ => exact ⟨hd0, rfl⟩
   | 1, _ => exact ⟨hd19, rfl⟩
 replace F := F.add hDS |>.add hDSl |>.add hDt
 refine W.seqR ?_
 refine fz 328 ?_
 refine oN 1 ?_
 refine oK [3, 5, 6] ?_
 refine rK [3, 5, 6, 7] ?_
 refine W.seqk fun K1 hK1 => ?_
 refine rK [3, 5, 6, 7, 8] ?_
 refine W.block ?_
 refine sn 7 9016 47 2 ?_
 refine sno 48 0 0 9000 47 2 ?_
 refine sno 48 0 1 9008 27 1 ?_
 refine lp (α := Nat × Int × List W6.Turn × List (List W6.Turn) × List W6.Turn) [3, 5, 6] [9, 12, 44, 49, 52, 62, 68, 83, 85, 91, 93, 99, 101, 108, 113, 116] [48, 9000, 9008, 9016, 256] (fun x => [(8, I x.1), (7, .own 9016 0 x.2.2.2.2.length)]) (fun x => [(48, .row false 30 2 [.agg [.own 9000 0 x.2.2.1.length, .own 9008 0 x.2.2.2.1.length]]), (9000, .row true 47 2 (x.2.2.1.map W6.T)), (9008, .row true 27 1 (x.2.2.2.1.map W6.turns)), (9016, .row true 47 2 (x.2.2.2.2.map W6.T)), (256, die x.2.1)]) (fun x => x.1 ≤ 2 ∧ WkOk d0 d1 x.1 x.2.2.1 x.2.2.2.1 x.2.2.2.2) (fun x => 2 - x.1) (0, f2, [], [], []) ?_ ?_ ?_ ?_
 ·
  try (simp [Fx.get F])
  all_goals (
   first | done | omega | rfl
  )
 ·
  exact v1
 ·
  first | exact ⟨Nat.zero_le _, WkOk.init d0 d1⟩ | omega
 ·
  intro ⟨i, g, ow, lk, du⟩ hI0
  simp only [List.cons_append, List.nil_append]
  try dsimp only at hI0
  obtain ⟨hi2, kwk⟩ := hI0
  replace F := F.add hi2
  refine W.seqk fun K2 hK2 => ?_
  refine rK [3, 5, 6, 7, 8, 45] ?_
  refine it (fun hc1 => ?_) (fun hc1 => ?_)
  ·
   try simp at hc1
   replace F := F.add hc1
   refine W.skip ?_
   refine hK2 _ ?_
   clear hK2 K2
   refine W.seqk fun K3 hK3 => ?_
   refine W.block ?_
   have hiD : i < DS.length := by omega
   have hi22 : i < 2 := by omega
   obtain ⟨D, qD⟩ : ∃ D, DS[i] = D := ⟨_, rfl⟩
   have hD := qD
   have qDi := qDs i hiD
   rw [qD] at qDi
   have hDr : 0 ≤ D ∧ D ≤ 6 := qDi.1
   have hol : ow.length ≤ 6 := by have := kwk.len; omega
   have hkl : lk.length = ow.length := kwk.ok.same
   have hul : du.length = ow.length := by rw [kwk.due]; exact W6.swap_length kwk.ok
   replace F := F.add hiD |>.add hi22 |>.add hD |>.add hDr |>.add hol |>.add hkl |>.add hul
   refine W.seqR ?_
   refine oN 1 ?_
   refine oC [(10000, 256)] ?_
   refine CallT.mkE (LettingOf_ok _ 4 3 (by omega) (by omega) (by omega)) (fun z49 hz49 => ⟨(by simp [hd0, hdv, hd1, hd19, hDS, hDSl, hDt, hi2, hc1, hiD, hi22, hD, hDr, hol, hkl, hul]), ?_⟩)
   obtain ⟨l, fd⟩ := z49
   have qmade : MadeL l 4 3 := hz49
   have hv : ValidL l := qmade.ok
   have h8 : l.apps.length ≤ 3 := qmade.ap
   replace F := F.add hv |>.add h8
   refine WOps.norm (by simp [hd0, hdv, hd1, hd19, hDS, hDSl, hDt, hi2, hc1, hiD, hi22, hD, hDr, hol, hkl, hul, hv, h8]; rfl) ?_
   refine oN 2 ?_
   refine oK [3, 5, 6, 7, 8, 9] ?_
   refine W.seqR ?_
   refine fz 392 ?_
   refine fz 393 ?_
   refine oN 1 ?_
   refine oC [] ?_
   refine CallT.mkE (Let_ok l hv) (fun z52 hz52 => ⟨(by simp [hd0, hdv, hd1, hd19, hDS, hDSl, hDt, hi2, hc1, hiD, hi22, hD, hDr, hol, hkl, hul, hv, h8]), ?_⟩)
   have hk : HoldOk l z52 := hz52.hold
   have qF := From_fine l hv z52 hk D hDr
   obtain ⟨e1, e2, e3⟩ := fr_len l z52 D
   have qv := fr_valid hv hk hDr
   have qdy := fr_day l z52 D
   have qwl := who_len l z52
   obtain ⟨FR, qFR⟩ : ∃ x, frL l z52 D = x := ⟨_, rfl⟩
   rw [qFR] at qF e1 e2 e3 qv qdy
   obtain ⟨X, qX⟩ : ∃ x, W6.swapT FR.1 FR.2.1 = x := ⟨_, rfl⟩
   have hX := qX
   have hq1 : W6.checkT FR.1 FR.2.1 = 0 := W6.checkT_zero.2 qv
   have hXl : X.length = FR.1.length := by rw [← qX]; exact W6.swap_length qv
   have hFl : FR.1.length ≤ 3 := by omega
   have hF2 : FR.2.1.length = FR.1.length := by omega
   have hF3 : FR.2.2.length = FR.1.length := by omega
   replace F := F.add hk |>.add hX |>.add hq1 |>.add hXl |>.add hFl |>.add hF2 |>.add hF3
   refine WOps.norm (by simp [hd0, hdv, hd1, hd19, hDS, hDSl, hDt, hi2, hc1, hiD, hi22, hD, hDr, hol, hkl, hul, hv, h8, hk, hX, hq1, hXl, hFl, hF2, hF3]; rfl) ?_
   refine oN 5 ?_
   refine oK [3, 5, 6, 7, 8, 9, 10, 11] ?_
   refine wD 14 [(12, [96])] [[], [], [], [], [3, 2], [2, 3, 4], [4, 3, 2, 5, 1, 0], [0, 1, 5, 2, 3, 4, 6], [6, 4, 3, 2, 5, 1, 0, 7], [6, 4, 3, 2, 5, 1, 0, 7], [6, 4, 3, 2, 5, 1, 0, 7], [], [7, 0, 1, 5, 2, 3, 4, 6, 8, 11], [11, 8, 12, 7, 0, 1, 5, 2, 3, 4, 6, 9], [9, 12, 8, 11, 13, 7, 0, 1, 5, 2, 3, 4, 6, 10]] ?_
   refine dB [([57, 58, 59, 60, 61, 12], [], []), ([56, 58, 59, 60, 61, 12], [false], []), ([56, 57, 59, 12], [false, false], []), ([56, 57, 58, 12], [false, false, false], []), ([56, 57, 12], [false, false, true, true], []), ([56, 57, 12], [false, false, true, true, true], [])] 8 6 ?_
   refine dC [12] [true, true, true, true, true, true] [] [] ?_
   refine cd (qF) ?_
   refine dB [([12], [true, true, true, true, true, true, true], []), ([64, 65, 12], [true, true, true, true, true, true, true, true], []), ([63, 65, 12], [true, true, true, true, true, true, true, true, false], [96]), ([63, 64, 12, 13], [true, true, true, true, true, true, true, true, false, false], [96]), ([56, 57, 58, 59, 60, 61, 62, 55, 63, 64, 65], [false, false, false, false, false, false, false, false, false, false, false], [])] 2 12 ?_
   refine WDraw.upd hΓ [96] (viewB_eq (L := [64, 65]) (S := [true, true, true, true, true, true, true, true, true, false, false, true]) (O := []) (by kernel_rfl) (by kernel_rfl) (by simp [hd0, hdv, hd1, hd19, hDS, hDSl, hDt, hi2, hc1, hiD, hi22, hD, hDr, hol, hkl, hul, hv, h8, hk, hX, hq1, hXl, hFl, hF2, hF3]; rfl)) (by first | rfl | simp) (by simp [hd0, hdv, hd1, hd19, hDS, hDSl, hDt, hi2, hc1, hiD, hi22, hD, hDr, hol, hkl, hul, hv, h8, hk, hX, hq1, hXl, hFl, hF2, hF3]; first | rfl | exact ⟨rfl, rfl⟩) (by simp [hd0, hdv, hd1, hd19, hDS, hDSl, hDt, hi2, hc1, hiD, hi22, hD, hDr, hol, hkl, hul, hv, h8, hk, hX, hq1, hXl, hFl, hF2, hF3]; first | done | rfl) (.inr (by simp)) (by simp [hd0, hdv, hd1, hd19, hDS, hDSl, hDt, hi2, hc1, hiD, hi22, hD, hDr, hol, hkl, hul, hv, h8, hk, hX, hq1, hXl, hFl, hF2, hF3]; rfl) ?_
   refine dB [([65], [true, true, true, true, true, true, true, true, true, true, false, true, true], [])] 0 14 ?_
   refine dD ?_
   refine WOps.le Le.dedup rfl rfl ?_
   refine WOps.norm (by simp [hd0, hdv, hd1, hd19, hDS, hDSl, hDt, hi2, hc1, hiD, hi22, hD, hDr, hol, hkl, hul, hv, h8, hk, hX, hq1, hXl, hFl, hF2, hF3]; rfl) ?_
   refine oN 1 ?_
   refine oK [3, 5, 6, 7, 8, 11, 12, 13, 14] ?_
   refine W.seqR ?_
   refine oN 1 ?_
   refine oC [] ?_
   refine ct (W6.Swap_ok FR.1 FR.2.1) ?_
   refine oN 5 ?_
   refine oK [3, 5, 6, 7, 8, 11, 12, 13, 14, 15, 16] ?_
   refine W.seqk fun K4 hK4 => ?_
   refine W.seqR ?_
   refine oN 3 ?_
   refine gT ?_
   refine gT ?_
   refine oN 2 ?_
   refine gT ?_
   refine gT ?_
   refine oN 2 ?_
   refine gT ?_
   refine gT ?_
   refine gT ?_
   refine gT ?_
   refine gT ?_
   refine oN 2 ?_
   refine gT ?_
   refine gT ?_
   refine gT ?_
   refine gT ?_
   refine gT ?_
   refine gT ?_
   refine oN 2 ?_
   refine gT ?_
   refine gT ?_
   refine gT ?_
   refine gT ?_
   refine gT ?_
   refine gT ?_
   refine oN 1 ?_
   refine oK [3, 5, 6, 7, 8, 12, 15, 103] ?_
   refine cF ?_
   refine W.skip ?_
   refine hK4 _ ?_
   clear hK4 K4
   refine wDe 14 [(4, [9000]), (9, [9008]), (12, [9016])] [[], [0], [], [2], [2, 3, 0, 1], [], [5], [], [7], [1, 0, 3, 2, 4, 7, 8, 5, 6], [], [], [6, 5, 8, 7, 4, 2, 3, 0, 1, 9, 11, 10], [6, 5, 4, 3, 2, 1, 0], [10, 11, 9, 7, 8, 12, 0, 1, 2, 3, 4, 5, 6, 13], [12, 11, 10, 14, 13, 9, 8, 7, 6, 5, 4, 3, 2, 1, 0], [0, 1, 2, 3, 4, 5, 6, 7, 8, 9, 13, 14, 10, 11, 12, 15], [15, 14, 13, 16, 10, 11, 9, 1, 0, 3, 2, 4, 7, 8, 5, 6, 12]] ?_
   refine dB [([106, 107, 109, 110, 111, 112, 114, 115], [], []), ([106, 107, 109, 110, 111, 112, 114, 115], [true], []), ([104, 105, 109, 110, 111, 112, 114, 115], [false, false], []), ([104, 105, 109, 110, 111, 112, 114, 115], [false, false, true], [])] 10 4 ?_
   refine dAw [109, 110, 111, 112, 114, 115] [true, true, true, true] [] [9000] ?_
   refine dB [([104, 105, 106, 107, 108, 111, 112, 114, 115], [false, false, false, false, false], [9000]), ([104, 105, 106, 107, 108, 111, 112, 114, 115], [false, false, false, false, false, true], [9000]), ([104, 105, 106, 107, 108, 109, 110, 114, 115, 117], [false, false, false, false, false, false, false], [9000]), ([104, 105, 106, 107, 108, 109, 110, 114, 115, 117], [false, false, false, false, false, false, false, true], [9000])] 5 9 ?_
   refine dAw [114, 115, 117] [true, true, true, true, true, true, true, true, true] [] [9008] ?_
   refine dB [([104, 105, 106, 107, 108, 109, 110, 111, 112, 113, 115, 117], [false, false, false, false, false, false, false, false, false, false], [9000, 9008]), ([104, 105, 106, 107, 108, 109, 110, 111, 112, 113, 114, 117], [false, false, false, false, false, false, false, false, false, false, false], [9000, 9008])] 2 12 ?_
   refine dAw [117] [true, true, true, true, true, true, true, true, true, true, true, true] [] [9016] ?_
   refine dB [([111, 112, 113, 114, 115, 116], [true, true, true, true, true, true, true, false, false, false, false, false, false], [9008, 9016])] 0 14 ?_
   refine dD ?_
   refine oN 4 ?_
   refine WOps.endK ?_
   refine hK3 _ ?_
   clear hK3 K3
   refine W.region ?_
   refine WOps.le (Le.exch (x := 864) (y := 9000) (by simp [hd0, hdv, hd1, hd19, hDS, hDSl, hDt, hi2, hc1, hiD, hi22, hD, hDr, hol, hkl, hul, hv, h8, hk, hX, hq1, hXl, hFl, hF2, hF3]; rfl)) rfl rfl ?_
   refine WOps.le (Le.exch (x := 904) (y := 9008) (by simp [hd0, hdv, hd1, hd19, hDS, hDSl, hDt, hi2, hc1, hiD, hi22, hD, hDr, hol, hkl, hul, hv, h8, hk, hX, hq1, hXl, hFl, hF2, hF3]; rfl)) rfl rfl ?_
   refine WOps.le (Le.exch (x := 928) (y := 9016) (by simp [hd0, hdv, hd1, hd19, hDS, hDSl, hDt, hi2, hc1, hiD, hi22, hD, hDr, hol, hkl, hul, hv, h8, hk, hX, hq1, hXl, hFl, hF2, hF3]; rfl)) rfl rfl ?_
   refine oNw 3 ?_
   refine WOps.endK ?_
   refine ⟨(i + 1, fd, ow ++ FR.1, lk ++ FR.2.1, du ++ X), lf ?_ ?_, ?_, v0⟩
   ·
    try (simp [Fx.get F])
    all_goals (
     first
     | done
     | omega
     | (have hir : i5 < RG.length := by omega
        have q1 := cntR_succ hir
        have q2 := qtl (i5 + 1)
        first
          | omega
          | (refine ⟨?_, ?_⟩ <;> first | omega | exact wrap_i64 (by omega) (by omega)))
    )
   ·
    exact v1
   ·
    first
    | omega
    | (refine ⟨?_, ?_⟩
       · show i + 1 ≤ 2
         omega
       · show WkOk d0 d1 (i + 1) (ow ++ FR.1) (lk ++ FR.2.1) (du ++ X)
         rw [← qX]
         exact kwk.next hb3 (by omega) qDi.2 qv qdy hFl)
  ·
   try simp at hc1
   replace F := F.add hc1
   refine W.exit ?_
   refine hK1 _ ?_
   clear hK2 K2 hK1 K1
   have hi3 : i = 2 := by omega
   have hdu : W6.swapT ow lk = du := kwk.due.symm
   have qv2 := kwk.ok
   have hck : W6.checkT ow lk = 0 := W6.checkT_zero.2 qv2
   have hdl : du.length = ow.length := by rw [← hdu]; exact W6.swap_length qv2
   have hdt : List.take ow.length du = du := List.take_of_length_le (by omega)
   have qhe := W6.swap_held qv2
   have qbl := W6.swap_unblocked qv2
   have qpl := W6.swap_unpleased qv2
   rw [hdu] at qhe qbl qpl
   have hhe := qhe
   have hbl := qbl
   have hpl := qpl
   have hol : ow.length ≤ 6 := by have := kwk.len; omega
   have qrd := kwk.two hi3
   have qwf : ∀ x ∈ du, W6.WfT x := fun x hx => wf_turn2 (kwk.wf hx)
   have qfr := fun (i : Nat) hi => W6.swap_fresh (i := i) qv2 hi
   rw [hdu] at qfr
   replace F := F.add hi3 |>.add hdu |>.add hck |>.add hdl |>.add hdt |>.add hhe |>.add hbl |>.add hpl |>.add hol
   refine W.seqR ?_
   refine fz 9000 ?_
   refine fz 9008 ?_
   refine fz 9016 ?_
   refine oN 1 ?_
   refine oC [] ?_
   refine ct (W6.Swap_ok ow lk) ?_
   refine oN 5 ?_
   refine oK [6, 7, 17, 18] ?_
   refine W.seqR ?_
   refine oN 2 ?_
   refine oC [] ?_
   refine ct (W6.Blocks_ok ow lk du (fun _ => qwf)) ?_
   refine oN 5 ?_
   refine oK [6, 7, 17, 18, 19, 20] ?_
   refine W.seqR ?_
   refine oN 2 ?_
   refine oC [] ?_
   refine ct (W6.Pleases_ok ow lk du (fun _ => qwf)) ?_
   refine oN 5 ?_
   refine oK [6, 7, 17, 18, 19, 20, 21, 22] ?_
   refine W.seqk fun K5 hK5 => ?_
   refine W.seqR ?_
   refine oN 3 ?_
   refine gT ?_
   refine gT ?_
   refine oN 2 ?_
   refine gT ?_
   refine gT ?_
   refine oN 2 ?_
   refine gT ?_
   refine gT ?_
   refine gC [] ?_
   refine ct (W6.SameTurns_ok du du) ?_
   refine gT ?_
   refine oN 2 ?_
   refine gT ?_
   refine gT ?_
   refine gT ?_
   refine gT ?_
   refine gTw ?_
   refine gT ?_
   refine oN 1 ?_
   refine oK [6, 7, 159] ?_
   refine cF ?_
   refine W.skip ?_
   refine hK5 _ ?_
   clear hK5 K5
   refine W.seqk fun K6 hK6 => ?_
   refine rK [6, 7, 23] ?_
   refine W.block ?_
   refine lp (α := Nat) [6, 7] [162, 173] [] (fun j => [(23, I j)]) (fun j => []) (fun j => j ≤ du.length) (fun j => du.length - j) 0 ?_ ?_ ?_ ?_
   ·
    try (simp [Fx.get F])
    all_goals (
     first | done | omega | rfl
    )
   ·
    exact v1
   ·
    first | exact ⟨Nat.zero_le _, WkOk.init d0 d1⟩ | omega
   ·
    intro j hI1
    simp only [List.cons_append, List.nil_append]
    try dsimp only at hI1
    replace F := F.add hI1
    refine W.seqk fun K7 hK7 => ?_
    refine rK [6, 7, 23, 163] ?_
    refine it (fun hc4 => ?_) (fun hc4 => ?_)
    ·
     try simp at hc4
     replace F := F.add hc4
     refine W.skip ?_
     refine hK7 _ ?_
     clear hK7 K7
     refine W.seqk fun K8 hK8 => ?_
     refine W.block ?_
     have hjd : j < du.length := by omega
     have hjo : j < ow.length := by omega
     have hjp : j ≤ ow.length := by omega
     have hfr := qfr j hjd
     replace F := F.add hjd |>.add hjo |>.add hjp |>.add hfr
     refine wD 7 [] [[], [], [1, 0], [], [], [4, 3], [3, 4, 5], [5, 4, 3, 6, 0, 1, 2]] ?_
     refine dB [([167, 169, 170, 171, 172], [], []), ([166, 169, 170, 171, 172], [false], []), ([169, 170, 171, 172], [true, true], []), ([166, 167, 168, 170], [false, false, false], []), ([166, 167, 168, 169], [false, false, false, false], []), ([166, 167, 168], [false, false, false, true, true], []), ([166, 167, 168], [false, false, false, true, true, true], [])] 0 7 ?_
     refine dD ?_
     refine oC [] ?_
     refine ct (W6.HasTurn_ok (du.take j) du[j].1 du[j].2) ?_
     refine oK [6, 7, 23, 173] ?_
     refine cF ?_
     refine W.skip ?_
     refine hK8 _ ?_
     clear hK8 K8
     refine rEw ?_
     refine ⟨j + 1, lf ?_ ?_, ?_, v0⟩
     ·
      try (simp [Fx.get F])
      all_goals (
       first
       | done
       | omega
       | (have hir : i5 < RG.length := by omega
          have q1 := cntR_succ hir
          have q2 := qtl (i5 + 1)
          first
            | omega
            | (refine ⟨?_, ?_⟩ <;> first | omega | exact wrap_i64 (by omega) (by omega)))
      )
     ·
      exact v1
     ·
      first
      | omega
      | (refine ⟨?_, ?_⟩
         · show i + 1 ≤ 2
           omega
         · show WkOk d0 d1 (i + 1) (ow ++ FR.1) (lk ++ FR.2.1) (du ++ X)
           rw [← qX]
           exact kwk.next hb3 (by omega) qDi.2 qv qdy hFl)
    ·
     try simp at hc4
     replace F := F.add hc4
     refine W.exit ?_
     refine hK6 _ ?_
     clear hK7 K7 hK6 K6
     obtain ⟨RG, qRG⟩ : ∃ R, W6.ringsT ow lk = R := ⟨_, rfl⟩
     have hRG := qRG
     have qct := W6.ringsT_count qv2
     have qrs : RingDay ow lk := qrd
     have hRn : RG.length ≤ 8 := by have := rings_few qv2; rwa [qRG] at this
     unfold RingDay at qrs
     rw [qRG] at qct qrs
     have qtl : ∀ i, cntR RG i ≤ ow.length := fun i => by rw [← qct]; exact cntR_le RG i
     replace F := F.add hRG |>.add hRn
     refine W.seqR ?_
     refine oN 1 ?_
     refine oC [] ?_
     refine ct (W6.Rings_ok ow lk) ?_
     refine oN 5 ?_
     refine oK [6, 7, 24, 25] ?_
     refine rK [6, 7, 24, 25, 26] ?_
     refine W.seqk fun K9 hK9 => ?_
     refine rK [6, 7, 24, 25, 26, 27] ?_
     refine W.block ?_
     refine lp (α := Nat) [6, 7, 24, 25] [181, 190, 213, 224] [] (fun i => [(27, I i), (26, I (cntR RG i : Nat))]) (fun i => []) (fun i => i ≤ RG.length) (fun i => RG.length - i) 0 ?_ ?_ ?_ ?_
     ·
      try (simp [Fx.get F])
      all_goals (
       first | done | omega | rfl
      )
     ·
      exact v1
     ·
      first | exact ⟨Nat.zero_le _, WkOk.init d0 d1⟩ | omega
     ·
      intro i5 hI2
      simp only [List.cons_append, List.nil_append]
      try dsimp only at hI2
      replace F := F.add hI2
      refine W.seqk fun K10 hK10 => ?_
      refine rK [6, 7, 24, 25, 26, 27, 182] ?_
      refine it (fun hc6 => ?_) (fun hc6 => ?_)
      ·
       try simp at hc6
       replace F := F.add hc6
       refine W.skip ?_
       refine hK10 _ ?_
       clear hK10 K10
       refine W.seqk fun K11 hK11 => ?_
       refine W.block ?_
       refine rK [6, 7, 24, 25, 26, 27, 28] ?_
       refine W.block ?_
       have hir : i5 < RG.length := by omega
       replace F := F.add hir
       refine lp (α := Nat) [6, 7, 24, 25, 27] [190, 213, 224] [] (fun k => [(28, I k), (26, I ((cntR RG i5 + k : Nat) : Int))]) (fun k => []) (fun k => k ≤ RG[i5].length) (fun k => RG[i5].length - k) 0 ?_ ?_ ?_ ?_
       ·
        try (simp [Fx.get F])
        all_goals (
         first | done | omega | rfl
        )
       ·
        exact v1
       ·
        first | exact ⟨Nat.zero_le _, WkOk.init d0 d1⟩ | omega
       ·
        intro k hI3
        simp only [List.cons_append, List.nil_append]
        try dsimp only at hI3
        replace F := F.add hI3
        refine W.seqk fun K12 hK12 => ?_
        refine rK [6, 7, 24, 25, 26, 27, 28, 191] ?_
        refine it (fun hc7 => ?_) (fun hc7 => ?_)
        ·
         try simp at hc7
         replace F := F.add hc7
         refine W.skip ?_
         refine hK12 _ ?_
         clear hK12 K12
         refine W.seqk fun K13 hK13 => ?_
         refine W.block ?_
         have hk0 : 0 < RG[i5].length := by omega
         have qcs := cntR_succ hir
         have qcl := qtl (i5 + 1)
         obtain ⟨qy1, qy2⟩ := qrs _ (List.getElem_mem hir)
         have hak : RG[i5][k] < ow.length := qy1 _ (List.getElem_mem _)
         have ha0 : RG[i5][0] < ow.length := qy1 _ (List.getElem_mem _)
         have hn1 : ¬ (RG[i5][k] : Int) < 0 := by omega
         have hn2 : ¬ (RG[i5][0] : Int) < 0 := by omega
         have hn3 : ¬ ow.length ≤ RG[i5][k] := by omega
         have hn4 : ¬ ow.length ≤ RG[i5][0] := by omega
         have hdy : (ow[RG[i5][k]]).2 = (ow[RG[i5][0]]).2 := by
           have e := qy2 k (by assumption)
           rw [W6.nth_get (l := RG[i5]) (i := k) (by assumption), W6.nth_get hk0, W6.nth_get hak, W6.nth_get ha0] at e
           exact e
         replace F := F.add hk0 |>.add hak |>.add ha0 |>.add hn1 |>.add hn2 |>.add hn3 |>.add hn4 |>.add hdy
         refine wD 14 [] [[], [], [1, 0], [0, 1, 2], [], [4, 2, 1, 0, 3], [3, 0, 1, 2, 4, 5], [], [], [8, 7], [7, 8, 9], [9, 8, 7, 10], [10, 7, 8, 9, 11], [5, 4, 2, 1, 0, 3, 6], [6, 3, 0, 1, 2, 4, 5, 13, 11, 9, 8, 7, 10, 12]] ?_
         refine dB [([195, 198, 201, 202, 203, 204, 205, 206], [], []), ([194, 198, 201, 202, 203, 204, 205, 206], [false], []), ([198, 201, 202, 203, 204, 205, 206], [true, true], []), ([198, 201, 202, 203, 204, 205, 206], [true, true, true], []), ([194, 195, 196, 197, 201, 202, 203, 204, 205, 206], [false, false, false, false], []), ([201, 202, 203, 204, 205, 206], [true, true, true, true, true], []), ([201, 202, 203, 204, 205, 206], [true, true, true, true, true, true], []), ([194, 195, 196, 197, 198, 199, 200, 202, 29], [false, false, false, false, false, false, false], []), ([194, 195, 196, 197, 198, 199, 200, 201, 29], [false, false, false, false, false, false, false, false], []), ([194, 195, 196, 197, 198, 199, 200, 29], [false, false, false, false, false, false, false, true, true], []), ([194, 195, 196, 197, 198, 199, 200, 29], [false, false, false, false, false, false, false, true, true, true], []), ([194, 195, 196, 197, 198, 199, 200, 29], [false, false, false, false, false, false, false, true, true, true, true], []), ([194, 195, 196, 197, 198, 199, 200, 29], [false, false, false, false, false, false, false, true, true, true, true, true], []), ([201, 202, 203, 204, 205, 206], [true, true, true, true, true, true, true, false, false, false, false, false, false], [])] 0 14 ?_
         refine dD ?_
         refine oN 1 ?_
         refine oK [6, 7, 24, 25, 26, 27, 28, 29, 30] ?_
         refine W.seqk fun K14 hK14 => ?_
         refine wD 33 [] [[], [0], [0, 1], [1, 0, 2], [1, 0, 2], [2, 0, 1, 4], [4, 1, 0, 2, 5], [5, 4, 6, 2, 0, 1, 3], [3, 6, 4, 5, 7, 1, 0, 2], [2, 0, 1, 7, 5, 4, 6, 3, 8], [8, 3, 6, 4, 5, 7, 1, 0, 2, 9], [9, 2, 0, 1, 7, 5, 4, 6, 3, 8, 10], [10, 11, 8, 3, 6, 4, 5, 7, 1, 0, 2, 9], [9, 2, 0, 1, 7, 5, 4, 6, 3, 8, 11, 10, 12], [12, 10, 11, 8, 3, 6, 4, 5, 7, 1, 0, 2, 9, 13], [12, 10, 11, 8, 3, 6, 4, 5, 7, 1, 0, 2, 9, 13], [13, 9, 2, 0, 1, 7, 5, 4, 6, 3, 8, 11, 10, 12, 15], [15, 12, 10, 11, 8, 3, 6, 4, 5, 7, 1, 0, 2, 9, 13, 16], [16, 15, 17, 13, 9, 2, 0, 1, 7, 5, 4, 6, 3, 8, 11, 10, 12, 14], [14, 17, 15, 16, 18, 12, 10, 11, 8, 3, 6, 4, 5, 7, 1, 0, 2, 9, 13], [13, 9, 2, 0, 1, 7, 5, 4, 6, 3, 8, 11, 10, 12, 18, 16, 15, 17, 14, 19], [19, 14, 17, 15, 16, 18, 12, 10, 11, 8, 3, 6, 4, 5, 7, 1, 0, 2, 9, 13, 20], [20, 13, 9, 2, 0, 1, 7, 5, 4, 6, 3, 8, 11, 10, 12, 18, 16, 15, 17, 14, 19, 21], [19, 14, 17, 15, 16, 18, 12, 10, 11, 8, 3, 6, 4, 5, 7, 1, 0, 2, 9, 13, 20], [23, 21, 19, 14, 17, 15, 16, 18, 12, 10, 11, 8, 3, 6, 4, 5, 7, 1, 0, 2, 9, 13, 20, 22], [22, 20, 13, 9, 2, 0, 1, 7, 5, 4, 6, 3, 8, 11, 10, 12, 18, 16, 15, 17, 14, 19, 21, 23, 24], [24, 23, 21, 19, 14, 17, 15, 16, 18, 12, 10, 11, 8, 3, 6, 4, 5, 7, 1, 0, 2, 9, 13, 20, 22, 25], [19, 14, 17, 15, 16, 18, 12, 10, 11, 8, 3, 6, 4, 5, 7, 1, 0, 2, 9, 13, 20], [20, 13, 9, 2, 0, 1, 7, 5, 4, 6, 3, 8, 11, 10, 12, 18, 16, 15, 17, 14, 19, 27], [19, 14, 17, 15, 16, 18, 12, 10, 11, 8, 3, 6, 4, 5, 7, 1, 0, 2, 9, 13, 20], [29, 27, 19, 14, 17, 15, 16, 18, 12, 10, 11, 8, 3, 6, 4, 5, 7, 1, 0, 2, 9, 13, 20, 28], [28, 20, 13, 9, 2, 0, 1, 7, 5, 4, 6, 3, 8, 11, 10, 12, 18, 16, 15, 17, 14, 19, 27, 29, 30], [30, 29, 27, 19, 14, 17, 15, 16, 18, 12, 10, 11, 8, 3, 6, 4, 5, 7, 1, 0, 2, 9, 13, 20, 28, 31], [31, 28, 27, 29, 30, 32, 25, 22, 20, 13, 9, 2, 0, 1, 7, 5, 4, 6, 3, 8, 11, 10, 12, 18, 16, 15, 17, 14, 19, 21, 23, 24, 26], [26, 24, 23, 21, 22, 25, 32, 30, 29, 27, 28, 31, 33, 19, 14, 17, 15, 16, 18, 12, 10, 11, 8, 3, 6, 4, 5, 7, 1, 0, 2, 9, 13, 20]] ?_
         refine dB [([], [], []), ([], [true], []), ([], [true, true], [])] 30 3 ?_
         refine dT [211, 212, 213] [true, true, true] [] ?_
         refine dT [210] [true, true, true, false] [] ?_
         refine dT [210] [true, true, true, false, true] [] ?_
         refine dT [210] [true, true, true, false, true, true] [] ?_
         refine dT [] [true, true, true, true, true, true, true] [] ?_
         refine dB [([], [true, true, true, true, true, true, true, true], []), ([], [true, true, true, true, true, true, true, true, true], [])] 23 10 ?_
         refine dT [] [true, true, true, true, true, true, true, true, true, true] [] ?_
         refine dT [] [true, true, true, true, true, true, true, true, true, true, true] [] ?_
         refine dB [([], [true, true, true, true, true, true, true, true, true, true, true, true], []), ([], [true, true, true, true, true, true, true, true, true, true, true, true, true], [])] 19 14 ?_
         refine dT [222, 223, 224] [true, true, true, true, true, true, true, true, true, true, true, true, true, true] [] ?_
         refine dT [221] [true, true, true, true, true, true, true, true, true, true, true, true, true, true, false] [] ?_
         refine dT [221] [true, true, true, true, true, true, true, true, true, true, true, true, true, true, false, true] [] ?_
         refine dT [221] [true, true, true, true, true, true, true, true, true, true, true, true, true, true, false, true, true] [] ?_
         refine dT [] [true, true, true, true, true, true, true, true, true, true, true, true, true, true, true, true, true, true] [] ?_
         refine dB [([], [true, true, true, true, true, true, true, true, true, true, true, true, true, true, true, true, true, true, true], []), ([], [true, true, true, true, true, true, true, true, true, true, true, true, true, true, true, true, true, true, true, true], [])] 12 21 ?_
         refine dT [230, 234, 235, 236, 237, 238, 239] [true, true, true, true, true, true, true, true, true, true, true, true, true, true, true, true, true, true, true, true, true] [] ?_
         refine dT [230, 234, 235, 236, 237, 238, 239] [true, true, true, true, true, true, true, true, true, true, true, true, true, true, true, true, true, true, true, true, true, true] [] ?_
         refine dT [228, 229, 234, 235, 236, 237, 238, 239] [true, true, true, true, true, true, true, true, true, true, true, true, true, true, true, true, true, true, true, true, true, false, false] [] ?_
         refine dT [234, 235, 236, 237, 238, 239] [true, true, true, true, true, true, true, true, true, true, true, true, true, true, true, true, true, true, true, true, true, true, true, true] [] ?_
         refine dT [234, 235, 236, 237, 238, 239] [true, true, true, true, true, true, true, true, true, true, true, true, true, true, true, true, true, true, true, true, true, true, true, true, true] [] ?_
         refine dT [234, 235, 236, 237, 238, 239] [true, true, true, true, true, true, true, true, true, true, true, true, true, true, true, true, true, true, true, true, true, true, true, true, true, true] [] ?_
         refine dT [228, 229, 230, 231, 232, 233, 236] [true, true, true, true, true, true, true, true, true, true, true, true, true, true, true, true, true, true, true, true, true, false, false, false, false, false, false] [] ?_
         refine dT [228, 229, 230, 231, 232, 233, 236] [true, true, true, true, true, true, true, true, true, true, true, true, true, true, true, true, true, true, true, true, true, false, false, false, false, false, false, true] [] ?_
         refine dT [228, 229, 230, 231, 232, 233, 234, 235] [true, true, true, true, true, true, true, true, true, true, true, true, true, true, true, true, true, true, true, true, true, false, false, false, false, false, false, false, false] [] ?_
         refine dT [228, 229, 230, 231, 232, 233] [true, true, true, true, true, true, true, true, true, true, true, true, true, true, true, true, true, true, true, true, true, false, false, false, false, false, false, true, true, true] [] ?_
         refine dT [228, 229, 230, 231, 232, 233] [true, true, true, true, true, true, true, true, true, true, true, true, true, true, true, true, true, true, true, true, true, false, false, false, false, false, false, true, true, true, true] [] ?_
         refine dT [228, 229, 230, 231, 232, 233] [true, true, true, true, true, true, true, true, true, true, true, true, true, true, true, true, true, true, true, true, true, false, false, false, false, false, false, true, true, true, true, true] [] ?_
         refine dD ?_
         refine gT ?_
         refine oN 1 ?_
         refine oK [6, 7, 24, 25, 26, 27, 28, 241] ?_
         refine cF ?_
         refine W.skip ?_
         refine hK14 _ ?_
         clear hK14 K14
         refine rEw ?_
         refine hK13 _ ?_
         clear hK13 K13
         refine rEw ?_
         refine ⟨k + 1, lf ?_ ?_, ?_, v0⟩
         ·
          try (simp [Fx.get F])
          all_goals (
           first
           | done
           | omega
           | (have hir : i5 < RG.length := by omega
              have q1 := cntR_succ hir
              have q2 := qtl (i5 + 1)
              first
                | omega
                | (refine ⟨?_, ?_⟩ <;> first | omega | exact wrap_i64 (by omega) (by omega)))
          )
         ·
          exact v1
         ·
          first
          | omega
          | (refine ⟨?_, ?_⟩
             · show i + 1 ≤ 2
               omega
             · show WkOk d0 d1 (i + 1) (ow ++ FR.1) (lk ++ FR.2.1) (du ++ X)
               rw [← qX]
               exact kwk.next hb3 (by omega) qDi.2 qv qdy hFl)
        ·
         try simp at hc7
         replace F := F.add hc7
         refine W.exit ?_
         refine hK11 _ ?_
         clear hK12 K12 hK11 K11
         refine rEw ?_
         refine ⟨i5 + 1, lf ?_ ?_, ?_, v0⟩
         ·
          try (simp [Fx.get F])
          all_goals (
           first
           | done
           | omega
           | (have hir : i5 < RG.length := by omega
              have q1 := cntR_succ hir
              have q2 := qtl (i5 + 1)
              first
                | omega
                | (refine ⟨?_, ?_⟩ <;> first | omega | exact wrap_i64 (by omega) (by omega)))
          )
         ·
          exact v1
         ·
          first
          | omega
          | (refine ⟨?_, ?_⟩
             · show i + 1 ≤ 2
               omega
             · show WkOk d0 d1 (i + 1) (ow ++ FR.1) (lk ++ FR.2.1) (du ++ X)
               rw [← qX]
               exact kwk.next hb3 (by omega) qDi.2 qv qdy hFl)
      ·
       try simp at hc6
       replace F := F.add hc6
       refine W.exit ?_
       refine hK9 _ ?_
       clear hK10 K10 hK9 K9
       have hce : cntR RG i5 = ow.length := by rw [← qct]; exact cntR_all (by omega)
       replace F := F.add hce
       refine W.seqR ?_
       refine oN 3 ?_
       refine gT ?_
       refine gT ?_
       refine gT ?_
       refine gT ?_
       refine oN 2 ?_
       refine gC [] ?_
       refine ct (WeekAwake_ok) ?_
       refine oN 2 ?_
       refine oK [2] ?_
       refine W.ret ?_
       exact er0 false [] []
end Go.Sim
