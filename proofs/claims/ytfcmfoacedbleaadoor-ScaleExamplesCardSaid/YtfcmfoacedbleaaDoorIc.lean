/- The chapter's examples: the law answers true. -/
import Derived.Test.YtfcmfoacedbleaaDoorIb
import Derived.Test.YtfcmfoacedbleaaDoorQv
import Derived.Test.YtfcmfoacedbleaaDoorLn
namespace Go.Sim
open Go.Proofs
set_option maxRecDepth 100000
set_option linter.unusedSimpArgs false
set_option linter.unusedVariables false
attribute [-simp] List.map_set List.map_take List.map_drop
attribute [simp] spn_eta T2_def T2_isData
set_option maxHeartbeats 4000000 in
theorem bench_ownW  : ACalls Tryd.prog 4 [] [] (fun r o => r = .agg [masV benchC.mas, .own 20000 0 2, sclV benchC.scl, triV benchC.tri, I 4] ∧ o = [(20000, .row true 32 4 [W4 ⟨1, 0, ⟨3, 5⟩⟩, W4 ⟨2, 1, ⟨-9, -7⟩⟩])]) := by
 have F := Fx.nil
 refine ent Tryd.func4 Tryd.ntmps4 Tryd.results4 ?_
 refine rK [0] ?_
 refine W.seqR ?_
 refine oN 1 ?_
 refine oC [] ?_
 refine ct (lspan_ok _ _) ?_
 refine oN 1 ?_
 refine oC [] ?_
 refine ct (lspan_ok _ _) ?_
 refine oN 2 ?_
 refine oC [] ?_
 refine ct (lspan_ok _ _) ?_
 refine oN 1 ?_
 refine oC [] ?_
 refine ct (lspan_ok _ _) ?_
 refine oN 2 ?_
 refine oC [] ?_
 refine ct (lspan_ok _ _) ?_
 refine oC [] ?_
 refine ct (lspan_ok _ _) ?_
 refine oN 6 ?_
 refine oK [0] ?_
 refine W.ret ?_
 refine er false [48, 120, 136] [(20000, 88)] ?_
 exact ⟨rfl, rfl⟩
set_option maxHeartbeats 4000000 in
theorem bench_ownT  : ACalls Tryd.prog 4 [] [] (fun r o => r = .agg [masV benchC.mas, weiV benchC.wei, sclV benchC.scl, .own 20000 0 1, I 4] ∧ o = [(20000, .row true 34 4 [R4 ⟨0, 2, 1, 1010⟩])]) := by
 have F := Fx.nil
 refine ent Tryd.func4 Tryd.ntmps4 Tryd.results4 ?_
 refine rK [0] ?_
 refine W.seqR ?_
 refine oN 1 ?_
 refine oC [] ?_
 refine ct (lspan_ok _ _) ?_
 refine oN 1 ?_
 refine oC [] ?_
 refine ct (lspan_ok _ _) ?_
 refine oN 2 ?_
 refine oC [] ?_
 refine ct (lspan_ok _ _) ?_
 refine oN 1 ?_
 refine oC [] ?_
 refine ct (lspan_ok _ _) ?_
 refine oN 2 ?_
 refine oC [] ?_
 refine ct (lspan_ok _ _) ?_
 refine oC [] ?_
 refine ct (lspan_ok _ _) ?_
 refine oN 6 ?_
 refine oK [0] ?_
 refine W.ret ?_
 refine er false [48, 88, 120] [(20000, 136)] ?_
 exact ⟨rfl, rfl⟩
set_option maxHeartbeats 4000000 in
theorem seals_own  : ACalls Tryd.prog 13 [] [] (fun r o => r = .agg [.own 20000 0 2, ints [2, 3], I 1, I 4] ∧ o = [(20000, .row true 3 1 [I 1, I 0])]) := by
 have F := Fx.nil
 refine ent Tryd.func13 Tryd.ntmps13 Tryd.results13 ?_
 refine rK [0] ?_
 refine rK [0] ?_
 refine W.ret ?_
 refine er false [16] [(20000, 8)] ?_
 exact ⟨rfl, rfl⟩
theorem chk_same : ACalls Tryd.prog 6 [.agg [masV benchC.mas, .imm [W4 ⟨1, 1, ⟨3, 5⟩⟩, W4 ⟨2, 1, ⟨-9, -7⟩⟩], sclV benchC.scl, triV benchC.tri, I 4]] [] (fun r o => r = I 2 ∧ o = []) := by
  have h := Check_ok sameC ⟨by decide, by decide, by decide, by decide⟩
  rw [ey_same] at h; exact h
theorem chk_late : ACalls Tryd.prog 6 [.agg [masV benchC.mas, weiV benchC.wei, sclV benchC.scl, .imm [R4 ⟨0, 5, 1, 1010⟩], I 4]] [] (fun r o => r = I 1 ∧ o = []) := by
  have h := Check_ok lateC ⟨by decide, by decide, by decide, by decide⟩
  rw [ey_late] at h; exact h
theorem chk_none : ACalls Tryd.prog 6 [.agg [.imm [], weiV benchC.wei, sclV benchC.scl, triV benchC.tri, I 4]] [] (fun r o => r = I 7 ∧ o = []) := by
  have h := Check_ok noneC ⟨by decide, by decide, by decide, by decide⟩
  rw [ey_none] at h; exact h
theorem chk_bench : ACalls Tryd.prog 6 [benV benchC] [] (fun r o => r = I 0 ∧ o = []) := by
  have h := Check_ok benchC ⟨by decide, by decide, by decide, by decide⟩
  rw [ey_chk] at h; exact h
theorem plan_both : ACalls Tryd.prog 14 [.agg [.imm [I 0, I 0], ints [2, 3], I 1, I 4]] [] (fun r o => r = .tup [tstV [⟨0, 0⟩, ⟨1, 1⟩, ⟨3, 0⟩], I 0] ∧ o = []) := by
  have h := Plan_ok bothC (by decide) (by decide)
  rw [ey_both, ey_bothE] at h; exact h
theorem plan_idle : ACalls Tryd.prog 14 [.agg [.imm [I 1, I 0], ints [2, 3], I 0, I 4]] [] (fun r o => r = .tup [tstV [], I 3] ∧ o = []) := by
  have h := Plan_ok idleC (by decide) (by decide)
  rw [ey_idle, ey_idleE] at h; exact h
theorem lasts_ex : ACalls Tryd.prog 15 [spnV ⟨-2, 3⟩, spnV ⟨-1, 2⟩, I 2] [] (fun r o => r = .tup [I (-1), I 0] ∧ o = []) := by
  have h := Lasts_ok ⟨-2, 3⟩ ⟨-1, 2⟩ 2
  rw [ey_last.1, ey_last.2] at h; exact h
theorem offs_ex : ACalls Tryd.prog 7 [benV benchC] [] (fun r o => r = .tup [spansV [⟨0, 0⟩, ⟨3, 5⟩, ⟨-6, -2⟩], I 0] ∧ o = []) := by
  have h := Offs_ok benchC ⟨by decide, by decide, by decide, by decide⟩
  rw [ey_offs, ey_offsE] at h; exact h
theorem weight_ex : ACalls Tryd.prog 8 [benV benchC, I 0, I 3, I 750] [] (fun r o => r = .tup [spnV ⟨741, 746⟩, I 0] ∧ o = []) := by
  have h := Weight_ok benchC ⟨by decide, by decide, by decide, by decide⟩ 0 3 750
  rw [ey_wei, ey_weiE] at h; exact h
theorem clash_ex : ACalls Tryd.prog 9 [benV benchC] [] (fun r o => r = .tup [optV none, I 3] ∧ o = []) := by
  have h := Clash_ok benchC ⟨by decide, by decide, by decide, by decide⟩
  rw [ey_clash, ey_clashE] at h; exact h
theorem write_ex (ob : Go.Obj) : ACalls Tryd.prog 16 [benV benchC] [(10900, tabO ob)] (fun r o => r = .tup [.val (.string ⟨paperC.toArray⟩), I 0] ∧ o = [(10900, tabO ob)]) := by
  have h := Write_ok ob benchC (checkB_zero.1 ey_chk)
  rw [ey_paper] at h; exact h
theorem keeps_ex {l v : Int} (hv : keeV benchC 0 3 l = v) (he : keeE benchC 0 3 l = 0) : ACalls Tryd.prog 12 [benV benchC, I 0, I 3, I l] [] (fun r o => r = .tup [I v, I 0] ∧ o = []) := by
  have h := Keeps_ok benchC ⟨by decide, by decide, by decide, by decide⟩ 0 3 l
  rw [hv, he] at h; exact h
set_option maxHeartbeats 4000000 in
theorem ScaleExamples_ok (ob : Go.Obj) : ACalls Tryd.prog 3 [] [(10900, tabO ob)] (fun r o => r = B true ∧ o = [(10900, tabO ob)]) := by
 have F := Fx.nil
 refine ent Tryd.func3 Tryd.ntmps3 Tryd.results3 ?_
 refine rK [] ?_
 refine W.seqR ?_
 refine oC [] ?_
 refine ct (bench_ok) ?_
 refine oC [] ?_
 refine ct (bench_ownW) ?_
 refine oC [] ?_
 refine ct (bench_ownT) ?_
 refine oN 6 ?_
 refine oK [1, 2, 3] ?_
 refine wD 9 [(5, [8]), (8, [176])] [[], [0], [], [2], [], [4], [5, 4, 0, 1], [1, 0, 4, 5, 6], [6, 5, 4, 0, 1, 7], [8, 7, 6, 5, 4, 1, 0, 2, 3], [3, 2, 0, 1, 4, 5, 6, 7, 8, 9], [9, 8, 7, 6, 5, 4, 1, 0, 2, 3, 10]] ?_
 refine dB [([26, 27, 28], [], [8]), ([26, 27, 28], [true], [8]), ([24, 25, 28, 29, 30], [false, false], [8, 176]), ([24, 25, 28, 29, 30], [false, false, true], [8, 176]), ([24, 25, 26, 27], [false, false, false, false], [])] 4 5 ?_
 refine WDraw.upd hΓ [8] (viewB_eq (L := [24, 25, 26, 27]) (S := [false, false, false, false, true]) (O := []) (by kernel_rfl) (by kernel_rfl) (by simp; rfl)) (by first | rfl | simp) (by simp; first | rfl | exact ⟨rfl, rfl⟩) (by simp; first | done | rfl) (.inr (by simp)) (by simp; rfl) ?_
 refine dB [([26, 27], [true, true, false, false, true, true], []), ([26, 27], [true, true, false, false, true, true, true], [])] 1 8 ?_
 refine WDraw.upd hΓ [176] (viewB_eq (L := [26, 27]) (S := [true, true, false, false, true, true, true, true]) (O := []) (by kernel_rfl) (by kernel_rfl) (by simp; rfl)) (by first | rfl | simp) (by simp; first | rfl | exact ⟨rfl, rfl⟩) (by simp; first | done | rfl) (.inr (by simp)) (by simp; rfl) ?_
 refine dD ?_
 refine WOps.le Le.dedup rfl rfl ?_
 refine WOps.norm (by simp; rfl) ?_
 refine oN 3 ?_
 refine oK [1, 2, 3] ?_
 refine W.seqk fun K1 hK1 => ?_
 refine W.seqR ?_
 refine oC [] ?_
 refine ct (awake_ok) ?_
 refine oN 2 ?_
 refine gC [] ?_
 refine ct (bench_ok) ?_
 refine gC [] ?_
 refine ct (chk_bench) ?_
 refine gT ?_
 refine oN 2 ?_
 refine gT ?_
 refine gC [] ?_
 refine ct (chk_none) ?_
 refine gT ?_
 refine oN 2 ?_
 refine gT ?_
 refine gC [] ?_
 refine ct (chk_same) ?_
 refine gT ?_
 refine oN 2 ?_
 refine gT ?_
 refine gC [] ?_
 refine ct (chk_late) ?_
 refine gT ?_
 refine oN 1 ?_
 refine oK [54] ?_
 refine cF ?_
 refine W.skip ?_
 refine hK1 _ ?_
 clear hK1 K1
 refine W.seqR ?_
 refine oC [] ?_
 refine ct (bench_ok) ?_
 refine oC [] ?_
 refine ct (offs_ex) ?_
 refine oN 5 ?_
 refine oK [4, 5] ?_
 refine W.seqR ?_
 refine oC [] ?_
 refine ct (bench_ok) ?_
 refine oC [] ?_
 refine ct (weight_ex) ?_
 refine oN 6 ?_
 refine oK [4, 5, 6, 7] ?_
 refine W.seqR ?_
 refine oC [] ?_
 refine ct (bench_ok) ?_
 refine oC [] ?_
 refine ct (clash_ex) ?_
 refine oN 5 ?_
 refine oK [4, 5, 6, 7, 9] ?_
 refine W.seqk fun K2 hK2 => ?_
 refine wD 21 [] [[], [0], [0, 1], [1, 0, 2], [2, 0, 1, 3], [3, 4, 1, 0, 2], [2, 0, 1, 4, 3, 5], [5, 3, 4, 1, 0, 2, 6], [6, 2, 0, 1, 4, 3, 5, 7], [7, 8, 5, 3, 4, 1, 0, 2, 6], [6, 2, 0, 1, 4, 3, 5, 8, 7, 9], [9, 7, 8, 5, 3, 4, 1, 0, 2, 6, 10], [9, 7, 8, 5, 3, 4, 1, 0, 2, 6, 10], [12, 10, 6, 2, 0, 1, 4, 3, 5, 8, 7, 9, 11], [11, 12, 13, 9, 7, 8, 5, 3, 4, 1, 0, 2, 6, 10], [10, 6, 2, 0, 1, 4, 3, 5, 8, 7, 9, 13, 12, 11, 14], [14, 11, 12, 13, 9, 7, 8, 5, 3, 4, 1, 0, 2, 6, 10, 15], [14, 11, 12, 13, 9, 7, 8, 5, 3, 4, 1, 0, 2, 6, 10, 15], [14, 11, 12, 13, 9, 7, 8, 5, 3, 4, 1, 0, 2, 6, 10, 15], [15, 10, 6, 2, 0, 1, 4, 3, 5, 8, 7, 9, 13, 12, 11, 14, 18], [19, 18, 15, 10, 6, 2, 0, 1, 4, 3, 5, 8, 7, 9, 13, 12, 11, 14, 17], [17, 18, 19, 20, 15, 10, 6, 2, 0, 1, 4, 3, 5, 8, 7, 9, 13, 12, 11, 14, 16], [16, 14, 11, 12, 13, 9, 7, 8, 5, 3, 4, 1, 0, 2, 6, 10, 15, 20, 19, 18, 17, 21], [21, 17, 18, 19, 20, 16, 22, 14, 11, 12, 13, 9, 7, 8, 5, 3, 4, 1, 0, 2, 6, 10, 15]] ?_
 refine dB [([], [], []), ([], [true], []), ([], [true, true], [])] 18 3 ?_
 refine dT [] [true, true, true] [] ?_
 refine dT [] [true, true, true, true] [] ?_
 refine dB [([], [true, true, true, true, true], []), ([], [true, true, true, true, true, true], [])] 14 7 ?_
 refine dT [] [true, true, true, true, true, true, true] [] ?_
 refine dT [] [true, true, true, true, true, true, true, true] [] ?_
 refine dB [([], [true, true, true, true, true, true, true, true, true], []), ([], [true, true, true, true, true, true, true, true, true, true], [])] 10 11 ?_
 refine dT [82] [true, true, true, true, true, true, true, true, true, true, true] [] ?_
 refine dG [81] [true, true, true, true, true, true, true, true, true, true, true, false] [] [] ?_
 refine cd (lspan_ok 741 746) ?_
 refine dT [] [true, true, true, true, true, true, true, true, true, true, true, true, true] [] ?_
 refine dB [([], [true, true, true, true, true, true, true, true, true, true, true, true, true, true], []), ([], [true, true, true, true, true, true, true, true, true, true, true, true, true, true, true], [])] 5 16 ?_
 refine dT [87, 88, 89, 90] [true, true, true, true, true, true, true, true, true, true, true, true, true, true, true, true] [] ?_
 refine dT [86, 88, 89] [true, true, true, true, true, true, true, true, true, true, true, true, true, true, true, true, false] [] ?_
 refine dG [86, 87] [true, true, true, true, true, true, true, true, true, true, true, true, true, true, true, true, false, false] [] [] ?_
 refine cd (lspan_ok 3 5) ?_
 refine dG [86, 87] [true, true, true, true, true, true, true, true, true, true, true, true, true, true, true, true, false, false, true] [] [] ?_
 refine cd (lspan_ok (-6) (-2)) ?_
 refine dT [86] [true, true, true, true, true, true, true, true, true, true, true, true, true, true, true, true, false, true, true, true] [] ?_
 refine dD ?_
 refine gXc ?_
 refine cx (fun hg => by (try simp at hg); exact SameSpans_ok [⟨0, 0⟩, ⟨3, 5⟩, ⟨-6, -2⟩] [⟨0, 0⟩, ⟨3, 5⟩, ⟨-6, -2⟩]) ?_
 refine gT ?_
 refine oN 1 ?_
 refine oK [93] ?_
 refine cF ?_
 refine W.skip ?_
 refine hK2 _ ?_
 clear hK2 K2
 refine rK [10, 11] ?_
 refine W.seqk fun K3 hK3 => ?_
 obtain ⟨LS, qLS⟩ : ∃ L : List Int, L = [8, 9, 3] := ⟨_, rfl⟩
 obtain ⟨VS, qVS⟩ : ∃ L : List Int, L = [3, 1, 2] := ⟨_, rfl⟩
 have hLS : [I 8, I 9, I 3] = LS.map I := by rw [qLS]; rfl
 have hVS : [I 3, I 1, I 2] = VS.map I := by rw [qVS]; rfl
 have hLSl : LS.length = 3 := by rw [qLS]; rfl
 have hVSl : VS.length = 3 := by rw [qVS]; rfl
 replace F := F.add hLS |>.add hVS |>.add hLSl |>.add hVSl
 refine W.weaken (Le.freeze (id := 752) (by simp [hLS, hVS, hLSl, hVSl]; rfl)) ?_
 refine W.weaken (Le.freeze (id := 760) (by simp [hLS, hVS, hLSl, hVSl]; rfl)) ?_
 refine rK [10, 11, 12] ?_
 refine W.block ?_
 refine lpa (α := Nat) [10, 11] [98, 103, 108] [] (fun i => [(12, I i)]) (fun i => []) (fun i => i ≤ 3) (fun i => 3 - i) 0 v0 ?_
 ·
  intro i hI0
  simp only [List.cons_append, List.nil_append]
  try dsimp only at hI0
  replace F := F.add hI0
  refine W.seqk fun K4 hK4 => ?_
  refine rK [10, 11, 12, 99] ?_
  refine it (fun hc3 => ?_) (fun hc3 => ?_)
  ·
   try simp at hc3
   replace F := F.add hc3
   refine W.skip ?_
   refine hK4 _ ?_
   clear hK4 K4
   refine W.seqk fun K5 hK5 => ?_
   refine W.block ?_
   have hi3 : i < 3 := by omega
   obtain ⟨l, ql⟩ : ∃ l, LS[i]'(by omega) = l := ⟨_, rfl⟩
   obtain ⟨v, qv⟩ : ∃ v, VS[i]'(by omega) = v := ⟨_, rfl⟩
   have hl0 := ql
   have hv0 := qv
   have qk : keeV benchC 0 3 l = v ∧ keeE benchC 0 3 l = 0 := by
     subst qLS; subst qVS
     have h0 := ey_kee
     have h1 := ey_keeE
     have h3 : i = 0 ∨ i = 1 ∨ i = 2 := by omega
     rcases h3 with rfl | rfl | rfl
     · rw [← show (8 : Int) = l from ql, ← show (3 : Int) = v from qv]; exact ⟨h0.1, h1.1⟩
     · rw [← show (9 : Int) = l from ql, ← show (1 : Int) = v from qv]; exact ⟨h0.2.1, h1.2.1⟩
     · rw [← show (3 : Int) = l from ql, ← show (2 : Int) = v from qv]; exact ⟨h0.2.2, h1.2.2⟩
   replace F := F.add hi3 |>.add hl0 |>.add hv0
   refine wD 10 [] [[], [], [], [2, 1], [1, 2, 3], [3, 2, 1, 4, 0], [0, 4, 1, 2, 3, 5], [5, 3, 2, 1, 4, 0, 6], [5, 3, 2, 1, 4, 0, 6], [6, 0, 4, 1, 2, 3, 5, 7], [7, 9, 6, 0, 4, 1, 2, 3, 5, 8]] ?_
   refine dC [104, 105, 106, 107] [] [] [] ?_
   refine cd (bench_ok) ?_
   refine dB [([103, 105], [false], []), ([103, 104], [false, false], []), ([103], [false, true, true], []), ([103], [false, true, true, true], [])] 5 5 ?_
   refine dC [] [true, true, true, true, true] [] [] ?_
   refine cd (keeps_ex qk.1 qk.2) ?_
   refine dB [([], [true, true, true, true, true, true], []), ([110], [true, true, true, true, true, true, true], []), ([109, 13], [true, true, true, true, true, true, true, false], []), ([110], [true, true, true, true, true, true, true, true, false], [])] 0 10 ?_
   refine dD ?_
   refine oN 1 ?_
   refine oK [10, 11, 12, 13, 14] ?_
   refine W.seqR ?_
   refine oN 3 ?_
   refine gT ?_
   refine gT ?_
   refine gT ?_
   refine gT ?_
   refine gT ?_
   refine gT ?_
   refine oN 1 ?_
   refine oK [10, 11, 12, 120] ?_
   refine cF ?_
   refine W.skip ?_
   refine hK5 _ ?_
   clear hK5 K5
   refine rEw ?_
   refine ⟨i + 1, lf0, v0, v0⟩
  ·
   try simp at hc3
   replace F := F.add hc3
   refine W.exit ?_
   refine hK3 _ ?_
   clear hK4 K4 hK3 K3
   refine W.seqR ?_
   refine oC [] ?_
   refine ct (seals_own) ?_
   refine oC [] ?_
   refine ct (seals_own) ?_
   refine oN 4 ?_
   refine oK [15, 16] ?_
   refine rK [15, 16] ?_
   refine W.weaken (Le.freeze (id := 968) (by simp [hLS, hVS, hLSl, hVSl, hI0, hc3]; rfl)) ?_
   refine W.weaken (Le.freeze (id := 976) (by simp [hLS, hVS, hLSl, hVSl, hI0, hc3]; rfl)) ?_
   refine W.seqR ?_
   refine oN 1 ?_
   refine oC [] ?_
   refine ct (plan_both) ?_
   refine oN 5 ?_
   refine oK [5, 16, 17] ?_
   refine W.seqR ?_
   refine oN 1 ?_
   refine oC [] ?_
   refine ct (plan_idle) ?_
   refine oN 4 ?_
   refine oK [5, 7, 17] ?_
   refine W.seqR ?_
   refine oC [] ?_
   refine ct (lspan_ok (-2) 3) ?_
   refine oC [] ?_
   refine ct (lspan_ok (-1) 2) ?_
   refine oC [] ?_
   refine ct (lasts_ex) ?_
   refine oN 5 ?_
   refine oK [5, 7, 9, 17, 18] ?_
   refine W.seqR ?_
   refine oC [] ?_
   refine ct (bench_ok) ?_
   refine oC [(10900, 10900)] ?_
   refine ct (write_ex ob) ?_
   refine oN 5 ?_
   refine oK [5, 7, 9, 17, 18, 19, 20] ?_
   refine W.seqR ?_
   refine oN 3 ?_
   refine gT ?_
   refine gT ?_
   refine oN 2 ?_
   refine gT ?_
   refine gT ?_
   refine oN 2 ?_
   refine gT ?_
   refine gT ?_
   refine oN 2 ?_
   refine gT ?_
   refine gT ?_
   refine oN 2 ?_
   refine gT ?_
   refine gT ?_
   refine gT ?_
   refine gT ?_
   refine gT ?_
   refine gXc ?_
   refine cx (fun hg => by (try simp at hg); exact SameTests_ok [⟨0, 0⟩, ⟨1, 1⟩, ⟨3, 0⟩] [⟨0, 0⟩, ⟨1, 1⟩, ⟨3, 0⟩]) ?_
   refine oN 2 ?_
   refine gT ?_
   refine gT ?_
   refine oN 2 ?_
   refine oK [0] ?_
   refine W.ret ?_
   refine er false [] [(10900, 10900)] ?_
   exact ⟨congrArg (fun b => AV.val (Value.bool b)) (by decide +kernel), rfl⟩
end Go.Sim
