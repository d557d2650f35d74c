/- The law's examples. -/
import Derived.Test.YtfcmfoacedbleaaDoorLm
import Derived.Test.YtfcmfoacedbleaaDoorLh
import Derived.Test.YtfcmfoacedbleaaDoorQn
namespace Go.Sim
open Go.Proofs
set_option maxRecDepth 100000
set_option linter.unusedSimpArgs false
set_option linter.unusedVariables false
attribute [-simp] List.map_set List.map_take List.map_drop
attribute [simp] spn_eta T2_def T2_isData
theorem spn_step {a b : List Spn} {i : Nat} (h : a.take i = b.take i) (h1 : i < a.length) (h2 : i < b.length) : (a[i].lo == b[i].lo && a[i].hi == b[i].hi) = decide (a.take (i + 1) = b.take (i + 1)) := by
  rw [Bool.eq_iff_iff, decide_eq_true_eq, ← take_step h1 h2 h]
  obtain ⟨p, q⟩ := a[i]
  obtain ⟨r, s⟩ := b[i]
  simp
theorem tst_step {a b : List Tst} {i : Nat} (h : a.take i = b.take i) (h1 : i < a.length) (h2 : i < b.length) : (a[i].day == b[i].day && a[i].sc == b[i].sc) = decide (a.take (i + 1) = b.take (i + 1)) := by
  rw [Bool.eq_iff_iff, decide_eq_true_eq, ← take_step h1 h2 h]
  obtain ⟨p, q⟩ := a[i]
  obtain ⟨r, s⟩ := b[i]
  simp
set_option maxHeartbeats 4000000 in
theorem SameSpans_ok (a b : List Spn) : ACalls Tryd.prog 11 [spansV a, spansV b] [] (fun r o => r = B (decide (a = b)) ∧ o = []) := by
 refine ACalls.len (l := a.map S2) (by simp) ⟨_, Tryd.func11, by kernel_rfl, by kernel_rfl⟩ fun ha => ?_
 simp [maxLen_val] at ha
 have F := Fx.nil
 refine ent Tryd.func11 Tryd.ntmps11 Tryd.results11 ?_
 refine rK [0, 1] ?_
 refine rK [0, 1, 5] ?_
 refine W.seqk fun K1 hK1 => ?_
 refine rK [0, 1, 5, 6] ?_
 refine W.block ?_
 refine lp (α := Nat) [0, 1] [16] [] (fun i => [(5, B (decide (a.length = b.length ∧ a.take i = b.take i))), (6, I i)]) (fun i => []) (fun i => i ≤ a.length) (fun i => a.length - i) 0 ?_ ?_ v0 ?_
 ·
  try (simp [Fx.get F])
  all_goals (
   exact same_init _ _
  )
 ·
  exact v1
 ·
  intro i hI0
  simp only [List.cons_append, List.nil_append]
  try dsimp only at hI0
  replace F := F.add hI0
  refine W.seqk fun K2 hK2 => ?_
  refine W.seqR ?_
  refine oN 2 ?_
  refine gX ?_
  refine gX ?_
  refine gX ?_
  refine gX ?_
  refine oN 1 ?_
  refine oK [0, 1, 5, 6, 18] ?_
  refine it (fun hc1 => ?_) (fun hc1 => ?_)
  ·
   try simp at hc1
   replace F := F.add hc1
   refine W.skip ?_
   refine hK2 _ ?_
   clear hK2 K2
   refine W.seqk fun K3 hK3 => ?_
   refine W.block ?_
   have hb : i < b.length := by omega
   replace F := F.add hb
   refine wDe 8 [] [[], [], [1, 0], [0, 1, 2], [], [], [5, 4], [4, 5, 6], [6, 5, 4, 7, 2, 1, 0, 3], [3, 0, 1, 2, 7, 4, 5, 6, 8]] ?_
   refine dB [([22, 25, 26, 27, 28], [], []), ([21, 25, 26, 27, 28], [false], []), ([25, 26, 27, 28], [true, true], []), ([25, 26, 27, 28], [true, true, true], []), ([21, 22, 23, 24, 26], [false, false, false, false], []), ([21, 22, 23, 24, 25], [false, false, false, false, false], []), ([21, 22, 23, 24], [false, false, false, false, true, true], []), ([21, 22, 23, 24], [false, false, false, false, true, true, true], [])] 0 8 ?_
   refine dD ?_
   refine oN 2 ?_
   refine WOps.endK ?_
   refine hK3 _ ?_
   clear hK3 K3
   refine rEw ?_
   refine ⟨i + 1, lf ?_ ?_, v0, v0⟩
   ·
    try (simp [Fx.get F])
    all_goals (
     first | exact spn_step hc1.1.2 (by omega) hb | exact tst_step hc1.1.2 (by omega) hb | exact same_step hc1 _ hb | exact take_step _ hb hc1.1.2
    )
   ·
    exact v1
  ·
   try simp at hc1
   replace F := F.add hc1
   refine W.exit ?_
   refine hK1 _ ?_
   clear hK2 K2 hK1 K1
   refine rK [4] ?_
   refine W.ret ?_
   refine er false [] [] ?_
   exact ⟨by rw [same_end' hc1 hI0], rfl⟩
set_option maxHeartbeats 4000000 in
theorem SameTests_ok (a b : List Tst) : ACalls Tryd.prog 17 [tstV a, tstV b] [] (fun r o => r = B (decide (a = b)) ∧ o = []) := by
 refine ACalls.len (l := a.map T2) (by simp) ⟨_, Tryd.func17, by kernel_rfl, by kernel_rfl⟩ fun ha => ?_
 simp [maxLen_val] at ha
 have F := Fx.nil
 refine ent Tryd.func17 Tryd.ntmps17 Tryd.results17 ?_
 refine rK [0, 1] ?_
 refine rK [0, 1, 5] ?_
 refine W.seqk fun K1 hK1 => ?_
 refine rK [0, 1, 5, 6] ?_
 refine W.block ?_
 refine lp (α := Nat) [0, 1] [16] [] (fun i => [(5, B (decide (a.length = b.length ∧ a.take i = b.take i))), (6, I i)]) (fun i => []) (fun i => i ≤ a.length) (fun i => a.length - i) 0 ?_ ?_ v0 ?_
 ·
  try (simp [Fx.get F])
  all_goals (
   exact same_init _ _
  )
 ·
  exact v1
 ·
  intro i hI0
  simp only [List.cons_append, List.nil_append]
  try dsimp only at hI0
  replace F := F.add hI0
  refine W.seqk fun K2 hK2 => ?_
  refine W.seqR ?_
  refine oN 2 ?_
  refine gX ?_
  refine gX ?_
  refine gX ?_
  refine gX ?_
  refine oN 1 ?_
  refine oK [0, 1, 5, 6, 18] ?_
  refine it (fun hc1 => ?_) (fun hc1 => ?_)
  ·
   try simp at hc1
   replace F := F.add hc1
   refine W.skip ?_
   refine hK2 _ ?_
   clear hK2 K2
   refine W.seqk fun K3 hK3 => ?_
   refine W.block ?_
   have hb : i < b.length := by omega
   replace F := F.add hb
   refine wDe 8 [] [[], [], [1, 0], [0, 1, 2], [], [], [5, 4], [4, 5, 6], [6, 5, 4, 7, 2, 1, 0, 3], [3, 0, 1, 2, 7, 4, 5, 6, 8]] ?_
   refine dB [([22, 25, 26, 27, 28], [], []), ([21, 25, 26, 27, 28], [false], []), ([25, 26, 27, 28], [true, true], []), ([25, 26, 27, 28], [true, true, true], []), ([21, 22, 23, 24, 26], [false, false, false, false], []), ([21, 22, 23, 24, 25], [false, false, false, false, false], []), ([21, 22, 23, 24], [false, false, false, false, true, true], []), ([21, 22, 23, 24], [false, false, false, false, true, true, true], [])] 0 8 ?_
   refine dD ?_
   refine oN 2 ?_
   refine WOps.endK ?_
   refine hK3 _ ?_
   clear hK3 K3
   refine rEw ?_
   refine ⟨i + 1, lf ?_ ?_, v0, v0⟩
   ·
    try (simp [Fx.get F])
    all_goals (
     first | exact spn_step hc1.1.2 (by omega) hb | exact tst_step hc1.1.2 (by omega) hb | exact same_step hc1 _ hb | exact take_step _ hb hc1.1.2
    )
   ·
    exact v1
  ·
   try simp at hc1
   replace F := F.add hc1
   refine W.exit ?_
   refine hK1 _ ?_
   clear hK2 K2 hK1 K1
   refine rK [4] ?_
   refine W.ret ?_
   refine er false [] [] ?_
   exact ⟨by rw [same_end' hc1 hI0], rfl⟩
set_option maxHeartbeats 4000000 in
theorem lspan_ok (a b : Int) : ACalls Tryd.prog 10 [I a, I b] [] (fun r o => r = .agg [I a, I b] ∧ o = []) := by
 have F := Fx.nil
 refine ent Tryd.func10 Tryd.ntmps10 Tryd.results10 ?_
 refine rK [0, 1, 4] ?_
 refine rK [4] ?_
 refine W.ret ?_
 exact er0 false [] []
set_option maxHeartbeats 4000000 in
theorem bench_ok  : ACalls Tryd.prog 4 [] [] (fun r o => r = benV benchC ∧ o = []) := by
 have F := Fx.nil
 refine ent Tryd.func4 Tryd.ntmps4 Tryd.results4 ?_
 refine rK [0] ?_
 refine W.seqR ?_
 refine oN 1 ?_
 refine oC [] ?_
 refine ct (lspan_ok _ _) ?_
 refine oN 1 ?_
 refine oC [] ?_
 refine ct (lspan_ok _ _) ?_
 refine oN 2 ?_
 refine oC [] ?_
 refine ct (lspan_ok _ _) ?_
 refine oN 1 ?_
 refine oC [] ?_
 refine ct (lspan_ok _ _) ?_
 refine oN 2 ?_
 refine oC [] ?_
 refine ct (lspan_ok _ _) ?_
 refine oC [] ?_
 refine ct (lspan_ok _ _) ?_
 refine oN 6 ?_
 refine oK [0] ?_
 refine W.ret ?_
 refine er false [48, 88, 120, 136] [] ?_
 exact ⟨rfl, rfl⟩
set_option maxHeartbeats 4000000 in
theorem bench_own  : ACalls Tryd.prog 4 [] [] (fun r o => r = .agg [masV benchC.mas, weiV benchC.wei, sclV benchC.scl, .own 20000 0 1, I 4] ∧ o = [(20000, .row true 34 4 (benchC.tri.map R4))]) := by
 have F := Fx.nil
 refine ent Tryd.func4 Tryd.ntmps4 Tryd.results4 ?_
 refine rK [0] ?_
 refine W.seqR ?_
 refine oN 1 ?_
 refine oC [] ?_
 refine ct (lspan_ok _ _) ?_
 refine oN 1 ?_
 refine oC [] ?_
 refine ct (lspan_ok _ _) ?_
 refine oN 2 ?_
 refine oC [] ?_
 refine ct (lspan_ok _ _) ?_
 refine oN 1 ?_
 refine oC [] ?_
 refine ct (lspan_ok _ _) ?_
 refine oN 2 ?_
 refine oC [] ?_
 refine ct (lspan_ok _ _) ?_
 refine oC [] ?_
 refine ct (lspan_ok _ _) ?_
 refine oN 6 ?_
 refine oK [0] ?_
 refine W.ret ?_
 refine er false [48, 88, 120] [(20000, 136)] ?_
 exact ⟨rfl, rfl⟩
set_option maxHeartbeats 4000000 in
theorem wrong_ok  : ACalls Tryd.prog 19 [] [] (fun r o => r = benV wrongC ∧ o = []) := by
 have F := Fx.nil
 refine ent Tryd.func19 Tryd.ntmps19 Tryd.results19 ?_
 refine rK [0] ?_
 refine W.seqR ?_
 refine oC [] ?_
 refine ct (bench_own) ?_
 refine oN 2 ?_
 refine oK [0, 1] ?_
 refine rK [0, 1] ?_
 refine rK [0] ?_
 refine W.ret ?_
 refine er false [16] [] ?_
 exact ⟨rfl, rfl⟩
set_option maxHeartbeats 4000000 in
theorem seals_ok  : ACalls Tryd.prog 13 [] [] (fun r o => r = slsV sealsC ∧ o = []) := by
 have F := Fx.nil
 refine ent Tryd.func13 Tryd.ntmps13 Tryd.results13 ?_
 refine rK [0] ?_
 refine rK [0] ?_
 refine W.ret ?_
 refine er false [8, 16] [] ?_
 exact ⟨rfl, rfl⟩
set_option maxHeartbeats 4000000 in
theorem awake_ok  : ACalls Tryd.prog 5 [] [] (fun r o => r = B true ∧ o = []) := by
 have F := Fx.nil
 refine ent Tryd.func5 Tryd.ntmps5 Tryd.results5 ?_
 have hx1 := ex_errs
 have hx2 := ex_errsE
 have hx3 : optV (clashL wrongC) = ints [0, 2, 3] := by rw [ex_clash]; rfl
 have hx4 := ex_clashE
 have hx5 := ex_plan
 have hx6 := ex_planE
 have hx7 := ex_last.1
 have hx8 := ex_last.2
 replace F := F.add hx1 |>.add hx2 |>.add hx3 |>.add hx4 |>.add hx5 |>.add hx6 |>.add hx7 |>.add hx8
 refine rK [] ?_
 refine W.seqR ?_
 refine oC [] ?_
 refine ct (bench_ok) ?_
 refine oC [] ?_
 refine ct (Errors_ok benchC ⟨by decide, by decide, by decide, by decide⟩ 0) ?_
 refine oN 5 ?_
 refine oK [1, 2] ?_
 refine W.seqR ?_
 refine oC [] ?_
 refine ct (wrong_ok) ?_
 refine oC [] ?_
 refine ct (Clash_ok wrongC ⟨by decide, by decide, by decide, by decide⟩) ?_
 refine oN 5 ?_
 refine oK [1, 2, 3, 4] ?_
 refine W.seqR ?_
 refine oC [] ?_
 refine ct (seals_ok) ?_
 refine oC [] ?_
 refine ct (Plan_ok sealsC (by decide) (by decide)) ?_
 refine oN 5 ?_
 refine oK [1, 2, 3, 4, 5, 6] ?_
 refine W.seqR ?_
 refine oC [] ?_
 refine ct (lspan_ok _ _) ?_
 refine oC [] ?_
 refine ct (lspan_ok _ _) ?_
 refine oC [] ?_
 refine ct (Lasts_ok ⟨-2, 3⟩ ⟨-1, 2⟩ 10) ?_
 refine oN 5 ?_
 refine oK [1, 2, 3, 4, 5, 6, 7, 8] ?_
 refine W.seqR ?_
 refine oN 3 ?_
 refine gT ?_
 refine gT ?_
 refine oN 2 ?_
 refine gT ?_
 refine gT ?_
 refine oN 2 ?_
 refine gT ?_
 refine gT ?_
 refine oN 2 ?_
 refine gT ?_
 refine gT ?_
 refine oN 2 ?_
 refine gT ?_
 refine gC [] ?_
 refine ct (lspan_ok _ _) ?_
 refine gC [] ?_
 refine ct (lspan_ok _ _) ?_
 refine gC [] ?_
 refine ct (lspan_ok _ _) ?_
 refine gC [] ?_
 refine ct (lspan_ok _ _) ?_
 refine gC [] ?_
 refine ct (lspan_ok _ _) ?_
 refine gT ?_
 refine gXc ?_
 refine cx (fun hg => by (try simp at hg); exact SameSpans_ok [⟨1, 5⟩, ⟨3, 7⟩, ⟨5, 7⟩, ⟨4, 9⟩, ⟨3, 11⟩] [⟨1, 5⟩, ⟨3, 7⟩, ⟨5, 7⟩, ⟨4, 9⟩, ⟨3, 11⟩]) ?_
 refine oN 2 ?_
 refine gT ?_
 refine gT ?_
 refine gXc ?_
 refine cx (fun hg => by (try simp at hg); exact SameInts_ok [0, 2, 3] [0, 2, 3]) ?_
 refine oN 2 ?_
 refine gT ?_
 refine gT ?_
 refine gT ?_
 refine gT ?_
 refine gXc ?_
 refine cx (fun hg => by (try simp at hg); exact SameTests_ok [⟨1, 1⟩, ⟨2, 0⟩] [⟨1, 1⟩, ⟨2, 0⟩]) ?_
 refine oN 2 ?_
 refine oK [0] ?_
 refine W.ret ?_
 exact er0 false [] []
end Go.Sim
