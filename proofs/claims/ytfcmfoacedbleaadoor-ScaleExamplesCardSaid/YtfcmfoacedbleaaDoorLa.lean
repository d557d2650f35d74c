/- Benches: what Check says. -/
import Derived.Test.YtfcmfoacedbleaaDoorQa
namespace Go.Sim
open Go.Proofs
set_option maxRecDepth 100000
set_option linter.unusedSimpArgs false
set_option linter.unusedVariables false
attribute [-simp] List.map_set List.map_take List.map_drop
attribute [simp] spn_eta
set_option maxHeartbeats 4000000 in
theorem in_ok (n a b : Int) : ACalls Tryd.prog 27 [I n, I a, I b] [] (fun r o => r = B (inB n a b) ∧ o = []) := by
 have F := Fx.nil
 refine ent Tryd.func27 Tryd.ntmps27 Tryd.results27 ?_
 refine rK [0, 1, 2] ?_
 refine W.seqR ?_
 refine oN 4 ?_
 refine gX ?_
 refine gX ?_
 refine gX ?_
 refine oN 2 ?_
 refine oK [6] ?_
 refine W.ret ?_
 refine er false [] [] ?_
 refine ⟨?_, rfl⟩
 unfold inB
 by_cases h1 : a ≤ n <;> by_cases h2 : n ≤ b <;> simp [h1, h2]
set_option maxHeartbeats 4000000 in
theorem many_ok (n m : Int) : ACalls Tryd.prog 23 [I n, I m] [] (fun r o => r = I (manyC n m) ∧ o = []) := by
 have F := Fx.nil
 refine ent Tryd.func23 Tryd.ntmps23 Tryd.results23 ?_
 refine rK [0, 1] ?_
 refine W.seqk fun K1 hK1 => ?_
 refine W.block ?_
 refine rK [0, 1, 5] ?_
 refine it (fun hc1 => ?_) (fun hc1 => ?_)
 ·
  try simp at hc1
  replace F := F.add hc1
  refine rK [4] ?_
  refine W.ret ?_
  refine br (tr ?_)
  clear hK1 K1
  refine er false [] [] ?_
  exact ⟨congrArg I (by unfold manyC; (repeat' split) <;> first | rfl | omega), rfl⟩
 ·
  try simp at hc1
  replace F := F.add hc1
  refine rK [8] ?_
  refine it (fun hc2 => ?_) (fun hc2 => ?_)
  ·
   try simp at hc2
   replace F := F.add hc2
   refine rK [4] ?_
   refine W.ret ?_
   refine br (tr ?_)
   clear hK1 K1
   refine er false [] [] ?_
   exact ⟨congrArg I (by unfold manyC; (repeat' split) <;> first | rfl | omega), rfl⟩
  ·
   try simp at hc2
   replace F := F.add hc2
   refine W.skip ?_
   refine hK1 _ ?_
   clear hK1 K1
   refine rK [4] ?_
   refine W.ret ?_
   refine er false [] [] ?_
   exact ⟨congrArg I (by unfold manyC; (repeat' split) <;> first | rfl | omega), rfl⟩
set_option maxHeartbeats 4000000 in
theorem checkSpan_ok (x : Spn) (a b : Int) : ACalls Tryd.prog 33 [spnV x, I a, I b] [] (fun r o => r = I (spanC x a b) ∧ o = []) := by
 have F := Fx.nil
 refine ent Tryd.func33 Tryd.ntmps33 Tryd.results33 ?_
 refine rK [1, 2, 3] ?_
 refine W.seqk fun K1 hK1 => ?_
 refine W.block ?_
 by_cases hs1 : inB x.lo a b = true
 ·
  replace F := F.add hs1
  by_cases hs2 : inB x.hi a b = true
  ·
   replace F := F.add hs2
   refine W.seqR ?_
   refine oN 4 ?_
   refine oC [] ?_
   refine ct (in_ok _ _ _) ?_
   refine oN 2 ?_
   refine gT ?_
   refine gT ?_
   refine gT ?_
   refine gT ?_
   refine gC [] ?_
   refine ct (in_ok _ _ _) ?_
   refine gT ?_
   refine oN 2 ?_
   refine oK [3, 7] ?_
   refine cF ?_
   refine rK [22] ?_
   refine it (fun hc2 => ?_) (fun hc2 => ?_)
   ·
    try simp at hc2
    replace F := F.add hc2
    refine rK [6] ?_
    refine W.ret ?_
    refine br (tr ?_)
    clear hK1 K1
    refine er false [] [] ?_
    simp_all [spanC]
   ·
    try simp at hc2
    replace F := F.add hc2
    refine W.skip ?_
    refine hK1 _ ?_
    clear hK1 K1
    refine rK [6] ?_
    refine W.ret ?_
    refine er false [] [] ?_
    simp_all [spanC]
  ·
   replace F := F.add hs2
   refine W.seqR ?_
   refine oN 4 ?_
   refine oC [] ?_
   refine ct (in_ok _ _ _) ?_
   refine oN 2 ?_
   refine gT ?_
   refine gT ?_
   refine gT ?_
   refine gT ?_
   refine gC [] ?_
   refine ct (in_ok _ _ _) ?_
   refine gT ?_
   refine oN 2 ?_
   refine oK [3, 7] ?_
   refine cT ?_
   refine rK [6] ?_
   refine W.ret ?_
   refine br (tr ?_)
   clear hK1 K1
   refine er false [] [] ?_
   simp_all [spanC]
 ·
  replace F := F.add hs1
  refine W.seqR ?_
  refine oN 4 ?_
  refine oC [] ?_
  refine ct (in_ok _ _ _) ?_
  refine oN 2 ?_
  refine gF ?_
  refine gF ?_
  refine gF ?_
  refine gF ?_
  refine gF ?_
  refine gF ?_
  refine oN 2 ?_
  refine oK [3, 7] ?_
  refine cT ?_
  refine rK [6] ?_
  refine W.ret ?_
  refine br (tr ?_)
  clear hK1 K1
  refine er false [] [] ?_
  simp_all [spanC]
set_option maxHeartbeats 4000000 in
theorem checkOff_ok (x : Spn) : ACalls Tryd.prog 28 [spnV x] [] (fun r o => r = I (spanC x (-10000) 10000) ∧ o = []) := by
 have F := Fx.nil
 refine ent Tryd.func28 Tryd.ntmps28 Tryd.results28 ?_
 refine rK [1] ?_
 refine W.seqR ?_
 refine oN 1 ?_
 refine oC [] ?_
 refine ct (checkSpan_ok ⟨_, _⟩ _ _) ?_
 refine oN 1 ?_
 refine oK [2] ?_
 refine W.ret ?_
 exact er0 false [] []
set_option maxHeartbeats 4000000 in
theorem chkM_ok (m : Mas) : ACalls Tryd.prog 26 [M3 m] [] (fun r o => r = I (masC m) ∧ o = []) := by
 have F := Fx.nil
 refine ent Tryd.func26 Tryd.ntmps26 Tryd.results26 ?_
 refine rK [1] ?_
 refine W.seqk fun K1 hK1 => ?_
 by_cases hs1 : inB m.nom 1 1000000 = true
 ·
  replace F := F.add hs1
  refine W.seqR ?_
  refine oN 2 ?_
  refine oC [] ?_
  refine ct (in_ok _ _ _) ?_
  refine oN 1 ?_
  refine oK [1, 6] ?_
  refine cF ?_
  refine W.skip ?_
  refine hK1 _ ?_
  clear hK1 K1
  refine W.seqR ?_
  refine oN 2 ?_
  refine oC [] ?_
  refine ct (checkOff_ok ⟨_, _⟩) ?_
  refine oN 1 ?_
  refine oK [2] ?_
  refine W.ret ?_
  refine er false [] [] ?_
  simp_all [masC]
 ·
  replace F := F.add hs1
  refine W.seqR ?_
  refine oN 2 ?_
  refine oC [] ?_
  refine ct (in_ok _ _ _) ?_
  refine oN 1 ?_
  refine oK [1, 6] ?_
  refine cT ?_
  refine rK [2] ?_
  refine W.ret ?_
  refine tr ?_
  clear hK1 K1
  refine er false [] [] ?_
  simp_all [masC]
set_option maxHeartbeats 4000000 in
theorem eachM_ok (l : List Mas) : ACalls Tryd.prog 25 [masV l, .clo 26 []] [] (fun r o => r = I (firstNZ masC l) ∧ o = []) := by
 refine ACalls.len (l := l.map M3) (by simp) ⟨_, Tryd.func25, by kernel_rfl, by kernel_rfl⟩ fun hl => ?_
 simp [maxLen_val] at hl
 have F := Fx.nil
 refine ent Tryd.func25 Tryd.ntmps25 Tryd.results25 ?_
 refine rK [0, 1] ?_
 refine W.seqk fun K1 hK1 => ?_
 refine rK [1, 8, 9, 10] ?_
 refine W.block ?_
 refine lpa (α := Nat) [1, 8, 9] [6, 16] [] (fun i => [(10, I i)]) (fun i => []) (fun i => i ≤ l.length ∧ firstNZ masC l = firstNZ masC (l.drop i)) (fun i => l.length - i) 0 v0 ?_
 ·
  intro i hI0
  simp only [List.cons_append, List.nil_append]
  try dsimp only at hI0
  obtain ⟨hi, hm1⟩ := hI0
  replace F := F.add hi
  refine rK [1, 8, 9, 10, 11] ?_
  refine W.seqk fun K2 hK2 => ?_
  refine it (fun hc1 => ?_) (fun hc1 => ?_)
  ·
   try simp at hc1
   replace F := F.add hc1
   refine W.skip ?_
   refine hK2 _ ?_
   clear hK2 K2
   refine W.seqk fun K3 hK3 => ?_
   refine W.block ?_
   have hil : i < l.length := by omega
   replace F := F.add hil
   refine rK [1, 6, 8, 9, 10] ?_
   refine W.seqR ?_
   refine oN 2 ?_
   refine oC [] ?_
   refine ct (chkM_ok l[i]) ?_
   refine oN 1 ?_
   refine oK [1, 7, 8, 9, 10] ?_
   refine rK [1, 7, 8, 9, 10, 18] ?_
   refine it (fun hc2 => ?_) (fun hc2 => ?_)
   ·
    try simp at hc2
    replace F := F.add hc2
    refine rK [4] ?_
    refine W.ret ?_
    refine br (tr (tr (br (tr ?_))))
    clear hK3 K3 hK1 K1
    refine er false [] [] ?_
    first
    | (exfalso; omega)
    | exact ⟨congrArg I (by rw [hm1]; exact (firstNZ_hit (by omega) (by assumption)).symm), rfl⟩
    | exact ⟨congrArg I (by rw [hm1]; exact (firstNZ_done (by omega)).symm), rfl⟩
   ·
    try simp at hc2
    replace F := F.add hc2
    refine W.skip ?_
    refine hK3 _ ?_
    clear hK3 K3
    refine rEw ?_
    refine ⟨i + 1, lf0, ?_, v0⟩
    ·
     exact ⟨by omega, by rw [hm1, firstNZ_skip (f := masC) (by omega) (by assumption)]⟩
  ·
   try simp at hc1
   replace F := F.add hc1
   refine W.exit ?_
   refine hK1 _ ?_
   clear hK2 K2 hK1 K1
   refine rK [4] ?_
   refine W.ret ?_
   refine er false [] [] ?_
   first
   | (exfalso; omega)
   | exact ⟨congrArg I (by rw [hm1]; exact (firstNZ_hit (by omega) (by assumption)).symm), rfl⟩
   | exact ⟨congrArg I (by rw [hm1]; exact (firstNZ_done (by omega)).symm), rfl⟩
abbrev bx (b : Ben) : Obj := .row false 27 5 [benV b]
set_option maxHeartbeats 4000000 in
theorem chkW_ok (b : Ben) (w : Wei) (hlm : b.mas.length ≤ 1000) : ACalls Tryd.prog 32 [W4 w, .ptr 10000 0 0] [(10000, bx b)] (fun r o => r = I (weiC b.mas.length w) ∧ o = [(10000, bx b)]) := by
 have F := Fx.nil
 replace F := F.add hlm
 refine ent Tryd.func32 Tryd.ntmps32 Tryd.results32 ?_
 refine rK [1, 2] ?_
 refine W.seqk fun K1 hK1 => ?_
 refine W.block ?_
 by_cases hs1 : inB w.a 0 ((b.mas.length : Int) - 1) = true
 ·
  replace F := F.add hs1
  by_cases hs2 : inB w.b 0 ((b.mas.length : Int) - 1) = true
  ·
   replace F := F.add hs2
   refine W.seqR ?_
   refine oNw 6 ?_
   refine oC [] ?_
   refine ct (in_ok _ _ _) ?_
   refine oN 2 ?_
   refine gT ?_
   refine gT ?_
   refine gT ?_
   refine gT ?_
   refine gT ?_
   refine gTw ?_
   refine gC [] ?_
   refine ct (in_ok _ _ _) ?_
   refine gT ?_
   refine oN 2 ?_
   refine oK [2, 4] ?_
   refine cF ?_
   refine rK [2, 23] ?_
   refine it (fun hc2 => ?_) (fun hc2 => ?_)
   ·
    try simp at hc2
    replace F := F.add hc2
    refine rK [3] ?_
    refine W.ret ?_
    refine br (tr ?_)
    clear hK1 K1
    refine er false [] [(10000, 10000)] ?_
    simp_all [weiC]
   ·
    try simp at hc2
    replace F := F.add hc2
    refine W.skip ?_
    refine hK1 _ ?_
    clear hK1 K1
    refine W.seqR ?_
    refine oN 2 ?_
    refine oC [] ?_
    refine ct (checkSpan_ok ⟨_, _⟩ _ _) ?_
    refine oN 1 ?_
    refine oK [3] ?_
    refine W.ret ?_
    refine er false [] [(10000, 10000)] ?_
    simp_all [weiC]
  ·
   replace F := F.add hs2
   refine W.seqR ?_
   refine oNw 6 ?_
   refine oC [] ?_
   refine ct (in_ok _ _ _) ?_
   refine oN 2 ?_
   refine gT ?_
   refine gT ?_
   refine gT ?_
   refine gT ?_
   refine gT ?_
   refine gTw ?_
   refine gC [] ?_
   refine ct (in_ok _ _ _) ?_
   refine gT ?_
   refine oN 2 ?_
   refine oK [2, 4] ?_
   refine cT ?_
   refine rK [3] ?_
   refine W.ret ?_
   refine br (tr ?_)
   clear hK1 K1
   refine er false [] [(10000, 10000)] ?_
   simp_all [weiC]
 ·
  replace F := F.add hs1
  refine W.seqR ?_
  refine oNw 6 ?_
  refine oC [] ?_
  refine ct (in_ok _ _ _) ?_
  refine oN 2 ?_
  refine gF ?_
  refine gF ?_
  refine gF ?_
  refine gF ?_
  refine gF ?_
  refine gF ?_
  refine gF ?_
  refine gF ?_
  refine oN 2 ?_
  refine oK [2, 4] ?_
  refine cT ?_
  refine rK [3] ?_
  refine W.ret ?_
  refine br (tr ?_)
  clear hK1 K1
  refine er false [] [(10000, 10000)] ?_
  simp_all [weiC]
set_option maxHeartbeats 4000000 in
theorem chkS1_ok (s : Scl) : ACalls Tryd.prog 38 [.ptr 10000 0 0] [(10000, .row false 65 4 [C4 s])] (fun r o => r = I (spanC s.fst (-10000) 10000) ∧ o = [(10000, .row false 65 4 [C4 s])]) := by
 have F := Fx.nil
 refine ent Tryd.func38 Tryd.ntmps38 Tryd.results38 ?_
 refine rK [0] ?_
 refine W.seqR ?_
 refine oN 2 ?_
 refine oC [] ?_
 refine ct (checkOff_ok ⟨_, _⟩) ?_
 refine oN 1 ?_
 refine oK [1] ?_
 refine W.ret ?_
 exact er0 false [] [(10000, 10000)]
set_option maxHeartbeats 4000000 in
theorem chkS2_ok (s : Scl) : ACalls Tryd.prog 39 [.ptr 10000 0 0] [(10000, .row false 65 4 [C4 s])] (fun r o => r = I (spanC s.dri (-10000) 10000) ∧ o = [(10000, .row false 65 4 [C4 s])]) := by
 have F := Fx.nil
 refine ent Tryd.func39 Tryd.ntmps39 Tryd.results39 ?_
 refine rK [0] ?_
 refine W.seqR ?_
 refine oN 2 ?_
 refine oC [] ?_
 refine ct (checkOff_ok ⟨_, _⟩) ?_
 refine oN 1 ?_
 refine oK [1] ?_
 refine W.ret ?_
 exact er0 false [] [(10000, 10000)]
set_option maxHeartbeats 4000000 in
theorem firstS_ok (s : Scl) (fs : List Nat) (res : Nat → Int) (hfs : ∀ f ∈ fs, ACalls Tryd.prog f [.ptr 10000 0 0] [(10000, .row false 65 4 [C4 s])] (fun r o => r = I (res f) ∧ o = [(10000, .row false 65 4 [C4 s])])) (hf8 : fs.length ≤ 8) : ACalls Tryd.prog 21 [.own 10000 0 fs.length] [(10000, .row false 70 1 (fs.map fun f => .clo f [.ptr 10001 0 0])), (10001, .row false 65 4 [C4 s])] (fun r o => r = I (firstNZ res fs) ∧ o = [(10000, .row false 70 1 (fs.map fun f => .clo f [.ptr 10001 0 0])), (10001, .row false 65 4 [C4 s])]) := by
 have F := Fx.nil
 refine ent Tryd.func21 Tryd.ntmps21 Tryd.results21 ?_
 refine rK [0] ?_
 refine W.seqk fun K1 hK1 => ?_
 refine rK [6, 7, 8] ?_
 refine W.block ?_
 refine lpa (α := Nat) [6, 7] [13] [] (fun i => [(8, I i)]) (fun i => []) (fun i => i ≤ fs.length ∧ firstNZ res fs = firstNZ res (fs.drop i)) (fun i => fs.length - i) 0 v0 ?_
 ·
  intro i hI0
  simp only [List.cons_append, List.nil_append]
  try dsimp only at hI0
  obtain ⟨hi, hm1⟩ := hI0
  replace F := F.add hi
  refine rK [6, 7, 8, 9] ?_
  refine W.seqk fun K2 hK2 => ?_
  refine it (fun hc1 => ?_) (fun hc1 => ?_)
  ·
   try simp at hc1
   replace F := F.add hc1
   refine W.skip ?_
   refine hK2 _ ?_
   clear hK2 K2
   refine W.seqk fun K3 hK3 => ?_
   refine W.block ?_
   have hil : i < fs.length := by omega
   replace F := F.add hil
   refine rK [4, 6, 7, 8] ?_
   refine W.seqR ?_
   refine oN 1 ?_
   refine oC [(10000, 10001)] ?_
   refine ct ((hfs fs[i] (List.getElem_mem hil))) ?_
   refine oN 1 ?_
   refine oK [5, 6, 7, 8] ?_
   refine rK [5, 6, 7, 8, 15] ?_
   refine it (fun hc2 => ?_) (fun hc2 => ?_)
   ·
    try simp at hc2
    replace F := F.add hc2
    refine rK [2] ?_
    refine W.ret ?_
    refine br (tr (tr (br (tr ?_))))
    clear hK3 K3 hK1 K1
    refine er false [] [(10000, 10000), (10001, 10001)] ?_
    first
    | (exfalso; omega)
    | exact ⟨congrArg I (by rw [hm1]; exact (firstNZ_hit (by omega) (by assumption)).symm), rfl⟩
    | exact ⟨congrArg I (by rw [hm1]; exact (firstNZ_done (by omega)).symm), rfl⟩
   ·
    try simp at hc2
    replace F := F.add hc2
    refine W.skip ?_
    refine hK3 _ ?_
    clear hK3 K3
    refine rEw ?_
    refine ⟨i + 1, lf0, ?_, v0⟩
    ·
     exact ⟨by omega, by rw [hm1, firstNZ_skip (f := res) (by omega) (by assumption)]⟩
  ·
   try simp at hc1
   replace F := F.add hc1
   refine W.exit ?_
   refine hK1 _ ?_
   clear hK2 K2 hK1 K1
   refine rK [2] ?_
   refine W.ret ?_
   refine er false [] [(10000, 10000), (10001, 10001)] ?_
   first
   | (exfalso; omega)
   | exact ⟨congrArg I (by rw [hm1]; exact (firstNZ_hit (by omega) (by assumption)).symm), rfl⟩
   | exact ⟨congrArg I (by rw [hm1]; exact (firstNZ_done (by omega)).symm), rfl⟩
set_option maxHeartbeats 4000000 in
theorem chkS_ok (s : Scl) : ACalls Tryd.prog 37 [C4 s] [] (fun r o => r = I (sclC s) ∧ o = []) := by
 have F := Fx.nil
 refine ent Tryd.func37 Tryd.ntmps37 Tryd.results37 ?_
 obtain ⟨res, qres⟩ : ∃ res : Nat → Int, res = fun f => if f = 38 then spanC s.fst (-10000) 10000 else spanC s.dri (-10000) 10000 := ⟨_, rfl⟩
 have qf : ∀ f ∈ [38, 39], ACalls Tryd.prog f [.ptr 10000 0 0] [(10000, .row false 65 4 [C4 s])] (fun r o => r = I (res f) ∧ o = [(10000, .row false 65 4 [C4 s])]) := by
   intro f hf
   rw [qres]
   simp only [List.mem_cons, List.not_mem_nil, or_false] at hf
   rcases hf with rfl | rfl
   · exact chkS1_ok s
   · exact chkS2_ok s
 have qr : firstNZ res [38, 39] = sclC s := by
   rw [qres]; unfold firstNZ firstNZ firstNZ sclC
   by_cases h1 : spanC s.fst (-10000) 10000 = 0 <;> by_cases h2 : spanC s.dri (-10000) 10000 = 0 <;> simp [h1, h2]
 have qC := firstS_ok s [38, 39] res qf (by decide)
 rw [qr] at qC
 refine rK [1] ?_
 refine W.seqR ?_
 refine oN 2 ?_
 refine WOps.rawL hΓ 40 rfl rfl rfl rfl rfl rfl rfl (by simp; all_goals first | rfl | exact ⟨rfl, rfl⟩) rfl rfl (by decide) (by simp; all_goals first | rfl | exact ⟨rfl, rfl⟩) rfl (by simp; all_goals first | rfl | exact ⟨rfl, rfl⟩) ?_
 refine oC [(10000, 40), (10001, 8)] ?_
 refine ct (qC) ?_
 refine oN 1 ?_
 refine oK [2] ?_
 refine W.ret ?_
 exact er0 false [] []
set_option maxHeartbeats 4000000 in
theorem eachW_ok (b : Ben) (hlm : b.mas.length ≤ 1000) (l : List Wei) : ACalls Tryd.prog 31 [weiV l, .clo 32 [.ptr 10000 0 0]] [(10000, bx b)] (fun r o => r = I (firstNZ (weiC b.mas.length) l) ∧ o = [(10000, bx b)]) := by
 refine ACalls.len (l := l.map W4) (by simp) ⟨_, Tryd.func31, by kernel_rfl, by kernel_rfl⟩ fun hl => ?_
 simp [maxLen_val] at hl
 have F := Fx.nil
 refine ent Tryd.func31 Tryd.ntmps31 Tryd.results31 ?_
 refine rK [0, 1] ?_
 refine W.seqk fun K1 hK1 => ?_
 refine rK [1, 8, 9, 10] ?_
 refine W.block ?_
 refine lpa (α := Nat) [1, 8, 9] [6, 16] [] (fun i => [(10, I i)]) (fun i => []) (fun i => i ≤ l.length ∧ firstNZ (weiC b.mas.length) l = firstNZ (weiC b.mas.length) (l.drop i)) (fun i => l.length - i) 0 v0 ?_
 ·
  intro i hI0
  simp only [List.cons_append, List.nil_append]
  try dsimp only at hI0
  obtain ⟨hi, hm1⟩ := hI0
  replace F := F.add hi
  refine rK [1, 8, 9, 10, 11] ?_
  refine W.seqk fun K2 hK2 => ?_
  refine it (fun hc1 => ?_) (fun hc1 => ?_)
  ·
   try simp at hc1
   replace F := F.add hc1
   refine W.skip ?_
   refine hK2 _ ?_
   clear hK2 K2
   refine W.seqk fun K3 hK3 => ?_
   refine W.block ?_
   have hil : i < l.length := by omega
   replace F := F.add hil
   refine rK [1, 6, 8, 9, 10] ?_
   refine W.seqR ?_
   refine oN 2 ?_
   refine oC [(10000, 10000)] ?_
   refine ct (chkW_ok b l[i] hlm) ?_
   refine oN 1 ?_
   refine oK [1, 7, 8, 9, 10] ?_
   refine rK [1, 7, 8, 9, 10, 18] ?_
   refine it (fun hc2 => ?_) (fun hc2 => ?_)
   ·
    try simp at hc2
    replace F := F.add hc2
    refine rK [4] ?_
    refine W.ret ?_
    refine br (tr (tr (br (tr ?_))))
    clear hK3 K3 hK1 K1
    refine er false [] [(10000, 10000)] ?_
    first
    | (exfalso; omega)
    | exact ⟨congrArg I (by rw [hm1]; exact (firstNZ_hit (by omega) (by assumption)).symm), rfl⟩
    | exact ⟨congrArg I (by rw [hm1]; exact (firstNZ_done (by omega)).symm), rfl⟩
   ·
    try simp at hc2
    replace F := F.add hc2
    refine W.skip ?_
    refine hK3 _ ?_
    clear hK3 K3
    refine rEw ?_
    refine ⟨i + 1, lf0, ?_, v0⟩
    ·
     exact ⟨by omega, by rw [hm1, firstNZ_skip (f := (weiC b.mas.length)) (by omega) (by assumption)]⟩
  ·
   try simp at hc1
   replace F := F.add hc1
   refine W.exit ?_
   refine hK1 _ ?_
   clear hK2 K2 hK1 K1
   refine rK [4] ?_
   refine W.ret ?_
   refine er false [] [(10000, 10000)] ?_
   first
   | (exfalso; omega)
   | exact ⟨congrArg I (by rw [hm1]; exact (firstNZ_hit (by omega) (by assumption)).symm), rfl⟩
   | exact ⟨congrArg I (by rw [hm1]; exact (firstNZ_done (by omega)).symm), rfl⟩
set_option maxHeartbeats 4000000 in
theorem eachS_ok (l : List Scl) : ACalls Tryd.prog 36 [sclV l, .clo 37 []] [] (fun r o => r = I (firstNZ sclC l) ∧ o = []) := by
 refine ACalls.len (l := l.map C4) (by simp) ⟨_, Tryd.func36, by kernel_rfl, by kernel_rfl⟩ fun hl => ?_
 simp [maxLen_val] at hl
 have F := Fx.nil
 refine ent Tryd.func36 Tryd.ntmps36 Tryd.results36 ?_
 refine rK [0, 1] ?_
 refine W.seqk fun K1 hK1 => ?_
 refine rK [1, 8, 9, 10] ?_
 refine W.block ?_
 refine lpa (α := Nat) [1, 8, 9] [6, 16] [] (fun i => [(10, I i)]) (fun i => []) (fun i => i ≤ l.length ∧ firstNZ sclC l = firstNZ sclC (l.drop i)) (fun i => l.length - i) 0 v0 ?_
 ·
  intro i hI0
  simp only [List.cons_append, List.nil_append]
  try dsimp only at hI0
  obtain ⟨hi, hm1⟩ := hI0
  replace F := F.add hi
  refine rK [1, 8, 9, 10, 11] ?_
  refine W.seqk fun K2 hK2 => ?_
  refine it (fun hc1 => ?_) (fun hc1 => ?_)
  ·
   try simp at hc1
   replace F := F.add hc1
   refine W.skip ?_
   refine hK2 _ ?_
   clear hK2 K2
   refine W.seqk fun K3 hK3 => ?_
   refine W.block ?_
   have hil : i < l.length := by omega
   replace F := F.add hil
   refine rK [1, 6, 8, 9, 10] ?_
   refine W.seqR ?_
   refine oN 2 ?_
   refine oC [] ?_
   refine ct (chkS_ok l[i]) ?_
   refine oN 1 ?_
   refine oK [1, 7, 8, 9, 10] ?_
   refine rK [1, 7, 8, 9, 10, 18] ?_
   refine it (fun hc2 => ?_) (fun hc2 => ?_)
   ·
    try simp at hc2
    replace F := F.add hc2
    refine rK [4] ?_
    refine W.ret ?_
    refine br (tr (tr (br (tr ?_))))
    clear hK3 K3 hK1 K1
    refine er false [] [] ?_
    first
    | (exfalso; omega)
    | exact ⟨congrArg I (by rw [hm1]; exact (firstNZ_hit (by omega) (by assumption)).symm), rfl⟩
    | exact ⟨congrArg I (by rw [hm1]; exact (firstNZ_done (by omega)).symm), rfl⟩
   ·
    try simp at hc2
    replace F := F.add hc2
    refine W.skip ?_
    refine hK3 _ ?_
    clear hK3 K3
    refine rEw ?_
    refine ⟨i + 1, lf0, ?_, v0⟩
    ·
     exact ⟨by omega, by rw [hm1, firstNZ_skip (f := sclC) (by omega) (by assumption)]⟩
  ·
   try simp at hc1
   replace F := F.add hc1
   refine W.exit ?_
   refine hK1 _ ?_
   clear hK2 K2 hK1 K1
   refine rK [4] ?_
   refine W.ret ?_
   refine er false [] [] ?_
   first
   | (exfalso; omega)
   | exact ⟨congrArg I (by rw [hm1]; exact (firstNZ_hit (by omega) (by assumption)).symm), rfl⟩
   | exact ⟨congrArg I (by rw [hm1]; exact (firstNZ_done (by omega)).symm), rfl⟩
set_option maxHeartbeats 4000000 in
theorem chkT_ok (b : Ben) (t : Tri) (hlm : b.mas.length ≤ 1000) (hls : b.scl.length ≤ 1000) : ACalls Tryd.prog 43 [R4 t, .ptr 10000 0 0] [(10000, bx b)] (fun r o => r = I (triC b.scl.length b.mas.length b.days t) ∧ o = [(10000, bx b)]) := by
 have F := Fx.nil
 replace F := F.add hlm |>.add hls
 refine ent Tryd.func43 Tryd.ntmps43 Tryd.results43 ?_
 refine rK [1, 2] ?_
 refine W.seqk fun K1 hK1 => ?_
 refine W.block ?_
 by_cases hs1 : inB t.sc 0 ((b.scl.length : Int) - 1) = true
 ·
  replace F := F.add hs1
  by_cases hs2 : inB t.ms 0 ((b.mas.length : Int) - 1) = true
  ·
   replace F := F.add hs2
   refine W.seqR ?_
   refine oNw 6 ?_
   refine oC [] ?_
   refine ct (in_ok _ _ _) ?_
   refine oN 2 ?_
   refine gT ?_
   refine gT ?_
   refine gT ?_
   refine gT ?_
   refine gT ?_
   refine gTw ?_
   refine gC [] ?_
   refine ct (in_ok _ _ _) ?_
   refine gT ?_
   refine oN 2 ?_
   refine oK [1, 2, 4] ?_
   refine cF ?_
   by_cases hs3 : inB t.day 0 b.days = true
   ·
    replace F := F.add hs3
    by_cases hs4 : inB t.sh 0 2000000 = true
    ·
     replace F := F.add hs4
     refine W.seqR ?_
     refine oN 4 ?_
     refine oC [] ?_
     refine ct (in_ok _ _ _) ?_
     refine oN 2 ?_
     refine gT ?_
     refine gT ?_
     refine gC [] ?_
     refine ct (in_ok _ _ _) ?_
     refine gT ?_
     refine oN 2 ?_
     refine oK [23] ?_
     refine cF ?_
     refine W.skip ?_
     refine hK1 _ ?_
     clear hK1 K1
     refine rK [3] ?_
     refine W.ret ?_
     refine er false [] [(10000, 10000)] ?_
     simp_all [triC]
    ·
     replace F := F.add hs4
     refine W.seqR ?_
     refine oN 4 ?_
     refine oC [] ?_
     refine ct (in_ok _ _ _) ?_
     refine oN 2 ?_
     refine gT ?_
     refine gT ?_
     refine gC [] ?_
     refine ct (in_ok _ _ _) ?_
     refine gT ?_
     refine oN 2 ?_
     refine oK [23] ?_
     refine cT ?_
     refine rK [3] ?_
     refine W.ret ?_
     refine br (tr ?_)
     clear hK1 K1
     refine er false [] [(10000, 10000)] ?_
     simp_all [triC]
   ·
    replace F := F.add hs3
    refine W.seqR ?_
    refine oN 4 ?_
    refine oC [] ?_
    refine ct (in_ok _ _ _) ?_
    refine oN 2 ?_
    refine gF ?_
    refine gF ?_
    refine gF ?_
    refine gF ?_
    refine oN 2 ?_
    refine oK [23] ?_
    refine cT ?_
    refine rK [3] ?_
    refine W.ret ?_
    refine br (tr ?_)
    clear hK1 K1
    refine er false [] [(10000, 10000)] ?_
    simp_all [triC]
  ·
   replace F := F.add hs2
   refine W.seqR ?_
   refine oNw 6 ?_
   refine oC [] ?_
   refine ct (in_ok _ _ _) ?_
   refine oN 2 ?_
   refine gT ?_
   refine gT ?_
   refine gT ?_
   refine gT ?_
   refine gT ?_
   refine gTw ?_
   refine gC [] ?_
   refine ct (in_ok _ _ _) ?_
   refine gT ?_
   refine oN 2 ?_
   refine oK [1, 2, 4] ?_
   refine cT ?_
   refine rK [3] ?_
   refine W.ret ?_
   refine br (tr ?_)
   clear hK1 K1
   refine er false [] [(10000, 10000)] ?_
   simp_all [triC]
 ·
  replace F := F.add hs1
  refine W.seqR ?_
  refine oNw 6 ?_
  refine oC [] ?_
  refine ct (in_ok _ _ _) ?_
  refine oN 2 ?_
  refine gF ?_
  refine gF ?_
  refine gF ?_
  refine gF ?_
  refine gF ?_
  refine gF ?_
  refine gF ?_
  refine gF ?_
  refine oN 2 ?_
  refine oK [1, 2, 4] ?_
  refine cT ?_
  refine rK [3] ?_
  refine W.ret ?_
  refine br (tr ?_)
  clear hK1 K1
  refine er false [] [(10000, 10000)] ?_
  simp_all [triC]
set_option maxHeartbeats 4000000 in
theorem eachT_ok (b : Ben) (hlm : b.mas.length ≤ 1000) (hls : b.scl.length ≤ 1000) (l : List Tri) : ACalls Tryd.prog 42 [triV l, .clo 43 [.ptr 10000 0 0]] [(10000, bx b)] (fun r o => r = I (firstNZ (triC b.scl.length b.mas.length b.days) l) ∧ o = [(10000, bx b)]) := by
 refine ACalls.len (l := l.map R4) (by simp) ⟨_, Tryd.func42, by kernel_rfl, by kernel_rfl⟩ fun hl => ?_
 simp [maxLen_val] at hl
 have F := Fx.nil
 refine ent Tryd.func42 Tryd.ntmps42 Tryd.results42 ?_
 refine rK [0, 1] ?_
 refine W.seqk fun K1 hK1 => ?_
 refine rK [1, 8, 9, 10] ?_
 refine W.block ?_
 refine lpa (α := Nat) [1, 8, 9] [6, 16] [] (fun i => [(10, I i)]) (fun i => []) (fun i => i ≤ l.length ∧ firstNZ (triC b.scl.length b.mas.length b.days) l = firstNZ (triC b.scl.length b.mas.length b.days) (l.drop i)) (fun i => l.length - i) 0 v0 ?_
 ·
  intro i hI0
  simp only [List.cons_append, List.nil_append]
  try dsimp only at hI0
  obtain ⟨hi, hm1⟩ := hI0
  replace F := F.add hi
  refine rK [1, 8, 9, 10, 11] ?_
  refine W.seqk fun K2 hK2 => ?_
  refine it (fun hc1 => ?_) (fun hc1 => ?_)
  ·
   try simp at hc1
   replace F := F.add hc1
   refine W.skip ?_
   refine hK2 _ ?_
   clear hK2 K2
   refine W.seqk fun K3 hK3 => ?_
   refine W.block ?_
   have hil : i < l.length := by omega
   replace F := F.add hil
   refine rK [1, 6, 8, 9, 10] ?_
   refine W.seqR ?_
   refine oN 2 ?_
   refine oC [(10000, 10000)] ?_
   refine ct (chkT_ok b l[i] hlm hls) ?_
   refine oN 1 ?_
   refine oK [1, 7, 8, 9, 10] ?_
   refine rK [1, 7, 8, 9, 10, 18] ?_
   refine it (fun hc2 => ?_) (fun hc2 => ?_)
   ·
    try simp at hc2
    replace F := F.add hc2
    refine rK [4] ?_
    refine W.ret ?_
    refine br (tr (tr (br (tr ?_))))
    clear hK3 K3 hK1 K1
    refine er false [] [(10000, 10000)] ?_
    first
    | (exfalso; omega)
    | exact ⟨congrArg I (by rw [hm1]; exact (firstNZ_hit (by omega) (by assumption)).symm), rfl⟩
    | exact ⟨congrArg I (by rw [hm1]; exact (firstNZ_done (by omega)).symm), rfl⟩
   ·
    try simp at hc2
    replace F := F.add hc2
    refine W.skip ?_
    refine hK3 _ ?_
    clear hK3 K3
    refine rEw ?_
    refine ⟨i + 1, lf0, ?_, v0⟩
    ·
     exact ⟨by omega, by rw [hm1, firstNZ_skip (f := (triC b.scl.length b.mas.length b.days)) (by omega) (by assumption)]⟩
  ·
   try simp at hc1
   replace F := F.add hc1
   refine W.exit ?_
   refine hK1 _ ?_
   clear hK2 K2 hK1 K1
   refine rK [4] ?_
   refine W.ret ?_
   refine er false [] [(10000, 10000)] ?_
   first
   | (exfalso; omega)
   | exact ⟨congrArg I (by rw [hm1]; exact (firstNZ_hit (by omega) (by assumption)).symm), rfl⟩
   | exact ⟨congrArg I (by rw [hm1]; exact (firstNZ_done (by omega)).symm), rfl⟩
set_option maxHeartbeats 4000000 in
theorem chk1_ok (b : Ben) : ACalls Tryd.prog 22 [.ptr 10000 0 0] [(10000, bx b)] (fun r o => r = I (manyC b.mas.length 5) ∧ o = [(10000, bx b)]) := by
 have F := Fx.nil
 refine ent Tryd.func22 Tryd.ntmps22 Tryd.results22 ?_
 refine rK [0] ?_
 refine W.seqR ?_
 refine oN 3 ?_
 refine oC [] ?_
 refine ct (many_ok _ _) ?_
 refine oN 1 ?_
 refine oK [1] ?_
 refine W.ret ?_
 exact er0 false [] [(10000, 10000)]
set_option maxHeartbeats 4000000 in
theorem chk2_ok (b : Ben) : ACalls Tryd.prog 24 [.ptr 10000 0 0] [(10000, bx b)] (fun r o => r = I (firstNZ masC b.mas) ∧ o = [(10000, bx b)]) := by
 have F := Fx.nil
 refine ent Tryd.func24 Tryd.ntmps24 Tryd.results24 ?_
 refine rK [0] ?_
 refine W.seqR ?_
 refine oN 2 ?_
 refine oC [] ?_
 refine ct (eachM_ok b.mas) ?_
 refine oN 1 ?_
 refine oK [1] ?_
 refine W.ret ?_
 exact er0 false [] [(10000, 10000)]
set_option maxHeartbeats 4000000 in
theorem chk3_ok (b : Ben) (hlw : b.wei.length ≤ 1000) : ACalls Tryd.prog 29 [.ptr 10000 0 0] [(10000, bx b)] (fun r o => r = I (manyC (1 + b.wei.length) 7) ∧ o = [(10000, bx b)]) := by
 have F := Fx.nil
 replace F := F.add hlw
 refine ent Tryd.func29 Tryd.ntmps29 Tryd.results29 ?_
 refine rK [0] ?_
 refine W.seqR ?_
 refine oNw 4 ?_
 refine oC [] ?_
 refine ct (many_ok _ _) ?_
 refine oN 1 ?_
 refine oK [1] ?_
 refine W.ret ?_
 exact er0 false [] [(10000, 10000)]
set_option maxHeartbeats 4000000 in
theorem chk4_ok (b : Ben) (hlm : b.mas.length ≤ 1000) : ACalls Tryd.prog 30 [.ptr 10000 0 0] [(10000, bx b)] (fun r o => r = I (firstNZ (weiC b.mas.length) b.wei) ∧ o = [(10000, bx b)]) := by
 have F := Fx.nil
 refine ent Tryd.func30 Tryd.ntmps30 Tryd.results30 ?_
 refine rK [0] ?_
 refine W.seqR ?_
 refine oN 3 ?_
 refine oC [(10000, 10000)] ?_
 refine ct (eachW_ok b hlm b.wei) ?_
 refine oN 1 ?_
 refine oK [1] ?_
 refine W.ret ?_
 exact er0 false [] [(10000, 10000)]
set_option maxHeartbeats 4000000 in
theorem chk5_ok (b : Ben) : ACalls Tryd.prog 34 [.ptr 10000 0 0] [(10000, bx b)] (fun r o => r = I (manyC b.scl.length 3) ∧ o = [(10000, bx b)]) := by
 have F := Fx.nil
 refine ent Tryd.func34 Tryd.ntmps34 Tryd.results34 ?_
 refine rK [0] ?_
 refine W.seqR ?_
 refine oN 3 ?_
 refine oC [] ?_
 refine ct (many_ok _ _) ?_
 refine oN 1 ?_
 refine oK [1] ?_
 refine W.ret ?_
 exact er0 false [] [(10000, 10000)]
set_option maxHeartbeats 4000000 in
theorem chk6_ok (b : Ben) : ACalls Tryd.prog 35 [.ptr 10000 0 0] [(10000, bx b)] (fun r o => r = I (firstNZ sclC b.scl) ∧ o = [(10000, bx b)]) := by
 have F := Fx.nil
 refine ent Tryd.func35 Tryd.ntmps35 Tryd.results35 ?_
 refine rK [0] ?_
 refine W.seqR ?_
 refine oN 2 ?_
 refine oC [] ?_
 refine ct (eachS_ok b.scl) ?_
 refine oN 1 ?_
 refine oK [1] ?_
 refine W.ret ?_
 exact er0 false [] [(10000, 10000)]
set_option maxHeartbeats 4000000 in
theorem chk7_ok (b : Ben) (hlt : b.tri.length ≤ 1000) : ACalls Tryd.prog 40 [.ptr 10000 0 0] [(10000, bx b)] (fun r o => r = I (daysC b) ∧ o = [(10000, bx b)]) := by
 have F := Fx.nil
 replace F := F.add hlt
 refine ent Tryd.func40 Tryd.ntmps40 Tryd.results40 ?_
 refine rK [0] ?_
 refine W.seqk fun K1 hK1 => ?_
 by_cases hs1 : inB b.days 0 8 = true
 ·
  replace F := F.add hs1
  refine W.seqR ?_
  refine oN 2 ?_
  refine oC [] ?_
  refine ct (in_ok _ _ _) ?_
  refine oN 1 ?_
  refine oK [0, 5] ?_
  refine cF ?_
  refine W.skip ?_
  refine hK1 _ ?_
  clear hK1 K1
  refine W.seqR ?_
  refine oNw 4 ?_
  refine oC [] ?_
  refine ct (many_ok _ _) ?_
  refine oN 1 ?_
  refine oK [1] ?_
  refine W.ret ?_
  refine er false [] [(10000, 10000)] ?_
  simp_all [daysC]
 ·
  replace F := F.add hs1
  refine W.seqR ?_
  refine oN 2 ?_
  refine oC [] ?_
  refine ct (in_ok _ _ _) ?_
  refine oN 1 ?_
  refine oK [0, 5] ?_
  refine cT ?_
  refine rK [1] ?_
  refine W.ret ?_
  refine tr ?_
  clear hK1 K1
  refine er false [] [(10000, 10000)] ?_
  simp_all [daysC]
set_option maxHeartbeats 4000000 in
theorem chk8_ok (b : Ben) (hlm : b.mas.length ≤ 1000) (hls : b.scl.length ≤ 1000) : ACalls Tryd.prog 41 [.ptr 10000 0 0] [(10000, bx b)] (fun r o => r = I (firstNZ (triC b.scl.length b.mas.length b.days) b.tri) ∧ o = [(10000, bx b)]) := by
 have F := Fx.nil
 refine ent Tryd.func41 Tryd.ntmps41 Tryd.results41 ?_
 refine rK [0] ?_
 refine W.seqR ?_
 refine oN 3 ?_
 refine oC [(10000, 10000)] ?_
 refine ct (eachT_ok b hlm hls b.tri) ?_
 refine oN 1 ?_
 refine oK [1] ?_
 refine W.ret ?_
 exact er0 false [] [(10000, 10000)]
set_option maxHeartbeats 4000000 in
theorem firstB_ok (b : Ben) (fs : List Nat) (res : Nat → Int) (hfs : ∀ f ∈ fs, ACalls Tryd.prog f [.ptr 10000 0 0] [(10000, bx b)] (fun r o => r = I (res f) ∧ o = [(10000, bx b)])) (hf8 : fs.length ≤ 8) : ACalls Tryd.prog 21 [.own 10000 0 fs.length] [(10000, .row false 70 1 (fs.map fun f => .clo f [.ptr 10001 0 0])), (10001, bx b)] (fun r o => r = I (firstNZ res fs) ∧ o = [(10000, .row false 70 1 (fs.map fun f => .clo f [.ptr 10001 0 0])), (10001, bx b)]) := by
 have F := Fx.nil
 refine ent Tryd.func21 Tryd.ntmps21 Tryd.results21 ?_
 refine rK [0] ?_
 refine W.seqk fun K1 hK1 => ?_
 refine rK [6, 7, 8] ?_
 refine W.block ?_
 refine lpa (α := Nat) [6, 7] [13] [] (fun i => [(8, I i)]) (fun i => []) (fun i => i ≤ fs.length ∧ firstNZ res fs = firstNZ res (fs.drop i)) (fun i => fs.length - i) 0 v0 ?_
 ·
  intro i hI0
  simp only [List.cons_append, List.nil_append]
  try dsimp only at hI0
  obtain ⟨hi, hm1⟩ := hI0
  replace F := F.add hi
  refine rK [6, 7, 8, 9] ?_
  refine W.seqk fun K2 hK2 => ?_
  refine it (fun hc1 => ?_) (fun hc1 => ?_)
  ·
   try simp at hc1
   replace F := F.add hc1
   refine W.skip ?_
   refine hK2 _ ?_
   clear hK2 K2
   refine W.seqk fun K3 hK3 => ?_
   refine W.block ?_
   have hil : i < fs.length := by omega
   replace F := F.add hil
   refine rK [4, 6, 7, 8] ?_
   refine W.seqR ?_
   refine oN 1 ?_
   refine oC [(10000, 10001)] ?_
   refine ct ((hfs fs[i] (List.getElem_mem hil))) ?_
   refine oN 1 ?_
   refine oK [5, 6, 7, 8] ?_
   refine rK [5, 6, 7, 8, 15] ?_
   refine it (fun hc2 => ?_) (fun hc2 => ?_)
   ·
    try simp at hc2
    replace F := F.add hc2
    refine rK [2] ?_
    refine W.ret ?_
    refine br (tr (tr (br (tr ?_))))
    clear hK3 K3 hK1 K1
    refine er false [] [(10000, 10000), (10001, 10001)] ?_
    first
    | (exfalso; omega)
    | exact ⟨congrArg I (by rw [hm1]; exact (firstNZ_hit (by omega) (by assumption)).symm), rfl⟩
    | exact ⟨congrArg I (by rw [hm1]; exact (firstNZ_done (by omega)).symm), rfl⟩
   ·
    try simp at hc2
    replace F := F.add hc2
    refine W.skip ?_
    refine hK3 _ ?_
    clear hK3 K3
    refine rEw ?_
    refine ⟨i + 1, lf0, ?_, v0⟩
    ·
     exact ⟨by omega, by rw [hm1, firstNZ_skip (f := res) (by omega) (by assumption)]⟩
  ·
   try simp at hc1
   replace F := F.add hc1
   refine W.exit ?_
   refine hK1 _ ?_
   clear hK2 K2 hK1 K1
   refine rK [2] ?_
   refine W.ret ?_
   refine er false [] [(10000, 10000), (10001, 10001)] ?_
   first
   | (exfalso; omega)
   | exact ⟨congrArg I (by rw [hm1]; exact (firstNZ_hit (by omega) (by assumption)).symm), rfl⟩
   | exact ⟨congrArg I (by rw [hm1]; exact (firstNZ_done (by omega)).symm), rfl⟩
structure LenB (b : Ben) : Prop where
  mas : b.mas.length ≤ 1000
  wei : b.wei.length ≤ 1000
  scl : b.scl.length ≤ 1000
  tri : b.tri.length ≤ 1000
theorem ValidB.lens {b : Ben} (h : ValidB b) : LenB b := ⟨by have := h.m5; omega, by have := h.w6; omega, by have := h.s3; omega, by have := h.t6; omega⟩
def resB (b : Ben) (f : Nat) : Int := (checksB b).getD ([22, 24, 29, 30, 34, 35, 40, 41].idxOf f) 0
theorem firstNZ_map {α : Type} {f : α → Int} : ∀ (l : List α), firstNZ (fun x : Int => x) (l.map f) = firstNZ f l
  | [] => rfl
  | x :: l => by rw [List.map_cons, firstNZ, firstNZ, firstNZ_map l]
theorem resB_all (b : Ben) : firstNZ (resB b) [22, 24, 29, 30, 34, 35, 40, 41] = checkB b := by
  rw [← firstNZ_map, checkB]
  rfl
set_option maxHeartbeats 4000000 in
theorem Check_ok (b : Ben) (hLb : LenB b) : ACalls Tryd.prog 6 [benV b] [] (fun r o => r = I (checkB b) ∧ o = []) := by
 have F := Fx.nil
 refine ent Tryd.func6 Tryd.ntmps6 Tryd.results6 ?_
 obtain ⟨hlm, hlw, hls, hlt⟩ := hLb
 have qf : ∀ f ∈ [22, 24, 29, 30, 34, 35, 40, 41], ACalls Tryd.prog f [.ptr 10000 0 0] [(10000, bx b)] (fun r o => r = I (resB b f) ∧ o = [(10000, bx b)]) := by
   intro f hf
   simp only [List.mem_cons, List.not_mem_nil, or_false] at hf
   rcases hf with rfl | rfl | rfl | rfl | rfl | rfl | rfl | rfl
   · exact chk1_ok b
   · exact chk2_ok b
   · exact chk3_ok b hlw
   · exact chk4_ok b hlm
   · exact chk5_ok b
   · exact chk6_ok b
   · exact chk7_ok b hlt
   · exact chk8_ok b hlm hls
 have qC := firstB_ok b [22, 24, 29, 30, 34, 35, 40, 41] (resB b) qf (by decide)
 rw [resB_all b] at qC
 refine rK [1] ?_
 refine W.seqR ?_
 refine oN 8 ?_
 refine WOps.rawL hΓ 88 rfl rfl rfl rfl rfl rfl rfl (by simp; all_goals first | rfl | exact ⟨rfl, rfl⟩) rfl rfl (by decide) (by simp; all_goals first | rfl | exact ⟨rfl, rfl⟩) rfl (by simp; all_goals first | rfl | exact ⟨rfl, rfl⟩) ?_
 refine oC [(10000, 88), (10001, 8)] ?_
 refine ct (qC) ?_
 refine oN 1 ?_
 refine oK [2] ?_
 refine W.ret ?_
 exact er0 false [] []
end Go.Sim
