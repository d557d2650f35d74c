/- Benches: what is known. -/
import Derived.Test.YtfcmfoacedbleaaDoorQd
import Derived.Test.YtfcmfoacedbleaaDoorLa
import Derived.Test.YtfcmfoacedbleaaDoorLc
namespace Go.Sim
open Go.Proofs
set_option maxRecDepth 100000
set_option linter.unusedSimpArgs false
set_option linter.unusedVariables false
attribute [-simp] List.map_set List.map_take List.map_drop
attribute [simp] D2_def
def F4 (f : Fct) : AV := .agg [I f.1, I f.2.1, I f.2.2.1, I f.2.2.2]
theorem F4_def (f : Fct) : F4 f = .agg [I f.1, I f.2.1, I f.2.2.1, I f.2.2.2] := rfl
attribute [simp] F4_def
abbrev bb (b : Ben) : Obj := .row false 83 5 [benV b]
set_option maxHeartbeats 4000000 in
theorem mass_ok (b : Ben) (n : Nat) (hn : n ≤ 1000) : ACalls Tryd.prog 45 [benV b, I n] [] (fun r o => r = I ((1 + n : Nat) : Int) ∧ o = []) := by
 have F := Fx.nil
 replace F := F.add hn
 refine ent Tryd.func45 Tryd.ntmps45 Tryd.results45 ?_
 refine rK [1] ?_
 refine rKw [4] ?_
 refine W.ret ?_
 exact er0 false [] []
set_option maxHeartbeats 4000000 in
theorem day_ok (b : Ben) (hm : b.mas.length ≤ 1000) (hd : 0 ≤ b.days ∧ b.days ≤ 8) (s d : Nat) (hs : s ≤ 1000) (hdd : d ≤ 1000) : ACalls Tryd.prog 66 [benV b, I s, I d] [] (fun r o => r = I (dayN b s d : Nat) ∧ o = []) := by
 have F := Fx.nil
 replace F := F.add hm |>.add hs |>.add hdd
 refine ent Tryd.func66 Tryd.ntmps66 Tryd.results66 ?_
 obtain ⟨hd1, hd2⟩ := hd
 have hd19 : 0 ≤ b.days := hd1
 have hd29 : b.days ≤ 8 := hd2
 have qdd : (dd b : Int) = b.days + 1 := by unfold dd; omega
 have qle : s * dd b ≤ 1000 * 9 := Nat.mul_le_mul hs (by unfold dd; omega)
 have hmul : mulI IntKind.i64 (s : Int) (b.days + 1) = ((s * dd b : Nat) : Int) := by
   rw [mulI_eq, ← qdd, ← Int.natCast_mul]; exact wrap_i64 (by omega) (by omega)
 obtain ⟨m, qm⟩ : ∃ m, s * dd b = m := ⟨_, rfl⟩
 rw [qm] at hmul qle
 have hm9 : m ≤ 9000 := qle
 have qdn : dayN b s d = 1 + b.mas.length + m + d := by unfold dayN; rw [qm]
 replace F := F.add hd19 |>.add hd29 |>.add hmul |>.add hm9
 refine rK [1, 2, 3] ?_
 refine rKw [6] ?_
 refine W.ret ?_
 refine er false [] [] ?_
 exact ⟨congrArg I (by rw [qdn]; omega), rfl⟩
set_option maxHeartbeats 4000000 in
theorem pair_ok (x : Spn) : ACalls Tryd.prog 65 [spnV x] [] (fun r o => r = D2 (x.lo, x.hi) ∧ o = []) := by
 have F := Fx.nil
 refine ent Tryd.func65 Tryd.ntmps65 Tryd.results65 ?_
 refine rK [1, 2] ?_
 refine rK [2] ?_
 refine W.ret ?_
 exact er0 false [] []
set_option maxHeartbeats 4000000 in
theorem know_ok (t u : Tab) (n : Nat) (hn1 : 1 ≤ n) (hn2 : n ≤ 1000) (hs : Sq n t) (p q : Nat) (hp : p < n) (hq : q < n) (d : Dif) (hu : withT t p q d = some u) : ACalls Tryd.prog 71 [.agg [I p, I q, I d.1, I d.2], .ptr 10000 0 0] [(10000, .row false 85 1 [tabV t])] (fun r o => r = .tup [] ∧ o = [(10000, .row false 85 1 [tabV u])]) := by
 have F := Fx.nil
 refine ent Tryd.func71 Tryd.ntmps71 Tryd.results71 ?_
 have qw := with_ok t n hn1 hn2 hs p q hp hq d
 rw [hu] at qw
 refine rK [1, 2] ?_
 refine W.region ?_
 refine oN 2 ?_
 refine oC [] ?_
 refine ct (qw) ?_
 refine oN 4 ?_
 refine WOps.endK ?_
 exact en0 false [] [(10000, 10000)]
theorem turn_eq {x : Spn} (h : -10000000 ≤ x.lo ∧ x.hi ≤ 10000000 ∧ x.lo ≤ x.hi) : turnD (x.lo, x.hi) = (-x.hi, -x.lo) := by
  unfold turnD
  rw [wrap_i64 (by dsimp only; omega) (by dsimp only; omega), wrap_i64 (by dsimp only; omega) (by dsimp only; omega)]
theorem fact_m {b : Ben} {i : Nat} (hi : i < b.mas.length) : fromF' b i = 0 ∧ difF b i = (b.mas[i].off.lo, b.mas[i].off.hi) := by
  refine ⟨by rw [fromF', if_pos hi], by rw [difF, if_pos hi, nth_get hi]⟩
theorem fact_s {b : Ben} (hv : ValidB b) {s : Nat} (hs : s < b.scl.length) : fromF' b (b.mas.length + s * dd b) = 0 ∧ difF b (b.mas.length + s * dd b) = turnD (b.scl[s].fst.lo, b.scl[s].fst.hi) := by
  have e1 : b.mas.length + s * dd b - b.mas.length = s * dd b := by omega
  have e2 : s * dd b % dd b = 0 := Nat.mul_mod_left _ _
  have e3 : s * dd b / dd b = s := Nat.mul_div_cancel _ (dd_pos b)
  have h := hv.scl _ (List.getElem_mem hs)
  refine ⟨by rw [fromF', if_neg (by omega), e1, if_pos e2], ?_⟩
  rw [difF, if_neg (by omega), e1, if_pos e2, e3, nth_get hs, turn_eq (by omega)]
theorem fact_d {b : Ben} (hv : ValidB b) {s d : Nat} (hs : s < b.scl.length) (hd : (d : Int) < b.days) : fromF' b (b.mas.length + s * dd b + 1 + d) = b.mas.length + s * dd b + 1 + d ∧ difF b (b.mas.length + s * dd b + 1 + d) = turnD (b.scl[s].dri.lo, b.scl[s].dri.hi) := by
  have hdd : d + 1 < dd b := by unfold dd; omega
  have e1 : b.mas.length + s * dd b + 1 + d - b.mas.length = (d + 1) + s * dd b := by omega
  have e2 : ((d + 1) + s * dd b) % dd b = d + 1 := by rw [Nat.add_mul_mod_self_right, Nat.mod_eq_of_lt hdd]
  have e3 : ((d + 1) + s * dd b) / dd b = s := by rw [Nat.add_mul_div_right _ _ (dd_pos b), Nat.div_eq_of_lt hdd]; omega
  have h := hv.scl _ (List.getElem_mem hs)
  refine ⟨by rw [fromF', if_neg (by omega), e1, e2, if_neg (by omega)], ?_⟩
  rw [difF, if_neg (by omega), e1, e2, if_neg (by omega), e3, nth_get hs, turn_eq (by omega)]
theorem start_next {b : Ben} (hv : ValidB b) {k p : Nat} {d : Dif} (hk : k + 1 < sizeB b) (h : fromF' b k = p ∧ difF b k = d) : withT (startN b k) p (k + 1) d = some (startN b (k + 1)) := by
  obtain ⟨rfl, rfl⟩ := h; exact startN_next hv hk
theorem know_next {b : Ben} (hv : ValidB b) {k p q : Nat} {d : Dif} (hk : k + 1 < sizeB b) (h : fromF' b k = p ∧ difF b k = d) (hq : q = k + 1) : ACalls Tryd.prog 71 [.agg [I p, I q, I d.1, I d.2], .ptr 10000 0 0] [(10000, .row false 85 1 [tabV (startN b k)])] (fun r o => r = .tup [] ∧ o = [(10000, .row false 85 1 [tabV (startN b (k + 1))])]) := by
  have hn := sizeB_le hv
  have hp : p ≤ k := by rw [← h.1]; exact fromF_lt hk
  subst hq
  exact know_ok _ _ (sizeB b) (by omega) (by omega) (startN_sq hv (by omega)) p (k + 1) (by omega) hk d (start_next hv hk h)
set_option maxHeartbeats 4000000 in
theorem start_ok (b : Ben) (hv : ValidB b) : ACalls Tryd.prog 51 [benV b] [] (fun r o => r = tabV (startT b) ∧ o = []) := by
 have F := Fx.nil
 refine ent Tryd.func51 Tryd.ntmps51 Tryd.results51 ?_
 have qd := hv.days
 have hd1 : 0 ≤ b.days := qd.1
 have hd2 : b.days ≤ 8 := qd.2
 have hm5 : b.mas.length ≤ 5 := hv.m5
 have hs3 : b.scl.length ≤ 3 := hv.s3
 obtain ⟨qn1, qn2⟩ := sizeB_le hv
 have qsz : dayN b b.scl.length 0 = sizeB b := by unfold dayN sizeB; omega
 have qdc := day_ok b (by omega) qd b.scl.length 0 (by omega) (by omega)
 rw [qsz] at qdc
 obtain ⟨N, qN⟩ : ∃ N, sizeB b = N := ⟨_, rfl⟩
 have qb := blank_ok (sizeB b) (by omega) (by omega)
 rw [qN] at qb qdc qn1 qn2
 have hN1 : 3 ≤ N := qn1
 have hN2 : N ≤ 33 := qn2
 replace F := F.add hd1 |>.add hd2 |>.add hm5 |>.add hs3 |>.add hN1 |>.add hN2
 refine rK [1] ?_
 refine W.seqR ?_
 refine oN 5 ?_
 refine oC [] ?_
 refine ct (qdc) ?_
 refine oC [] ?_
 refine ct (qb) ?_
 refine oN 2 ?_
 refine oK [1, 3] ?_
 refine W.seqR ?_
 refine fz 128 ?_
 refine oN 2 ?_
 refine oK [1, 3, 4] ?_
 refine W.seqk fun K1 hK1 => ?_
 refine rK [1, 3, 4, 20, 21, 22] ?_
 refine W.block ?_
 refine lp (α := Nat) [1, 3, 4, 20, 21] [6, 30, 33, 35] [24] (fun i => [(22, I i)]) (fun i => [(24, .row false 85 1 [tabV (startN b i)])]) (fun i => i ≤ b.mas.length) (fun i => b.mas.length - i) 0 ?_ ?_ v0 ?_
 ·
  exact v1
 ·
  try (simp [Fx.get F])
  all_goals (
   (have e1 : (blankT N).length = N := (tabF_sq N _).1
    have e2 : List.take N (blankT N) = blankT N := List.take_of_length_le (by omega)
    rw [if_pos (by omega), e2, ← qN]; rfl)
  )
 ·
  intro i hI0
  simp only [List.cons_append, List.nil_append]
  try dsimp only at hI0
  replace F := F.add hI0
  refine rK [1, 3, 4, 20, 21, 22, 23] ?_
  refine W.seqk fun K2 hK2 => ?_
  refine it (fun hc1 => ?_) (fun hc1 => ?_)
  ·
   try simp at hc1
   replace F := F.add hc1
   refine W.skip ?_
   refine hK2 _ ?_
   clear hK2 K2
   refine W.seqk fun K3 hK3 => ?_
   refine W.block ?_
   have him : i < b.mas.length := by omega
   have qk := know_next hv (k := i) (q := 1 + i) (by unfold sizeB; have := dd_pos b; have := hv.s1; have : 1 * 1 ≤ b.scl.length * dd b := Nat.mul_le_mul hv.s1 (dd_pos b); omega) (fact_m him) (by omega)
   replace F := F.add him
   refine rK [1, 3, 4, 5, 6, 20, 21, 22] ?_
   refine wDe 8 [] [[], [], [], [2, 1], [], [4], [1, 2, 3, 4, 5], [5, 4, 6, 1, 2, 3], [3, 2, 1, 6, 4, 5, 7, 0]] ?_
   refine dB [([28, 29, 30, 31, 32, 33, 34], [], []), ([27, 29, 31, 32], [false], []), ([27, 28, 31, 32], [false, false], [])] 5 3 ?_
   refine dC [27, 31, 32] [false, true, true] [] [] ?_
   refine cd (mass_ok b i (by omega)) ?_
   refine dB [([27, 28, 29, 30], [false, false, false, false], []), ([27, 28, 29, 30], [false, false, false, false, true], [])] 2 6 ?_
   refine dC [27] [false, true, true, true, true, true] [] [] ?_
   refine cd (pair_ok b.mas[i].off) ?_
   refine dB [([27], [false, true, true, true, true, true, true], [])] 0 8 ?_
   refine dD ?_
   refine oC [(10000, 24)] ?_
   refine ct (qk) ?_
   refine WOps.endK ?_
   refine hK3 _ ?_
   clear hK3 K3
   refine rEw ?_
   refine ⟨i + 1, lf ?_ ?_, v0, v0⟩
   ·
    exact v1
   ·
    try (simp [Fx.get F])
    all_goals (
     first
     | rfl
     | (simp; done)
     | (rw [show b.mas.length + (s + 1) * dd b = b.mas.length + s * dd b + 1 + d by have : (d : Int) = b.days := (by omega); have : dd b = d + 1 := (by unfold dd; omega); omega])
     | (rw [show b.mas.length + s * dd b + 1 + (d + 1) = b.mas.length + s * dd b + 1 + d + 1 by omega])
    )
  ·
   try simp at hc1
   replace F := F.add hc1
   refine W.exit ?_
   refine hK1 _ ?_
   clear hK2 K2 hK1 K1
   refine W.seqk fun K4 hK4 => ?_
   refine rK [1, 3, 4, 39, 40, 41] ?_
   refine W.block ?_
   have hie : i = b.mas.length := by omega
   replace F := F.add hie
   refine lp (α := Nat) [1, 3, 4, 39, 40] [8, 49, 52, 53, 55, 66, 71, 74, 75, 77] [24] (fun s => [(41, I s)]) (fun s => [(24, .row false 85 1 [tabV (startN b (b.mas.length + s * dd b))])]) (fun s => s ≤ b.scl.length) (fun s => b.scl.length - s) 0 ?_ ?_ v0 ?_
   ·
    exact v1
   ·
    try (simp [Fx.get F])
    all_goals (
     first
     | (have e1 : (blankT N).length = N := (tabF_sq N _).1
        have e2 : List.take N (blankT N) = blankT N := List.take_of_length_le (by omega)
        rw [if_pos (by omega), e2, ← qN]; rfl)
     | (rw [hie]; simp; done)
     | rfl
     | trivial
    )
   ·
    intro s hI1
    simp only [List.cons_append, List.nil_append]
    try dsimp only at hI1
    replace F := F.add hI1
    refine rK [1, 3, 4, 39, 40, 41, 42] ?_
    refine W.seqk fun K5 hK5 => ?_
    refine it (fun hc2 => ?_) (fun hc2 => ?_)
    ·
     try simp at hc2
     replace F := F.add hc2
     refine W.skip ?_
     refine hK5 _ ?_
     clear hK5 K5
     refine W.seqk fun K6 hK6 => ?_
     refine W.block ?_
     have hsl : s < b.scl.length := by omega
     have qmul : (s + 1) * dd b ≤ b.scl.length * dd b := Nat.mul_le_mul_right _ hsl
     have qdp := dd_pos b
     have qmu2 : (s + 1) * dd b = s * dd b + dd b := by rw [Nat.add_mul, Nat.one_mul]
     have qsb : sizeB b = 1 + b.mas.length + b.scl.length * dd b := rfl
     have qdy : dayN b s 0 = b.mas.length + s * dd b + 1 := by unfold dayN; omega
     have qk := know_next hv (k := b.mas.length + s * dd b) (q := dayN b s 0) (by omega) (fact_s hv hsl) qdy
     have qdi := day_ok b (by omega) qd s 0 (by omega) (by omega)
     replace F := F.add hsl
     refine rK [1, 3, 4, 7, 8, 39, 40, 41] ?_
     refine wD 9 [] [[], [], [], [2, 1], [], [4], [1, 2, 3, 4, 5], [5, 4, 3, 2, 1, 6], [6, 4, 5, 7, 1, 2, 3], [3, 2, 1, 7, 5, 4, 6, 8, 0]] ?_
     refine dB [([47, 48, 49, 50, 51, 52, 53, 54], [], []), ([46, 48, 50, 51], [false], []), ([46, 47, 50, 51], [false, false], [])] 6 3 ?_
     refine dC [46, 50, 51] [false, true, true] [] [] ?_
     refine cd (qdi) ?_
     refine dB [([46, 47, 48, 49], [false, false, false, false], []), ([46, 47, 48, 49], [false, false, false, false, true], [])] 3 6 ?_
     refine dC [46] [false, true, true, true, true, true] [] [] ?_
     refine cd (pair_ok b.scl[s].fst) ?_
     refine dC [46] [false, true, true, true, true, true, true] [] [] ?_
     refine cd (turned_ok (b.scl[s].fst.lo, b.scl[s].fst.hi)) ?_
     refine dB [([46], [false, true, true, true, true, true, true, true], [])] 0 9 ?_
     refine dD ?_
     refine oC [(10000, 24)] ?_
     refine ct (qk) ?_
     refine oK [1, 3, 4, 7, 8, 39, 40, 41] ?_
     refine rK [1, 3, 4, 7, 8, 39, 40, 41, 58, 59] ?_
     refine W.block ?_
     refine lp (α := Nat) [1, 3, 4, 7, 8, 39, 40, 41, 58] [66, 71, 74, 75, 77] [24] (fun d => [(59, I d)]) (fun d => [(24, .row false 85 1 [tabV (startN b (b.mas.length + s * dd b + 1 + d))])]) (fun d => (d : Int) ≤ b.days) (fun d => b.days.toNat - d) 0 ?_ ?_ v0 ?_
     ·
      exact v1
     ·
      try (simp [Fx.get F])
      all_goals (
       first
       | (have e1 : (blankT N).length = N := (tabF_sq N _).1
          have e2 : List.take N (blankT N) = blankT N := List.take_of_length_le (by omega)
          rw [if_pos (by omega), e2, ← qN]; rfl)
       | (rw [hie]; simp; done)
       | rfl
       | trivial
      )
     ·
      intro d hI2
      simp only [List.cons_append, List.nil_append]
      try dsimp only at hI2
      replace F := F.add hI2
      refine rK [1, 3, 4, 7, 8, 39, 40, 41, 58, 59, 60] ?_
      refine W.seqk fun K7 hK7 => ?_
      refine it (fun hc3 => ?_) (fun hc3 => ?_)
      ·
       try simp at hc3
       replace F := F.add hc3
       refine W.skip ?_
       refine hK7 _ ?_
       clear hK7 K7
       refine W.seqk fun K8 hK8 => ?_
       refine W.block ?_
       have hdl : (d : Int) < b.days := by omega
       have qdl : d + 1 < dd b := by unfold dd; omega
       have q1 : dayN b s d = b.mas.length + s * dd b + 1 + d := by unfold dayN; omega
       have q2 : dayN b s (d + 1) = b.mas.length + s * dd b + 1 + d + 1 := by unfold dayN; omega
       have qk2 := know_next hv (k := b.mas.length + s * dd b + 1 + d) (p := dayN b s d) (q := dayN b s (d + 1)) (by omega) (by rw [q1]; exact fact_d hv hsl hdl) q2
       have qda := day_ok b (by omega) qd s d (by omega) (by omega)
       have qdb := day_ok b (by omega) qd s (d + 1) (by omega) (by omega)
       replace F := F.add hdl
       refine rK [1, 3, 4, 7, 8, 9, 39, 40, 41, 58, 59] ?_
       refine wDe 15 [] [[], [], [], [], [3, 2, 1], [], [], [], [7], [1, 2, 3, 4, 7, 8, 6, 5], [], [10], [5, 6, 8, 7, 4, 3, 2, 1, 9, 10, 11], [11, 10, 9, 1, 2, 3, 4, 7, 8, 6, 5, 12], [12, 10, 11, 13, 5, 6, 8, 7, 9, 1, 2, 3, 4], [4, 3, 2, 1, 9, 7, 8, 6, 5, 13, 11, 10, 12, 14, 0]] ?_
       refine dB [([63, 64, 65, 66, 67, 68, 69, 70, 71, 72, 73, 74, 75, 76], [], []), ([62, 64, 65, 67, 68, 69, 70, 72, 73], [false], []), ([62, 63, 65, 67, 68, 69, 70, 72, 73], [false, false], []), ([62, 63, 64, 67, 68, 69, 70, 72, 73], [false, false, false], [])] 11 4 ?_
       refine dC [62, 67, 68, 69, 70, 72, 73] [false, true, true, true] [] [] ?_
       refine cd (qda) ?_
       refine dBw [([62, 63, 64, 65, 66, 68, 69, 70, 72, 73], [false, false, false, false, false], []), ([62, 63, 64, 65, 66, 67, 69, 70, 72, 73], [false, false, false, false, false, false], []), ([62, 63, 64, 65, 66, 67, 68, 72, 73], [false, false, false, false, false, false, false], []), ([62, 63, 64, 65, 66, 67, 68, 72, 73], [false, false, false, false, false, false, false, true], [])] 6 9 ?_
       refine dC [62, 72, 73] [false, true, true, true, true, true, true, true, true] [] [] ?_
       refine cd (qdb) ?_
       refine dB [([62, 63, 64, 65, 66, 67, 68, 69, 70, 71], [false, false, false, false, false, false, false, false, false, false], []), ([62, 63, 64, 65, 66, 67, 68, 69, 70, 71], [false, false, false, false, false, false, false, false, false, false, true], [])] 3 12 ?_
       refine dC [62] [false, true, true, true, true, true, true, true, true, true, true, true] [] [] ?_
       refine cd (pair_ok b.scl[s].dri) ?_
       refine dC [62] [false, true, true, true, true, true, true, true, true, true, true, true, true] [] [] ?_
       refine cd (turned_ok (b.scl[s].dri.lo, b.scl[s].dri.hi)) ?_
       refine dB [([62], [false, true, true, true, true, true, true, true, true, true, true, true, true, true], [])] 0 15 ?_
       refine dD ?_
       refine oC [(10000, 24)] ?_
       refine ct (qk2) ?_
       refine WOps.endK ?_
       refine hK8 _ ?_
       clear hK8 K8
       refine rEw ?_
       refine ⟨d + 1, lf ?_ ?_, v0, v0⟩
       ·
        exact v1
       ·
        try (simp [Fx.get F])
        all_goals (
         rfl
        )
      ·
       try simp at hc3
       replace F := F.add hc3
       refine W.exit ?_
       refine hK6 _ ?_
       clear hK7 K7 hK6 K6
       refine rEw ?_
       refine ⟨s + 1, lf ?_ ?_, v0, v0⟩
       ·
        exact v1
       ·
        try (simp [Fx.get F])
        all_goals (
         (rw [show b.mas.length + (s + 1) * dd b = b.mas.length + s * dd b + 1 + d by have : (d : Int) = b.days := (by omega); have : dd b = d + 1 := (by unfold dd; omega); omega])
        )
    ·
     try simp at hc2
     replace F := F.add hc2
     refine W.exit ?_
     refine hK4 _ ?_
     clear hK5 K5 hK4 K4
     refine rK [2] ?_
     refine W.ret ?_
     refine er false [] [] ?_
     exact ⟨by rw [show b.mas.length + s * dd b = sizeB b - 1 by have : s = b.scl.length := (by omega); rw [this]; unfold sizeB; omega], rfl⟩
instance : NthD Fct := ⟨(0, 0, (0, 0))⟩
theorem resF_len (b : Ben) : (resF b).length = b.wei.length + b.tri.length := by simp [resF]
theorem resF_w {b : Ben} {i : Nat} (hi : i < b.wei.length) : nth (resF b) i = weiF b.wei[i] := by
  rw [nth_get (by rw [resF_len]; omega)]
  simp [resF, List.getElem_append_left, hi]
theorem resF_t {b : Ben} {i : Nat} (hi : i < b.tri.length) : nth (resF b) (b.wei.length + i) = triF b b.tri[i] := by
  rw [nth_get (by rw [resF_len]; omega)]
  simp [resF, List.getElem_append_right, hi]
set_option maxHeartbeats 4000000 in
theorem results_ok (b : Ben) : ACalls Tryd.prog 47 [benV b] [] (fun r o => r = .clo 64 [.ptr 20000 0 0] ∧ o = [(20000, bb b)]) := by
 have F := Fx.nil
 refine ent Tryd.func47 Tryd.ntmps47 Tryd.results47 ?_
 refine rK [1] ?_
 refine rK [2] ?_
 refine W.ret ?_
 exact er0 false [] [(20000, 8)]
set_option maxHeartbeats 4000000 in
theorem results1_ok (b : Ben) (hv : ValidB b) (lq : Nat) (J : Nat → Fgn) (stop : Nat → Bool) (hy : ∀ (k : Nat), k < (resF b).length → (∀ j, j < k → stop j = false) → YieldV Tryd.prog lq (J k) [I k, F4 (nth (resF b) k)] (fun t J' => t = !stop k ∧ J' = J (k + 1))) : ACalls Tryd.prog 64 [.yld 19999, .ptr 10000 0 0] [(19999, .ext lq (J 0)), (10000, bb b)] (fun _ o => o = [(19999, .ext lq (J (rounds stop (resF b).length))), (10000, bb b)]) := by
 have F := Fx.nil
 refine ent Tryd.func64 Tryd.ntmps64 Tryd.results64 ?_
 have qd := hv.days
 have qrl := resF_len b
 have hw6 : b.wei.length ≤ 6 := hv.w6
 have ht6 : b.tri.length ≤ 6 := hv.t6
 have hm5 : b.mas.length ≤ 5 := hv.m5
 replace F := F.add hw6 |>.add ht6 |>.add hm5
 refine W.seqk fun K1 hK1 => ?_
 refine rK [0, 1, 10, 11, 12] ?_
 refine W.block ?_
 refine lpa (α := Nat) [0, 1, 10, 11] [4, 22, 26, 29, 31] [19999] (fun i => [(12, I i)]) (fun i => [(19999, .ext lq (J i))]) (fun i => i ≤ b.wei.length ∧ ∀ j, j < i → stop j = false) (fun i => b.wei.length - i) 0 v0 ?_
 ·
  intro i hI0
  simp only [List.cons_append, List.nil_append]
  try dsimp only at hI0
  obtain ⟨hi, kb⟩ := hI0
  replace F := F.add hi
  refine rK [0, 1, 10, 11, 12, 13] ?_
  refine W.seqk fun K2 hK2 => ?_
  refine it (fun hc1 => ?_) (fun hc1 => ?_)
  ·
   try simp at hc1
   replace F := F.add hc1
   refine W.skip ?_
   refine hK2 _ ?_
   clear hK2 K2
   refine W.seqk fun K3 hK3 => ?_
   refine W.block ?_
   have hiw : i < b.wei.length := by omega
   have qw := hv.wei _ (List.getElem_mem hiw)
   obtain ⟨wa, qwa⟩ : ∃ x : Nat, b.wei[i].a = (x : Int) := ⟨b.wei[i].a.toNat, by omega⟩
   obtain ⟨wb, qwb⟩ : ∃ x : Nat, b.wei[i].b = (x : Int) := ⟨b.wei[i].b.toNat, by omega⟩
   have hwa := qwa
   have hwb := qwb
   have qy := hy i (by omega) kb
   rw [resF_w hiw, weiF, qwa, qwb] at qy
   simp only [Int.toNat_natCast] at qy
   replace F := F.add hiw |>.add hwa |>.add hwb
   refine rK [0, 1, 3, 4, 10, 11, 12] ?_
   refine wD 14 [] [[], [], [], [], [3], [3, 4, 2], [], [], [7], [2, 4, 3, 5, 7, 8, 6], [], [10], [6, 8, 7, 5, 3, 4, 2, 9, 10, 11], [11, 10, 12, 6, 8, 7, 9, 2, 4, 3, 5], [5, 3, 4, 2, 9, 7, 8, 6, 12, 10, 11, 13, 1, 0], [0, 1, 13, 11, 10, 12, 6, 8, 7, 9, 2, 4, 3, 5, 14]] ?_
   refine dB [([18, 19, 20, 21, 22, 23, 24, 25, 26, 27, 28, 29, 30], [], []), ([17, 19, 20, 21, 22, 23, 24, 25, 26, 27, 28, 29, 30], [false], []), ([17, 18, 20, 21, 23, 24, 25, 27, 28], [false, false], []), ([17, 18, 19, 23, 24, 25, 27, 28], [false, false, false], []), ([17, 18, 19, 23, 24, 25, 27, 28], [false, false, false, true], [])] 9 5 ?_
   refine dC [17, 18, 23, 24, 25, 27, 28] [false, false, true, true, true] [] [] ?_
   refine cd (mass_ok b wb (by omega)) ?_
   refine dB [([17, 18, 19, 20, 21, 22, 24, 25, 27, 28], [false, false, false, false, false, false], []), ([17, 18, 19, 20, 21, 22, 23, 27, 28], [false, false, false, false, false, false, false], []), ([17, 18, 19, 20, 21, 22, 23, 27, 28], [false, false, false, false, false, false, false, true], [])] 5 9 ?_
   refine dC [17, 18, 27, 28] [false, false, true, true, true, true, true, true, true] [] [] ?_
   refine cd (mass_ok b wa (by omega)) ?_
   refine dB [([17, 18, 19, 20, 21, 22, 23, 24, 25, 26], [false, false, false, false, false, false, false, false, false, false], []), ([17, 18, 19, 20, 21, 22, 23, 24, 25, 26], [false, false, false, false, false, false, false, false, false, false, true], [])] 2 12 ?_
   refine dC [17, 18] [false, false, true, true, true, true, true, true, true, true, true, true] [] [] ?_
   refine cd (pair_ok b.wei[i].dif) ?_
   refine dB [([17, 18], [false, false, true, true, true, true, true, true, true, true, true, true, true], [])] 0 14 ?_
   refine dD ?_
   refine WOps.yieldV rfl rfl rfl (by simp [hw6, ht6, hm5, hi, hc1, hiw, hwa, hwb]; all_goals first | rfl | exact ⟨rfl, rfl⟩ | exact ⟨rfl, rfl, rfl⟩) (by simp [hw6, ht6, hm5, hi, hc1, hiw, hwa, hwb]; all_goals first | rfl | exact ⟨rfl, rfl⟩ | exact ⟨rfl, rfl, rfl⟩) (by simp [hw6, ht6, hm5, hi, hc1, hiw, hwa, hwb]; all_goals first | rfl | exact ⟨rfl, rfl⟩ | exact ⟨rfl, rfl, rfl⟩) (by rfl) (qy) ?_
   refine WOps.norm (by simp [hw6, ht6, hm5, hi, hc1, hiw, hwa, hwb]; rfl) ?_
   refine oN 1 ?_
   refine oK [0, 1, 10, 11, 12, 32] ?_
   refine it (fun hc2 => ?_) (fun hc2 => ?_)
   ·
    try simp at hc2
    replace F := F.add hc2
    refine W.ret ?_
    refine br (tr (tr (br (tr ?_))))
    clear hK3 K3 hK1 K1
    refine er false [] [(19999, 19999), (10000, 10000)] ?_
    rw [rounds_at (by omega) (by assumption) kb]
   ·
    try simp at hc2
    replace F := F.add hc2
    refine W.skip ?_
    refine hK3 _ ?_
    clear hK3 K3
    refine rEw ?_
    refine ⟨i + 1, lf0, ?_, v0⟩
    ·
     refine ⟨by omega, fun j hj => ?_⟩
     by_cases e : j = i
     · subst e; assumption
     · exact kb j (by omega)
  ·
   try simp at hc1
   replace F := F.add hc1
   refine W.exit ?_
   refine hK1 _ ?_
   clear hK2 K2 hK1 K1
   refine rK [0, 1, 36, 37, 38] ?_
   refine W.block ?_
   refine lp (α := Nat) [0, 1, 36, 37] [6, 58, 66, 70, 75] [19999] (fun j => [(38, I j)]) (fun j => [(19999, .ext lq (J (b.wei.length + j)))]) (fun j => j ≤ b.tri.length ∧ ∀ k, k < b.wei.length + j → stop k = false) (fun j => b.tri.length - j) 0 ?_ ?_ ?_ ?_
   ·
    exact v1
   ·
    try (simp [Fx.get F])
    all_goals (
     rw [show i = b.wei.length by omega]
    )
   ·
    exact ⟨Nat.zero_le _, fun k hk => kb k (by omega)⟩
   ·
    intro j hI1
    simp only [List.cons_append, List.nil_append]
    try dsimp only at hI1
    obtain ⟨hj, kb2⟩ := hI1
    replace F := F.add hj
    refine rK [0, 1, 36, 37, 38, 39] ?_
    refine W.seqk fun K4 hK4 => ?_
    refine it (fun hc3 => ?_) (fun hc3 => ?_)
    ·
     try simp at hc3
     replace F := F.add hc3
     refine W.skip ?_
     refine hK4 _ ?_
     clear hK4 K4
     refine W.seqk fun K5 hK5 => ?_
     refine W.block ?_
     have hjt : j < b.tri.length := by omega
     have qt := hv.tri _ (List.getElem_mem hjt)
     obtain ⟨s, qs⟩ : ∃ x : Nat, b.tri[j].sc = (x : Int) := ⟨b.tri[j].sc.toNat, by omega⟩
     obtain ⟨d, qdd⟩ : ∃ x : Nat, b.tri[j].day = (x : Int) := ⟨b.tri[j].day.toNat, by omega⟩
     obtain ⟨m, qm⟩ : ∃ x : Nat, b.tri[j].ms = (x : Int) := ⟨b.tri[j].ms.toNat, by omega⟩
     have hss := qs
     have hsd := qdd
     have hsm := qm
     have hmm : m < b.mas.length := by omega
     have qnm := hv.mas _ (List.getElem_mem hmm)
     obtain ⟨nm, qn⟩ : ∃ z, b.mas[m].nom = z := ⟨_, rfl⟩
     have hnm := qn
     rw [qn] at qnm
     obtain ⟨sh, qsh⟩ : ∃ z, b.tri[j].sh = z := ⟨_, rfl⟩
     have hsh := qsh
     rw [qsh] at qt
     have hw1 : IntKind.i64.wrap (sh - nm) = sh - nm := wrap_i64 (by omega) (by omega)
     have qy := hy (b.wei.length + j) (by omega) kb2
     rw [resF_t hjt, triF, qs, qdd, qm] at qy
     simp only [Int.toNat_natCast] at qy
     rw [nth_get hmm, qn, qsh] at qy
     have h3 := hv.s3
     have qdc := day_ok b (by omega) qd s d (by omega) (by omega)
     replace F := F.add hjt |>.add hss |>.add hsd |>.add hsm |>.add hmm |>.add hnm |>.add hsh |>.add hw1 |>.add h3
     refine rK [0, 1, 5, 6, 36, 37, 38] ?_
     refine wD 10 [] [[], [0], [], [2], [2, 3], [], [5], [5, 6, 3, 2, 4], [4, 2, 3, 6, 5, 7], [7, 5, 6, 3, 2, 4, 8], [8, 4, 2, 3, 6, 5, 7, 9, 0, 1], [1, 0, 9, 7, 5, 6, 3, 2, 4, 8, 10]] ?_
     refine dB [([45, 46, 47, 48, 49, 50, 51, 52], [], []), ([45, 46, 47, 48, 49, 50, 51, 52], [true], []), ([43, 44, 48, 49], [false, false], []), ([43, 44, 48, 49], [false, false, true], []), ([43, 44, 48, 49], [false, false, true, true], []), ([43, 44, 45, 46, 47], [false, false, false, false, false], []), ([43, 44, 45, 46, 47], [false, false, false, false, false, true], []), ([43, 44], [false, false, true, true, true, true, true], []), ([43, 44], [false, false, true, true, true, true, true, true], []), ([43, 44], [false, false, true, true, true, true, true, true, true], [])] 0 10 ?_
     refine dD ?_
     refine oN 2 ?_
     refine oK [0, 1, 5, 6, 7, 36, 37, 38] ?_
     refine wD 21 [] [[], [], [1], [1, 2], [2, 1, 3], [], [5, 3, 1, 2, 4], [], [], [8], [], [10], [10, 11, 8, 9, 7], [], [], [14], [7, 9, 8, 11, 10, 12, 14, 15, 13], [], [], [18, 17], [17, 18, 19, 13, 15, 14, 16, 7, 9, 8, 11, 10, 12], [12, 10, 11, 8, 9, 7, 16, 14, 15, 13, 19, 18, 17, 20, 4, 2, 1, 3, 5, 6, 0], [0, 6, 5, 3, 1, 2, 4, 20, 17, 18, 19, 13, 15, 14, 16, 7, 9, 8, 11, 10, 12, 21]] ?_
     refine dBw [([55, 56, 57, 58, 59, 60, 61, 62, 63, 64, 65, 66, 67, 68, 69, 70, 71, 72, 73, 74], [], []), ([54, 59, 61, 62, 63, 64, 65, 66, 67, 68, 69, 70, 71, 72, 73, 74], [false], []), ([54, 59, 61, 62, 63, 64, 65, 66, 67, 68, 69, 70, 71, 72, 73, 74], [false, true], []), ([54, 59, 61, 62, 63, 64, 65, 66, 67, 68, 69, 70, 71, 72, 73, 74], [false, true, true], []), ([54, 59, 61, 62, 63, 64, 65, 66, 67, 68, 69, 70, 71, 72, 73, 74], [false, true, true, true], []), ([54, 55, 56, 57, 58, 61, 62, 63, 64, 65, 66, 67, 68, 69, 70, 71, 72, 73, 74], [false, false, false, false, false], []), ([54, 61, 62, 63, 64, 65, 66, 67, 68, 69, 70, 71, 72, 73, 74], [false, true, true, true, true, true], []), ([54, 55, 56, 57, 58, 59, 60, 62, 63, 64, 65, 67, 68, 69, 71, 72, 73], [false, false, false, false, false, false, false], []), ([54, 55, 56, 57, 58, 59, 60, 61, 64, 65, 67, 68, 69, 71, 72, 73], [false, false, false, false, false, false, false, false], []), ([54, 55, 56, 57, 58, 59, 60, 61, 64, 65, 67, 68, 69, 71, 72, 73], [false, false, false, false, false, false, false, false, true], []), ([54, 55, 56, 57, 58, 59, 60, 61, 62, 63, 67, 68, 69, 71, 72, 73], [false, false, false, false, false, false, false, false, false, false], []), ([54, 55, 56, 57, 58, 59, 60, 61, 62, 63, 67, 68, 69, 71, 72, 73], [false, false, false, false, false, false, false, false, false, false, true], [])] 9 12 ?_
     refine dC [54, 55, 56, 57, 58, 59, 60, 67, 68, 69, 71, 72, 73] [false, false, false, false, false, false, false, true, true, true, true, true] [] [] ?_
     refine cd (qdc) ?_
     refine dB [([54, 55, 56, 57, 58, 59, 60, 61, 62, 63, 64, 65, 66, 68, 69, 71, 72, 73], [false, false, false, false, false, false, false, false, false, false, false, false, false], []), ([54, 55, 56, 57, 58, 59, 60, 61, 62, 63, 64, 65, 66, 67, 71, 72, 73], [false, false, false, false, false, false, false, false, false, false, false, false, false, false], []), ([54, 55, 56, 57, 58, 59, 60, 61, 62, 63, 64, 65, 66, 67, 71, 72, 73], [false, false, false, false, false, false, false, false, false, false, false, false, false, false, true], [])] 5 16 ?_
     refine dC [54, 55, 56, 57, 58, 59, 60, 71, 72, 73] [false, false, false, false, false, false, false, true, true, true, true, true, true, true, true, true] [] [] ?_
     refine cd (mass_ok b m (by omega)) ?_
     refine dB [([54, 55, 56, 57, 58, 59, 60, 61, 62, 63, 64, 65, 66, 67, 68, 69, 70, 72], [false, false, false, false, false, false, false, false, false, false, false, false, false, false, false, false, false], []), ([54, 55, 56, 57, 58, 59, 60, 61, 62, 63, 64, 65, 66, 67, 68, 69, 70, 71], [false, false, false, false, false, false, false, false, false, false, false, false, false, false, false, false, false, false], []), ([54, 55, 56, 57, 58, 59, 60, 61, 62, 63, 64, 65, 66, 67, 68, 69, 70], [false, false, false, false, false, false, false, false, false, false, false, false, false, false, false, false, false, true, true], []), ([54, 55, 56, 57, 58, 59, 60], [false, false, false, false, false, false, false, true, true, true, true, true, true, true, true, true, true, true, true, true], [])] 0 21 ?_
     refine dD ?_
     refine WOps.yieldV rfl rfl rfl (by simp [hw6, ht6, hm5, hi, hc1, hj, hc3, hjt, hss, hsd, hsm, hmm, hnm, hsh, hw1, h3]; all_goals first | rfl | exact ⟨rfl, rfl⟩ | exact ⟨rfl, rfl, rfl⟩) (by simp [hw6, ht6, hm5, hi, hc1, hj, hc3, hjt, hss, hsd, hsm, hmm, hnm, hsh, hw1, h3]; all_goals first | rfl | exact ⟨rfl, rfl⟩ | exact ⟨rfl, rfl, rfl⟩) (by simp [hw6, ht6, hm5, hi, hc1, hj, hc3, hjt, hss, hsd, hsm, hmm, hnm, hsh, hw1, h3]; all_goals first | rfl | exact ⟨rfl, rfl⟩ | exact ⟨rfl, rfl, rfl⟩) (by rfl) (qy) ?_
     refine WOps.norm (by simp [hw6, ht6, hm5, hi, hc1, hj, hc3, hjt, hss, hsd, hsm, hmm, hnm, hsh, hw1, h3]; rfl) ?_
     refine oN 1 ?_
     refine oK [0, 1, 36, 37, 38, 76] ?_
     refine it (fun hc4 => ?_) (fun hc4 => ?_)
     ·
      try simp at hc4
      replace F := F.add hc4
      refine W.ret ?_
      refine br (tr (tr (br ?_)))
      clear hK5 K5
      refine er false [] [(19999, 19999), (10000, 10000)] ?_
      rw [rounds_at (by omega) (by assumption) kb2]
     ·
      try simp at hc4
      replace F := F.add hc4
      refine W.skip ?_
      refine hK5 _ ?_
      clear hK5 K5
      refine rEw ?_
      refine ⟨j + 1, lf ?_ ?_, ?_, v0⟩
      ·
       exact v1
      ·
       try (simp [Fx.get F])
       all_goals (
        rfl
       )
      ·
       refine ⟨by omega, fun k hk => ?_⟩
       by_cases e : k = b.wei.length + j
       · subst e; assumption
       · exact kb2 k (by omega)
    ·
     try simp at hc3
     replace F := F.add hc3
     refine W.exit ?_
     refine te (te (bs ?_))
     clear hK4 K4
     refine en false [] [(19999, 19999), (10000, 10000)] ?_
     rw [rounds_all (fun k hk => kb2 k (by omega)), show b.wei.length + j = (resF b).length by omega]
/-- what is known with so many results -/
def knN (b : Ben) (k : Nat) : Tab := (addAll (startT b) ((resF b).take k)).getD []
def knS (b : Ben) (k : Nat) : Bool := (withT (knN b k) (nth (resF b) k).1 (nth (resF b) k).2.1 (nth (resF b) k).2.2).isNone
theorem addAll_snoc (l : List Fct) (f : Fct) (t : Tab) : addAll t (l ++ [f]) = match addAll t l with | some u => withT u f.1 f.2.1 f.2.2 | none => none := by
  rw [addAll_append]
  cases addAll t l with
  | none => rfl
  | some u =>
    show addAll u [f] = withT u f.1 f.2.1 f.2.2
    rw [addAll]; cases withT u f.1 f.2.1 f.2.2 <;> rfl
theorem kn_some {b : Ben} : ∀ {k : Nat}, k ≤ (resF b).length → (∀ j, j < k → knS b j = false) → addAll (startT b) ((resF b).take k) = some (knN b k)
  | 0, _, _ => by rw [knN, List.take_zero]; rfl
  | k + 1, hk, h => by
    have ih := kn_some (k := k) (by omega) fun j hj => h j (by omega)
    have hs := h k (by omega)
    rw [knS] at hs
    obtain ⟨u, hu⟩ := Option.isSome_iff_exists.1 (by simpa using hs)
    have e : addAll (startT b) ((resF b).take (k + 1)) = some u := by
      rw [List.take_succ_eq_append_getElem (by omega), addAll_snoc, ih, ← nth_get (show k < (resF b).length by omega)]
      exact hu
    rw [knN, e]; rfl
theorem kn_next {b : Ben} {k : Nat} (hk : k < (resF b).length) (h : ∀ j, j < k → knS b j = false) : (knS b k = false → withT (knN b k) (nth (resF b) k).1 (nth (resF b) k).2.1 (nth (resF b) k).2.2 = some (knN b (k + 1))) ∧ (knS b k = true → withT (knN b k) (nth (resF b) k).1 (nth (resF b) k).2.1 (nth (resF b) k).2.2 = none ∧ knownT b = none) := by
  have e : addAll (startT b) ((resF b).take (k + 1)) = withT (knN b k) (nth (resF b) k).1 (nth (resF b) k).2.1 (nth (resF b) k).2.2 := by
    rw [List.take_succ_eq_append_getElem hk, addAll_snoc, kn_some (by omega) h, ← nth_get hk]
  constructor
  · intro hs
    obtain ⟨u, hu⟩ := Option.isSome_iff_exists.1 (show (withT (knN b k) (nth (resF b) k).1 (nth (resF b) k).2.1 (nth (resF b) k).2.2).isSome = true by rw [knS] at hs; simpa using hs)
    rw [hu] at e ⊢
    rw [knN, e]; rfl
  · intro hs
    have hn : withT (knN b k) (nth (resF b) k).1 (nth (resF b) k).2.1 (nth (resF b) k).2.2 = none := by rw [knS] at hs; simpa using hs
    refine ⟨hn, ?_⟩
    rw [hn] at e
    rw [knownT, ← List.take_append_drop (k + 1) (resF b), addAll_append, e]
theorem kn_sq {b : Ben} (hv : ValidB b) {k : Nat} (hk : k ≤ (resF b).length) (h : ∀ j, j < k → knS b j = false) : Sq (sizeB b) (knN b k) := by
  obtain ⟨h1, h2, _⟩ := startT_ok hv
  exact (addAll_some h1 h2 (fun f hf => resF_ok hv f (List.mem_of_mem_take hf)) (kn_some hk h)).1.sq
theorem kn_all {b : Ben} (h : ∀ j, j < (resF b).length → knS b j = false) : knownT b = some (knN b (resF b).length) := by
  have := kn_some (Nat.le_refl _) h
  rw [List.take_length] at this
  exact this
set_option maxHeartbeats 4000000 in
theorem known_ok (b : Ben) (hv : ValidB b) : ACalls Tryd.prog 44 [benV b] [] (fun r o => r = withV (knownT b) ∧ o = []) := by
 have F := Fx.nil
 refine ent (M := outMode) Tryd.func44 Tryd.ntmps44 Tryd.results44 ?_
 have qsz := sizeB_le hv
 obtain ⟨n, qn⟩ : ∃ n, (resF b).length = n := ⟨_, rfl⟩
 refine rK (M := outMode) [1, 2, 3, 7, 13] ?_
 refine W.seqR (M := outMode) ?_
 refine oN 1 ?_
 refine oC [] ?_
 refine ct (start_ok b hv) ?_
 refine oN 4 ?_
 refine oK (M := outMode) [1, 2, 3, 4, 5, 7, 13] ?_
 refine W.seqk (M := outMode) fun K1 hK1 => ?_
 refine W.seqR (M := outMode) ?_
 refine oN 1 ?_
 refine oC [] ?_
 refine ct (results_ok b) ?_
 refine oK (M := outMode) [2, 3, 4, 5, 7, 11, 13] ?_
 refine W.block (M := outMode) ?_
 refine W.rangeS (by simp; all_goals first | rfl | exact ⟨rfl, rfl⟩ | exact ⟨rfl, rfl, rfl⟩) [(10000, 88)] [(10001, 8), (10002, 16), (10003, 24), (10004, 32), (10005, 40)] rfl rfl rfl (by simp; all_goals first | rfl | exact ⟨rfl, rfl⟩ | exact ⟨rfl, rfl, rfl⟩) rfl (by simp; all_goals first | rfl | exact ⟨rfl, rfl⟩ | exact ⟨rfl, rfl, rfl⟩) (by simp; all_goals first | rfl | exact ⟨rfl, rfl⟩ | exact ⟨rfl, rfl, rfl⟩) (by simp; all_goals first | rfl | exact ⟨rfl, rfl⟩ | exact ⟨rfl, rfl, rfl⟩) (fun k => [(10001, bb b), (10002, .row false 85 1 [.val (.slice none 0 0)]), (10003, .row false 4 1 [B false]), (10004, .row false 85 1 [tabV (knN b k)]), (10005, .row false 4 1 [B true])]) (by simp; all_goals first | rfl | exact ⟨rfl, rfl⟩ | exact ⟨rfl, rfl, rfl⟩) [2, 3, 4, 5] (by simp; all_goals first | rfl | exact ⟨rfl, rfl⟩ | exact ⟨rfl, rfl, rfl⟩) (by simp; all_goals first | rfl | exact ⟨rfl, rfl⟩ | exact ⟨rfl, rfl, rfl⟩) (by rfl) (List.range n) (fun k : Nat => [I k, F4 (nth (resF b) k)]) (fun _ => rfl) (fun k => knS b k) .ret rfl (fun _ (_ : Unit) => True) (fun k _ => [(10001, bb b), (10002, .row false 85 1 [.val (.slice none 0 0)]), (10003, .row false 4 1 [B false]), (10004, .row false 85 1 [.imm []]), (10005, .row false 4 1 [B false])]) ?_ (fun lp J hy => by have := results1_ok b hv lp J (fun k => knS b k) (fun k hk => by have := hy k (by simpa [qn] using hk); simpa using this); simpa [qn] using this) 1000 (by decide) ?_ ?_
 ·
  intro k hk hbef
  replace F := F.add hk
  have hkn : k < (resF b).length := by simpa [qn] using hk
  have qbf : ∀ j, j < k → knS b j = false := fun j hj => by simpa using hbef j hj
  obtain ⟨qN1, qN2⟩ := kn_next hkn qbf
  have qf0 := resF_ok hv _ (show nth (resF b) k ∈ resF b by rw [nth_get hkn]; exact List.getElem_mem hkn)
  have qw0 := with_ok (knN b k) (sizeB b) (by omega) (by omega) (kn_sq hv (by omega) qbf) (nth (resF b) k).1 (nth (resF b) k).2.1 qf0.1 qf0.2.1 (nth (resF b) k).2.2
  replace F := F.add hkn
  refine W.norm (M := anyMode) (by simp [hk, hkn]; rfl) ?_
  refine rE (M := anyMode) ?_
  refine ⟨rfl, ?_⟩
  refine W.block (M := anyMode) ?_
  by_cases hks : knS b k = true
  ·
   replace F := F.add hks
   have qw := qw0
   rw [(qN2 hks).1] at qw
   refine W.seqR (M := anyMode) ?_
   refine oN 2 ?_
   refine oC [] ?_
   refine ct (qw) ?_
   refine oN 5 ?_
   refine oK (M := anyMode) [2, 3, 4, 5, 7, 13] ?_
   refine rK (M := anyMode) [2, 3, 4, 5, 7, 13, 21] ?_
   refine cT (M := anyMode) ?_
   refine rK (M := anyMode) [2, 3] ?_
   refine W.ret (M := anyMode) ?_
   refine blockQ_r ?_
   refine RoundV.out (()) ?_ ?_ rfl (Le.fit (by simp [hk, hkn, hks]; rfl) (by rfl) (by rfl) (by rfl) (by trivial) ?_)
   ·
    exact v0
   ·
    trivial
   ·
    exact v1
  ·
   replace F := F.add hks
   have qw := qw0
   rw [qN1 (by simpa using hks)] at qw
   refine W.seqR (M := anyMode) ?_
   refine oN 2 ?_
   refine oC [] ?_
   refine ct (qw) ?_
   refine oN 5 ?_
   refine oK (M := anyMode) [2, 3, 4, 5, 7, 13] ?_
   refine rK (M := anyMode) [2, 3, 4, 5, 7, 13, 21] ?_
   refine cF (M := anyMode) ?_
   refine W.skip (M := anyMode) ?_
   refine blockQ_n ?_
   refine RoundV.go ?_ (Le.fit (by simp [hk, hkn, hks]; rfl) (by rfl) (by rfl) (by rfl) (by trivial) ?_)
   ·
    exact v0
   ·
    exact v1
 ·
  intro hbef
  refine ⟨(by simp; all_goals first | rfl | exact ⟨rfl, rfl⟩ | exact ⟨rfl, rfl, rfl⟩), ?_⟩
  refine Qnorm (by simp; rfl) ?_
  refine hK1 _ ?_
  clear hK1 K1
  refine rK (M := outMode) [2, 3] ?_
  refine W.ret (M := outMode) ?_
  refine er true [] [] ?_
  exact ⟨by rw [kn_all (fun j hj => hbef j (by rw [List.length_range, ← qn]; exact hj)), qn]; rfl, rfl⟩
 ·
  intro k hk hstop hbef _ hbx
  replace F := F.add hk
  refine ⟨(by simp [hk]; all_goals first | rfl | exact ⟨rfl, rfl⟩ | exact ⟨rfl, rfl, rfl⟩), ?_⟩
  refine Qnorm (by simp [hk]; rfl) ?_
  refine br (tr ?_)
  clear hK1 K1
  refine er true [] [] ?_
  have hkn : k < (resF b).length := by simpa [qn] using hk
  exact ⟨by rw [((kn_next hkn hbef).2 hstop).2]; rfl, rfl⟩
end Go.Sim
