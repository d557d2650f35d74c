/- Scales: for how many days a scale surely is within a limit. -/
import Derived.Test.YtfcmfoacedbleaaDoorLa
import Derived.Test.YtfcmfoacedbleaaDoorLb
namespace Go.Sim
open Go.Proofs
set_option maxRecDepth 100000
set_option linter.unusedSimpArgs false
set_option linter.unusedVariables false
attribute [-simp] List.map_set List.map_take List.map_drop
attribute [simp] spn_eta
def adv (a d : Spn) (k : Nat) : Spn := ⟨a.lo + k * d.lo, a.hi + k * d.hi⟩
def sure (x : Spn) (m : Int) : Bool := decide (-m ≤ x.lo ∧ x.hi ≤ m)
def lastC (a d : Spn) (m : Int) : Int := match (List.range 11).find? fun k => !sure (adv a d k) m with
  | some k => (k : Int) - 1
  | none => 10
def lastX (a d : Spn) (m : Int) : Int := if spanC a (-10000) 10000 ≠ 0 then spanC a (-10000) 10000 else if spanC d (-10000) 10000 ≠ 0 then spanC d (-10000) 10000 else if inB m 0 10000 = true then 0 else 1
def lastN (a d : Spn) (m : Int) : Int := if lastX a d m = 0 then lastC a d m else 0
theorem adv_zero (a d : Spn) : adv a d 0 = a := by unfold adv; simp
theorem adv_lo (a d : Spn) (k : Nat) : (adv a d (k + 1)).lo = (adv a d k).lo + d.lo := by unfold adv; simp only [Int.natCast_add, Int.natCast_one, Int.add_mul]; omega
theorem adv_hi (a d : Spn) (k : Nat) : (adv a d (k + 1)).hi = (adv a d k).hi + d.hi := by unfold adv; simp only [Int.natCast_add, Int.natCast_one, Int.add_mul]; omega
theorem adv_bd {a d : Spn} (ha : spanC a (-10000) 10000 = 0) (hd : spanC d (-10000) 10000 = 0) {k : Nat} (hk : k ≤ 11) : -200000 ≤ (adv a d k).lo ∧ (adv a d k).lo ≤ 200000 ∧ -200000 ≤ (adv a d k).hi ∧ (adv a d k).hi ≤ 200000 := by
  rw [spanC_zero] at ha hd
  unfold adv
  have hc : k = 0 ∨ k = 1 ∨ k = 2 ∨ k = 3 ∨ k = 4 ∨ k = 5 ∨ k = 6 ∨ k = 7 ∨ k = 8 ∨ k = 9 ∨ k = 10 ∨ k = 11 := by omega
  rcases hc with rfl | rfl | rfl | rfl | rfl | rfl | rfl | rfl | rfl | rfl | rfl | rfl <;> simp only [Int.cast_ofNat_Int] <;> omega
theorem lastC_at {a d : Spn} {m : Int} {k : Nat} (hk : k < 11) (h : ∀ j, j < k → sure (adv a d j) m = true) (hn : sure (adv a d k) m = false) : lastC a d m = (k : Int) - 1 := by
  have : (List.range 11).find? (fun k => !sure (adv a d k) m) = some k := by
    rw [List.find?_range_eq_some]
    exact ⟨by rw [hn]; rfl, List.mem_range.2 hk, fun j hj => by rw [h j hj]; rfl⟩
  unfold lastC; rw [this]
theorem lastC_all {a d : Spn} {m : Int} (h : ∀ j, j < 11 → sure (adv a d j) m = true) : lastC a d m = 10 := by
  have : (List.range 11).find? (fun k => !sure (adv a d k) m) = none := by
    rw [List.find?_eq_none]
    intro j hj
    rw [h j (List.mem_range.1 hj)]; simp
  unfold lastC; rw [this]
abbrev bS (x : Spn) : Obj := .row false 30 2 [spnV x]
set_option maxHeartbeats 4000000 in
theorem lst1_ok (x : Spn) : ACalls Tryd.prog 56 [.ptr 10000 0 0] [(10000, bS x)] (fun r o => r = I (spanC x (-10000) 10000) ∧ o = [(10000, bS x)]) := by
 have F := Fx.nil
 refine ent Tryd.func56 Tryd.ntmps56 Tryd.results56 ?_
 refine rK [0] ?_
 refine W.seqR ?_
 refine oN 1 ?_
 refine oC [] ?_
 refine ct (checkOff_ok ⟨_, _⟩) ?_
 refine oN 1 ?_
 refine oK [1] ?_
 refine W.ret ?_
 exact er0 false [] [(10000, 10000)]
set_option maxHeartbeats 4000000 in
theorem lst2_ok (x : Spn) : ACalls Tryd.prog 57 [.ptr 10000 0 0] [(10000, bS x)] (fun r o => r = I (spanC x (-10000) 10000) ∧ o = [(10000, bS x)]) := by
 have F := Fx.nil
 refine ent Tryd.func57 Tryd.ntmps57 Tryd.results57 ?_
 refine rK [0] ?_
 refine W.seqR ?_
 refine oN 1 ?_
 refine oC [] ?_
 refine ct (checkOff_ok ⟨_, _⟩) ?_
 refine oN 1 ?_
 refine oK [1] ?_
 refine W.ret ?_
 exact er0 false [] [(10000, 10000)]
def lst0 (a d : Spn) : Int := if spanC a (-10000) 10000 ≠ 0 then spanC a (-10000) 10000 else spanC d (-10000) 10000
theorem lastX_ne {a d : Spn} {m : Int} (h : ¬ lst0 a d = 0) : lastX a d m = lst0 a d ∧ lastN a d m = 0 := by
  have e : lastX a d m = lst0 a d := by
    unfold lst0 at h ⊢; unfold lastX
    by_cases h1 : spanC a (-10000) 10000 = 0
    · simp only [h1, ne_eq, not_true, if_false] at h ⊢
      rw [if_pos h]
    · rw [if_pos h1, if_pos h1]
  exact ⟨e, by unfold lastN; rw [e, if_neg h]⟩
theorem lastX_in {a d : Spn} {m : Int} (ha : spanC a (-10000) 10000 = 0) (hd : spanC d (-10000) 10000 = 0) (h : inB m 0 10000 = true) : lastX a d m = 0 ∧ lastN a d m = lastC a d m := by
  have e : lastX a d m = 0 := by unfold lastX; rw [if_neg (fun n => n ha), if_neg (fun n => n hd), if_pos h]
  exact ⟨e, by unfold lastN; rw [e, if_pos rfl]⟩
theorem lastX_out {a d : Spn} {m : Int} (ha : spanC a (-10000) 10000 = 0) (hd : spanC d (-10000) 10000 = 0) (h : ¬ inB m 0 10000 = true) : lastX a d m = 1 ∧ lastN a d m = 0 := by
  have e : lastX a d m = 1 := by unfold lastX; rw [if_neg (fun n => n ha), if_neg (fun n => n hd), if_neg h]
  exact ⟨e, by unfold lastN; rw [e, if_neg (by decide)]⟩
abbrev fsL : Obj := .row false 70 1 [.clo 56 [.ptr 10001 0 0], .clo 57 [.ptr 10002 0 0]]
set_option maxHeartbeats 4000000 in
theorem firstL_ok (a d : Spn) : ACalls Tryd.prog 21 [.own 10000 0 2] [(10000, fsL), (10001, bS a), (10002, bS d)] (fun r o => r = I (lst0 a d) ∧ o = [(10000, fsL), (10001, bS a), (10002, bS d)]) := by
 have F := Fx.nil
 refine ent Tryd.func21 Tryd.ntmps21 Tryd.results21 ?_
 refine rK [0] ?_
 refine W.seqk fun K1 hK1 => ?_
 refine rK [6, 7, 8] ?_
 refine W.block ?_
 refine lpa (α := Nat) [6, 7] [13] [] (fun i => [(8, I i)]) (fun i => []) (fun i => i ≤ 2 ∧ (0 < i → spanC a (-10000) 10000 = 0) ∧ (1 < i → spanC d (-10000) 10000 = 0)) (fun i => 2 - i) 0 v0 ?_
 ·
  intro i hI0
  simp only [List.cons_append, List.nil_append]
  try dsimp only at hI0
  obtain ⟨hi, k1, k2⟩ := hI0
  replace F := F.add hi
  refine rK [6, 7, 8, 9] ?_
  refine W.seqk fun K2 hK2 => ?_
  refine it (fun hc1 => ?_) (fun hc1 => ?_)
  ·
   try simp at hc1
   replace F := F.add hc1
   refine W.skip ?_
   refine hK2 _ ?_
   clear hK2 K2
   refine W.seqk fun K3 hK3 => ?_
   refine W.block ?_
   by_cases hi0 : i = 0
   ·
    replace F := F.add hi0
    refine rK [4, 6, 7, 8] ?_
    refine W.seqR ?_
    refine oN 1 ?_
    refine oC [(10000, 10001)] ?_
    refine ct ((lst1_ok a)) ?_
    refine oN 1 ?_
    refine oK [5, 6, 7, 8] ?_
    refine rK [5, 6, 7, 8, 15] ?_
    refine it (fun hc2 => ?_) (fun hc2 => ?_)
    ·
     try simp at hc2
     replace F := F.add hc2
     refine rK [2] ?_
     refine W.ret ?_
     refine br (tr (tr (br (tr ?_))))
     clear hK3 K3 hK1 K1
     refine er false [] [(10000, 10000), (10001, 10001), (10002, 10002)] ?_
     (exact ⟨congrArg I (by unfold lst0; rw [if_pos (by assumption)]), rfl⟩)
    ·
     try simp at hc2
     replace F := F.add hc2
     refine W.skip ?_
     refine hK3 _ ?_
     clear hK3 K3
     refine rEw ?_
     refine ⟨i + 1, lf0, ?_, v0⟩
     ·
      exact ⟨by omega, fun _ => by first | assumption | exact k1 (by omega), fun _ => by first | (exfalso; omega) | assumption⟩
   ·
    replace F := F.add hi0
    have hi1 : i = 1 := by omega
    replace F := F.add hi1
    refine rK [4, 6, 7, 8] ?_
    refine W.seqR ?_
    refine oN 1 ?_
    refine oC [(10000, 10002)] ?_
    refine ct ((lst2_ok d)) ?_
    refine oN 1 ?_
    refine oK [5, 6, 7, 8] ?_
    refine rK [5, 6, 7, 8, 15] ?_
    refine it (fun hc3 => ?_) (fun hc3 => ?_)
    ·
     try simp at hc3
     replace F := F.add hc3
     refine rK [2] ?_
     refine W.ret ?_
     refine br (tr (tr (br (tr ?_))))
     clear hK3 K3 hK1 K1
     refine er false [] [(10000, 10000), (10001, 10001), (10002, 10002)] ?_
     exact ⟨congrArg I (by unfold lst0; rw [if_neg (fun h => h (k1 (by omega)))]), rfl⟩
    ·
     try simp at hc3
     replace F := F.add hc3
     refine W.skip ?_
     refine hK3 _ ?_
     clear hK3 K3
     refine rEw ?_
     refine ⟨i + 1, lf0, ?_, v0⟩
     ·
      exact ⟨by omega, fun _ => by first | assumption | exact k1 (by omega), fun _ => by first | (exfalso; omega) | assumption⟩
  ·
   try simp at hc1
   replace F := F.add hc1
   refine W.exit ?_
   refine hK1 _ ?_
   clear hK2 K2 hK1 K1
   refine rK [2] ?_
   refine W.ret ?_
   refine er false [] [(10000, 10000), (10001, 10001), (10002, 10002)] ?_
   exact ⟨congrArg I (by unfold lst0; rw [if_neg (fun h => h (k1 (by omega))), k2 (by omega)]), rfl⟩
set_option maxHeartbeats 4000000 in
theorem Lasts_ok (a d : Spn) (m : Int) : ACalls Tryd.prog 15 [spnV a, spnV d, I m] [] (fun r o => r = .tup [I (lastN a d m), I (lastX a d m)] ∧ o = []) := by
 have F := Fx.nil
 refine ent Tryd.func15 Tryd.ntmps15 Tryd.results15 ?_
 refine rK [2, 3, 4] ?_
 refine W.seqk fun K1 hK1 => ?_
 refine W.seqR ?_
 refine oN 2 ?_
 refine WOps.rawL hΓ 96 rfl rfl rfl rfl rfl rfl rfl (by simp; all_goals first | rfl | exact ⟨rfl, rfl⟩) rfl rfl (by decide) (by simp; all_goals first | rfl | exact ⟨rfl, rfl⟩) rfl (by simp; all_goals first | rfl | exact ⟨rfl, rfl⟩) ?_
 refine oC [(10000, 96), (10001, 24), (10002, 32)] ?_
 refine ct (firstL_ok a d) ?_
 refine oN 1 ?_
 refine oK [2, 3, 4, 8] ?_
 refine rK [2, 3, 4, 8, 15] ?_
 refine it (fun hc1 => ?_) (fun hc1 => ?_)
 ·
  try simp at hc1
  replace F := F.add hc1
  refine rK [6, 7] ?_
  refine W.ret ?_
  refine tr ?_
  clear hK1 K1
  refine er false [] [] ?_
  rw [(lastX_ne (by assumption)).1, (lastX_ne (by assumption)).2]; exact ⟨rfl, rfl⟩
 ·
  try simp at hc1
  replace F := F.add hc1
  refine W.skip ?_
  refine hK1 _ ?_
  clear hK1 K1
  refine W.seqk fun K2 hK2 => ?_
  by_cases hmr : inB m 0 10000 = true
  ·
   replace F := F.add hmr
   have q0 : lst0 a d = 0 := by first | assumption | omega
   have qa : spanC a (-10000) 10000 = 0 := by unfold lst0 at q0; split at q0 <;> omega
   have qd : spanC d (-10000) 10000 = 0 := by unfold lst0 at q0; split at q0 <;> omega
   refine W.seqR ?_
   refine oN 1 ?_
   refine oC [] ?_
   refine ct (in_ok _ _ _) ?_
   refine oN 1 ?_
   refine oK [2, 3, 4, 19] ?_
   refine cF ?_
   refine W.skip ?_
   refine hK2 _ ?_
   clear hK2 K2
   have hm1 : 0 ≤ m := by have := inB_iff.1 hmr; omega
   have hm2 : m ≤ 10000 := by have := inB_iff.1 hmr; omega
   have hwn : IntKind.i64.wrap (-m) = -m := wrap_i64 (by omega) (by omega)
   have qdd := spanC_zero.1 qd
   have hd1 : -10000 ≤ d.lo := qdd.1
   have hd2 : d.lo ≤ d.hi := qdd.2.1
   have hd3 : d.hi ≤ 10000 := qdd.2.2
   replace F := F.add hm1 |>.add hm2 |>.add hwn |>.add hd1 |>.add hd2 |>.add hd3
   refine rK [2, 3, 4, 9] ?_
   refine W.seqk fun K3 hK3 => ?_
   refine W.block ?_
   refine lp (α := Nat) [2, 3, 4] [] [24] (fun k => [(9, I ((k : Int) - 1))]) (fun k => [(24, bS (adv a d k))]) (fun k => k ≤ 11 ∧ ∀ j, j < k → sure (adv a d j) m = true) (fun k => 11 - k) 0 ?_ ?_ v0 ?_
   ·
    exact v1
   ·
    try (simp [Fx.get F])
    all_goals (
     exact ⟨by rw [adv_zero], by rw [adv_zero]⟩
    )
   ·
    intro k hI0
    simp only [List.cons_append, List.nil_append]
    try dsimp only at hI0
    obtain ⟨hk, kd⟩ := hI0
    replace F := F.add hk
    refine W.seqk fun K4 hK4 => ?_
    have qb := adv_bd qa qd hk
    have hb1 : -200000 ≤ (adv a d k).lo := qb.1
    have hb2 : (adv a d k).lo ≤ 200000 := qb.2.1
    have hb3 : -200000 ≤ (adv a d k).hi := qb.2.2.1
    have hb4 : (adv a d k).hi ≤ 200000 := qb.2.2.2
    replace F := F.add hb1 |>.add hb2 |>.add hb3 |>.add hb4
    refine W.seqR ?_
    refine oN 3 ?_
    refine gX ?_
    refine gX ?_
    refine gX ?_
    refine gX ?_
    refine gX ?_
    refine oN 2 ?_
    refine gX ?_
    refine gX ?_
    refine gX ?_
    refine gX ?_
    refine oN 1 ?_
    refine oK [2, 3, 4, 9, 34] ?_
    refine it (fun hc3 => ?_) (fun hc3 => ?_)
    ·
     try simp at hc3
     replace F := F.add hc3
     refine W.skip ?_
     refine hK4 _ ?_
     clear hK4 K4
     refine W.block ?_
     refine rKw [2, 3, 4, 9] ?_
     refine wDe 12 [(11, [24])] [[], [0], [], [2], [2, 3, 0, 1], [], [5], [], [7], [7, 8, 5, 6], [6, 5, 4, 3, 2, 1, 0], [0, 1, 2, 3, 4, 5, 6, 10], [11, 10, 9, 8, 7, 6, 5, 4, 3, 2, 1, 0], [0, 1, 2, 3, 4, 5, 6, 7, 8, 9, 10, 11, 12]] ?_
     refine dBw [([39, 40, 42, 43, 44, 45, 46], [], []), ([39, 40, 42, 43, 44, 45, 46], [true], []), ([37, 38, 42, 43, 44, 45, 46], [false, false], []), ([37, 38, 42, 43, 44, 45, 46], [false, false, true], []), ([42, 43, 44, 45, 46], [true, true, true, true], []), ([37, 38, 39, 40, 41, 44, 45], [false, false, false, false, false], []), ([37, 38, 39, 40, 41, 44, 45], [false, false, false, false, false, true], []), ([37, 38, 39, 40, 41, 42, 43, 47], [false, false, false, false, false, false, false], [24]), ([37, 38, 39, 40, 41, 42, 43, 47], [false, false, false, false, false, false, false, true], [24]), ([37, 38, 39, 40, 41, 47], [false, false, false, false, false, true, true, true, true], [24]), ([44, 45, 46], [true, true, true, true, true, true, true, false, false, false], [])] 1 11 ?_
     refine WDraw.upd hΓ [24] (viewB_eq (L := [44, 45, 46]) (S := [true, true, true, true, true, true, true, false, false, false, true]) (O := []) (by kernel_rfl) (by kernel_rfl) (by simp [hc1, hmr, hm1, hm2, hwn, hd1, hd2, hd3, hk, hb1, hb2, hb3, hb4, hc3]; rfl)) (by first | rfl | simp) (by simp [hc1, hmr, hm1, hm2, hwn, hd1, hd2, hd3, hk, hb1, hb2, hb3, hb4, hc3]; first | rfl | exact ⟨rfl, rfl⟩) (by simp [hc1, hmr, hm1, hm2, hwn, hd1, hd2, hd3, hk, hb1, hb2, hb3, hb4, hc3]; first | done | rfl) (.inr (by simp)) (by simp [hc1, hmr, hm1, hm2, hwn, hd1, hd2, hd3, hk, hb1, hb2, hb3, hb4, hc3]; rfl) ?_
     refine dD ?_
     refine WOps.le Le.dedup rfl rfl ?_
     refine WOps.norm (by simp [hc1, hmr, hm1, hm2, hwn, hd1, hd2, hd3, hk, hb1, hb2, hb3, hb4, hc3]; rfl) ?_
     refine oN 1 ?_
     refine oN 1 ?_
     refine WOps.endK ?_
     refine bn ?_
     refine ⟨k + 1, lf ?_ ?_, ?_, v0⟩
     ·
      exact v1
     ·
      try (simp [Fx.get F])
      all_goals (
       exact ⟨by rw [adv_lo], by rw [adv_hi]⟩
      )
     ·
      refine ⟨by omega, fun j hj => ?_⟩
      by_cases e : j = k
      · subst e; exact decide_eq_true ⟨by omega, by omega⟩
      · exact kd j (by omega)
    ·
     try simp at hc3
     replace F := F.add hc3
     refine W.exit ?_
     refine hK3 _ ?_
     clear hK4 K4 hK3 K3
     refine rK [6, 7] ?_
     refine W.ret ?_
     refine er false [] [] ?_
     have qC : lastC a d m = (k : Int) - 1 := by
       by_cases e : k = 11
       · subst e; rw [lastC_all kd]; rfl
       · refine lastC_at (by omega) kd (decide_eq_false fun hh => ?_)
         obtain ⟨h1, h2⟩ := hh
         clear kd
         omega
     rw [(lastX_in qa qd hmr).1, (lastX_in qa qd hmr).2, qC]; exact ⟨rfl, rfl⟩
  ·
   replace F := F.add hmr
   have q0 : lst0 a d = 0 := by first | assumption | omega
   have qa : spanC a (-10000) 10000 = 0 := by unfold lst0 at q0; split at q0 <;> omega
   have qd : spanC d (-10000) 10000 = 0 := by unfold lst0 at q0; split at q0 <;> omega
   refine W.seqR ?_
   refine oN 1 ?_
   refine oC [] ?_
   refine ct (in_ok _ _ _) ?_
   refine oN 1 ?_
   refine oK [2, 3, 4, 19] ?_
   refine cT ?_
   refine rK [6, 7] ?_
   refine W.ret ?_
   refine tr ?_
   clear hK2 K2
   refine er false [] [] ?_
   rw [(lastX_out qa qd hmr).1, (lastX_out qa qd hmr).2]; exact ⟨rfl, rfl⟩
end Go.Sim
