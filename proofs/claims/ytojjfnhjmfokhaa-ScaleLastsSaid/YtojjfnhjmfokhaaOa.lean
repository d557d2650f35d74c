/- Days within a limit: the law answers true. -/
import Derived.Test.YtojjfnhjmfokhaaLo
import Derived.Test.YtojjfnhjmfokhaaLn
namespace Go.Sim
open Go.Proofs
set_option maxRecDepth 100000
set_option linter.unusedSimpArgs false
set_option linter.unusedVariables false
attribute [-simp] List.map_set List.map_take List.map_drop
attribute [simp] spn_eta
theorem lastC_spec {a d : Spn} {m : Int} : ∃ k : Nat, k ≤ 11 ∧ lastC a d m = (k : Int) - 1 ∧ (∀ j, j < k → sure (adv a d j) m = true) ∧ (k < 11 → sure (adv a d k) m = false) := by
  unfold lastC
  cases h : (List.range 11).find? fun k => !sure (adv a d k) m with
  | some k =>
    rw [List.find?_range_eq_some] at h
    obtain ⟨h1, h2, h3⟩ := h
    have h4 := List.mem_range.1 h2
    exact ⟨k, by omega, rfl, fun j hj => by simpa using h3 j hj, fun _ => by simpa using h1⟩
  | none =>
    rw [List.find?_eq_none] at h
    exact ⟨11, Nat.le_refl _, rfl, fun j hj => by simpa using h j (List.mem_range.2 hj), fun n => absurd n (by omega)⟩
theorem sure_iff {x : Spn} {m : Int} : sure x m = true ↔ -m ≤ x.lo ∧ x.hi ≤ m := by simp [sure]
theorem sure_not {x : Spn} {m : Int} : sure x m = false ↔ ¬ (-m ≤ x.lo ∧ x.hi ≤ m) := by simp [sure]
set_option maxHeartbeats 4000000 in
theorem ScaleLasts_ok (nums : List Int) : ACalls Try.prog 5 [ints nums] [] (fun r o => r = B true ∧ o = []) := by
 have F := Fx.nil
 refine ent Try.func5 Try.ntmps5 Try.results5 ?_
 refine rK [0] ?_
 refine W.seqR ?_
 refine oN 1 ?_
 refine oC [] ?_
 refine CallT.mk (DieOf_ok nums) (by simp) ?_
 obtain ⟨f, qf⟩ : ∃ f, nums.foldl dieStep 2611923443488327891 = f := ⟨_, rfl⟩
 have hf := qf
 replace F := F.add hf
 refine WOps.norm (by simp [hf]; rfl) ?_
 refine oN 1 ?_
 refine oK [3] ?_
 refine W.seqR ?_
 refine oN 1 ?_
 refine oC [(10000, 112)] ?_
 refine CallT.mkE (Span_E f (-9) 9 (by omega) (by omega) (by omega)) (fun z16 hz16 => ⟨(by simp [hf]), ?_⟩)
 refine WOps.norm (by simp [hf]; rfl) ?_
 refine oN 1 ?_
 refine oC [(10000, 112)] ?_
 refine CallT.mkE (Span_E z16.2 (-3) 3 (by omega) (by omega) (by omega)) (fun z18 hz18 => ⟨(by simp [hf]), ?_⟩)
 refine WOps.norm (by simp [hf]; rfl) ?_
 refine oN 1 ?_
 refine oC [(10000, 112)] ?_
 refine CallT.mkE (Cast_E z18.2 30 (by omega) (by omega)) (fun z20 hz20 => ⟨(by simp [hf]), ?_⟩)
 refine WOps.norm (by simp [hf]; rfl) ?_
 refine oN 5 ?_
 refine oK [3, 4, 5, 6] ?_
 obtain ⟨a, g1⟩ := z16
 obtain ⟨d, g2⟩ := z18
 obtain ⟨m, g3⟩ := z20
 have har : -9 ≤ a.lo ∧ a.lo ≤ a.hi ∧ a.hi ≤ 9 := hz16
 have hdr : -3 ≤ d.lo ∧ d.lo ≤ d.hi ∧ d.hi ≤ 3 := hz18
 have hmr : 0 ≤ m ∧ m ≤ 29 := hz20
 have qsa : spanC a (-10000) 10000 = 0 := spanC_zero.2 (by omega)
 have qsd : spanC d (-10000) 10000 = 0 := spanC_zero.2 (by omega)
 have hlx : lastX a d m = 0 := (lastX_in qsa qsd (inB_iff.2 (by omega))).1
 have qln := (lastX_in qsa qsd (inB_iff.2 (show 0 ≤ m ∧ m ≤ 10000 by omega))).2
 obtain ⟨k0, qk0, qk1, qk2, qk3⟩ := lastC_spec (a := a) (d := d) (m := m)
 have hln : lastN a d m = (k0 : Int) - 1 := by rw [qln, qk1]
 have hk11 : k0 ≤ 11 := qk0
 have hkm1 : ¬ ((k0 : Int) - 1 < -1) := by omega
 have hkm2 : ¬ (10 < (k0 : Int) - 1) := by omega
 have hkm3 : -1 ≤ (k0 : Int) - 1 := by omega
 have hkm4 : (k0 : Int) - 1 ≤ 10 := by omega
 replace F := F.add har |>.add hdr |>.add hmr |>.add hlx |>.add hln |>.add hk11 |>.add hkm1 |>.add hkm2 |>.add hkm3 |>.add hkm4
 refine W.seqR ?_
 refine oN 3 ?_
 refine oC [] ?_
 refine ct (Lasts_ok a d m) ?_
 refine oN 5 ?_
 refine oK [3, 4, 5, 6, 7, 8] ?_
 refine W.seqk fun K1 hK1 => ?_
 refine W.seqR ?_
 refine oN 3 ?_
 refine gT ?_
 refine gT ?_
 refine oN 2 ?_
 refine gT ?_
 refine gT ?_
 refine oN 1 ?_
 refine oK [3, 4, 5, 6, 7, 37] ?_
 refine cF ?_
 refine W.skip ?_
 refine hK1 _ ?_
 clear hK1 K1
 refine W.seqR ?_
 refine oN 2 ?_
 refine oC [(10000, 112)] ?_
 refine ct (True_ok g3 a (by omega) (by omega) (by omega)) ?_
 refine oN 1 ?_
 refine oK [3, 4, 5, 6, 7, 9] ?_
 refine W.seqk fun K2 hK2 => ?_
 refine rK [3, 4, 5, 6, 7, 9, 10] ?_
 refine W.block ?_
 refine lpa (α := Nat × Int × Int) [3, 4, 5, 6, 7] [58] [112] (fun x => [(10, I x.1), (9, I x.2.1)]) (fun x => [(112, die x.2.2)]) (fun x => x.1 ≤ k0 ∧ (adv a d x.1).lo ≤ x.2.1 ∧ x.2.1 ≤ (adv a d x.1).hi) (fun x => k0 - x.1) (0, truV g3 a, truF g3 a) ?_ ?_
 ·
  exact ⟨Nat.zero_le _, by rw [adv_zero]; exact (truV_range g3 (by omega)).1, by rw [adv_zero]; exact (truV_range g3 (by omega)).2⟩
 ·
  intro ⟨k, now, g⟩ hI0
  simp only [List.cons_append, List.nil_append]
  try dsimp only at hI0
  obtain ⟨hk, hn1, hn2⟩ := hI0
  replace F := F.add hk |>.add hn1 |>.add hn2
  refine W.seqk fun K3 hK3 => ?_
  refine rK [3, 4, 5, 6, 7, 9, 10, 43] ?_
  refine it (fun hc2 => ?_) (fun hc2 => ?_)
  ·
   try simp at hc2
   replace F := F.add hc2
   refine W.skip ?_
   refine hK3 _ ?_
   clear hK3 K3
   refine W.seqk fun K4 hK4 => ?_
   refine W.block ?_
   refine W.seqk fun K5 hK5 => ?_
   have hkk : k < k0 := by omega
   have qsr := sure_iff.1 (qk2 k hkk)
   have hnm1 : ¬ now < -m := by omega
   have hnm2 : ¬ m < now := by omega
   have hnm3 : -m ≤ now := by omega
   have hnm4 : now ≤ m := by omega
   have qtr := truV_range g (x := d) (by omega)
   have htr1 : -3 ≤ truV g d := by omega
   have htr2 : truV g d ≤ 3 := by omega
   have qa1 := adv_lo a d k
   have qa2 := adv_hi a d k
   replace F := F.add hkk |>.add hnm1 |>.add hnm2 |>.add hnm3 |>.add hnm4 |>.add htr1 |>.add htr2
   refine W.seqR ?_
   refine oNw 5 ?_
   refine gT ?_
   refine gT ?_
   refine gT ?_
   refine oN 1 ?_
   refine oK [3, 4, 5, 6, 7, 9, 10, 54] ?_
   refine cF ?_
   refine W.skip ?_
   refine hK5 _ ?_
   clear hK5 K5
   refine W.region ?_
   refine oN 3 ?_
   refine oC [(10000, 112)] ?_
   refine ct (True_ok g d (by omega) (by omega) (by omega)) ?_
   refine oNw 2 ?_
   refine WOps.endK ?_
   refine hK4 _ ?_
   clear hK4 K4
   refine rEw ?_
   refine ⟨(k + 1, now + truV g d, truF g d), lf0, v0, v0⟩
  ·
   try simp at hc2
   replace F := F.add hc2
   refine W.exit ?_
   refine hK2 _ ?_
   clear hK3 K3 hK2 K2
   refine W.seqk fun K6 hK6 => ?_
   refine rK [4, 5, 6, 7, 61] ?_
   refine it (fun hc4 => ?_) (fun hc4 => ?_)
   ·
    try simp at hc4
    replace F := F.add hc4
    have hk10 : k0 < 11 := by omega
    have hk1e : (k0 : Int) - 1 + 1 = k0 := by omega
    obtain ⟨p, qp⟩ : ∃ p, (adv a d k0).lo = p := ⟨_, rfl⟩
    obtain ⟨q, qq⟩ : ∃ q, (adv a d k0).hi = q := ⟨_, rfl⟩
    have qbd := adv_bd qsa qsd (k := k0) (by omega)
    rw [qp, qq] at qbd
    have qp2 : a.lo + (k0 : Int) * d.lo = p := qp
    have qq2 : a.hi + (k0 : Int) * d.hi = q := qq
    have hm1 : mulI .i64 (k0 : Int) d.lo = p - a.lo := by rw [mulI_eq, show (k0 : Int) * d.lo = p - a.lo by omega]; exact wrap_i64 (by omega) (by omega)
    have hm2 : mulI .i64 (k0 : Int) d.hi = q - a.hi := by rw [mulI_eq, show (k0 : Int) * d.hi = q - a.hi by omega]; exact wrap_i64 (by omega) (by omega)
    have hp2 := qp2
    have hq2 := qq2
    have he1 : a.lo + (p - a.lo) = p := by omega
    have he2 : a.hi + (q - a.hi) = q := by omega
    have qns := sure_not.1 (qk3 hk10)
    rw [qp, qq] at qns
    replace F := F.add hk10 |>.add hk1e |>.add hm1 |>.add hm2 |>.add hp2 |>.add hq2 |>.add he1 |>.add he2
    refine wD 17 [] [[], [0], [], [2], [], [4], [4, 5, 2, 3], [3, 2, 5, 4, 6, 0, 1], [], [8], [], [10], [], [12], [12, 13, 10, 11], [11, 10, 13, 12, 14, 8, 9], [1, 0, 6, 4, 5, 2, 3, 7], [7, 3, 2, 5, 4, 6, 0, 1, 16, 9, 8, 14, 12, 13, 10, 11, 15]] ?_
    refine dBw [([64, 65, 66, 67, 68, 70, 71, 72, 73, 74, 75, 76, 77], [], []), ([64, 65, 66, 67, 68, 70, 71, 72, 73, 74, 75, 76, 77], [true], []), ([62, 63, 66, 67, 70, 71, 72, 73, 74, 75, 76, 77], [false, false], []), ([62, 63, 66, 67, 70, 71, 72, 73, 74, 75, 76, 77], [false, false, true], []), ([62, 63, 64, 65, 70, 71, 72, 73, 74, 75, 76, 77], [false, false, false, false], []), ([62, 63, 64, 65, 70, 71, 72, 73, 74, 75, 76, 77], [false, false, false, false, true], []), ([62, 63, 70, 71, 72, 73, 74, 75, 76, 77], [false, false, true, true, true, true], []), ([70, 71, 72, 73, 74, 75, 76, 77], [true, true, true, true, true, true, true], []), ([62, 63, 64, 65, 66, 67, 68, 69, 72, 73, 74, 75, 76, 11], [false, false, false, false, false, false, false, false], []), ([62, 63, 64, 65, 66, 67, 68, 69, 72, 73, 74, 75, 76, 11], [false, false, false, false, false, false, false, false, true], []), ([62, 63, 64, 65, 66, 67, 68, 69, 70, 71, 74, 75, 11], [false, false, false, false, false, false, false, false, false, false], []), ([62, 63, 64, 65, 66, 67, 68, 69, 70, 71, 74, 75, 11], [false, false, false, false, false, false, false, false, false, false, true], []), ([62, 63, 64, 65, 66, 67, 68, 69, 70, 71, 72, 73, 11], [false, false, false, false, false, false, false, false, false, false, false, false], []), ([62, 63, 64, 65, 66, 67, 68, 69, 70, 71, 72, 73, 11], [false, false, false, false, false, false, false, false, false, false, false, false, true], []), ([62, 63, 64, 65, 66, 67, 68, 69, 70, 71, 11], [false, false, false, false, false, false, false, false, false, false, true, true, true, true], []), ([62, 63, 64, 65, 66, 67, 68, 69, 11], [false, false, false, false, false, false, false, false, true, true, true, true, true, true, true], []), ([70, 71, 72, 73, 74, 75, 76, 77], [true, true, true, true, true, true, true, true, false, false, false, false, false, false, false, false], [])] 0 17 ?_
    refine dD ?_
    refine oN 1 ?_
    refine oK [6, 11, 12] ?_
    by_cases hlo : p < -m
    ·
     replace F := F.add hlo
     refine W.seqR ?_
     refine oNw 5 ?_
     refine gF ?_
     refine gF ?_
     refine gF ?_
     refine oN 2 ?_
     refine gC [] ?_
     refine ct (awake_ok) ?_
     refine oN 2 ?_
     refine oK [2] ?_
     refine W.ret ?_
     refine tr ?_
     clear hK6 K6
     exact er0 false [] []
    ·
     replace F := F.add hlo
     have hlo2 : m < q := by omega
     have hlo3 : -m ≤ p := by omega
     replace F := F.add hlo2 |>.add hlo3
     refine W.seqR ?_
     refine oNw 5 ?_
     refine gT ?_
     refine gT ?_
     refine gT ?_
     refine oN 2 ?_
     refine gC [] ?_
     refine ct (awake_ok) ?_
     refine oN 2 ?_
     refine oK [2] ?_
     refine W.ret ?_
     refine tr ?_
     clear hK6 K6
     exact er0 false [] []
   ·
    try simp at hc4
    replace F := F.add hc4
    refine W.skip ?_
    refine hK6 _ ?_
    clear hK6 K6
    refine W.seqR ?_
    refine oC [] ?_
    refine ct (awake_ok) ?_
    refine oN 1 ?_
    refine oK [2] ?_
    refine W.ret ?_
    exact er0 false [] []
end Go.Sim
