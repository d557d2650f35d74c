/- The draw and the ranks of any letting; lettings that are compared. -/
import Derived.Test.YtmkclhnokelicaaNd
import Derived.Test.YtmkclhnokelicaaLv
namespace Go.Sim
open Go.Proofs
set_option maxRecDepth 100000
set_option linter.unusedSimpArgs false
set_option linter.unusedVariables false
attribute [-simp] List.map_set List.map_take List.map_drop
def drawA (l : Lett) : List Int := if checkL l = 0 then drawL l.apps else []
set_option maxHeartbeats 4000000 in
theorem Draw_err (l : Lett) (hn : ¬ checkL l = 0) : ACalls Try.prog 15 [letV l] [] (fun r o => r = .tup [ints [], I (checkL l)] ∧ o = []) := by
 have F := Fx.nil
 replace F := F.add hn
 refine ent Try.func15 Try.ntmps15 Try.results15 ?_
 refine rK [1] ?_
 refine W.seqk fun K1 hK1 => ?_
 refine W.seqR ?_
 refine oN 1 ?_
 refine oC [] ?_
 refine ct (Check_ok _) ?_
 refine oN 1 ?_
 refine oK [1, 4] ?_
 refine rK [1, 4, 8] ?_
 refine cT ?_
 refine rK [2, 3] ?_
 refine W.weaken (Le.immNil (t := 2) (by first | rfl | simp)) ?_
 refine W.ret ?_
 refine tr ?_
 clear hK1 K1
 refine er false [] [] ?_
 exact ⟨rfl, rfl⟩
theorem DrawA_ok (l : Lett) : ACalls Try.prog 15 [letV l] [] (fun r o => r = .tup [ints (drawA l), I (checkL l)] ∧ o = []) := by
  by_cases h : checkL l = 0
  · have := Draw_ok l (checkL_zero.1 h)
    rw [drawA, if_pos h, h]; exact this
  · rw [drawA, if_neg h]; exact Draw_err l h
set_option maxHeartbeats 4000000 in
theorem rDraw_v (l : Lett) (hv : ValidL l) : ACalls Try.prog 41 [letV l] [] (fun r o => r = .tup [ints (drawL l.apps), I 0] ∧ o = []) := by
 have F := Fx.nil
 refine ent Try.func41 Try.ntmps41 Try.results41 ?_
 have hck : checkL l = 0 := checkL_zero.2 hv
 replace F := F.add hck
 refine rK [1] ?_
 refine W.seqk fun K1 hK1 => ?_
 refine W.seqR ?_
 refine oN 1 ?_
 refine oC [] ?_
 refine ct (rCheck_ok _) ?_
 refine oN 1 ?_
 refine oK [1, 4] ?_
 refine rK [1, 4, 8] ?_
 refine cF ?_
 refine W.skip ?_
 refine hK1 _ ?_
 clear hK1 K1
 refine W.seqR ?_
 refine oN 1 ?_
 refine oC [] ?_
 refine ct (rdraw_imm _ hv) ?_
 refine oN 2 ?_
 refine oK [2, 3] ?_
 refine W.ret ?_
 exact er0 false [] []
set_option maxHeartbeats 4000000 in
theorem rDraw_err (l : Lett) (hn : ¬ checkL l = 0) : ACalls Try.prog 41 [letV l] [] (fun r o => r = .tup [ints [], I (checkL l)] ∧ o = []) := by
 have F := Fx.nil
 replace F := F.add hn
 refine ent Try.func41 Try.ntmps41 Try.results41 ?_
 refine rK [1] ?_
 refine W.seqk fun K1 hK1 => ?_
 refine W.seqR ?_
 refine oN 1 ?_
 refine oC [] ?_
 refine ct (rCheck_ok _) ?_
 refine oN 1 ?_
 refine oK [1, 4] ?_
 refine rK [1, 4, 8] ?_
 refine cT ?_
 refine rK [2, 3] ?_
 refine W.weaken (Le.immNil (t := 2) (by first | rfl | simp)) ?_
 refine W.ret ?_
 refine tr ?_
 clear hK1 K1
 refine er false [] [] ?_
 exact ⟨rfl, rfl⟩
theorem rDrawA_ok (l : Lett) : ACalls Try.prog 41 [letV l] [] (fun r o => r = .tup [ints (drawA l), I (checkL l)] ∧ o = []) := by
  by_cases h : checkL l = 0
  · have := rDraw_v l (checkL_zero.1 h)
    rw [drawA, if_pos h, h]; exact this
  · rw [drawA, if_neg h]; exact rDraw_err l h
/-- the error of a letting and a stall -/
def rankE (l : Lett) (n : Int) : Int := if ¬ checkL l = 0 then checkL l else if 0 ≤ n ∧ n ≤ (l.stalls.length : Int) - 1 then 0 else 3
def rankA (l : Lett) (n : Int) : List Int := if rankE l n = 0 then rankL l n.toNat else []
set_option maxHeartbeats 4000000 in
theorem Ranks_e1 (l : Lett) (n : Int) (hn : ¬ checkL l = 0) : ACalls Try.prog 42 [letV l, I n] [] (fun r o => r = .tup [ints [], I (checkL l)] ∧ o = []) := by
 have F := Fx.nil
 replace F := F.add hn
 refine ent Try.func42 Try.ntmps42 Try.results42 ?_
 refine rK [1, 2] ?_
 refine W.seqk fun K1 hK1 => ?_
 refine W.seqR ?_
 refine oN 1 ?_
 refine oC [] ?_
 refine ct (Check_ok _) ?_
 refine oN 1 ?_
 refine oK [1, 2, 6] ?_
 refine rK [1, 2, 6, 12] ?_
 refine cT ?_
 refine rK [4, 5] ?_
 refine W.weaken (Le.immNil (t := 4) (by first | rfl | simp)) ?_
 refine W.ret ?_
 refine tr ?_
 clear hK1 K1
 refine er false [] [] ?_
 exact ⟨rfl, rfl⟩
set_option maxHeartbeats 4000000 in
theorem Ranks_e2 (l : Lett) (n : Int) (hv : ValidL l) (hn : ¬ (0 ≤ n ∧ n ≤ (l.stalls.length : Int) - 1)) : ACalls Try.prog 42 [letV l, I n] [] (fun r o => r = .tup [ints [], I 3] ∧ o = []) := by
 have F := Fx.nil
 refine ent Try.func42 Try.ntmps42 Try.results42 ?_
 have hck : checkL l = 0 := checkL_zero.2 hv
 have hs8 := hv.s8
 have hw1 : IntKind.i64.wrap ((l.stalls.length : Int) - 1) = (l.stalls.length : Int) - 1 := wrap_i64 (by omega) (by omega)
 have hnn : (decide (0 ≤ n) && decide (n ≤ (l.stalls.length : Int) - 1)) = false := by rw [Bool.and_eq_false_iff, decide_eq_false_iff_not, decide_eq_false_iff_not]; omega
 replace F := F.add hck |>.add hs8 |>.add hw1 |>.add hnn
 refine rK [1, 2] ?_
 refine W.seqk fun K1 hK1 => ?_
 refine W.seqR ?_
 refine oN 1 ?_
 refine oC [] ?_
 refine ct (Check_ok _) ?_
 refine oN 1 ?_
 refine oK [1, 2, 6] ?_
 refine rK [1, 2, 6, 12] ?_
 refine cF ?_
 refine W.skip ?_
 refine hK1 _ ?_
 clear hK1 K1
 refine W.seqk fun K2 hK2 => ?_
 refine W.seqR ?_
 refine oN 5 ?_
 refine oC [] ?_
 refine ct (in_ok _ _ _) ?_
 refine oN 1 ?_
 refine oK [1, 2, 20] ?_
 refine cT ?_
 refine rK [4, 5] ?_
 refine W.weaken (Le.immNil (t := 4) (by first | rfl | simp)) ?_
 refine W.ret ?_
 refine tr ?_
 clear hK2 K2
 refine er false [] [] ?_
 exact ⟨rfl, rfl⟩
set_option maxHeartbeats 4000000 in
theorem rRanks_e1 (l : Lett) (n : Int) (hn : ¬ checkL l = 0) : ACalls Try.prog 43 [letV l, I n] [] (fun r o => r = .tup [ints [], I (checkL l)] ∧ o = []) := by
 have F := Fx.nil
 replace F := F.add hn
 refine ent Try.func43 Try.ntmps43 Try.results43 ?_
 refine rK [1, 2] ?_
 refine W.seqk fun K1 hK1 => ?_
 refine W.seqR ?_
 refine oN 1 ?_
 refine oC [] ?_
 refine ct (rCheck_ok _) ?_
 refine oN 1 ?_
 refine oK [1, 2, 6] ?_
 refine rK [1, 2, 6, 13] ?_
 refine cT ?_
 refine rK [4, 5] ?_
 refine W.weaken (Le.immNil (t := 4) (by first | rfl | simp)) ?_
 refine W.ret ?_
 refine tr ?_
 clear hK1 K1
 refine er false [] [] ?_
 exact ⟨rfl, rfl⟩
set_option maxHeartbeats 4000000 in
theorem rRanks_e2 (l : Lett) (n : Int) (hv : ValidL l) (hn : ¬ (0 ≤ n ∧ n ≤ (l.stalls.length : Int) - 1)) : ACalls Try.prog 43 [letV l, I n] [] (fun r o => r = .tup [ints [], I 3] ∧ o = []) := by
 have F := Fx.nil
 refine ent Try.func43 Try.ntmps43 Try.results43 ?_
 have hck : checkL l = 0 := checkL_zero.2 hv
 have hs8 := hv.s8
 have hw1 : IntKind.i64.wrap ((l.stalls.length : Int) - 1) = (l.stalls.length : Int) - 1 := wrap_i64 (by omega) (by omega)
 have hnn : (decide (0 ≤ n) && decide (n ≤ (l.stalls.length : Int) - 1)) = false := by rw [Bool.and_eq_false_iff, decide_eq_false_iff_not, decide_eq_false_iff_not]; omega
 replace F := F.add hck |>.add hs8 |>.add hw1 |>.add hnn
 refine rK [1, 2] ?_
 refine W.seqk fun K1 hK1 => ?_
 refine W.seqR ?_
 refine oN 1 ?_
 refine oC [] ?_
 refine ct (rCheck_ok _) ?_
 refine oN 1 ?_
 refine oK [1, 2, 6] ?_
 refine rK [1, 2, 6, 13] ?_
 refine cF ?_
 refine W.skip ?_
 refine hK1 _ ?_
 clear hK1 K1
 refine W.seqk fun K2 hK2 => ?_
 refine W.seqR ?_
 refine oN 5 ?_
 refine oC [] ?_
 refine ct (within_ok _ _ _) ?_
 refine oN 1 ?_
 refine oK [1, 2, 21] ?_
 refine cT ?_
 refine rK [4, 5] ?_
 refine W.weaken (Le.immNil (t := 4) (by first | rfl | simp)) ?_
 refine W.ret ?_
 refine tr ?_
 clear hK2 K2
 refine er false [] [] ?_
 exact ⟨rfl, rfl⟩
theorem RanksA_of {f : FuncId} (h0 : ∀ l n, ¬ checkL l = 0 → ACalls Try.prog f [letV l, I n] [] (fun r o => r = .tup [ints [], I (checkL l)] ∧ o = [])) (h1 : ∀ l n, ValidL l → ¬ (0 ≤ n ∧ n ≤ (l.stalls.length : Int) - 1) → ACalls Try.prog f [letV l, I n] [] (fun r o => r = .tup [ints [], I 3] ∧ o = []))
    (h2 : ∀ l, ValidL l → ∀ s : Nat, s < l.stalls.length → ACalls Try.prog f [letV l, I s] [] (fun r o => r = .tup [ints (rankL l s), I 0] ∧ o = [])) (l : Lett) (n : Int) : ACalls Try.prog f [letV l, I n] [] (fun r o => r = .tup [ints (rankA l n), I (rankE l n)] ∧ o = []) := by
  by_cases hc : checkL l = 0
  · by_cases hn : 0 ≤ n ∧ n ≤ (l.stalls.length : Int) - 1
    · have e : rankE l n = 0 := by rw [rankE, if_neg (by simp [hc]), if_pos hn]
      obtain ⟨s, rfl⟩ : ∃ s : Nat, n = (s : Int) := ⟨n.toNat, by omega⟩
      rw [rankA, if_pos e, e, Int.toNat_natCast]
      exact h2 l (checkL_zero.1 hc) s (by omega)
    · have e : rankE l n = 3 := by rw [rankE, if_neg (by simp [hc]), if_neg hn]
      rw [rankA, if_neg (by rw [e]; decide), e]
      exact h1 l n (checkL_zero.1 hc) hn
  · have e : rankE l n = checkL l := by rw [rankE, if_pos hc]
    rw [rankA, if_neg (by rw [e]; exact hc), e]
    exact h0 l n hc
theorem RanksA_ok (l : Lett) (n : Int) : ACalls Try.prog 42 [letV l, I n] [] (fun r o => r = .tup [ints (rankA l n), I (rankE l n)] ∧ o = []) := RanksA_of (f := 42) Ranks_e1 (fun l n hv hn => Ranks_e2 l n hv hn) (fun l hv s hs => Ranks_ok l hv s hs) l n
theorem rRanksA_ok (l : Lett) (n : Int) : ACalls Try.prog 43 [letV l, I n] [] (fun r o => r = .tup [ints (rankA l n), I (rankE l n)] ∧ o = []) := RanksA_of (f := 43) rRanks_e1 (fun l n hv hn => rRanks_e2 l n hv hn) (fun l hv s hs => rRanks_ok l hv s hs) l n
/-- has a letting more than the statements go through -/
def wideA (a : App) : Bool := decide (15 < a.wishes.length) || decide (15 < a.bids.length)
def wideB (l : Lett) : Bool := l.apps.any wideA || (decide (15 < l.stalls.length) || decide (15 < l.apps.length))
theorem any_take {l : List App} {i : Nat} (h : i < l.length) (h1 : (l.take i).any wideA = false) (h2 : wideA l[i] = false) : (l.take (i + 1)).any wideA = false := by
  rw [List.take_succ_eq_append_getElem h, List.any_append, h1]; simp [h2]
set_option maxHeartbeats 4000000 in
theorem wide_ok (l : Lett) : ACalls Try.prog 31 [letV l] [] (fun r o => r = B (wideB l) ∧ o = []) := by
 refine ACalls.lenA (xs := [stalls l.stalls, apps l.apps]) (l := l.apps.map A4) (by simp) (by simp) ⟨_, Try.func31, by kernel_rfl, by kernel_rfl⟩ fun hln => ?_
 simp [maxLen_val] at hln
 have F := Fx.nil
 refine ent Try.func31 Try.ntmps31 Try.results31 ?_
 refine rK [1] ?_
 refine W.seqk fun K1 hK1 => ?_
 refine rK [1, 3] ?_
 refine W.block ?_
 refine lpa (α := Nat) [1] [7, 17, 26] [] (fun i => [(3, I i)]) (fun i => []) (fun i => i ≤ l.apps.length ∧ (l.apps.take i).any wideA = false) (fun i => l.apps.length - i) 0 v0 ?_
 ·
  intro i hI0
  simp only [List.cons_append, List.nil_append]
  try dsimp only at hI0
  obtain ⟨hi, hm1⟩ := hI0
  replace F := F.add hi
  refine W.seqk fun K2 hK2 => ?_
  refine rK [1, 3, 8] ?_
  refine it (fun hc1 => ?_) (fun hc1 => ?_)
  ·
   try simp at hc1
   replace F := F.add hc1
   refine W.skip ?_
   refine hK2 _ ?_
   clear hK2 K2
   refine W.seqk fun K3 hK3 => ?_
   refine W.block ?_
   by_cases hwi : 15 < l.apps[i].wishes.length
   ·
    replace F := F.add hwi
    have hwi2 : (15 : Int) < (l.apps[i].wishes.length : Int) := by omega
    replace F := F.add hwi2
    have hil : i < l.apps.length := by omega
    replace F := F.add hil
    refine W.seqR ?_
    refine oN 9 ?_
    refine gF ?_
    refine gF ?_
    refine gF ?_
    refine gF ?_
    refine gF ?_
    refine gF ?_
    refine gF ?_
    refine gF ?_
    refine oN 1 ?_
    refine oK [1, 3, 28] ?_
    refine cT ?_
    refine rK [2] ?_
    refine W.ret ?_
    refine br (tr (tr (br (tr ?_))))
    clear hK3 K3 hK1 K1
    refine er false [] [] ?_
    first
    | (have e : wideB l = true := by
         rw [wideB, List.any_eq_true.2 ⟨l.apps[i], List.getElem_mem hil, by rw [wideA, decide_eq_true hwi, Bool.true_or]⟩]; rfl
       rw [e]; exact ⟨rfl, rfl⟩)
    | (have e : wideB l = true := by
         rw [wideB, List.any_eq_true.2 ⟨l.apps[i], List.getElem_mem hil, by rw [wideA, decide_eq_true hbi, Bool.or_true]⟩]; rfl
       rw [e]; exact ⟨rfl, rfl⟩)
    | (have e : l.apps.any wideA = false := by rw [List.take_of_length_le (by omega)] at hm1; exact hm1
       rw [wideB, e, decide_eq_true hsi]; exact ⟨rfl, rfl⟩)
    | (have e : l.apps.any wideA = false := by rw [List.take_of_length_le (by omega)] at hm1; exact hm1
       rw [wideB, e, decide_eq_false hsi]; exact ⟨congrArg B (by rw [Bool.false_or, Bool.false_or, decide_eq_decide]; omega), rfl⟩)
   ·
    replace F := F.add hwi
    have hwi2 : ¬ (15 : Int) < (l.apps[i].wishes.length : Int) := by omega
    have hwi3 : (l.apps[i].wishes.length : Int) ≤ 15 := by omega
    replace F := F.add hwi2 |>.add hwi3
    by_cases hbi : 15 < l.apps[i].bids.length
    ·
     replace F := F.add hbi
     have hbi2 : (15 : Int) < (l.apps[i].bids.length : Int) := by omega
     replace F := F.add hbi2
     have hil : i < l.apps.length := by omega
     replace F := F.add hil
     refine W.seqR ?_
     refine oN 9 ?_
     refine gT ?_
     refine gT ?_
     refine gT ?_
     refine gT ?_
     refine gT ?_
     refine gT ?_
     refine gT ?_
     refine gT ?_
     refine oN 1 ?_
     refine oK [1, 3, 28] ?_
     refine cT ?_
     refine rK [2] ?_
     refine W.ret ?_
     refine br (tr (tr (br (tr ?_))))
     clear hK3 K3 hK1 K1
     refine er false [] [] ?_
     first
     | (have e : wideB l = true := by
          rw [wideB, List.any_eq_true.2 ⟨l.apps[i], List.getElem_mem hil, by rw [wideA, decide_eq_true hwi, Bool.true_or]⟩]; rfl
        rw [e]; exact ⟨rfl, rfl⟩)
     | (have e : wideB l = true := by
          rw [wideB, List.any_eq_true.2 ⟨l.apps[i], List.getElem_mem hil, by rw [wideA, decide_eq_true hbi, Bool.or_true]⟩]; rfl
        rw [e]; exact ⟨rfl, rfl⟩)
     | (have e : l.apps.any wideA = false := by rw [List.take_of_length_le (by omega)] at hm1; exact hm1
        rw [wideB, e, decide_eq_true hsi]; exact ⟨rfl, rfl⟩)
     | (have e : l.apps.any wideA = false := by rw [List.take_of_length_le (by omega)] at hm1; exact hm1
        rw [wideB, e, decide_eq_false hsi]; exact ⟨congrArg B (by rw [Bool.false_or, Bool.false_or, decide_eq_decide]; omega), rfl⟩)
    ·
     replace F := F.add hbi
     have hbi2 : ¬ (15 : Int) < (l.apps[i].bids.length : Int) := by omega
     replace F := F.add hbi2
     have hil : i < l.apps.length := by omega
     replace F := F.add hil
     refine W.seqR ?_
     refine oN 9 ?_
     refine gT ?_
     refine gT ?_
     refine gT ?_
     refine gT ?_
     refine gT ?_
     refine gT ?_
     refine gT ?_
     refine gT ?_
     refine oN 1 ?_
     refine oK [1, 3, 28] ?_
     refine cF ?_
     refine W.skip ?_
     refine hK3 _ ?_
     clear hK3 K3
     refine rEw ?_
     refine ⟨i + 1, lf0, ?_, v0⟩
     ·
      exact ⟨by omega, any_take (by omega) hm1 (by rw [wideA, decide_eq_false hwi, decide_eq_false hbi]; rfl)⟩
  ·
   try simp at hc1
   replace F := F.add hc1
   refine W.exit ?_
   refine hK1 _ ?_
   clear hK2 K2 hK1 K1
   by_cases hsi : 15 < l.stalls.length
   ·
    replace F := F.add hsi
    have hsi2 : (15 : Int) < (l.stalls.length : Int) := by omega
    replace F := F.add hsi2
    refine W.seqR ?_
    refine oN 5 ?_
    refine gF ?_
    refine gF ?_
    refine gF ?_
    refine gF ?_
    refine oN 2 ?_
    refine oK [2] ?_
    refine W.ret ?_
    refine er false [] [] ?_
    first
    | (have e : wideB l = true := by
         rw [wideB, List.any_eq_true.2 ⟨l.apps[i], List.getElem_mem hil, by rw [wideA, decide_eq_true hwi, Bool.true_or]⟩]; rfl
       rw [e]; exact ⟨rfl, rfl⟩)
    | (have e : wideB l = true := by
         rw [wideB, List.any_eq_true.2 ⟨l.apps[i], List.getElem_mem hil, by rw [wideA, decide_eq_true hbi, Bool.or_true]⟩]; rfl
       rw [e]; exact ⟨rfl, rfl⟩)
    | (have e : l.apps.any wideA = false := by rw [List.take_of_length_le (by omega)] at hm1; exact hm1
       rw [wideB, e, decide_eq_true hsi]; exact ⟨rfl, rfl⟩)
    | (have e : l.apps.any wideA = false := by rw [List.take_of_length_le (by omega)] at hm1; exact hm1
       rw [wideB, e, decide_eq_false hsi]; exact ⟨congrArg B (by rw [Bool.false_or, Bool.false_or, decide_eq_decide]; omega), rfl⟩)
   ·
    replace F := F.add hsi
    have hsi2 : ¬ (15 : Int) < (l.stalls.length : Int) := by omega
    have hsi3 : (l.stalls.length : Int) ≤ 15 := by omega
    replace F := F.add hsi2 |>.add hsi3
    refine W.seqR ?_
    refine oN 5 ?_
    refine gT ?_
    refine gT ?_
    refine gT ?_
    refine gT ?_
    refine oN 2 ?_
    refine oK [2] ?_
    refine W.ret ?_
    refine er false [] [] ?_
    first
    | (have e : wideB l = true := by
         rw [wideB, List.any_eq_true.2 ⟨l.apps[i], List.getElem_mem hil, by rw [wideA, decide_eq_true hwi, Bool.true_or]⟩]; rfl
       rw [e]; exact ⟨rfl, rfl⟩)
    | (have e : wideB l = true := by
         rw [wideB, List.any_eq_true.2 ⟨l.apps[i], List.getElem_mem hil, by rw [wideA, decide_eq_true hbi, Bool.or_true]⟩]; rfl
       rw [e]; exact ⟨rfl, rfl⟩)
    | (have e : l.apps.any wideA = false := by rw [List.take_of_length_le (by omega)] at hm1; exact hm1
       rw [wideB, e, decide_eq_true hsi]; exact ⟨rfl, rfl⟩)
    | (have e : l.apps.any wideA = false := by rw [List.take_of_length_le (by omega)] at hm1; exact hm1
       rw [wideB, e, decide_eq_false hsi]; exact ⟨congrArg B (by rw [Bool.false_or, Bool.false_or, decide_eq_decide]; omega), rfl⟩)
theorem app_eq {x y : App} : x = y ↔ x.years = y.years ∧ x.token = y.token ∧ x.wishes = y.wishes ∧ x.bids = y.bids := by
  cases x; cases y; simp
theorem take_same {α : Type} {x y : List α} {i : Nat} (h1 : i < x.length) (h2 : i < y.length) (h3 : x.take i = y.take i) : x.take (i + 1) = y.take (i + 1) ↔ x[i] = y[i] := (take_step h1 h2 h3).symm
set_option maxHeartbeats 4000000 in
theorem SameLettings_ok (a b : Lett) : ACalls Try.prog 40 [letV a, letV b] [] (fun r o => r = B (decide (a = b)) ∧ o = []) := by
 refine ACalls.lenA (xs := [stalls a.stalls, apps a.apps]) (l := a.stalls.map S3) (by simp) (by simp) ⟨_, Try.func40, by kernel_rfl, by kernel_rfl⟩ fun hl1 => ?_
 simp [maxLen_val] at hl1
 refine ACalls.lenA (xs := [stalls a.stalls, apps a.apps]) (l := a.apps.map A4) (by simp) (by simp) ⟨_, Try.func40, by kernel_rfl, by kernel_rfl⟩ fun hl2 => ?_
 simp [maxLen_val] at hl2
 have F := Fx.nil
 refine ent Try.func40 Try.ntmps40 Try.results40 ?_
 obtain ⟨p, qp⟩ : ∃ p : Nat → Bool, ∀ i, p i = decide (a.stalls.length = b.stalls.length ∧ a.apps.length = b.apps.length ∧ a.stalls.take i = b.stalls.take i) := ⟨_, fun _ => rfl⟩
 obtain ⟨q, qq⟩ : ∃ q : Nat → Bool, ∀ i, q i = decide (a.stalls = b.stalls ∧ a.apps.length = b.apps.length ∧ a.apps.take i = b.apps.take i) := ⟨_, fun _ => rfl⟩
 refine rK [2, 3] ?_
 refine W.seqR ?_
 refine oN 8 ?_
 refine gX ?_
 refine gX ?_
 refine gX ?_
 refine gX ?_
 refine gX ?_
 refine gX ?_
 refine gX ?_
 refine oN 2 ?_
 refine oK [2, 3, 5] ?_
 refine W.seqk fun K1 hK1 => ?_
 refine rK [2, 3, 5, 6] ?_
 refine W.block ?_
 refine lp (α := Nat) [2, 3] [31] [] (fun i => [(6, I i), (5, B (p i))]) (fun i => []) (fun i => i ≤ a.stalls.length) (fun i => a.stalls.length - i) 0 ?_ ?_ v0 ?_
 ·
  try (simp [Fx.get F])
  all_goals (
   rw [qp 0, Bool.eq_iff_iff, Bool.and_eq_true, decide_eq_true_eq, decide_eq_true_eq, beq_iff_eq]
   simp only [List.take_zero, and_true]
   omega
  )
 ·
  exact v1
 ·
  intro i hI0
  simp only [List.cons_append, List.nil_append]
  try dsimp only at hI0
  replace F := F.add hI0
  refine W.seqk fun K2 hK2 => ?_
  refine W.seqR ?_
  refine oN 2 ?_
  refine gX ?_
  refine gX ?_
  refine gX ?_
  refine gX ?_
  refine gX ?_
  refine oN 1 ?_
  refine oK [2, 3, 5, 6, 33] ?_
  refine it (fun hc1 => ?_) (fun hc1 => ?_)
  ·
   try simp at hc1
   replace F := F.add hc1
   refine W.skip ?_
   refine hK2 _ ?_
   clear hK2 K2
   refine W.seqk fun K3 hK3 => ?_
   refine W.block ?_
   have hia : i < a.stalls.length := by omega
   have qpi := qp i
   rw [hc1.1] at qpi
   have qpi2 := of_decide_eq_true qpi.symm
   have hib : i < b.stalls.length := by omega
   replace F := F.add hia |>.add hib
   refine wDe 10 [] [[], [0], [], [2, 0, 1], [1, 0, 2, 3], [], [5], [], [7, 5, 6], [6, 5, 7, 8], [8, 7, 5, 6, 9, 3, 2, 0, 1, 4], [4, 1, 0, 2, 3, 9, 6, 5, 7, 8, 10]] ?_
   refine dN 10 0 ?_
   refine dD ?_
   refine oN 2 ?_
   refine WOps.endK ?_
   refine hK3 _ ?_
   clear hK3 K3
   refine rEw ?_
   refine ⟨i + 1, lf ?_ ?_, v0, v0⟩
   ·
    try (simp [Fx.get F])
    all_goals (
     rw [stl_beq, qp (i + 1), decide_eq_decide]
     exact ⟨fun h => ⟨qpi2.1, qpi2.2.1, (take_same hia hib qpi2.2.2).2 h⟩, fun h => (take_same hia hib qpi2.2.2).1 h.2.2⟩
    )
   ·
    exact v1
  ·
   try simp at hc1
   replace F := F.add hc1
   refine W.exit ?_
   refine hK1 _ ?_
   clear hK2 K2 hK1 K1
   refine W.seqk fun K4 hK4 => ?_
   refine rK [2, 3, 5, 7] ?_
   refine W.block ?_
   refine lp (α := Nat) [2, 3] [8, 9, 52, 84, 91] [] (fun i => [(7, I i), (5, B (q i))]) (fun i => []) (fun i => i ≤ a.apps.length) (fun i => a.apps.length - i) 0 ?_ ?_ v0 ?_
   ·
    try (simp [Fx.get F])
    all_goals (
     rw [Bool.eq_iff_iff]
     constructor
     · intro h
       have h2 := hc1 h
       rw [qp, decide_eq_true_eq] at h
       obtain ⟨h3, h4, h5⟩ := h
       rw [List.take_of_length_le h2, List.take_of_length_le (by omega)] at h5
       rw [qq, decide_eq_true_eq]; exact ⟨h5, h4, rfl⟩
     · intro h
       rw [qq, decide_eq_true_eq] at h
       obtain ⟨h3, h4, _⟩ := h
       rw [qp, decide_eq_true_eq]; exact ⟨by rw [h3], h4, by rw [h3]⟩
    )
   ·
    exact v1
   ·
    intro i hI1
    simp only [List.cons_append, List.nil_append]
    try dsimp only at hI1
    replace F := F.add hI1
    refine W.seqk fun K5 hK5 => ?_
    refine W.seqR ?_
    refine oN 2 ?_
    refine gX ?_
    refine gX ?_
    refine gX ?_
    refine gX ?_
    refine gX ?_
    refine oN 1 ?_
    refine oK [2, 3, 5, 7, 54] ?_
    refine it (fun hc2 => ?_) (fun hc2 => ?_)
    ·
     try simp at hc2
     replace F := F.add hc2
     refine W.skip ?_
     refine hK5 _ ?_
     clear hK5 K5
     refine W.seqk fun K6 hK6 => ?_
     refine W.block ?_
     have hia : i < a.apps.length := by omega
     have qqi := qq i
     rw [hc2.1] at qqi
     have qqi2 := of_decide_eq_true qqi.symm
     have hib : i < b.apps.length := by omega
     have qnext : q (i + 1) = decide (a.apps[i].years = b.apps[i].years ∧ a.apps[i].token = b.apps[i].token ∧ a.apps[i].wishes = b.apps[i].wishes ∧ a.apps[i].bids = b.apps[i].bids) := by
       rw [qq, decide_eq_decide, ← app_eq]
       exact ⟨fun h => (take_same hia hib qqi2.2.2).1 h.2.2, fun h => ⟨qqi2.1, qqi2.2.1, (take_same hia hib qqi2.2.2).2 h⟩⟩
     obtain ⟨sw, qsw⟩ : ∃ w, w = decide (a.apps[i].wishes = b.apps[i].wishes) := ⟨_, rfl⟩
     have hsw := qsw.symm
     replace F := F.add hia |>.add hib |>.add hsw
     refine wD 13 [(12, [64])] [[], [0], [], [2, 0, 1], [1, 0, 2, 3], [], [5], [], [7, 5, 6], [6, 5, 7, 8], [], [], [11, 3, 2, 0, 1, 4, 10], [10, 4, 1, 0, 2, 3, 12, 8, 7, 5, 6, 9, 11]] ?_
     refine dN 12 1 ?_
     refine WDraw.upd hΓ [64] (by simp [hI0, hc1, hI1, hc2, hia, hib, hsw]; rfl) (by first | rfl | simp) (by simp [hI0, hc1, hI1, hc2, hia, hib, hsw]; first | rfl | exact ⟨rfl, rfl⟩) (by simp [hI0, hc1, hI1, hc2, hia, hib, hsw]; first | done | rfl) (.inr (by simp)) (by simp [hI0, hc1, hI1, hc2, hia, hib, hsw]; rfl) ?_
     refine dD ?_
     refine WOps.le Le.dedup rfl rfl ?_
     refine WOps.norm (by simp [hI0, hc1, hI1, hc2, hia, hib, hsw]; rfl) ?_
     refine oN 1 ?_
     refine oK [2, 3, 7, 8, 9] ?_
     by_cases hy : a.apps[i].years = b.apps[i].years
     ·
      replace F := F.add hy
      have hy2 : (a.apps[i].years == b.apps[i].years) = true := by simp [hy]
      replace F := F.add hy2
      by_cases ht : a.apps[i].token = b.apps[i].token
      ·
       replace F := F.add ht
       have ht2 : (a.apps[i].token == b.apps[i].token) = true := by simp [ht]
       replace F := F.add ht2
       have qz := trivial
       by_cases hw : sw = true
       ·
        replace F := F.add hw
        have qw2 : a.apps[i].wishes = b.apps[i].wishes := of_decide_eq_true (by rw [← qsw]; exact hw)
        have hq : q (i + 1) = decide (a.apps[i].bids = b.apps[i].bids) := by rw [qnext]; simp [hy, ht, qw2]
        replace F := F.add hq
        refine W.region ?_
        refine oN 6 ?_
        refine gT ?_
        refine gT ?_
        refine gT ?_
        refine gT ?_
        refine gT ?_
        refine oN 2 ?_
        refine gT ?_
        refine gT ?_
        refine gT ?_
        refine gT ?_
        refine gC [] ?_
        refine ct (SameInts_ok a.apps[i].wishes b.apps[i].wishes) ?_
        refine oN 2 ?_
        refine gT ?_
        refine gT ?_
        refine gT ?_
        refine gT ?_
        refine gC [] ?_
        refine ct (SameInts_ok a.apps[i].bids b.apps[i].bids) ?_
        refine oN 2 ?_
        refine WOps.endK ?_
        refine hK6 _ ?_
        clear hK6 K6
        refine rEw ?_
        refine ⟨i + 1, lf0, v0, v0⟩
       ·
        replace F := F.add hw
        have qw2 : ¬ a.apps[i].wishes = b.apps[i].wishes := fun e => hw (by rw [qsw]; exact decide_eq_true e)
        have hq : q (i + 1) = false := by rw [qnext]; simp [qw2]
        replace F := F.add hq
        refine W.region ?_
        refine oN 6 ?_
        refine gT ?_
        refine gT ?_
        refine gT ?_
        refine gT ?_
        refine gT ?_
        refine oN 2 ?_
        refine gT ?_
        refine gT ?_
        refine gT ?_
        refine gT ?_
        refine gC [] ?_
        refine ct (SameInts_ok a.apps[i].wishes b.apps[i].wishes) ?_
        refine oN 2 ?_
        refine gF ?_
        refine gF ?_
        refine gF ?_
        refine gF ?_
        refine gF ?_
        refine oN 2 ?_
        refine WOps.endK ?_
        refine hK6 _ ?_
        clear hK6 K6
        refine rEw ?_
        refine ⟨i + 1, lf0, v0, v0⟩
      ·
       replace F := F.add ht
       have ht2 : (a.apps[i].token == b.apps[i].token) = false := by simp [ht]
       have hq : q (i + 1) = false := by rw [qnext]; simp [ht]
       replace F := F.add ht2 |>.add hq
       refine W.region ?_
       refine oN 6 ?_
       refine gT ?_
       refine gT ?_
       refine gT ?_
       refine gT ?_
       refine gT ?_
       refine oN 2 ?_
       refine gF ?_
       refine gF ?_
       refine gF ?_
       refine gF ?_
       refine gF ?_
       refine oN 2 ?_
       refine gF ?_
       refine gF ?_
       refine gF ?_
       refine gF ?_
       refine gF ?_
       refine oN 2 ?_
       refine WOps.endK ?_
       refine hK6 _ ?_
       clear hK6 K6
       refine rEw ?_
       refine ⟨i + 1, lf0, v0, v0⟩
     ·
      replace F := F.add hy
      have hy2 : (a.apps[i].years == b.apps[i].years) = false := by simp [hy]
      have hq : q (i + 1) = false := by rw [qnext]; simp [hy]
      replace F := F.add hy2 |>.add hq
      refine W.region ?_
      refine oN 6 ?_
      refine gF ?_
      refine gF ?_
      refine gF ?_
      refine gF ?_
      refine gF ?_
      refine oN 2 ?_
      refine gF ?_
      refine gF ?_
      refine gF ?_
      refine gF ?_
      refine gF ?_
      refine oN 2 ?_
      refine gF ?_
      refine gF ?_
      refine gF ?_
      refine gF ?_
      refine gF ?_
      refine oN 2 ?_
      refine WOps.endK ?_
      refine hK6 _ ?_
      clear hK6 K6
      refine rEw ?_
      refine ⟨i + 1, lf0, v0, v0⟩
    ·
     try simp at hc2
     replace F := F.add hc2
     refine W.exit ?_
     refine hK4 _ ?_
     clear hK5 K5 hK4 K4
     refine rK [4] ?_
     refine W.ret ?_
     refine er false [] [] ?_
     have e : q i = decide (a = b) := by
       rw [Bool.eq_iff_iff]
       constructor
       · intro h
         have h2 := hc2 h
         rw [qq, decide_eq_true_eq] at h
         obtain ⟨h3, h4, h5⟩ := h
         rw [List.take_of_length_le h2, List.take_of_length_le (by omega)] at h5
         rw [decide_eq_true_eq]; cases a; cases b; simp only [Lett.mk.injEq]; exact ⟨h3, h5⟩
       · intro h
         rw [decide_eq_true_eq] at h
         subst h
         rw [qq, decide_eq_true_eq]; exact ⟨rfl, rfl, rfl⟩
     rw [e]; exact ⟨rfl, rfl⟩
end Go.Sim
