/- SwapNoWorse: the law's walk. -/
import Derived.Test.YtggbbldoopfejaaVl
import Derived.Test.YtggbbldoopfejaaPg
namespace Go.Sim
open Go.Proofs Go.Plain
set_option maxRecDepth 100000
set_option linter.unusedSimpArgs false
set_option linter.unusedVariables false
attribute [-simp] List.map_set List.map_take List.map_drop
attribute [local simp] take_map' drop_map' take_app1
/-- how many traders the first rings have -/
def cntR (rs : List (List Nat)) (j : Nat) : Nat := (rs.take j).flatten.length
theorem cntR_zero (rs : List (List Nat)) : cntR rs 0 = 0 := rfl
theorem cntR_succ {rs : List (List Nat)} {j : Nat} (h : j < rs.length) : cntR rs (j + 1) = cntR rs j + rs[j].length := by
  rw [cntR, List.take_succ_eq_append_getElem h, List.flatten_append, List.length_append, cntR]; simp
theorem cntR_le (rs : List (List Nat)) (j : Nat) : cntR rs j ≤ rs.flatten.length := by
  have : rs.flatten.length = (rs.take j).flatten.length + (rs.drop j).flatten.length := by rw [← List.length_append, ← List.flatten_append, List.take_append_drop]
  rw [cntR]; omega
theorem cntR_full {rs : List (List Nat)} {j : Nat} (h : rs.length ≤ j) : cntR rs j = rs.flatten.length := by rw [cntR, List.take_of_length_le h]
attribute [local simp] cntR_zero
set_option maxHeartbeats 16000000 in
theorem SwapNoWorse_ok (nums : List Int) : ACalls Try.prog 5 [ints nums] [] (fun r o => r = B true ∧ o = []) := by
 have F := Fx.nil
 refine ent Try.func5 Try.ntmps5 Try.results5 ?_
 refine rK [0] ?_
 refine W.seqR ?_
 refine oN 1 ?_
 refine oC [] ?_
 refine ct (DieOf_ok nums) ?_
 refine oC [(10000, 136)] ?_
 refine CallT.mkE (TradeOf_ok _ 8 (by omega)) (fun z18 hz18 => ⟨(by simp), ?_⟩)
 obtain ⟨⟨ow, lk, f2⟩, qz⟩ : ∃ z : List Turn × List (List Turn) × Int, z = z18 := ⟨z18, rfl⟩
 subst qz
 dsimp only at hz18
 have qv : ValidT ow lk := hz18.valid (by omega)
 have hn8 : ow.length ≤ 8 := qv.most
 have hck : checkT ow lk = 0 := checkT_zero.2 qv
 have hsl : (swapT ow lk).length = ow.length := swap_length qv
 have qkl : lk.length = ow.length := qv.same
 have hrl : (ringsT ow lk).length ≤ 64 := by
   rw [ringsT_eq qv]
   exact Nat.le_trans (allRings_length ow lk) (Nat.mul_le_mul hn8 hn8)
 replace F := F.add hn8 |>.add hck |>.add hsl |>.add hrl
 refine WOps.norm (by simp [hn8, hck, hsl, hrl]; rfl) ?_
 refine fz 144 ?_
 refine fz 145 ?_
 refine oN 2 ?_
 refine oK [3] ?_
 refine W.seqR ?_
 refine oN 1 ?_
 refine oC [] ?_
 refine ct (Swap_ok _ _) ?_
 refine oN 5 ?_
 refine oK [3, 4, 5] ?_
 refine W.seqR ?_
 refine oN 1 ?_
 refine oC [] ?_
 refine ct (Rings_ok _ _) ?_
 refine oN 5 ?_
 refine oK [3, 4, 5, 6, 7] ?_
 refine W.seqk fun K1 hK1 => ?_
 refine W.seqR ?_
 refine oN 3 ?_
 refine gT ?_
 refine gT ?_
 refine oN 2 ?_
 refine gT ?_
 refine gT ?_
 refine gT ?_
 refine gT ?_
 refine gT ?_
 refine gT ?_
 refine oN 1 ?_
 refine oK [3, 4, 6, 42] ?_
 refine cF ?_
 refine W.skip ?_
 refine hK1 _ ?_
 clear hK1 K1
 refine rK [3, 4, 6, 8] ?_
 refine W.seqk fun K2 hK2 => ?_
 refine rK [3, 4, 6, 8, 9] ?_
 refine W.block ?_
 refine lpa (α := Nat) [3, 4, 6, 8] [45, 59, 69, 76, 86] [] (fun i => [(9, I i)]) (fun i => []) (fun i => i ≤ ow.length) (fun i => ow.length - i) 0 v0 ?_
 ·
  intro i hI0
  simp only [List.cons_append, List.nil_append]
  try dsimp only at hI0
  replace F := F.add hI0
  refine W.seqk fun K3 hK3 => ?_
  refine rK [3, 4, 6, 8, 9, 46] ?_
  refine it (fun hc2 => ?_) (fun hc2 => ?_)
  ·
   try simp at hc2
   replace F := F.add hc2
   refine W.skip ?_
   refine hK3 _ ?_
   clear hK3 K3
   refine W.seqk fun K4 hK4 => ?_
   refine W.block ?_
   by_cases heq : ((swapT ow lk)[i] == ow[i]) = true
   ·
    replace F := F.add heq
    have hio : i < ow.length := by omega
    have his : i < (swapT ow lk).length := by omega
    have hik : i < lk.length := by omega
    have hs1 : ((swapT ow lk)[i].1, (swapT ow lk)[i].2) ∈ ow := by have := (swap_mem qv hio).1; rwa [nth_get his] at this
    have hs2 : ((swapT ow lk)[i].1, (swapT ow lk)[i].2) ∉ (swapT ow lk).take i := swap_fresh qv his
    have hs3 : ¬ ((ow.idxOf ((swapT ow lk)[i].1, (swapT ow lk)[i].2) : Nat) : Int) < 0 := by omega
    replace F := F.add hio |>.add his |>.add hik |>.add hs1 |>.add hs2 |>.add hs3
    refine wD 20 [] [[], [0], [], [2, 0, 1], [1, 0, 2, 3], [], [5], [], [7, 5, 6], [6, 5, 7, 8], [8, 7, 5, 6, 9, 3, 2, 0, 1, 4], [], [11], [], [13, 11, 12], [12, 11, 13, 14], [], [], [17, 16], [16, 17, 18], [4, 1, 0, 2, 3, 9, 6, 5, 7, 8, 10, 18, 17, 16, 19, 14, 13, 11, 12, 15], [15, 12, 11, 13, 14, 19, 16, 17, 18, 20, 4, 1, 0, 2, 3, 9, 6, 5, 7, 8, 10], [21, 15, 12, 11, 13, 14, 19, 16, 17, 18, 10, 8, 7, 5, 6, 9, 3, 2, 0, 1, 4, 20]] ?_
    refine dN 10 10 ?_
    refine dC [] ?_
    refine cd (at_ok _ _ _) ?_
    refine dN 9 0 ?_
    refine dD ?_
    refine oC [] ?_
    refine ct (at_ok _ _ _) ?_
    refine oN 2 ?_
    refine oK [3, 4, 6, 8, 9, 10, 11] ?_
    refine wD 39 [] [[], [0], [], [], [3, 2], [2, 3, 4], [4, 3, 2, 5, 0, 1], [1, 0, 5, 2, 3, 4, 6], [6, 4, 3, 2, 5, 0, 1, 7], [7, 1, 0, 5, 2, 3, 4, 6, 8], [7, 1, 0, 5, 2, 3, 4, 6, 8], [10, 8, 6, 4, 3, 2, 5, 0, 1, 7, 9], [7, 1, 0, 5, 2, 3, 4, 6, 8], [7, 1, 0, 5, 2, 3, 4, 6, 8], [13, 8, 6, 4, 3, 2, 5, 0, 1, 7, 12], [12, 7, 1, 0, 5, 2, 3, 4, 6, 8, 13, 14], [14, 13, 12, 15, 9, 7, 1, 0, 5, 2, 3, 4, 6, 8, 10, 11], [11, 10, 8, 6, 4, 3, 2, 5, 0, 1, 7, 9, 15, 12, 13, 14, 16], [16, 14, 13, 12, 15, 9, 10, 11, 17, 7, 1, 0, 5, 2, 3, 4, 6, 8], [8, 6, 4, 3, 2, 5, 0, 1, 7, 17, 11, 10, 9, 15, 12, 13, 14, 16, 18], [18, 16, 14, 13, 12, 15, 9, 10, 11, 17, 7, 1, 0, 5, 2, 3, 4, 6, 8, 19], [18, 16, 14, 13, 12, 15, 9, 10, 11, 17, 7, 1, 0, 5, 2, 3, 4, 6, 8, 19], [21, 19, 8, 6, 4, 3, 2, 5, 0, 1, 7, 17, 11, 10, 9, 15, 12, 13, 14, 16, 18, 20], [20, 18, 16, 14, 13, 12, 15, 9, 10, 11, 17, 7, 1, 0, 5, 2, 3, 4, 6, 8, 19, 21, 22], [18, 16, 14, 13, 12, 15, 9, 10, 11, 17, 7, 1, 0, 5, 2, 3, 4, 6, 8, 19], [19, 8, 6, 4, 3, 2, 5, 0, 1, 7, 17, 11, 10, 9, 15, 12, 13, 14, 16, 18, 24], [18, 16, 14, 13, 12, 15, 9, 10, 11, 17, 7, 1, 0, 5, 2, 3, 4, 6, 8, 19], [26, 24, 18, 16, 14, 13, 12, 15, 9, 10, 11, 17, 7, 1, 0, 5, 2, 3, 4, 6, 8, 19, 25], [25, 19, 8, 6, 4, 3, 2, 5, 0, 1, 7, 17, 11, 10, 9, 15, 12, 13, 14, 16, 18, 24, 26, 27], [27, 26, 24, 25, 28, 22, 21, 19, 8, 6, 4, 3, 2, 5, 0, 1, 7, 17, 11, 10, 9, 15, 12, 13, 14, 16, 18, 20, 23], [23, 20, 18, 16, 14, 13, 12, 15, 9, 10, 11, 17, 7, 1, 0, 5, 2, 3, 4, 6, 8, 19, 21, 22, 28, 25, 24, 26, 27, 29], [29, 27, 26, 24, 25, 28, 22, 21, 19, 8, 6, 4, 3, 2, 5, 0, 1, 7, 17, 11, 10, 9, 15, 12, 13, 14, 16, 18, 20, 23, 30], [30, 23, 20, 18, 16, 14, 13, 12, 15, 9, 10, 11, 17, 7, 1, 0, 5, 2, 3, 4, 6, 8, 19, 21, 22, 28, 25, 24, 26, 27, 29, 31], [31, 29, 27, 26, 24, 25, 28, 22, 21, 19, 8, 6, 4, 3, 2, 5, 0, 1, 7, 17, 11, 10, 9, 15, 12, 13, 14, 16, 18, 20, 23, 30, 32], [32, 30, 23, 20, 18, 16, 14, 13, 12, 15, 9, 10, 11, 17, 7, 1, 0, 5, 2, 3, 4, 6, 8, 19, 21, 22, 28, 25, 24, 26, 27, 29, 31, 33], [33, 31, 29, 27, 26, 24, 25, 28, 22, 21, 19, 8, 6, 4, 3, 2, 5, 0, 1, 7, 17, 11, 10, 9, 15, 12, 13, 14, 16, 18, 20, 23, 30, 32, 34], [34, 32, 30, 23, 20, 18, 16, 14, 13, 12, 15, 9, 10, 11, 17, 7, 1, 0, 5, 2, 3, 4, 6, 8, 19, 21, 22, 28, 25, 24, 26, 27, 29, 31, 33, 35], [35, 33, 31, 29, 27, 26, 24, 25, 28, 22, 21, 19, 8, 6, 4, 3, 2, 5, 0, 1, 7, 17, 11, 10, 9, 15, 12, 13, 14, 16, 18, 20, 23, 30, 32, 34, 36], [35, 33, 31, 29, 27, 26, 24, 25, 28, 22, 21, 19, 8, 6, 4, 3, 2, 5, 0, 1, 7, 17, 11, 10, 9, 15, 12, 13, 14, 16, 18, 20, 23, 30, 32, 34, 36], [38, 36, 34, 32, 30, 23, 20, 18, 16, 14, 13, 12, 15, 9, 10, 11, 17, 7, 1, 0, 5, 2, 3, 4, 6, 8, 19, 21, 22, 28, 25, 24, 26, 27, 29, 31, 33, 35, 37], [37, 38, 39, 35, 33, 31, 29, 27, 26, 24, 25, 28, 22, 21, 19, 8, 6, 4, 3, 2, 5, 0, 1, 7, 17, 11, 10, 9, 15, 12, 13, 14, 16, 18, 20, 23, 30, 32, 34, 36], [36, 34, 35, 39, 38, 37, 40, 32, 30, 23, 20, 18, 16, 14, 13, 12, 15, 9, 10, 11, 17, 7, 1, 0, 5, 2, 3, 4, 6, 8, 19, 21, 22, 28, 25, 24, 26, 27, 29, 31, 33], [33, 31, 32, 40, 37, 38, 39, 35, 34, 36, 41, 29, 27, 26, 24, 25, 28, 22, 21, 19, 8, 6, 4, 3, 2, 5, 0, 1, 7, 17, 11, 10, 9, 15, 12, 13, 14, 16, 18, 20, 23, 30], [30, 23, 20, 21, 22, 28, 25, 24, 26, 27, 29, 41, 36, 34, 35, 39, 38, 37, 40, 32, 31, 33, 42, 18, 16, 14, 13, 12, 15, 9, 10, 11, 17, 7, 1, 0, 5, 2, 3, 4, 6, 8, 19]] ?_
    refine dN 6 33 ?_
    refine dC [] ?_
    refine cd (at_ok _ _ _) ?_
    refine dN 2 30 ?_
    refine dT ?_
    refine dT ?_
    refine dT ?_
    refine dT ?_
    refine dT ?_
    refine dT ?_
    refine dT ?_
    refine dG [] ?_
    refine cd (at_ok _ _ _) ?_
    refine dT ?_
    refine dN 2 19 ?_
    refine dT ?_
    refine dT ?_
    refine dT ?_
    refine dT ?_
    refine dT ?_
    refine dT ?_
    refine dT ?_
    refine dT ?_
    refine dT ?_
    refine dT ?_
    refine dT ?_
    refine dF ?_
    refine dF ?_
    refine dF ?_
    refine dF ?_
    refine dF ?_
    refine dF ?_
    refine dF ?_
    refine dF ?_
    refine dD ?_
    refine gF ?_
    refine gF ?_
    refine gF ?_
    refine gT ?_
    refine oN 1 ?_
    refine oK [3, 4, 6, 8, 9, 113] ?_
    refine cF ?_
    refine W.skip ?_
    refine hK4 _ ?_
    clear hK4 K4
    refine rEw ?_
    refine ⟨i + 1, lf0, v0, v0⟩
   ·
    replace F := F.add heq
    have hbq : ((swapT ow lk)[i] == ow[i]) = false := by simpa using heq
    have qb := swap_better qv (x := i) (by omega) (by rw [nth_get (by omega), nth_get (by omega)]; simpa using heq)
    rw [nth_get (show i < (swapT ow lk).length by omega), nth_get (show i < lk.length by omega), nth_get (show i < ow.length by omega)] at qb
    have hs4 : ((swapT ow lk)[i].1, (swapT ow lk)[i].2) ∈ lk[i] := qb.1
    have hs5 : ¬ ((lk[i].idxOf ((swapT ow lk)[i].1, (swapT ow lk)[i].2) : Nat) : Int) < 0 := by omega
    have hs6 : ¬ (lk[i].idxOf (ow[i].1, ow[i].2) < lk[i].idxOf ((swapT ow lk)[i].1, (swapT ow lk)[i].2)) := Nat.not_lt.2 (Nat.le_of_lt qb.2)
    replace F := F.add hbq |>.add hs4 |>.add hs5 |>.add hs6
    by_cases hown : (ow[i].1, ow[i].2) ∈ lk[i]
    ·
     replace F := F.add hown
     have hio : i < ow.length := by omega
     have his : i < (swapT ow lk).length := by omega
     have hik : i < lk.length := by omega
     have hs1 : ((swapT ow lk)[i].1, (swapT ow lk)[i].2) ∈ ow := by have := (swap_mem qv hio).1; rwa [nth_get his] at this
     have hs2 : ((swapT ow lk)[i].1, (swapT ow lk)[i].2) ∉ (swapT ow lk).take i := swap_fresh qv his
     have hs3 : ¬ ((ow.idxOf ((swapT ow lk)[i].1, (swapT ow lk)[i].2) : Nat) : Int) < 0 := by omega
     replace F := F.add hio |>.add his |>.add hik |>.add hs1 |>.add hs2 |>.add hs3
     refine wD 20 [] [[], [0], [], [2, 0, 1], [1, 0, 2, 3], [], [5], [], [7, 5, 6], [6, 5, 7, 8], [8, 7, 5, 6, 9, 3, 2, 0, 1, 4], [], [11], [], [13, 11, 12], [12, 11, 13, 14], [], [], [17, 16], [16, 17, 18], [4, 1, 0, 2, 3, 9, 6, 5, 7, 8, 10, 18, 17, 16, 19, 14, 13, 11, 12, 15], [15, 12, 11, 13, 14, 19, 16, 17, 18, 20, 4, 1, 0, 2, 3, 9, 6, 5, 7, 8, 10], [21, 15, 12, 11, 13, 14, 19, 16, 17, 18, 10, 8, 7, 5, 6, 9, 3, 2, 0, 1, 4, 20]] ?_
     refine dN 10 10 ?_
     refine dC [] ?_
     refine cd (at_ok _ _ _) ?_
     refine dN 9 0 ?_
     refine dD ?_
     refine oC [] ?_
     refine ct (at_ok _ _ _) ?_
     refine oN 2 ?_
     refine oK [3, 4, 6, 8, 9, 10, 11] ?_
     refine wD 39 [] [[], [0], [], [], [3, 2], [2, 3, 4], [4, 3, 2, 5, 0, 1], [1, 0, 5, 2, 3, 4, 6], [6, 4, 3, 2, 5, 0, 1, 7], [7, 1, 0, 5, 2, 3, 4, 6, 8], [7, 1, 0, 5, 2, 3, 4, 6, 8], [10, 8, 6, 4, 3, 2, 5, 0, 1, 7, 9], [7, 1, 0, 5, 2, 3, 4, 6, 8], [7, 1, 0, 5, 2, 3, 4, 6, 8], [13, 8, 6, 4, 3, 2, 5, 0, 1, 7, 12], [12, 7, 1, 0, 5, 2, 3, 4, 6, 8, 13, 14], [14, 13, 12, 15, 9, 7, 1, 0, 5, 2, 3, 4, 6, 8, 10, 11], [11, 10, 8, 6, 4, 3, 2, 5, 0, 1, 7, 9, 15, 12, 13, 14, 16], [16, 14, 13, 12, 15, 9, 10, 11, 17, 7, 1, 0, 5, 2, 3, 4, 6, 8], [8, 6, 4, 3, 2, 5, 0, 1, 7, 17, 11, 10, 9, 15, 12, 13, 14, 16, 18], [18, 16, 14, 13, 12, 15, 9, 10, 11, 17, 7, 1, 0, 5, 2, 3, 4, 6, 8, 19], [18, 16, 14, 13, 12, 15, 9, 10, 11, 17, 7, 1, 0, 5, 2, 3, 4, 6, 8, 19], [21, 19, 8, 6, 4, 3, 2, 5, 0, 1, 7, 17, 11, 10, 9, 15, 12, 13, 14, 16, 18, 20], [20, 18, 16, 14, 13, 12, 15, 9, 10, 11, 17, 7, 1, 0, 5, 2, 3, 4, 6, 8, 19, 21, 22], [18, 16, 14, 13, 12, 15, 9, 10, 11, 17, 7, 1, 0, 5, 2, 3, 4, 6, 8, 19], [19, 8, 6, 4, 3, 2, 5, 0, 1, 7, 17, 11, 10, 9, 15, 12, 13, 14, 16, 18, 24], [18, 16, 14, 13, 12, 15, 9, 10, 11, 17, 7, 1, 0, 5, 2, 3, 4, 6, 8, 19], [26, 24, 18, 16, 14, 13, 12, 15, 9, 10, 11, 17, 7, 1, 0, 5, 2, 3, 4, 6, 8, 19, 25], [25, 19, 8, 6, 4, 3, 2, 5, 0, 1, 7, 17, 11, 10, 9, 15, 12, 13, 14, 16, 18, 24, 26, 27], [27, 26, 24, 25, 28, 22, 21, 19, 8, 6, 4, 3, 2, 5, 0, 1, 7, 17, 11, 10, 9, 15, 12, 13, 14, 16, 18, 20, 23], [23, 20, 18, 16, 14, 13, 12, 15, 9, 10, 11, 17, 7, 1, 0, 5, 2, 3, 4, 6, 8, 19, 21, 22, 28, 25, 24, 26, 27, 29], [29, 27, 26, 24, 25, 28, 22, 21, 19, 8, 6, 4, 3, 2, 5, 0, 1, 7, 17, 11, 10, 9, 15, 12, 13, 14, 16, 18, 20, 23, 30], [30, 23, 20, 18, 16, 14, 13, 12, 15, 9, 10, 11, 17, 7, 1, 0, 5, 2, 3, 4, 6, 8, 19, 21, 22, 28, 25, 24, 26, 27, 29, 31], [31, 29, 27, 26, 24, 25, 28, 22, 21, 19, 8, 6, 4, 3, 2, 5, 0, 1, 7, 17, 11, 10, 9, 15, 12, 13, 14, 16, 18, 20, 23, 30, 32], [32, 30, 23, 20, 18, 16, 14, 13, 12, 15, 9, 10, 11, 17, 7, 1, 0, 5, 2, 3, 4, 6, 8, 19, 21, 22, 28, 25, 24, 26, 27, 29, 31, 33], [33, 31, 29, 27, 26, 24, 25, 28, 22, 21, 19, 8, 6, 4, 3, 2, 5, 0, 1, 7, 17, 11, 10, 9, 15, 12, 13, 14, 16, 18, 20, 23, 30, 32, 34], [34, 32, 30, 23, 20, 18, 16, 14, 13, 12, 15, 9, 10, 11, 17, 7, 1, 0, 5, 2, 3, 4, 6, 8, 19, 21, 22, 28, 25, 24, 26, 27, 29, 31, 33, 35], [35, 33, 31, 29, 27, 26, 24, 25, 28, 22, 21, 19, 8, 6, 4, 3, 2, 5, 0, 1, 7, 17, 11, 10, 9, 15, 12, 13, 14, 16, 18, 20, 23, 30, 32, 34, 36], [35, 33, 31, 29, 27, 26, 24, 25, 28, 22, 21, 19, 8, 6, 4, 3, 2, 5, 0, 1, 7, 17, 11, 10, 9, 15, 12, 13, 14, 16, 18, 20, 23, 30, 32, 34, 36], [38, 36, 34, 32, 30, 23, 20, 18, 16, 14, 13, 12, 15, 9, 10, 11, 17, 7, 1, 0, 5, 2, 3, 4, 6, 8, 19, 21, 22, 28, 25, 24, 26, 27, 29, 31, 33, 35, 37], [37, 38, 39, 35, 33, 31, 29, 27, 26, 24, 25, 28, 22, 21, 19, 8, 6, 4, 3, 2, 5, 0, 1, 7, 17, 11, 10, 9, 15, 12, 13, 14, 16, 18, 20, 23, 30, 32, 34, 36], [36, 34, 35, 39, 38, 37, 40, 32, 30, 23, 20, 18, 16, 14, 13, 12, 15, 9, 10, 11, 17, 7, 1, 0, 5, 2, 3, 4, 6, 8, 19, 21, 22, 28, 25, 24, 26, 27, 29, 31, 33], [33, 31, 32, 40, 37, 38, 39, 35, 34, 36, 41, 29, 27, 26, 24, 25, 28, 22, 21, 19, 8, 6, 4, 3, 2, 5, 0, 1, 7, 17, 11, 10, 9, 15, 12, 13, 14, 16, 18, 20, 23, 30], [30, 23, 20, 21, 22, 28, 25, 24, 26, 27, 29, 41, 36, 34, 35, 39, 38, 37, 40, 32, 31, 33, 42, 18, 16, 14, 13, 12, 15, 9, 10, 11, 17, 7, 1, 0, 5, 2, 3, 4, 6, 8, 19]] ?_
     refine dN 6 33 ?_
     refine dC [] ?_
     refine cd (at_ok _ _ _) ?_
     refine dN 2 30 ?_
     refine dT ?_
     refine dT ?_
     refine dT ?_
     refine dT ?_
     refine dT ?_
     refine dT ?_
     refine dT ?_
     refine dG [] ?_
     refine cd (at_ok _ _ _) ?_
     refine dT ?_
     refine dN 2 19 ?_
     refine dT ?_
     refine dT ?_
     refine dT ?_
     refine dT ?_
     refine dT ?_
     refine dT ?_
     refine dT ?_
     refine dT ?_
     refine dT ?_
     refine dT ?_
     refine dT ?_
     refine dT ?_
     refine dT ?_
     refine dT ?_
     refine dT ?_
     refine dT ?_
     refine dT ?_
     refine dT ?_
     refine dT ?_
     refine dD ?_
     refine gT ?_
     refine gT ?_
     refine gT ?_
     refine gT ?_
     refine oN 1 ?_
     refine oK [3, 4, 6, 8, 9, 113] ?_
     refine cF ?_
     refine W.skip ?_
     refine hK4 _ ?_
     clear hK4 K4
     refine rEw ?_
     refine ⟨i + 1, lf0, v0, v0⟩
    ·
     replace F := F.add hown
     have hio : i < ow.length := by omega
     have his : i < (swapT ow lk).length := by omega
     have hik : i < lk.length := by omega
     have hs1 : ((swapT ow lk)[i].1, (swapT ow lk)[i].2) ∈ ow := by have := (swap_mem qv hio).1; rwa [nth_get his] at this
     have hs2 : ((swapT ow lk)[i].1, (swapT ow lk)[i].2) ∉ (swapT ow lk).take i := swap_fresh qv his
     have hs3 : ¬ ((ow.idxOf ((swapT ow lk)[i].1, (swapT ow lk)[i].2) : Nat) : Int) < 0 := by omega
     replace F := F.add hio |>.add his |>.add hik |>.add hs1 |>.add hs2 |>.add hs3
     refine wD 20 [] [[], [0], [], [2, 0, 1], [1, 0, 2, 3], [], [5], [], [7, 5, 6], [6, 5, 7, 8], [8, 7, 5, 6, 9, 3, 2, 0, 1, 4], [], [11], [], [13, 11, 12], [12, 11, 13, 14], [], [], [17, 16], [16, 17, 18], [4, 1, 0, 2, 3, 9, 6, 5, 7, 8, 10, 18, 17, 16, 19, 14, 13, 11, 12, 15], [15, 12, 11, 13, 14, 19, 16, 17, 18, 20, 4, 1, 0, 2, 3, 9, 6, 5, 7, 8, 10], [21, 15, 12, 11, 13, 14, 19, 16, 17, 18, 10, 8, 7, 5, 6, 9, 3, 2, 0, 1, 4, 20]] ?_
     refine dN 10 10 ?_
     refine dC [] ?_
     refine cd (at_ok _ _ _) ?_
     refine dN 9 0 ?_
     refine dD ?_
     refine oC [] ?_
     refine ct (at_ok _ _ _) ?_
     refine oN 2 ?_
     refine oK [3, 4, 6, 8, 9, 10, 11] ?_
     refine wD 39 [] [[], [0], [], [], [3, 2], [2, 3, 4], [4, 3, 2, 5, 0, 1], [1, 0, 5, 2, 3, 4, 6], [6, 4, 3, 2, 5, 0, 1, 7], [7, 1, 0, 5, 2, 3, 4, 6, 8], [7, 1, 0, 5, 2, 3, 4, 6, 8], [10, 8, 6, 4, 3, 2, 5, 0, 1, 7, 9], [7, 1, 0, 5, 2, 3, 4, 6, 8], [7, 1, 0, 5, 2, 3, 4, 6, 8], [13, 8, 6, 4, 3, 2, 5, 0, 1, 7, 12], [12, 7, 1, 0, 5, 2, 3, 4, 6, 8, 13, 14], [14, 13, 12, 15, 9, 7, 1, 0, 5, 2, 3, 4, 6, 8, 10, 11], [11, 10, 8, 6, 4, 3, 2, 5, 0, 1, 7, 9, 15, 12, 13, 14, 16], [16, 14, 13, 12, 15, 9, 10, 11, 17, 7, 1, 0, 5, 2, 3, 4, 6, 8], [8, 6, 4, 3, 2, 5, 0, 1, 7, 17, 11, 10, 9, 15, 12, 13, 14, 16, 18], [18, 16, 14, 13, 12, 15, 9, 10, 11, 17, 7, 1, 0, 5, 2, 3, 4, 6, 8, 19], [18, 16, 14, 13, 12, 15, 9, 10, 11, 17, 7, 1, 0, 5, 2, 3, 4, 6, 8, 19], [21, 19, 8, 6, 4, 3, 2, 5, 0, 1, 7, 17, 11, 10, 9, 15, 12, 13, 14, 16, 18, 20], [20, 18, 16, 14, 13, 12, 15, 9, 10, 11, 17, 7, 1, 0, 5, 2, 3, 4, 6, 8, 19, 21, 22], [18, 16, 14, 13, 12, 15, 9, 10, 11, 17, 7, 1, 0, 5, 2, 3, 4, 6, 8, 19], [19, 8, 6, 4, 3, 2, 5, 0, 1, 7, 17, 11, 10, 9, 15, 12, 13, 14, 16, 18, 24], [18, 16, 14, 13, 12, 15, 9, 10, 11, 17, 7, 1, 0, 5, 2, 3, 4, 6, 8, 19], [26, 24, 18, 16, 14, 13, 12, 15, 9, 10, 11, 17, 7, 1, 0, 5, 2, 3, 4, 6, 8, 19, 25], [25, 19, 8, 6, 4, 3, 2, 5, 0, 1, 7, 17, 11, 10, 9, 15, 12, 13, 14, 16, 18, 24, 26, 27], [27, 26, 24, 25, 28, 22, 21, 19, 8, 6, 4, 3, 2, 5, 0, 1, 7, 17, 11, 10, 9, 15, 12, 13, 14, 16, 18, 20, 23], [23, 20, 18, 16, 14, 13, 12, 15, 9, 10, 11, 17, 7, 1, 0, 5, 2, 3, 4, 6, 8, 19, 21, 22, 28, 25, 24, 26, 27, 29], [29, 27, 26, 24, 25, 28, 22, 21, 19, 8, 6, 4, 3, 2, 5, 0, 1, 7, 17, 11, 10, 9, 15, 12, 13, 14, 16, 18, 20, 23, 30], [30, 23, 20, 18, 16, 14, 13, 12, 15, 9, 10, 11, 17, 7, 1, 0, 5, 2, 3, 4, 6, 8, 19, 21, 22, 28, 25, 24, 26, 27, 29, 31], [31, 29, 27, 26, 24, 25, 28, 22, 21, 19, 8, 6, 4, 3, 2, 5, 0, 1, 7, 17, 11, 10, 9, 15, 12, 13, 14, 16, 18, 20, 23, 30, 32], [32, 30, 23, 20, 18, 16, 14, 13, 12, 15, 9, 10, 11, 17, 7, 1, 0, 5, 2, 3, 4, 6, 8, 19, 21, 22, 28, 25, 24, 26, 27, 29, 31, 33], [33, 31, 29, 27, 26, 24, 25, 28, 22, 21, 19, 8, 6, 4, 3, 2, 5, 0, 1, 7, 17, 11, 10, 9, 15, 12, 13, 14, 16, 18, 20, 23, 30, 32, 34], [34, 32, 30, 23, 20, 18, 16, 14, 13, 12, 15, 9, 10, 11, 17, 7, 1, 0, 5, 2, 3, 4, 6, 8, 19, 21, 22, 28, 25, 24, 26, 27, 29, 31, 33, 35], [35, 33, 31, 29, 27, 26, 24, 25, 28, 22, 21, 19, 8, 6, 4, 3, 2, 5, 0, 1, 7, 17, 11, 10, 9, 15, 12, 13, 14, 16, 18, 20, 23, 30, 32, 34, 36], [35, 33, 31, 29, 27, 26, 24, 25, 28, 22, 21, 19, 8, 6, 4, 3, 2, 5, 0, 1, 7, 17, 11, 10, 9, 15, 12, 13, 14, 16, 18, 20, 23, 30, 32, 34, 36], [38, 36, 34, 32, 30, 23, 20, 18, 16, 14, 13, 12, 15, 9, 10, 11, 17, 7, 1, 0, 5, 2, 3, 4, 6, 8, 19, 21, 22, 28, 25, 24, 26, 27, 29, 31, 33, 35, 37], [37, 38, 39, 35, 33, 31, 29, 27, 26, 24, 25, 28, 22, 21, 19, 8, 6, 4, 3, 2, 5, 0, 1, 7, 17, 11, 10, 9, 15, 12, 13, 14, 16, 18, 20, 23, 30, 32, 34, 36], [36, 34, 35, 39, 38, 37, 40, 32, 30, 23, 20, 18, 16, 14, 13, 12, 15, 9, 10, 11, 17, 7, 1, 0, 5, 2, 3, 4, 6, 8, 19, 21, 22, 28, 25, 24, 26, 27, 29, 31, 33], [33, 31, 32, 40, 37, 38, 39, 35, 34, 36, 41, 29, 27, 26, 24, 25, 28, 22, 21, 19, 8, 6, 4, 3, 2, 5, 0, 1, 7, 17, 11, 10, 9, 15, 12, 13, 14, 16, 18, 20, 23, 30], [30, 23, 20, 21, 22, 28, 25, 24, 26, 27, 29, 41, 36, 34, 35, 39, 38, 37, 40, 32, 31, 33, 42, 18, 16, 14, 13, 12, 15, 9, 10, 11, 17, 7, 1, 0, 5, 2, 3, 4, 6, 8, 19]] ?_
     refine dN 6 33 ?_
     refine dC [] ?_
     refine cd (at_ok _ _ _) ?_
     refine dN 2 30 ?_
     refine dT ?_
     refine dT ?_
     refine dT ?_
     refine dT ?_
     refine dT ?_
     refine dT ?_
     refine dT ?_
     refine dG [] ?_
     refine cd (at_ok _ _ _) ?_
     refine dT ?_
     refine dN 2 19 ?_
     refine dT ?_
     refine dT ?_
     refine dT ?_
     refine dT ?_
     refine dT ?_
     refine dT ?_
     refine dT ?_
     refine dT ?_
     refine dT ?_
     refine dT ?_
     refine dT ?_
     refine dT ?_
     refine dT ?_
     refine dT ?_
     refine dT ?_
     refine dT ?_
     refine dT ?_
     refine dF ?_
     refine dF ?_
     refine dD ?_
     refine gF ?_
     refine gT ?_
     refine gT ?_
     refine gT ?_
     refine oN 1 ?_
     refine oK [3, 4, 6, 8, 9, 113] ?_
     refine cF ?_
     refine W.skip ?_
     refine hK4 _ ?_
     clear hK4 K4
     refine rEw ?_
     refine ⟨i + 1, lf0, v0, v0⟩
  ·
   try simp at hc2
   replace F := F.add hc2
   refine W.exit ?_
   refine hK2 _ ?_
   clear hK3 K3 hK2 K2
   refine W.seqk fun K5 hK5 => ?_
   refine rK [3, 4, 6, 8, 12] ?_
   refine W.block ?_
   refine lpa (α := Nat) [3, 4, 6] [116, 125, 146, 155, 165] [] (fun j => [(12, I j), (8, I (cntR (ringsT ow lk) j))]) (fun j => []) (fun j => j ≤ (ringsT ow lk).length) (fun j => (ringsT ow lk).length - j) 0 v0 ?_
   ·
    intro j hI1
    simp only [List.cons_append, List.nil_append]
    try dsimp only at hI1
    replace F := F.add hI1
    refine W.seqk fun K6 hK6 => ?_
    refine rK [3, 4, 6, 8, 12, 117] ?_
    refine it (fun hc6 => ?_) (fun hc6 => ?_)
    ·
     try simp at hc6
     replace F := F.add hc6
     refine W.skip ?_
     refine hK6 _ ?_
     clear hK6 K6
     refine W.seqk fun K7 hK7 => ?_
     refine W.block ?_
     have hjl : j < (ringsT ow lk).length := by omega
     have hcb : cntR (ringsT ow lk) j + (ringsT ow lk)[j].length ≤ 8 := by
       have h1 := cntR_succ hjl
       have h2 := cntR_le (ringsT ow lk) (j + 1)
       rw [ringsT_count qv] at h2
       omega
     replace F := F.add hjl |>.add hcb
     refine rK [3, 4, 6, 8, 12, 13] ?_
     refine W.block ?_
     refine lpa (α := Nat) [3, 4, 6, 12] [125, 146, 155, 165] [] (fun k => [(13, I k), (8, I ((cntR (ringsT ow lk) j : Int) + (k : Int)))]) (fun k => []) (fun k => k ≤ (ringsT ow lk)[j].length) (fun k => (ringsT ow lk)[j].length - k) 0 v0 ?_
     ·
      intro k hI2
      simp only [List.cons_append, List.nil_append]
      try dsimp only at hI2
      replace F := F.add hI2
      refine W.seqk fun K8 hK8 => ?_
      refine rK [3, 4, 6, 8, 12, 13, 126] ?_
      refine it (fun hc7 => ?_) (fun hc7 => ?_)
      ·
       try simp at hc7
       replace F := F.add hc7
       refine W.skip ?_
       refine hK8 _ ?_
       clear hK8 K8
       refine W.seqk fun K9 hK9 => ?_
       refine W.block ?_
       have hkr : k < (ringsT ow lk)[j].length := by omega
       obtain ⟨n, qn⟩ : ∃ n, n = (k + 1) % (ringsT ow lk)[j].length := ⟨_, rfl⟩
       have hmod : Int.tmod ((k : Int) + 1) (((ringsT ow lk)[j].length : Nat) : Int) = (n : Int) := by rw [qn]; rfl
       have hm0 : ¬ (ringsT ow lk)[j].length = 0 := by omega
       have hml : n < (ringsT ow lk)[j].length := qn ▸ Nat.mod_lt _ (by omega)
       obtain ⟨qr1, qr2, qr3⟩ := ring_swap qv (List.getElem_mem hjl) hkr
       have hx1 : (ringsT ow lk)[j][k] < ow.length := qr1 _ (List.getElem_mem hkr)
       have hx2 : (ringsT ow lk)[j][n] < ow.length := qr1 _ (List.getElem_mem hml)
       have hr0 : 0 < (ringsT ow lk)[j].length := by omega
       rw [← qn, nth_get hkr, nth_get hml, nth_get (show (ringsT ow lk)[j][k] < (swapT ow lk).length by omega), nth_get hx2] at qr2
       rw [nth_get hkr, nth_get hr0] at qr3
       have hr2 : ((swapT ow lk)[(ringsT ow lk)[j][k]]'(by omega) == ow[(ringsT ow lk)[j][n]]) = true := beq_iff_eq.2 qr2
       have hx3 : ¬ ow.length ≤ (ringsT ow lk)[j][k] := Nat.not_le.2 hx1
       have hx4 : ¬ ow.length ≤ (ringsT ow lk)[j][n] := Nat.not_le.2 hx2
       have hx5 : ¬ (((ringsT ow lk)[j][k] : Nat) : Int) < 0 := Int.not_lt.2 (Int.natCast_nonneg _)
       have hx6 : ¬ (((ringsT ow lk)[j][n] : Nat) : Int) < 0 := Int.not_lt.2 (Int.natCast_nonneg _)
       have hr3 : ¬ ((ringsT ow lk)[j][k] < (ringsT ow lk)[j][0]) := Nat.not_lt.2 qr3
       replace F := F.add hkr |>.add hmod |>.add hm0 |>.add hml |>.add hx1 |>.add hx2 |>.add hr0 |>.add hr2 |>.add hx3 |>.add hx4 |>.add hx5 |>.add hx6 |>.add hr3
       refine wD 22 [] [[], [], [1, 0], [0, 1, 2], [], [4, 2, 1, 0, 3], [3, 0, 1, 2, 4, 5], [], [], [8, 7], [7, 8, 9], [], [11], [], [], [14, 13], [13, 14, 15], [15, 14, 13, 16], [16, 13, 14, 15, 17, 11, 12], [12, 11, 17, 15, 14, 13, 16, 18, 9, 8, 7, 10], [10, 7, 8, 9, 18, 16, 13, 14, 15, 17, 11, 12, 19], [5, 4, 2, 1, 0, 3, 6], [6, 3, 0, 1, 2, 4, 5, 21, 19, 12, 11, 17, 15, 14, 13, 16, 18, 9, 8, 7, 10, 20]] ?_
       refine dNw 22 0 ?_
       refine dD ?_
       refine oN 1 ?_
       refine oK [3, 4, 6, 8, 12, 13, 14, 15] ?_
       refine W.seqk fun K10 hK10 => ?_
       refine wD 38 [] [[], [0], [0, 1], [1, 0, 2], [1, 0, 2], [2, 0, 1, 4], [4, 5, 2, 0, 1, 3], [3, 5, 4, 6, 1, 0, 2], [2, 0, 1, 6, 4, 5, 3, 7], [7, 3, 5, 4, 6, 1, 0, 2, 8], [8, 2, 0, 1, 6, 4, 5, 3, 7, 9], [9, 10, 7, 3, 5, 4, 6, 1, 0, 2, 8], [8, 2, 0, 1, 6, 4, 5, 3, 7, 10, 9, 11], [11, 9, 10, 7, 3, 5, 4, 6, 1, 0, 2, 8, 12], [11, 9, 10, 7, 3, 5, 4, 6, 1, 0, 2, 8, 12], [12, 8, 2, 0, 1, 6, 4, 5, 3, 7, 10, 9, 11, 14], [14, 15, 12, 8, 2, 0, 1, 6, 4, 5, 3, 7, 10, 9, 11, 13], [13, 15, 14, 16, 11, 9, 10, 7, 3, 5, 4, 6, 1, 0, 2, 8, 12], [12, 8, 2, 0, 1, 6, 4, 5, 3, 7, 10, 9, 11, 16, 14, 15, 13, 17], [17, 13, 15, 14, 16, 11, 9, 10, 7, 3, 5, 4, 6, 1, 0, 2, 8, 12, 18], [17, 13, 15, 14, 16, 11, 9, 10, 7, 3, 5, 4, 6, 1, 0, 2, 8, 12, 18], [17, 13, 15, 14, 16, 11, 9, 10, 7, 3, 5, 4, 6, 1, 0, 2, 8, 12, 18], [21, 18, 12, 8, 2, 0, 1, 6, 4, 5, 3, 7, 10, 9, 11, 16, 14, 15, 13, 17, 20], [20, 17, 13, 15, 14, 16, 11, 9, 10, 7, 3, 5, 4, 6, 1, 0, 2, 8, 12, 18, 21, 22], [22, 21, 18, 12, 8, 2, 0, 1, 6, 4, 5, 3, 7, 10, 9, 11, 16, 14, 15, 13, 17, 20, 23], [23, 20, 17, 13, 15, 14, 16, 11, 9, 10, 7, 3, 5, 4, 6, 1, 0, 2, 8, 12, 18, 21, 22, 24], [24, 22, 21, 20, 23, 25, 18, 12, 8, 2, 0, 1, 6, 4, 5, 3, 7, 10, 9, 11, 16, 14, 15, 13, 17, 19], [19, 25, 23, 20, 21, 22, 24, 26, 17, 13, 15, 14, 16, 11, 9, 10, 7, 3, 5, 4, 6, 1, 0, 2, 8, 12, 18], [18, 12, 8, 2, 0, 1, 6, 4, 5, 3, 7, 10, 9, 11, 16, 14, 15, 13, 17, 26, 24, 22, 21, 20, 23, 25, 19, 27], [27, 19, 25, 23, 20, 21, 22, 24, 26, 17, 13, 15, 14, 16, 11, 9, 10, 7, 3, 5, 4, 6, 1, 0, 2, 8, 12, 18, 28], [27, 19, 25, 23, 20, 21, 22, 24, 26, 17, 13, 15, 14, 16, 11, 9, 10, 7, 3, 5, 4, 6, 1, 0, 2, 8, 12, 18, 28], [30, 28, 18, 12, 8, 2, 0, 1, 6, 4, 5, 3, 7, 10, 9, 11, 16, 14, 15, 13, 17, 26, 24, 22, 21, 20, 23, 25, 19, 27, 29], [29, 27, 19, 25, 23, 20, 21, 22, 24, 26, 17, 13, 15, 14, 16, 11, 9, 10, 7, 3, 5, 4, 6, 1, 0, 2, 8, 12, 18, 28, 30, 31], [27, 19, 25, 23, 20, 21, 22, 24, 26, 17, 13, 15, 14, 16, 11, 9, 10, 7, 3, 5, 4, 6, 1, 0, 2, 8, 12, 18, 28], [28, 18, 12, 8, 2, 0, 1, 6, 4, 5, 3, 7, 10, 9, 11, 16, 14, 15, 13, 17, 26, 24, 22, 21, 20, 23, 25, 19, 27, 33], [27, 19, 25, 23, 20, 21, 22, 24, 26, 17, 13, 15, 14, 16, 11, 9, 10, 7, 3, 5, 4, 6, 1, 0, 2, 8, 12, 18, 28], [35, 33, 27, 19, 25, 23, 20, 21, 22, 24, 26, 17, 13, 15, 14, 16, 11, 9, 10, 7, 3, 5, 4, 6, 1, 0, 2, 8, 12, 18, 28, 34], [34, 28, 18, 12, 8, 2, 0, 1, 6, 4, 5, 3, 7, 10, 9, 11, 16, 14, 15, 13, 17, 26, 24, 22, 21, 20, 23, 25, 19, 27, 33, 35, 36], [36, 35, 33, 34, 37, 31, 30, 28, 18, 12, 8, 2, 0, 1, 6, 4, 5, 3, 7, 10, 9, 11, 16, 14, 15, 13, 17, 26, 24, 22, 21, 20, 23, 25, 19, 27, 29, 32], [32, 29, 30, 31, 37, 34, 33, 35, 36, 38, 27, 19, 25, 23, 20, 21, 22, 24, 26, 17, 13, 15, 14, 16, 11, 9, 10, 7, 3, 5, 4, 6, 1, 0, 2, 8, 12, 18, 28]] ?_
       refine dN 3 35 ?_
       refine dT ?_
       refine dT ?_
       refine dT ?_
       refine dT ?_
       refine dN 2 29 ?_
       refine dT ?_
       refine dT ?_
       refine dN 2 25 ?_
       refine dT ?_
       refine dT ?_
       refine dT ?_
       refine dT ?_
       refine dN 2 19 ?_
       refine dT ?_
       refine dT ?_
       refine dT ?_
       refine dT ?_
       refine dT ?_
       refine dT ?_
       refine dT ?_
       refine dT ?_
       refine dN 2 9 ?_
       refine dT ?_
       refine dT ?_
       refine dT ?_
       refine dT ?_
       refine dT ?_
       refine dT ?_
       refine dT ?_
       refine dT ?_
       refine dT ?_
       refine dD ?_
       refine gT ?_
       refine oN 1 ?_
       refine oK [3, 4, 6, 8, 12, 13, 189] ?_
       refine cF ?_
       refine W.skip ?_
       refine hK10 _ ?_
       clear hK10 K10
       refine rEw ?_
       refine hK9 _ ?_
       clear hK9 K9
       refine rEw ?_
       refine ⟨k + 1, lf0, v0, v0⟩
      ·
       try simp at hc7
       replace F := F.add hc7
       refine W.exit ?_
       refine hK7 _ ?_
       clear hK8 K8 hK7 K7
       refine rEw ?_
       refine ⟨j + 1, lf ?_ ?_, v0, v0⟩
       ·
        try (simp [Fx.get F])
        all_goals (
         have := cntR_succ hjl
         omega
        )
       ·
        exact v1
    ·
     try simp at hc6
     replace F := F.add hc6
     refine W.exit ?_
     refine hK5 _ ?_
     clear hK6 K6 hK5 K5
     refine W.seqR ?_
     refine oN 5 ?_
     refine gXc ?_
     refine cx (fun hg => by (try simp at hg); exact awake_ok) ?_
     refine oN 2 ?_
     refine oK [2] ?_
     refine W.ret ?_
     refine er false [] [] ?_
     rw [cntR_full (by omega), ringsT_count qv]
     simp
end Go.Sim
