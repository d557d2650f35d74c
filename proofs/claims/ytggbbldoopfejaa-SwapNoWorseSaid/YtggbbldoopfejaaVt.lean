/- The reference's search for a group that blocks. -/
import Derived.Test.YtggbbldoopfejaaVr
namespace Go.Sim
open Go.Proofs Go.Plain
set_option maxRecDepth 100000
set_option linter.unusedSimpArgs false
set_option linter.unusedVariables false
attribute [-simp] List.map_set List.map_take List.map_drop
attribute [local simp] take_map' drop_map' take_app1
/-- a group that blocks: the first ones get the turns of the givers -/
def rblk (ow : List Turn) (lk : List (List Turn)) (held : List Turn) (g : List Nat) : Nat → List Nat → Bool → Bool
  | 0, _, _ => false
  | f + 1, gv, better => if gv.length = g.length then better else g.any fun o => !decide (o ∈ gv) && decide (rkR ow lk (nth g gv.length) (nth ow o) < (takesT ow lk (nth g gv.length)).length) && decide (rkR ow lk (nth g gv.length) (nth ow o) ≤ rkR ow lk (nth g gv.length) (nth held (nth g gv.length))) && rblk ow lk held g f (gv ++ [o]) (better || decide (rkR ow lk (nth g gv.length) (nth ow o) < rkR ow lk (nth g gv.length) (nth held (nth g gv.length))))
set_option maxHeartbeats 4000000 in
theorem rblk_step (ow : List Turn) (lk : List (List Turn)) (held : List Turn) (hv : ValidT ow lk) (hh : held.length = ow.length) (g : List Nat) (hg : ∀ y ∈ g, y < ow.length) (hg8 : g.length ≤ 8) (f : Nat) (gv : List Nat) (better : Bool) (hnx : gv.length ≤ g.length) (ih : ∀ (x : Nat) (better : Bool), gv.length + 1 ≤ g.length → ACalls Try.prog 67 [trade ow lk, turns held, rgV g, rgV (gv ++ [x]), B better] [] (fun r o => r = B (rblk ow lk held g f (gv ++ [x]) better) ∧ o = [])) : ACalls Try.prog 67 [trade ow lk, turns held, rgV g, rgV gv, B better] [] (fun r o => r = B (rblk ow lk held g (f + 1) gv better) ∧ o = []) := by
 have F := Fx.nil
 replace F := F.add hnx
 refine ent Try.func67 Try.ntmps67 Try.results67 ?_
 have hn8 : ow.length ≤ 8 := hv.most
 have qs : lk.length = ow.length := hv.same
 replace F := F.add hn8
 refine rK [1, 2, 3, 4, 5] ?_
 refine rK [1, 2, 3, 4, 5, 11] ?_
 refine W.seqk fun K1 hK1 => ?_
 refine rK [1, 2, 3, 4, 5, 11, 23] ?_
 refine it (fun hc1 => ?_) (fun hc1 => ?_)
 ·
  try simp at hc1
  replace F := F.add hc1
  refine rK [10] ?_
  refine W.ret ?_
  refine tr ?_
  clear hK1 K1
  refine er false [] [] ?_
  first
  | exact ⟨congrArg B (by rw [rblk, if_pos (by omega)]), rfl⟩
  | exact ⟨congrArg B (by rw [he, List.drop_of_length_le hc2]; rfl), rfl⟩
  | exact ⟨congrArg B (by rw [qhe, decide_eq_false hin, decide_eq_true hgo, decide_eq_true hle, (show rblk ow lk held g f (gv ++ [g[k]]) (better || decide (rkR ow lk g[gv.length] ow[g[k]] < rkR ow lk g[gv.length] held[g[gv.length]])) = true by first | (rw [hbt, Bool.true_or]; assumption) | (rw [show better = false by simpa using hbt, Bool.false_or]; assumption))]; rfl), rfl⟩
 ·
  try simp at hc1
  replace F := F.add hc1
  have hnl : gv.length < g.length := by omega
  have hi : g[gv.length] < ow.length := hg _ (List.getElem_mem hnl)
  have hih : g[gv.length] < held.length := by omega
  have qk : g[gv.length] < lk.length := by omega
  have q16 : lk[g[gv.length]].length ≤ 1000 := Nat.le_trans (hv.likes _ (List.getElem_mem qk)).2 (by omega)
  replace F := F.add hnl |>.add hi |>.add hih
  refine W.skip ?_
  refine hK1 _ ?_
  clear hK1 K1
  refine rK [1, 2, 3, 4, 5, 12] ?_
  refine W.seqR ?_
  refine oN 2 ?_
  refine oC [] ?_
  refine ct (Takes_imm ow lk g[gv.length] hi qk q16) ?_
  refine oN 2 ?_
  refine oK [1, 2, 3, 4, 5, 12, 13] ?_
  refine W.seqk fun K2 hK2 => ?_
  refine rK [1, 2, 3, 4, 5, 12, 13, 14] ?_
  refine W.block ?_
  refine lpa (α := Nat) [1, 2, 3, 4, 5, 12, 13] [35, 50, 57, 60, 76, 78, 80, 81, 88] [] (fun k => [(14, I k)]) (fun k => []) (fun k => k ≤ g.length ∧ rblk ow lk held g (f + 1) gv better = (g.drop k).any fun o => !decide (o ∈ gv) && decide (rkR ow lk g[gv.length] (nth ow o) < (takesT ow lk g[gv.length]).length) && decide (rkR ow lk g[gv.length] (nth ow o) ≤ rkR ow lk g[gv.length] held[g[gv.length]]) && rblk ow lk held g f (gv ++ [o]) (better || decide (rkR ow lk g[gv.length] (nth ow o) < rkR ow lk g[gv.length] held[g[gv.length]]))) (fun k => g.length - k) 0 ?_ ?_
  ·
   exact ⟨by omega, by rw [rblk, if_neg (by omega), nth_get hnl, nth_get hih]; rfl⟩
  ·
   intro k hI0
   simp only [List.cons_append, List.nil_append]
   try dsimp only at hI0
   obtain ⟨hkl, he⟩ := hI0
   replace F := F.add hkl
   refine W.seqk fun K3 hK3 => ?_
   refine rK [1, 2, 3, 4, 5, 12, 13, 14, 36] ?_
   refine it (fun hc2 => ?_) (fun hc2 => ?_)
   ·
    try simp at hc2
    replace F := F.add hc2
    refine W.skip ?_
    refine hK3 _ ?_
    clear hK3 K3
    refine W.seqk fun K4 hK4 => ?_
    refine W.block ?_
    have hk : k < g.length := by omega
    have ho : g[k] < ow.length := hg _ (List.getElem_mem hk)
    have qhe := he
    rw [any_drop hk, nth_get ho] at qhe
    replace F := F.add hk |>.add ho
    refine rK [1, 2, 3, 4, 5, 12, 13, 14, 15] ?_
    refine wD 14 [] [[], [], [], [2], [], [4, 2, 3], [3, 2, 4, 5], [5, 4, 2, 3, 6, 1, 0], [], [], [], [], [11, 10], [10, 11, 12], [0, 1, 6, 3, 2, 4, 5, 7, 12, 11, 10, 13, 9, 8], [8, 9, 13, 10, 11, 12, 14, 0, 1, 6, 3, 2, 4, 5, 7], [15, 8, 9, 13, 10, 11, 12, 7, 5, 4, 2, 3, 6, 1, 0, 14]] ?_
    refine dN 7 7 ?_
    refine dC [] ?_
    refine cd (Rank_ok ow lk g[gv.length] ow[g[k]] hi qk q16) ?_
    refine dN 6 0 ?_
    refine dD ?_
    refine oC [] ?_
    refine ct (Rank_ok ow lk g[gv.length] held[g[gv.length]] hi qk q16) ?_
    refine oN 2 ?_
    refine oK [1, 2, 3, 4, 5, 12, 13, 14, 15, 16, 17] ?_
    by_cases hin : g[k] ∈ gv
    ·
     replace F := F.add hin
     refine wD 30 [(20, [608]), (23, [624])] [[], [], [1, 0], [0, 1, 2], [2, 1, 0, 3], [3, 0, 1, 2, 4], [3, 0, 1, 2, 4], [6, 4, 2, 1, 0, 3, 5], [5, 6, 7, 3, 0, 1, 2, 4], [4, 2, 1, 0, 3, 7, 6, 5, 8], [8, 5, 6, 7, 3, 0, 1, 2, 4, 9], [8, 5, 6, 7, 3, 0, 1, 2, 4, 9], [11, 9, 4, 2, 1, 0, 3, 7, 6, 5, 8, 10], [10, 11, 12, 8, 5, 6, 7, 3, 0, 1, 2, 4, 9], [9, 4, 2, 1, 0, 3, 7, 6, 5, 8, 12, 11, 10, 13], [13, 10, 11, 12, 8, 5, 6, 7, 3, 0, 1, 2, 4, 9, 14], [13, 10, 11, 12, 8, 5, 6, 7, 3, 0, 1, 2, 4, 9, 14], [13, 10, 11, 12, 8, 5, 6, 7, 3, 0, 1, 2, 4, 9, 14], [13, 10, 11, 12, 8, 5, 6, 7, 3, 0, 1, 2, 4, 9, 14], [13, 10, 11, 12, 8, 5, 6, 7, 3, 0, 1, 2, 4, 9, 14], [19, 14, 9, 4, 2, 1, 0, 3, 7, 6, 5, 8, 12, 11, 10, 13, 18], [13, 10, 11, 12, 8, 5, 6, 7, 3, 0, 1, 2, 4, 9, 14], [14, 9, 4, 2, 1, 0, 3, 7, 6, 5, 8, 12, 11, 10, 13, 21], [21, 22, 18, 13, 10, 11, 12, 8, 5, 6, 7, 3, 0, 1, 2, 4, 9, 14, 19, 20], [13, 10, 11, 12, 8, 5, 6, 7, 3, 0, 1, 2, 4, 9, 14], [20, 19, 18, 22, 21, 23, 14, 9, 4, 2, 1, 0, 3, 7, 6, 5, 8, 12, 11, 10, 13, 24], [24, 13, 10, 11, 12, 8, 5, 6, 7, 3, 0, 1, 2, 4, 9, 14, 23, 21, 22, 18, 19, 20, 25], [24, 13, 10, 11, 12, 8, 5, 6, 7, 3, 0, 1, 2, 4, 9, 14, 23, 21, 22, 18, 19, 20, 25], [27, 25, 20, 19, 18, 22, 21, 23, 14, 9, 4, 2, 1, 0, 3, 7, 6, 5, 8, 12, 11, 10, 13, 24, 26], [26, 27, 28, 24, 13, 10, 11, 12, 8, 5, 6, 7, 3, 0, 1, 2, 4, 9, 14, 23, 21, 22, 18, 19, 20, 25], [25, 24, 28, 27, 26, 29, 20, 19, 18, 22, 21, 23, 17, 16, 14, 9, 4, 2, 1, 0, 3, 7, 6, 5, 8, 12, 11, 10, 13, 15], [15, 16, 17, 23, 21, 22, 18, 19, 20, 29, 26, 27, 28, 24, 25, 30, 13, 10, 11, 12, 8, 5, 6, 7, 3, 0, 1, 2, 4, 9, 14]] ?_
     refine dN 2 28 ?_
     refine dC [] ?_
     refine cd (has_ok _ _) ?_
     refine dN 2 25 ?_
     refine dF ?_
     refine dF ?_
     refine dF ?_
     refine dN 2 20 ?_
     refine dF ?_
     refine dF ?_
     refine dF ?_
     refine dN 2 15 ?_
     refine dF ?_
     refine dF ?_
     refine dF ?_
     refine dF ?_
     refine dF ?_
     refine dF ?_
     refine dF ?_
     refine dF ?_
     refine dF ?_
     refine dF ?_
     refine dF ?_
     refine dF ?_
     refine dF ?_
     refine dF ?_
     refine dF ?_
     refine dD ?_
     refine gF ?_
     refine oN 1 ?_
     refine oK [1, 2, 3, 4, 5, 12, 13, 14, 89] ?_
     refine cF ?_
     refine W.skip ?_
     refine hK4 _ ?_
     clear hK4 K4
     refine rEw ?_
     refine ⟨k + 1, lf0, ?_, v0⟩
     ·
      first | exact ⟨by omega, by rw [qhe, decide_eq_true hin]; rfl⟩ | exact ⟨by omega, by rw [qhe, decide_eq_false hin, decide_eq_false hgo]; rfl⟩ | exact ⟨by omega, by rw [qhe, decide_eq_false hin, decide_eq_true hgo, decide_eq_false hle]; rfl⟩ | exact ⟨by omega, by rw [qhe, decide_eq_false hin, decide_eq_true hgo, decide_eq_true hle, (show rblk ow lk held g f (gv ++ [g[k]]) (better || decide (rkR ow lk g[gv.length] ow[g[k]] < rkR ow lk g[gv.length] held[g[gv.length]])) = false by first | (rw [hbt, Bool.true_or]; assumption) | (rw [show better = false by simpa using hbt, Bool.false_or]; assumption))]; rfl⟩
    ·
     replace F := F.add hin
     by_cases hgo : rkR ow lk g[gv.length] ow[g[k]] < (takesT ow lk g[gv.length]).length
     ·
      replace F := F.add hgo
      by_cases hle : rkR ow lk g[gv.length] ow[g[k]] ≤ rkR ow lk g[gv.length] held[g[gv.length]]
      ·
       replace F := F.add hle
       by_cases hbt : better = true
       ·
        replace F := F.add hbt
        have ih0 := ih g[k] true (by omega)
        rw [rgV_snoc] at ih0
        refine wD 30 [(20, [608]), (23, [624])] [[], [], [1, 0], [0, 1, 2], [2, 1, 0, 3], [3, 0, 1, 2, 4], [3, 0, 1, 2, 4], [6, 4, 2, 1, 0, 3, 5], [5, 6, 7, 3, 0, 1, 2, 4], [4, 2, 1, 0, 3, 7, 6, 5, 8], [8, 5, 6, 7, 3, 0, 1, 2, 4, 9], [8, 5, 6, 7, 3, 0, 1, 2, 4, 9], [11, 9, 4, 2, 1, 0, 3, 7, 6, 5, 8, 10], [10, 11, 12, 8, 5, 6, 7, 3, 0, 1, 2, 4, 9], [9, 4, 2, 1, 0, 3, 7, 6, 5, 8, 12, 11, 10, 13], [13, 10, 11, 12, 8, 5, 6, 7, 3, 0, 1, 2, 4, 9, 14], [13, 10, 11, 12, 8, 5, 6, 7, 3, 0, 1, 2, 4, 9, 14], [13, 10, 11, 12, 8, 5, 6, 7, 3, 0, 1, 2, 4, 9, 14], [13, 10, 11, 12, 8, 5, 6, 7, 3, 0, 1, 2, 4, 9, 14], [13, 10, 11, 12, 8, 5, 6, 7, 3, 0, 1, 2, 4, 9, 14], [19, 14, 9, 4, 2, 1, 0, 3, 7, 6, 5, 8, 12, 11, 10, 13, 18], [13, 10, 11, 12, 8, 5, 6, 7, 3, 0, 1, 2, 4, 9, 14], [14, 9, 4, 2, 1, 0, 3, 7, 6, 5, 8, 12, 11, 10, 13, 21], [21, 22, 18, 13, 10, 11, 12, 8, 5, 6, 7, 3, 0, 1, 2, 4, 9, 14, 19, 20], [13, 10, 11, 12, 8, 5, 6, 7, 3, 0, 1, 2, 4, 9, 14], [20, 19, 18, 22, 21, 23, 14, 9, 4, 2, 1, 0, 3, 7, 6, 5, 8, 12, 11, 10, 13, 24], [24, 13, 10, 11, 12, 8, 5, 6, 7, 3, 0, 1, 2, 4, 9, 14, 23, 21, 22, 18, 19, 20, 25], [24, 13, 10, 11, 12, 8, 5, 6, 7, 3, 0, 1, 2, 4, 9, 14, 23, 21, 22, 18, 19, 20, 25], [27, 25, 20, 19, 18, 22, 21, 23, 14, 9, 4, 2, 1, 0, 3, 7, 6, 5, 8, 12, 11, 10, 13, 24, 26], [26, 27, 28, 24, 13, 10, 11, 12, 8, 5, 6, 7, 3, 0, 1, 2, 4, 9, 14, 23, 21, 22, 18, 19, 20, 25], [25, 24, 28, 27, 26, 29, 20, 19, 18, 22, 21, 23, 17, 16, 14, 9, 4, 2, 1, 0, 3, 7, 6, 5, 8, 12, 11, 10, 13, 15], [15, 16, 17, 23, 21, 22, 18, 19, 20, 29, 26, 27, 28, 24, 25, 30, 13, 10, 11, 12, 8, 5, 6, 7, 3, 0, 1, 2, 4, 9, 14]] ?_
        refine dN 2 28 ?_
        refine dC [] ?_
        refine cd (has_ok _ _) ?_
        refine dN 2 25 ?_
        refine dT ?_
        refine dT ?_
        refine dT ?_
        refine dN 2 20 ?_
        refine dT ?_
        refine dT ?_
        refine dT ?_
        refine dN 2 15 ?_
        refine dT ?_
        refine dT ?_
        refine dT ?_
        refine dT ?_
        refine dT ?_
        refine WDraw.gd (by simp [hnx, hn8, hc1, hnl, hi, hih, hkl, hc2, hk, ho, hin, hgo, hle, hbt]; first | rfl | exact (Bool.not_not _).symm) rfl rfl (by simp [hnx, hn8, hc1, hnl, hi, hih, hkl, hc2, hk, ho, hin, hgo, hle, hbt]; rfl) ?_
        (with_reducible refine DG.isT ?_); refine DGt.app hΓ [608] (by simp [hnx, hn8, hc1, hnl, hi, hih, hkl, hc2, hk, ho, hin, hgo, hle, hbt]; (try (simp (disch := omega) only [wrap_i64, mul_i64, capOk_of]; (try simp [hnx, hn8, hc1, hnl, hi, hih, hkl, hc2, hk, ho, hin, hgo, hle, hbt]))); first | rfl | exact ⟨rfl, rfl⟩) (by first | rfl | simp) (by simp [hnx, hn8, hc1, hnl, hi, hih, hkl, hc2, hk, ho, hin, hgo, hle, hbt]; first | done | rfl) (.inr (by simp)) (by simp [hnx, hn8, hc1, hnl, hi, hih, hkl, hc2, hk, ho, hin, hgo, hle, hbt]; rfl) ?_
        refine dT ?_
        refine dT ?_
        refine WDraw.gd (by simp [hnx, hn8, hc1, hnl, hi, hih, hkl, hc2, hk, ho, hin, hgo, hle, hbt]; first | rfl | exact (Bool.not_not _).symm) rfl rfl (by simp [hnx, hn8, hc1, hnl, hi, hih, hkl, hc2, hk, ho, hin, hgo, hle, hbt]; rfl) ?_
        (with_reducible refine DG.isT ?_); refine DGt.app hΓ [624] (by simp [hnx, hn8, hc1, hnl, hi, hih, hkl, hc2, hk, ho, hin, hgo, hle, hbt]; (try (simp (disch := omega) only [wrap_i64, mul_i64, capOk_of]; (try simp [hnx, hn8, hc1, hnl, hi, hih, hkl, hc2, hk, ho, hin, hgo, hle, hbt]))); first | rfl | exact ⟨rfl, rfl⟩) (by first | rfl | simp) (by simp [hnx, hn8, hc1, hnl, hi, hih, hkl, hc2, hk, ho, hin, hgo, hle, hbt]; first | done | rfl) (.inr (by simp)) (by simp [hnx, hn8, hc1, hnl, hi, hih, hkl, hc2, hk, ho, hin, hgo, hle, hbt]; rfl) ?_
        refine dT ?_
        refine dT ?_
        refine dF ?_
        refine dF ?_
        refine dF ?_
        refine dT ?_
        refine dD ?_
        refine WOps.gd rfl rfl (by simp [hnx, hn8, hc1, hnl, hi, hih, hkl, hc2, hk, ho, hin, hgo, hle, hbt]; first | rfl | exact (Bool.not_not _).symm) ?_
        (with_reducible refine WG.isT ?_)
        refine WGt.frz (Le.freeze (id := 648) (by simp [hnx, hn8, hc1, hnl, hi, hih, hkl, hc2, hk, ho, hin, hgo, hle, hbt]; rfl)) rfl rfl ?_
        refine WGt.call rfl rfl rfl [] rfl rfl (by decide) (by simp [hnx, hn8, hc1, hnl, hi, hih, hkl, hc2, hk, ho, hin, hgo, hle, hbt]; first | rfl | exact ⟨rfl, rfl⟩) (by simp [hnx, hn8, hc1, hnl, hi, hih, hkl, hc2, hk, ho, hin, hgo, hle, hbt]; rfl) ?_
        refine ct (ih0) ?_
        refine oN 1 ?_
        refine oK [1, 2, 3, 4, 5, 12, 13, 14, 89] ?_
        refine it (fun hc4 => ?_) (fun hc4 => ?_)
        ·
         try simp at hc4
         replace F := F.add hc4
         refine rK [10] ?_
         refine W.ret ?_
         refine br (tr (tr (br (tr ?_))))
         clear hK4 K4 hK2 K2
         refine er false [] [] ?_
         first
         | exact ⟨congrArg B (by rw [rblk, if_pos (by omega)]), rfl⟩
         | exact ⟨congrArg B (by rw [he, List.drop_of_length_le hc2]; rfl), rfl⟩
         | exact ⟨congrArg B (by rw [qhe, decide_eq_false hin, decide_eq_true hgo, decide_eq_true hle, (show rblk ow lk held g f (gv ++ [g[k]]) (better || decide (rkR ow lk g[gv.length] ow[g[k]] < rkR ow lk g[gv.length] held[g[gv.length]])) = true by first | (rw [hbt, Bool.true_or]; assumption) | (rw [show better = false by simpa using hbt, Bool.false_or]; assumption))]; rfl), rfl⟩
        ·
         try simp at hc4
         replace F := F.add hc4
         refine W.skip ?_
         refine hK4 _ ?_
         clear hK4 K4
         refine rEw ?_
         refine ⟨k + 1, lf0, ?_, v0⟩
         ·
          first | exact ⟨by omega, by rw [qhe, decide_eq_true hin]; rfl⟩ | exact ⟨by omega, by rw [qhe, decide_eq_false hin, decide_eq_false hgo]; rfl⟩ | exact ⟨by omega, by rw [qhe, decide_eq_false hin, decide_eq_true hgo, decide_eq_false hle]; rfl⟩ | exact ⟨by omega, by rw [qhe, decide_eq_false hin, decide_eq_true hgo, decide_eq_true hle, (show rblk ow lk held g f (gv ++ [g[k]]) (better || decide (rkR ow lk g[gv.length] ow[g[k]] < rkR ow lk g[gv.length] held[g[gv.length]])) = false by first | (rw [hbt, Bool.true_or]; assumption) | (rw [show better = false by simpa using hbt, Bool.false_or]; assumption))]; rfl⟩
       ·
        replace F := F.add hbt
        have ih0 := ih g[k] (decide (rkR ow lk g[gv.length] ow[g[k]] < rkR ow lk g[gv.length] held[g[gv.length]])) (by omega)
        rw [rgV_snoc] at ih0
        refine wD 30 [(20, [608]), (23, [624])] [[], [], [1, 0], [0, 1, 2], [2, 1, 0, 3], [3, 0, 1, 2, 4], [3, 0, 1, 2, 4], [6, 4, 2, 1, 0, 3, 5], [5, 6, 7, 3, 0, 1, 2, 4], [4, 2, 1, 0, 3, 7, 6, 5, 8], [8, 5, 6, 7, 3, 0, 1, 2, 4, 9], [8, 5, 6, 7, 3, 0, 1, 2, 4, 9], [11, 9, 4, 2, 1, 0, 3, 7, 6, 5, 8, 10], [10, 11, 12, 8, 5, 6, 7, 3, 0, 1, 2, 4, 9], [9, 4, 2, 1, 0, 3, 7, 6, 5, 8, 12, 11, 10, 13], [13, 10, 11, 12, 8, 5, 6, 7, 3, 0, 1, 2, 4, 9, 14], [13, 10, 11, 12, 8, 5, 6, 7, 3, 0, 1, 2, 4, 9, 14], [13, 10, 11, 12, 8, 5, 6, 7, 3, 0, 1, 2, 4, 9, 14], [13, 10, 11, 12, 8, 5, 6, 7, 3, 0, 1, 2, 4, 9, 14], [13, 10, 11, 12, 8, 5, 6, 7, 3, 0, 1, 2, 4, 9, 14], [19, 14, 9, 4, 2, 1, 0, 3, 7, 6, 5, 8, 12, 11, 10, 13, 18], [13, 10, 11, 12, 8, 5, 6, 7, 3, 0, 1, 2, 4, 9, 14], [14, 9, 4, 2, 1, 0, 3, 7, 6, 5, 8, 12, 11, 10, 13, 21], [21, 22, 18, 13, 10, 11, 12, 8, 5, 6, 7, 3, 0, 1, 2, 4, 9, 14, 19, 20], [13, 10, 11, 12, 8, 5, 6, 7, 3, 0, 1, 2, 4, 9, 14], [20, 19, 18, 22, 21, 23, 14, 9, 4, 2, 1, 0, 3, 7, 6, 5, 8, 12, 11, 10, 13, 24], [24, 13, 10, 11, 12, 8, 5, 6, 7, 3, 0, 1, 2, 4, 9, 14, 23, 21, 22, 18, 19, 20, 25], [24, 13, 10, 11, 12, 8, 5, 6, 7, 3, 0, 1, 2, 4, 9, 14, 23, 21, 22, 18, 19, 20, 25], [27, 25, 20, 19, 18, 22, 21, 23, 14, 9, 4, 2, 1, 0, 3, 7, 6, 5, 8, 12, 11, 10, 13, 24, 26], [26, 27, 28, 24, 13, 10, 11, 12, 8, 5, 6, 7, 3, 0, 1, 2, 4, 9, 14, 23, 21, 22, 18, 19, 20, 25], [25, 24, 28, 27, 26, 29, 20, 19, 18, 22, 21, 23, 17, 16, 14, 9, 4, 2, 1, 0, 3, 7, 6, 5, 8, 12, 11, 10, 13, 15], [15, 16, 17, 23, 21, 22, 18, 19, 20, 29, 26, 27, 28, 24, 25, 30, 13, 10, 11, 12, 8, 5, 6, 7, 3, 0, 1, 2, 4, 9, 14]] ?_
        refine dN 2 28 ?_
        refine dC [] ?_
        refine cd (has_ok _ _) ?_
        refine dN 2 25 ?_
        refine dT ?_
        refine dT ?_
        refine dT ?_
        refine dN 2 20 ?_
        refine dT ?_
        refine dT ?_
        refine dT ?_
        refine dN 2 15 ?_
        refine dT ?_
        refine dT ?_
        refine dT ?_
        refine dT ?_
        refine dT ?_
        refine WDraw.gd (by simp [hnx, hn8, hc1, hnl, hi, hih, hkl, hc2, hk, ho, hin, hgo, hle, hbt]; first | rfl | exact (Bool.not_not _).symm) rfl rfl (by simp [hnx, hn8, hc1, hnl, hi, hih, hkl, hc2, hk, ho, hin, hgo, hle, hbt]; rfl) ?_
        (with_reducible refine DG.isT ?_); refine DGt.app hΓ [608] (by simp [hnx, hn8, hc1, hnl, hi, hih, hkl, hc2, hk, ho, hin, hgo, hle, hbt]; (try (simp (disch := omega) only [wrap_i64, mul_i64, capOk_of]; (try simp [hnx, hn8, hc1, hnl, hi, hih, hkl, hc2, hk, ho, hin, hgo, hle, hbt]))); first | rfl | exact ⟨rfl, rfl⟩) (by first | rfl | simp) (by simp [hnx, hn8, hc1, hnl, hi, hih, hkl, hc2, hk, ho, hin, hgo, hle, hbt]; first | done | rfl) (.inr (by simp)) (by simp [hnx, hn8, hc1, hnl, hi, hih, hkl, hc2, hk, ho, hin, hgo, hle, hbt]; rfl) ?_
        refine dT ?_
        refine dT ?_
        refine WDraw.gd (by simp [hnx, hn8, hc1, hnl, hi, hih, hkl, hc2, hk, ho, hin, hgo, hle, hbt]; first | rfl | exact (Bool.not_not _).symm) rfl rfl (by simp [hnx, hn8, hc1, hnl, hi, hih, hkl, hc2, hk, ho, hin, hgo, hle, hbt]; rfl) ?_
        (with_reducible refine DG.isT ?_); refine DGt.app hΓ [624] (by simp [hnx, hn8, hc1, hnl, hi, hih, hkl, hc2, hk, ho, hin, hgo, hle, hbt]; (try (simp (disch := omega) only [wrap_i64, mul_i64, capOk_of]; (try simp [hnx, hn8, hc1, hnl, hi, hih, hkl, hc2, hk, ho, hin, hgo, hle, hbt]))); first | rfl | exact ⟨rfl, rfl⟩) (by first | rfl | simp) (by simp [hnx, hn8, hc1, hnl, hi, hih, hkl, hc2, hk, ho, hin, hgo, hle, hbt]; first | done | rfl) (.inr (by simp)) (by simp [hnx, hn8, hc1, hnl, hi, hih, hkl, hc2, hk, ho, hin, hgo, hle, hbt]; rfl) ?_
        refine dT ?_
        refine dT ?_
        refine dT ?_
        refine dT ?_
        refine dT ?_
        refine dT ?_
        refine dD ?_
        refine WOps.gd rfl rfl (by simp [hnx, hn8, hc1, hnl, hi, hih, hkl, hc2, hk, ho, hin, hgo, hle, hbt]; first | rfl | exact (Bool.not_not _).symm) ?_
        (with_reducible refine WG.isT ?_)
        refine WGt.frz (Le.freeze (id := 648) (by simp [hnx, hn8, hc1, hnl, hi, hih, hkl, hc2, hk, ho, hin, hgo, hle, hbt]; rfl)) rfl rfl ?_
        refine WGt.call rfl rfl rfl [] rfl rfl (by decide) (by simp [hnx, hn8, hc1, hnl, hi, hih, hkl, hc2, hk, ho, hin, hgo, hle, hbt]; first | rfl | exact ⟨rfl, rfl⟩) (by simp [hnx, hn8, hc1, hnl, hi, hih, hkl, hc2, hk, ho, hin, hgo, hle, hbt]; rfl) ?_
        refine ct (ih0) ?_
        refine oN 1 ?_
        refine oK [1, 2, 3, 4, 5, 12, 13, 14, 89] ?_
        refine it (fun hc5 => ?_) (fun hc5 => ?_)
        ·
         try simp at hc5
         replace F := F.add hc5
         refine rK [10] ?_
         refine W.ret ?_
         refine br (tr (tr (br (tr ?_))))
         clear hK4 K4 hK2 K2
         refine er false [] [] ?_
         first
         | exact ⟨congrArg B (by rw [rblk, if_pos (by omega)]), rfl⟩
         | exact ⟨congrArg B (by rw [he, List.drop_of_length_le hc2]; rfl), rfl⟩
         | exact ⟨congrArg B (by rw [qhe, decide_eq_false hin, decide_eq_true hgo, decide_eq_true hle, (show rblk ow lk held g f (gv ++ [g[k]]) (better || decide (rkR ow lk g[gv.length] ow[g[k]] < rkR ow lk g[gv.length] held[g[gv.length]])) = true by first | (rw [hbt, Bool.true_or]; assumption) | (rw [show better = false by simpa using hbt, Bool.false_or]; assumption))]; rfl), rfl⟩
        ·
         try simp at hc5
         replace F := F.add hc5
         refine W.skip ?_
         refine hK4 _ ?_
         clear hK4 K4
         refine rEw ?_
         refine ⟨k + 1, lf0, ?_, v0⟩
         ·
          first | exact ⟨by omega, by rw [qhe, decide_eq_true hin]; rfl⟩ | exact ⟨by omega, by rw [qhe, decide_eq_false hin, decide_eq_false hgo]; rfl⟩ | exact ⟨by omega, by rw [qhe, decide_eq_false hin, decide_eq_true hgo, decide_eq_false hle]; rfl⟩ | exact ⟨by omega, by rw [qhe, decide_eq_false hin, decide_eq_true hgo, decide_eq_true hle, (show rblk ow lk held g f (gv ++ [g[k]]) (better || decide (rkR ow lk g[gv.length] ow[g[k]] < rkR ow lk g[gv.length] held[g[gv.length]])) = false by first | (rw [hbt, Bool.true_or]; assumption) | (rw [show better = false by simpa using hbt, Bool.false_or]; assumption))]; rfl⟩
      ·
       replace F := F.add hle
       refine wD 30 [(20, [608]), (23, [624])] [[], [], [1, 0], [0, 1, 2], [2, 1, 0, 3], [3, 0, 1, 2, 4], [3, 0, 1, 2, 4], [6, 4, 2, 1, 0, 3, 5], [5, 6, 7, 3, 0, 1, 2, 4], [4, 2, 1, 0, 3, 7, 6, 5, 8], [8, 5, 6, 7, 3, 0, 1, 2, 4, 9], [8, 5, 6, 7, 3, 0, 1, 2, 4, 9], [11, 9, 4, 2, 1, 0, 3, 7, 6, 5, 8, 10], [10, 11, 12, 8, 5, 6, 7, 3, 0, 1, 2, 4, 9], [9, 4, 2, 1, 0, 3, 7, 6, 5, 8, 12, 11, 10, 13], [13, 10, 11, 12, 8, 5, 6, 7, 3, 0, 1, 2, 4, 9, 14], [13, 10, 11, 12, 8, 5, 6, 7, 3, 0, 1, 2, 4, 9, 14], [13, 10, 11, 12, 8, 5, 6, 7, 3, 0, 1, 2, 4, 9, 14], [13, 10, 11, 12, 8, 5, 6, 7, 3, 0, 1, 2, 4, 9, 14], [13, 10, 11, 12, 8, 5, 6, 7, 3, 0, 1, 2, 4, 9, 14], [19, 14, 9, 4, 2, 1, 0, 3, 7, 6, 5, 8, 12, 11, 10, 13, 18], [13, 10, 11, 12, 8, 5, 6, 7, 3, 0, 1, 2, 4, 9, 14], [14, 9, 4, 2, 1, 0, 3, 7, 6, 5, 8, 12, 11, 10, 13, 21], [21, 22, 18, 13, 10, 11, 12, 8, 5, 6, 7, 3, 0, 1, 2, 4, 9, 14, 19, 20], [13, 10, 11, 12, 8, 5, 6, 7, 3, 0, 1, 2, 4, 9, 14], [20, 19, 18, 22, 21, 23, 14, 9, 4, 2, 1, 0, 3, 7, 6, 5, 8, 12, 11, 10, 13, 24], [24, 13, 10, 11, 12, 8, 5, 6, 7, 3, 0, 1, 2, 4, 9, 14, 23, 21, 22, 18, 19, 20, 25], [24, 13, 10, 11, 12, 8, 5, 6, 7, 3, 0, 1, 2, 4, 9, 14, 23, 21, 22, 18, 19, 20, 25], [27, 25, 20, 19, 18, 22, 21, 23, 14, 9, 4, 2, 1, 0, 3, 7, 6, 5, 8, 12, 11, 10, 13, 24, 26], [26, 27, 28, 24, 13, 10, 11, 12, 8, 5, 6, 7, 3, 0, 1, 2, 4, 9, 14, 23, 21, 22, 18, 19, 20, 25], [25, 24, 28, 27, 26, 29, 20, 19, 18, 22, 21, 23, 17, 16, 14, 9, 4, 2, 1, 0, 3, 7, 6, 5, 8, 12, 11, 10, 13, 15], [15, 16, 17, 23, 21, 22, 18, 19, 20, 29, 26, 27, 28, 24, 25, 30, 13, 10, 11, 12, 8, 5, 6, 7, 3, 0, 1, 2, 4, 9, 14]] ?_
       refine dN 2 28 ?_
       refine dC [] ?_
       refine cd (has_ok _ _) ?_
       refine dN 2 25 ?_
       refine dT ?_
       refine dT ?_
       refine dT ?_
       refine dN 2 20 ?_
       refine dT ?_
       refine dT ?_
       refine dT ?_
       refine dN 2 15 ?_
       refine dF ?_
       refine dF ?_
       refine dF ?_
       refine dF ?_
       refine dF ?_
       refine dF ?_
       refine dF ?_
       refine dF ?_
       refine dF ?_
       refine dF ?_
       refine dF ?_
       refine dF ?_
       refine dF ?_
       refine dF ?_
       refine dF ?_
       refine dD ?_
       refine gF ?_
       refine oN 1 ?_
       refine oK [1, 2, 3, 4, 5, 12, 13, 14, 89] ?_
       refine cF ?_
       refine W.skip ?_
       refine hK4 _ ?_
       clear hK4 K4
       refine rEw ?_
       refine ⟨k + 1, lf0, ?_, v0⟩
       ·
        first | exact ⟨by omega, by rw [qhe, decide_eq_true hin]; rfl⟩ | exact ⟨by omega, by rw [qhe, decide_eq_false hin, decide_eq_false hgo]; rfl⟩ | exact ⟨by omega, by rw [qhe, decide_eq_false hin, decide_eq_true hgo, decide_eq_false hle]; rfl⟩ | exact ⟨by omega, by rw [qhe, decide_eq_false hin, decide_eq_true hgo, decide_eq_true hle, (show rblk ow lk held g f (gv ++ [g[k]]) (better || decide (rkR ow lk g[gv.length] ow[g[k]] < rkR ow lk g[gv.length] held[g[gv.length]])) = false by first | (rw [hbt, Bool.true_or]; assumption) | (rw [show better = false by simpa using hbt, Bool.false_or]; assumption))]; rfl⟩
     ·
      replace F := F.add hgo
      refine wD 30 [(20, [608]), (23, [624])] [[], [], [1, 0], [0, 1, 2], [2, 1, 0, 3], [3, 0, 1, 2, 4], [3, 0, 1, 2, 4], [6, 4, 2, 1, 0, 3, 5], [5, 6, 7, 3, 0, 1, 2, 4], [4, 2, 1, 0, 3, 7, 6, 5, 8], [8, 5, 6, 7, 3, 0, 1, 2, 4, 9], [8, 5, 6, 7, 3, 0, 1, 2, 4, 9], [11, 9, 4, 2, 1, 0, 3, 7, 6, 5, 8, 10], [10, 11, 12, 8, 5, 6, 7, 3, 0, 1, 2, 4, 9], [9, 4, 2, 1, 0, 3, 7, 6, 5, 8, 12, 11, 10, 13], [13, 10, 11, 12, 8, 5, 6, 7, 3, 0, 1, 2, 4, 9, 14], [13, 10, 11, 12, 8, 5, 6, 7, 3, 0, 1, 2, 4, 9, 14], [13, 10, 11, 12, 8, 5, 6, 7, 3, 0, 1, 2, 4, 9, 14], [13, 10, 11, 12, 8, 5, 6, 7, 3, 0, 1, 2, 4, 9, 14], [13, 10, 11, 12, 8, 5, 6, 7, 3, 0, 1, 2, 4, 9, 14], [19, 14, 9, 4, 2, 1, 0, 3, 7, 6, 5, 8, 12, 11, 10, 13, 18], [13, 10, 11, 12, 8, 5, 6, 7, 3, 0, 1, 2, 4, 9, 14], [14, 9, 4, 2, 1, 0, 3, 7, 6, 5, 8, 12, 11, 10, 13, 21], [21, 22, 18, 13, 10, 11, 12, 8, 5, 6, 7, 3, 0, 1, 2, 4, 9, 14, 19, 20], [13, 10, 11, 12, 8, 5, 6, 7, 3, 0, 1, 2, 4, 9, 14], [20, 19, 18, 22, 21, 23, 14, 9, 4, 2, 1, 0, 3, 7, 6, 5, 8, 12, 11, 10, 13, 24], [24, 13, 10, 11, 12, 8, 5, 6, 7, 3, 0, 1, 2, 4, 9, 14, 23, 21, 22, 18, 19, 20, 25], [24, 13, 10, 11, 12, 8, 5, 6, 7, 3, 0, 1, 2, 4, 9, 14, 23, 21, 22, 18, 19, 20, 25], [27, 25, 20, 19, 18, 22, 21, 23, 14, 9, 4, 2, 1, 0, 3, 7, 6, 5, 8, 12, 11, 10, 13, 24, 26], [26, 27, 28, 24, 13, 10, 11, 12, 8, 5, 6, 7, 3, 0, 1, 2, 4, 9, 14, 23, 21, 22, 18, 19, 20, 25], [25, 24, 28, 27, 26, 29, 20, 19, 18, 22, 21, 23, 17, 16, 14, 9, 4, 2, 1, 0, 3, 7, 6, 5, 8, 12, 11, 10, 13, 15], [15, 16, 17, 23, 21, 22, 18, 19, 20, 29, 26, 27, 28, 24, 25, 30, 13, 10, 11, 12, 8, 5, 6, 7, 3, 0, 1, 2, 4, 9, 14]] ?_
      refine dN 2 28 ?_
      refine dC [] ?_
      refine cd (has_ok _ _) ?_
      refine dN 2 25 ?_
      refine dT ?_
      refine dT ?_
      refine dT ?_
      refine dN 2 20 ?_
      refine dF ?_
      refine dF ?_
      refine dF ?_
      refine dN 2 15 ?_
      refine dF ?_
      refine dF ?_
      refine dF ?_
      refine dF ?_
      refine dF ?_
      refine dF ?_
      refine dF ?_
      refine dF ?_
      refine dF ?_
      refine dF ?_
      refine dF ?_
      refine dF ?_
      refine dF ?_
      refine dF ?_
      refine dF ?_
      refine dD ?_
      refine gF ?_
      refine oN 1 ?_
      refine oK [1, 2, 3, 4, 5, 12, 13, 14, 89] ?_
      refine cF ?_
      refine W.skip ?_
      refine hK4 _ ?_
      clear hK4 K4
      refine rEw ?_
      refine ⟨k + 1, lf0, ?_, v0⟩
      ·
       first | exact ⟨by omega, by rw [qhe, decide_eq_true hin]; rfl⟩ | exact ⟨by omega, by rw [qhe, decide_eq_false hin, decide_eq_false hgo]; rfl⟩ | exact ⟨by omega, by rw [qhe, decide_eq_false hin, decide_eq_true hgo, decide_eq_false hle]; rfl⟩ | exact ⟨by omega, by rw [qhe, decide_eq_false hin, decide_eq_true hgo, decide_eq_true hle, (show rblk ow lk held g f (gv ++ [g[k]]) (better || decide (rkR ow lk g[gv.length] ow[g[k]] < rkR ow lk g[gv.length] held[g[gv.length]])) = false by first | (rw [hbt, Bool.true_or]; assumption) | (rw [show better = false by simpa using hbt, Bool.false_or]; assumption))]; rfl⟩
   ·
    try simp at hc2
    replace F := F.add hc2
    refine W.exit ?_
    refine hK2 _ ?_
    clear hK3 K3 hK2 K2
    refine rK [10] ?_
    refine W.ret ?_
    refine er false [] [] ?_
    first
    | exact ⟨congrArg B (by rw [rblk, if_pos (by omega)]), rfl⟩
    | exact ⟨congrArg B (by rw [he, List.drop_of_length_le hc2]; rfl), rfl⟩
    | exact ⟨congrArg B (by rw [qhe, decide_eq_false hin, decide_eq_true hgo, decide_eq_true hle, (show rblk ow lk held g f (gv ++ [g[k]]) (better || decide (rkR ow lk g[gv.length] ow[g[k]] < rkR ow lk g[gv.length] held[g[gv.length]])) = true by first | (rw [hbt, Bool.true_or]; assumption) | (rw [show better = false by simpa using hbt, Bool.false_or]; assumption))]; rfl), rfl⟩
theorem rblk_ok (ow : List Turn) (lk : List (List Turn)) (held : List Turn) (hv : ValidT ow lk) (hh : held.length = ow.length) (g : List Nat) (hg : ∀ y ∈ g, y < ow.length) (hg8 : g.length ≤ 8) : ∀ (f : Nat) (gv : List Nat) (better : Bool), gv.length ≤ g.length → g.length < f + gv.length →
    ACalls Try.prog 67 [trade ow lk, turns held, rgV g, rgV gv, B better] [] (fun r o => r = B (rblk ow lk held g f gv better) ∧ o = [])
  | 0, gv, better, h1, h2 => by omega
  | f + 1, gv, better, h1, h2 => rblk_step ow lk held hv hh g hg hg8 f gv better h1 fun x better h => rblk_ok ow lk held hv hh g hg hg8 f (gv ++ [x]) better (by simpa using h) (by simp; omega)
/-- does a group block, by the reference -/
def rblkG (ow : List Turn) (lk : List (List Turn)) (held : List Turn) (g : List Nat) : Bool := rblk ow lk held g (g.length + 1) [] false
set_option maxHeartbeats 4000000 in
theorem Block_ok (ow : List Turn) (lk : List (List Turn)) (held : List Turn) (g : List Nat) (hv : ValidT ow lk) (hh : held.length = ow.length) (hg : ∀ y ∈ g, y < ow.length) (hg0 : 0 < g.length) (hg8 : g.length ≤ 8) : ACalls Try.prog 37 [trade ow lk, turns held, rgV g] [] (fun r o => r = B (rblkG ow lk held g) ∧ o = []) := by
 have F := Fx.nil
 replace F := F.add hg0
 refine ent Try.func37 Try.ntmps37 Try.results37 ?_
 refine rK [1, 2, 3] ?_
 refine W.seqR ?_
 refine oN 4 ?_
 refine gT ?_
 refine gT ?_
 refine gT ?_
 refine gC [] ?_
 refine ct (rblk_ok ow lk held hv hh g hg hg8 (g.length + 1) [] false (by simp) (by simp)) ?_
 refine oN 2 ?_
 refine oK [6] ?_
 refine W.ret ?_
 refine er false [] [] ?_
 exact ⟨rfl, rfl⟩
set_option maxHeartbeats 4000000 in
theorem rBlocks_step (ow : List Turn) (lk : List (List Turn)) (held : List Turn) (hst : ValidT ow lk → held.length = ow.length → ∀ g : List Nat, 0 < g.length → (∀ y ∈ g, y < ow.length) → rblkG ow lk held g = blockG ow lk held g) (hfd : ∀ (n many : Nat) (stop : List Nat → Bool), foundG n many stop = (cho n many 0).find? stop) : ACalls Try.prog 29 [trade ow lk, turns held] [] (fun r o => r = .tup [rgV (blocksT ow lk held), I (heldT ow lk held)] ∧ o = []) := by
 have F := Fx.nil
 refine ent Try.func29 Try.ntmps29 Try.results29 ?_
 refine rK [1, 2] ?_
 refine W.seqk fun K1 hK1 => ?_
 refine W.seqR ?_
 refine oN 2 ?_
 refine oC [] ?_
 refine ct (rCheckHeld_ok _ _ _) ?_
 refine oN 1 ?_
 refine oK [1, 2, 6] ?_
 refine rK [1, 2, 6, 14] ?_
 refine it (fun hc1 => ?_) (fun hc1 => ?_)
 ·
  try simp at hc1
  replace F := F.add hc1
  refine rK [4, 5] ?_
  refine W.ret ?_
  refine tr ?_
  clear hK1 K1
  refine er true [] [] ?_
  exact ⟨by rw [blocksT, if_neg hc1]; rfl, rfl⟩
 ·
  try simp at hc1
  replace F := F.add hc1
  obtain ⟨hv, hh⟩ := heldT_valid (by simpa using hc1)
  have hn8 : ow.length ≤ 8 := hv.most
  have hz : heldT ow lk held = 0 := by simpa using hc1
  replace F := F.add hn8 |>.add hz
  refine W.skip ?_
  refine hK1 _ ?_
  clear hK1 K1
  refine W.seqk fun K2 hK2 => ?_
  refine rK [1, 2, 7] ?_
  refine W.block ?_
  refine lpa (α := Nat) [1, 2] [18, 23, 25, 28, 38] [] (fun many => [(7, I many)]) (fun many => []) (fun many => 1 ≤ many ∧ many ≤ ow.length + 1 ∧ blockL ow.length (blockG ow lk held) 1 = blockL ow.length (blockG ow lk held) many) (fun many => ow.length + 1 - many) 1 v0 ?_
  ·
   intro many hI0
   simp only [List.cons_append, List.nil_append]
   try dsimp only at hI0
   obtain ⟨hm1, hmn, he⟩ := hI0
   replace F := F.add hm1 |>.add hmn
   refine W.seqk fun K3 hK3 => ?_
   refine rK [1, 2, 7, 19] ?_
   refine it (fun hc2 => ?_) (fun hc2 => ?_)
   ·
    try simp at hc2
    replace F := F.add hc2
    refine W.skip ?_
    refine hK3 _ ?_
    clear hK3 K3
    refine W.seqk fun K4 hK4 => ?_
    refine W.block ?_
    have qch := cho_ok (n := ow.length) (by omega) many 0 (by omega) (by omega)
    rw [show ((ow.length : Nat) : Int) = (held.length : Int) by omega] at qch
    refine W.seqR ?_
    refine oN 3 ?_
    refine oC [] ?_
    refine ct (qch) ?_
    refine oN 1 ?_
    refine oK [1, 2, 7, 8] ?_
    refine rK [1, 2, 7, 8, 9] ?_
    refine W.block ?_
    refine lpa (α := Nat) [1, 2, 7, 8] [28, 38] [] (fun k => [(9, I k)]) (fun k => []) (fun k => k ≤ (cho ow.length many 0).length ∧ (cho ow.length many 0).find? (blockG ow lk held) = ((cho ow.length many 0).drop k).find? (blockG ow lk held)) (fun k => (cho ow.length many 0).length - k) 0 v0 ?_
    ·
     intro k hI1
     simp only [List.cons_append, List.nil_append]
     try dsimp only at hI1
     obtain ⟨hkl, hf⟩ := hI1
     replace F := F.add hkl
     refine W.seqk fun K5 hK5 => ?_
     refine rK [1, 2, 7, 8, 9, 29] ?_
     refine it (fun hc3 => ?_) (fun hc3 => ?_)
     ·
      try simp at hc3
      replace F := F.add hc3
      refine W.skip ?_
      refine hK5 _ ?_
      clear hK5 K5
      refine W.seqk fun K6 hK6 => ?_
      refine W.block ?_
      have hkk : k < (cho ow.length many 0).length := by omega
      have qll := cho_len (List.getElem_mem hkk)
      have qst := hst hv hh _ (by omega) (fun y hy => (qll.2 y hy).2)
      have q4 : (cho ow.length many 0).length ≤ 256 := Nat.le_trans (cho_many (Nat.zero_le _)) (Nat.pow_le_pow_right (n := 2) (by omega) (by omega : ow.length - 0 ≤ 8))
      replace F := F.add hkk
      refine wD 6 [] [[], [], [], [], [3, 2], [2, 3, 4], [4, 3, 2, 5, 1, 0]] ?_
      refine dN 6 0 ?_
      refine dD ?_
      refine oC [] ?_
      refine ct (Block_ok ow lk held _ hv hh (fun y hy => (qll.2 y hy).2) (by omega) (by omega)) ?_
      refine oK [1, 2, 7, 8, 9, 38] ?_
      refine it (fun hc4 => ?_) (fun hc4 => ?_)
      ·
       try simp at hc4
       replace F := F.add hc4
       refine rK [4, 5] ?_
       refine W.ret ?_
       refine br (tr (tr (br (br (tr (tr (br (tr ?_))))))))
       clear hK6 K6 hK4 K4 hK2 K2
       refine er true [] [] ?_
       have hfd2 : foundG ow.length many (blockG ow lk held) = some (cho ow.length many 0)[k] := by rw [hfd, hf, List.drop_eq_getElem_cons hkk, List.find?_cons, ← qst, hc4]
       have e1 : blocksT ow lk held = (cho ow.length many 0)[k] := by rw [blocksT, if_pos hz, he, blockL_hit (by omega) hfd2]
       exact ⟨by rw [e1]; simp only [hz], rfl⟩
      ·
       try simp at hc4
       replace F := F.add hc4
       refine W.skip ?_
       refine hK6 _ ?_
       clear hK6 K6
       refine rEw ?_
       refine ⟨k + 1, lf0, ?_, v0⟩
       ·
        exact ⟨by omega, by rw [hf, List.drop_eq_getElem_cons hkk, List.find?_cons, ← qst, hc4]⟩
     ·
      try simp at hc3
      replace F := F.add hc3
      refine W.exit ?_
      refine hK4 _ ?_
      clear hK5 K5 hK4 K4
      refine rEw ?_
      refine ⟨many + 1, lf0, ?_, v0⟩
      ·
       exact ⟨by omega, by omega, by rw [he, blockL_skip (by omega) (by rw [hfd, hf, List.drop_of_length_le (by omega)]; rfl)]⟩
   ·
    try simp at hc2
    replace F := F.add hc2
    refine W.exit ?_
    refine hK2 _ ?_
    clear hK3 K3 hK2 K2
    refine rK [4, 5] ?_
    refine W.ret ?_
    refine er true [] [] ?_
    exact ⟨by rw [blocksT, if_pos hz, he, blockL_done (by omega), hz]; rfl, rfl⟩
end Go.Sim
