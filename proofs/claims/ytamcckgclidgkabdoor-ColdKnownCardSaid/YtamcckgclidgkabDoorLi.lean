/- The law's examples. -/
import Derived.Test.YtamcckgclidgkabDoorLh
import Derived.Test.YtamcckgclidgkabDoorLm
namespace Go.Sim
open Go.Proofs
set_option maxRecDepth 100000
set_option linter.unusedSimpArgs false
set_option linter.unusedVariables false
attribute [-simp] List.map_set List.map_take List.map_drop
set_option maxHeartbeats 4000000 in
theorem span_ok (a b : Int) : ACalls Tryd.prog 5 [I a, I b] [] (fun r o => r = .agg [I a, I b] ∧ o = []) := by
 have F := Fx.nil
 refine ent Tryd.func5 Tryd.ntmps5 Tryd.results5 ?_
 refine rK [0, 1, 4] ?_
 refine rK [4] ?_
 refine W.ret ?_
 exact er0 false [] []
set_option maxHeartbeats 4000000 in
theorem vault_ok  : ACalls Tryd.prog 4 [] [] (fun r o => r = celV vaultC ∧ o = []) := by
 have F := Fx.nil
 refine ent Tryd.func4 Tryd.ntmps4 Tryd.results4 ?_
 refine rK [0] ?_
 refine W.seqR ?_
 refine oC [] ?_
 refine ct (span_ok _ _) ?_
 refine oC [] ?_
 refine ct (span_ok _ _) ?_
 refine oC [] ?_
 refine ct (span_ok _ _) ?_
 refine oC [] ?_
 refine ct (span_ok _ _) ?_
 refine oC [] ?_
 refine ct (span_ok _ _) ?_
 refine oN 10 ?_
 refine oK [0] ?_
 refine W.ret ?_
 refine er false [56, 72, 104] [] ?_
 exact ⟨rfl, rfl⟩
set_option maxHeartbeats 4000000 in
theorem eel_lot_ok (k : Int) : ACalls Tryd.prog 12 [I k] [] (fun r o => r = lotV (eelC k) ∧ o = []) := by
 have F := Fx.nil
 refine ent Tryd.func12 Tryd.ntmps12 Tryd.results12 ?_
 refine rK [0, 2] ?_
 refine rK [2] ?_
 refine W.ret ?_
 refine er false [40] [] ?_
 exact ⟨rfl, rfl⟩
theorem ex_ice : atS vaultC 0 2 = ⟨0, 200⟩ ∧ atE vaultC 0 2 = 0 := by
  have e : atE vaultC 0 2 = 0 := by rw [atE, if_neg (fun k => k (checkC_zero.2 vault_valid)), if_neg (by simp [vaultC]), if_neg (by omega)]
  refine ⟨?_, e⟩
  rw [atS, if_pos e]; exact vault_ice2
theorem eel60 : checkLotC vaultC (eelC 60) = 0 := checkLotC_zero.2 ⟨vault_valid, eel_ok (by omega)⟩
theorem ex_lost : lotS vaultC (eelC 60) 8 = ⟨50, 54⟩ ∧ lotE vaultC (eelC 60) 8 = 0 := by
  have e : lotE vaultC (eelC 60) 8 = 0 := by rw [lotE, if_neg (fun k => k eel60), if_neg (by omega), if_neg (by simp [eelC])]
  refine ⟨?_, e⟩
  rw [lotS, if_pos e]; exact vault_lost8
theorem ex_last : lastV vaultC (eelC 60) = 8 := by rw [lastV, if_pos eel60, vault_last]
theorem ex_fill : fillX vaultC 0 [2, 3] 100 7 = some [1, 5] ∧ fillE vaultC 0 [2, 3] 100 7 = 0 := by
  have e : fillPE vaultC 0 [2, 3] 100 7 = 0 := by
    rw [fillPE, if_neg (fun k => k (checkC_zero.2 vault_valid)), if_neg (by simp [vaultC]), if_neg (by decide), if_neg (by omega)]
  obtain ⟨k1, k2⟩ := fillX_yes e
  have k3 : fillC vaultC (0 : Int).toNat [2, 3] 100 7 = some [1, 5] := vault_fill
  rw [k1, k2, k3]; exact ⟨rfl, rfl⟩
set_option maxHeartbeats 4000000 in
theorem awake_ok  : ACalls Tryd.prog 6 [] [] (fun r o => r = B true ∧ o = []) := by
 have F := Fx.nil
 refine ent Tryd.func6 Tryd.ntmps6 Tryd.results6 ?_
 obtain ⟨qi1, qi2⟩ := ex_ice
 obtain ⟨ql1, ql2⟩ := ex_lost
 obtain ⟨qf1, qf2⟩ := ex_fill
 have hi1 := qi1
 have hi2 := qi2
 have hl1 := ql1
 have hl2 := ql2
 have hl3 := eel60
 have hl4 := ex_last
 have hf1 : optV (fillX vaultC 0 [2, 3] 100 7) = ints [1, 5] := by rw [qf1]; rfl
 have hf2 := qf2
 replace F := F.add hi1 |>.add hi2 |>.add hl1 |>.add hl2 |>.add hl3 |>.add hl4 |>.add hf1 |>.add hf2
 refine rK [] ?_
 refine W.seqR ?_
 refine oC [] ?_
 refine ct (vault_ok) ?_
 refine oC [] ?_
 refine ct (Ice_ok vaultC 0 2) ?_
 refine oN 6 ?_
 refine oK [1, 2] ?_
 refine W.seqR ?_
 refine oC [] ?_
 refine ct (vault_ok) ?_
 refine oC [] ?_
 refine ct (eel_lot_ok _) ?_
 refine oC [] ?_
 refine ct (Lost_ok vaultC (eelC 60) 8) ?_
 refine oN 6 ?_
 refine oK [1, 2, 3, 4] ?_
 refine W.seqR ?_
 refine oC [] ?_
 refine ct (vault_ok) ?_
 refine oC [] ?_
 refine ct (eel_lot_ok _) ?_
 refine oC [] ?_
 refine ct (Last_ok vaultC (eelC 60)) ?_
 refine oN 5 ?_
 refine oK [1, 2, 3, 4, 5, 6] ?_
 refine W.seqR ?_
 refine oC [] ?_
 refine ct (vault_ok) ?_
 refine oN 1 ?_
 refine fz 224 ?_
 refine oC [] ?_
 refine ct (Fill_ok vaultC 0 [2, 3] 100 7) ?_
 refine oN 5 ?_
 refine oK [1, 2, 3, 4, 5, 6, 7, 8] ?_
 refine wD 31 [] [[], [0], [0, 1], [1, 0, 2], [2, 0, 1, 3], [3, 4, 1, 0, 2], [2, 0, 1, 4, 3, 5], [5, 3, 4, 1, 0, 2, 6], [6, 2, 0, 1, 4, 3, 5, 7], [7, 8, 5, 3, 4, 1, 0, 2, 6], [6, 2, 0, 1, 4, 3, 5, 8, 7, 9], [9, 7, 8, 5, 3, 4, 1, 0, 2, 6, 10], [10, 6, 2, 0, 1, 4, 3, 5, 8, 7, 9, 11], [11, 12, 9, 7, 8, 5, 3, 4, 1, 0, 2, 6, 10], [10, 6, 2, 0, 1, 4, 3, 5, 8, 7, 9, 12, 11, 13], [13, 11, 12, 9, 7, 8, 5, 3, 4, 1, 0, 2, 6, 10, 14], [13, 11, 12, 9, 7, 8, 5, 3, 4, 1, 0, 2, 6, 10, 14], [16, 14, 10, 6, 2, 0, 1, 4, 3, 5, 8, 7, 9, 12, 11, 13, 15], [15, 16, 17, 13, 11, 12, 9, 7, 8, 5, 3, 4, 1, 0, 2, 6, 10, 14], [14, 10, 6, 2, 0, 1, 4, 3, 5, 8, 7, 9, 12, 11, 13, 17, 16, 15, 18], [18, 15, 16, 17, 13, 11, 12, 9, 7, 8, 5, 3, 4, 1, 0, 2, 6, 10, 14, 19], [18, 15, 16, 17, 13, 11, 12, 9, 7, 8, 5, 3, 4, 1, 0, 2, 6, 10, 14, 19], [21, 19, 14, 10, 6, 2, 0, 1, 4, 3, 5, 8, 7, 9, 12, 11, 13, 17, 16, 15, 18, 20], [20, 21, 22, 18, 15, 16, 17, 13, 11, 12, 9, 7, 8, 5, 3, 4, 1, 0, 2, 6, 10, 14, 19], [19, 14, 10, 6, 2, 0, 1, 4, 3, 5, 8, 7, 9, 12, 11, 13, 17, 16, 15, 18, 22, 21, 20, 23], [23, 20, 21, 22, 18, 15, 16, 17, 13, 11, 12, 9, 7, 8, 5, 3, 4, 1, 0, 2, 6, 10, 14, 19, 24], [24, 19, 14, 10, 6, 2, 0, 1, 4, 3, 5, 8, 7, 9, 12, 11, 13, 17, 16, 15, 18, 22, 21, 20, 23, 25], [25, 26, 23, 20, 21, 22, 18, 15, 16, 17, 13, 11, 12, 9, 7, 8, 5, 3, 4, 1, 0, 2, 6, 10, 14, 19, 24], [24, 19, 14, 10, 6, 2, 0, 1, 4, 3, 5, 8, 7, 9, 12, 11, 13, 17, 16, 15, 18, 22, 21, 20, 23, 26, 25, 27], [27, 25, 26, 23, 20, 21, 22, 18, 15, 16, 17, 13, 11, 12, 9, 7, 8, 5, 3, 4, 1, 0, 2, 6, 10, 14, 19, 24, 28], [27, 25, 26, 23, 20, 21, 22, 18, 15, 16, 17, 13, 11, 12, 9, 7, 8, 5, 3, 4, 1, 0, 2, 6, 10, 14, 19, 24, 28], [30, 28, 24, 19, 14, 10, 6, 2, 0, 1, 4, 3, 5, 8, 7, 9, 12, 11, 13, 17, 16, 15, 18, 22, 21, 20, 23, 26, 25, 27, 29], [29, 30, 31, 27, 25, 26, 23, 20, 21, 22, 18, 15, 16, 17, 13, 11, 12, 9, 7, 8, 5, 3, 4, 1, 0, 2, 6, 10, 14, 19, 24, 28], [28, 24, 19, 14, 10, 6, 2, 0, 1, 4, 3, 5, 8, 7, 9, 12, 11, 13, 17, 16, 15, 18, 22, 21, 20, 23, 26, 25, 27, 31, 30, 29, 32]] ?_
 refine dB [([], [], []), ([], [true], []), ([], [true, true], [])] 28 3 ?_
 refine dT [] [true, true, true] [] ?_
 refine dT [] [true, true, true, true] [] ?_
 refine dB [([], [true, true, true, true, true], []), ([], [true, true, true, true, true, true], [])] 24 7 ?_
 refine dT [] [true, true, true, true, true, true, true] [] ?_
 refine dT [] [true, true, true, true, true, true, true, true] [] ?_
 refine dB [([], [true, true, true, true, true, true, true, true, true], []), ([], [true, true, true, true, true, true, true, true, true, true], [])] 20 11 ?_
 refine dT [] [true, true, true, true, true, true, true, true, true, true, true] [] ?_
 refine dT [] [true, true, true, true, true, true, true, true, true, true, true, true] [] ?_
 refine dB [([], [true, true, true, true, true, true, true, true, true, true, true, true, true], []), ([], [true, true, true, true, true, true, true, true, true, true, true, true, true, true], [])] 16 15 ?_
 refine dT [48] [true, true, true, true, true, true, true, true, true, true, true, true, true, true, true] [] ?_
 refine dG [47] [true, true, true, true, true, true, true, true, true, true, true, true, true, true, true, false] [] [] ?_
 refine cd (span_ok _ _) ?_
 refine dT [] [true, true, true, true, true, true, true, true, true, true, true, true, true, true, true, true, true] [] ?_
 refine dB [([], [true, true, true, true, true, true, true, true, true, true, true, true, true, true, true, true, true, true], []), ([], [true, true, true, true, true, true, true, true, true, true, true, true, true, true, true, true, true, true, true], [])] 11 20 ?_
 refine dT [53] [true, true, true, true, true, true, true, true, true, true, true, true, true, true, true, true, true, true, true, true] [] ?_
 refine dG [52] [true, true, true, true, true, true, true, true, true, true, true, true, true, true, true, true, true, true, true, true, false] [] [] ?_
 refine cd (span_ok _ _) ?_
 refine dT [] [true, true, true, true, true, true, true, true, true, true, true, true, true, true, true, true, true, true, true, true, true, true] [] ?_
 refine dB [([], [true, true, true, true, true, true, true, true, true, true, true, true, true, true, true, true, true, true, true, true, true, true, true], []), ([], [true, true, true, true, true, true, true, true, true, true, true, true, true, true, true, true, true, true, true, true, true, true, true, true], [])] 6 25 ?_
 refine dT [] [true, true, true, true, true, true, true, true, true, true, true, true, true, true, true, true, true, true, true, true, true, true, true, true, true] [] ?_
 refine dT [] [true, true, true, true, true, true, true, true, true, true, true, true, true, true, true, true, true, true, true, true, true, true, true, true, true, true] [] ?_
 refine dB [([], [true, true, true, true, true, true, true, true, true, true, true, true, true, true, true, true, true, true, true, true, true, true, true, true, true, true, true], []), ([], [true, true, true, true, true, true, true, true, true, true, true, true, true, true, true, true, true, true, true, true, true, true, true, true, true, true, true, true], [])] 2 29 ?_
 refine dT [62] [true, true, true, true, true, true, true, true, true, true, true, true, true, true, true, true, true, true, true, true, true, true, true, true, true, true, true, true, true] [] ?_
 refine dT [61] [true, true, true, true, true, true, true, true, true, true, true, true, true, true, true, true, true, true, true, true, true, true, true, true, true, true, true, true, true, false] [] ?_
 refine dD ?_
 refine gC [] ?_
 refine ct (SameInts_ok [1, 5] [1, 5]) ?_
 refine oN 2 ?_
 refine oK [0] ?_
 refine W.ret ?_
 exact er0 false [] []
end Go.Sim
