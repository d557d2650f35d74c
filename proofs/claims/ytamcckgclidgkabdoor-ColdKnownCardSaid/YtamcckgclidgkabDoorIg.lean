/- The chapter's examples: the law answers true. -/
import Derived.Test.YtamcckgclidgkabDoorIf
import Derived.Test.YtamcckgclidgkabDoorQk
namespace Go.Sim
open Go.Proofs
set_option maxRecDepth 100000
set_option linter.unusedSimpArgs false
set_option linter.unusedVariables false
attribute [-simp] List.map_set List.map_take List.map_drop
set_option maxHeartbeats 4000000 in
theorem one_ok (a : Int) : ACalls Tryd.prog 8 [I a] [] (fun r o => r = .agg [I a, I a] ∧ o = []) := by
 have F := Fx.nil
 refine ent Tryd.func8 Tryd.ntmps8 Tryd.results8 ?_
 refine rK [0, 2] ?_
 refine W.seqR ?_
 refine oN 2 ?_
 refine oC [] ?_
 refine ct (span_ok _ _) ?_
 refine oN 1 ?_
 refine oK [2] ?_
 refine W.ret ?_
 exact er0 false [] []
set_option maxHeartbeats 4000000 in
theorem vault_ownB  : ACalls Tryd.prog 4 [] [] (fun r o => r = .agg [I 100, I 150, .own 20000 0 1, filsV vaultC.fils, ratsV vaultC.rats] ∧ o = [(20000, .row true 32 9 [B9 ⟨1000, ⟨500, 600⟩, ⟨200, 250⟩, ⟨-10, 10⟩, ⟨50, 80⟩⟩])]) := by
 have F := Fx.nil
 refine ent Tryd.func4 Tryd.ntmps4 Tryd.results4 ?_
 refine rK [0] ?_
 refine W.seqR ?_
 refine oC [] ?_
 refine ct (span_ok _ _) ?_
 refine oC [] ?_
 refine ct (span_ok _ _) ?_
 refine oC [] ?_
 refine ct (span_ok _ _) ?_
 refine oC [] ?_
 refine ct (span_ok _ _) ?_
 refine oC [] ?_
 refine ct (span_ok _ _) ?_
 refine oN 10 ?_
 refine oK [0] ?_
 refine W.ret ?_
 refine er false [72, 104] [(20000, 56)] ?_
 exact ⟨rfl, rfl⟩
set_option maxHeartbeats 4000000 in
theorem vault_ownR  : ACalls Tryd.prog 4 [] [] (fun r o => r = .agg [I 100, I 150, boxesV vaultC.boxes, filsV vaultC.fils, .own 20000 0 3] ∧ o = [(20000, .row true 34 2 [R2 ⟨-50, 1⟩, R2 ⟨20, 5⟩, R2 ⟨100, 20⟩])]) := by
 have F := Fx.nil
 refine ent Tryd.func4 Tryd.ntmps4 Tryd.results4 ?_
 refine rK [0] ?_
 refine W.seqR ?_
 refine oC [] ?_
 refine ct (span_ok _ _) ?_
 refine oC [] ?_
 refine ct (span_ok _ _) ?_
 refine oC [] ?_
 refine ct (span_ok _ _) ?_
 refine oC [] ?_
 refine ct (span_ok _ _) ?_
 refine oC [] ?_
 refine ct (span_ok _ _) ?_
 refine oN 10 ?_
 refine oK [0] ?_
 refine W.ret ?_
 refine er false [56, 72] [(20000, 104)] ?_
 exact ⟨rfl, rfl⟩
theorem chk_vault : ACalls Tryd.prog 7 [celV vaultC] [] (fun r o => r = I 0 ∧ o = []) := by
  have h := Check_ok vaultC
  rw [ey_chk] at h; exact h
theorem chk_warm : ACalls Tryd.prog 7 [.agg [I 100, I 150, .imm [B9 ⟨1000, ⟨500, 600⟩, ⟨200, 250⟩, ⟨51, 52⟩, ⟨50, 80⟩⟩], filsV vaultC.fils, ratsV vaultC.rats]] [] (fun r o => r = I 9 ∧ o = []) := by
  have h := Check_ok warmC
  rw [ey_warm] at h; exact h
theorem chk_bare : ACalls Tryd.prog 7 [.agg [I 100, I 150, boxesV vaultC.boxes, filsV vaultC.fils, .imm []]] [] (fun r o => r = I 7 ∧ o = []) := by
  have h := Check_ok bareC
  rw [ey_bare] at h; exact h
theorem chk_twice : ACalls Tryd.prog 7 [.agg [I 100, I 150, boxesV vaultC.boxes, filsV vaultC.fils, .imm [R2 ⟨-50, 1⟩, R2 ⟨-50, 5⟩, R2 ⟨100, 20⟩]]] [] (fun r o => r = I 5 ∧ o = []) := by
  have h := Check_ok twiceC
  rw [ey_twice] at h; exact h
theorem ice_ex {l : Int} {v : Spn} (h1 : atS vaultC 0 l = v) (h2 : atE vaultC 0 l = 0) : ACalls Tryd.prog 9 [celV vaultC, I 0, I l] [] (fun r o => r = .tup [spnV v, I 0] ∧ o = []) := by
  have h := Ice_ok vaultC 0 l
  rw [h1, h2] at h; exact h
theorem cold_ex {l v : Int} (h1 : coldV (atS vaultC 0 l) = v) (h2 : atE vaultC 0 l = 0) : ACalls Tryd.prog 10 [celV vaultC, I 0, I l] [] (fun r o => r = .tup [I v, I 0] ∧ o = []) := by
  have h := Cold_ok vaultC 0 l
  rw [if_pos h2, h1, h2] at h; exact h
theorem lost_ex {l : Int} {v : Spn} (h1 : lotS vaultC (eelC 60) l = v) (h2 : lotE vaultC (eelC 60) l = 0) : ACalls Tryd.prog 11 [celV vaultC, lotV (eelC 60), I l] [] (fun r o => r = .tup [spnV v, I 0] ∧ o = []) := by
  have h := Lost_ok vaultC (eelC 60) l
  rw [h1, h2] at h; exact h
theorem fresh_ex {k l v : Int} (h1 : freshV vaultC (eelC k) l = v) (h2 : lotE vaultC (eelC k) l = 0) : ACalls Tryd.prog 13 [celV vaultC, lotV (eelC k), I l] [] (fun r o => r = .tup [I v, I 0] ∧ o = []) := by
  have h := Fresh_ok vaultC (eelC k) l
  rw [h1, h2] at h; exact h
theorem last_ex : ACalls Tryd.prog 14 [celV vaultC, lotV (eelC 52)] [] (fun r o => r = .tup [I 7, I 0] ∧ o = []) := by
  have h := Last_ok vaultC (eelC 52)
  rw [ey_last.1, ey_last.2] at h; exact h
theorem sell_ex : ACalls Tryd.prog 28 [celV vaultC, lotsV [eelC 60], soldsV [⟨0, 8⟩, ⟨0, 9⟩, ⟨1, 0⟩, ⟨0, 241⟩]] [] (fun r o => r = .tup [ints [0, 12, 3, 1], I 0] ∧ o = []) := by
  have h := Sell_ok vaultC [eelC 60] [⟨0, 8⟩, ⟨0, 9⟩, ⟨1, 0⟩, ⟨0, 241⟩]
  rw [ey_sell.1, ey_sell.2] at h; exact h
theorem fill_ex : ACalls Tryd.prog 16 [celV vaultC, I 0, ints [2, 3], I 100, I 5] [] (fun r o => r = .tup [ints [1, 1], I 0] ∧ o = []) := by
  have h := Fill_ok vaultC 0 [2, 3] 100 5
  rw [ey_fill.1, ey_fill.2] at h; exact h
theorem fill_none : ACalls Tryd.prog 16 [celV vaultC, I 0, ints [3], I 100, I 5] [] (fun r o => r = .tup [.val (.slice none 0 0), I 3] ∧ o = []) := by
  have h := Fill_ok vaultC 0 [3] 100 5
  rw [ey_fill2.1, ey_fill2.2] at h; exact h
theorem write_ex (ob : Go.Obj) : ACalls Tryd.prog 29 [celV vaultC, lotsV [eelC 60]] [(10900, tabO ob)] (fun r o => r = .tup [.val (.string ⟨paperC.toArray⟩), I 0] ∧ o = [(10900, tabO ob)]) := by
  have h := Write_ok ob vaultC [eelC 60]
  rw [ey_wrX, ey_wrE] at h; exact h
set_option maxHeartbeats 4000000 in
theorem sold_ok (ob : Go.Obj) : ACalls Tryd.prog 15 [] [(10900, tabO ob)] (fun r o => r = B true ∧ o = [(10900, tabO ob)]) := by
 have F := Fx.nil
 refine ent Tryd.func15 Tryd.ntmps15 Tryd.results15 ?_
 refine rK [] ?_
 refine W.seqR ?_
 refine oC [] ?_
 refine ct (vault_ok) ?_
 refine oC [] ?_
 refine ct (eel_lot_ok _) ?_
 refine oN 5 ?_
 refine fz 96 ?_
 refine oN 1 ?_
 refine fz 136 ?_
 refine oC [] ?_
 refine ct (sell_ex) ?_
 refine oN 5 ?_
 refine oK [1, 2] ?_
 refine W.seqR ?_
 refine oC [] ?_
 refine ct (vault_ok) ?_
 refine oN 1 ?_
 refine fz 184 ?_
 refine oC [] ?_
 refine ct (fill_ex) ?_
 refine oN 5 ?_
 refine oK [1, 2, 3, 4] ?_
 refine W.seqR ?_
 refine oC [] ?_
 refine ct (vault_ok) ?_
 refine oN 1 ?_
 refine fz 232 ?_
 refine oC [] ?_
 refine ct (fill_none) ?_
 refine oN 5 ?_
 refine oK [1, 2, 3, 4, 6] ?_
 refine W.seqR ?_
 refine oC [] ?_
 refine ct (vault_ok) ?_
 refine oC [] ?_
 refine ct (eel_lot_ok _) ?_
 refine oN 1 ?_
 refine fz 288 ?_
 refine oC [(10900, 10900)] ?_
 refine ct (write_ex ob) ?_
 refine oN 5 ?_
 refine oK [1, 2, 3, 4, 6, 7, 8] ?_
 refine W.seqR ?_
 refine oN 3 ?_
 refine gT ?_
 refine gT ?_
 refine oN 2 ?_
 refine gT ?_
 refine gT ?_
 refine oN 2 ?_
 refine gT ?_
 refine gT ?_
 refine oN 2 ?_
 refine gT ?_
 refine gT ?_
 refine gC [] ?_
 refine ct (SameErrors_ok [0, 12, 3, 1] (by decide)) ?_
 refine oN 2 ?_
 refine gT ?_
 refine gT ?_
 refine gC [] ?_
 refine ct (SameInts_ok [1, 1] [1, 1]) ?_
 refine oN 2 ?_
 refine gT ?_
 refine gT ?_
 refine oN 2 ?_
 refine oK [0] ?_
 refine W.ret ?_
 refine er false [] [(10900, 10900)] ?_
 exact ⟨congrArg (fun b => AV.val (Value.bool b)) (by decide +kernel), rfl⟩
set_option maxHeartbeats 4000000 in
theorem ColdKnown_ok (ob : Go.Obj) : ACalls Tryd.prog 3 [] [(10900, tabO ob)] (fun r o => r = B true ∧ o = [(10900, tabO ob)]) := by
 have F := Fx.nil
 refine ent Tryd.func3 Tryd.ntmps3 Tryd.results3 ?_
 refine rK [] ?_
 refine W.seqR ?_
 refine oC [] ?_
 refine ct (vault_ownB) ?_
 refine oC [] ?_
 refine ct (vault_ok) ?_
 refine oC [] ?_
 refine ct (vault_ownR) ?_
 refine oN 6 ?_
 refine oK [1, 2, 3] ?_
 refine wD 10 [(7, [200]), (9, [16])] [[], [0], [], [2], [], [4, 0, 1], [1, 0, 4, 5], [5, 4, 0, 1, 6], [7, 6, 5, 4, 1, 0], [0, 1, 4, 5, 6, 7, 8], [9, 8, 7, 6, 5, 4, 1, 0, 2, 3], [3, 2, 0, 1, 4, 5, 6, 7, 8, 9, 10], [10, 9, 8, 7, 6, 5, 4, 1, 0, 2, 3, 11]] ?_
 refine dB [([30, 31, 32], [], []), ([30, 31, 32], [true], []), ([28, 29, 32, 33, 34, 35], [false, false], [200, 16]), ([28, 29, 32, 33, 34, 35], [false, false, true], [200, 16])] 6 4 ?_
 refine dC [28, 29, 30, 31] [false, false, false, false] [] [] ?_
 refine cd (span_ok _ _) ?_
 refine dB [([30, 31], [true, true, false, false, true], []), ([30, 31], [true, true, false, false, true, true], [])] 3 7 ?_
 refine WDraw.upd hΓ [200] (viewB_eq (L := [30, 31]) (S := [true, true, false, false, true, true, true]) (O := []) (by kernel_rfl) (by kernel_rfl) (by simp; rfl)) (by first | rfl | simp) (by simp; first | rfl | exact ⟨rfl, rfl⟩) (by simp; first | done | rfl) (.inr (by simp)) (by simp; rfl) ?_
 refine dB [([30, 31], [true, true, false, false, true, true, true, true], [])] 1 9 ?_
 refine WDraw.upd hΓ [16] (viewB_eq (L := [30, 31]) (S := [true, true, false, false, true, true, true, true, true]) (O := []) (by kernel_rfl) (by kernel_rfl) (by simp; rfl)) (by first | rfl | simp) (by simp; first | rfl | exact ⟨rfl, rfl⟩) (by simp; first | done | rfl) (.inr (by simp)) (by simp; rfl) ?_
 refine dD ?_
 refine WOps.le Le.dedup rfl rfl ?_
 refine WOps.norm (by simp; rfl) ?_
 refine oN 3 ?_
 refine oK [1, 2, 3] ?_
 refine W.seqk fun K1 hK1 => ?_
 refine W.seqR ?_
 refine oC [] ?_
 refine ct (awake_ok) ?_
 refine oN 2 ?_
 refine gC [] ?_
 refine ct (vault_ok) ?_
 refine gC [] ?_
 refine ct (chk_vault) ?_
 refine gT ?_
 refine oN 2 ?_
 refine gT ?_
 refine gC [] ?_
 refine ct (chk_warm) ?_
 refine gT ?_
 refine oN 2 ?_
 refine gT ?_
 refine gC [] ?_
 refine ct (chk_bare) ?_
 refine gT ?_
 refine oN 2 ?_
 refine gT ?_
 refine gC [] ?_
 refine ct (chk_twice) ?_
 refine gT ?_
 refine oN 1 ?_
 refine oK [59] ?_
 refine cF ?_
 refine W.skip ?_
 refine hK1 _ ?_
 clear hK1 K1
 refine W.seqR ?_
 refine oN 1 ?_
 refine oC [] ?_
 refine ct (span_ok _ _) ?_
 refine oC [] ?_
 refine ct (span_ok _ _) ?_
 refine oC [] ?_
 refine ct (one_ok _) ?_
 refine oC [] ?_
 refine ct (one_ok _) ?_
 refine oC [] ?_
 refine ct (span_ok _ _) ?_
 refine oN 3 ?_
 refine oK [4, 5] ?_
 refine W.seqk fun K2 hK2 => ?_
 obtain ⟨LS, qLS⟩ : ∃ L : List Int, L = [0, 2, 3, 4, 5] := ⟨_, rfl⟩
 obtain ⟨VS, qVS⟩ : ∃ L : List Spn, L = [⟨500, 600⟩, ⟨0, 200⟩, ⟨0, 0⟩, ⟨300, 300⟩, ⟨50, 100⟩] := ⟨_, rfl⟩
 have hLS : [I 0, I 2, I 3, I 4, I 5] = LS.map I := by rw [qLS]; rfl
 have hVS : [AV.agg [I 500, I 600], .agg [I 0, I 200], .agg [I 0, I 0], .agg [I 300, I 300], .agg [I 50, I 100]] = VS.map spnV := by rw [qVS]; rfl
 have hLSl : LS.length = 5 := by rw [qLS]; rfl
 have hVSl : VS.length = 5 := by rw [qVS]; rfl
 replace F := F.add hLS |>.add hVS |>.add hLSl |>.add hVSl
 refine W.weaken (Le.freeze (id := 480) (by simp [hLS, hVS, hLSl, hVSl]; rfl)) ?_
 refine W.weaken (Le.freeze (id := 528) (by simp [hLS, hVS, hLSl, hVSl]; rfl)) ?_
 refine rK [4, 5, 6] ?_
 refine W.block ?_
 refine lpa (α := Nat) [4, 5] [7, 69, 74, 79] [] (fun i => [(6, I i)]) (fun i => []) (fun i => i ≤ 5) (fun i => 5 - i) 0 v0 ?_
 ·
  intro i hI0
  simp only [List.cons_append, List.nil_append]
  try dsimp only at hI0
  replace F := F.add hI0
  refine W.seqk fun K3 hK3 => ?_
  refine rK [4, 5, 6, 70] ?_
  refine it (fun hc2 => ?_) (fun hc2 => ?_)
  ·
   try simp at hc2
   replace F := F.add hc2
   refine W.skip ?_
   refine hK3 _ ?_
   clear hK3 K3
   refine W.seqk fun K4 hK4 => ?_
   refine W.block ?_
   have hi5 : i < 5 := by omega
   obtain ⟨l, ql⟩ : ∃ l, LS[i]'(by omega) = l := ⟨_, rfl⟩
   obtain ⟨v1, v2, qw⟩ : ∃ v1 v2, VS[i]'(by omega) = ⟨v1, v2⟩ := ⟨_, _, rfl⟩
   have hl0 := ql
   have hv0 := qw
   have qk : atS vaultC 0 l = ⟨v1, v2⟩ ∧ atE vaultC 0 l = 0 := by
     subst qLS; subst qVS
     have h0 := ey_ice
     have h3 : i = 0 ∨ i = 1 ∨ i = 2 ∨ i = 3 ∨ i = 4 := by omega
     rcases h3 with rfl | rfl | rfl | rfl | rfl
     · rw [← show (0 : Int) = l from ql, ← show (⟨500, 600⟩ : Spn) = ⟨v1, v2⟩ from qw]; exact ⟨h0.1, ey_atE (by omega) (by omega)⟩
     · rw [← show (2 : Int) = l from ql, ← show (⟨0, 200⟩ : Spn) = ⟨v1, v2⟩ from qw]; exact ⟨h0.2.1, ey_atE (by omega) (by omega)⟩
     · rw [← show (3 : Int) = l from ql, ← show (⟨0, 0⟩ : Spn) = ⟨v1, v2⟩ from qw]; exact ⟨h0.2.2.1, ey_atE (by omega) (by omega)⟩
     · rw [← show (4 : Int) = l from ql, ← show (⟨300, 300⟩ : Spn) = ⟨v1, v2⟩ from qw]; exact ⟨h0.2.2.2.1, ey_atE (by omega) (by omega)⟩
     · rw [← show (5 : Int) = l from ql, ← show (⟨50, 100⟩ : Spn) = ⟨v1, v2⟩ from qw]; exact ⟨h0.2.2.2.2, ey_atE (by omega) (by omega)⟩
   replace F := F.add hi5 |>.add hl0 |>.add hv0
   refine wD 11 [(10, [56])] [[], [], [], [2, 1], [1, 2, 3], [3, 2, 1, 4, 0], [0, 4, 1, 2, 3, 5], [5, 3, 2, 1, 4, 0, 6], [5, 3, 2, 1, 4, 0, 6], [], [6, 0, 4, 1, 2, 3, 5, 7, 9], [9, 7, 10, 6, 0, 4, 1, 2, 3, 5, 8]] ?_
   refine dC [75, 76, 77, 78, 7] [] [] [] ?_
   refine cd (vault_ok) ?_
   refine dB [([74, 76, 7], [false], []), ([74, 75, 7], [false, false], []), ([74, 7], [false, true, true], []), ([74, 7], [false, true, true, true], [])] 6 5 ?_
   refine dC [7] [true, true, true, true, true] [] [] ?_
   refine cd (ice_ex qk.1 qk.2) ?_
   refine dB [([7], [true, true, true, true, true, true], []), ([81, 7], [true, true, true, true, true, true, true], []), ([80, 7], [true, true, true, true, true, true, true, false], [56]), ([74, 75, 76, 77, 78, 79, 73, 80, 81], [false, false, false, false, false, false, false, false, false], [])] 1 10 ?_
   refine WDraw.upd hΓ [56] (viewB_eq (L := [81]) (S := [true, true, true, true, true, true, true, true, false, true]) (O := []) (by kernel_rfl) (by kernel_rfl) (by simp [hLS, hVS, hLSl, hVSl, hI0, hc2, hi5, hl0, hv0]; rfl)) (by first | rfl | simp) (by simp [hLS, hVS, hLSl, hVSl, hI0, hc2, hi5, hl0, hv0]; first | rfl | exact ⟨rfl, rfl⟩) (by simp [hLS, hVS, hLSl, hVSl, hI0, hc2, hi5, hl0, hv0]; first | done | rfl) (.inr (by simp)) (by simp [hLS, hVS, hLSl, hVSl, hI0, hc2, hi5, hl0, hv0]; rfl) ?_
   refine dD ?_
   refine WOps.le Le.dedup rfl rfl ?_
   refine WOps.norm (by simp [hLS, hVS, hLSl, hVSl, hI0, hc2, hi5, hl0, hv0]; rfl) ?_
   refine oN 1 ?_
   refine oK [4, 5, 6, 7, 8] ?_
   refine wD 8 [] [[], [0], [0, 1], [1, 0, 2], [1, 0, 2], [1, 0, 2], [5, 2, 0, 1, 4], [4, 1, 0, 2, 5, 6], [6, 5, 4, 7, 2, 0, 1, 3], [3, 7, 4, 5, 6, 8, 1, 0, 2]] ?_
   refine dB [([], [], []), ([], [true], []), ([], [true, true], [])] 5 3 ?_
   refine dT [86, 87, 88, 89] [true, true, true] [] ?_
   refine dT [85, 87] [true, true, true, false] [] ?_
   refine dT [85, 86] [true, true, true, false, false] [] ?_
   refine dT [85] [true, true, true, false, true, true] [] ?_
   refine dT [85] [true, true, true, false, true, true, true] [] ?_
   refine dD ?_
   refine gT ?_
   refine oN 1 ?_
   refine oK [4, 5, 6, 91] ?_
   refine cF ?_
   refine W.skip ?_
   refine hK4 _ ?_
   clear hK4 K4
   refine rEw ?_
   refine ⟨i + 1, lf0, v0, v0⟩
  ·
   try simp at hc2
   replace F := F.add hc2
   refine W.exit ?_
   refine hK2 _ ?_
   clear hK3 K3 hK2 K2
   refine rK [4, 9] ?_
   refine W.seqk fun K5 hK5 => ?_
   obtain ⟨LT, qLT⟩ : ∃ L : List Int, L = [1, 2, 3, 6] := ⟨_, rfl⟩
   obtain ⟨VT, qVT⟩ : ∃ L : List Int, L = [1, 3, 2, 2] := ⟨_, rfl⟩
   have hLT : [I 1, I 2, I 3, I 6] = LT.map I := by rw [qLT]; rfl
   have hVT : [I 1, I 3, I 2, I 2] = VT.map I := by rw [qVT]; rfl
   have hLTl : LT.length = 4 := by rw [qLT]; rfl
   have hVTl : VT.length = 4 := by rw [qVT]; rfl
   replace F := F.add hLT |>.add hVT |>.add hLTl |>.add hVTl
   refine W.weaken (Le.freeze (id := 736) (by simp [hLS, hVS, hLSl, hVSl, hI0, hc2, hLT, hVT, hLTl, hVTl]; rfl)) ?_
   refine W.weaken (Le.freeze (id := 744) (by simp [hLS, hVS, hLSl, hVSl, hI0, hc2, hLT, hVT, hLTl, hVTl]; rfl)) ?_
   refine rK [4, 9, 10] ?_
   refine W.block ?_
   refine lpa (α := Nat) [4, 9] [96, 101, 106] [] (fun j => [(10, I j)]) (fun j => []) (fun j => j ≤ 4) (fun j => 4 - j) 0 v0 ?_
   ·
    intro j hI1
    simp only [List.cons_append, List.nil_append]
    try dsimp only at hI1
    replace F := F.add hI1
    refine W.seqk fun K6 hK6 => ?_
    refine rK [4, 9, 10, 97] ?_
    refine it (fun hc4 => ?_) (fun hc4 => ?_)
    ·
     try simp at hc4
     replace F := F.add hc4
     refine W.skip ?_
     refine hK6 _ ?_
     clear hK6 K6
     refine W.seqk fun K7 hK7 => ?_
     refine W.block ?_
     have hj4 : j < 4 := by omega
     obtain ⟨l, ql⟩ : ∃ l, LT[j]'(by omega) = l := ⟨_, rfl⟩
     obtain ⟨v, qw⟩ : ∃ v, VT[j]'(by omega) = v := ⟨_, rfl⟩
     have hl0 := ql
     have hv0 := qw
     have qk : coldV (atS vaultC 0 l) = v ∧ atE vaultC 0 l = 0 := by
       subst qLT; subst qVT
       have h0 := ey_cold
       have h3 : j = 0 ∨ j = 1 ∨ j = 2 ∨ j = 3 := by omega
       rcases h3 with rfl | rfl | rfl | rfl
       · rw [← show (1 : Int) = l from ql, ← show (1 : Int) = v from qw]; exact ⟨h0.1, ey_atE (by omega) (by omega)⟩
       · rw [← show (2 : Int) = l from ql, ← show (3 : Int) = v from qw]; exact ⟨h0.2.1, ey_atE (by omega) (by omega)⟩
       · rw [← show (3 : Int) = l from ql, ← show (2 : Int) = v from qw]; exact ⟨h0.2.2.1, ey_atE (by omega) (by omega)⟩
       · rw [← show (6 : Int) = l from ql, ← show (2 : Int) = v from qw]; exact ⟨h0.2.2.2, ey_atE (by omega) (by omega)⟩
     replace F := F.add hj4 |>.add hl0 |>.add hv0
     refine wD 10 [] [[], [], [], [2, 1], [1, 2, 3], [3, 2, 1, 4, 0], [0, 4, 1, 2, 3, 5], [5, 3, 2, 1, 4, 0, 6], [5, 3, 2, 1, 4, 0, 6], [6, 0, 4, 1, 2, 3, 5, 7], [7, 9, 6, 0, 4, 1, 2, 3, 5, 8]] ?_
     refine dC [102, 103, 104, 105] [] [] [] ?_
     refine cd (vault_ok) ?_
     refine dB [([101, 103], [false], []), ([101, 102], [false, false], []), ([101], [false, true, true], []), ([101], [false, true, true, true], [])] 5 5 ?_
     refine dC [] [true, true, true, true, true] [] [] ?_
     refine cd (cold_ex qk.1 qk.2) ?_
     refine dB [([], [true, true, true, true, true, true], []), ([108], [true, true, true, true, true, true, true], []), ([107, 11], [true, true, true, true, true, true, true, false], []), ([108], [true, true, true, true, true, true, true, true, false], [])] 0 10 ?_
     refine dD ?_
     refine oN 1 ?_
     refine oK [4, 9, 10, 11, 12] ?_
     refine W.seqR ?_
     refine oN 3 ?_
     refine gT ?_
     refine gT ?_
     refine gT ?_
     refine gT ?_
     refine gT ?_
     refine gT ?_
     refine oN 1 ?_
     refine oK [4, 9, 10, 118] ?_
     refine cF ?_
     refine W.skip ?_
     refine hK7 _ ?_
     clear hK7 K7
     refine rEw ?_
     refine ⟨j + 1, lf0, v0, v0⟩
    ·
     try simp at hc4
     replace F := F.add hc4
     refine W.exit ?_
     refine hK5 _ ?_
     clear hK6 K6 hK5 K5
     refine W.seqR ?_
     refine oN 1 ?_
     refine oC [] ?_
     refine ct (one_ok _) ?_
     refine oC [] ?_
     refine ct (span_ok _ _) ?_
     refine oC [] ?_
     refine ct (span_ok _ _) ?_
     refine oC [] ?_
     refine ct (span_ok _ _) ?_
     refine oC [] ?_
     refine ct (span_ok _ _) ?_
     refine oN 3 ?_
     refine oK [4, 13] ?_
     refine W.seqk fun K8 hK8 => ?_
     obtain ⟨LU, qLU⟩ : ∃ L : List Int, L = [2, 3, 4, 6, 8] := ⟨_, rfl⟩
     obtain ⟨VU, qVU⟩ : ∃ L : List Spn, L = [⟨2, 2⟩, ⟨3, 7⟩, ⟨8, 12⟩, ⟨10, 14⟩, ⟨50, 54⟩] := ⟨_, rfl⟩
     have hLU : [I 2, I 3, I 4, I 6, I 8] = LU.map I := by rw [qLU]; rfl
     have hVU : [AV.agg [I 2, I 2], .agg [I 3, I 7], .agg [I 8, I 12], .agg [I 10, I 14], .agg [I 50, I 54]] = VU.map spnV := by rw [qVU]; rfl
     have hLUl : LU.length = 5 := by rw [qLU]; rfl
     have hVUl : VU.length = 5 := by rw [qVU]; rfl
     replace F := F.add hLU |>.add hVU |>.add hLUl |>.add hVUl
     refine W.weaken (Le.freeze (id := 952) (by simp [hLS, hVS, hLSl, hVSl, hI0, hc2, hLT, hVT, hLTl, hVTl, hI1, hc4, hLU, hVU, hLUl, hVUl]; rfl)) ?_
     refine W.weaken (Le.freeze (id := 1000) (by simp [hLS, hVS, hLSl, hVSl, hI0, hc2, hLT, hVT, hLTl, hVTl, hI1, hc4, hLU, hVU, hLUl, hVUl]; rfl)) ?_
     refine rK [4, 13, 14] ?_
     refine W.block ?_
     refine lpa (α := Nat) [4, 13] [15, 128, 133, 134, 139] [] (fun k => [(14, I k)]) (fun k => []) (fun k => k ≤ 5) (fun k => 5 - k) 0 v0 ?_
     ·
      intro k hI2
      simp only [List.cons_append, List.nil_append]
      try dsimp only at hI2
      replace F := F.add hI2
      refine W.seqk fun K9 hK9 => ?_
      refine rK [4, 13, 14, 129] ?_
      refine it (fun hc6 => ?_) (fun hc6 => ?_)
      ·
       try simp at hc6
       replace F := F.add hc6
       refine W.skip ?_
       refine hK9 _ ?_
       clear hK9 K9
       refine W.seqk fun K10 hK10 => ?_
       refine W.block ?_
       have hk5 : k < 5 := by omega
       obtain ⟨l, ql⟩ : ∃ l, LU[k]'(by omega) = l := ⟨_, rfl⟩
       obtain ⟨v1, v2, qw⟩ : ∃ v1 v2, VU[k]'(by omega) = ⟨v1, v2⟩ := ⟨_, _, rfl⟩
       have hl0 := ql
       have hv0 := qw
       have qk : lotS vaultC (eelC 60) l = ⟨v1, v2⟩ ∧ lotE vaultC (eelC 60) l = 0 := by
         subst qLU; subst qVU
         have h0 := ey_lost
         have h3 : k = 0 ∨ k = 1 ∨ k = 2 ∨ k = 3 ∨ k = 4 := by omega
         rcases h3 with rfl | rfl | rfl | rfl | rfl
         · rw [← show (2 : Int) = l from ql, ← show (⟨2, 2⟩ : Spn) = ⟨v1, v2⟩ from qw]; exact ⟨h0.1, ey_lostE (by omega) (by omega)⟩
         · rw [← show (3 : Int) = l from ql, ← show (⟨3, 7⟩ : Spn) = ⟨v1, v2⟩ from qw]; exact ⟨h0.2.1, ey_lostE (by omega) (by omega)⟩
         · rw [← show (4 : Int) = l from ql, ← show (⟨8, 12⟩ : Spn) = ⟨v1, v2⟩ from qw]; exact ⟨h0.2.2.1, ey_lostE (by omega) (by omega)⟩
         · rw [← show (6 : Int) = l from ql, ← show (⟨10, 14⟩ : Spn) = ⟨v1, v2⟩ from qw]; exact ⟨h0.2.2.2.1, ey_lostE (by omega) (by omega)⟩
         · rw [← show (8 : Int) = l from ql, ← show (⟨50, 54⟩ : Spn) = ⟨v1, v2⟩ from qw]; exact ⟨h0.2.2.2.2, ey_lostE (by omega) (by omega)⟩
       replace F := F.add hk5 |>.add hl0 |>.add hv0
       refine wD 12 [(11, [120])] [[], [0], [], [], [3, 2], [2, 3, 4], [4, 3, 2, 5, 1, 0], [0, 1, 5, 2, 3, 4, 6], [6, 4, 3, 2, 5, 1, 0, 7], [6, 4, 3, 2, 5, 1, 0, 7], [], [7, 0, 1, 5, 2, 3, 4, 6, 8, 10], [10, 8, 11, 7, 0, 1, 5, 2, 3, 4, 6, 9]] ?_
       refine dC [135, 136, 137, 138, 15] [] [] [] ?_
       refine cd (vault_ok) ?_
       refine dC [135, 136, 137, 138, 15] [true] [] [] ?_
       refine cd (eel_lot_ok _) ?_
       refine dB [([133, 134, 136, 15], [false, false], []), ([133, 134, 135, 15], [false, false, false], []), ([133, 134, 15], [false, false, true, true], []), ([133, 134, 15], [false, false, true, true, true], [])] 6 6 ?_
       refine dC [15] [true, true, true, true, true, true] [] [] ?_
       refine cd (lost_ex qk.1 qk.2) ?_
       refine dB [([15], [true, true, true, true, true, true, true], []), ([141, 15], [true, true, true, true, true, true, true, true], []), ([140, 15], [true, true, true, true, true, true, true, true, false], [120]), ([133, 134, 135, 136, 137, 138, 139, 132, 140, 141], [false, false, false, false, false, false, false, false, false, false], [])] 1 11 ?_
       refine WDraw.upd hΓ [120] (viewB_eq (L := [141]) (S := [true, true, true, true, true, true, true, true, true, false, true]) (O := []) (by kernel_rfl) (by kernel_rfl) (by simp [hLS, hVS, hLSl, hVSl, hI0, hc2, hLT, hVT, hLTl, hVTl, hI1, hc4, hLU, hVU, hLUl, hVUl, hI2, hc6, hk5, hl0, hv0]; rfl)) (by first | rfl | simp) (by simp [hLS, hVS, hLSl, hVSl, hI0, hc2, hLT, hVT, hLTl, hVTl, hI1, hc4, hLU, hVU, hLUl, hVUl, hI2, hc6, hk5, hl0, hv0]; first | rfl | exact ⟨rfl, rfl⟩) (by simp [hLS, hVS, hLSl, hVSl, hI0, hc2, hLT, hVT, hLTl, hVTl, hI1, hc4, hLU, hVU, hLUl, hVUl, hI2, hc6, hk5, hl0, hv0]; first | done | rfl) (.inr (by simp)) (by simp [hLS, hVS, hLSl, hVSl, hI0, hc2, hLT, hVT, hLTl, hVTl, hI1, hc4, hLU, hVU, hLUl, hVUl, hI2, hc6, hk5, hl0, hv0]; rfl) ?_
       refine dD ?_
       refine WOps.le Le.dedup rfl rfl ?_
       refine WOps.norm (by simp [hLS, hVS, hLSl, hVSl, hI0, hc2, hLT, hVT, hLTl, hVTl, hI1, hc4, hLU, hVU, hLUl, hVUl, hI2, hc6, hk5, hl0, hv0]; rfl) ?_
       refine oN 1 ?_
       refine oK [4, 13, 14, 15, 16] ?_
       refine wD 8 [] [[], [0], [0, 1], [1, 0, 2], [1, 0, 2], [1, 0, 2], [5, 2, 0, 1, 4], [4, 1, 0, 2, 5, 6], [6, 5, 4, 7, 2, 0, 1, 3], [3, 7, 4, 5, 6, 8, 1, 0, 2]] ?_
       refine dB [([], [], []), ([], [true], []), ([], [true, true], [])] 5 3 ?_
       refine dT [146, 147, 148, 149] [true, true, true] [] ?_
       refine dT [145, 147] [true, true, true, false] [] ?_
       refine dT [145, 146] [true, true, true, false, false] [] ?_
       refine dT [145] [true, true, true, false, true, true] [] ?_
       refine dT [145] [true, true, true, false, true, true, true] [] ?_
       refine dD ?_
       refine gT ?_
       refine oN 1 ?_
       refine oK [4, 13, 14, 151] ?_
       refine cF ?_
       refine W.skip ?_
       refine hK10 _ ?_
       clear hK10 K10
       refine rEw ?_
       refine ⟨k + 1, lf0, v0, v0⟩
      ·
       try simp at hc6
       replace F := F.add hc6
       refine W.exit ?_
       refine hK8 _ ?_
       clear hK9 K9 hK8 K8
       refine W.seqR ?_
       refine oC [] ?_
       refine ct (vault_ok) ?_
       refine oC [] ?_
       refine ct (eel_lot_ok _) ?_
       refine oC [] ?_
       refine ct (fresh_ex ey_fresh.1 ey_freshE.1) ?_
       refine oN 5 ?_
       refine oK [17, 18] ?_
       refine W.seqR ?_
       refine oC [] ?_
       refine ct (vault_ok) ?_
       refine oC [] ?_
       refine ct (eel_lot_ok _) ?_
       refine oC [] ?_
       refine ct (fresh_ex ey_fresh.2.1 ey_freshE.2.1) ?_
       refine oN 5 ?_
       refine oK [17, 18, 19, 20] ?_
       refine W.seqR ?_
       refine oC [] ?_
       refine ct (vault_ok) ?_
       refine oC [] ?_
       refine ct (eel_lot_ok _) ?_
       refine oC [] ?_
       refine ct (fresh_ex ey_fresh.2.2 ey_freshE.2.2) ?_
       refine oN 5 ?_
       refine oK [17, 18, 19, 20, 21, 22] ?_
       refine W.seqR ?_
       refine oC [] ?_
       refine ct (vault_ok) ?_
       refine oC [] ?_
       refine ct (eel_lot_ok _) ?_
       refine oC [] ?_
       refine ct (last_ex) ?_
       refine oN 5 ?_
       refine oK [17, 18, 19, 20, 21, 22, 23, 24] ?_
       refine W.seqR ?_
       refine oN 3 ?_
       refine gT ?_
       refine gT ?_
       refine oN 2 ?_
       refine gT ?_
       refine gT ?_
       refine oN 2 ?_
       refine gT ?_
       refine gT ?_
       refine oN 2 ?_
       refine gT ?_
       refine gT ?_
       refine oN 2 ?_
       refine gT ?_
       refine gT ?_
       refine oN 2 ?_
       refine gT ?_
       refine gT ?_
       refine oN 2 ?_
       refine gT ?_
       refine gT ?_
       refine oN 2 ?_
       refine gC [(10900, 10900)] ?_
       refine ct (sold_ok ob) ?_
       refine oN 2 ?_
       refine oK [0] ?_
       refine W.ret ?_
       exact er0 false [] [(10900, 10900)]
end Go.Sim
