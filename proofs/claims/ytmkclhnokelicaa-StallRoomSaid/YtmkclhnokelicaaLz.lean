/- It does not pay to tell other wishes: the law answers true. -/
import Derived.Test.YtmkclhnokelicaaLu
import Derived.Test.YtmkclhnokelicaaLx
import Derived.Test.YtmkclhnokelicaaPn
namespace Go.Sim
open Go.Proofs
set_option maxRecDepth 100000
set_option linter.unusedSimpArgs false
set_option linter.unusedVariables false
attribute [-simp] List.map_set List.map_take List.map_drop
theorem frz_A4 (id : Nat) (els : List AV) : AV.mapCells (AV.frz id els) ∘ A4 = A4 := funext fun _ => rfl
theorem ren_A4 (ρ : Nat → Nat) : AV.mapCells (AV.ren ρ) ∘ A4 = A4 := funext fun _ => rfl
theorem kill_A4 (id : Nat) : AV.mapCells (AV.kill id) ∘ A4 = A4 := funext fun _ => rfl
theorem map_setA (f : AV → AV) (l : List AV) (i : Nat) (x : AV) : List.map (AV.mapCells f) (l.set i x) = (l.map (AV.mapCells f)).set i (AV.mapCells f x) := List.map_set
theorem data_set : ∀ {l : List AV} {i : Nat} {x : AV}, AV.isDataL l = true → x.isData = true → AV.isDataL (l.set i x) = true
  | [], _, _, _, _ => rfl
  | y :: ys, 0, x, h, hx => by simp only [AV.isDataL, Bool.and_eq_true, List.set_cons_zero] at h ⊢; exact ⟨hx, h.2⟩
  | y :: ys, i + 1, x, h, hx => by simp only [AV.isDataL, Bool.and_eq_true, List.set_cons_succ] at h ⊢; exact ⟨h.1, data_set h.2 hx⟩
theorem data_A4 : ∀ l : List App, AV.isDataL (l.map A4) = true
  | [] => rfl
  | _ :: r => by simp only [List.map_cons, AV.isDataL, Bool.and_eq_true]; exact ⟨rfl, data_A4 r⟩
theorem data_row (l : List App) (w : Nat) (y t : Int) (p q : List AV) : AV.isDataL ((l.map A4).set w (.agg [I y, I t, .imm p, .imm q])) = true := data_set (data_A4 l) rfl
theorem take_setA (l : List App) (w : Nat) (x : AV) : List.take l.length ((l.map A4).set w x) = (l.map A4).set w x := List.take_of_length_le (by simp)
theorem set_A4 (l : List App) (w : Nat) (x : App) : (l.map A4).set w (.agg [I x.years, I x.token, .imm (x.wishes.map I), .imm (x.bids.map I)]) = (l.set w x).map A4 := List.map_set.symm
attribute [local simp] frz_A4 ren_A4 kill_A4 map_setA data_A4 data_row take_setA
set_option maxHeartbeats 4000000 in
theorem StallTruth_ok (nums : List Int) : ACalls Try.prog 6 [ints nums] [] (fun r o => r = B true ∧ o = []) := by
 have F := Fx.nil
 refine ent Try.func6 Try.ntmps6 Try.results6 ?_
 refine rK [0] ?_
 refine W.seqR ?_
 refine oN 1 ?_
 refine oC [] ?_
 refine ct (DieOf_ok _) ?_
 refine oN 1 ?_
 refine oK [3] ?_
 refine W.seqR ?_
 refine oN 1 ?_
 refine oC [(10000, 136)] ?_
 refine CallT.mkE (LettingOf_ok _ 4 4 (by omega) (by omega) (by omega)) (fun z19 hz19 => ⟨(by simp), ?_⟩)
 obtain ⟨l, fd⟩ := z19
 have qmade : MadeL l 4 4 := hz19
 have hv : ValidL l := qmade.ok
 have h8 := hv.a8
 have hs8 := hv.s8
 replace F := F.add hv |>.add h8 |>.add hs8
 refine WOps.norm (by simp [hv, h8, hs8]; rfl) ?_
 refine oN 2 ?_
 refine oK [3, 4] ?_
 refine W.seqk fun K1 hK1 => ?_
 refine W.seqR ?_
 refine fz 152 ?_
 refine fz 153 ?_
 refine oN 4 ?_
 refine oK [3, 4, 23] ?_
 refine it (fun hc1 => ?_) (fun hc1 => ?_)
 ·
  try simp at hc1
  replace F := F.add hc1
  refine W.seqR ?_
  refine oC [] ?_
  refine ct (awake_ok) ?_
  refine oN 1 ?_
  refine oK [2] ?_
  refine W.ret ?_
  refine tr ?_
  clear hK1 K1
  exact er0 false [] []
 ·
  try simp at hc1
  replace F := F.add hc1
  refine W.skip ?_
  refine hK1 _ ?_
  clear hK1 K1
  have hn1 : 0 < l.apps.length := by first | omega | exact List.length_pos_iff.2 (by assumption)
  replace F := F.add hn1
  refine W.seqR ?_
  refine oN 4 ?_
  refine oC [(10000, 136)] ?_
  refine ct (Cast_ok _ _ (by omega)) ?_
  refine oN 1 ?_
  refine oK [4, 5] ?_
  obtain ⟨w, qw⟩ : ∃ w : Nat, castV fd (l.apps.length : Int) = (w : Int) := ⟨(castV fd (l.apps.length : Int)).toNat, by have := castV_lo fd (l.apps.length : Int); omega⟩
  have hw := qw
  have hwl : w < l.apps.length := by have := castV_hi fd (l.apps.length : Int) (by omega); omega
  have hwn : nth l.apps w = l.apps[w] := nth_get hwl
  have qap := hv.ap _ (List.getElem_mem hwl)
  have qwl := qap.wlen
  have hw8 : l.apps[w].wishes.length ≤ 8 := by omega
  have hbl : l.apps[w].bids.length = l.apps[w].wishes.length := qap.len
  replace F := F.add hw |>.add hwl |>.add hwn |>.add hw8 |>.add hbl
  refine W.seqR ?_
  refine oN 1 ?_
  refine oC [] ?_
  refine CallT.mkE (Let_ok l hv) (fun z32 hz32 => ⟨(by simp [hv, h8, hs8, hc1, hn1, hw, hwl, hwn, hw8, hbl]), ?_⟩)
  have hk : HoldOk l z32 := hz32.hold
  have hkl := hk.len
  replace F := F.add hk |>.add hkl
  refine WOps.norm (by simp [hv, h8, hs8, hc1, hn1, hw, hwl, hwn, hw8, hbl, hk, hkl]; rfl) ?_
  refine oN 5 ?_
  refine oK [4, 5, 6, 7] ?_
  refine W.seqk fun K2 hK2 => ?_
  refine W.seqR ?_
  refine oN 3 ?_
  refine gT ?_
  refine gT ?_
  refine gT ?_
  refine gT ?_
  refine gT ?_
  refine gT ?_
  refine oN 1 ?_
  refine oK [4, 5, 6, 44] ?_
  refine cF ?_
  refine W.skip ?_
  refine hK2 _ ?_
  clear hK2 K2
  refine rK [4, 5, 6, 8] ?_
  refine W.seqR ?_
  refine oN 3 ?_
  refine oC [] ?_
  refine CallT.mk (lists_ok l.apps[w].wishes.length hw8 l.apps[w].wishes.length [] List.nodup_nil (by simp) (by simp)) (by simp [hv, h8, hs8, hc1, hn1, hw, hwl, hwn, hw8, hbl, hk, hkl]) ?_
  obtain ⟨A, qA⟩ : ∃ A, A = listsL l.apps[w].wishes.length l.apps[w].wishes.length [] := ⟨_, rfl⟩
  have hA := qA.symm
  have qmem : ∀ x, x ∈ A → x.Nodup ∧ ∀ y ∈ x, 0 ≤ y ∧ y < (l.apps[w].wishes.length : Int) := fun x hx => mem_lists _ [] x List.nodup_nil (by simp) (by rw [← qA]; exact hx)
  have qlen : A.length ≤ 43046721 := by rw [qA]; exact Nat.le_trans (listsL_many hw8 _ _) (Nat.pow_le_pow_right (n := 9) (by omega) hw8)
  replace F := F.add hA
  refine WOps.norm (by simp [hv, h8, hs8, hc1, hn1, hw, hwl, hwn, hw8, hbl, hk, hkl, hA]; rfl) ?_
  refine oN 1 ?_
  refine oK [4, 5, 6, 8, 9] ?_
  refine W.seqk fun K3 hK3 => ?_
  refine rK [4, 5, 6, 8, 9, 10] ?_
  refine W.block ?_
  refine lpa (α := Nat) [4, 5, 6, 8, 9] [11, 56, 61, 77, 98, 99, 115, 116, 123, 130, 133, 140, 144] [] (fun i => [(10, I i)]) (fun i => []) (fun i => i ≤ A.length) (fun i => A.length - i) 0 v0 ?_
  ·
   intro i hI0
   simp only [List.cons_append, List.nil_append]
   try dsimp only at hI0
   replace F := F.add hI0
   refine W.seqk fun K4 hK4 => ?_
   refine rK [4, 5, 6, 8, 9, 10, 57] ?_
   refine it (fun hc3 => ?_) (fun hc3 => ?_)
   ·
    try simp at hc3
    replace F := F.add hc3
    refine W.skip ?_
    refine hK4 _ ?_
    clear hK4 K4
    refine W.seqk fun K5 hK5 => ?_
    refine W.block ?_
    have hiA : i < A.length := by omega
    have qm := qmem _ (List.getElem_mem hiA)
    obtain ⟨ix, qix⟩ : ∃ ix : List Nat, ix = A[i].map Int.toNat := ⟨_, rfl⟩
    have qixl : ix.length = A[i].length := by rw [qix, List.length_map]
    have qix2 : ix.Nodup := by
      rw [qix]
      exact Go.Market.nodup_map qm.1 fun x hx y hy e => by have := qm.2 x hx; have := qm.2 y hy; omega
    have qix3 : ∀ j ∈ ix, j < l.apps[w].wishes.length := fun j hj => by
      rw [qix] at hj
      obtain ⟨x, hx, rfl⟩ := List.mem_map.1 hj
      have := qm.2 x hx; omega
    have qix4 : ix.length ≤ 8 := by
      have := Go.Market.nodup_subset_length qix2 (L := List.range l.apps[w].wishes.length) fun j hj => List.mem_range.2 (qix3 j hj)
      rw [List.length_range] at this; omega
    obtain ⟨PW, qPW⟩ : ∃ PW, PW = (pickA l.apps[w] ix).wishes := ⟨_, rfl⟩
    obtain ⟨PB, qPB⟩ : ∃ PB, PB = (pickA l.apps[w] ix).bids := ⟨_, rfl⟩
    have hPWl : PW.length = A[i].length := by rw [qPW, ← qixl]; simp [pickA]
    have hPBl : PB.length = A[i].length := by rw [qPB, ← qixl]; simp [pickA]
    obtain ⟨AP, qAP⟩ : ∃ AP, AP = (toldL l w ix).apps := ⟨_, rfl⟩
    have qvT : ValidL ⟨l.stalls, AP⟩ := by rw [qAP]; exact told_valid hv hwl qix2 (by rw [hwn]; exact qix3)
    have hset : (l.apps.map A4).set w (.agg [I l.apps[w].years, I l.apps[w].token, .imm (PW.map I), .imm (PB.map I)]) = AP.map A4 := by
      rw [qAP, qPW, qPB, toldL, ← set_A4, hwn]; rfl
    have hAPl : AP.length = l.apps.length := by rw [qAP]; simp [toldL]
    have hAPt : List.take l.apps.length (AP.map A4) = AP.map A4 := List.take_of_length_le (by simp [hAPl])
    have qcl : ∀ a ∈ l.apps, a.wishes.length ≤ 1000 ∧ a.bids.length ≤ 1000 := fun a ha => by have q := hv.ap a ha; have := q.wlen; have := q.len; omega
    replace F := F.add hiA |>.add hPWl |>.add hPBl |>.add hset |>.add hAPl |>.add hAPt
    refine W.seqR ?_
    refine oN 1 ?_
    refine oC [] ?_
    refine ct (CopyLetting_ok l (by omega) (by omega) qcl) ?_
    refine oN 2 ?_
    refine oK [4, 5, 6, 8, 9, 10, 11] ?_
    refine rK [4, 5, 6, 8, 9, 10, 11, 12] ?_
    refine W.seqR ?_
    refine WOps.le (Le.loose (id := 489) (by simp [hv, h8, hs8, hc1, hn1, hw, hwl, hwn, hw8, hbl, hk, hkl, hA, hI0, hc3, hiA, hPWl, hPBl, hset, hAPl, hAPt]; rfl)) rfl rfl ?_
    refine oN 8 ?_
    refine oK [4, 5, 6, 8, 9, 10, 11, 12] ?_
    refine W.seqk fun K6 hK6 => ?_
    refine rK [4, 5, 6, 8, 9, 10, 11, 12, 13] ?_
    refine W.block ?_
    refine sno 489 w 2 9000 3 1 ?_
    refine sno 489 w 3 9008 3 1 ?_
    refine lpa (α := Nat) [4, 5, 6, 8, 9, 10, 11, 12] [77, 98, 99, 115, 116] [489, 9000, 9008] (fun k => [(13, I k)]) (fun k => [(489, .row false 37 4 ((l.apps.map A4).set w (.agg [I l.apps[w].years, I l.apps[w].token, .own 9000 0 k, .own 9008 0 k]))), (9000, .row true 3 1 ((PW.take k).map I)), (9008, .row true 3 1 ((PB.take k).map I))]) (fun k => k ≤ A[i].length) (fun k => A[i].length - k) 0 v0 ?_
    ·
     intro k hI1
     simp only [List.cons_append, List.nil_append]
     try dsimp only at hI1
     replace F := F.add hI1
     refine W.seqk fun K7 hK7 => ?_
     refine rK [4, 5, 6, 8, 9, 10, 11, 12, 13, 78] ?_
     refine it (fun hc4 => ?_) (fun hc4 => ?_)
     ·
      try simp at hc4
      replace F := F.add hc4
      refine W.skip ?_
      refine hK7 _ ?_
      clear hK7 K7
      refine W.seqk fun K8 hK8 => ?_
      refine W.block ?_
      have hkA : k < A[i].length := by omega
      have hk8 : k < 8 := by omega
      obtain ⟨j, qj⟩ : ∃ j : Nat, A[i][k] = (j : Int) := ⟨(A[i][k]).toNat, by have := qm.2 _ (List.getElem_mem hkA); omega⟩
      have hj := qj
      have hjl : j < l.apps[w].wishes.length := by have := qm.2 _ (List.getElem_mem hkA); omega
      have hjb : j < l.apps[w].bids.length := by omega
      have qj2 : ∀ h : k < ix.length, ix[k] = j := by rw [qix]; intro h; rw [List.getElem_map, qj]; rfl
      have qPWk : ∀ h : k < PW.length, PW[k] = l.apps[w].wishes[j] := by
        rw [show PW = ix.map (nth l.apps[w].wishes) from qPW]; intro h
        rw [List.getElem_map, qj2, nth_get hjl]
      have qPBk : ∀ h : k < PB.length, PB[k] = l.apps[w].bids[j] := by
        rw [show PB = ix.map (nth l.apps[w].bids) from qPB]; intro h
        rw [List.getElem_map, qj2, nth_get hjb]
      replace F := F.add hkA |>.add hk8 |>.add hj |>.add hjl |>.add hjb
      refine wDe 39 [(18, [9000]), (35, [9008]), (38, [489])] [[], [], [], [2], [2, 3], [3, 2, 4], [], [6], [], [], [9, 8], [8, 9, 10], [], [12, 10, 9, 8, 11], [11, 8, 9, 10, 12, 13], [13, 12, 10, 9, 8, 11, 14, 6, 7], [7, 6, 14, 11, 8, 9, 10, 12, 13, 15], [15, 13, 12, 10, 9, 8, 11, 14, 6, 7, 16], [16, 7, 6, 14, 11, 8, 9, 10, 12, 13, 15, 17, 4, 2, 3, 5], [], [19], [19, 20], [20, 19, 21], [], [23], [], [], [26, 25], [25, 26, 27], [], [29, 27, 26, 25, 28], [28, 25, 26, 27, 29, 30], [30, 29, 27, 26, 25, 28, 31, 23, 24], [24, 23, 31, 28, 25, 26, 27, 29, 30, 32], [32, 30, 29, 27, 26, 25, 28, 31, 23, 24, 33], [5, 3, 2, 4, 17, 15, 13, 12, 10, 9, 8, 11, 14, 6, 7, 16, 18, 33, 24, 23, 31, 28, 25, 26, 27, 29, 30, 32, 34, 21, 19, 20, 22], [34, 35, 32, 23, 24, 33, 30, 29, 31, 27, 26, 25, 28, 21, 19, 20, 22, 18, 17, 16, 15, 14, 13, 12, 11, 10, 9, 8, 7, 6, 5, 4, 3, 2, 0], [0, 2, 3, 4, 5, 6, 7, 8, 9, 10, 11, 12, 13, 14, 15, 16, 17, 18, 22, 20, 19, 21, 28, 25, 26, 27, 31, 29, 30, 33, 24, 23, 32, 35, 34, 36], [36, 34, 35, 32, 23, 24, 33, 30, 29, 31, 27, 26, 25, 28, 21, 19, 20, 22, 18, 17, 16, 15, 14, 13, 12, 11, 10, 9, 8, 7, 6, 5, 4, 3, 2, 0, 37], [38, 37, 36, 35, 34, 33, 32, 31, 30, 29, 28, 27, 26, 25, 24, 23, 22, 21, 20, 19, 18, 17, 16, 15, 14, 13, 12, 11, 10, 9, 8, 7, 6, 5, 4, 3, 2, 0, 1], [1, 0, 2, 3, 4, 5, 6, 7, 8, 9, 10, 11, 12, 13, 14, 15, 16, 17, 18, 19, 20, 21, 22, 23, 24, 25, 26, 27, 28, 29, 30, 31, 32, 33, 34, 35, 36, 37, 38, 39], [39, 38, 37, 36, 35, 34, 33, 32, 31, 30, 29, 28, 27, 26, 25, 24, 23, 22, 21, 20, 19, 18, 17, 16, 15, 14, 13, 12, 11, 10, 9, 8, 7, 6, 5, 4, 3, 2, 0, 1, 40]] ?_
      refine dN 18 21 ?_
      refine dAw [9000] ?_
      refine dN 16 4 ?_
      refine dAw [9008] ?_
      refine dN 2 1 ?_
      refine WDraw.upd hΓ [489] (by simp [hv, h8, hs8, hc1, hn1, hw, hwl, hwn, hw8, hbl, hk, hkl, hA, hI0, hc3, hiA, hPWl, hPBl, hset, hAPl, hAPt, hI1, hc4, hkA, hk8, hj, hjl, hjb]; rfl) (by first | rfl | simp) (by simp [hv, h8, hs8, hc1, hn1, hw, hwl, hwn, hw8, hbl, hk, hkl, hA, hI0, hc3, hiA, hPWl, hPBl, hset, hAPl, hAPt, hI1, hc4, hkA, hk8, hj, hjl, hjb]; first | rfl | exact ⟨rfl, rfl⟩) (by simp [hv, h8, hs8, hc1, hn1, hw, hwl, hwn, hw8, hbl, hk, hkl, hA, hI0, hc3, hiA, hPWl, hPBl, hset, hAPl, hAPt, hI1, hc4, hkA, hk8, hj, hjl, hjb]; first | done | rfl) (.inr (by simp)) (by simp [hv, h8, hs8, hc1, hn1, hw, hwl, hwn, hw8, hbl, hk, hkl, hA, hI0, hc3, hiA, hPWl, hPBl, hset, hAPl, hAPt, hI1, hc4, hkA, hk8, hj, hjl, hjb]; rfl) ?_
      refine dD ?_
      refine WOps.le Le.dedup rfl rfl ?_
      refine WOps.norm (by simp [hv, h8, hs8, hc1, hn1, hw, hwl, hwn, hw8, hbl, hk, hkl, hA, hI0, hc3, hiA, hPWl, hPBl, hset, hAPl, hAPt, hI1, hc4, hkA, hk8, hj, hjl, hjb]; rfl) ?_
      refine oN 3 ?_
      refine WOps.endK ?_
      refine hK8 _ ?_
      clear hK8 K8
      refine W.region ?_
      refine WOps.le (Le.exch (x := 792) (y := 9000) (by simp [hv, h8, hs8, hc1, hn1, hw, hwl, hwn, hw8, hbl, hk, hkl, hA, hI0, hc3, hiA, hPWl, hPBl, hset, hAPl, hAPt, hI1, hc4, hkA, hk8, hj, hjl, hjb]; rfl)) rfl rfl ?_
      refine WOps.le (Le.exch (x := 928) (y := 9008) (by simp [hv, h8, hs8, hc1, hn1, hw, hwl, hwn, hw8, hbl, hk, hkl, hA, hI0, hc3, hiA, hPWl, hPBl, hset, hAPl, hAPt, hI1, hc4, hkA, hk8, hj, hjl, hjb]; rfl)) rfl rfl ?_
      refine oNw 3 ?_
      refine WOps.endK ?_
      refine ⟨k + 1, lf ?_ ?_, v0, v0⟩
      ·
       exact v1
      ·
       try (simp [Fx.get F])
       all_goals (
        rw [List.take_succ_eq_append_getElem (show k < PW.length by omega), List.take_succ_eq_append_getElem (show k < PB.length by omega), List.map_append, List.map_append, qPWk, qPBk]; exact ⟨rfl, rfl⟩
       )
     ·
      try simp at hc4
      replace F := F.add hc4
      refine W.exit ?_
      refine hK6 _ ?_
      clear hK7 K7 hK6 K6
      have hkk : k = A[i].length := by omega
      have hPWt : List.take A[i].length PW = PW := List.take_of_length_le (by omega)
      have hPBt : List.take A[i].length PB = PB := List.take_of_length_le (by omega)
      replace F := F.add hkk |>.add hPWt |>.add hPBt
      refine W.seqR ?_
      refine fz 9000 ?_
      refine fz 9008 ?_
      refine WOps.le (Le.tight (id := 489) (by simp [hv, h8, hs8, hc1, hn1, hw, hwl, hwn, hw8, hbl, hk, hkl, hA, hI0, hc3, hiA, hPWl, hPBl, hset, hAPl, hAPt, hI1, hc4, hkk, hPWt, hPBt]; rfl)) rfl rfl ?_
      refine fz 489 ?_
      refine fz 488 ?_
      refine oN 1 ?_
      refine oC [] ?_
      refine CallT.mkE (Let_ok ⟨l.stalls, AP⟩ qvT) (fun z123 hz123 => ⟨(by simp [hv, h8, hs8, hc1, hn1, hw, hwl, hwn, hw8, hbl, hk, hkl, hA, hI0, hc3, hiA, hPWl, hPBl, hset, hAPl, hAPt, hI1, hc4, hkk, hPWt, hPBt]), ?_⟩)
      have hyl : z123.length = l.stalls.length := hz123.len
      have qtr : placeL l z32 w ≤ placeL l z123 w := truthL hv hwl qix2 (by rw [hwn]; exact qix3) hz32 (by rw [show toldL l w ix = (⟨l.stalls, AP⟩ : Lett) from (by rw [qAP]; rfl)]; exact hz123)
      have htr : ¬ placeL l z123 w < placeL l z32 w := Nat.not_lt.2 qtr
      replace F := F.add hyl |>.add htr
      refine WOps.norm (by simp [hv, h8, hs8, hc1, hn1, hw, hwl, hwn, hw8, hbl, hk, hkl, hA, hI0, hc3, hiA, hPWl, hPBl, hset, hAPl, hAPt, hI1, hc4, hkk, hPWt, hPBt, hyl, htr]; rfl) ?_
      refine oN 5 ?_
      refine oK [4, 5, 6, 8, 9, 10, 14, 15] ?_
      refine wD 18 [] [[], [0], [0, 1], [1, 0, 2], [2, 0, 1, 3], [1, 0, 2], [2, 0, 1, 5], [5, 1, 0, 2, 6], [6, 5, 7, 3, 1, 0, 2, 4], [4, 3, 7, 5, 6, 8, 1, 0, 2], [2, 0, 1, 8, 6, 5, 7, 3, 4, 9], [9, 4, 3, 7, 5, 6, 8, 1, 0, 2, 10], [9, 4, 3, 7, 5, 6, 8, 1, 0, 2, 10], [9, 4, 3, 7, 5, 6, 8, 1, 0, 2, 10], [13, 12, 10, 2, 0, 1, 8, 6, 5, 7, 3, 4, 9, 11], [9, 4, 3, 7, 5, 6, 8, 1, 0, 2, 10], [9, 4, 3, 7, 5, 6, 8, 1, 0, 2, 10], [9, 4, 3, 7, 5, 6, 8, 1, 0, 2, 10], [11, 12, 13, 14, 17, 16, 10, 2, 0, 1, 8, 6, 5, 7, 3, 4, 9, 15], [15, 16, 17, 18, 11, 9, 4, 3, 7, 5, 6, 8, 1, 0, 2, 10, 12, 13, 14], [14, 13, 12, 11, 18, 17, 16, 15, 19, 9, 4, 3, 7, 5, 6, 8, 1, 0, 2, 10]] ?_
      refine dN 3 15 ?_
      refine dT ?_
      refine dT ?_
      refine dT ?_
      refine dT ?_
      refine dT ?_
      refine dT ?_
      refine dN 2 7 ?_
      refine dT ?_
      refine dT ?_
      refine dT ?_
      refine dG [] ?_
      refine cd (Place_ok l z123 w hwl) ?_
      refine dT ?_
      refine dT ?_
      refine dT ?_
      refine dD ?_
      refine gC [] ?_
      refine ct (Place_ok l z32 w hwl) ?_
      refine gT ?_
      refine oN 1 ?_
      refine oK [4, 5, 6, 8, 9, 10, 146] ?_
      refine cF ?_
      refine W.skip ?_
      refine hK5 _ ?_
      clear hK5 K5
      refine rEw ?_
      refine ⟨i + 1, lf0, v0, v0⟩
   ·
    try simp at hc3
    replace F := F.add hc3
    refine W.exit ?_
    refine hK3 _ ?_
    clear hK4 K4 hK3 K3
    refine W.seqR ?_
    refine oC [] ?_
    refine ct (awake_ok) ?_
    refine oN 1 ?_
    refine oK [2] ?_
    refine W.ret ?_
    exact er0 false [] []
end Go.Sim
