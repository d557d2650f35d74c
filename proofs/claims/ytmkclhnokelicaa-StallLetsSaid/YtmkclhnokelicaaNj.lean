/- Who gets what, who envies whom, what is paid: the law answers true. -/
import Derived.Test.YtmkclhnokelicaaNh
namespace Go.Sim
open Go.Proofs
set_option maxRecDepth 100000
set_option linter.unusedSimpArgs false
set_option linter.unusedVariables false
attribute [-simp] List.map_set List.map_take List.map_drop
def Small (l : Lett) : Prop := l.stalls.length ≤ 15 ∧ l.apps.length ≤ 15 ∧ ∀ a ∈ l.apps, a.wishes.length ≤ 15 ∧ a.bids.length ≤ 15
theorem small_of {l : Lett} (h : wideB l = false) : Small l := by
  rw [wideB, Bool.or_eq_false_iff, Bool.or_eq_false_iff, decide_eq_false_iff_not, decide_eq_false_iff_not] at h
  refine ⟨by omega, by omega, fun a ha => ?_⟩
  have := List.any_eq_false.1 h.1 a ha
  rw [wideA, Bool.not_eq_true, Bool.or_eq_false_iff, decide_eq_false_iff_not, decide_eq_false_iff_not] at this
  omega
theorem small_made {l : Lett} (hv : ValidL l) : Small l := by
  refine ⟨by have := hv.s8; omega, by have := hv.a8; omega, fun a ha => ?_⟩
  have k := hv.ap a ha
  have := k.wlen
  have := k.len
  have := hv.s8
  omega
theorem small_set {l : Lett} (h : Small l) {w : Nat} {a : App} (h1 : a.wishes.length ≤ 15) (h2 : a.bids.length ≤ 15) : Small ⟨l.stalls, l.apps.set w a⟩ := by
  refine ⟨h.1, by rw [List.length_set]; exact h.2.1, fun x hx => ?_⟩
  rcases List.mem_or_eq_of_mem_set hx with hx | rfl
  · exact h.2.2 x hx
  · exact ⟨h1, h2⟩
theorem bring_range (x : Int) {n : Int} (hn : 0 < n) : 0 ≤ bring x n ∧ bring x n < n := by
  unfold bring
  split
  · omega
  · have h1 := Int.lt_tmod_of_pos x hn
    have h2 := Int.tmod_lt_of_pos x hn
    split <;> omega
set_option maxHeartbeats 4000000 in
theorem StallLets_ok (l0 : Lett) (h0 : List Int) (n0 at0 : Int) (nums : List Int) : ACalls Try.prog 8 [letV l0, ints h0, I n0, I at0, ints nums] [] (fun r o => r = B true ∧ o = []) := by
 have F := Fx.nil
 refine ent Try.func8 Try.ntmps8 Try.results8 ?_
 refine rK [1, 2, 3, 4, 5] ?_
 refine W.seqk fun K1 hK1 => ?_
 by_cases hwl : wideB l0 = true
 ·
  replace F := F.add hwl
  refine W.seqR ?_
  refine oN 1 ?_
  refine oC [] ?_
  refine ct (wide_ok _) ?_
  refine oN 1 ?_
  refine gF ?_
  refine gF ?_
  refine gF ?_
  refine oN 1 ?_
  refine oK [1, 2, 3, 4, 5, 39] ?_
  refine cT ?_
  refine W.seqR ?_
  refine oC [] ?_
  refine ct (awake_ok) ?_
  refine oN 1 ?_
  refine oK [10] ?_
  refine W.ret ?_
  refine tr ?_
  clear hK1 K1
  refine er false [] [] ?_
  exact ⟨rfl, rfl⟩
 ·
  replace F := F.add hwl
  by_cases hwh : 20 < h0.length
  ·
   replace F := F.add hwh
   have hwh2 : (20 : Int) < (h0.length : Int) := by omega
   replace F := F.add hwh2
   refine W.seqR ?_
   refine oN 1 ?_
   refine oC [] ?_
   refine ct (wide_ok _) ?_
   refine oN 1 ?_
   refine gT ?_
   refine gT ?_
   refine gT ?_
   refine oN 1 ?_
   refine oK [1, 2, 3, 4, 5, 39] ?_
   refine cT ?_
   refine W.seqR ?_
   refine oC [] ?_
   refine ct (awake_ok) ?_
   refine oN 1 ?_
   refine oK [10] ?_
   refine W.ret ?_
   refine tr ?_
   clear hK1 K1
   refine er false [] [] ?_
   exact ⟨rfl, rfl⟩
  ·
   replace F := F.add hwh
   have hwh2 : ¬ (20 : Int) < (h0.length : Int) := by omega
   have hwh3 : (h0.length : Int) ≤ 20 := by omega
   replace F := F.add hwh2 |>.add hwh3
   refine W.seqR ?_
   refine oN 1 ?_
   refine oC [] ?_
   refine ct (wide_ok _) ?_
   refine oN 1 ?_
   refine gT ?_
   refine gT ?_
   refine gT ?_
   refine oN 1 ?_
   refine oK [1, 2, 3, 4, 5, 39] ?_
   refine cF ?_
   refine W.skip ?_
   refine hK1 _ ?_
   clear hK1 K1
   have qs0 : Small l0 := small_of (by simpa using hwl)
   refine W.seqR ?_
   refine oN 1 ?_
   refine oC [] ?_
   refine ct (DieOf_ok _) ?_
   refine oN 1 ?_
   refine oK [1, 2, 3, 5, 11] ?_
   refine W.seqR ?_
   refine oN 1 ?_
   refine oC [(10000, 336)] ?_
   refine CallT.mkE (LettingOf_ok _ 6 6 (by omega) (by omega) (by omega)) (fun z44 hz44 => ⟨(by simp [hwl, hwh, hwh2, hwh3]), ?_⟩)
   obtain ⟨l, fd⟩ := z44
   have qmade : MadeL l 6 6 := hz44
   have hv : ValidL l := qmade.ok
   have h8 := hv.a8
   have hs8 := hv.s8
   have hs0 := hv.s0
   replace F := F.add hv |>.add h8 |>.add hs8 |>.add hs0
   refine WOps.norm (by simp [hwl, hwh, hwh2, hwh3, hv, h8, hs8, hs0]; rfl) ?_
   refine oN 2 ?_
   refine oK [1, 2, 3, 5, 11, 12] ?_
   refine W.seqR ?_
   refine fz 352 ?_
   refine fz 353 ?_
   refine oN 1 ?_
   refine oC [] ?_
   refine CallT.mkE (rLet_ok l hv) (fun z47 hz47 => ⟨(by simp [hwl, hwh, hwh2, hwh3, hv, h8, hs8, hs0]), ?_⟩)
   obtain ⟨z, qz⟩ : ∃ z, z = z47 := ⟨_, rfl⟩
   have hz := qz.symm
   have hzl : z.length = l.stalls.length := by rw [qz]; exact hz47.len
   have qbr := bring_range at0 (n := (l.stalls.length : Int)) (by omega)
   obtain ⟨w, qw⟩ : ∃ w : Nat, bring at0 (l.stalls.length : Int) = (w : Int) := ⟨(bring at0 (l.stalls.length : Int)).toNat, by omega⟩
   have hw := qw
   have hwz : w < l.stalls.length := by omega
   have hwz2 : w < z.length := by omega
   replace F := F.add hz |>.add hzl |>.add hw |>.add hwz |>.add hwz2
   refine WOps.norm (by simp [hwl, hwh, hwh2, hwh3, hv, h8, hs8, hs0, hz, hzl, hw, hwz, hwz2]; rfl) ?_
   refine oN 5 ?_
   refine oK [1, 2, 3, 5, 11, 12, 13] ?_
   refine W.seqR ?_
   refine oN 1 ?_
   refine oC [] ?_
   refine ct (CopyInts_ok z (by omega)) ?_
   refine oN 1 ?_
   refine oK [1, 2, 3, 5, 11, 12, 13, 15] ?_
   obtain ⟨v, qv⟩ : ∃ v, oneV (castF fd (l.apps.length : Int)) [n0, -1, castV fd (l.apps.length : Int)] = v := ⟨_, rfl⟩
   have hvv := qv
   obtain ⟨LS, qLS⟩ : ∃ LS, LS = [l0, l, l, l] := ⟨_, rfl⟩
   have qLS2 : [letV l0, letV l, letV l, letV l] = LS.map letV := by rw [qLS]; rfl
   have hLSl : LS.length = 4 := by rw [qLS]; rfl
   have qsm : ∀ x ∈ LS, Small x := fun x hx => by
     rw [qLS] at hx
     simp only [List.mem_cons, List.not_mem_nil, or_false] at hx
     rcases hx with rfl | rfl | rfl | rfl
     · exact qs0
     · exact small_made hv
     · exact small_made hv
     · exact small_made hv
   obtain ⟨HS, qHS⟩ : ∃ HS, HS = [h0, z, z.set w v, h0] := ⟨_, rfl⟩
   have qHS2 : [ints h0, ints z, ints (z.set w v), ints h0] = HS.map ints := by rw [qHS]; rfl
   have hHSl : HS.length = 4 := by rw [qHS]; rfl
   have qhm : ∀ x ∈ HS, x.length ≤ 20 := fun x hx => by
     rw [qHS] at hx
     simp only [List.mem_cons, List.not_mem_nil, or_false] at hx
     rcases hx with rfl | rfl | rfl | rfl
     · omega
     · omega
     · rw [List.length_set]; omega
     · omega
   have hZt : List.take l.stalls.length ((z.set w v).map I) = (z.set w v).map I := List.take_of_length_le (by rw [List.length_map, List.length_set]; omega)
   replace F := F.add hvv |>.add hLSl |>.add hHSl |>.add hZt
   refine wD 14 [(11, [336]), (13, [336])] [[], [], [], [2], [2, 3, 1], [], [], [], [], [8], [8, 9], [1, 3, 2, 4, 9, 8, 10, 7], [7, 10, 8, 9, 4, 2, 3, 1, 11, 6], [6, 11, 1, 3, 2, 4, 9, 8, 10, 7, 12, 5], [13, 12, 11, 10, 9, 8, 7, 6, 5, 1, 3, 2, 4, 0], [0, 4, 2, 3, 1, 5, 6, 7, 8, 9, 10, 11, 12, 13, 14]] ?_
   refine dN 4 10 ?_
   refine dC [] ?_
   refine cd (Bring_ok at0 (l.stalls.length : Int) (by omega)) ?_
   refine dN 6 3 ?_
   refine dC [(10000, 336)] ?_
   refine cd (Cast_ok fd (l.apps.length : Int) (by omega)) ?_
   refine dN 1 1 ?_
   refine dC [(10000, 336)] ?_
   refine cd (One_ok (castF fd (l.apps.length : Int)) [n0, -1, castV fd (l.apps.length : Int)] (by simp)) ?_
   refine dD ?_
   refine oN 2 ?_
   refine oK [1, 5, 12, 13, 15] ?_
   refine W.seqR ?_
   refine fz 408 ?_
   refine oN 12 ?_
   refine oK [16, 17] ?_
   refine W.seqk fun K2 hK2 => ?_
   have hLS := qLS2
   have hHS := qHS2
   replace F := F.add hLS |>.add hHS
   refine rK [16, 17, 18] ?_
   refine W.block ?_
   refine lpa (α := Nat) [16, 17] [19, 79, 87, 92, 95, 103, 109, 121, 127, 139, 158, 167, 173, 179, 185, 193, 201] [336, 568, 608] (fun i => [(18, I i)]) (fun i => [(336, die (oneF (castF fd (l.apps.length : Int)) [n0, -1, castV fd (l.apps.length : Int)])), (568, .row true 28 2 (LS.map letV)), (608, .row true 22 1 (HS.map ints))]) (fun i => i ≤ 4) (fun i => 4 - i) 0 v0 ?_
   ·
    intro i hI0
    simp only [List.cons_append, List.nil_append]
    try dsimp only at hI0
    replace F := F.add hI0
    refine W.seqk fun K3 hK3 => ?_
    refine rK [16, 17, 18, 80] ?_
    refine it (fun hc4 => ?_) (fun hc4 => ?_)
    ·
     try simp at hc4
     replace F := F.add hc4
     refine W.skip ?_
     refine hK3 _ ?_
     clear hK3 K3
     refine W.seqk fun K4 hK4 => ?_
     refine W.block ?_
     have hi4 : i < 4 := by omega
     have hiL : i < LS.length := by omega
     have hiH : i < HS.length := by omega
     have qsi := qsm _ (List.getElem_mem hiL)
     have qhi := qhm _ (List.getElem_mem hiH)
     obtain ⟨L, qL⟩ : ∃ L, L = LS[i] := ⟨_, rfl⟩
     have hL := qL.symm
     have qsL : Small L := by rw [qL]; exact qsi
     obtain ⟨H, qH⟩ : ∃ H, H = HS[i] := ⟨_, rfl⟩
     have hH := qH.symm
     have hHl : H.length ≤ 20 := by rw [qH]; exact qhi
     replace F := F.add hi4 |>.add hiL |>.add hiH |>.add hL |>.add hH |>.add hHl
     refine wD 11 [] [[], [], [1, 0], [0, 1, 2], [2, 1, 0, 3], [], [], [6, 5], [5, 6, 7], [3, 0, 1, 2, 4, 7, 6, 5, 8], [], [8, 5, 6, 7, 9, 3, 0, 1, 2, 4, 10], [10, 11, 8, 5, 6, 7, 4, 2, 1, 0, 3, 9]] ?_
     refine dN 4 7 ?_
     refine dC [] ?_
     refine cd (CopyLetting_ok L (by have := qsL.1; omega) (by have := qsL.2.1; omega) (fun a ha => by have := qsL.2.2 a ha; omega)) ?_
     refine dN 4 2 ?_
     refine dC [] ?_
     refine cd (CopyInts_ok H (by omega)) ?_
     refine dN 1 0 ?_
     refine dD ?_
     refine oN 2 ?_
     refine oK [16, 17, 18, 19, 20] ?_
     refine W.seqR ?_
     refine fz 696 ?_
     refine fz 697 ?_
     refine fz 736 ?_
     refine oN 1 ?_
     refine oC [] ?_
     refine CallT.mkE (LetA_ok L) (fun z95 hz95 => ⟨(by simp [hwl, hwh, hwh2, hwh3, hv, h8, hs8, hs0, hz, hzl, hw, hwz, hwz2, hvv, hLSl, hHSl, hZt, hLS, hHS, hI0, hc4, hi4, hiL, hiH, hL, hH, hHl]), ?_⟩)
     refine WOps.norm (by simp [hwl, hwh, hwh2, hwh3, hv, h8, hs8, hs0, hz, hzl, hw, hwz, hwz2, hvv, hLSl, hHSl, hZt, hLS, hHS, hI0, hc4, hi4, hiL, hiH, hL, hH, hHl]; rfl) ?_
     refine oN 5 ?_
     refine oK [16, 17, 18, 19, 20, 21, 22] ?_
     refine W.seqR ?_
     refine oN 4 ?_
     refine oC [] ?_
     refine CallT.mkE (rLetA_ok L) (fun z103 hz103 => ⟨(by simp [hwl, hwh, hwh2, hwh3, hv, h8, hs8, hs0, hz, hzl, hw, hwz, hwz2, hvv, hLSl, hHSl, hZt, hLS, hHS, hI0, hc4, hi4, hiL, hiH, hL, hH, hHl]), ?_⟩)
     have hab : z103 = z95 := hz103.one hz95
     replace F := F.add hab
     refine WOps.norm (by simp [hwl, hwh, hwh2, hwh3, hv, h8, hs8, hs0, hz, hzl, hw, hwz, hwz2, hvv, hLSl, hHSl, hZt, hLS, hHS, hI0, hc4, hi4, hiL, hiH, hL, hH, hHl, hab]; rfl) ?_
     refine oN 5 ?_
     refine oK [16, 17, 18, 19, 20, 21, 22, 23, 24] ?_
     refine W.seqR ?_
     refine oN 2 ?_
     refine oC [] ?_
     refine ct (EnvA_ok L H) ?_
     refine oN 5 ?_
     refine oK [16, 17, 18, 19, 20, 21, 22, 23, 24, 25, 26] ?_
     refine wD 13 [] [[], [], [1, 0], [0, 1, 2], [], [], [5, 4], [4, 5, 6], [6, 5, 4, 7, 2, 1, 0, 3], [3, 0, 1, 2, 7, 4, 5, 6, 8], [8, 6, 5, 4, 7, 2, 1, 0, 3, 9], [8, 6, 5, 4, 7, 2, 1, 0, 3, 9], [9, 3, 0, 1, 2, 7, 4, 5, 6, 8, 10], [10, 12, 9, 3, 0, 1, 2, 7, 4, 5, 6, 8, 11]] ?_
     refine dN 8 5 ?_
     refine dC [] ?_
     refine cd (rEnvA_ok L H) ?_
     refine dN 4 0 ?_
     refine dD ?_
     refine oN 1 ?_
     refine oK [16, 17, 18, 19, 20, 21, 22, 23, 24, 25, 26, 27, 28] ?_
     refine W.seqR ?_
     refine oN 2 ?_
     refine oC [] ?_
     refine ct (RentA_ok L H) ?_
     refine oN 5 ?_
     refine oK [16, 17, 18, 19, 20, 21, 22, 23, 24, 25, 26, 27, 28, 29, 30] ?_
     refine wD 13 [] [[], [], [1, 0], [0, 1, 2], [], [], [5, 4], [4, 5, 6], [6, 5, 4, 7, 2, 1, 0, 3], [3, 0, 1, 2, 7, 4, 5, 6, 8], [8, 6, 5, 4, 7, 2, 1, 0, 3, 9], [8, 6, 5, 4, 7, 2, 1, 0, 3, 9], [9, 3, 0, 1, 2, 7, 4, 5, 6, 8, 10], [10, 12, 9, 3, 0, 1, 2, 7, 4, 5, 6, 8, 11]] ?_
     refine dN 8 5 ?_
     refine dC [] ?_
     refine cd (rRentA_ok L H) ?_
     refine dN 4 0 ?_
     refine dD ?_
     refine oN 1 ?_
     refine oK [16, 17, 18, 19, 20, 21, 22, 23, 24, 25, 26, 27, 28, 29, 30, 31, 32] ?_
     refine W.seqk fun K5 hK5 => ?_
     refine wD 43 [] [[], [], [1, 0], [0, 1, 2], [2, 1, 0, 3], [2, 1, 0, 3], [5, 3, 0, 1, 2, 4], [4, 5, 6, 2, 1, 0, 3], [3, 0, 1, 2, 6, 5, 4, 7], [7, 4, 5, 6, 2, 1, 0, 3, 8], [7, 4, 5, 6, 2, 1, 0, 3, 8], [10, 8, 3, 0, 1, 2, 6, 5, 4, 7, 9], [9, 10, 11, 7, 4, 5, 6, 2, 1, 0, 3, 8], [8, 3, 0, 1, 2, 6, 5, 4, 7, 11, 10, 9, 12], [12, 9, 10, 11, 7, 4, 5, 6, 2, 1, 0, 3, 8, 13], [12, 9, 10, 11, 7, 4, 5, 6, 2, 1, 0, 3, 8, 13], [15, 13, 8, 3, 0, 1, 2, 6, 5, 4, 7, 11, 10, 9, 12, 14], [12, 9, 10, 11, 7, 4, 5, 6, 2, 1, 0, 3, 8, 13], [12, 9, 10, 11, 7, 4, 5, 6, 2, 1, 0, 3, 8, 13], [18, 13, 8, 3, 0, 1, 2, 6, 5, 4, 7, 11, 10, 9, 12, 17], [17, 12, 9, 10, 11, 7, 4, 5, 6, 2, 1, 0, 3, 8, 13, 18, 19], [12, 9, 10, 11, 7, 4, 5, 6, 2, 1, 0, 3, 8, 13], [12, 9, 10, 11, 7, 4, 5, 6, 2, 1, 0, 3, 8, 13], [22, 13, 8, 3, 0, 1, 2, 6, 5, 4, 7, 11, 10, 9, 12, 21], [21, 12, 9, 10, 11, 7, 4, 5, 6, 2, 1, 0, 3, 8, 13, 22, 23], [14, 15, 16, 23, 22, 21, 24, 19, 18, 13, 8, 3, 0, 1, 2, 6, 5, 4, 7, 11, 10, 9, 12, 17, 20], [20, 17, 18, 19, 24, 21, 22, 23, 25, 14, 12, 9, 10, 11, 7, 4, 5, 6, 2, 1, 0, 3, 8, 13, 15, 16], [16, 15, 14, 25, 23, 22, 21, 24, 19, 18, 17, 20, 26, 12, 9, 10, 11, 7, 4, 5, 6, 2, 1, 0, 3, 8, 13], [13, 8, 3, 0, 1, 2, 6, 5, 4, 7, 11, 10, 9, 12, 26, 20, 17, 18, 19, 24, 21, 22, 23, 25, 14, 15, 16, 27], [27, 16, 15, 14, 25, 23, 22, 21, 24, 19, 18, 17, 20, 26, 12, 9, 10, 11, 7, 4, 5, 6, 2, 1, 0, 3, 8, 13, 28], [27, 16, 15, 14, 25, 23, 22, 21, 24, 19, 18, 17, 20, 26, 12, 9, 10, 11, 7, 4, 5, 6, 2, 1, 0, 3, 8, 13, 28], [30, 28, 13, 8, 3, 0, 1, 2, 6, 5, 4, 7, 11, 10, 9, 12, 26, 20, 17, 18, 19, 24, 21, 22, 23, 25, 14, 15, 16, 27, 29], [29, 27, 16, 15, 14, 25, 23, 22, 21, 24, 19, 18, 17, 20, 26, 12, 9, 10, 11, 7, 4, 5, 6, 2, 1, 0, 3, 8, 13, 28, 30, 31], [31, 30, 29, 32, 27, 16, 15, 14, 25, 23, 22, 21, 24, 19, 18, 17, 20, 26, 12, 9, 10, 11, 7, 4, 5, 6, 2, 1, 0, 3, 8, 13, 28], [28, 13, 8, 3, 0, 1, 2, 6, 5, 4, 7, 11, 10, 9, 12, 26, 20, 17, 18, 19, 24, 21, 22, 23, 25, 14, 15, 16, 27, 32, 29, 30, 31, 33], [33, 31, 30, 29, 32, 27, 16, 15, 14, 25, 23, 22, 21, 24, 19, 18, 17, 20, 26, 12, 9, 10, 11, 7, 4, 5, 6, 2, 1, 0, 3, 8, 13, 28, 34], [33, 31, 30, 29, 32, 27, 16, 15, 14, 25, 23, 22, 21, 24, 19, 18, 17, 20, 26, 12, 9, 10, 11, 7, 4, 5, 6, 2, 1, 0, 3, 8, 13, 28, 34], [36, 34, 28, 13, 8, 3, 0, 1, 2, 6, 5, 4, 7, 11, 10, 9, 12, 26, 20, 17, 18, 19, 24, 21, 22, 23, 25, 14, 15, 16, 27, 32, 29, 30, 31, 33, 35], [35, 33, 31, 30, 29, 32, 27, 16, 15, 14, 25, 23, 22, 21, 24, 19, 18, 17, 20, 26, 12, 9, 10, 11, 7, 4, 5, 6, 2, 1, 0, 3, 8, 13, 28, 34, 36, 37], [37, 36, 35, 38, 33, 31, 30, 29, 32, 27, 16, 15, 14, 25, 23, 22, 21, 24, 19, 18, 17, 20, 26, 12, 9, 10, 11, 7, 4, 5, 6, 2, 1, 0, 3, 8, 13, 28, 34], [34, 28, 13, 8, 3, 0, 1, 2, 6, 5, 4, 7, 11, 10, 9, 12, 26, 20, 17, 18, 19, 24, 21, 22, 23, 25, 14, 15, 16, 27, 32, 29, 30, 31, 33, 38, 35, 36, 37, 39], [39, 37, 36, 35, 38, 33, 31, 30, 29, 32, 27, 16, 15, 14, 25, 23, 22, 21, 24, 19, 18, 17, 20, 26, 12, 9, 10, 11, 7, 4, 5, 6, 2, 1, 0, 3, 8, 13, 28, 34, 40], [39, 37, 36, 35, 38, 33, 31, 30, 29, 32, 27, 16, 15, 14, 25, 23, 22, 21, 24, 19, 18, 17, 20, 26, 12, 9, 10, 11, 7, 4, 5, 6, 2, 1, 0, 3, 8, 13, 28, 34, 40], [42, 40, 34, 28, 13, 8, 3, 0, 1, 2, 6, 5, 4, 7, 11, 10, 9, 12, 26, 20, 17, 18, 19, 24, 21, 22, 23, 25, 14, 15, 16, 27, 32, 29, 30, 31, 33, 38, 35, 36, 37, 39, 41], [41, 39, 37, 36, 35, 38, 33, 31, 30, 29, 32, 27, 16, 15, 14, 25, 23, 22, 21, 24, 19, 18, 17, 20, 26, 12, 9, 10, 11, 7, 4, 5, 6, 2, 1, 0, 3, 8, 13, 28, 34, 40, 42, 43], [43, 42, 41, 44, 39, 37, 36, 35, 38, 33, 31, 30, 29, 32, 27, 16, 15, 14, 25, 23, 22, 21, 24, 19, 18, 17, 20, 26, 12, 9, 10, 11, 7, 4, 5, 6, 2, 1, 0, 3, 8, 13, 28, 34, 40]] ?_
     refine dN 4 39 ?_
     refine dT ?_
     refine dT ?_
     refine dT ?_
     refine dN 2 34 ?_
     refine dT ?_
     refine dT ?_
     refine dT ?_
     refine dN 2 29 ?_
     refine dT ?_
     refine dT ?_
     refine dG [] ?_
     refine cd (CheckHolders_ok L H) ?_
     refine dT ?_
     refine dT ?_
     refine dT ?_
     refine dT ?_
     refine dT ?_
     refine dT ?_
     refine dT ?_
     refine dT ?_
     refine dG [] ?_
     refine cd (rCheckHolders_ok L H) ?_
     refine dT ?_
     refine dN 2 14 ?_
     refine dT ?_
     refine dT ?_
     refine dG [] ?_
     refine cd (SameInts_ok z95 z95) ?_
     refine dT ?_
     refine dN 2 8 ?_
     refine dT ?_
     refine dT ?_
     refine dG [] ?_
     refine cd (SameEnvies_ok (envA L H) (envA L H)) ?_
     refine dT ?_
     refine dN 2 2 ?_
     refine dT ?_
     refine dT ?_
     refine dD ?_
     refine gC [] ?_
     refine ct (SameInts_ok (rentA L H) (rentA L H)) ?_
     refine gT ?_
     refine oN 1 ?_
     refine oK [16, 17, 18, 19, 20, 187] ?_
     refine cF ?_
     refine W.skip ?_
     refine hK5 _ ?_
     clear hK5 K5
     refine wD 13 [] [[], [], [], [2, 1], [1, 2, 3], [3, 2, 1, 4, 0], [0, 4, 1, 2, 3, 5], [5, 3, 2, 1, 4, 0, 6], [6, 0, 4, 1, 2, 3, 5, 7], [6, 0, 4, 1, 2, 3, 5, 7], [6, 0, 4, 1, 2, 3, 5, 7], [10, 7, 5, 3, 2, 1, 4, 0, 6, 9], [9, 6, 0, 4, 1, 2, 3, 5, 7, 10, 11], [11, 10, 9, 12, 7, 5, 3, 2, 1, 4, 0, 6, 8], [8, 6, 0, 4, 1, 2, 3, 5, 7, 12, 9, 10, 11, 13], [13, 11, 10, 9, 12, 8, 14, 6, 0, 4, 1, 2, 3, 5, 7]] ?_
     refine dN 5 8 ?_
     refine dC [] ?_
     refine cd (SameLettings_ok L L) ?_
     refine dN 2 5 ?_
     refine dT ?_
     refine dT ?_
     refine dT ?_
     refine dT ?_
     refine dT ?_
     refine dD ?_
     refine gC [] ?_
     refine ct (SameInts_ok H H) ?_
     refine gT ?_
     refine oN 1 ?_
     refine oK [16, 17, 18, 203] ?_
     refine cF ?_
     refine W.skip ?_
     refine hK4 _ ?_
     clear hK4 K4
     refine rEw ?_
     refine ⟨i + 1, lf0, v0, v0⟩
    ·
     try simp at hc4
     replace F := F.add hc4
     refine W.exit ?_
     refine hK2 _ ?_
     clear hK3 K3 hK2 K2
     refine W.seqR ?_
     refine oC [] ?_
     refine ct (awake_ok) ?_
     refine oN 1 ?_
     refine oK [10] ?_
     refine W.ret ?_
     refine er false [] [] ?_
     exact ⟨rfl, rfl⟩
end Go.Sim
