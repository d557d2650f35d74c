/- Lettings that may be, the draw, who is ahead: the law answers true. -/
import Derived.Test.YtmkclhnokelicaaNg
import Derived.Test.YtmkclhnokelicaaNb
namespace Go.Sim
open Go.Proofs
set_option maxRecDepth 100000
set_option linter.unusedSimpArgs false
set_option linter.unusedVariables false
attribute [-simp] List.map_set List.map_take List.map_drop
/-- not more than the statements go through -/
def Small (l : Lett) : Prop := l.stalls.length ≤ 15 ∧ l.apps.length ≤ 15 ∧ ∀ a ∈ l.apps, a.wishes.length ≤ 15 ∧ a.bids.length ≤ 15
theorem small_of {l : Lett} (h : wideB l = false) : Small l := by
  rw [wideB, Bool.or_eq_false_iff, Bool.or_eq_false_iff, decide_eq_false_iff_not, decide_eq_false_iff_not] at h
  refine ⟨by omega, by omega, fun a ha => ?_⟩
  have := List.any_eq_false.1 h.1 a ha
  rw [wideA, Bool.not_eq_true, Bool.or_eq_false_iff, decide_eq_false_iff_not, decide_eq_false_iff_not] at this
  omega
theorem small_made {l : Lett} (hv : ValidL l) : Small l := by
  refine ⟨by have := hv.s8; omega, by have := hv.a8; omega, fun a ha => ?_⟩
  have k := hv.ap a ha
  have := k.wlen
  have := k.len
  have := hv.s8
  omega
theorem small_set {l : Lett} (h : Small l) {w : Nat} {a : App} (h1 : a.wishes.length ≤ 15) (h2 : a.bids.length ≤ 15) : Small ⟨l.stalls, l.apps.set w a⟩ := by
  refine ⟨h.1, by rw [List.length_set]; exact h.2.1, fun x hx => ?_⟩
  rcases List.mem_or_eq_of_mem_set hx with hx | rfl
  · exact h.2.2 x hx
  · exact ⟨h1, h2⟩
theorem bring_range (x : Int) {n : Int} (hn : 0 < n) : 0 ≤ bring x n ∧ bring x n < n := by
  unfold bring
  split
  · omega
  · have h1 := Int.lt_tmod_of_pos x hn
    have h2 := Int.tmod_lt_of_pos x hn
    split <;> omega
theorem set_A4' (l : List App) (w : Nat) (x : App) : (l.map A4).set w (A4 x) = (l.set w x).map A4 := List.map_set.symm
set_option maxHeartbeats 4000000 in
theorem StallChecks_ok (l0 : Lett) (number : Int) (a0 : App) (at0 : Int) (nums : List Int) : ACalls Try.prog 10 [letV l0, I number, A4 a0, I at0, ints nums] [] (fun r o => r = B true ∧ o = []) := by
 have F := Fx.nil
 refine ent Try.func10 Try.ntmps10 Try.results10 ?_
 refine rK [1, 3, 4, 5, 7] ?_
 refine W.seqk fun K1 hK1 => ?_
 by_cases hwl : wideB l0 = true
 ·
  replace F := F.add hwl
  refine W.seqR ?_
  refine oN 1 ?_
  refine oC [] ?_
  refine ct (wide_ok _) ?_
  refine oN 1 ?_
  refine gF ?_
  refine gF ?_
  refine gF ?_
  refine gF ?_
  refine oN 2 ?_
  refine gF ?_
  refine gF ?_
  refine gF ?_
  refine gF ?_
  refine oN 1 ?_
  refine oK [1, 3, 4, 5, 7, 39] ?_
  refine cT ?_
  refine W.seqR ?_
  refine oC [] ?_
  refine ct (awake_ok) ?_
  refine oN 1 ?_
  refine oK [10] ?_
  refine W.ret ?_
  refine tr ?_
  clear hK1 K1
  refine er false [] [] ?_
  exact ⟨rfl, rfl⟩
 ·
  replace F := F.add hwl
  by_cases hwa : 15 < a0.wishes.length
  ·
   replace F := F.add hwa
   have hwa2 : (15 : Int) < (a0.wishes.length : Int) := by omega
   replace F := F.add hwa2
   refine W.seqR ?_
   refine oN 1 ?_
   refine oC [] ?_
   refine ct (wide_ok _) ?_
   refine oN 1 ?_
   refine gT ?_
   refine gT ?_
   refine gT ?_
   refine gT ?_
   refine oN 2 ?_
   refine gF ?_
   refine gF ?_
   refine gF ?_
   refine gF ?_
   refine oN 1 ?_
   refine oK [1, 3, 4, 5, 7, 39] ?_
   refine cT ?_
   refine W.seqR ?_
   refine oC [] ?_
   refine ct (awake_ok) ?_
   refine oN 1 ?_
   refine oK [10] ?_
   refine W.ret ?_
   refine tr ?_
   clear hK1 K1
   refine er false [] [] ?_
   exact ⟨rfl, rfl⟩
  ·
   replace F := F.add hwa
   have hwa2 : ¬ (15 : Int) < (a0.wishes.length : Int) := by omega
   have hwa3 : (a0.wishes.length : Int) ≤ 15 := by omega
   replace F := F.add hwa2 |>.add hwa3
   by_cases hwb : 15 < a0.bids.length
   ·
    replace F := F.add hwb
    have hwb2 : (15 : Int) < (a0.bids.length : Int) := by omega
    replace F := F.add hwb2
    refine W.seqR ?_
    refine oN 1 ?_
    refine oC [] ?_
    refine ct (wide_ok _) ?_
    refine oN 1 ?_
    refine gT ?_
    refine gT ?_
    refine gT ?_
    refine gT ?_
    refine oN 2 ?_
    refine gT ?_
    refine gT ?_
    refine gT ?_
    refine gT ?_
    refine oN 1 ?_
    refine oK [1, 3, 4, 5, 7, 39] ?_
    refine cT ?_
    refine W.seqR ?_
    refine oC [] ?_
    refine ct (awake_ok) ?_
    refine oN 1 ?_
    refine oK [10] ?_
    refine W.ret ?_
    refine tr ?_
    clear hK1 K1
    refine er false [] [] ?_
    exact ⟨rfl, rfl⟩
   ·
    replace F := F.add hwb
    have hwb2 : ¬ (15 : Int) < (a0.bids.length : Int) := by omega
    have hwb3 : (a0.bids.length : Int) ≤ 15 := by omega
    replace F := F.add hwb2 |>.add hwb3
    refine W.seqR ?_
    refine oN 1 ?_
    refine oC [] ?_
    refine ct (wide_ok _) ?_
    refine oN 1 ?_
    refine gT ?_
    refine gT ?_
    refine gT ?_
    refine gT ?_
    refine oN 2 ?_
    refine gT ?_
    refine gT ?_
    refine gT ?_
    refine gT ?_
    refine oN 1 ?_
    refine oK [1, 3, 4, 5, 7, 39] ?_
    refine cF ?_
    refine W.skip ?_
    refine hK1 _ ?_
    clear hK1 K1
    have qs0 : Small l0 := small_of (by simpa using hwl)
    refine W.seqR ?_
    refine oN 1 ?_
    refine oC [] ?_
    refine ct (DieOf_ok _) ?_
    refine oN 1 ?_
    refine oK [1, 3, 5, 7, 11] ?_
    refine W.seqR ?_
    refine oN 1 ?_
    refine oC [(10000, 336)] ?_
    refine CallT.mkE (LettingOf_ok _ 6 6 (by omega) (by omega) (by omega)) (fun z44 hz44 => ⟨(by simp [hwl, hwa, hwa2, hwa3, hwb, hwb2, hwb3]), ?_⟩)
    obtain ⟨l, fd⟩ := z44
    have qmade : MadeL l 6 6 := hz44
    have hv : ValidL l := qmade.ok
    have h8 := hv.a8
    have hs8 := hv.s8
    have hs0 := hv.s0
    have qcl : ∀ a ∈ l.apps, a.wishes.length ≤ 1000 ∧ a.bids.length ≤ 1000 := fun a ha => by have q := hv.ap a ha; have := q.wlen; have := q.len; omega
    replace F := F.add hv |>.add h8 |>.add hs8 |>.add hs0
    refine WOps.norm (by simp [hwl, hwa, hwa2, hwa3, hwb, hwb2, hwb3, hv, h8, hs8, hs0]; rfl) ?_
    refine oN 2 ?_
    refine oK [1, 3, 5, 7, 11, 12] ?_
    refine W.seqR ?_
    refine fz 352 ?_
    refine fz 353 ?_
    refine oN 1 ?_
    refine oC [] ?_
    refine ct (CopyLetting_ok l (by omega) (by omega) qcl) ?_
    refine oN 2 ?_
    refine oK [1, 3, 5, 7, 11, 12, 13] ?_
    refine W.seqk fun K2 hK2 => ?_
    refine rK [1, 3, 5, 7, 11, 12, 13, 50] ?_
    refine it (fun hc5 => ?_) (fun hc5 => ?_)
    ·
     try simp at hc5
     replace F := F.add hc5
     have hn1 : 0 < l.apps.length := by first | omega | exact List.length_pos_iff.2 (by assumption)
     have qbr := bring_range at0 (n := (l.apps.length : Int)) (by omega)
     obtain ⟨w, qw⟩ : ∃ w : Nat, bring at0 (l.apps.length : Int) = (w : Int) := ⟨(bring at0 (l.apps.length : Int)).toNat, by omega⟩
     have hw := qw
     have hwl2 : w < l.apps.length := by omega
     obtain ⟨SP, qSP⟩ : ∃ SP, SP = l.apps.set w a0 := ⟨_, rfl⟩
     have hset : (l.apps.map A4).set w (.agg [I a0.years, I a0.token, ints a0.wishes, ints a0.bids]) = SP.map A4 := by rw [qSP]; exact set_A4' _ _ _
     have hSPl : SP.length = l.apps.length := by rw [qSP, List.length_set]
     have hSPt : List.take l.apps.length (SP.map A4) = SP.map A4 := List.take_of_length_le (by rw [List.length_map, hSPl]; exact Nat.le_refl _)
     obtain ⟨LS, qLS⟩ : ∃ LS, LS = [l0, l, ⟨l.stalls, SP⟩, l] := ⟨_, rfl⟩
     have qLS2 : [letV l0, letV l, letV ⟨l.stalls, SP⟩, letV l] = LS.map letV := by rw [qLS]; rfl
     have qsm : ∀ x ∈ LS, Small x := fun x hx => by
       rw [qLS] at hx
       simp only [List.mem_cons, List.not_mem_nil, or_false] at hx
       rcases hx with rfl | rfl | rfl | rfl
       · exact qs0
       · exact small_made hv
       · rw [qSP]; exact small_set (small_made hv) (by omega) (by omega)
       · exact small_made hv
     have hLSl : LS.length = 4 := by rw [qLS]; rfl
     replace F := F.add hn1 |>.add hw |>.add hwl2 |>.add hset |>.add hSPl |>.add hSPt |>.add hLSl
     refine wDe 8 [] [[], [0], [], [], [3], [3, 4], [4, 3, 5, 2], [], [7, 2, 5, 3, 4, 6, 0, 1], [1, 0, 6, 4, 3, 5, 2, 7, 8]] ?_
     refine dN 6 2 ?_
     refine dC [] ?_
     refine cd (Bring_ok at0 l.apps.length (by omega)) ?_
     refine dN 1 0 ?_
     refine dD ?_
     refine oN 2 ?_
     refine WOps.endK ?_
     refine hK2 _ ?_
     clear hK2 K2
     have qz := trivial
     refine W.weaken (Le.freeze (id := 368) (by simp [hwl, hwa, hwa2, hwa3, hwb, hwb2, hwb3, hv, h8, hs8, hs0, hc5, hn1, hw, hwl2, hset, hSPl, hSPt, hLSl]; rfl)) ?_
     refine W.weaken (Le.freeze (id := 369) (by simp [hwl, hwa, hwa2, hwa3, hwb, hwb2, hwb3, hv, h8, hs8, hs0, hc5, hn1, hw, hwl2, hset, hSPl, hSPt, hLSl]; rfl)) ?_
     refine wD 15 [(10, [336])] [[], [], [], [], [3, 2, 1, 0], [], [], [], [7], [7, 8], [8, 7, 9, 6], [], [], [12, 11, 6, 9, 7, 8, 10, 5], [6, 9, 7, 8, 10, 0, 1, 2, 3, 4], [4, 3, 2, 1, 0, 14, 5, 10, 8, 7, 9, 6, 11, 12, 13]] ?_
     refine dN 10 5 ?_
     refine dC [(10000, 336)] ?_
     refine cd (Cast_ok _ _ (by omega)) ?_
     refine dN 4 0 ?_
     refine dD ?_
     refine oN 1 ?_
     refine oK [14, 15] ?_
     refine W.seqk fun K3 hK3 => ?_
     have hLS := qLS2
     obtain ⟨NS, qNS⟩ : ∃ NS, NS = [number, castV fd (l.stalls.length : Int), number, number] := ⟨_, rfl⟩
     have hNS : [I number, I (castV fd (l.stalls.length : Int)), I number, I number] = NS.map I := by rw [qNS]; rfl
     have hNSl : NS.length = 4 := by rw [qNS]; rfl
     replace F := F.add hLS |>.add hNS |>.add hNSl
     refine rK [14, 15, 16] ?_
     refine W.block ?_
     refine lpa (α := Nat) [14, 15] [17, 76, 84, 87, 95, 104, 116, 120, 125, 140, 146, 155] [336, 512, 584] (fun i => [(16, I i)]) (fun i => [(336, die (castF fd (l.stalls.length : Int))), (512, .row true 28 2 (LS.map letV)), (584, .row true 3 1 (NS.map I))]) (fun i => i ≤ 4) (fun i => 4 - i) 0 v0 ?_
     ·
      intro i hI0
      simp only [List.cons_append, List.nil_append]
      try dsimp only at hI0
      replace F := F.add hI0
      refine W.seqk fun K4 hK4 => ?_
      refine rK [14, 15, 16, 77] ?_
      refine it (fun hc6 => ?_) (fun hc6 => ?_)
      ·
       try simp at hc6
       replace F := F.add hc6
       refine W.skip ?_
       refine hK4 _ ?_
       clear hK4 K4
       refine W.seqk fun K5 hK5 => ?_
       refine W.block ?_
       have hi4 : i < 4 := by omega
       have hiL : i < LS.length := by omega
       have hiN : i < NS.length := by omega
       have qsi := qsm _ (List.getElem_mem hiL)
       obtain ⟨L, qL⟩ : ∃ L, L = LS[i] := ⟨_, rfl⟩
       have hL := qL.symm
       have qsL : Small L := by rw [qL]; exact qsi
       obtain ⟨n, qn⟩ : ∃ n, n = NS[i] := ⟨_, rfl⟩
       have hn := qn.symm
       replace F := F.add hi4 |>.add hiL |>.add hiN |>.add hL |>.add hn
       refine W.seqR ?_
       refine oN 4 ?_
       refine oC [] ?_
       refine ct (CopyLetting_ok L (by have := qsL.1; omega) (by have := qsL.2.1; omega) (fun a ha => by have := qsL.2.2 a ha; omega)) ?_
       refine oN 2 ?_
       refine oK [14, 15, 16, 17] ?_
       refine W.seqR ?_
       refine fz 672 ?_
       refine fz 673 ?_
       refine oN 1 ?_
       refine oC [] ?_
       refine ct (DrawA_ok L) ?_
       refine oN 5 ?_
       refine oK [14, 15, 16, 17, 18, 19] ?_
       refine W.seqR ?_
       refine oN 4 ?_
       refine oC [] ?_
       refine ct (rDrawA_ok L) ?_
       refine oN 5 ?_
       refine oK [14, 15, 16, 17, 18, 19, 20, 21] ?_
       refine wD 10 [] [[], [], [], [2, 1], [1, 2, 3], [3, 2, 1, 4, 0], [0, 4, 1, 2, 3, 5], [5, 3, 2, 1, 4, 0, 6], [5, 3, 2, 1, 4, 0, 6], [6, 0, 4, 1, 2, 3, 5, 7], [7, 9, 6, 0, 4, 1, 2, 3, 5, 8]] ?_
       refine dN 5 5 ?_
       refine dC [] ?_
       refine cd (RanksA_ok L n) ?_
       refine dN 4 0 ?_
       refine dD ?_
       refine oN 1 ?_
       refine oK [14, 15, 16, 17, 18, 19, 20, 21, 22, 23] ?_
       refine wD 13 [] [[], [], [1, 0], [0, 1, 2], [], [], [5, 4], [4, 5, 6], [6, 5, 4, 7, 2, 1, 0, 3], [3, 0, 1, 2, 7, 4, 5, 6, 8], [8, 6, 5, 4, 7, 2, 1, 0, 3, 9], [8, 6, 5, 4, 7, 2, 1, 0, 3, 9], [9, 3, 0, 1, 2, 7, 4, 5, 6, 8, 10], [10, 12, 9, 3, 0, 1, 2, 7, 4, 5, 6, 8, 11]] ?_
       refine dN 8 5 ?_
       refine dC [] ?_
       refine cd (rRanksA_ok L n) ?_
       refine dN 4 0 ?_
       refine dD ?_
       refine oN 1 ?_
       refine oK [14, 15, 16, 17, 18, 19, 20, 21, 22, 23, 24, 25] ?_
       refine wD 36 [] [[], [0], [], [], [3, 2], [2, 3, 4], [0, 1, 4, 3, 2, 5], [5, 2, 3, 4, 6, 0, 1], [1, 0, 6, 4, 3, 2, 5, 7], [7, 5, 2, 3, 4, 6, 0, 1, 8], [7, 5, 2, 3, 4, 6, 0, 1, 8], [10, 8, 1, 0, 6, 4, 3, 2, 5, 7, 9], [9, 10, 11, 7, 5, 2, 3, 4, 6, 0, 1, 8], [8, 1, 0, 6, 4, 3, 2, 5, 7, 11, 10, 9, 12], [12, 9, 10, 11, 7, 5, 2, 3, 4, 6, 0, 1, 8, 13], [12, 9, 10, 11, 7, 5, 2, 3, 4, 6, 0, 1, 8, 13], [15, 13, 8, 1, 0, 6, 4, 3, 2, 5, 7, 11, 10, 9, 12, 14], [14, 15, 16, 12, 9, 10, 11, 7, 5, 2, 3, 4, 6, 0, 1, 8, 13], [13, 8, 1, 0, 6, 4, 3, 2, 5, 7, 11, 10, 9, 12, 16, 15, 14, 17], [17, 14, 15, 16, 12, 9, 10, 11, 7, 5, 2, 3, 4, 6, 0, 1, 8, 13, 18], [17, 14, 15, 16, 12, 9, 10, 11, 7, 5, 2, 3, 4, 6, 0, 1, 8, 13, 18], [20, 18, 13, 8, 1, 0, 6, 4, 3, 2, 5, 7, 11, 10, 9, 12, 16, 15, 14, 17, 19], [19, 17, 14, 15, 16, 12, 9, 10, 11, 7, 5, 2, 3, 4, 6, 0, 1, 8, 13, 18, 20, 21], [21, 20, 19, 22, 17, 14, 15, 16, 12, 9, 10, 11, 7, 5, 2, 3, 4, 6, 0, 1, 8, 13, 18], [18, 13, 8, 1, 0, 6, 4, 3, 2, 5, 7, 11, 10, 9, 12, 16, 15, 14, 17, 22, 19, 20, 21, 23], [23, 21, 20, 19, 22, 17, 14, 15, 16, 12, 9, 10, 11, 7, 5, 2, 3, 4, 6, 0, 1, 8, 13, 18, 24], [23, 21, 20, 19, 22, 17, 14, 15, 16, 12, 9, 10, 11, 7, 5, 2, 3, 4, 6, 0, 1, 8, 13, 18, 24], [26, 24, 18, 13, 8, 1, 0, 6, 4, 3, 2, 5, 7, 11, 10, 9, 12, 16, 15, 14, 17, 22, 19, 20, 21, 23, 25], [25, 23, 21, 20, 19, 22, 17, 14, 15, 16, 12, 9, 10, 11, 7, 5, 2, 3, 4, 6, 0, 1, 8, 13, 18, 24, 26, 27], [27, 26, 25, 28, 23, 21, 20, 19, 22, 17, 14, 15, 16, 12, 9, 10, 11, 7, 5, 2, 3, 4, 6, 0, 1, 8, 13, 18, 24], [24, 18, 13, 8, 1, 0, 6, 4, 3, 2, 5, 7, 11, 10, 9, 12, 16, 15, 14, 17, 22, 19, 20, 21, 23, 28, 25, 26, 27, 29], [29, 27, 26, 25, 28, 23, 21, 20, 19, 22, 17, 14, 15, 16, 12, 9, 10, 11, 7, 5, 2, 3, 4, 6, 0, 1, 8, 13, 18, 24, 30], [29, 27, 26, 25, 28, 23, 21, 20, 19, 22, 17, 14, 15, 16, 12, 9, 10, 11, 7, 5, 2, 3, 4, 6, 0, 1, 8, 13, 18, 24, 30], [29, 27, 26, 25, 28, 23, 21, 20, 19, 22, 17, 14, 15, 16, 12, 9, 10, 11, 7, 5, 2, 3, 4, 6, 0, 1, 8, 13, 18, 24, 30], [33, 30, 24, 18, 13, 8, 1, 0, 6, 4, 3, 2, 5, 7, 11, 10, 9, 12, 16, 15, 14, 17, 22, 19, 20, 21, 23, 28, 25, 26, 27, 29, 32], [32, 29, 27, 26, 25, 28, 23, 21, 20, 19, 22, 17, 14, 15, 16, 12, 9, 10, 11, 7, 5, 2, 3, 4, 6, 0, 1, 8, 13, 18, 24, 30, 33, 34], [34, 33, 32, 35, 30, 24, 18, 13, 8, 1, 0, 6, 4, 3, 2, 5, 7, 11, 10, 9, 12, 16, 15, 14, 17, 22, 19, 20, 21, 23, 28, 25, 26, 27, 29, 31], [31, 29, 27, 26, 25, 28, 23, 21, 20, 19, 22, 17, 14, 15, 16, 12, 9, 10, 11, 7, 5, 2, 3, 4, 6, 0, 1, 8, 13, 18, 24, 30, 35, 32, 33, 34, 36], [36, 34, 33, 32, 35, 31, 37, 29, 27, 26, 25, 28, 23, 21, 20, 19, 22, 17, 14, 15, 16, 12, 9, 10, 11, 7, 5, 2, 3, 4, 6, 0, 1, 8, 13, 18, 24, 30]] ?_
       refine dN 1 35 ?_
       refine dC [] ?_
       refine cd (Check_ok L) ?_
       refine dN 4 30 ?_
       refine dC [] ?_
       refine cd (rCheck_ok L) ?_
       refine dN 2 27 ?_
       refine dT ?_
       refine dT ?_
       refine dT ?_
       refine dN 2 22 ?_
       refine dT ?_
       refine dT ?_
       refine dT ?_
       refine dN 2 17 ?_
       refine dT ?_
       refine dT ?_
       refine dG [] ?_
       refine cd (SameInts_ok (drawA L) (drawA L)) ?_
       refine dT ?_
       refine dN 2 11 ?_
       refine dT ?_
       refine dT ?_
       refine dG [] ?_
       refine cd (SameInts_ok (rankA L n) (rankA L n)) ?_
       refine dT ?_
       refine dN 2 5 ?_
       refine dT ?_
       refine dT ?_
       refine dT ?_
       refine dT ?_
       refine dT ?_
       refine dD ?_
       refine gC [] ?_
       refine ct (SameLettings_ok L L) ?_
       refine gT ?_
       refine oN 1 ?_
       refine oK [14, 15, 16, 157] ?_
       refine cF ?_
       refine W.skip ?_
       refine hK5 _ ?_
       clear hK5 K5
       refine rEw ?_
       refine ⟨i + 1, lf0, v0, v0⟩
      ·
       try simp at hc6
       replace F := F.add hc6
       refine W.exit ?_
       refine hK3 _ ?_
       clear hK4 K4 hK3 K3
       refine W.seqR ?_
       refine oC [] ?_
       refine ct (awake_ok) ?_
       refine oN 1 ?_
       refine oK [10] ?_
       refine W.ret ?_
       refine er false [] [] ?_
       exact ⟨rfl, rfl⟩
    ·
     try simp at hc5
     replace F := F.add hc5
     have qap0 : l.apps = [] := by first | assumption | exact List.length_eq_zero_iff.1 (by omega)
     obtain ⟨LS, qLS⟩ : ∃ LS, LS = [l0, l, l, l] := ⟨_, rfl⟩
     have qLS2 : [letV l0, .agg [stalls l.stalls, .imm []], .agg [stalls l.stalls, .imm []], .agg [stalls l.stalls, .imm []]] = LS.map letV := by rw [qLS]; simp [qap0]
     have qsm : ∀ x ∈ LS, Small x := fun x hx => by
       rw [qLS] at hx
       simp only [List.mem_cons, List.not_mem_nil, or_false] at hx
       rcases hx with rfl | rfl | rfl | rfl
       · exact qs0
       · exact small_made hv
       · exact small_made hv
       · exact small_made hv
     have hLSl : LS.length = 4 := by rw [qLS]; rfl
     replace F := F.add hLSl
     refine W.skip ?_
     refine hK2 _ ?_
     clear hK2 K2
     have qz := trivial
     refine W.weaken (Le.freeze (id := 368) (by simp [hwl, hwa, hwa2, hwa3, hwb, hwb2, hwb3, hv, h8, hs8, hs0, hc5, hLSl]; rfl)) ?_
     refine W.weaken (Le.freeze (id := 369) (by simp [hwl, hwa, hwa2, hwa3, hwb, hwb2, hwb3, hv, h8, hs8, hs0, hc5, hLSl]; rfl)) ?_
     refine wD 15 [(10, [336])] [[], [], [], [], [3, 2, 1, 0], [], [], [], [7], [7, 8], [8, 7, 9, 6], [], [], [12, 11, 6, 9, 7, 8, 10, 5], [6, 9, 7, 8, 10, 0, 1, 2, 3, 4], [4, 3, 2, 1, 0, 14, 5, 10, 8, 7, 9, 6, 11, 12, 13]] ?_
     refine dN 10 5 ?_
     refine dC [(10000, 336)] ?_
     refine cd (Cast_ok _ _ (by omega)) ?_
     refine dN 4 0 ?_
     refine dD ?_
     refine oN 1 ?_
     refine oK [14, 15] ?_
     refine W.seqk fun K6 hK6 => ?_
     have hLS := qLS2
     obtain ⟨NS, qNS⟩ : ∃ NS, NS = [number, castV fd (l.stalls.length : Int), number, number] := ⟨_, rfl⟩
     have hNS : [I number, I (castV fd (l.stalls.length : Int)), I number, I number] = NS.map I := by rw [qNS]; rfl
     have hNSl : NS.length = 4 := by rw [qNS]; rfl
     replace F := F.add hLS |>.add hNS |>.add hNSl
     refine rK [14, 15, 16] ?_
     refine W.block ?_
     refine lpa (α := Nat) [14, 15] [17, 76, 84, 87, 95, 104, 116, 120, 125, 140, 146, 155] [336, 512, 584] (fun i => [(16, I i)]) (fun i => [(336, die (castF fd (l.stalls.length : Int))), (512, .row true 28 2 (LS.map letV)), (584, .row true 3 1 (NS.map I))]) (fun i => i ≤ 4) (fun i => 4 - i) 0 v0 ?_
     ·
      intro i hI0
      simp only [List.cons_append, List.nil_append]
      try dsimp only at hI0
      replace F := F.add hI0
      refine W.seqk fun K7 hK7 => ?_
      refine rK [14, 15, 16, 77] ?_
      refine it (fun hc8 => ?_) (fun hc8 => ?_)
      ·
       try simp at hc8
       replace F := F.add hc8
       refine W.skip ?_
       refine hK7 _ ?_
       clear hK7 K7
       refine W.seqk fun K8 hK8 => ?_
       refine W.block ?_
       have hi4 : i < 4 := by omega
       have hiL : i < LS.length := by omega
       have hiN : i < NS.length := by omega
       have qsi := qsm _ (List.getElem_mem hiL)
       obtain ⟨L, qL⟩ : ∃ L, L = LS[i] := ⟨_, rfl⟩
       have hL := qL.symm
       have qsL : Small L := by rw [qL]; exact qsi
       obtain ⟨n, qn⟩ : ∃ n, n = NS[i] := ⟨_, rfl⟩
       have hn := qn.symm
       replace F := F.add hi4 |>.add hiL |>.add hiN |>.add hL |>.add hn
       refine W.seqR ?_
       refine oN 4 ?_
       refine oC [] ?_
       refine ct (CopyLetting_ok L (by have := qsL.1; omega) (by have := qsL.2.1; omega) (fun a ha => by have := qsL.2.2 a ha; omega)) ?_
       refine oN 2 ?_
       refine oK [14, 15, 16, 17] ?_
       refine W.seqR ?_
       refine fz 672 ?_
       refine fz 673 ?_
       refine oN 1 ?_
       refine oC [] ?_
       refine ct (DrawA_ok L) ?_
       refine oN 5 ?_
       refine oK [14, 15, 16, 17, 18, 19] ?_
       refine W.seqR ?_
       refine oN 4 ?_
       refine oC [] ?_
       refine ct (rDrawA_ok L) ?_
       refine oN 5 ?_
       refine oK [14, 15, 16, 17, 18, 19, 20, 21] ?_
       refine wD 10 [] [[], [], [], [2, 1], [1, 2, 3], [3, 2, 1, 4, 0], [0, 4, 1, 2, 3, 5], [5, 3, 2, 1, 4, 0, 6], [5, 3, 2, 1, 4, 0, 6], [6, 0, 4, 1, 2, 3, 5, 7], [7, 9, 6, 0, 4, 1, 2, 3, 5, 8]] ?_
       refine dN 5 5 ?_
       refine dC [] ?_
       refine cd (RanksA_ok L n) ?_
       refine dN 4 0 ?_
       refine dD ?_
       refine oN 1 ?_
       refine oK [14, 15, 16, 17, 18, 19, 20, 21, 22, 23] ?_
       refine wD 13 [] [[], [], [1, 0], [0, 1, 2], [], [], [5, 4], [4, 5, 6], [6, 5, 4, 7, 2, 1, 0, 3], [3, 0, 1, 2, 7, 4, 5, 6, 8], [8, 6, 5, 4, 7, 2, 1, 0, 3, 9], [8, 6, 5, 4, 7, 2, 1, 0, 3, 9], [9, 3, 0, 1, 2, 7, 4, 5, 6, 8, 10], [10, 12, 9, 3, 0, 1, 2, 7, 4, 5, 6, 8, 11]] ?_
       refine dN 8 5 ?_
       refine dC [] ?_
       refine cd (rRanksA_ok L n) ?_
       refine dN 4 0 ?_
       refine dD ?_
       refine oN 1 ?_
       refine oK [14, 15, 16, 17, 18, 19, 20, 21, 22, 23, 24, 25] ?_
       refine wD 36 [] [[], [0], [], [], [3, 2], [2, 3, 4], [0, 1, 4, 3, 2, 5], [5, 2, 3, 4, 6, 0, 1], [1, 0, 6, 4, 3, 2, 5, 7], [7, 5, 2, 3, 4, 6, 0, 1, 8], [7, 5, 2, 3, 4, 6, 0, 1, 8], [10, 8, 1, 0, 6, 4, 3, 2, 5, 7, 9], [9, 10, 11, 7, 5, 2, 3, 4, 6, 0, 1, 8], [8, 1, 0, 6, 4, 3, 2, 5, 7, 11, 10, 9, 12], [12, 9, 10, 11, 7, 5, 2, 3, 4, 6, 0, 1, 8, 13], [12, 9, 10, 11, 7, 5, 2, 3, 4, 6, 0, 1, 8, 13], [15, 13, 8, 1, 0, 6, 4, 3, 2, 5, 7, 11, 10, 9, 12, 14], [14, 15, 16, 12, 9, 10, 11, 7, 5, 2, 3, 4, 6, 0, 1, 8, 13], [13, 8, 1, 0, 6, 4, 3, 2, 5, 7, 11, 10, 9, 12, 16, 15, 14, 17], [17, 14, 15, 16, 12, 9, 10, 11, 7, 5, 2, 3, 4, 6, 0, 1, 8, 13, 18], [17, 14, 15, 16, 12, 9, 10, 11, 7, 5, 2, 3, 4, 6, 0, 1, 8, 13, 18], [20, 18, 13, 8, 1, 0, 6, 4, 3, 2, 5, 7, 11, 10, 9, 12, 16, 15, 14, 17, 19], [19, 17, 14, 15, 16, 12, 9, 10, 11, 7, 5, 2, 3, 4, 6, 0, 1, 8, 13, 18, 20, 21], [21, 20, 19, 22, 17, 14, 15, 16, 12, 9, 10, 11, 7, 5, 2, 3, 4, 6, 0, 1, 8, 13, 18], [18, 13, 8, 1, 0, 6, 4, 3, 2, 5, 7, 11, 10, 9, 12, 16, 15, 14, 17, 22, 19, 20, 21, 23], [23, 21, 20, 19, 22, 17, 14, 15, 16, 12, 9, 10, 11, 7, 5, 2, 3, 4, 6, 0, 1, 8, 13, 18, 24], [23, 21, 20, 19, 22, 17, 14, 15, 16, 12, 9, 10, 11, 7, 5, 2, 3, 4, 6, 0, 1, 8, 13, 18, 24], [26, 24, 18, 13, 8, 1, 0, 6, 4, 3, 2, 5, 7, 11, 10, 9, 12, 16, 15, 14, 17, 22, 19, 20, 21, 23, 25], [25, 23, 21, 20, 19, 22, 17, 14, 15, 16, 12, 9, 10, 11, 7, 5, 2, 3, 4, 6, 0, 1, 8, 13, 18, 24, 26, 27], [27, 26, 25, 28, 23, 21, 20, 19, 22, 17, 14, 15, 16, 12, 9, 10, 11, 7, 5, 2, 3, 4, 6, 0, 1, 8, 13, 18, 24], [24, 18, 13, 8, 1, 0, 6, 4, 3, 2, 5, 7, 11, 10, 9, 12, 16, 15, 14, 17, 22, 19, 20, 21, 23, 28, 25, 26, 27, 29], [29, 27, 26, 25, 28, 23, 21, 20, 19, 22, 17, 14, 15, 16, 12, 9, 10, 11, 7, 5, 2, 3, 4, 6, 0, 1, 8, 13, 18, 24, 30], [29, 27, 26, 25, 28, 23, 21, 20, 19, 22, 17, 14, 15, 16, 12, 9, 10, 11, 7, 5, 2, 3, 4, 6, 0, 1, 8, 13, 18, 24, 30], [29, 27, 26, 25, 28, 23, 21, 20, 19, 22, 17, 14, 15, 16, 12, 9, 10, 11, 7, 5, 2, 3, 4, 6, 0, 1, 8, 13, 18, 24, 30], [33, 30, 24, 18, 13, 8, 1, 0, 6, 4, 3, 2, 5, 7, 11, 10, 9, 12, 16, 15, 14, 17, 22, 19, 20, 21, 23, 28, 25, 26, 27, 29, 32], [32, 29, 27, 26, 25, 28, 23, 21, 20, 19, 22, 17, 14, 15, 16, 12, 9, 10, 11, 7, 5, 2, 3, 4, 6, 0, 1, 8, 13, 18, 24, 30, 33, 34], [34, 33, 32, 35, 30, 24, 18, 13, 8, 1, 0, 6, 4, 3, 2, 5, 7, 11, 10, 9, 12, 16, 15, 14, 17, 22, 19, 20, 21, 23, 28, 25, 26, 27, 29, 31], [31, 29, 27, 26, 25, 28, 23, 21, 20, 19, 22, 17, 14, 15, 16, 12, 9, 10, 11, 7, 5, 2, 3, 4, 6, 0, 1, 8, 13, 18, 24, 30, 35, 32, 33, 34, 36], [36, 34, 33, 32, 35, 31, 37, 29, 27, 26, 25, 28, 23, 21, 20, 19, 22, 17, 14, 15, 16, 12, 9, 10, 11, 7, 5, 2, 3, 4, 6, 0, 1, 8, 13, 18, 24, 30]] ?_
       refine dN 1 35 ?_
       refine dC [] ?_
       refine cd (Check_ok L) ?_
       refine dN 4 30 ?_
       refine dC [] ?_
       refine cd (rCheck_ok L) ?_
       refine dN 2 27 ?_
       refine dT ?_
       refine dT ?_
       refine dT ?_
       refine dN 2 22 ?_
       refine dT ?_
       refine dT ?_
       refine dT ?_
       refine dN 2 17 ?_
       refine dT ?_
       refine dT ?_
       refine dG [] ?_
       refine cd (SameInts_ok (drawA L) (drawA L)) ?_
       refine dT ?_
       refine dN 2 11 ?_
       refine dT ?_
       refine dT ?_
       refine dG [] ?_
       refine cd (SameInts_ok (rankA L n) (rankA L n)) ?_
       refine dT ?_
       refine dN 2 5 ?_
       refine dT ?_
       refine dT ?_
       refine dT ?_
       refine dT ?_
       refine dT ?_
       refine dD ?_
       refine gC [] ?_
       refine ct (SameLettings_ok L L) ?_
       refine gT ?_
       refine oN 1 ?_
       refine oK [14, 15, 16, 157] ?_
       refine cF ?_
       refine W.skip ?_
       refine hK8 _ ?_
       clear hK8 K8
       refine rEw ?_
       refine ⟨i + 1, lf0, v0, v0⟩
      ·
       try simp at hc8
       replace F := F.add hc8
       refine W.exit ?_
       refine hK6 _ ?_
       clear hK7 K7 hK6 K6
       refine W.seqR ?_
       refine oC [] ?_
       refine ct (awake_ok) ?_
       refine oN 1 ?_
       refine oK [10] ?_
       refine W.ret ?_
       refine er false [] [] ?_
       exact ⟨rfl, rfl⟩
end Go.Sim
