/- SwapBlocks: the law's walk. -/
import Derived.Test.YtggbbldoopfejaaVu
import Derived.Test.YtggbbldoopfejaaPd
namespace Go.Sim
open Go.Proofs Go.Plain
set_option maxRecDepth 100000
set_option linter.unusedSimpArgs false
set_option linter.unusedVariables false
attribute [-simp] List.map_set List.map_take List.map_drop
attribute [local simp] take_map' drop_map'
set_option maxHeartbeats 4000000 in
theorem SwapBlocks_ok (ow : List Turn) (lk : List (List Turn)) (held : List Turn) (nums : List Int) (hwf : ∀ x ∈ held, WfT x) : ACalls Try.prog 4 [trade ow lk, turns held, ints nums] [] (fun r o => r = B true ∧ o = []) := by
 have F := Fx.nil
 refine ent Try.func4 Try.ntmps4 Try.results4 ?_
 refine rK [1, 2, 3] ?_
 refine W.seqk fun K1 hK1 => ?_
 by_cases hw : wideT ow lk = true
 ·
  replace F := F.add hw
  refine W.seqR ?_
  refine oN 1 ?_
  refine oC [] ?_
  refine ct (wide_ok _ _) ?_
  refine oN 1 ?_
  refine gF ?_
  refine gF ?_
  refine gF ?_
  refine oN 2 ?_
  refine gF ?_
  refine gF ?_
  refine gF ?_
  refine gF ?_
  refine gF ?_
  refine gF ?_
  refine gF ?_
  refine gF ?_
  refine gF ?_
  refine oN 1 ?_
  refine oK [1, 2, 3, 39] ?_
  refine cT ?_
  refine W.seqR ?_
  refine oC [] ?_
  refine ct (awake_ok) ?_
  refine oN 1 ?_
  refine oK [6] ?_
  refine W.ret ?_
  refine tr ?_
  clear hK1 K1
  exact er0 false [] []
 ·
  replace F := F.add hw
  obtain ⟨qw1, qw2, qw3⟩ := wideT_false (by simpa using hw)
  by_cases hl20 : 20 < (held.length : Int)
  ·
   replace F := F.add hl20
   refine W.seqR ?_
   refine oN 1 ?_
   refine oC [] ?_
   refine ct (wide_ok _ _) ?_
   refine oN 1 ?_
   refine gT ?_
   refine gT ?_
   refine gT ?_
   refine oN 2 ?_
   refine gF ?_
   refine gF ?_
   refine gF ?_
   refine gF ?_
   refine gF ?_
   refine gF ?_
   refine gF ?_
   refine gF ?_
   refine gF ?_
   refine oN 1 ?_
   refine oK [1, 2, 3, 39] ?_
   refine cT ?_
   refine W.seqR ?_
   refine oC [] ?_
   refine ct (awake_ok) ?_
   refine oN 1 ?_
   refine oK [6] ?_
   refine W.ret ?_
   refine tr ?_
   clear hK1 K1
   exact er0 false [] []
  ·
   replace F := F.add hl20
   by_cases hbig : ((checkT ow lk == 0) && decide (5 < (ow.length : Int))) = true
   ·
    replace F := F.add hbig
    have qb : checkT ow lk = 0 ∧ 5 < (ow.length : Int) := by simpa using hbig
    have hb1 := qb.1
    have hb2 := qb.2
    replace F := F.add hb1 |>.add hb2
    refine W.seqR ?_
    refine oN 1 ?_
    refine oC [] ?_
    refine ct (wide_ok _ _) ?_
    refine oN 1 ?_
    refine gT ?_
    refine gT ?_
    refine gT ?_
    refine oN 2 ?_
    refine gT ?_
    refine gC [] ?_
    refine ct (rCheck_ok _ _) ?_
    refine gT ?_
    refine gT ?_
    refine gT ?_
    refine gT ?_
    refine gT ?_
    refine gT ?_
    refine gT ?_
    refine oN 1 ?_
    refine oK [1, 2, 3, 39] ?_
    refine cT ?_
    refine W.seqR ?_
    refine oC [] ?_
    refine ct (awake_ok) ?_
    refine oN 1 ?_
    refine oK [6] ?_
    refine W.ret ?_
    refine tr ?_
    clear hK1 K1
    exact er0 false [] []
   ·
    replace F := F.add hbig
    have hq1 : ((checkT ow lk == 0) && decide (5 < (ow.length : Int))) = false := by simpa using hbig
    have hq2 : (decide (checkT ow lk = 0) && decide (5 < (ow.length : Int))) = false := by simpa using hbig
    replace F := F.add hq1 |>.add hq2
    refine W.seqR ?_
    refine oN 1 ?_
    refine oC [] ?_
    refine ct (wide_ok _ _) ?_
    refine oN 1 ?_
    refine gT ?_
    refine gT ?_
    refine gT ?_
    refine oN 2 ?_
    refine gT ?_
    refine gC [] ?_
    refine ct (rCheck_ok _ _) ?_
    refine gT ?_
    refine gT ?_
    refine gX ?_
    refine gX ?_
    refine gX ?_
    refine gX ?_
    refine gT ?_
    refine oN 1 ?_
    refine oK [1, 2, 3, 39] ?_
    refine cF ?_
    refine W.skip ?_
    refine hK1 _ ?_
    clear hK1 K1
    refine W.seqR ?_
    refine oN 1 ?_
    refine oC [] ?_
    refine ct (DieOf_ok nums) ?_
    refine oN 1 ?_
    refine oK [1, 3, 7] ?_
    refine W.seqR ?_
    refine oN 1 ?_
    refine oC [(10000, 336)] ?_
    refine CallT.mkE (TradeOf_ok _ 5 (by omega)) (fun z44 hz44 => ⟨(by simp [hw, hl20, hbig, hq1, hq2]), ?_⟩)
    obtain ⟨qz1, qz2, qz3, qz4⟩ := hz44
    have hz1 : z44.1.length ≤ 5 := qz1
    have hz2 : z44.2.1.length ≤ 5 := by omega
    have qz5 : ∀ l ∈ z44.2.1, l.length ≤ 7 := fun l hl => Nat.le_trans (qz4 l hl).2 (by omega)
    replace F := F.add hz1 |>.add hz2
    refine WOps.norm (by simp [hw, hl20, hbig, hq1, hq2, hz1, hz2]; rfl) ?_
    refine fz 352 ?_
    refine fz 353 ?_
    refine oN 2 ?_
    refine oK [1, 3, 7, 8] ?_
    refine wD 11 [(7, [336])] [[], [], [], [2, 1, 0], [], [], [], [6, 5], [], [8, 5, 6, 7, 4], [5, 6, 7, 0, 1, 2, 3], [3, 2, 1, 0, 10, 4, 7, 6, 5, 8, 9]] ?_
    refine dN 7 4 ?_
    refine dC [(10000, 336)] ?_
    refine cd (HeldOf_ex _ z44.1 z44.2.1 (by omega)) ?_
    refine dN 3 0 ?_
    refine dD ?_
    refine oN 1 ?_
    refine oK [9, 10] ?_
    refine W.seqk fun K2 hK2 => ?_
    refine rK [9, 10, 11] ?_
    refine W.block ?_
    obtain ⟨ts, qts⟩ : ∃ ts : List (List Turn × List (List Turn)), ts = [(ow, lk), (z44.1, z44.2.1), (z44.1, z44.2.1)] := ⟨_, rfl⟩
    obtain ⟨hs, qhs⟩ : ∃ hs : List (List Turn), hs = [held, (heldZ z44.2.2 z44.1).1, held] := ⟨_, rfl⟩
    have hts3 : ts.length = 3 := by rw [qts]; rfl
    have hhs3 : hs.length = 3 := by rw [qhs]; rfl
    have qall : ∀ p ∈ ts, p.1.length ≤ 20 ∧ p.2.length ≤ 20 ∧ ∀ l ∈ p.2, l.length ≤ 30 := by
      intro p hp
      rw [qts] at hp
      simp only [List.mem_cons, List.not_mem_nil, or_false] at hp
      rcases hp with rfl | rfl | rfl
      · exact ⟨qw1, qw2, qw3⟩
      · exact ⟨Nat.le_trans hz1 (by omega), Nat.le_trans hz2 (by omega), fun l hl => Nat.le_trans (qz5 l hl) (by omega)⟩
      · exact ⟨Nat.le_trans hz1 (by omega), Nat.le_trans hz2 (by omega), fun l hl => Nat.le_trans (qz5 l hl) (by omega)⟩
    have qhl : ∀ h ∈ hs, h.length ≤ 20 ∧ ∀ x ∈ h, WfT x := by
      intro h hh
      rw [qhs] at hh
      simp only [List.mem_cons, List.not_mem_nil, or_false] at hh
      rcases hh with rfl | rfl | rfl
      · exact ⟨by omega, hwf⟩
      · have qp := heldZ_perm z44.2.2 z44.1
        exact ⟨by rw [qp.length_eq]; omega, fun x hx => wfT_valid (qz3.2 x (qp.mem_iff.1 hx))⟩
      · exact ⟨by omega, hwf⟩
    replace F := F.add hts3 |>.add hhs3
    refine lpa (α := Nat) [9, 10] [12, 57, 65, 70, 74, 86, 92, 104, 109, 118, 133, 139, 148, 157] [384, 432, 336] (fun i => [(11, I i)]) (fun i => [(384, .row true 25 2 (ts.map fun p => trade p.1 p.2)), (432, .row true 22 1 (hs.map turns)), (336, die (heldZ z44.2.2 z44.1).2)]) (fun i => i ≤ 3) (fun i => 3 - i) 0 v0 ?_
    ·
     intro i hI0
     simp only [List.cons_append, List.nil_append]
     try dsimp only at hI0
     replace F := F.add hI0
     refine W.seqk fun K3 hK3 => ?_
     refine rK [9, 10, 11, 58] ?_
     refine it (fun hc5 => ?_) (fun hc5 => ?_)
     ·
      try simp at hc5
      replace F := F.add hc5
      refine W.skip ?_
      refine hK3 _ ?_
      clear hK3 K3
      refine W.seqk fun K4 hK4 => ?_
      refine W.block ?_
      have hi3n : i < 3 := by omega
      have hi3 : i < ts.length := by omega
      have hi33 : i < hs.length := by omega
      obtain ⟨qp1, qp2, qp3⟩ := qall ts[i] (List.getElem_mem hi3)
      obtain ⟨qh1, qh2⟩ := qhl hs[i] (List.getElem_mem hi33)
      have qwf : ValidT ts[i].1 ts[i].2 → ∀ x ∈ hs[i], WfT x := fun _ => qh2
      replace F := F.add hi3n |>.add hi3 |>.add hi33
      refine wD 11 [] [[], [], [1, 0], [0, 1, 2], [2, 1, 0, 3], [], [], [6, 5], [5, 6, 7], [3, 0, 1, 2, 4, 7, 6, 5, 8], [], [8, 5, 6, 7, 9, 3, 0, 1, 2, 4, 10], [10, 11, 8, 5, 6, 7, 4, 2, 1, 0, 3, 9]] ?_
      refine dN 4 7 ?_
      refine dC [] ?_
      refine cd (CopyTrade_ok ts[i].1 ts[i].2 (by omega) (by omega) (fun l hl => Nat.le_trans (qp3 l hl) (by omega))) ?_
      refine dN 4 2 ?_
      refine dC [] ?_
      refine cd (CopyTurns_ok hs[i] (by omega)) ?_
      refine dN 1 0 ?_
      refine dD ?_
      refine oN 2 ?_
      refine oK [9, 10, 11, 12, 13] ?_
      refine W.seqR ?_
      refine fz 520 ?_
      refine fz 521 ?_
      refine fz 560 ?_
      refine oN 2 ?_
      refine oC [] ?_
      refine ct (Blocks_ok _ _ _ (by assumption)) ?_
      refine oN 5 ?_
      refine oK [9, 10, 11, 12, 13, 14, 15] ?_
      refine wD 13 [] [[], [], [1, 0], [0, 1, 2], [], [], [5, 4], [4, 5, 6], [6, 5, 4, 7, 2, 1, 0, 3], [3, 0, 1, 2, 7, 4, 5, 6, 8], [8, 6, 5, 4, 7, 2, 1, 0, 3, 9], [8, 6, 5, 4, 7, 2, 1, 0, 3, 9], [9, 3, 0, 1, 2, 7, 4, 5, 6, 8, 10], [10, 12, 9, 3, 0, 1, 2, 7, 4, 5, 6, 8, 11]] ?_
      refine dN 8 5 ?_
      refine dC [] ?_
      refine cd (rBlocks_step _ _ _ (fun hv _ g _ hg => rblkG_eq hv hg) foundG_cho) ?_
      refine dN 4 0 ?_
      refine dD ?_
      refine oN 1 ?_
      refine oK [9, 10, 11, 12, 13, 14, 15, 16, 17] ?_
      refine W.seqR ?_
      refine oN 2 ?_
      refine oC [] ?_
      refine ct (Pleases_ok _ _ _ (by assumption)) ?_
      refine oN 5 ?_
      refine oK [9, 10, 11, 12, 13, 14, 15, 16, 17, 18, 19] ?_
      refine wD 13 [] [[], [], [1, 0], [0, 1, 2], [], [], [5, 4], [4, 5, 6], [6, 5, 4, 7, 2, 1, 0, 3], [3, 0, 1, 2, 7, 4, 5, 6, 8], [8, 6, 5, 4, 7, 2, 1, 0, 3, 9], [8, 6, 5, 4, 7, 2, 1, 0, 3, 9], [9, 3, 0, 1, 2, 7, 4, 5, 6, 8, 10], [10, 12, 9, 3, 0, 1, 2, 7, 4, 5, 6, 8, 11]] ?_
      refine dN 8 5 ?_
      refine dC [] ?_
      refine cd (rPleases_step _ _ _ (fun hv _ _ h2 _ => rple_pleaseM hv h2)) ?_
      refine dN 4 0 ?_
      refine dD ?_
      refine oN 1 ?_
      refine oK [9, 10, 11, 12, 13, 14, 15, 16, 17, 18, 19, 20, 21] ?_
      refine wD 50 [] [[], [], [1, 0], [], [], [4, 3], [3, 4, 5], [], [], [8, 7], [7, 8, 9], [0, 1, 2, 9, 8, 7, 10, 5, 4, 3, 6], [6, 3, 4, 5, 10, 7, 8, 9, 11, 0, 1, 2], [2, 1, 0, 11, 9, 8, 7, 10, 5, 4, 3, 6, 12], [12, 6, 3, 4, 5, 10, 7, 8, 9, 11, 0, 1, 2, 13], [12, 6, 3, 4, 5, 10, 7, 8, 9, 11, 0, 1, 2, 13], [15, 13, 2, 1, 0, 11, 9, 8, 7, 10, 5, 4, 3, 6, 12, 14], [14, 15, 16, 12, 6, 3, 4, 5, 10, 7, 8, 9, 11, 0, 1, 2, 13], [13, 2, 1, 0, 11, 9, 8, 7, 10, 5, 4, 3, 6, 12, 16, 15, 14, 17], [17, 14, 15, 16, 12, 6, 3, 4, 5, 10, 7, 8, 9, 11, 0, 1, 2, 13, 18], [17, 14, 15, 16, 12, 6, 3, 4, 5, 10, 7, 8, 9, 11, 0, 1, 2, 13, 18], [20, 18, 13, 2, 1, 0, 11, 9, 8, 7, 10, 5, 4, 3, 6, 12, 16, 15, 14, 17, 19], [19, 20, 21, 17, 14, 15, 16, 12, 6, 3, 4, 5, 10, 7, 8, 9, 11, 0, 1, 2, 13, 18], [18, 13, 2, 1, 0, 11, 9, 8, 7, 10, 5, 4, 3, 6, 12, 16, 15, 14, 17, 21, 20, 19, 22], [22, 19, 20, 21, 17, 14, 15, 16, 12, 6, 3, 4, 5, 10, 7, 8, 9, 11, 0, 1, 2, 13, 18, 23], [22, 19, 20, 21, 17, 14, 15, 16, 12, 6, 3, 4, 5, 10, 7, 8, 9, 11, 0, 1, 2, 13, 18, 23], [25, 23, 18, 13, 2, 1, 0, 11, 9, 8, 7, 10, 5, 4, 3, 6, 12, 16, 15, 14, 17, 21, 20, 19, 22, 24], [24, 22, 19, 20, 21, 17, 14, 15, 16, 12, 6, 3, 4, 5, 10, 7, 8, 9, 11, 0, 1, 2, 13, 18, 23, 25, 26], [26, 25, 24, 27, 22, 19, 20, 21, 17, 14, 15, 16, 12, 6, 3, 4, 5, 10, 7, 8, 9, 11, 0, 1, 2, 13, 18, 23], [23, 18, 13, 2, 1, 0, 11, 9, 8, 7, 10, 5, 4, 3, 6, 12, 16, 15, 14, 17, 21, 20, 19, 22, 27, 24, 25, 26, 28], [28, 26, 25, 24, 27, 22, 19, 20, 21, 17, 14, 15, 16, 12, 6, 3, 4, 5, 10, 7, 8, 9, 11, 0, 1, 2, 13, 18, 23, 29], [28, 26, 25, 24, 27, 22, 19, 20, 21, 17, 14, 15, 16, 12, 6, 3, 4, 5, 10, 7, 8, 9, 11, 0, 1, 2, 13, 18, 23, 29], [31, 29, 23, 18, 13, 2, 1, 0, 11, 9, 8, 7, 10, 5, 4, 3, 6, 12, 16, 15, 14, 17, 21, 20, 19, 22, 27, 24, 25, 26, 28, 30], [30, 28, 26, 25, 24, 27, 22, 19, 20, 21, 17, 14, 15, 16, 12, 6, 3, 4, 5, 10, 7, 8, 9, 11, 0, 1, 2, 13, 18, 23, 29, 31, 32], [32, 31, 30, 33, 28, 26, 25, 24, 27, 22, 19, 20, 21, 17, 14, 15, 16, 12, 6, 3, 4, 5, 10, 7, 8, 9, 11, 0, 1, 2, 13, 18, 23, 29], [29, 23, 18, 13, 2, 1, 0, 11, 9, 8, 7, 10, 5, 4, 3, 6, 12, 16, 15, 14, 17, 21, 20, 19, 22, 27, 24, 25, 26, 28, 33, 30, 31, 32, 34], [34, 32, 31, 30, 33, 28, 26, 25, 24, 27, 22, 19, 20, 21, 17, 14, 15, 16, 12, 6, 3, 4, 5, 10, 7, 8, 9, 11, 0, 1, 2, 13, 18, 23, 29, 35], [34, 32, 31, 30, 33, 28, 26, 25, 24, 27, 22, 19, 20, 21, 17, 14, 15, 16, 12, 6, 3, 4, 5, 10, 7, 8, 9, 11, 0, 1, 2, 13, 18, 23, 29, 35], [34, 32, 31, 30, 33, 28, 26, 25, 24, 27, 22, 19, 20, 21, 17, 14, 15, 16, 12, 6, 3, 4, 5, 10, 7, 8, 9, 11, 0, 1, 2, 13, 18, 23, 29, 35], [38, 35, 29, 23, 18, 13, 2, 1, 0, 11, 9, 8, 7, 10, 5, 4, 3, 6, 12, 16, 15, 14, 17, 21, 20, 19, 22, 27, 24, 25, 26, 28, 33, 30, 31, 32, 34, 37], [37, 34, 32, 31, 30, 33, 28, 26, 25, 24, 27, 22, 19, 20, 21, 17, 14, 15, 16, 12, 6, 3, 4, 5, 10, 7, 8, 9, 11, 0, 1, 2, 13, 18, 23, 29, 35, 38, 39], [39, 38, 37, 40, 35, 29, 23, 18, 13, 2, 1, 0, 11, 9, 8, 7, 10, 5, 4, 3, 6, 12, 16, 15, 14, 17, 21, 20, 19, 22, 27, 24, 25, 26, 28, 33, 30, 31, 32, 34, 36], [36, 34, 32, 31, 30, 33, 28, 26, 25, 24, 27, 22, 19, 20, 21, 17, 14, 15, 16, 12, 6, 3, 4, 5, 10, 7, 8, 9, 11, 0, 1, 2, 13, 18, 23, 29, 35, 40, 37, 38, 39, 41], [41, 39, 38, 37, 40, 36, 42, 34, 32, 31, 30, 33, 28, 26, 25, 24, 27, 22, 19, 20, 21, 17, 14, 15, 16, 12, 6, 3, 4, 5, 10, 7, 8, 9, 11, 0, 1, 2, 13, 18, 23, 29, 35], [35, 29, 23, 18, 13, 2, 1, 0, 11, 9, 8, 7, 10, 5, 4, 3, 6, 12, 16, 15, 14, 17, 21, 20, 19, 22, 27, 24, 25, 26, 28, 33, 30, 31, 32, 34, 42, 36, 40, 37, 38, 39, 41, 43], [43, 41, 39, 38, 37, 40, 36, 42, 34, 32, 31, 30, 33, 28, 26, 25, 24, 27, 22, 19, 20, 21, 17, 14, 15, 16, 12, 6, 3, 4, 5, 10, 7, 8, 9, 11, 0, 1, 2, 13, 18, 23, 29, 35, 44], [43, 41, 39, 38, 37, 40, 36, 42, 34, 32, 31, 30, 33, 28, 26, 25, 24, 27, 22, 19, 20, 21, 17, 14, 15, 16, 12, 6, 3, 4, 5, 10, 7, 8, 9, 11, 0, 1, 2, 13, 18, 23, 29, 35, 44], [43, 41, 39, 38, 37, 40, 36, 42, 34, 32, 31, 30, 33, 28, 26, 25, 24, 27, 22, 19, 20, 21, 17, 14, 15, 16, 12, 6, 3, 4, 5, 10, 7, 8, 9, 11, 0, 1, 2, 13, 18, 23, 29, 35, 44], [47, 44, 35, 29, 23, 18, 13, 2, 1, 0, 11, 9, 8, 7, 10, 5, 4, 3, 6, 12, 16, 15, 14, 17, 21, 20, 19, 22, 27, 24, 25, 26, 28, 33, 30, 31, 32, 34, 42, 36, 40, 37, 38, 39, 41, 43, 46], [46, 43, 41, 39, 38, 37, 40, 36, 42, 34, 32, 31, 30, 33, 28, 26, 25, 24, 27, 22, 19, 20, 21, 17, 14, 15, 16, 12, 6, 3, 4, 5, 10, 7, 8, 9, 11, 0, 1, 2, 13, 18, 23, 29, 35, 44, 47, 48], [48, 47, 46, 49, 44, 35, 29, 23, 18, 13, 2, 1, 0, 11, 9, 8, 7, 10, 5, 4, 3, 6, 12, 16, 15, 14, 17, 21, 20, 19, 22, 27, 24, 25, 26, 28, 33, 30, 31, 32, 34, 42, 36, 40, 37, 38, 39, 41, 43, 45], [45, 43, 41, 39, 38, 37, 40, 36, 42, 34, 32, 31, 30, 33, 28, 26, 25, 24, 27, 22, 19, 20, 21, 17, 14, 15, 16, 12, 6, 3, 4, 5, 10, 7, 8, 9, 11, 0, 1, 2, 13, 18, 23, 29, 35, 44, 49, 46, 47, 48, 50], [50, 48, 47, 46, 49, 45, 51, 43, 41, 39, 38, 37, 40, 36, 42, 34, 32, 31, 30, 33, 28, 26, 25, 24, 27, 22, 19, 20, 21, 17, 14, 15, 16, 12, 6, 3, 4, 5, 10, 7, 8, 9, 11, 0, 1, 2, 13, 18, 23, 29, 35, 44]] ?_
      refine dN 2 48 ?_
      refine dC [] ?_
      refine cd (CheckHeld_ok _ _ _ (by assumption)) ?_
      refine dN 8 39 ?_
      refine dC [] ?_
      refine cd (rCheckHeld_ok _ _ _) ?_
      refine dN 2 36 ?_
      refine dT ?_
      refine dT ?_
      refine dT ?_
      refine dN 2 31 ?_
      refine dT ?_
      refine dT ?_
      refine dT ?_
      refine dN 2 26 ?_
      refine dT ?_
      refine dT ?_
      refine dG [] ?_
      refine cd (SameIntsN _) ?_
      refine dT ?_
      refine dN 2 20 ?_
      refine dT ?_
      refine dT ?_
      refine dG [] ?_
      refine cd (SameIntsN _) ?_
      refine dT ?_
      refine dN 2 14 ?_
      refine dT ?_
      refine dT ?_
      refine dT ?_
      refine dT ?_
      refine dT ?_
      refine dG [] ?_
      refine cd (SameTrades_ok _ _ _ _) ?_
      refine dT ?_
      refine dN 2 5 ?_
      refine dT ?_
      refine dT ?_
      refine dT ?_
      refine dT ?_
      refine dT ?_
      refine dD ?_
      refine gC [] ?_
      refine ct (SameTurns_ok _ _) ?_
      refine gT ?_
      refine oN 1 ?_
      refine oK [9, 10, 11, 159] ?_
      refine cF ?_
      refine W.skip ?_
      refine hK4 _ ?_
      clear hK4 K4
      refine rEw ?_
      refine ⟨i + 1, lf0, v0, v0⟩
     ·
      try simp at hc5
      replace F := F.add hc5
      refine W.exit ?_
      refine hK2 _ ?_
      clear hK3 K3 hK2 K2
      refine W.seqR ?_
      refine oC [] ?_
      refine ct (awake_ok) ?_
      refine oN 1 ?_
      refine oK [6] ?_
      refine W.ret ?_
      exact er0 false [] []
end Go.Sim
