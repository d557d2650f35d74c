/- SwapPleased: the law's walk. -/
import Derived.Test.YtggbbldoopfejaaVu
import Derived.Test.YtggbbldoopfejaaPh
namespace Go.Sim
open Go.Proofs Go.Plain
set_option maxRecDepth 100000
set_option linter.unusedSimpArgs false
set_option linter.unusedVariables false
attribute [-simp] List.map_set List.map_take List.map_drop
attribute [local simp] take_map' drop_map' take_app1 giveK_length
theorem GoodTurns.wf' {ow : List Turn} (h : GoodTurns ow) : ∀ x ∈ ow, WfT x := fun x hx => wfT_valid (h.2 x hx)
theorem held_wf {ow : List Turn} {lk : List (List Turn)} {h : List Turn} (qv : ValidT ow lk) (h0 : heldT ow lk h = 0) : ∀ x ∈ h, WfT x := fun x hx => GoodTurns.wf' qv.owns x (((heldT_zero qv).1 h0).2.2 x hx)
set_option maxHeartbeats 4000000 in
theorem SwapPleased_ok (nums : List Int) : ACalls Try.prog 7 [ints nums] [] (fun r o => r = B true ∧ o = []) := by
 have F := Fx.nil
 refine ent Try.func7 Try.ntmps7 Try.results7 ?_
 refine rK [0] ?_
 refine W.seqR ?_
 refine oN 1 ?_
 refine oC [] ?_
 refine ct (DieOf_ok nums) ?_
 refine oN 1 ?_
 refine oK [3] ?_
 refine W.seqR ?_
 refine oN 1 ?_
 refine oC [(10000, 136)] ?_
 refine CallT.mkE (TradeOf_ok _ 6 (by omega)) (fun z19 hz19 => ⟨(by simp), ?_⟩)
 obtain ⟨⟨ow, lk, f2⟩, qz⟩ : ∃ z : List Turn × List (List Turn) × Int, z = z19 := ⟨z19, rfl⟩
 subst qz
 dsimp only at hz19
 have qv : ValidT ow lk := hz19.valid (by omega)
 have hn6 : ow.length ≤ 6 := hz19.most
 have hck : checkT ow lk = 0 := checkT_zero.2 qv
 have hsl : (swapT ow lk).length = ow.length := swap_length qv
 have qkl : lk.length = ow.length := qv.same
 have hs0 : heldT ow lk (swapT ow lk) = 0 := swap_held qv
 have hsp : pleaseT ow lk (swapT ow lk) = [] := swap_unpleased qv
 have qwf : ValidT ow lk → ∀ x ∈ swapT ow lk, WfT x := fun _ => held_wf qv hs0
 replace F := F.add hn6 |>.add hck |>.add hsl |>.add hs0 |>.add hsp
 refine WOps.norm (by simp [hn6, hck, hsl, hs0, hsp]; rfl) ?_
 refine fz 152 ?_
 refine fz 153 ?_
 refine oN 2 ?_
 refine oK [3, 4] ?_
 refine W.seqR ?_
 refine oN 1 ?_
 refine oC [] ?_
 refine ct (Swap_ok _ _) ?_
 refine oN 5 ?_
 refine oK [3, 4, 5, 6] ?_
 refine W.seqR ?_
 refine oN 2 ?_
 refine oC [] ?_
 refine ct (Pleases_ok _ _ _ (by assumption)) ?_
 refine oN 5 ?_
 refine oK [3, 4, 6, 7, 8] ?_
 refine W.seqk fun K1 hK1 => ?_
 refine W.seqR ?_
 refine oN 3 ?_
 refine gT ?_
 refine gT ?_
 refine oN 2 ?_
 refine gT ?_
 refine gT ?_
 refine gT ?_
 refine oN 1 ?_
 refine oK [3, 4, 41] ?_
 refine cF ?_
 refine W.skip ?_
 refine hK1 _ ?_
 clear hK1 K1
 refine W.seqR ?_
 refine oN 2 ?_
 refine oC [(10000, 136)] ?_
 refine CallT.mkE (HeldOf_ok _ _ _ (by omega)) (fun z44 hz44 => ⟨(by simp [hn6, hck, hsl, hs0, hsp]), ?_⟩)
 obtain ⟨⟨h0, f3⟩, qz4⟩ : ∃ z : List Turn × Int, z = z44 := ⟨z44, rfl⟩
 subst qz4
 dsimp only at hz44
 have qh0 : heldT ow lk h0 = 0 := (heldT_zero qv).2 ⟨hz44.length_eq, hz44.nodup_iff.2 qv.owns.1, fun x hx => hz44.mem_iff.1 hx⟩
 have qf0 : far ow lk h0 + 2 * 0 ≤ 54 := by have := far_le hz19 h0; have : (6 + 3) * ow.length ≤ 54 := Nat.le_trans (Nat.mul_le_mul_left 9 hn6) (by omega); omega
 refine WOps.norm (by simp [hn6, hck, hsl, hs0, hsp]; rfl) ?_
 refine oN 1 ?_
 refine oK [4, 9] ?_
 refine W.seqk fun K2 hK2 => ?_
 refine rK [4, 9, 10] ?_
 refine W.block ?_
 refine lpa (α := Nat × List Turn) [4] [52, 58, 60, 63, 81, 87, 90, 93, 107] [] (fun x => [(10, I x.1), (9, turns x.2)]) (fun x => []) (fun x => heldT ow lk x.2 = 0 ∧ far ow lk x.2 + 2 * x.1 ≤ 54) (fun x => 40 - x.1) (0, h0) ?_ ?_
 ·
  exact ⟨qh0, qf0⟩
 ·
  intro ⟨r, h⟩ hI0
  simp only [List.cons_append, List.nil_append]
  try dsimp only at hI0
  obtain ⟨hh0, hfar⟩ := hI0
  replace F := F.add hh0
  refine W.seqk fun K3 hK3 => ?_
  have hr40 : (r : Int) < 40 := by omega
  have qhhl : h.length = ow.length := ((heldT_zero qv).1 hh0).1
  have qwf2 : ValidT ow lk → ∀ x ∈ h, WfT x := fun _ => held_wf qv hh0
  replace F := F.add hr40
  refine rK [4, 9, 10, 46] ?_
  refine cT ?_
  refine W.skip ?_
  refine hK3 _ ?_
  clear hK3 K3
  refine W.seqk fun K4 hK4 => ?_
  refine W.block ?_
  by_cases hno : pleaseT ow lk h = []
  ·
   replace F := F.add hno
   refine W.seqR ?_
   refine oN 2 ?_
   refine oC [] ?_
   refine ct (Pleases_ok _ _ _ qwf2) ?_
   refine oN 5 ?_
   refine oK [4, 9, 10, 11, 12] ?_
   refine W.seqk fun K5 hK5 => ?_
   refine rK [4, 9, 10, 11, 56] ?_
   refine cF ?_
   refine W.skip ?_
   refine hK5 _ ?_
   clear hK5 K5
   refine W.seqk fun K6 hK6 => ?_
   refine rK [4, 9, 10, 11, 59] ?_
   refine cT ?_
   refine W.seqR ?_
   refine oC [] ?_
   refine ct (awake_ok) ?_
   refine oN 1 ?_
   refine oK [2] ?_
   refine W.ret ?_
   refine tr (br (tr (tr (br (tr ?_)))))
   clear hK6 K6 hK4 K4 hK2 K2
   exact er0 false [] []
  ·
   replace F := F.add hno
   obtain ⟨qp1, qp2⟩ := pleaseT_ok hno
   obtain ⟨l, qpl⟩ : ∃ l, pleaseT ow lk h = l := ⟨_, rfl⟩
   have hpl := qpl
   rw [hpl] at qp1 qp2 hno
   have hl0 : 0 < l.length := List.length_pos_iff.2 hno
   have hl00 : ¬ l.length = 0 := by omega
   have qln : ∀ y ∈ l, y < ow.length := fun y hy => (qp2 y hy).1
   have hl8 : l.length ≤ 8 := by
     have qpa := plz_all.1 qp1
     refine Nat.le_trans (le_of_nodup_lt (n := ow.length) (nodup_of_inj fun i j hij hj he => ?_) qln) (by omega)
     have hjl : j < l.length := by omega
     refine (qpa.1 j hjl).1 (List.mem_take_iff_getElem.2 ⟨i, by omega, ?_⟩)
     rw [List.getElem?_eq_getElem (by omega), List.getElem?_eq_getElem hjl] at he
     rw [nth_get hjl]; exact Option.some.inj he
   have hplz : plzR ow lk h l = true := qp1
   have qg1 := (ring_held qv hh0 qp1 qln).1
   have qg2 := ring_far qv hh0 qp1 qln
   replace F := F.add hpl |>.add hl0 |>.add hl00 |>.add hl8 |>.add hplz
   refine W.seqR ?_
   refine oN 2 ?_
   refine oC [] ?_
   refine ct (Pleases_ok _ _ _ qwf2) ?_
   refine oN 5 ?_
   refine oK [4, 9, 10, 11, 12] ?_
   refine W.seqk fun K7 hK7 => ?_
   refine rK [4, 9, 10, 11, 56] ?_
   refine cF ?_
   refine W.skip ?_
   refine hK7 _ ?_
   clear hK7 K7
   refine W.seqk fun K8 hK8 => ?_
   refine rK [4, 9, 10, 11, 59] ?_
   refine cF ?_
   refine W.skip ?_
   refine hK8 _ ?_
   clear hK8 K8
   refine W.seqk fun K9 hK9 => ?_
   refine rK [4, 9, 10, 11, 13] ?_
   refine W.block ?_
   refine lpa (α := Nat) [4, 9, 10, 11] [63, 81] [] (fun k => [(13, I k)]) (fun k => []) (fun k => k ≤ l.length) (fun k => l.length - k) 0 v0 ?_
   ·
    intro k hI1
    simp only [List.cons_append, List.nil_append]
    try dsimp only at hI1
    replace F := F.add hI1
    refine W.seqk fun K10 hK10 => ?_
    refine rK [4, 9, 10, 11, 13, 64] ?_
    refine it (fun hc7 => ?_) (fun hc7 => ?_)
    ·
     try simp at hc7
     replace F := F.add hc7
     refine W.skip ?_
     refine hK10 _ ?_
     clear hK10 K10
     refine W.seqk fun K11 hK11 => ?_
     refine W.block ?_
     have hkl2 : k < l.length := by omega
     have hx1 : l[k] < h.length := by have := qln _ (List.getElem_mem hkl2); omega
     have hx2 : ¬ l[k] < l[0] := by
       have := (qp2 _ (List.getElem_mem hkl2)).2
       rw [nth_get hl0] at this; omega
     replace F := F.add hkl2 |>.add hx1 |>.add hx2
     refine wD 15 [] [[], [], [1, 0], [0, 1, 2], [], [4], [4, 5], [5, 4, 6, 2, 1, 0, 3], [3, 0, 1, 2, 6, 4, 5, 7], [7, 5, 4, 6, 2, 1, 0, 3, 8], [7, 5, 4, 6, 2, 1, 0, 3, 8], [10, 8, 3, 0, 1, 2, 6, 4, 5, 7, 9], [9, 7, 5, 4, 6, 2, 1, 0, 3, 8, 10, 11], [7, 5, 4, 6, 2, 1, 0, 3, 8], [8, 3, 0, 1, 2, 6, 4, 5, 7, 13], [13, 14, 11, 10, 8, 3, 0, 1, 2, 6, 4, 5, 7, 9, 12], [12, 9, 10, 11, 14, 13, 15, 7, 5, 4, 6, 2, 1, 0, 3, 8]] ?_
     refine dN 9 6 ?_
     refine dT ?_
     refine dT ?_
     refine dT ?_
     refine dT ?_
     refine dT ?_
     refine dT ?_
     refine dD ?_
     refine gT ?_
     refine oN 1 ?_
     refine oK [4, 9, 10, 11, 13, 83] ?_
     refine cF ?_
     refine W.skip ?_
     refine hK11 _ ?_
     clear hK11 K11
     refine rEw ?_
     refine ⟨k + 1, lf0, v0, v0⟩
    ·
     try simp at hc7
     replace F := F.add hc7
     refine W.exit ?_
     refine hK9 _ ?_
     clear hK10 K10 hK9 K9
     refine W.seqk fun K12 hK12 => ?_
     refine W.seqR ?_
     refine oN 3 ?_
     refine oC [] ?_
     refine ct (Please_ok ow lk h qv qhhl l qln hl8) ?_
     refine oN 1 ?_
     refine oK [4, 9, 10, 11, 88] ?_
     refine cF ?_
     refine W.skip ?_
     refine hK12 _ ?_
     clear hK12 K12
     refine W.seqR ?_
     refine oN 1 ?_
     refine oC [] ?_
     refine ct (CopyTurns_ok _ (by omega)) ?_
     refine oN 1 ?_
     refine oK [4, 9, 10, 11, 14] ?_
     refine W.seqk fun K13 hK13 => ?_
     refine rK [4, 9, 10, 11, 14, 15] ?_
     refine W.block ?_
     refine lp (α := Nat) [4, 9, 10, 11] [93, 107] [720] (fun j => [(15, I j), (14, .own 720 0 h.length)]) (fun j => [(720, .row true 55 2 ((giveK h l h j).map T))]) (fun j => j ≤ l.length) (fun j => l.length - j) 0 ?_ ?_ v0 ?_
     ·
      exact v1
     ·
      try (simp [Fx.get F])
      all_goals (
       rfl
      )
     ·
      intro j hI2
      simp only [List.cons_append, List.nil_append]
      try dsimp only at hI2
      replace F := F.add hI2
      refine W.seqk fun K14 hK14 => ?_
      refine rK [4, 9, 10, 11, 14, 15, 94] ?_
      refine it (fun hc10 => ?_) (fun hc10 => ?_)
      ·
       try simp at hc10
       replace F := F.add hc10
       refine W.skip ?_
       refine hK14 _ ?_
       clear hK14 K14
       refine W.seqk fun K15 hK15 => ?_
       refine W.block ?_
       have hjl : j < l.length := by omega
       obtain ⟨n, qn⟩ : ∃ n, n = (j + 1) % l.length := ⟨_, rfl⟩
       have hmod : Int.tmod ((j : Int) + 1) ((l.length : Nat) : Int) = (n : Int) := by rw [qn]; rfl
       have hml : n < l.length := qn ▸ Nat.mod_lt _ (by omega)
       have hx3 : l[j] < h.length := by have := qln _ (List.getElem_mem hjl); omega
       have hx4 : l[n] < h.length := by have := qln _ (List.getElem_mem hml); omega
       have hgv := giveK_at (ow := h) (out := h) hjl qn hml hx4
       replace F := F.add hjl |>.add hmod |>.add hml |>.add hx3 |>.add hx4 |>.add hgv
       refine wDe 16 [] [[], [], [], [2, 1], [1, 2, 3], [], [], [], [7], [], [9], [9, 10, 7, 8], [8, 7, 10, 9, 11, 6], [6, 11, 9, 10, 7, 8, 12], [12, 8, 7, 10, 9, 11, 6, 13, 5], [5, 13, 6, 11, 9, 10, 7, 8, 12, 14], [15, 14, 13, 12, 11, 10, 9, 8, 7, 6, 5, 3, 2, 1, 4, 0], [0, 4, 1, 2, 3, 5, 6, 7, 8, 9, 10, 11, 12, 13, 14, 15, 16]] ?_
       refine dNw 16 0 ?_
       refine dD ?_
       refine oN 2 ?_
       refine WOps.endK ?_
       refine hK15 _ ?_
       clear hK15 K15
       refine rEw ?_
       refine ⟨j + 1, lf0, v0, v0⟩
      ·
       try simp at hc10
       replace F := F.add hc10
       refine W.exit ?_
       refine hK13 _ ?_
       clear hK14 K14 hK13 K13
       refine W.region ?_
       refine fz 720 ?_
       refine oN 2 ?_
       refine WOps.endK ?_
       refine hK4 _ ?_
       clear hK4 K4
       refine rEw ?_
       refine ⟨(r + 1, giveK h (pleaseT ow lk h) h (pleaseT ow lk h).length), lf ?_ ?_, v0, v0⟩
       ·
        try (simp [Fx.get F])
        all_goals (
         obtain rfl : j = l.length := by omega
         rw [List.take_of_length_le (by rw [giveK_length]; exact Nat.le_refl _)]
        )
       ·
        exact v1
end Go.Sim
