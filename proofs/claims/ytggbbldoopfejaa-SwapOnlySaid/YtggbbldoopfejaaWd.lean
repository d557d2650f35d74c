/- SwapOnly: the law's walk. -/
import Derived.Test.YtggbbldoopfejaaVu
import Derived.Test.YtggbbldoopfejaaWc
import Derived.Test.YtggbbldoopfejaaPg
namespace Go.Sim
open Go.Proofs Go.Plain
set_option maxRecDepth 100000
set_option linter.unusedSimpArgs false
set_option linter.unusedVariables false
attribute [-simp] List.map_set List.map_take List.map_drop
attribute [local simp] take_map' drop_map' take_app1
theorem GoodTurns.wf {ow : List Turn} (h : GoodTurns ow) : ∀ x ∈ ow, WfT x := fun x hx => wfT_valid (h.2 x hx)
theorem seen_same {L : List (List Turn)} {x : List Turn} {i : Nat} (hi : i < L.length) (h : L[i] = x) : (if x ∈ L.take i then AV.val (.bool true) else if x ∈ L.take i then AV.dead else B true) = B (decide (x ∈ L.take (i + 1))) := by
  have e : (x ∈ L.take (i + 1)) = True := eq_true (by rw [List.take_succ_eq_append_getElem hi, h]; exact List.mem_append_right _ (List.mem_singleton.2 rfl))
  by_cases hx : x ∈ L.take i
  · rw [if_pos hx]; simp [e]
  · rw [if_neg hx, if_neg hx]; simp [e]
theorem seen_other {L : List (List Turn)} {x : List Turn} {i : Nat} (hi : i < L.length) (h : ¬ L[i] = x) : (if x ∈ L.take i then AV.val (.bool true) else if x ∈ L.take i then AV.dead else B false) = B (decide (x ∈ L.take (i + 1))) := by
  have e : (x ∈ L.take (i + 1)) = (x ∈ L.take i) := propext (by rw [List.take_succ_eq_append_getElem hi, List.mem_append, List.mem_singleton]; exact ⟨fun a => a.resolve_right fun e => h e.symm, .inl⟩)
  by_cases hx : x ∈ L.take i
  · rw [if_pos hx]; simp [e, hx]
  · rw [if_neg hx, if_neg hx]; simp [e, hx]
set_option maxHeartbeats 4000000 in
theorem SwapOnly_ok (nums : List Int) : ACalls Try.prog 6 [ints nums] [] (fun r o => r = B true ∧ o = []) := by
 have F := Fx.nil
 refine ent Try.func6 Try.ntmps6 Try.results6 ?_
 refine rK [0] ?_
 refine W.seqR ?_
 refine oN 1 ?_
 refine oC [] ?_
 refine ct (DieOf_ok nums) ?_
 refine oC [(10000, 112)] ?_
 refine CallT.mkE (TradeOf_ok _ 4 (by omega)) (fun z15 hz15 => ⟨(by simp), ?_⟩)
 obtain ⟨⟨ow, lk, f2⟩, qz⟩ : ∃ z : List Turn × List (List Turn) × Int, z = z15 := ⟨z15, rfl⟩
 subst qz
 dsimp only at hz15
 have qv : ValidT ow lk := hz15.valid (by omega)
 have hn4 : ow.length ≤ 4 := hz15.most
 have hck : checkT ow lk = 0 := checkT_zero.2 qv
 have hsl : (swapT ow lk).length = ow.length := swap_length qv
 have qkl : lk.length = ow.length := qv.same
 have qow := GoodTurns.wf qv.owns
 obtain ⟨L, hL⟩ : ∃ L, allT ow ow.length [] = L := ⟨_, rfl⟩
 have qLl : L.length ≤ 256 := by rw [← hL]; exact Nat.le_trans (allT_many hn4 _ _) (Nat.pow_le_pow_right (n := 4) (by omega) hn4)
 have qall : ∀ h ∈ L, heldT ow lk h = 0 ∧ h.length = ow.length ∧ ∀ x ∈ h, WfT x := fun h hh => by
   rw [← hL, allT_nil] at hh
   exact ⟨(heldT_zero qv).2 ⟨hh.1, hh.2.2, hh.2.1⟩, hh.1, fun x hx => qow x (hh.2.1 x hx)⟩
 have qin : swapT ow lk ∈ L := by
   obtain ⟨a, b, c⟩ := (heldT_zero qv).1 (swap_held qv)
   rw [← hL, allT_nil]; exact ⟨a, c, b⟩
 have hall := all_ok ow lk hn4 ow.length [] (by simp)
 rw [hL] at hall
 have qwfs : ValidT ow lk → ∀ x ∈ swapT ow lk, WfT x := fun _ => (qall _ qin).2.2
 replace F := F.add hn4 |>.add hck |>.add hsl |>.add hall
 refine WOps.norm (by simp [hn4, hck, hsl, hall]; rfl) ?_
 refine fz 120 ?_
 refine fz 121 ?_
 refine oN 2 ?_
 refine oK [3] ?_
 refine W.seqR ?_
 refine oN 1 ?_
 refine oC [] ?_
 refine ct (Swap_ok _ _) ?_
 refine oN 5 ?_
 refine oK [3, 4, 5] ?_
 refine W.seqk fun K1 hK1 => ?_
 refine rK [3, 4, 22] ?_
 refine cF ?_
 refine W.skip ?_
 refine hK1 _ ?_
 clear hK1 K1
 refine W.seqR ?_
 refine oN 1 ?_
 refine oC [] ?_
 refine ct (hall) ?_
 refine oN 1 ?_
 refine oK [3, 4, 6] ?_
 refine rK [3, 4, 6, 7] ?_
 refine W.seqk fun K2 hK2 => ?_
 refine rK [3, 4, 6, 7, 8] ?_
 refine W.block ?_
 refine lpa (α := Nat) [3, 4, 6] [27, 37, 45, 55, 61, 77, 105] [] (fun i => [(8, I i), (7, B (decide (swapT ow lk ∈ L.take i)))]) (fun i => []) (fun i => i ≤ L.length) (fun i => L.length - i) 0 v0 ?_
 ·
  intro i hI0
  simp only [List.cons_append, List.nil_append]
  try dsimp only at hI0
  replace F := F.add hI0
  refine W.seqk fun K3 hK3 => ?_
  refine rK [3, 4, 6, 7, 8, 28] ?_
  refine it (fun hc2 => ?_) (fun hc2 => ?_)
  ·
   try simp at hc2
   replace F := F.add hc2
   have hiL : i < L.length := by omega
   obtain ⟨qh0, qhhl, qhw⟩ := qall L[i] (List.getElem_mem hiL)
   have hh0 := qh0
   have qwf : ValidT ow lk → ∀ x ∈ L[i], WfT x := fun _ => qhw
   replace F := F.add hiL |>.add hh0
   refine W.skip ?_
   refine hK3 _ ?_
   clear hK3 K3
   refine W.seqk fun K4 hK4 => ?_
   refine W.block ?_
   by_cases hsame : L[i] = swapT ow lk
   ·
    replace F := F.add hsame
    have hb0 : blocksT ow lk (swapT ow lk) = [] := swap_unblocked qv
    have hh00 : heldT ow lk (swapT ow lk) = 0 := swap_held qv
    have qb0 : blocksT ow lk L[i] = [] := by rw [hsame]; exact hb0
    have qb2 : ∀ y ∈ blocksT ow lk L[i], y < ow.length := by rw [qb0]; simp
    have qb3 : (blocksT ow lk L[i]).Pairwise (· < ·) := by rw [qb0]; exact List.Pairwise.nil
    replace F := F.add hb0 |>.add hh00
    refine wD 10 [] [[], [], [], [2, 1], [1, 2, 3], [3, 2, 1, 4, 0], [0, 4, 1, 2, 3, 5], [5, 3, 2, 1, 4, 0, 6], [5, 3, 2, 1, 4, 0, 6], [6, 0, 4, 1, 2, 3, 5, 7], [7, 9, 6, 0, 4, 1, 2, 3, 5, 8]] ?_
    refine dN 5 5 ?_
    refine dC [] ?_
    refine cd (Blocks_ok _ _ _ qwfs) ?_
    refine dN 4 0 ?_
    refine dD ?_
    refine oN 1 ?_
    refine oK [3, 4, 6, 7, 8, 9, 10] ?_
    refine W.seqR ?_
    refine oN 5 ?_
    refine oC [] ?_
    refine ct (SameTurns_ok _ _) ?_
    refine oN 1 ?_
    refine oK [3, 4, 6, 7, 8, 9, 10, 11] ?_
    refine W.seqR ?_
    refine oN 2 ?_
    refine gX ?_
    refine oN 2 ?_
    refine oK [3, 4, 6, 7, 8, 9, 10, 11] ?_
    refine W.seqk fun K5 hK5 => ?_
    refine W.seqR ?_
    refine oN 3 ?_
    refine gT ?_
    refine gT ?_
    refine gT ?_
    refine gT ?_
    refine gT ?_
    refine oN 1 ?_
    refine oK [3, 4, 6, 7, 8, 9, 11, 58] ?_
    refine cF ?_
    refine W.skip ?_
    refine hK5 _ ?_
    clear hK5 K5
    refine W.seqk fun K6 hK6 => ?_
    refine rK [3, 4, 6, 7, 8, 9, 11, 12] ?_
    refine W.block ?_
    refine lpa (α := Nat) [3, 4, 6, 7, 8, 9, 11] [61, 77] [] (fun k => [(12, I k)]) (fun k => []) (fun k => k ≤ (blocksT ow lk L[i]).length) (fun k => (blocksT ow lk L[i]).length - k) 0 v0 ?_
    ·
     intro k hI1
     simp only [List.cons_append, List.nil_append]
     try dsimp only at hI1
     replace F := F.add hI1
     refine W.seqk fun K7 hK7 => ?_
     refine rK [3, 4, 6, 7, 8, 9, 11, 12, 62] ?_
     refine cF ?_
     refine W.exit ?_
     refine hK6 _ ?_
     clear hK7 K7 hK6 K6
     refine wD 9 [] [[], [0], [0, 1], [1, 0, 2], [1, 0, 2], [1, 0, 2], [5, 2, 0, 1, 4], [4, 1, 0, 2, 5, 6], [1, 0, 2], [8, 6, 5, 4, 7, 2, 0, 1, 3], [3, 1, 0, 2, 7, 4, 5, 6, 8, 9], [9, 8, 6, 5, 4, 7, 3, 10, 1, 0, 2]] ?_
     refine dN 3 6 ?_
     refine dF ?_
     refine dF ?_
     refine dF ?_
     refine dF ?_
     refine dF ?_
     refine dF ?_
     refine dD ?_
     refine gF ?_
     refine gF ?_
     refine oN 1 ?_
     refine oK [3, 4, 6, 7, 8, 107] ?_
     refine cF ?_
     refine W.skip ?_
     refine hK4 _ ?_
     clear hK4 K4
     refine rEw ?_
     refine ⟨i + 1, lf ?_ ?_, v0, v0⟩
     ·
      try (simp [Fx.get F])
      all_goals (
       exact seen_same hiL hsame
      )
     ·
      exact v1
   ·
    replace F := F.add hsame
    have qb1 := other_blocked qv hh0 hsame
    have hb1 : ¬ (blocksT ow lk L[i]).length = 0 := fun h => qb1 (List.eq_nil_of_length_eq_zero h)
    obtain ⟨qb2, qb3, qb4⟩ := blocksT_ok hh0 qb1
    have hb5 : rblkG ow lk L[i] (blocksT ow lk L[i]) = true := by rw [rblkG_eq qv qb2]; exact qb4
    have hb6 : (blocksT ow lk L[i]).length ≤ 4 := Nat.le_trans (le_of_nodup_lt (qb3.imp fun h => Nat.ne_of_lt h) qb2) hn4
    replace F := F.add hb1 |>.add hb5 |>.add hb6
    refine wD 10 [] [[], [], [], [2, 1], [1, 2, 3], [3, 2, 1, 4, 0], [0, 4, 1, 2, 3, 5], [5, 3, 2, 1, 4, 0, 6], [5, 3, 2, 1, 4, 0, 6], [6, 0, 4, 1, 2, 3, 5, 7], [7, 9, 6, 0, 4, 1, 2, 3, 5, 8]] ?_
    refine dN 5 5 ?_
    refine dC [] ?_
    refine cd (Blocks_ok _ _ _ qwf) ?_
    refine dN 4 0 ?_
    refine dD ?_
    refine oN 1 ?_
    refine oK [3, 4, 6, 7, 8, 9, 10] ?_
    refine W.seqR ?_
    refine oN 5 ?_
    refine oC [] ?_
    refine ct (SameTurns_ok _ _) ?_
    refine oN 1 ?_
    refine oK [3, 4, 6, 7, 8, 9, 10, 11] ?_
    refine W.seqR ?_
    refine oN 2 ?_
    refine gX ?_
    refine oN 2 ?_
    refine oK [3, 4, 6, 7, 8, 9, 10, 11] ?_
    refine W.seqk fun K8 hK8 => ?_
    refine W.seqR ?_
    refine oN 3 ?_
    refine gT ?_
    refine gT ?_
    refine gT ?_
    refine gT ?_
    refine gT ?_
    refine oN 1 ?_
    refine oK [3, 4, 6, 7, 8, 9, 11, 58] ?_
    refine cF ?_
    refine W.skip ?_
    refine hK8 _ ?_
    clear hK8 K8
    refine W.seqk fun K9 hK9 => ?_
    refine rK [3, 4, 6, 7, 8, 9, 11, 12] ?_
    refine W.block ?_
    refine lpa (α := Nat) [3, 4, 6, 7, 8, 9, 11] [61, 77] [] (fun k => [(12, I k)]) (fun k => []) (fun k => k ≤ (blocksT ow lk L[i]).length) (fun k => (blocksT ow lk L[i]).length - k) 0 v0 ?_
    ·
     intro k hI1
     simp only [List.cons_append, List.nil_append]
     try dsimp only at hI1
     replace F := F.add hI1
     refine W.seqk fun K10 hK10 => ?_
     refine rK [3, 4, 6, 7, 8, 9, 11, 12, 62] ?_
     refine it (fun hc7 => ?_) (fun hc7 => ?_)
     ·
      try simp at hc7
      replace F := F.add hc7
      refine W.skip ?_
      refine hK10 _ ?_
      clear hK10 K10
      refine W.seqk fun K11 hK11 => ?_
      refine W.block ?_
      by_cases hk0 : 0 < k
      ·
       replace F := F.add hk0
       have hk2 : ((k : Int) - 1).toNat = k - 1 := by omega
       have hk6 : (1 : Int) ≤ k := by omega
       have hk7 : (k : Int) - 1 < ((blocksT ow lk L[i]).length : Int) := by omega
       have hk3 : k - 1 < (blocksT ow lk L[i]).length := by omega
       have hk4 : ¬ (blocksT ow lk L[i])[k] ≤ (blocksT ow lk L[i])[k - 1] := Nat.not_le.2 (List.pairwise_iff_getElem.1 qb3 _ _ _ _ (by omega))
       replace F := F.add hk2 |>.add hk6 |>.add hk7 |>.add hk3 |>.add hk4
       have hkb : k < (blocksT ow lk L[i]).length := by omega
       have hk1 : ¬ ow.length ≤ (blocksT ow lk L[i])[k] := Nat.not_le.2 (qb2 _ (List.getElem_mem hkb))
       have hk5 : ¬ (((blocksT ow lk L[i])[k] : Nat) : Int) < 0 := Int.not_lt.2 (Int.natCast_nonneg _)
       replace F := F.add hkb |>.add hk1 |>.add hk5
       refine wD 28 [] [[], [], [1, 0], [0, 1, 2], [2, 1, 0, 3], [3, 0, 1, 2, 4], [4, 2, 1, 0, 3, 5], [4, 2, 1, 0, 3, 5], [7, 5, 3, 0, 1, 2, 4, 6], [6, 4, 2, 1, 0, 3, 5, 7, 8], [4, 2, 1, 0, 3, 5], [5, 3, 0, 1, 2, 4, 10], [10, 4, 2, 1, 0, 3, 5, 11], [11, 10, 12, 8, 7, 5, 3, 0, 1, 2, 4, 6, 9], [9, 6, 7, 8, 12, 10, 11, 13, 4, 2, 1, 0, 3, 5], [5, 3, 0, 1, 2, 4, 13, 11, 10, 12, 8, 7, 6, 9, 14], [14, 9, 6, 7, 8, 12, 10, 11, 13, 4, 2, 1, 0, 3, 5, 15], [15, 5, 3, 0, 1, 2, 4, 13, 11, 10, 12, 8, 7, 6, 9, 14, 16], [16, 14, 9, 6, 7, 8, 12, 10, 11, 13, 4, 2, 1, 0, 3, 5, 15, 17], [17, 15, 5, 3, 0, 1, 2, 4, 13, 11, 10, 12, 8, 7, 6, 9, 14, 16, 18], [17, 15, 5, 3, 0, 1, 2, 4, 13, 11, 10, 12, 8, 7, 6, 9, 14, 16, 18], [20, 18, 16, 14, 9, 6, 7, 8, 12, 10, 11, 13, 4, 2, 1, 0, 3, 5, 15, 17, 19], [19, 17, 15, 5, 3, 0, 1, 2, 4, 13, 11, 10, 12, 8, 7, 6, 9, 14, 16, 18, 20, 21], [17, 15, 5, 3, 0, 1, 2, 4, 13, 11, 10, 12, 8, 7, 6, 9, 14, 16, 18], [17, 15, 5, 3, 0, 1, 2, 4, 13, 11, 10, 12, 8, 7, 6, 9, 14, 16, 18], [18, 16, 14, 9, 6, 7, 8, 12, 10, 11, 13, 4, 2, 1, 0, 3, 5, 15, 17, 24], [24, 25, 18, 16, 14, 9, 6, 7, 8, 12, 10, 11, 13, 4, 2, 1, 0, 3, 5, 15, 17, 23], [23, 17, 15, 5, 3, 0, 1, 2, 4, 13, 11, 10, 12, 8, 7, 6, 9, 14, 16, 18, 25, 24, 26], [26, 24, 25, 23, 27, 21, 20, 18, 16, 14, 9, 6, 7, 8, 12, 10, 11, 13, 4, 2, 1, 0, 3, 5, 15, 17, 19, 22], [22, 19, 20, 21, 27, 23, 25, 24, 26, 28, 17, 15, 5, 3, 0, 1, 2, 4, 13, 11, 10, 12, 8, 7, 6, 9, 14, 16, 18], [18, 16, 17, 28, 26, 24, 25, 23, 27, 21, 20, 19, 22, 29, 14, 9, 6, 7, 8, 12, 10, 11, 13, 4, 2, 1, 0, 3, 5, 15]] ?_
       refine dN 6 22 ?_
       refine dT ?_
       refine dT ?_
       refine dT ?_
       refine dT ?_
       refine dT ?_
       refine dT ?_
       refine dT ?_
       refine dT ?_
       refine dN 2 12 ?_
       refine dT ?_
       refine dT ?_
       refine dT ?_
       refine dT ?_
       refine dT ?_
       refine dT ?_
       refine dT ?_
       refine dT ?_
       refine dT ?_
       refine dTw ?_
       refine dT ?_
       refine dT ?_
       refine dD ?_
       refine gT ?_
       refine gT ?_
       refine oN 1 ?_
       refine oK [3, 4, 6, 7, 8, 9, 11, 12, 95] ?_
       refine cF ?_
       refine W.skip ?_
       refine hK11 _ ?_
       clear hK11 K11
       refine rEw ?_
       refine ⟨k + 1, lf0, v0, v0⟩
      ·
       replace F := F.add hk0
       have hkb : k < (blocksT ow lk L[i]).length := by omega
       have hk1 : ¬ ow.length ≤ (blocksT ow lk L[i])[k] := Nat.not_le.2 (qb2 _ (List.getElem_mem hkb))
       have hk5 : ¬ (((blocksT ow lk L[i])[k] : Nat) : Int) < 0 := Int.not_lt.2 (Int.natCast_nonneg _)
       replace F := F.add hkb |>.add hk1 |>.add hk5
       refine wD 28 [] [[], [], [1, 0], [0, 1, 2], [2, 1, 0, 3], [3, 0, 1, 2, 4], [4, 2, 1, 0, 3, 5], [4, 2, 1, 0, 3, 5], [7, 5, 3, 0, 1, 2, 4, 6], [6, 4, 2, 1, 0, 3, 5, 7, 8], [4, 2, 1, 0, 3, 5], [5, 3, 0, 1, 2, 4, 10], [10, 4, 2, 1, 0, 3, 5, 11], [11, 10, 12, 8, 7, 5, 3, 0, 1, 2, 4, 6, 9], [9, 6, 7, 8, 12, 10, 11, 13, 4, 2, 1, 0, 3, 5], [5, 3, 0, 1, 2, 4, 13, 11, 10, 12, 8, 7, 6, 9, 14], [14, 9, 6, 7, 8, 12, 10, 11, 13, 4, 2, 1, 0, 3, 5, 15], [15, 5, 3, 0, 1, 2, 4, 13, 11, 10, 12, 8, 7, 6, 9, 14, 16], [16, 14, 9, 6, 7, 8, 12, 10, 11, 13, 4, 2, 1, 0, 3, 5, 15, 17], [17, 15, 5, 3, 0, 1, 2, 4, 13, 11, 10, 12, 8, 7, 6, 9, 14, 16, 18], [17, 15, 5, 3, 0, 1, 2, 4, 13, 11, 10, 12, 8, 7, 6, 9, 14, 16, 18], [20, 18, 16, 14, 9, 6, 7, 8, 12, 10, 11, 13, 4, 2, 1, 0, 3, 5, 15, 17, 19], [19, 17, 15, 5, 3, 0, 1, 2, 4, 13, 11, 10, 12, 8, 7, 6, 9, 14, 16, 18, 20, 21], [17, 15, 5, 3, 0, 1, 2, 4, 13, 11, 10, 12, 8, 7, 6, 9, 14, 16, 18], [17, 15, 5, 3, 0, 1, 2, 4, 13, 11, 10, 12, 8, 7, 6, 9, 14, 16, 18], [18, 16, 14, 9, 6, 7, 8, 12, 10, 11, 13, 4, 2, 1, 0, 3, 5, 15, 17, 24], [24, 25, 18, 16, 14, 9, 6, 7, 8, 12, 10, 11, 13, 4, 2, 1, 0, 3, 5, 15, 17, 23], [23, 17, 15, 5, 3, 0, 1, 2, 4, 13, 11, 10, 12, 8, 7, 6, 9, 14, 16, 18, 25, 24, 26], [26, 24, 25, 23, 27, 21, 20, 18, 16, 14, 9, 6, 7, 8, 12, 10, 11, 13, 4, 2, 1, 0, 3, 5, 15, 17, 19, 22], [22, 19, 20, 21, 27, 23, 25, 24, 26, 28, 17, 15, 5, 3, 0, 1, 2, 4, 13, 11, 10, 12, 8, 7, 6, 9, 14, 16, 18], [18, 16, 17, 28, 26, 24, 25, 23, 27, 21, 20, 19, 22, 29, 14, 9, 6, 7, 8, 12, 10, 11, 13, 4, 2, 1, 0, 3, 5, 15]] ?_
       refine dN 6 22 ?_
       refine dT ?_
       refine dT ?_
       refine dT ?_
       refine dT ?_
       refine dT ?_
       refine dT ?_
       refine dT ?_
       refine dT ?_
       refine dN 2 12 ?_
       refine dT ?_
       refine dT ?_
       refine dT ?_
       refine dF ?_
       refine dF ?_
       refine dF ?_
       refine dF ?_
       refine dF ?_
       refine dF ?_
       refine dF ?_
       refine dF ?_
       refine dF ?_
       refine dD ?_
       refine gF ?_
       refine gT ?_
       refine oN 1 ?_
       refine oK [3, 4, 6, 7, 8, 9, 11, 12, 95] ?_
       refine cF ?_
       refine W.skip ?_
       refine hK11 _ ?_
       clear hK11 K11
       refine rEw ?_
       refine ⟨k + 1, lf0, v0, v0⟩
     ·
      try simp at hc7
      replace F := F.add hc7
      refine W.exit ?_
      refine hK9 _ ?_
      clear hK10 K10 hK9 K9
      refine wD 9 [] [[], [0], [0, 1], [1, 0, 2], [1, 0, 2], [1, 0, 2], [5, 2, 0, 1, 4], [4, 1, 0, 2, 5, 6], [1, 0, 2], [8, 6, 5, 4, 7, 2, 0, 1, 3], [3, 1, 0, 2, 7, 4, 5, 6, 8, 9], [9, 8, 6, 5, 4, 7, 3, 10, 1, 0, 2]] ?_
      refine dN 3 6 ?_
      refine dT ?_
      refine dT ?_
      refine dT ?_
      refine dT ?_
      refine dT ?_
      refine dT ?_
      refine dD ?_
      refine gC [] ?_
      refine ct (Block_ok ow lk L[i] (blocksT ow lk L[i]) qv qhhl qb2 (by omega) (by omega)) ?_
      refine gT ?_
      refine oN 1 ?_
      refine oK [3, 4, 6, 7, 8, 107] ?_
      refine cF ?_
      refine W.skip ?_
      refine hK4 _ ?_
      clear hK4 K4
      refine rEw ?_
      refine ⟨i + 1, lf ?_ ?_, v0, v0⟩
      ·
       try (simp [Fx.get F])
       all_goals (
        exact seen_other hiL hsame
       )
      ·
       exact v1
  ·
   try simp at hc2
   replace F := F.add hc2
   refine W.exit ?_
   refine hK2 _ ?_
   clear hK3 K3 hK2 K2
   refine W.seqR ?_
   refine oN 2 ?_
   refine gXc ?_
   refine cx (fun hg => by (try simp at hg); exact awake_ok) ?_
   refine oN 2 ?_
   refine oK [2] ?_
   refine W.ret ?_
   refine er false [] [] ?_
   rw [List.take_of_length_le (by omega), decide_eq_true qin]
   exact ⟨rfl, rfl⟩
end Go.Sim
