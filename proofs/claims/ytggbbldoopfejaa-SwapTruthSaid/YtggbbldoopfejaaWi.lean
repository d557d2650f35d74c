/- SwapTruth: the law's walk. -/
import Derived.Test.YtggbbldoopfejaaVl
import Derived.Test.YtggbbldoopfejaaWf
import Derived.Test.YtggbbldoopfejaaPh
import Derived.Test.YtggbbldoopfejaaMc
namespace Go.Sim
open Go.Proofs Go.Plain
set_option maxRecDepth 100000
set_option linter.unusedSimpArgs false
set_option linter.unusedVariables false
attribute [-simp] List.map_take List.map_drop
attribute [local simp] take_map' drop_map' take_app1
def pickW (ow : List Turn) (s : List Nat) : List Turn := s.map fun k => nth ow k
theorem pickW_length (ow : List Turn) (s : List Nat) : (pickW ow s).length = s.length := by simp [pickW]
theorem pickW_nil (ow : List Turn) : pickW ow [] = [] := rfl
theorem pickW_snoc {ow : List Turn} {s : List Nat} {k : Nat} (hk : k < s.length) (hs : s[k] < ow.length) : (pickW ow (s.take k)).map T ++ [AV.agg [I ow[s[k]].1, I ow[s[k]].2]] = (pickW ow (s.take (k + 1))).map T := by
  rw [List.take_succ_eq_append_getElem hk, pickW, pickW, List.map_append]; simp [nth_get hs]
attribute [local simp] pickW_length pickW_nil
theorem frz_turns (id : Nat) (els : List AV) : AV.mapCells (AV.frz id els) ∘ turns = turns := funext fun _ => rfl
theorem ren_turns (ρ : Nat → Nat) : AV.mapCells (AV.ren ρ) ∘ turns = turns := funext fun _ => rfl
theorem kill_turns (id : Nat) : AV.mapCells (AV.kill id) ∘ turns = turns := funext fun _ => rfl
theorem data_set : ∀ {l : List AV} {i : Nat} {x : AV}, AV.isDataL l = true → x.isData = true → AV.isDataL (l.set i x) = true
  | [], _, _, _, _ => rfl
  | y :: ys, 0, x, h, hx => by simp only [AV.isDataL, Bool.and_eq_true, List.set_cons_zero] at h ⊢; exact ⟨hx, h.2⟩
  | y :: ys, i + 1, x, h, hx => by simp only [AV.isDataL, Bool.and_eq_true, List.set_cons_succ] at h ⊢; exact ⟨h.1, data_set h.2 hx⟩
theorem data_turns : ∀ lk : List (List Turn), AV.isDataL (lk.map turns) = true
  | [] => rfl
  | _ :: r => by simp only [List.map_cons, AV.isDataL, AV.isData, Bool.true_and]; exact data_turns r
theorem data_row (lk : List (List Turn)) (w : Nat) (l : List AV) : AV.isDataL ((lk.map turns).set w (.imm l)) = true := data_set (data_turns lk) rfl
theorem take_set' (lk : List (List Turn)) (w : Nat) (x : AV) : List.take lk.length ((lk.map turns).set w x) = (lk.map turns).set w x := List.take_of_length_le (by simp)
theorem trade_set (ow : List Turn) (lk : List (List Turn)) (w : Nat) (nl : List Turn) : trade ow (lk.set w nl) = .agg [.imm (ow.map T), .imm ((lk.map turns).set w (.imm (nl.map T)))] := by simp [List.map_set]
attribute [local simp] take_set'
attribute [local simp] frz_turns ren_turns kill_turns data_row
theorem told_valid {ow : List Turn} {lk : List (List Turn)} (hv : ValidT ow lk) (w : Nat) {s : List Nat} (hs : s.Nodup ∧ ∀ y ∈ s, y < ow.length) : ValidT ow (lk.set w (pickW ow s)) := by
  refine ⟨hv.most, by rw [List.length_set]; exact hv.same, hv.owns, fun q hq => ?_⟩
  rcases List.mem_or_eq_of_mem_set hq with h | rfl
  · exact hv.likes q h
  · refine ⟨⟨?_, fun x hx => ?_⟩, ?_⟩
    · refine nodup_of_inj fun i j hij hj h => ?_
      rw [pickW_length] at hj
      rw [List.getElem?_eq_getElem (by rw [pickW_length]; omega), List.getElem?_eq_getElem (by rw [pickW_length]; omega)] at h
      have e := Option.some.inj h
      simp only [pickW, List.getElem_map] at e
      have := (nodup_inj hs.1).1 (nth_injT hv.owns.1 (hs.2 _ (List.getElem_mem (by omega))) (hs.2 _ (List.getElem_mem hj)) e)
      omega
    · obtain ⟨k, hk, rfl⟩ := List.mem_map.1 hx
      rw [nth_get (hs.2 k hk)]; exact hv.owns.2 _ (List.getElem_mem _)
    · rw [pickW_length]; exact Nat.le_trans (le_of_nodup_lt hs.1 hs.2) (Nat.le_trans hv.most (by omega))
set_option maxHeartbeats 4000000 in
theorem SwapTruth_ok (nums : List Int) : ACalls Try.prog 8 [ints nums] [] (fun r o => r = B true ∧ o = []) := by
 have F := Fx.nil
 refine ent Try.func8 Try.ntmps8 Try.results8 ?_
 refine rK [0] ?_
 refine W.seqR ?_
 refine oN 1 ?_
 refine oC [] ?_
 refine ct (DieOf_ok nums) ?_
 refine oN 1 ?_
 refine oK [3] ?_
 refine W.seqR ?_
 refine oN 1 ?_
 refine oC [(10000, 120)] ?_
 refine CallT.mkE (TradeOf_ok _ 5 (by omega)) (fun z17 hz17 => ⟨(by simp), ?_⟩)
 obtain ⟨⟨ow, lk, f2⟩, qz⟩ : ∃ z : List Turn × List (List Turn) × Int, z = z17 := ⟨z17, rfl⟩
 subst qz
 dsimp only at hz17
 have qv : ValidT ow lk := hz17.valid (by omega)
 have hn5 : ow.length ≤ 5 := hz17.most
 have hck : checkT ow lk = 0 := checkT_zero.2 qv
 have hsl : (swapT ow lk).length = ow.length := swap_length qv
 have qkl : lk.length = ow.length := qv.same
 obtain ⟨L, hL⟩ : ∃ L, lisT ow.length ow.length [] = L := ⟨_, rfl⟩
 have qlist := lists_ok hn5 ow.length [] (by simp) (by simp) (by simp)
 rw [hL] at qlist
 have qall : ∀ s ∈ L, s.Nodup ∧ ∀ y ∈ s, y < ow.length := fun s hs => lisT_mem ow.length [] s (by simp) (by simp) (by rw [hL]; exact hs)
 have hLl : L.length ≤ 7776 := by
   rw [← hL]; exact Nat.le_trans (lisT_many hn5 _ _) (Nat.pow_le_pow_right (n := 6) (by omega) hn5)
 replace F := F.add hn5 |>.add hck |>.add hsl |>.add hLl
 refine WOps.norm (by simp [hn5, hck, hsl, hLl]; rfl) ?_
 refine fz 136 ?_
 refine fz 137 ?_
 refine oN 2 ?_
 refine oK [3, 4] ?_
 refine W.seqk fun K1 hK1 => ?_
 by_cases hn0 : ow.length = 0
 ·
  replace F := F.add hn0
  refine rK [3, 4, 21] ?_
  refine cT ?_
  refine W.seqR ?_
  refine oC [] ?_
  refine ct (awake_ok) ?_
  refine oN 1 ?_
  refine oK [2] ?_
  refine W.ret ?_
  refine tr ?_
  clear hK1 K1
  exact er0 false [] []
 ·
  replace F := F.add hn0
  have hn1 : ¬ ow = [] := fun h => hn0 (by rw [h]; rfl)
  replace F := F.add hn1
  refine rK [3, 4, 21] ?_
  refine cF ?_
  refine W.skip ?_
  refine hK1 _ ?_
  clear hK1 K1
  refine W.seqR ?_
  refine oN 4 ?_
  refine oC [(10000, 120)] ?_
  refine CallT.mk (Cast_ok f2 (ow.length : Int) (by omega)) (by simp [hn5, hck, hsl, hLl, hn0, hn1]) ?_
  have qc1 := castV_lo f2 (ow.length : Int)
  have qc2 := castV_hi f2 (ow.length : Int) (by omega)
  obtain ⟨w, hw⟩ : ∃ w : Nat, castV f2 (ow.length : Int) = (w : Int) := ⟨_, (Int.toNat_of_nonneg qc1).symm⟩
  have hcw := hw
  have hwo : w < ow.length := by omega
  have hwk : w < lk.length := by omega
  replace F := F.add hcw |>.add hwo |>.add hwk
  refine WOps.norm (by simp [hn5, hck, hsl, hLl, hn0, hn1, hcw, hwo, hwk]; rfl) ?_
  refine oN 1 ?_
  refine oK [4, 5] ?_
  refine W.seqR ?_
  refine oN 1 ?_
  refine oC [] ?_
  refine ct (Swap_ok _ _) ?_
  refine oN 5 ?_
  refine oK [4, 5, 6, 7] ?_
  refine W.seqk fun K2 hK2 => ?_
  refine W.seqR ?_
  refine oN 3 ?_
  refine gT ?_
  refine gT ?_
  refine gT ?_
  refine gT ?_
  refine gT ?_
  refine gT ?_
  refine oN 1 ?_
  refine oK [4, 5, 6, 42] ?_
  refine cF ?_
  refine W.skip ?_
  refine hK2 _ ?_
  clear hK2 K2
  refine W.seqR ?_
  refine oN 3 ?_
  refine oC [] ?_
  refine ct (qlist) ?_
  refine oN 1 ?_
  refine oK [4, 5, 6, 8] ?_
  refine W.seqk fun K3 hK3 => ?_
  refine rK [4, 5, 6, 8, 9] ?_
  refine W.block ?_
  refine lpa (α := Nat) [4, 5, 6, 8] [10, 49, 54, 64, 87, 88, 92, 99, 101, 111, 118] [] (fun i => [(9, I i)]) (fun i => []) (fun i => i ≤ L.length) (fun i => L.length - i) 0 v0 ?_
  ·
   intro i hI0
   simp only [List.cons_append, List.nil_append]
   try dsimp only at hI0
   replace F := F.add hI0
   refine W.seqk fun K4 hK4 => ?_
   refine rK [4, 5, 6, 8, 9, 50] ?_
   refine it (fun hc4 => ?_) (fun hc4 => ?_)
   ·
    try simp at hc4
    replace F := F.add hc4
    refine W.skip ?_
    refine hK4 _ ?_
    clear hK4 K4
    refine W.seqk fun K5 hK5 => ?_
    refine W.block ?_
    have hiL : i < L.length := by omega
    have qi := qall L[i] (List.getElem_mem hiL)
    have hil : L[i].length ≤ 5 := Nat.le_trans (le_of_nodup_lt qi.1 qi.2) hn5
    replace F := F.add hiL |>.add hil
    refine W.seqR ?_
    refine oN 1 ?_
    refine oC [] ?_
    refine ct (CopyTrade_ok ow lk (by omega) (by omega) (fun l hl => Nat.le_trans (qv.likes l hl).2 (by omega))) ?_
    refine oN 2 ?_
    refine oK [4, 5, 6, 8, 9, 10] ?_
    refine W.seqR ?_
    refine WOps.le (Le.loose (id := 433) (by simp [hn5, hck, hsl, hLl, hn0, hn1, hcw, hwo, hwk, hI0, hc4, hiL, hil]; rfl)) rfl rfl ?_
    refine oN 5 ?_
    refine oK [4, 5, 6, 8, 9, 10] ?_
    refine W.seqk fun K6 hK6 => ?_
    refine rK [4, 5, 6, 8, 9, 10, 11] ?_
    refine W.block ?_
    refine sno 433 w 0 9000 55 2 ?_
    refine lpa (α := Nat) [4, 5, 6, 8, 9, 10] [64, 87, 88] [433, 9000] (fun k => [(11, I k)]) (fun k => [(433, .row false 22 1 ((lk.map turns).set w (.own 9000 0 k))), (9000, .row true 55 2 ((pickW ow (L[i].take k)).map T))]) (fun k => k ≤ L[i].length) (fun k => L[i].length - k) 0 v0 ?_
    ·
     intro k hI1
     simp only [List.cons_append, List.nil_append]
     try dsimp only at hI1
     replace F := F.add hI1
     refine W.seqk fun K7 hK7 => ?_
     refine rK [4, 5, 6, 8, 9, 10, 11, 65] ?_
     refine it (fun hc5 => ?_) (fun hc5 => ?_)
     ·
      try simp at hc5
      replace F := F.add hc5
      refine W.skip ?_
      refine hK7 _ ?_
      clear hK7 K7
      refine W.seqk fun K8 hK8 => ?_
      refine W.block ?_
      have hkl : k < L[i].length := by omega
      have hko : L[i][k] < ow.length := qi.2 _ (List.getElem_mem hkl)
      replace F := F.add hkl |>.add hko
      refine wDe 21 [(20, [9000])] [[], [0], [], [], [3], [], [5, 3, 4], [4, 3, 5, 6], [], [8], [], [], [11, 10], [10, 11, 12], [], [14, 12, 11, 10, 13], [13, 10, 11, 12, 14, 15], [15, 14, 12, 11, 10, 13, 16, 8, 9], [9, 8, 16, 13, 10, 11, 12, 14, 15, 17], [17, 15, 14, 12, 11, 10, 13, 16, 8, 9, 18], [18, 9, 8, 16, 13, 10, 11, 12, 14, 15, 17, 19, 6, 5, 3, 4, 7], [20, 19, 18, 17, 16, 15, 14, 13, 12, 11, 10, 9, 8, 7, 6, 5, 4, 3, 2, 0, 1], [1, 0, 2, 3, 4, 5, 6, 7, 8, 9, 10, 11, 12, 13, 14, 15, 16, 17, 18, 19, 20, 21]] ?_
      refine dN 20 1 ?_
      refine dAw [9000] ?_
      refine dD ?_
      refine oN 2 ?_
      refine WOps.endK ?_
      refine hK8 _ ?_
      clear hK8 K8
      refine W.region ?_
      refine WOps.le (Le.exch (x := 704) (y := 9000) (by simp [hn5, hck, hsl, hLl, hn0, hn1, hcw, hwo, hwk, hI0, hc4, hiL, hil, hI1, hc5, hkl, hko]; rfl)) rfl rfl ?_
      refine oNw 3 ?_
      refine WOps.endK ?_
      refine ⟨k + 1, lf ?_ ?_, v0, v0⟩
      ·
       exact v1
      ·
       try (simp [Fx.get F])
       all_goals (
        exact pickW_snoc hkl hko
       )
     ·
      try simp at hc5
      replace F := F.add hc5
      refine W.exit ?_
      refine hK6 _ ?_
      clear hK7 K7 hK6 K6
      have hfull : List.take k (pickW ow (List.take k L[i])) = pickW ow L[i] := by rw [List.take_of_length_le (by rw [pickW_length]; simp; omega), List.take_of_length_le (by omega)]
      have qv2 := told_valid qv w qi
      have qs2 := Swap_ok ow (lk.set w (pickW ow L[i]))
      rw [checkT_zero.2 qv2, trade_set] at qs2
      have hs3 : (swapT ow (lk.set w (pickW ow L[i]))).length = ow.length := swap_length qv2
      have hs4 : w < (swapT ow (lk.set w (pickW ow L[i]))).length := by omega
      have hs5 : w < (swapT ow lk).length := by omega
      have qtr := truth qv qv2 hwo
      rw [nth_get hs4, nth_get hs5] at qtr
      have htr : ¬ rkR ow lk w (swapT ow (lk.set w (pickW ow L[i])))[w] < rkR ow lk w (swapT ow lk)[w] := Nat.not_lt.2 qtr
      replace F := F.add hfull |>.add hs3 |>.add hs4 |>.add hs5 |>.add htr
      refine W.seqR ?_
      refine fz 9000 ?_
      refine WOps.le (Le.tight (id := 433) (by simp [hn5, hck, hsl, hLl, hn0, hn1, hcw, hwo, hwk, hI0, hc4, hiL, hil, hI1, hc5, hfull, hs3, hs4, hs5, htr]; rfl)) rfl rfl ?_
      refine fz 433 ?_
      refine fz 432 ?_
      refine oN 1 ?_
      refine oC [] ?_
      refine ct (qs2) ?_
      refine oN 5 ?_
      refine oK [4, 5, 6, 8, 9, 12, 13] ?_
      refine wD 23 [] [[], [0], [0, 1], [1, 0, 2], [2, 0, 1, 3], [1, 0, 2], [2, 0, 1, 5], [5, 6, 3, 1, 0, 2, 4], [4, 3, 6, 5, 7, 1, 0, 2], [2, 0, 1, 7, 5, 6, 3, 4, 8], [8, 4, 3, 6, 5, 7, 1, 0, 2, 9], [8, 4, 3, 6, 5, 7, 1, 0, 2, 9], [8, 4, 3, 6, 5, 7, 1, 0, 2, 9], [8, 4, 3, 6, 5, 7, 1, 0, 2, 9], [13, 9, 2, 0, 1, 7, 5, 6, 3, 4, 8, 12], [12, 8, 4, 3, 6, 5, 7, 1, 0, 2, 9, 13, 14], [14, 13, 12, 15, 11, 9, 2, 0, 1, 7, 5, 6, 3, 4, 8, 10], [8, 4, 3, 6, 5, 7, 1, 0, 2, 9], [8, 4, 3, 6, 5, 7, 1, 0, 2, 9], [8, 4, 3, 6, 5, 7, 1, 0, 2, 9], [8, 4, 3, 6, 5, 7, 1, 0, 2, 9], [20, 9, 2, 0, 1, 7, 5, 6, 3, 4, 8, 19], [19, 8, 4, 3, 6, 5, 7, 1, 0, 2, 9, 20, 21], [10, 11, 15, 12, 13, 14, 16, 21, 20, 19, 22, 18, 9, 2, 0, 1, 7, 5, 6, 3, 4, 8, 17], [17, 18, 22, 19, 20, 21, 23, 10, 8, 4, 3, 6, 5, 7, 1, 0, 2, 9, 11, 15, 12, 13, 14, 16], [16, 14, 13, 12, 15, 11, 10, 23, 21, 20, 19, 22, 18, 17, 24, 8, 4, 3, 6, 5, 7, 1, 0, 2, 9]] ?_
      refine dN 3 20 ?_
      refine dT ?_
      refine dT ?_
      refine dT ?_
      refine dT ?_
      refine dT ?_
      refine dN 2 13 ?_
      refine dT ?_
      refine dT ?_
      refine dT ?_
      refine dT ?_
      refine dT ?_
      refine dT ?_
      refine dG [] ?_
      refine cd (Rank_ok ow lk w (swapT ow (lk.set w (pickW ow L[i])))[w] hwo hwk (Nat.le_trans (qv.likes _ (List.getElem_mem hwk)).2 (by omega))) ?_
      refine dT ?_
      refine dT ?_
      refine dT ?_
      refine dT ?_
      refine dT ?_
      refine dT ?_
      refine dD ?_
      refine gC [] ?_
      refine ct (Rank_ok ow lk w (swapT ow lk)[w] hwo hwk (Nat.le_trans (qv.likes _ (List.getElem_mem hwk)).2 (by omega))) ?_
      refine gT ?_
      refine oN 1 ?_
      refine oK [4, 5, 6, 8, 9, 120] ?_
      refine cF ?_
      refine W.skip ?_
      refine hK5 _ ?_
      clear hK5 K5
      refine rEw ?_
      refine ⟨i + 1, lf0, v0, v0⟩
   ·
    try simp at hc4
    replace F := F.add hc4
    refine W.exit ?_
    refine hK3 _ ?_
    clear hK4 K4 hK3 K3
    refine W.seqR ?_
    refine oC [] ?_
    refine ct (awake_ok) ?_
    refine oN 1 ?_
    refine oK [2] ?_
    refine W.ret ?_
    exact er0 false [] []
end Go.Sim
