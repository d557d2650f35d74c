/- SwapLeft: the law's walk. -/
import Derived.Test.YtggbbldoopfejaaVo
import Derived.Test.YtggbbldoopfejaaPh
import Derived.Test.YtggbbldoopfejaaMc
namespace Go.Sim
open Go.Proofs Go.Plain
set_option maxRecDepth 100000
set_option linter.unusedSimpArgs false
set_option linter.unusedVariables false
attribute [-simp] List.map_set List.map_take List.map_drop List.length_flatten
attribute [local simp] take_map' drop_map' take_app1 lfOf_length
/-- those of the first i who are in L, and what they own and like -/
def selN (L : List Nat) (i : Nat) : List Nat := (List.range i).filter fun k => decide (k ∈ L)
def pickT (ow : List Turn) (s : List Nat) : List Turn := s.map fun k => nth ow k
def pickL' (lk : List (List Turn)) (s : List Nat) : List (List Turn) := s.map fun k => nth lk k
theorem pickT_length (ow : List Turn) (s : List Nat) : (pickT ow s).length = s.length := by simp [pickT]
theorem pickL'_length (lk : List (List Turn)) (s : List Nat) : (pickL' lk s).length = s.length := by simp [pickL']
theorem selN_zero (L : List Nat) : selN L 0 = [] := rfl
theorem selN_in {L : List Nat} {i : Nat} (h : i ∈ L) : selN L (i + 1) = selN L i ++ [i] := by simp [selN, List.range_succ, h]
theorem selN_out {L : List Nat} {i : Nat} (h : i ∉ L) : selN L (i + 1) = selN L i := by simp [selN, List.range_succ, h]
theorem selN_length (L : List Nat) (i : Nat) : (selN L i).length ≤ i := by have := List.length_filter_le (fun k => decide (k ∈ L)) (List.range i); simpa [selN] using this
theorem pickT_zero (ow : List Turn) (L : List Nat) : pickT ow (selN L 0) = [] := rfl
theorem pickL'_zero (lk : List (List Turn)) (L : List Nat) : pickL' lk (selN L 0) = [] := rfl
attribute [local simp] pickT_length pickL'_length selN_zero pickT_zero pickL'_zero
theorem pickT_in {ow : List Turn} {L : List Nat} {i : Nat} (h : i ∈ L) (hi : i < ow.length) : (pickT ow (selN L i)).map T ++ [AV.agg [I ow[i].1, I ow[i].2]] = (pickT ow (selN L (i + 1))).map T := by
  rw [selN_in h, pickT, pickT, List.map_append]; simp [nth_get hi]
theorem pickL'_in {lk : List (List Turn)} {L : List Nat} {i : Nat} (h : i ∈ L) (hi : i < lk.length) : (pickL' lk (selN L i)).map turns ++ [turns lk[i]] = (pickL' lk (selN L (i + 1))).map turns := by
  rw [selN_in h, pickL', pickL', List.map_append]; simp [nth_get hi]
/-- who is left after the first round -/
def left1 (ow : List Turn) (lk : List (List Turn)) : List Nat := eraseAll (rnd ow lk (List.range ow.length) ow.length).flatten (List.range ow.length)
theorem left1_LV (ow : List Turn) (lk : List (List Turn)) : left1 ow lk = LV ow lk 1 := rfl
theorem mem_selN {L : List Nat} {n x : Nat} : x ∈ selN L n ↔ x < n ∧ x ∈ L := by simp [selN]
theorem left_swap {ow : List Turn} {lk : List (List Turn)} (hv : ValidT ow lk) : ValidT (pickT ow (selN (left1 ow lk) ow.length)) (pickL' lk (selN (left1 ow lk) ow.length)) ∧
    swapT (pickT ow (selN (left1 ow lk) ow.length)) (pickL' lk (selN (left1 ow lk) ow.length)) = pickT (swapT ow lk) (selN (left1 ow lk) ow.length) := by
  obtain ⟨s, hs⟩ : ∃ s, s = selN (left1 ow lk) ow.length := ⟨_, rfl⟩
  rw [← hs]
  have hmem : ∀ x ∈ s, x < ow.length ∧ x ∈ LV ow lk 1 := fun x hx => by rw [hs] at hx; exact mem_selN.1 hx
  have hmem' : ∀ x, x ∈ LV ow lk 1 → x ∈ s := fun x hx => by rw [hs]; exact mem_selN.2 ⟨LV_lt hx, hx⟩
  have hsl : s.length ≤ ow.length := by rw [hs]; exact selN_length _ _
  have hsn : s.Nodup := by rw [hs]; exact List.nodup_range.filter _
  have hkl := hv.same
  have hget : ∀ i (hi : i < s.length), s[i] < ow.length := fun i hi => (hmem _ (List.getElem_mem hi)).1
  have hpt : ∀ (ow : List Turn) i (hi : i < s.length), nth (pickT ow s) i = nth ow s[i] := fun ow i hi => by rw [nth_get (by rw [pickT_length]; exact hi)]; simp [pickT]
  have hpl : ∀ i (hi : i < s.length), nth (pickL' lk s) i = nth lk s[i] := fun i hi => by rw [nth_get (by rw [pickL'_length]; exact hi)]; simp [pickL']
  have hv' : ValidT (pickT ow s) (pickL' lk s) := by
    refine ⟨by rw [pickT_length]; exact Nat.le_trans hsl hv.most, by rw [pickT_length, pickL'_length], ⟨?_, fun x hx => ?_⟩, fun q hq => ?_⟩
    · refine nodup_of_inj fun i j hij hj h => ?_
      rw [pickT_length] at hj
      have e : nth (pickT ow s) i = nth (pickT ow s) j := by
        rw [nth_get (by rw [pickT_length]; omega), nth_get (by rw [pickT_length]; omega)]
        rw [List.getElem?_eq_getElem (by rw [pickT_length]; omega), List.getElem?_eq_getElem (by rw [pickT_length]; omega)] at h
        exact Option.some.inj h
      rw [hpt _ i (by omega), hpt _ j hj] at e
      have := (nodup_inj hsn).1 (nth_injT hv.owns.1 (hget i (by omega)) (hget j hj) e)
      omega
    · obtain ⟨k, hk, rfl⟩ := List.mem_map.1 hx
      rw [nth_get (hmem k hk).1]; exact hv.owns.2 _ (List.getElem_mem _)
    · obtain ⟨k, hk, rfl⟩ := List.mem_map.1 hq
      have := (hmem k hk).1
      rw [nth_get (show k < lk.length by omega)]; exact hv.likes _ (List.getElem_mem _)
  refine ⟨hv', (sub_swap hv hv' (fun i => nth s i) (fun i hi => ?_) (by rw [pickT_length, pickT_length]) fun i hi => ?_).symm⟩
  · rw [pickT_length] at hi
    rw [hpt _ i hi, hpl i hi, nth_get hi]
    exact ⟨hget i hi, rfl, rfl⟩
  · rw [pickT_length] at hi
    rw [hpt _ i hi, nth_get hi]
    refine ⟨rfl, ?_⟩
    obtain ⟨h1, h2⟩ := hmem _ (List.getElem_mem hi)
    obtain ⟨k, hk⟩ := exists_LVS ow lk h1
    have hk1 : 1 ≤ k := by
      refine Classical.byContradiction fun h => ?_
      obtain rfl : k = 0 := by omega
      exact ((mem_lv_succ (ptF_closed ow lk) List.nodup_range lt_range).1 h2).2 hk.2
    rw [nth_swap hv hk]
    exact List.mem_map.2 ⟨_, hmem' _ (lv_mono hk1 _ (best_of hv hk).inL), rfl⟩
set_option maxHeartbeats 4000000 in
theorem SwapLeft_ok (nums : List Int) : ACalls Try.prog 10 [ints nums] [] (fun r o => r = B true ∧ o = []) := by
 have F := Fx.nil
 refine ent Try.func10 Try.ntmps10 Try.results10 ?_
 refine rK [0] ?_
 refine W.seqR ?_
 refine oN 1 ?_
 refine oC [] ?_
 refine ct (DieOf_ok nums) ?_
 refine oC [(10000, 136)] ?_
 refine CallT.mkE (TradeOf_ok _ 8 (by omega)) (fun z18 hz18 => ⟨(by simp), ?_⟩)
 obtain ⟨⟨ow, lk, f2⟩, qz⟩ : ∃ z : List Turn × List (List Turn) × Int, z = z18 := ⟨z18, rfl⟩
 subst qz
 dsimp only at hz18
 have qv : ValidT ow lk := hz18.valid (by omega)
 have hn8 : ow.length ≤ 8 := qv.most
 have hnn : (ow.length : Int) ≤ 16777216 := by omega
 have hck : checkT ow lk = 0 := checkT_zero.2 qv
 have hsl : (swapT ow lk).length = ow.length := swap_length qv
 have qkl : lk.length = ow.length := qv.same
 have qd := List.nodup_range (n := ow.length)
 have qL : ∀ y ∈ List.range ow.length, y < ow.length := fun y hy => List.mem_range.1 hy
 replace F := F.add hn8 |>.add hnn |>.add hck |>.add hsl
 refine WOps.norm (by simp [hn8, hnn, hck, hsl]; rfl) ?_
 refine fz 144 ?_
 refine fz 145 ?_
 refine oN 2 ?_
 refine oK [3] ?_
 refine rK [3, 4] ?_
 refine W.seqk fun K1 hK1 => ?_
 refine rK [3, 4, 5] ?_
 refine W.block ?_
 have q1 : (List.replicate ow.length (AV.val (Value.bool false)) : List AV) = (lfOf ow.length (List.range 0)).map B := by rw [← lfOf_range]; simp
 try rw [q1]
 refine lpa (α := Nat) [3, 4] [25] [176] (fun k => [(5, I k)]) (fun k => [(176, .row true 4 1 ((lfOf ow.length (List.range k)).map B))]) (fun k => k ≤ ow.length) (fun k => ow.length - k) 0 v0 ?_
 ·
  intro k hI0
  simp only [List.cons_append, List.nil_append]
  try dsimp only at hI0
  replace F := F.add hI0
  refine W.seqk fun K2 hK2 => ?_
  refine rK [3, 4, 5, 26] ?_
  refine it (fun hc1 => ?_) (fun hc1 => ?_)
  ·
   try simp at hc1
   replace F := F.add hc1
   refine W.skip ?_
   refine hK2 _ ?_
   clear hK2 K2
   refine W.seqk fun K3 hK3 => ?_
   refine W.block ?_
   refine rE ?_
   refine hK3 _ ?_
   clear hK3 K3
   refine rEw ?_
   refine ⟨k + 1, lf ?_ ?_, v0, v0⟩
   ·
    exact v1
   ·
    try (simp [Fx.get F])
    all_goals (
     rw [lfOf_succ]
    )
  ·
   try simp at hc1
   replace F := F.add hc1
   refine W.exit ?_
   refine hK1 _ ?_
   clear hK2 K2 hK1 K1
   obtain rfl : k = ow.length := by omega
   refine W.seqR ?_
   refine oN 2 ?_
   refine oC [(10000, 176)] ?_
   refine ct (Round_ok ow lk (List.range ow.length) qv qd qL) ?_
   refine oN 1 ?_
   refine oK [3, 4, 6] ?_
   refine W.seqk fun K4 hK4 => ?_
   refine rK [3, 4, 6, 7] ?_
   refine W.block ?_
   have qrl := rnd_length ow lk (List.range ow.length) ow.length
   refine lp (α := Nat) [3, 4, 6] [37, 46] [176] (fun j => [(7, I j)]) (fun j => [(176, .row true 4 1 ((lfOf ow.length (eraseAll ((rnd ow lk (List.range ow.length) ow.length).take j).flatten (List.range ow.length))).map B))]) (fun j => j ≤ (rnd ow lk (List.range ow.length) ow.length).length) (fun j => (rnd ow lk (List.range ow.length) ow.length).length - j) 0 ?_ ?_ v0 ?_
   ·
    exact v1
   ·
    try (simp [Fx.get F])
    all_goals (
     rfl
    )
   ·
    intro j hI1
    simp only [List.cons_append, List.nil_append]
    try dsimp only at hI1
    replace F := F.add hI1
    refine W.seqk fun K5 hK5 => ?_
    refine rK [3, 4, 6, 7, 38] ?_
    refine it (fun hc2 => ?_) (fun hc2 => ?_)
    ·
     try simp at hc2
     replace F := F.add hc2
     refine W.skip ?_
     refine hK5 _ ?_
     clear hK5 K5
     refine W.seqk fun K6 hK6 => ?_
     refine W.block ?_
     refine rK [3, 4, 6, 7, 8] ?_
     refine W.block ?_
     have qrj := rnd_ring_le qd qL (List.getElem_mem (by assumption : j < (rnd ow lk (List.range ow.length) ow.length).length))
     refine lp (α := Nat) [3, 4, 6, 7] [46] [176] (fun k => [(8, I k)]) (fun k => [(176, .row true 4 1 ((lfOf ow.length (eraseAll ((rnd ow lk (List.range ow.length) ow.length)[j].take k) (eraseAll ((rnd ow lk (List.range ow.length) ow.length).take j).flatten (List.range ow.length)))).map B))]) (fun k => k ≤ (rnd ow lk (List.range ow.length) ow.length)[j].length) (fun k => (rnd ow lk (List.range ow.length) ow.length)[j].length - k) 0 ?_ ?_ v0 ?_
     ·
      exact v1
     ·
      try (simp [Fx.get F])
      all_goals (
       rfl
      )
     ·
      intro k hI2
      simp only [List.cons_append, List.nil_append]
      try dsimp only at hI2
      replace F := F.add hI2
      refine W.seqk fun K7 hK7 => ?_
      refine rK [3, 4, 6, 7, 8, 47] ?_
      refine it (fun hc3 => ?_) (fun hc3 => ?_)
      ·
       try simp at hc3
       replace F := F.add hc3
       refine W.skip ?_
       refine hK7 _ ?_
       clear hK7 K7
       refine W.seqk fun K8 hK8 => ?_
       refine W.block ?_
       have hx : (rnd ow lk (List.range ow.length) ow.length)[j][k] < ow.length := qL _ (rnd_mem qd qL (List.getElem_mem (by assumption)) _ (List.getElem_mem (by assumption)))
       replace F := F.add hx
       refine rE ?_
       refine hK8 _ ?_
       clear hK8 K8
       refine rEw ?_
       refine ⟨k + 1, lf ?_ ?_, v0, v0⟩
       ·
        exact v1
       ·
        try (simp [Fx.get F])
        all_goals (
         rw [lfOf_erase (eraseAll_nodup (eraseAll_nodup qd)), List.take_succ_eq_append_getElem hc3, eraseAll_snoc]
        )
      ·
       try simp at hc3
       replace F := F.add hc3
       refine W.exit ?_
       refine hK6 _ ?_
       clear hK7 K7 hK6 K6
       refine rEw ?_
       refine ⟨j + 1, lf ?_ ?_, v0, v0⟩
       ·
        exact v1
       ·
        try (simp [Fx.get F])
        all_goals (
         rw [List.take_of_length_le hc3, List.take_succ_eq_append_getElem hc2, List.flatten_append, eraseAll_append]; simp
        )
    ·
     try simp at hc2
     replace F := F.add hc2
     refine W.exit ?_
     refine hK4 _ ?_
     clear hK5 K5 hK4 K4
     have hfl : eraseAll (List.take j (rnd ow lk (List.range ow.length) ow.length)).flatten (List.range ow.length) = left1 ow lk := by rw [List.take_of_length_le (by omega)]; rfl
     replace F := F.add hfl
     refine W.seqR ?_
     refine oN 1 ?_
     refine oC [] ?_
     refine ct (Swap_ok _ _) ?_
     refine oN 5 ?_
     refine oK [3, 4, 9, 10] ?_
     refine W.seqk fun K9 hK9 => ?_
     refine W.seqR ?_
     refine oN 3 ?_
     refine gT ?_
     refine gT ?_
     refine gT ?_
     refine gT ?_
     refine gT ?_
     refine gT ?_
     refine oN 1 ?_
     refine oK [3, 4, 9, 73] ?_
     refine cF ?_
     refine W.skip ?_
     refine hK9 _ ?_
     clear hK9 K9
     refine rK [3, 4, 9, 11] ?_
     refine rK [3, 4, 9, 11, 12] ?_
     refine W.seqk fun K10 hK10 => ?_
     refine rK [3, 4, 9, 11, 12, 13] ?_
     refine W.block ?_
     refine sn 12 9016 55 2 ?_
     refine sno 88 0 0 9000 55 2 ?_
     refine sno 88 0 1 9008 22 1 ?_
     refine lp (α := Nat) [3, 4, 9, 11] [76, 91, 92, 100, 101, 107, 108] [88, 9000, 9008, 9016] (fun i => [(13, I i), (12, .own 9016 0 (selN (left1 ow lk) i).length)]) (fun i => [(88, .row false 25 2 [.agg [.own 9000 0 (selN (left1 ow lk) i).length, .own 9008 0 (selN (left1 ow lk) i).length]]), (9000, .row true 55 2 ((pickT ow (selN (left1 ow lk) i)).map T)), (9008, .row true 22 1 ((pickL' lk (selN (left1 ow lk) i)).map turns)), (9016, .row true 55 2 ((pickT (swapT ow lk) (selN (left1 ow lk) i)).map T))]) (fun i => i ≤ ow.length) (fun i => ow.length - i) 0 ?_ ?_ v0 ?_
     ·
      exact v1
     ·
      try (simp [Fx.get F])
      all_goals (
       exact ⟨rfl, rfl, rfl⟩
      )
     ·
      intro i hI3
      simp only [List.cons_append, List.nil_append]
      try dsimp only at hI3
      replace F := F.add hI3
      refine W.seqk fun K11 hK11 => ?_
      refine rK [3, 4, 9, 11, 12, 13, 77] ?_
      refine it (fun hc5 => ?_) (fun hc5 => ?_)
      ·
       try simp at hc5
       replace F := F.add hc5
       refine W.skip ?_
       refine hK11 _ ?_
       clear hK11 K11
       refine W.seqk fun K12 hK12 => ?_
       refine W.block ?_
       by_cases hin : i ∈ left1 ow lk
       ·
        replace F := F.add hin
        have hio : i < ow.length := by omega
        have hik : i < lk.length := by omega
        have his : i < (swapT ow lk).length := by omega
        have hse := selN_length (left1 ow lk) i
        have hlf : (lfOf ow.length (left1 ow lk))[i]'(by rw [lfOf_length]; omega) = decide (i ∈ left1 ow lk) := lfOf_get _
        replace F := F.add hio |>.add hik |>.add his |>.add hse |>.add hlf
        refine rK [3, 4, 9, 11, 12, 13, 83] ?_
        refine cT ?_
        refine wDe 26 [(8, [9000]), (17, [9008]), (24, [9016])] [[], [0], [], [2], [], [4, 2, 3], [3, 2, 4, 5], [5, 4, 2, 3, 6], [6, 3, 2, 4, 5, 7, 0, 1], [], [9], [], [11], [], [13, 11, 12], [12, 11, 13, 14], [14, 13, 11, 12, 15], [1, 0, 7, 5, 4, 2, 3, 6, 8, 15, 12, 11, 13, 14, 16, 9, 10], [], [], [], [20, 19], [19, 20, 21], [21, 20, 19, 22], [10, 9, 16, 14, 13, 11, 12, 15, 8, 6, 3, 2, 4, 5, 7, 0, 1, 17, 22, 19, 20, 21, 23, 18], [10, 9, 8, 7, 6, 5, 4, 3, 2, 1, 0], [18, 23, 21, 20, 19, 22, 17, 15, 12, 11, 13, 14, 16, 24, 0, 1, 2, 3, 4, 5, 6, 7, 8, 9, 10, 25], [24, 22, 19, 20, 21, 23, 18, 26, 25, 17, 16, 15, 14, 13, 12, 11, 10, 9, 8, 7, 6, 5, 4, 3, 2, 1, 0], [0, 1, 2, 3, 4, 5, 6, 7, 8, 9, 10, 11, 12, 13, 14, 15, 16, 17, 25, 26, 18, 23, 21, 20, 19, 22, 24, 27], [27, 26, 25, 28, 18, 23, 21, 20, 19, 22, 17, 1, 0, 7, 5, 4, 2, 3, 6, 8, 15, 12, 11, 13, 14, 16, 9, 10, 24]] ?_
        refine dN 8 18 ?_
        refine dAw [9000] ?_
        refine dN 8 9 ?_
        refine dAw [9008] ?_
        refine dN 6 2 ?_
        refine dAw [9016] ?_
        refine dN 1 0 ?_
        refine dD ?_
        refine oN 4 ?_
        refine WOps.endK ?_
        refine hK12 _ ?_
        clear hK12 K12
        refine W.region ?_
        refine WOps.le (Le.exch (x := 736) (y := 9000) (by simp [hn8, hnn, hck, hsl, hI0, hc1, hI1, hc2, hfl, hI3, hc5, hin, hio, hik, his, hse, hlf]; rfl)) rfl rfl ?_
        refine WOps.le (Le.exch (x := 808) (y := 9008) (by simp [hn8, hnn, hck, hsl, hI0, hc1, hI1, hc2, hfl, hI3, hc5, hin, hio, hik, his, hse, hlf]; rfl)) rfl rfl ?_
        refine WOps.le (Le.exch (x := 864) (y := 9016) (by simp [hn8, hnn, hck, hsl, hI0, hc1, hI1, hc2, hfl, hI3, hc5, hin, hio, hik, his, hse, hlf]; rfl)) rfl rfl ?_
        refine oNw 3 ?_
        refine WOps.endK ?_
        refine ⟨i + 1, lf ?_ ?_, v0, v0⟩
        ·
         try (simp [Fx.get F])
         all_goals (
          rw [selN_in hin, List.length_append]; rfl
         )
        ·
         try (simp [Fx.get F])
         all_goals (
          exact ⟨by rw [selN_in hin, List.length_append]; rfl, pickT_in hin hio, pickL'_in hin hik, pickT_in hin his⟩
         )
       ·
        replace F := F.add hin
        have hio : i < ow.length := by omega
        have hik : i < lk.length := by omega
        have his : i < (swapT ow lk).length := by omega
        have hse := selN_length (left1 ow lk) i
        have hlf : (lfOf ow.length (left1 ow lk))[i]'(by rw [lfOf_length]; omega) = decide (i ∈ left1 ow lk) := lfOf_get _
        replace F := F.add hio |>.add hik |>.add his |>.add hse |>.add hlf
        refine rK [3, 4, 9, 11, 12, 13, 83] ?_
        refine cF ?_
        refine W.skip ?_
        refine hK12 _ ?_
        clear hK12 K12
        refine W.region ?_
        refine oNw 3 ?_
        refine WOps.endK ?_
        refine ⟨i + 1, lf ?_ ?_, v0, v0⟩
        ·
         try (simp [Fx.get F])
         all_goals (
          rw [selN_out hin]
         )
        ·
         try (simp [Fx.get F])
         all_goals (
          rw [selN_out hin]; exact ⟨rfl, rfl, rfl, rfl⟩
         )
      ·
       try simp at hc5
       replace F := F.add hc5
       refine W.exit ?_
       refine hK10 _ ?_
       clear hK11 K11 hK10 K10
       obtain rfl : i = ow.length := by omega
       have htk1 : List.take (selN (left1 ow lk) ow.length).length (pickT ow (selN (left1 ow lk) ow.length)) = pickT ow (selN (left1 ow lk) ow.length) := List.take_of_length_le (Nat.le_of_eq (pickT_length _ _))
       have htk2 : List.take (selN (left1 ow lk) ow.length).length (pickL' lk (selN (left1 ow lk) ow.length)) = pickL' lk (selN (left1 ow lk) ow.length) := List.take_of_length_le (Nat.le_of_eq (pickL'_length _ _))
       have htk3 : List.take (selN (left1 ow lk) ow.length).length (pickT (swapT ow lk) (selN (left1 ow lk) ow.length)) = pickT (swapT ow lk) (selN (left1 ow lk) ow.length) := List.take_of_length_le (Nat.le_of_eq (pickT_length _ _))
       have qls := left_swap qv
       have hck2 : checkT (pickT ow (selN (left1 ow lk) ow.length)) (pickL' lk (selN (left1 ow lk) ow.length)) = 0 := checkT_zero.2 qls.1
       have hsw2 := qls.2
       replace F := F.add htk1 |>.add htk2 |>.add htk3 |>.add hck2 |>.add hsw2
       refine W.seqR ?_
       refine fz 9000 ?_
       refine fz 9008 ?_
       refine fz 9016 ?_
       refine oN 1 ?_
       refine oC [] ?_
       refine ct (Swap_ok _ _) ?_
       refine oN 5 ?_
       refine oK [12, 14, 15] ?_
       refine W.seqR ?_
       refine oN 3 ?_
       refine gT ?_
       refine gT ?_
       refine gC [] ?_
       refine ct (SameTurns_ok _ _) ?_
       refine oN 2 ?_
       refine gC [] ?_
       refine ct (awake_ok) ?_
       refine oN 2 ?_
       refine oK [2] ?_
       refine W.ret ?_
       exact er0 false [] []
end Go.Sim
