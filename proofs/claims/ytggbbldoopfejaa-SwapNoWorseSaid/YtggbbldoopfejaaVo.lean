/- The reference's rings and swap. -/
import Derived.Test.YtggbbldoopfejaaVn
import Derived.Test.YtggbbldoopfejaaPc
namespace Go.Sim
open Go.Proofs Go.Plain
set_option maxRecDepth 100000
set_option linter.unusedSimpArgs false
set_option linter.unusedVariables false
attribute [-simp] List.map_set List.map_take List.map_drop List.length_flatten
attribute [local simp] take_map' drop_map'
theorem rnd_flat_nodup {ow : List Turn} {lk : List (List Turn)} {L : List Nat} (hd : L.Nodup) (hL : ∀ y ∈ L, y < ow.length) : (rnd ow lk L ow.length).flatten.Nodup := roundF_nodup (ptF_closed ow lk L) (le_of_nodup_lt hd hL) hL
theorem rnd_flat_sub {ow : List Turn} {lk : List (List Turn)} {L : List Nat} (hd : L.Nodup) (hL : ∀ y ∈ L, y < ow.length) : ∀ x ∈ (rnd ow lk L ow.length).flatten, x ∈ L := roundF_sub (ptF_closed ow lk L) (le_of_nodup_lt hd hL) hL
theorem rnd_count {ow : List Turn} {lk : List (List Turn)} {L : List Nat} (hd : L.Nodup) (hL : ∀ y ∈ L, y < ow.length) : (eraseAll (rnd ow lk L ow.length).flatten L).length + (rnd ow lk L ow.length).flatten.length = L.length := eraseAll_length hd (rnd_flat_nodup hd hL) (rnd_flat_sub hd hL)
theorem flat_take_le {α : Type} (l : List (List α)) (j : Nat) : (l.take j).flatten.length ≤ l.flatten.length := by
  have := congrArg (fun l => l.flatten.length) (List.take_append_drop j l)
  simp only [List.flatten_append, List.length_append] at this
  omega
theorem flat_take_succ {α : Type} {l : List (List α)} {j : Nat} (h : j < l.length) : (l.take (j + 1)).flatten.length = (l.take j).flatten.length + l[j].length := by
  rw [List.take_succ_eq_append_getElem h, List.flatten_append, List.length_append]; simp
attribute [local simp] lfOf_length
set_option maxHeartbeats 4000000 in
theorem rrings_ok (ow : List Turn) (lk : List (List Turn)) (hv : ValidT ow lk) : ACalls Try.prog 52 [trade ow lk] [] (fun r o => r = tabsN (allRings (ptF ow lk) ow.length) ∧ o = []) := by
 have F := Fx.nil
 refine ent Try.func52 Try.ntmps52 Try.results52 ?_
 have hn8 : ow.length ≤ 8 := hv.most
 have hnn : (ow.length : Int) ≤ 16777216 := by omega
 replace F := F.add hn8 |>.add hnn
 refine rK [1] ?_
 refine rK [1, 3] ?_
 refine W.seqk fun K1 hK1 => ?_
 refine rK [1, 3, 4] ?_
 refine W.block ?_
 have q1 : (List.replicate ow.length (AV.val (Value.bool false)) : List AV) = (lfOf ow.length (List.range 0)).map B := by rw [← lfOf_range]; simp
 try rw [q1]
 refine lpa (α := Nat) [1, 3] [16] [104] (fun k => [(4, I k)]) (fun k => [(104, .row true 4 1 ((lfOf ow.length (List.range k)).map B))]) (fun k => k ≤ ow.length) (fun k => ow.length - k) 0 v0 ?_
 ·
  intro k hI0
  simp only [List.cons_append, List.nil_append]
  try dsimp only at hI0
  replace F := F.add hI0
  refine W.seqk fun K2 hK2 => ?_
  refine rK [1, 3, 4, 17] ?_
  refine it (fun hc1 => ?_) (fun hc1 => ?_)
  ·
   try simp at hc1
   replace F := F.add hc1
   refine W.skip ?_
   refine hK2 _ ?_
   clear hK2 K2
   refine W.seqk fun K3 hK3 => ?_
   refine W.block ?_
   refine rE ?_
   refine hK3 _ ?_
   clear hK3 K3
   refine rEw ?_
   refine ⟨k + 1, lf ?_ ?_, v0, v0⟩
   ·
    exact v1
   ·
    try (simp [Fx.get F])
    all_goals (
     rw [lfOf_succ]
    )
  ·
   try simp at hc1
   replace F := F.add hc1
   refine W.exit ?_
   refine hK1 _ ?_
   clear hK2 K2 hK1 K1
   refine rK [1, 3, 5] ?_
   refine W.seqk fun K4 hK4 => ?_
   refine rK [1, 3, 5, 6] ?_
   refine W.block ?_
   refine sn 5 9000 26 1 ?_
   refine lp (α := List (List Nat) × List Nat) [1, 3] [25, 29, 32, 41, 48, 63] [9000, 104] (fun x => [(6, I ((ow.length : Int) - x.2.length)), (5, .own 9000 0 x.1.length)]) (fun x => [(9000, .row true 26 1 (x.1.map rgV)), (104, .row true 4 1 ((lfOf ow.length x.2).map B))]) (fun x => x.2.Nodup ∧ (∀ y ∈ x.2, y < ow.length) ∧ allRings (ptF ow lk) ow.length = x.1 ++ ringsF (ptF ow lk) ow.length x.2.length x.2 ∧ x.1.length + 8 * x.2.length ≤ 64) (fun x => x.2.length) ([], List.range ow.length) ?_ ?_ ?_ ?_
   ·
    exact v1
   ·
    try (simp [Fx.get F])
    all_goals (
     obtain rfl : k = ow.length := by omega
     rfl
    )
   ·
    exact ⟨List.nodup_range, fun y hy => List.mem_range.1 hy, by simp [allRings], by simp; omega⟩
   ·
    intro ⟨out, L⟩ hI1
    simp only [List.cons_append, List.nil_append]
    try dsimp only at hI1
    obtain ⟨hd, hL, hr, h64⟩ := hI1
    have hLn : L.length ≤ ow.length := le_of_nodup_lt hd hL
    replace F := F.add hLn
    refine W.seqk fun K5 hK5 => ?_
    refine rK [1, 3, 5, 6, 26] ?_
    refine it (fun hc2 => ?_) (fun hc2 => ?_)
    ·
     try simp at hc2
     replace F := F.add hc2
     refine W.skip ?_
     refine hK5 _ ?_
     clear hK5 K5
     refine W.block ?_
     refine W.seqR ?_
     refine oN 2 ?_
     refine oC [(10000, 104)] ?_
     refine ct (Round_ok ow lk L hv hd hL) ?_
     refine oN 1 ?_
     refine oK [1, 3, 5, 6, 7] ?_
     refine W.seqk fun K6 hK6 => ?_
     refine rK [1, 3, 5, 6, 7, 8] ?_
     refine W.block ?_
     have qrc := rnd_count (lk := lk) hd hL
     have qrl := rnd_length ow lk L ow.length
     refine lp (α := Nat) [1, 3, 5, 7] [32, 41, 48] [104] (fun j => [(8, I j), (6, I ((ow.length : Int) - L.length + ((rnd ow lk L ow.length).take j).flatten.length))]) (fun j => [(104, .row true 4 1 ((lfOf ow.length (eraseAll ((rnd ow lk L ow.length).take j).flatten L)).map B))]) (fun j => j ≤ (rnd ow lk L ow.length).length) (fun j => (rnd ow lk L ow.length).length - j) 0 ?_ ?_ v0 ?_
     ·
      exact v1
     ·
      try (simp [Fx.get F])
      all_goals (
       rfl
      )
     ·
      intro j hI2
      simp only [List.cons_append, List.nil_append]
      try dsimp only at hI2
      replace F := F.add hI2
      have qfl := flat_take_le (rnd ow lk L ow.length) j
      refine W.seqk fun K7 hK7 => ?_
      refine rK [1, 3, 5, 6, 7, 8, 33] ?_
      refine it (fun hc3 => ?_) (fun hc3 => ?_)
      ·
       try simp at hc3
       replace F := F.add hc3
       refine W.skip ?_
       refine hK7 _ ?_
       clear hK7 K7
       refine W.seqk fun K8 hK8 => ?_
       refine W.block ?_
       have qfs := flat_take_succ (by assumption : j < (rnd ow lk L ow.length).length)
       have qfl2 := flat_take_le (rnd ow lk L ow.length) (j + 1)
       refine rKw [1, 3, 5, 6, 7, 8] ?_
       refine rK [1, 3, 5, 6, 7, 8, 9] ?_
       refine W.block ?_
       refine lp (α := Nat) [1, 3, 5, 6, 7, 8] [48] [104] (fun k => [(9, I k)]) (fun k => [(104, .row true 4 1 ((lfOf ow.length (eraseAll ((rnd ow lk L ow.length)[j].take k) (eraseAll ((rnd ow lk L ow.length).take j).flatten L))).map B))]) (fun k => k ≤ (rnd ow lk L ow.length)[j].length) (fun k => (rnd ow lk L ow.length)[j].length - k) 0 ?_ ?_ v0 ?_
       ·
        exact v1
       ·
        try (simp [Fx.get F])
        all_goals (
         rfl
        )
       ·
        intro k hI3
        simp only [List.cons_append, List.nil_append]
        try dsimp only at hI3
        replace F := F.add hI3
        refine W.seqk fun K9 hK9 => ?_
        refine rK [1, 3, 5, 6, 7, 8, 9, 49] ?_
        refine it (fun hc4 => ?_) (fun hc4 => ?_)
        ·
         try simp at hc4
         replace F := F.add hc4
         refine W.skip ?_
         refine hK9 _ ?_
         clear hK9 K9
         refine W.seqk fun K10 hK10 => ?_
         refine W.block ?_
         have hx : (rnd ow lk L ow.length)[j][k] < ow.length := hL _ (rnd_mem hd hL (List.getElem_mem (by assumption)) _ (List.getElem_mem (by assumption)))
         replace F := F.add hx
         refine rE ?_
         refine hK10 _ ?_
         clear hK10 K10
         refine rEw ?_
         refine ⟨k + 1, lf ?_ ?_, v0, v0⟩
         ·
          exact v1
         ·
          try (simp [Fx.get F])
          all_goals (
           rw [lfOf_erase (eraseAll_nodup (eraseAll_nodup hd)), List.take_succ_eq_append_getElem hc4, eraseAll_snoc]
          )
        ·
         try simp at hc4
         replace F := F.add hc4
         refine W.exit ?_
         refine hK8 _ ?_
         clear hK9 K9 hK8 K8
         refine rEw ?_
         refine ⟨j + 1, lf ?_ ?_, v0, v0⟩
         ·
          exact v1
         ·
          try (simp [Fx.get F])
          all_goals (
           rw [List.take_of_length_le hc4, List.take_succ_eq_append_getElem hc3, List.flatten_append, eraseAll_append]; simp
          )
      ·
       try simp at hc3
       replace F := F.add hc3
       refine W.exit ?_
       refine hK6 _ ?_
       clear hK7 K7 hK6 K6
       refine rEw ?_
       refine bn ?_
       refine ⟨(out ++ rnd ow lk L ow.length, eraseAll (rnd ow lk L ow.length).flatten L), lf ?_ ?_, ?_, ?_⟩
       ·
        try (simp [Fx.get F])
        all_goals (
         rw [List.take_of_length_le hc3]; omega
        )
       ·
        try (simp [Fx.get F])
        all_goals (
         rw [List.take_of_length_le hc3]
        )
       ·
        have hpos : 0 < L.length := by omega
        refine ⟨eraseAll_nodup hd, fun y hy => hL y ((eraseAll_sub _ _).subset hy), by rw [hr, rings_next hd hL hpos, List.append_assoc], ?_⟩
        have := rnd_step (lk := lk) hd hL hpos
        simp only [List.length_append]; omega
       ·
        exact rnd_step hd hL (by omega)
    ·
     try simp at hc2
     replace F := F.add hc2
     refine W.exit ?_
     refine hK4 _ ?_
     clear hK5 K5 hK4 K4
     refine rK [2] ?_
     refine W.ret ?_
     refine er true [9000] [] ?_
     have : L = [] := by
       have : L.length = 0 := by omega
       exact List.eq_nil_of_length_eq_zero this
     subst this
     exact ⟨by rw [hr]; simp [ringsF], rfl⟩
set_option maxHeartbeats 4000000 in
theorem rRings_ok (ow : List Turn) (lk : List (List Turn)) : ACalls Try.prog 18 [trade ow lk] [] (fun r o => r = .tup [tabsN (ringsT ow lk), I (checkT ow lk)] ∧ o = []) := by
 have F := Fx.nil
 refine ent Try.func18 Try.ntmps18 Try.results18 ?_
 refine rK [1] ?_
 refine W.seqk fun K1 hK1 => ?_
 refine W.seqR ?_
 refine oN 1 ?_
 refine oC [] ?_
 refine ct (rCheck_ok _ _) ?_
 refine oN 1 ?_
 refine oK [1, 4] ?_
 refine rK [1, 4, 8] ?_
 refine it (fun hc1 => ?_) (fun hc1 => ?_)
 ·
  try simp at hc1
  replace F := F.add hc1
  refine rK [2, 3] ?_
  refine W.ret ?_
  refine tr ?_
  clear hK1 K1
  refine er true [] [] ?_
  exact ⟨by rw [checkT_lt _ _ (by simpa using hc1)]; rfl, rfl⟩
 ·
  try simp at hc1
  replace F := F.add hc1
  have hv : ValidT ow lk := checkT_zero.1 (by simpa using hc1)
  replace F := F.add hv
  refine W.skip ?_
  refine hK1 _ ?_
  clear hK1 K1
  refine W.seqR ?_
  refine oN 1 ?_
  refine oC [] ?_
  refine ct (rrings_ok ow lk hv) ?_
  refine oN 2 ?_
  refine oK [2, 3] ?_
  refine W.ret ?_
  refine er true [] [] ?_
  have h0 : checkT ow lk = 0 := by simpa using hc1
  exact ⟨by rw [ringsT, if_pos h0, h0], rfl⟩
attribute [local simp] giveK_length giveR_length
set_option maxHeartbeats 4000000 in
theorem rSwap_ok (ow : List Turn) (lk : List (List Turn)) : ACalls Try.prog 20 [trade ow lk] [] (fun r o => r = .tup [turns (swapT ow lk), I (checkT ow lk)] ∧ o = []) := by
 have F := Fx.nil
 refine ent Try.func20 Try.ntmps20 Try.results20 ?_
 refine rK [1] ?_
 refine W.seqk fun K1 hK1 => ?_
 refine W.seqR ?_
 refine oN 1 ?_
 refine oC [] ?_
 refine ct (rCheck_ok _ _) ?_
 refine oN 1 ?_
 refine oK [1, 4] ?_
 refine rK [1, 4, 12] ?_
 refine it (fun hc1 => ?_) (fun hc1 => ?_)
 ·
  try simp at hc1
  replace F := F.add hc1
  refine rK [2, 3] ?_
  refine W.ret ?_
  refine tr ?_
  clear hK1 K1
  refine er true [] [] ?_
  exact ⟨by rw [swapT, if_neg hc1]; rfl, rfl⟩
 ·
  try simp at hc1
  replace F := F.add hc1
  have hv : ValidT ow lk := checkT_zero.1 (by simpa using hc1)
  have hn8 : ow.length ≤ 8 := hv.most
  have hnn : (ow.length : Int) ≤ 16777216 := by omega
  replace F := F.add hv |>.add hn8 |>.add hnn
  refine W.skip ?_
  refine hK1 _ ?_
  clear hK1 K1
  refine rK [1, 5] ?_
  refine W.seqR ?_
  refine oN 1 ?_
  refine oC [] ?_
  refine ct (rrings_ok ow lk hv) ?_
  refine oN 1 ?_
  refine oK [1, 5, 6] ?_
  refine W.seqk fun K2 hK2 => ?_
  refine rK [1, 5, 6, 7] ?_
  refine W.block ?_
  have qml := allRings_mem ow lk
  have qll : (allRings (ptF ow lk) ow.length).length ≤ 64 := Nat.le_trans (allRings_length ow lk) (Nat.mul_le_mul hn8 hn8)
  have q1 : (List.replicate ow.length (.agg [I 0, I 0]) : List AV) = (List.replicate ow.length ((0, 0) : Turn)).map T := by simp
  try rw [q1]
  refine lp (α := Nat) [1, 5, 6] [22, 31, 55] [136] (fun j => [(7, I j)]) (fun j => [(136, .row true 55 2 ((giveR ow ((allRings (ptF ow lk) ow.length).take j) (List.replicate ow.length (0, 0))).map T))]) (fun j => j ≤ (allRings (ptF ow lk) ow.length).length) (fun j => (allRings (ptF ow lk) ow.length).length - j) 0 ?_ ?_ v0 ?_
  ·
   exact v1
  ·
   try (simp [Fx.get F])
   all_goals (
    exact q1
   )
  ·
   intro j hI0
   simp only [List.cons_append, List.nil_append]
   try dsimp only at hI0
   replace F := F.add hI0
   refine W.seqk fun K3 hK3 => ?_
   refine rK [1, 5, 6, 7, 23] ?_
   refine it (fun hc2 => ?_) (fun hc2 => ?_)
   ·
    try simp at hc2
    replace F := F.add hc2
    refine W.skip ?_
    refine hK3 _ ?_
    clear hK3 K3
    refine W.seqk fun K4 hK4 => ?_
    refine W.block ?_
    refine rK [1, 5, 6, 7, 8] ?_
    refine W.block ?_
    have qmm := qml _ (List.getElem_mem hc2)
    refine lp (α := Nat) [1, 5, 6, 7] [31, 55] [136] (fun k => [(8, I k)]) (fun k => [(136, .row true 55 2 ((giveK ow (allRings (ptF ow lk) ow.length)[j] (giveR ow ((allRings (ptF ow lk) ow.length).take j) (List.replicate ow.length (0, 0))) k).map T))]) (fun k => k ≤ (allRings (ptF ow lk) ow.length)[j].length) (fun k => (allRings (ptF ow lk) ow.length)[j].length - k) 0 ?_ ?_ v0 ?_
    ·
     exact v1
    ·
     try (simp [Fx.get F])
     all_goals (
      rfl
     )
    ·
     intro k hI1
     simp only [List.cons_append, List.nil_append]
     try dsimp only at hI1
     replace F := F.add hI1
     refine W.seqk fun K5 hK5 => ?_
     refine rK [1, 5, 6, 7, 8, 32] ?_
     refine it (fun hc3 => ?_) (fun hc3 => ?_)
     ·
      try simp at hc3
      replace F := F.add hc3
      refine W.skip ?_
      refine hK5 _ ?_
      clear hK5 K5
      refine W.seqk fun K6 hK6 => ?_
      refine W.block ?_
      obtain ⟨n, qn⟩ : ∃ n, n = (k + 1) % (allRings (ptF ow lk) ow.length)[j].length := ⟨_, rfl⟩
      have hmod : Int.tmod ((k : Int) + 1) (((allRings (ptF ow lk) ow.length)[j].length : Nat) : Int) = (n : Int) := by rw [qn]; rfl
      have hm0 : ¬ (allRings (ptF ow lk) ow.length)[j].length = 0 := by omega
      have hml : n < (allRings (ptF ow lk) ow.length)[j].length := qn ▸ Nat.mod_lt _ (by omega)
      have hx1 : (allRings (ptF ow lk) ow.length)[j][k] < ow.length := qmm.1 _ (List.getElem_mem hc3)
      have hx2 : (allRings (ptF ow lk) ow.length)[j][n] < ow.length := qmm.1 _ (List.getElem_mem hml)
      have hgv := giveK_at (ow := ow) (out := giveR ow ((allRings (ptF ow lk) ow.length).take j) (List.replicate ow.length (0, 0))) hc3 qn hml hx2
      replace F := F.add hmod |>.add hm0 |>.add hml |>.add hx1 |>.add hx2 |>.add hgv
      refine wDe 26 [] [[], [], [], [2, 1], [1, 2, 3], [], [5, 3, 2, 1, 4], [4, 1, 2, 3, 5, 6], [], [8], [], [], [11, 10], [10, 11, 12], [], [14], [], [], [17, 16], [16, 17, 18], [18, 17, 16, 19], [19, 16, 17, 18, 20, 14, 15], [15, 14, 20, 18, 17, 16, 19, 21, 12, 11, 10, 13], [13, 10, 11, 12, 21, 19, 16, 17, 18, 20, 14, 15, 22], [22, 15, 14, 20, 18, 17, 16, 19, 21, 12, 11, 10, 13, 23, 8, 9], [9, 8, 23, 13, 10, 11, 12, 21, 19, 16, 17, 18, 20, 14, 15, 22, 24], [25, 24, 23, 22, 21, 20, 19, 18, 17, 16, 15, 14, 13, 12, 11, 10, 9, 8, 6, 5, 3, 2, 1, 4, 7, 0], [0, 7, 4, 1, 2, 3, 5, 6, 8, 9, 10, 11, 12, 13, 14, 15, 16, 17, 18, 19, 20, 21, 22, 23, 24, 25, 26]] ?_
      refine dNw 26 0 ?_
      refine dD ?_
      refine oN 2 ?_
      refine WOps.endK ?_
      refine hK6 _ ?_
      clear hK6 K6
      refine rEw ?_
      refine ⟨k + 1, lf0, v0, v0⟩
     ·
      try simp at hc3
      replace F := F.add hc3
      refine W.exit ?_
      refine hK4 _ ?_
      clear hK5 K5 hK4 K4
      refine rEw ?_
      refine ⟨j + 1, lf ?_ ?_, v0, v0⟩
      ·
       exact v1
      ·
       try (simp [Fx.get F])
       all_goals (
        obtain rfl : k = (allRings (ptF ow lk) ow.length)[j].length := by omega
        rw [List.take_succ_eq_append_getElem hc2, giveR_snoc]
       )
   ·
    try simp at hc2
    replace F := F.add hc2
    refine W.exit ?_
    refine hK2 _ ?_
    clear hK3 K3 hK2 K2
    refine rK [2, 3] ?_
    refine W.ret ?_
    refine er true [136] [] ?_
    rw [List.take_of_length_le hc2, List.take_of_length_le (by simp)]
    exact ⟨by rw [swapT, if_pos hc1, hc1], rfl⟩
end Go.Sim
