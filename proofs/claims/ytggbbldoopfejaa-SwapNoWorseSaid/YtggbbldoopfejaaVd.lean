/- Trades that a die makes. -/
import Derived.Test.YtggbbldoopfejaaVc
namespace Go.Sim
open Go.Proofs
set_option maxRecDepth 100000
set_option linter.unusedSimpArgs false
set_option linter.unusedVariables false
attribute [-simp] List.map_set
/-- turns that may be, each once -/
def GoodTurns (l : List Turn) : Prop := l.Nodup ∧ ∀ x ∈ l, validT x = true
structure GoodTrade (ow : List Turn) (lk : List (List Turn)) (most : Nat) : Prop where
  most : ow.length ≤ most
  same : lk.length = ow.length
  owns : GoodTurns ow
  likes : ∀ l ∈ lk, GoodTurns l ∧ l.length ≤ ow.length + 2
theorem validT_cast {f g d : Int} (hd : 1 ≤ d ∧ d ≤ 2) : validT (castV f 8, castV g d) = true := by
  have h1 := castV_lo f 8
  have h2 := castV_hi f 8 (by omega)
  have h3 := castV_lo g d
  have h4 := castV_hi g d (by omega)
  simp only [validT, Bool.and_eq_true, decide_eq_true_eq]; omega
theorem GoodTurns.snoc {l : List Turn} {x : Turn} (h : GoodTurns l) (hx : x ∉ l) (hv : validT x = true) : GoodTurns (l ++ [x]) := by
  refine ⟨?_, fun y hy => ?_⟩
  · rw [List.nodup_append]
    exact ⟨h.1, by simp, fun a ha b hb => by simp at hb; subst hb; exact fun e => hx (e ▸ ha)⟩
  · rcases List.mem_append.1 hy with hy | hy
    · exact h.2 y hy
    · simp at hy; subst hy; exact hv
theorem GoodTurns.nil : GoodTurns [] := ⟨List.nodup_nil, fun x hx => by simp at hx⟩
set_option maxHeartbeats 4000000 in
theorem TradeOf_ok (f : Int) (most : Nat) (hm8 : most ≤ 1000) : ACalls Try.prog 13 [.ptr 10000 0 0, I most] [(10000, die f)] (fun r o => ∃ z : List Turn × List (List Turn) × Int, r = .agg [.own 20000 0 z.1.length, .own 20001 0 z.2.1.length] ∧ o = [(10000, die z.2.2), (20000, .row true 55 2 (z.1.map T)), (20001, .row true 22 1 (z.2.1.map turns))] ∧ GoodTrade z.1 z.2.1 most) := by
 have F := Fx.nil
 refine ent Try.func13 Try.ntmps13 Try.results13 ?_
 refine rK [0, 1, 4] ?_
 refine rK [0, 1, 4, 5] ?_
 refine W.seqR ?_
 refine oN 2 ?_
 refine oC [(10000, 10000)] ?_
 refine ct (One_ok _ [1, 2] (by simp)) ?_
 refine oN 1 ?_
 refine oK [0, 1, 4, 5, 6] ?_
 refine W.seqk fun K1 hK1 => ?_
 have qd := oneV_mem f [1, 2] (by simp)
 have qdd : 1 ≤ oneV f [1, 2] ∧ oneV f [1, 2] ≤ 2 := by simp at qd; omega
 clear qd
 generalize oneV f [1, 2] = days at *
 generalize oneF f [1, 2] = f1 at *
 refine W.seqR ?_
 refine oNw 3 ?_
 refine oC [(10000, 10000)] ?_
 refine ct (Cast_ok _ _ (by omega)) ?_
 refine oN 1 ?_
 refine oK [0, 4, 5, 6, 7] ?_
 refine W.block ?_
 have q0 := castV_lo f1 ((most : Int) + 1)
 have q1 := castV_hi f1 ((most : Int) + 1) (by omega)
 refine sno 40 0 0 9000 55 2 ?_
 refine lpa (α := List Turn × Int × Int) [0, 4, 5, 6] [8, 26, 30, 34, 35] [40, 9000, 10000] (fun x => [(7, I x.2.2)]) (fun x => [(40, .row false 25 2 [.agg [.own 9000 0 x.1.length, .val (.slice none 0 0)]]), (9000, .row true 55 2 (x.1.map T)), (10000, die x.2.1)]) (fun x => GoodTurns x.1 ∧ 0 ≤ x.2.2 ∧ x.1.length + x.2.2 ≤ most) (fun x => x.2.2.toNat) ([], castF f1 ((most : Int) + 1), castV f1 ((most : Int) + 1)) ?_ ?_
 ·
  exact ⟨GoodTurns.nil, q0, by simp; omega⟩
 ·
  intro ⟨ow, f, i⟩ hI0
  simp only [List.cons_append, List.nil_append]
  try dsimp only at hI0
  obtain ⟨hg, hi, hle⟩ := hI0
  refine W.seqk fun K2 hK2 => ?_
  refine rK [0, 4, 5, 6, 7, 21] ?_
  refine it (fun hc1 => ?_) (fun hc1 => ?_)
  ·
   try simp at hc1
   replace F := F.add hc1
   refine W.skip ?_
   refine hK2 _ ?_
   clear hK2 K2
   refine W.seqk fun K3 hK3 => ?_
   refine W.block ?_
   refine W.seqR ?_
   refine oN 2 ?_
   refine oC [(10000, 10000)] ?_
   refine ct (TurnOf_ok _ _ _ (by omega) (by omega)) ?_
   refine oN 2 ?_
   refine oK [0, 4, 5, 6, 7, 8] ?_
   refine W.seqk fun K4 hK4 => ?_
   refine W.seqR ?_
   refine oN 3 ?_
   refine oC [] ?_
   refine ct (HasTurn_ok _ _ _) ?_
   refine oK [0, 4, 5, 6, 7, 8, 30] ?_
   refine it (fun hc2 => ?_) (fun hc2 => ?_)
   ·
    try simp at hc2
    replace F := F.add hc2
    refine W.exit ?_
    refine hK3 _ ?_
    clear hK4 K4 hK3 K3
    refine rEw ?_
    refine ⟨(ow, castF (castF f 8) days, i - 1), lf0, v0, v0⟩
   ·
    try simp at hc2
    replace F := F.add hc2
    refine W.skip ?_
    refine hK4 _ ?_
    clear hK4 K4
    refine rEw ?_
    refine hK3 _ ?_
    clear hK3 K3
    refine rEw ?_
    refine ⟨(ow ++ [(castV f 8, castV (castF f 8) days)], castF (castF f 8) days, i - 1), lf0, ?_, v0⟩
    ·
     exact ⟨hg.snoc hc2 (validT_cast qdd), by dsimp only; omega, by simp; omega⟩
  ·
   try simp at hc1
   replace F := F.add hc1
   refine W.exit ?_
   refine hK1 _ ?_
   clear hK2 K2 hK1 K1
   refine W.seqk fun K5 hK5 => ?_
   refine rK [0, 4, 5, 6, 9] ?_
   refine W.block ?_
   refine sno 40 0 1 9008 22 1 ?_
   refine lpa (α := List (List Turn) × Int × Nat) [0, 4, 5, 6] [12, 40, 47, 49, 59, 60, 64, 67, 70, 74, 75, 79, 80] [40, 9008, 10000] (fun x => [(9, I x.2.2)]) (fun x => [(40, .row false 25 2 [.agg [.own 9000 0 ow.length, .own 9008 0 x.1.length]]), (9008, .row true 22 1 (x.1.map turns)), (10000, die x.2.1)]) (fun x => x.1.length = x.2.2 ∧ x.2.2 ≤ ow.length ∧ ∀ l ∈ x.1, GoodTurns l ∧ l.length ≤ ow.length + 2) (fun x => ow.length - x.2.2) ([], f, 0) v0 ?_
   ·
    intro ⟨lk, f, k⟩ hI1
    simp only [List.cons_append, List.nil_append]
    try dsimp only at hI1
    obtain ⟨hlk, hk, hls⟩ := hI1
    refine W.seqk fun K6 hK6 => ?_
    refine rK [0, 4, 5, 6, 9, 41] ?_
    refine it (fun hc3 => ?_) (fun hc3 => ?_)
    ·
     try simp at hc3
     replace F := F.add hc3
     refine W.skip ?_
     refine hK6 _ ?_
     clear hK6 K6
     refine W.seqk fun K7 hK7 => ?_
     refine W.block ?_
     refine rK [0, 4, 5, 6, 9, 10] ?_
     refine W.seqk fun K8 hK8 => ?_
     refine W.seqR ?_
     refine oNw 5 ?_
     refine oC [(10000, 10000)] ?_
     refine ct (Cast_ok _ _ (by omega)) ?_
     refine oN 1 ?_
     refine oK [0, 4, 5, 6, 9, 10, 11] ?_
     refine W.block ?_
     refine sn 10 9016 55 2 ?_
     refine lpa (α := List Turn × Int × Int) [0, 4, 5, 6, 9] [12, 59, 60, 64, 67, 70, 74, 75] [9016, 10000] (fun x => [(10, .own 9016 0 x.1.length), (11, I x.2.2)]) (fun x => [(9016, .row true 55 2 (x.1.map T)), (10000, die x.2.1)]) (fun x => GoodTurns x.1 ∧ 0 ≤ x.2.2 ∧ x.1.length + x.2.2 ≤ ow.length + 2) (fun x => x.2.2.toNat) ([], castF f ((ow.length : Int) + 3), castV f ((ow.length : Int) + 3)) ?_ ?_
     ·
      have q2 := castV_hi f ((ow.length : Int) + 3) (by omega)
      exact ⟨GoodTurns.nil, by dsimp only; exact castV_lo _ _, by show ((0 : Nat) : Int) + castV f ((ow.length : Int) + 3) ≤ ow.length + 2; omega⟩
     ·
      intro ⟨l, f, j⟩ hI2
      simp only [List.cons_append, List.nil_append]
      try dsimp only at hI2
      obtain ⟨hgl, hj, hjl⟩ := hI2
      refine W.seqk fun K9 hK9 => ?_
      refine rK [0, 4, 5, 6, 9, 10, 11, 51] ?_
      refine it (fun hc4 => ?_) (fun hc4 => ?_)
      ·
       try simp at hc4
       replace F := F.add hc4
       refine W.skip ?_
       refine hK9 _ ?_
       clear hK9 K9
       refine W.seqk fun K10 hK10 => ?_
       refine W.block ?_
       have hb0 : 0 ≤ castV f ow.length := castV_lo _ _
       have hb1 : castV f ow.length < ow.length := castV_hi _ _ (by omega)
       have hb2 : (castV f ow.length).toNat < ow.length := by omega
       obtain ⟨f3, hf3⟩ : ∃ f3, f3 = castF (castF f ow.length) 8 := ⟨_, rfl⟩
       replace F := F.add hb0 |>.add hb1 |>.add hb2
       refine wD 10 [(6, [10000])] [[], [0], [], [], [3], [3, 4], [4, 3, 5, 2], [2, 5, 3, 4, 6, 0, 1], [1, 0, 6, 4, 3, 5, 2, 7], [], [7, 2, 5, 3, 4, 6, 0, 1, 8, 9]] ?_
       refine dN 6 4 ?_
       refine dC [(10000, 10000)] ?_
       refine cd (Cast_ok _ _ (by omega)) ?_
       refine dN 3 0 ?_
       refine dD ?_
       refine oN 1 ?_
       refine oK [0, 4, 5, 6, 9, 10, 11, 12] ?_
       refine W.seqk fun K11 hK11 => ?_
       refine W.seqR ?_
       refine oN 1 ?_
       refine oC [(10000, 10000)] ?_
       refine ct (Once_ok _ _ (by omega)) ?_
       refine oK [0, 4, 5, 6, 9, 10, 11, 12, 64] ?_
       refine it (fun hc5 => ?_) (fun hc5 => ?_)
       ·
        try simp at hc5
        replace F := F.add hc5
        refine W.region ?_
        refine oN 2 ?_
        refine oC [(10000, 10000)] ?_
        refine ct (TurnOf_ok _ _ _ (by omega) (by omega)) ?_
        refine oN 1 ?_
        refine WOps.endK ?_
        refine hK11 _ ?_
        clear hK11 K11
        refine W.seqR ?_
        refine oN 2 ?_
        refine oC [] ?_
        refine ct (HasTurn_ok _ _ _) ?_
        refine oN 1 ?_
        refine oK [0, 4, 5, 6, 9, 10, 11, 12, 71] ?_
        refine it (fun hc6 => ?_) (fun hc6 => ?_)
        ·
         try simp at hc6
         replace F := F.add hc6
         refine rEw ?_
         refine hK10 _ ?_
         clear hK10 K10
         refine rEw ?_
         refine ⟨(l ++ [(castV f3 8, castV (castF f3 8) days)], castF (castF f3 8) days, j - 1), lf0, ?_, v0⟩
         ·
          subst hf3
          exact ⟨hgl.snoc hc6 (validT_cast qdd), by dsimp only; omega, by simp; omega⟩
        ·
         try simp at hc6
         replace F := F.add hc6
         refine W.skip ?_
         refine hK10 _ ?_
         clear hK10 K10
         refine rEw ?_
         refine ⟨(l, castF (castF f3 8) days, j - 1), lf0, v0, v0⟩
       ·
        try simp at hc5
        replace F := F.add hc5
        refine W.skip ?_
        refine hK11 _ ?_
        clear hK11 K11
        refine W.seqR ?_
        refine oN 2 ?_
        refine oC [] ?_
        refine ct (HasTurn_ok _ _ _) ?_
        refine oN 1 ?_
        refine oK [0, 4, 5, 6, 9, 10, 11, 12, 71] ?_
        refine it (fun hc7 => ?_) (fun hc7 => ?_)
        ·
         try simp at hc7
         replace F := F.add hc7
         refine rEw ?_
         refine hK10 _ ?_
         clear hK10 K10
         refine rEw ?_
         refine ⟨(l ++ [ow[(castV f ow.length).toNat]], f3, j - 1), lf0, ?_, v0⟩
         ·
          exact ⟨hgl.snoc hc7 (hg.2 _ (List.getElem_mem _)), by dsimp only; omega, by simp; omega⟩
        ·
         try simp at hc7
         replace F := F.add hc7
         refine W.skip ?_
         refine hK10 _ ?_
         clear hK10 K10
         refine rEw ?_
         refine ⟨(l, f3, j - 1), lf0, v0, v0⟩
      ·
       try simp at hc4
       replace F := F.add hc4
       refine W.exit ?_
       refine hK8 _ ?_
       clear hK9 K9 hK8 K8
       refine rEw ?_
       refine hK7 _ ?_
       clear hK7 K7
       refine rEw ?_
       refine ⟨(lk ++ [l], f, k + 1), lf0, ?_, v0⟩
       ·
        refine ⟨by simp [hlk], hc3, fun l' hl' => ?_⟩
        rcases List.mem_append.1 hl' with h | h
        · exact hls l' h
        · simp at h; subst h; exact ⟨hgl, by omega⟩
    ·
     try simp at hc3
     replace F := F.add hc3
     refine W.exit ?_
     refine hK5 _ ?_
     clear hK6 K6 hK5 K5
     refine rK [4] ?_
     refine W.ret ?_
     refine er false [] [(10000, 10000), (20000, 9000), (20001, 9008)] ?_
     subst hlk
     exact ⟨(ow, lk, f), rfl, rfl, (show GoodTrade ow lk most from ⟨by omega, by omega, hg, hls⟩)⟩
theorem take2_full {α β : Type} (f : α → β) {l : List α} {i : Nat} (h : l.length ≤ i) : ((l.map f).take i).take i = l.map f := by
  rw [List.take_take, Nat.min_self, List.take_of_length_le (by simpa using h)]
theorem map_nth_range {α : Type} [NthD α] (l : List α) : (List.range l.length).map (nth l) = l := by
  refine List.ext_getElem (by simp) fun i h1 h2 => ?_
  simp [nth_get h2]
theorem Order.pick {α : Type} [NthD α] {l : List Int} {ow : List α} (h : Order l ow.length) : (l.map fun k => nth ow k.toNat).Perm ow := by
  have h1 := List.Perm.map (fun k : Int => nth ow k.toNat) h
  rw [List.map_map] at h1
  have h2 : (List.range ow.length).map ((fun k : Int => nth ow k.toNat) ∘ Int.ofNat) = ow := by
    conv => rhs; rw [← map_nth_range ow]
    rfl
  rwa [h2] at h1
set_option maxHeartbeats 4000000 in
theorem HeldOf_ok (f : Int) (ow : List Turn) (lk : List (List Turn)) (hol : ow.length ≤ 1000000) : ACalls Try.prog 26 [.ptr 10000 0 0, trade ow lk] [(10000, die f)] (fun r o => ∃ z : List Turn × Int, r = turns z.1 ∧ o = [(10000, die z.2)] ∧ z.1.Perm ow) := by
 have F := Fx.nil
 refine ent Try.func26 Try.ntmps26 Try.results26 ?_
 refine rK [0, 3] ?_
 refine W.seqR ?_
 refine oN 4 ?_
 refine oC [(10000, 10000)] ?_
 refine CallT.mkE (Shuffle_ok _ _ (by omega)) (fun z12 hz12 => ⟨(by simp), ?_⟩)
 obtain ⟨⟨l, f2⟩, hz⟩ : ∃ z : List Int × Int, z = z12 := ⟨z12, rfl⟩
 subst hz
 dsimp only at hz12
 refine WOps.norm (by simp; rfl) ?_
 refine oN 1 ?_
 refine oK [3, 5] ?_
 refine rK [3, 5, 6] ?_
 refine W.seqk fun K1 hK1 => ?_
 refine rK [3, 5, 6, 7] ?_
 refine W.block ?_
 refine sn 6 9000 55 2 ?_
 refine lpa (α := Nat) [3, 5] [15, 28, 29] [9000] (fun i => [(7, I i), (6, .own 9000 0 i)]) (fun i => [(9000, .row true 55 2 (((l.take i).map fun k => nth ow k.toNat).map T))]) (fun i => i ≤ l.length) (fun i => l.length - i) 0 v0 ?_
 ·
  intro i hI0
  simp only [List.cons_append, List.nil_append]
  try dsimp only at hI0
  replace F := F.add hI0
  refine W.seqk fun K2 hK2 => ?_
  refine rK [3, 5, 6, 7, 16] ?_
  refine it (fun hc1 => ?_) (fun hc1 => ?_)
  ·
   try simp at hc1
   replace F := F.add hc1
   refine W.skip ?_
   refine hK2 _ ?_
   clear hK2 K2
   refine W.seqk fun K3 hK3 => ?_
   refine W.block ?_
   have hll : l.length ≤ 1000000 := by rw [hz12.length]; exact hol
   have hk0 : 0 ≤ l[i] := (Order.mem hz12 (List.getElem_mem _)).1
   have hk1 : l[i] < ow.length := (Order.mem hz12 (List.getElem_mem _)).2
   have hk2 : l[i].toNat < ow.length := by omega
   replace F := F.add hll |>.add hk0 |>.add hk1 |>.add hk2
   refine wDe 10 [] [[], [], [1], [], [], [4, 3], [3, 4, 5], [5, 4, 3, 6, 1, 2], [2, 1, 6, 3, 4, 5, 7], [7, 5, 4, 3, 6, 1, 2, 8], [8, 2, 1, 6, 3, 4, 5, 7, 9, 0], [0, 9, 7, 5, 4, 3, 6, 1, 2, 8, 10]] ?_
   refine dN 10 0 ?_
   refine dD ?_
   refine oNw 2 ?_
   refine WOps.endK ?_
   refine hK3 _ ?_
   clear hK3 K3
   refine rEw ?_
   refine ⟨i + 1, lf ?_ ?_, v0, v0⟩
   ·
    exact v1
   ·
    try (simp [Fx.get F])
    all_goals (
     have e := take_snoc (T ∘ fun k : Int => nth ow k.toNat) hc1
     simpa [nth_get hk2] using e
    )
  ·
   try simp at hc1
   replace F := F.add hc1
   refine W.exit ?_
   refine hK1 _ ?_
   clear hK2 K2 hK1 K1
   refine rK [4] ?_
   refine W.ret ?_
   refine er false [9000] [(10000, 10000)] ?_
   rw [take2_full _ hc1]
   exact ⟨(l.map fun k => nth ow k.toNat, f2), by simp, rfl, hz12.pick⟩
set_option maxHeartbeats 4000000 in
theorem on_own (d : Int) (l : List Int) (hll : l.length ≤ 1000000) : ACalls Try.prog 45 [I d, ints l] [] (fun r o => r = .own 20000 0 l.length ∧ o = [(20000, .row true 55 2 (l.map fun s => T (s, d)))]) := by
 have F := Fx.nil
 refine ent Try.func45 Try.ntmps45 Try.results45 ?_
 refine rK [0, 1] ?_
 refine rK [0, 1, 5] ?_
 refine W.seqk fun K1 hK1 => ?_
 refine rK [0, 1, 5, 6] ?_
 refine W.block ?_
 refine sn 5 9000 55 2 ?_
 refine lpa (α := Nat) [0, 1] [9, 20, 21] [9000] (fun i => [(6, I i), (5, .own 9000 0 i)]) (fun i => [(9000, .row true 55 2 (((l.take i).map fun s => (s, d)).map T))]) (fun i => i ≤ l.length) (fun i => l.length - i) 0 v0 ?_
 ·
  intro i hI0
  simp only [List.cons_append, List.nil_append]
  try dsimp only at hI0
  replace F := F.add hI0
  refine W.seqk fun K2 hK2 => ?_
  refine rK [0, 1, 5, 6, 10] ?_
  refine it (fun hc1 => ?_) (fun hc1 => ?_)
  ·
   try simp at hc1
   replace F := F.add hc1
   refine W.skip ?_
   refine hK2 _ ?_
   clear hK2 K2
   refine W.seqk fun K3 hK3 => ?_
   refine W.block ?_
   refine rEw ?_
   refine hK3 _ ?_
   clear hK3 K3
   refine rEw ?_
   refine ⟨i + 1, lf ?_ ?_, v0, v0⟩
   ·
    exact v1
   ·
    try (simp [Fx.get F])
    all_goals (
     exact take_snoc (T ∘ fun s : Int => (s, d)) hc1
    )
  ·
   try simp at hc1
   replace F := F.add hc1
   refine W.exit ?_
   refine hK1 _ ?_
   clear hK2 K2 hK1 K1
   refine rK [4] ?_
   refine W.ret ?_
   refine er false [] [(20000, 9000)] ?_
   rw [show i = l.length from by omega, List.take_of_length_le (by simp)]; exact ⟨rfl, by simp [Function.comp_def]⟩
theorem on_ok (d : Int) (l : List Int) (hll : l.length ≤ 1000000) : ACalls Try.prog 45 [I d, ints l] [] (fun r o => r = turns (l.map fun s => (s, d)) ∧ o = []) := (ACalls.frzs [20000] (on_own d l hll) (by simp; rfl) (by simp; rfl)).mono (fun r o h => ⟨h.1.trans (by simp [Function.comp_def]), h.2⟩)
def rowOw : List Turn := [(0, 0), (1, 0), (2, 0), (3, 0)]
def rowLk : List (List Turn) := [[(1, 0), (2, 0)], [(0, 0)], [(0, 0), (1, 0)], [(2, 0), (3, 0), (0, 0)]]
set_option maxHeartbeats 4000000 in
theorem row_ok  : ACalls Try.prog 44 [] [] (fun r o => r = trade rowOw rowLk ∧ o = []) := by
 have F := Fx.nil
 refine ent Try.func44 Try.ntmps44 Try.results44 ?_
 refine rK [0] ?_
 refine W.seqR ?_
 refine oN 1 ?_
 refine oC [] ?_
 refine ct (on_own 0 [0, 1, 2, 3] (by simp)) ?_
 refine oN 1 ?_
 refine oC [] ?_
 refine ct (on_own 0 [1, 2] (by simp)) ?_
 refine oN 1 ?_
 refine oC [] ?_
 refine ct (on_own 0 [0] (by simp)) ?_
 refine oN 1 ?_
 refine oC [] ?_
 refine ct (on_own 0 [0, 1] (by simp)) ?_
 refine oN 1 ?_
 refine oC [] ?_
 refine ct (on_own 0 [2, 3, 0] (by simp)) ?_
 refine oN 3 ?_
 refine oK [0] ?_
 refine W.ret ?_
 refine er false [16, 88] [] ?_
 exact ⟨rfl, rfl⟩
end Go.Sim
