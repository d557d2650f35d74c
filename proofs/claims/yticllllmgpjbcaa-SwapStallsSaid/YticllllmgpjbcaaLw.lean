/- All holders that may be, and all lists of some numbers. -/
import Derived.Test.YticllllmgpjbcaaLr
import Derived.Test.YticllllmgpjbcaaPl
namespace Go.Sim
open Go.Proofs
set_option maxRecDepth 100000
set_option linter.unusedSimpArgs false
set_option linter.unusedVariables false
attribute [-simp] List.map_set List.map_take List.map_drop
abbrev llsV (l : List (List Int)) : AV := .imm (l.map ints)
def candQ (l : Lett) (b : List Int) : Nat → List Int
  | 0 => []
  | i + 1 => (-1) :: ((List.range i).filter fun a : Nat => !decide ((a : Int) ∈ b) && canS l.stalls (nth l.apps a) b.length).map fun a : Nat => (a : Int)
theorem candQ_full (l : Lett) (b : List Int) : candQ l b (l.apps.length + 1) = candL l b := rfl
theorem candQ_hit {l : Lett} {b : List Int} {a : Nat} (hb : (a : Int) ∉ b) (hc : canS l.stalls (nth l.apps a) b.length = true) : candQ l b (a + 2) = candQ l b (a + 1) ++ [(a : Int)] := by
  simp [candQ, List.range_succ, List.filter_append, hb, hc]
theorem candQ_in {l : Lett} {b : List Int} {a : Nat} (hb : (a : Int) ∈ b) : candQ l b (a + 2) = candQ l b (a + 1) := by
  simp [candQ, List.range_succ, List.filter_append, hb]
theorem candQ_not {l : Lett} {b : List Int} {a : Nat} (hc : ¬ canS l.stalls (nth l.apps a) b.length = true) : candQ l b (a + 2) = candQ l b (a + 1) := by
  simp [candQ, List.range_succ, List.filter_append, hc]
def allQ (l : Lett) (k : Nat) (b : List Int) (i : Nat) : List (List Int) := (candQ l b i).flatMap fun a => allL l k (b ++ [a])
theorem allQ_zero (l : Lett) (k : Nat) (b : List Int) : allQ l k b 0 = [] := rfl
attribute [local simp] allQ_zero
theorem allQ_full (l : Lett) (k : Nat) (b : List Int) : allQ l k b (l.apps.length + 1) = allL l (k + 1) b := by rw [allQ, candQ_full, allL]
theorem candQ_len (l : Lett) (b : List Int) : ∀ i, (candQ l b i).length ≤ i
  | 0 => by simp [candQ]
  | i + 1 => by
    rw [candQ, List.length_cons, List.length_map]
    have := List.length_filter_le (fun a : Nat => !decide ((a : Int) ∈ b) && canS l.stalls (nth l.apps a) b.length) (List.range i)
    rw [List.length_range] at this; omega
theorem flat_le {f : Int → List (List Int)} {m : Nat} : ∀ {L : List Int}, (∀ x, (f x).length ≤ m) → (L.flatMap f).length ≤ L.length * m
  | [], _ => by simp
  | x :: L, h => by
    rw [List.flatMap_cons, List.length_append, List.length_cons, Nat.succ_mul]
    have := flat_le (L := L) h
    have := h x
    omega
theorem allL_many {l : Lett} (h8 : l.apps.length ≤ 8) : ∀ (k : Nat) (b : List Int), (allL l k b).length ≤ 9 ^ k
  | 0, _ => by simp [allL]
  | k + 1, b => by
    rw [allL]
    refine Nat.le_trans (flat_le fun x => allL_many h8 k (b ++ [x])) ?_
    rw [Nat.pow_succ, Nat.mul_comm]
    have := candQ_len l b (l.apps.length + 1)
    rw [candQ_full] at this
    exact Nat.mul_le_mul_left _ (by omega)
theorem allQ_many {l : Lett} (h8 : l.apps.length ≤ 8) {k : Nat} (hk : k ≤ 7) (b : List Int) {i : Nat} (hi : i ≤ 9) : (allQ l k b i).length ≤ 43046721 ∧ (allL l k b).length ≤ 43046721 := by
  have h1 : 9 ^ k ≤ 4782969 := Nat.pow_le_pow_right (n := 9) (by omega) hk
  refine ⟨?_, Nat.le_trans (allL_many h8 k b) (by omega)⟩
  refine Nat.le_trans (flat_le fun x => allL_many h8 k (b ++ [x])) ?_
  have := candQ_len l b i
  calc (candQ l b i).length * 9 ^ k ≤ 9 * 4782969 := Nat.mul_le_mul (by omega) h1
    _ ≤ 43046721 := by omega
theorem allQ_in {l : Lett} {k : Nat} {b : List Int} {a : Nat} (h : (a : Int) ∈ b) : allQ l k b (a + 2) = allQ l k b (a + 1) := by rw [allQ, allQ, candQ_in h]
theorem allQ_not {l : Lett} {k : Nat} {b : List Int} {a : Nat} (ha : a < l.apps.length) (h : ¬ canS l.stalls l.apps[a] b.length = true) : allQ l k b (a + 2) = allQ l k b (a + 1) := by rw [allQ, allQ, candQ_not (by rw [nth_get ha]; exact h)]
theorem allQ_hit {l : Lett} {k : Nat} {b : List Int} {a : Nat} (ha : a < l.apps.length) (hb : (a : Int) ∉ b) (h : canS l.stalls l.apps[a] b.length = true) : allQ l k b (a + 2) = allQ l k b (a + 1) ++ allL l k (b ++ [(a : Int)]) := by
  rw [allQ, allQ, candQ_hit hb (by rw [nth_get ha]; exact h), List.flatMap_append]; simp
theorem allQ_one {l : Lett} {k : Nat} {b : List Int} : allQ l k b 1 = allL l k (b ++ [-1]) := by simp [allQ, candQ]
set_option maxHeartbeats 4000000 in
theorem All_zero (l : Lett) (b : List Int) (hl : b.length = l.stalls.length) : ACalls Try.prog 28 [letV l, ints b] [] (fun r o => r = llsV [b] ∧ o = []) := by
 have F := Fx.nil
 refine ent Try.func28 Try.ntmps28 Try.results28 ?_
 have hl2 : (b.length : Int) = l.stalls.length := by omega
 replace F := F.add hl2
 refine rK [1, 2] ?_
 refine rK [1, 2, 5] ?_
 refine W.seqk fun K1 hK1 => ?_
 refine rK [1, 2, 5, 14] ?_
 refine cT ?_
 refine rK [4] ?_
 refine W.ret ?_
 refine tr ?_
 clear hK1 K1
 exact er0 false [128] []
theorem ints_snoc (l : List Int) (x : Int) : ints (l ++ [x]) = .imm (l.map I ++ [I x]) := by simp
set_option maxHeartbeats 4000000 in
theorem All_step (l : Lett) (hv : ValidL l) (k : Nat) (b : List Int) (hl : b.length + (k + 1) = l.stalls.length) (ih : ∀ x : Int, ACalls Try.prog 28 [letV l, ints (b ++ [x])] [] (fun r o => r = llsV (allL l k (b ++ [x])) ∧ o = [])) : ACalls Try.prog 28 [letV l, ints b] [] (fun r o => r = llsV (allL l (k + 1) b) ∧ o = []) := by
 have F := Fx.nil
 refine ent Try.func28 Try.ntmps28 Try.results28 ?_
 have h8 := hv.a8
 have hs8 := hv.s8
 have hne : ¬ (b.length : Int) = l.stalls.length := by omega
 replace F := F.add h8 |>.add hs8 |>.add hne
 refine rK [1, 2] ?_
 refine rK [1, 2, 5] ?_
 refine W.seqk fun K1 hK1 => ?_
 refine rK [1, 2, 5, 14] ?_
 refine cF ?_
 refine W.skip ?_
 refine hK1 _ ?_
 clear hK1 K1
 refine rK [1, 2, 5, 6] ?_
 refine W.seqk fun K2 hK2 => ?_
 refine rK [1, 2, 5, 6, 7] ?_
 refine W.block ?_
 refine sn 6 9000 22 1 ?_
 refine lpa (α := Nat) [1, 2, 5] [20, 29, 35, 40, 42, 44, 45, 46, 47] [9000] (fun i => [(7, I ((i : Int) - 1)), (6, .own 9000 0 (allQ l k b i).length)]) (fun i => [(9000, .row true 22 1 ((allQ l k b i).map ints))]) (fun i => i ≤ l.apps.length + 1) (fun i => l.apps.length + 1 - i) 0 v0 ?_
 ·
  intro i hI0
  simp only [List.cons_append, List.nil_append]
  try dsimp only at hI0
  replace F := F.add hI0
  refine W.seqk fun K3 hK3 => ?_
  refine rK [1, 2, 5, 6, 7, 21] ?_
  refine it (fun hc2 => ?_) (fun hc2 => ?_)
  ·
   try simp at hc2
   replace F := F.add hc2
   have hia : i < l.apps.length + 1 := by omega
   have hbs : b.length < l.stalls.length := by omega
   have hk1 : (allQ l k b i).length ≤ 43046721 := (allQ_many h8 (by omega) b (by omega)).1
   have qk2 : ∀ x, (allL l k (b ++ [x])).length ≤ 43046721 := fun x => (allQ_many h8 (by omega) (b ++ [x]) (i := 0) (by omega)).2
   replace F := F.add hia |>.add hbs |>.add hk1
   refine W.skip ?_
   refine hK3 _ ?_
   clear hK3 K3
   refine W.seqk fun K4 hK4 => ?_
   refine W.block ?_
   by_cases hneg : i = 0
   ·
    replace F := F.add hneg
    have qn := hneg
    subst qn
    have ih1 := ih (-1)
    rw [ints_snoc] at ih1
    have hk2 := qk2 (-1)
    replace F := F.add hk2
    refine W.seqR ?_
    refine oN 3 ?_
    refine gF ?_
    refine gF ?_
    refine gF ?_
    refine gF ?_
    refine gF ?_
    refine gF ?_
    refine gF ?_
    refine gF ?_
    refine gF ?_
    refine gF ?_
    refine oN 1 ?_
    refine oK [1, 2, 5, 6, 7, 37] ?_
    refine cT ?_
    refine wDe 9 [(4, [320]), (7, [336])] [[], [], [], [], [3, 2], [], [5], [5, 6, 2, 3, 4], [4, 3, 2, 6, 5, 7, 1], [1, 7, 5, 6, 2, 3, 4, 8, 0], [0, 8, 4, 3, 2, 6, 5, 7, 1, 9]] ?_
    refine dB [([39, 40, 41, 42, 43, 44, 45, 46], [], [320, 336]), ([38, 40, 41, 42, 43, 44, 45], [false], [320, 336]), ([38, 39, 41, 43, 44], [false, false], []), ([38, 39, 40, 43, 44], [false, false, false], [])] 5 4 ?_
    refine dAw [38, 39, 43, 44] [false, false, true, true] [] [320] ?_
    refine dB [([38, 39, 40, 41, 42], [false, false, false, false, false], [320]), ([38, 39, 40, 41, 42], [false, false, false, false, false, true], [320])] 2 7 ?_
    refine WDraw.appI hΓ [336] (viewB_eq (L := [38, 39]) (S := [false, false, true, true, true, true, true]) (O := []) (by kernel_rfl) (by kernel_rfl) (by simp [h8, hs8, hne, hI0, hc2, hia, hbs, hk1, hneg, hk2]; rfl)) (by first | rfl | simp) (by simp [h8, hs8, hne, hI0, hc2, hia, hbs, hk1, hneg, hk2]; (try (simp (disch := omega) only [wrap_i64, mul_i64, capOk_of]; (try simp [h8, hs8, hne, hI0, hc2, hia, hbs, hk1, hneg, hk2]))); first | rfl | exact ⟨rfl, rfl⟩) (by simp [h8, hs8, hne, hI0, hc2, hia, hbs, hk1, hneg, hk2, imD]; first | rfl | exact ⟨rfl, rfl⟩) (by first | rfl | simp) (by simp [h8, hs8, hne, hI0, hc2, hia, hbs, hk1, hneg, hk2]; first | done | rfl) (.inr (by simp)) (by simp [h8, hs8, hne, hI0, hc2, hia, hbs, hk1, hneg, hk2]; rfl) ?_
    refine dC [38] [false, true, true, true, true, true, true, true] [] [] ?_
    refine cd (ih1) ?_
    refine dD ?_
    refine oNw 2 ?_
    refine WOps.endK ?_
    refine hK4 _ ?_
    clear hK4 K4
    refine rEw ?_
    refine ⟨1, lf ?_ ?_, v0, v0⟩
    ·
     try (simp [Fx.get F])
     all_goals (
      (rw [allQ_one]; done)
     )
    ·
     try (simp [Fx.get F])
     all_goals (
      (rw [allQ_one]; done)
     )
   ·
    replace F := F.add hneg
    obtain ⟨a, rfl⟩ : ∃ a, i = a + 1 := ⟨i - 1, by omega⟩
    have ha : a < l.apps.length := by omega
    have ih1 := ih (a : Int)
    rw [ints_snoc] at ih1
    have hk2 := qk2 (a : Int)
    replace F := F.add ha |>.add hk2
    by_cases hin : (a : Int) ∈ b
    ·
     replace F := F.add hin
     refine W.seqR ?_
     refine oN 3 ?_
     refine gX ?_
     refine gX ?_
     refine gXc ?_
     refine cx (fun hg => by (try simp at hg); exact has_ok _ _) ?_
     refine gX ?_
     refine gX ?_
     refine gF ?_
     refine gF ?_
     refine gF ?_
     refine gF ?_
     refine gX ?_
     refine oN 1 ?_
     refine oK [1, 2, 5, 6, 7, 37] ?_
     refine cF ?_
     refine W.skip ?_
     refine hK4 _ ?_
     clear hK4 K4
     refine rEw ?_
     refine ⟨a + 2, lf ?_ ?_, v0, v0⟩
     ·
      try (simp [Fx.get F])
      all_goals (
       exact ⟨by omega, by rw [allQ_in hin]⟩
      )
     ·
      try (simp [Fx.get F])
      all_goals (
       (rw [allQ_in hin]; done)
      )
    ·
     replace F := F.add hin
     by_cases hcan : canS l.stalls l.apps[a] b.length = true
     ·
      replace F := F.add hcan
      refine W.seqR ?_
      refine oN 3 ?_
      refine gX ?_
      refine gX ?_
      refine gXc ?_
      refine cx (fun hg => by (try simp at hg); exact has_ok _ _) ?_
      refine gX ?_
      refine gX ?_
      refine gT ?_
      refine gT ?_
      refine gT ?_
      refine gC [] ?_
      refine ct (Can_ok l hv a b.length ha hbs) ?_
      refine gX ?_
      refine oN 1 ?_
      refine oK [1, 2, 5, 6, 7, 37] ?_
      refine cT ?_
      refine wDe 9 [(4, [320]), (7, [336])] [[], [], [], [], [3, 2], [], [5], [5, 6, 2, 3, 4], [4, 3, 2, 6, 5, 7, 1], [1, 7, 5, 6, 2, 3, 4, 8, 0], [0, 8, 4, 3, 2, 6, 5, 7, 1, 9]] ?_
      refine dB [([39, 40, 41, 42, 43, 44, 45, 46], [], [320, 336]), ([38, 40, 41, 42, 43, 44, 45], [false], [320, 336]), ([38, 39, 41, 43, 44], [false, false], []), ([38, 39, 40, 43, 44], [false, false, false], [])] 5 4 ?_
      refine dAw [38, 39, 43, 44] [false, false, true, true] [] [320] ?_
      refine dB [([38, 39, 40, 41, 42], [false, false, false, false, false], [320]), ([38, 39, 40, 41, 42], [false, false, false, false, false, true], [320])] 2 7 ?_
      refine WDraw.appI hΓ [336] (viewB_eq (L := [38, 39]) (S := [false, false, true, true, true, true, true]) (O := []) (by kernel_rfl) (by kernel_rfl) (by simp [h8, hs8, hne, hI0, hc2, hia, hbs, hk1, hneg, ha, hk2, hin, hcan]; rfl)) (by first | rfl | simp) (by simp [h8, hs8, hne, hI0, hc2, hia, hbs, hk1, hneg, ha, hk2, hin, hcan]; (try (simp (disch := omega) only [wrap_i64, mul_i64, capOk_of]; (try simp [h8, hs8, hne, hI0, hc2, hia, hbs, hk1, hneg, ha, hk2, hin, hcan]))); first | rfl | exact ⟨rfl, rfl⟩) (by simp [h8, hs8, hne, hI0, hc2, hia, hbs, hk1, hneg, ha, hk2, hin, hcan, imD]; first | rfl | exact ⟨rfl, rfl⟩) (by first | rfl | simp) (by simp [h8, hs8, hne, hI0, hc2, hia, hbs, hk1, hneg, ha, hk2, hin, hcan]; first | done | rfl) (.inr (by simp)) (by simp [h8, hs8, hne, hI0, hc2, hia, hbs, hk1, hneg, ha, hk2, hin, hcan]; rfl) ?_
      refine dC [38] [false, true, true, true, true, true, true, true] [] [] ?_
      refine cd (ih1) ?_
      refine dD ?_
      refine oNw 2 ?_
      refine WOps.endK ?_
      refine hK4 _ ?_
      clear hK4 K4
      refine rEw ?_
      refine ⟨a + 2, lf ?_ ?_, v0, v0⟩
      ·
       try (simp [Fx.get F])
       all_goals (
        exact ⟨by omega, by rw [allQ_hit ha hin hcan, List.length_append]⟩
       )
      ·
       try (simp [Fx.get F])
       all_goals (
        (rw [allQ_hit ha hin hcan, List.map_append]; done)
       )
     ·
      replace F := F.add hcan
      refine W.seqR ?_
      refine oN 3 ?_
      refine gX ?_
      refine gX ?_
      refine gXc ?_
      refine cx (fun hg => by (try simp at hg); exact has_ok _ _) ?_
      refine gX ?_
      refine gX ?_
      refine gT ?_
      refine gT ?_
      refine gT ?_
      refine gC [] ?_
      refine ct (Can_ok l hv a b.length ha hbs) ?_
      refine gX ?_
      refine oN 1 ?_
      refine oK [1, 2, 5, 6, 7, 37] ?_
      refine cF ?_
      refine W.skip ?_
      refine hK4 _ ?_
      clear hK4 K4
      refine rEw ?_
      refine ⟨a + 2, lf ?_ ?_, v0, v0⟩
      ·
       try (simp [Fx.get F])
       all_goals (
        exact ⟨by omega, by rw [allQ_not ha hcan]⟩
       )
      ·
       try (simp [Fx.get F])
       all_goals (
        (rw [allQ_not ha hcan]; done)
       )
  ·
   try simp at hc2
   replace F := F.add hc2
   refine W.exit ?_
   refine hK2 _ ?_
   clear hK3 K3 hK2 K2
   refine rK [4] ?_
   refine W.ret ?_
   refine er true [9000] [] ?_
   have e : i = l.apps.length + 1 := by omega
   subst e
   exact ⟨by rw [allQ_full], rfl⟩
theorem All_ok (l : Lett) (hv : ValidL l) : ∀ (k : Nat) (b : List Int), b.length + k = l.stalls.length → ACalls Try.prog 28 [letV l, ints b] [] (fun r o => r = llsV (allL l k b) ∧ o = [])
  | 0, b, h => All_zero l b (by omega)
  | k + 1, b, h => All_step l hv k b h fun x => All_ok l hv k (b ++ [x]) (by rw [List.length_append, List.length_singleton]; omega)
end Go.Sim
