/- All lists of some numbers. -/
import Derived.Test.YtmkclhnokelicaaLw
namespace Go.Sim
open Go.Proofs
set_option maxRecDepth 100000
set_option linter.unusedSimpArgs false
set_option linter.unusedVariables false
attribute [-simp] List.map_set List.map_take List.map_drop
/-- all lists of some of the first numbers that begin with some -/
def listsL (n : Nat) : Nat → List Int → List (List Int)
  | 0, b => [b]
  | f + 1, b => b :: (List.range n).flatMap fun i : Nat => if (i : Int) ∈ b then [] else listsL n f (b ++ [(i : Int)])
def listsQ (n f : Nat) (b : List Int) (i : Nat) : List (List Int) := b :: (List.range i).flatMap fun i : Nat => if (i : Int) ∈ b then [] else listsL n f (b ++ [(i : Int)])
theorem listsQ_zero (n f : Nat) (b : List Int) : listsQ n f b 0 = [b] := rfl
attribute [local simp] listsQ_zero
theorem listsQ_in {n f : Nat} {b : List Int} {i : Nat} (h : (i : Int) ∈ b) : listsQ n f b (i + 1) = listsQ n f b i := by
  simp [listsQ, List.range_succ, h]
theorem listsQ_out {n f : Nat} {b : List Int} {i : Nat} (h : (i : Int) ∉ b) : listsQ n f b (i + 1) = listsQ n f b i ++ listsL n f (b ++ [(i : Int)]) := by
  simp [listsQ, List.range_succ, h]
theorem flatN_le {f : Nat → List (List Int)} {m : Nat} : ∀ {L : List Nat}, (∀ x, (f x).length ≤ m) → (L.flatMap f).length ≤ L.length * m
  | [], _ => by simp
  | x :: L, h => by
    rw [List.flatMap_cons, List.length_append, List.length_cons, Nat.succ_mul]
    have := flatN_le (L := L) h
    have := h x
    omega
theorem listsL_many {n : Nat} (h8 : n ≤ 8) : ∀ (f : Nat) (b : List Int), (listsL n f b).length ≤ 9 ^ f
  | 0, _ => by simp [listsL]
  | f + 1, b => by
    rw [listsL, List.length_cons]
    have h1 := flatN_le (f := fun i : Nat => if (i : Int) ∈ b then [] else listsL n f (b ++ [(i : Int)])) (m := 9 ^ f) (L := List.range n) fun x => by
      split
      · simp
      · exact listsL_many h8 f _
    rw [List.length_range] at h1
    have h2 : n * 9 ^ f ≤ 8 * 9 ^ f := Nat.mul_le_mul_right _ h8
    have h3 : 0 < 9 ^ f := Nat.pow_pos (by omega)
    rw [Nat.pow_succ]
    omega
theorem listsQ_many {n : Nat} (h8 : n ≤ 8) {f : Nat} (hf : f ≤ 7) (b : List Int) {i : Nat} (hi : i ≤ 8) : (listsQ n f b i).length ≤ 43046721 ∧ ∀ c, (listsL n f c).length ≤ 43046721 := by
  have h0 : 9 ^ f ≤ 4782969 := Nat.pow_le_pow_right (n := 9) (by omega) hf
  refine ⟨?_, fun c => Nat.le_trans (listsL_many h8 f c) (by omega)⟩
  rw [listsQ, List.length_cons]
  have h1 := flatN_le (f := fun i : Nat => if (i : Int) ∈ b then [] else listsL n f (b ++ [(i : Int)])) (m := 9 ^ f) (L := List.range i) fun x => by
    split
    · simp
    · exact listsL_many h8 f _
  rw [List.length_range] at h1
  have h2 : i * 9 ^ f ≤ 8 * 4782969 := Nat.mul_le_mul hi h0
  omega
/-- what the lists have -/
theorem mem_lists {n : Nat} : ∀ (f : Nat) (b x : List Int), b.Nodup → (∀ y ∈ b, 0 ≤ y ∧ y < n) → x ∈ listsL n f b → x.Nodup ∧ ∀ y ∈ x, 0 ≤ y ∧ y < n
  | 0, b, x, hd, hr, hx => by rw [listsL, List.mem_singleton] at hx; subst hx; exact ⟨hd, hr⟩
  | f + 1, b, x, hd, hr, hx => by
    rw [listsL, List.mem_cons, List.mem_flatMap] at hx
    rcases hx with rfl | ⟨i, hi, hx⟩
    · exact ⟨hd, hr⟩
    · split at hx
      · simp at hx
      · rename_i hn
        have hi := List.mem_range.1 hi
        refine mem_lists f (b ++ [(i : Int)]) x ?_ (fun y hy => ?_) hx
        · rw [List.nodup_append]
          exact ⟨hd, by simp, fun p hp q hq e => by rw [List.mem_singleton] at hq; subst hq; subst e; exact hn hp⟩
        · rcases List.mem_append.1 hy with hy | hy
          · exact hr y hy
          · rw [List.mem_singleton] at hy; subst hy; omega
set_option maxHeartbeats 4000000 in
theorem lists_walk (n : Nat) (h8 : n ≤ 8) (f : Nat) (b : List Int) (hf : f ≤ 7) (hb8 : b.length ≤ 8) (ih : ∀ i : Nat, i < n → (i : Int) ∉ b → ACalls Try.prog 26 [ints (b ++ [(i : Int)]), I n] [] (fun r o => r = llsV (listsL n f (b ++ [(i : Int)])) ∧ o = [])) : ACalls Try.prog 26 [ints b, I n] [] (fun r o => r = llsV (listsQ n f b n) ∧ o = []) := by
 have F := Fx.nil
 refine ent Try.func26 Try.ntmps26 Try.results26 ?_
 refine rK [0, 1] ?_
 refine rK [0, 1, 5] ?_
 refine W.seqk fun K1 hK1 => ?_
 refine rK [0, 1, 5, 6] ?_
 refine W.block ?_
 refine lpa (α := Nat) [0, 1] [16, 20, 22, 23, 25, 26] [64] (fun i => [(6, I i), (5, .own 64 0 (listsQ n f b i).length)]) (fun i => [(64, .row true 22 1 ((listsQ n f b i).map ints))]) (fun i => i ≤ n) (fun i => n - i) 0 v0 ?_
 ·
  intro i hI0
  simp only [List.cons_append, List.nil_append]
  try dsimp only at hI0
  replace F := F.add hI0
  refine W.seqk fun K2 hK2 => ?_
  refine rK [0, 1, 5, 6, 11] ?_
  refine it (fun hc1 => ?_) (fun hc1 => ?_)
  ·
   try simp at hc1
   replace F := F.add hc1
   have hin : i < n := by omega
   have hk1 : (listsQ n f b i).length ≤ 43046721 := (listsQ_many h8 hf b (by omega)).1
   have hk2 : (listsL n f (b ++ [(i : Int)])).length ≤ 43046721 := (listsQ_many h8 hf b (i := 0) (by omega)).2 _
   replace F := F.add hin |>.add hk1 |>.add hk2
   refine W.skip ?_
   refine hK2 _ ?_
   clear hK2 K2
   refine W.seqk fun K3 hK3 => ?_
   refine W.block ?_
   by_cases hm : (i : Int) ∈ b
   ·
    replace F := F.add hm
    refine W.seqR ?_
    refine oN 2 ?_
    refine oC [] ?_
    refine ct (Has_ok _ _) ?_
    refine oN 1 ?_
    refine oK [0, 1, 5, 6, 17] ?_
    refine cF ?_
    refine W.skip ?_
    refine hK3 _ ?_
    clear hK3 K3
    refine rEw ?_
    refine ⟨i + 1, lf ?_ ?_, v0, v0⟩
    ·
     try (simp [Fx.get F])
     all_goals (
      first
      | (rw [listsQ_in hm]; done)
      | (rw [listsQ_out hm, List.length_append]; done)
     )
    ·
     try (simp [Fx.get F])
     all_goals (
      first
      | (rw [listsQ_in hm]; done)
      | (rw [listsQ_out hm, List.map_append]; done)
     )
   ·
    replace F := F.add hm
    have ih1 := ih i hin hm
    rw [ints_snoc] at ih1
    have htk : List.take (b.length + 1) (List.map I b ++ [I (i : Int)]) = List.map I b ++ [I (i : Int)] := List.take_of_length_le (by simp)
    replace F := F.add htk
    refine W.seqR ?_
    refine oN 2 ?_
    refine oC [] ?_
    refine ct (Has_ok _ _) ?_
    refine oN 1 ?_
    refine oK [0, 1, 5, 6, 17] ?_
    refine cT ?_
    refine W.region ?_
    refine oN 2 ?_
    refine oC [] ?_
    refine ct (CopyInts_ok _ (by omega)) ?_
    refine oNw 4 ?_
    refine fz 160 ?_
    refine oC [] ?_
    refine ct (ih1) ?_
    refine oNw 2 ?_
    refine WOps.endK ?_
    refine hK3 _ ?_
    clear hK3 K3
    refine rEw ?_
    refine ⟨i + 1, lf ?_ ?_, v0, v0⟩
    ·
     try (simp [Fx.get F])
     all_goals (
      first
      | (rw [listsQ_in hm]; done)
      | (rw [listsQ_out hm, List.length_append]; done)
     )
    ·
     try (simp [Fx.get F])
     all_goals (
      first
      | (rw [listsQ_in hm]; done)
      | (rw [listsQ_out hm, List.map_append]; done)
     )
  ·
   try simp at hc1
   replace F := F.add hc1
   refine W.exit ?_
   refine hK1 _ ?_
   clear hK2 K2 hK1 K1
   refine rK [4] ?_
   refine W.ret ?_
   refine er true [64] [] ?_
   have e : i = n := by omega
   subst e
   exact ⟨rfl, rfl⟩
theorem lists_ok (n : Nat) (h8 : n ≤ 8) : ∀ (f : Nat) (b : List Int), b.Nodup → (∀ y ∈ b, 0 ≤ y ∧ y < n) → b.length + f = n → ACalls Try.prog 26 [ints b, I n] [] (fun r o => r = llsV (listsL n f b) ∧ o = [])
  | 0, b, hd, hr, hl => by
    have hall : ∀ i : Nat, i < n → (i : Int) ∈ b := fun i hi => Classical.byContradiction fun hn => by
      have := le_of_nodup_int (l := (i : Int) :: b) (n := n) (List.nodup_cons.2 ⟨hn, hd⟩) fun x hx => by
        rcases List.mem_cons.1 hx with rfl | hx
        · omega
        · exact hr x hx
      rw [List.length_cons] at this; omega
    have e : ∀ i, i ≤ n → listsQ n 0 b i = [b] := fun i => by
      induction i with
      | zero => intro _; rfl
      | succ i ih => intro hi; rw [listsQ_in (hall i (by omega)), ih (by omega)]
    have := lists_walk n h8 0 b (by omega) (by omega) fun i hi hn => absurd (hall i hi) hn
    rw [e n (Nat.le_refl _)] at this
    exact this
  | f + 1, b, hd, hr, hl => lists_walk n h8 f b (by omega) (by omega) fun i hi hn => lists_ok n h8 f (b ++ [(i : Int)]) (by
      rw [List.nodup_append]
      exact ⟨hd, by simp, fun p hp q hq e => by rw [List.mem_singleton] at hq; subst hq; subst e; exact hn hp⟩) (fun y hy => by
      rcases List.mem_append.1 hy with hy | hy
      · exact hr y hy
      · rw [List.mem_singleton] at hy; subst hy; omega) (by rw [List.length_append, List.length_singleton]; omega)
end Go.Sim
