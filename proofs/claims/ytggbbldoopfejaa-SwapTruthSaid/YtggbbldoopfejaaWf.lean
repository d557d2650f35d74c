/- All lists of some of the first numbers. -/
import Derived.Test.YtggbbldoopfejaaVr
namespace Go.Sim
open Go.Proofs Go.Plain
set_option maxRecDepth 100000
set_option linter.unusedSimpArgs false
set_option linter.unusedVariables false
attribute [-simp] List.map_set List.map_take List.map_drop
attribute [local simp] take_map' drop_map' take_app1
theorem HasN (l : List Nat) (i : Nat) : ACalls Try.prog 70 [rgV l, I (i : Int)] [] (fun r o => r = B (decide (i ∈ l)) ∧ o = []) := by
  have h := Has_ok (l.map fun (n : Nat) => (n : Int)) (i : Int)
  have e : ints (l.map fun (n : Nat) => (n : Int)) = rgV l := by simp [Function.comp_def]
  have e2 : decide ((i : Int) ∈ l.map fun (n : Nat) => (n : Int)) = decide (i ∈ l) := by
    rw [decide_eq_decide]; simp
    exact ⟨fun ⟨a, h, e⟩ => by rwa [Int.ofNat.inj e] at h, fun h => ⟨i, h, rfl⟩⟩
  rw [e, e2] at h
  exact h
theorem CopyIntsN (l : List Nat) (hl : l.length ≤ 1000000) : ACalls Try.prog 71 [rgV l] [] (fun r o => r = .own 20000 0 l.length ∧ o = [(20000, .row true 3 1 (l.map nI))]) := by
  have h := CopyInts_ok (l.map fun (n : Nat) => (n : Int)) (by simpa using hl)
  have e : ints (l.map fun (n : Nat) => (n : Int)) = rgV l := by simp [Function.comp_def]
  rw [e, List.length_map, ← map_nI] at h
  exact h
/-- a list, and what it goes on to -/
def lisK (g : Nat → List (List Nat)) (l : List Nat) (i : Nat) : List (List Nat) := l :: (List.range i).flatMap fun j => if j ∈ l then [] else g j
theorem lisK_zero (g : Nat → List (List Nat)) (l : List Nat) : lisK g l 0 = [l] := rfl
theorem lisK_in {g : Nat → List (List Nat)} {l : List Nat} {i : Nat} (h : i ∈ l) : lisK g l (i + 1) = lisK g l i := by simp [lisK, List.range_succ, h]
theorem lisK_out {g : Nat → List (List Nat)} {l : List Nat} {i : Nat} (h : i ∉ l) : lisK g l (i + 1) = lisK g l i ++ g i := by simp [lisK, List.range_succ, h]
theorem lisK_many {g : Nat → List (List Nat)} {b : Nat} (hg : ∀ j, (g j).length ≤ b) (l : List Nat) : ∀ i, (lisK g l i).length ≤ 1 + i * b
  | 0 => by simp [lisK]
  | i + 1 => by
    have ih := lisK_many hg l i
    rw [Nat.succ_mul]
    by_cases h : i ∈ l
    · rw [lisK_in h]; omega
    · rw [lisK_out h, List.length_append]; have := hg i; omega
attribute [local simp] lisK_zero
set_option maxHeartbeats 4000000 in
theorem lists_step (n : Nat) (hn : n ≤ 5) (l : List Nat) (hl : l.length ≤ 5) (g : Nat → List (List Nat)) (hg : ∀ j, (g j).length ≤ 1296) (ih : ∀ j, j < n → j ∉ l → ACalls Try.prog 40 [rgV (l ++ [j]), I n] [] (fun r o => r = tabsN (g j) ∧ o = [])) : ACalls Try.prog 40 [rgV l, I n] [] (fun r o => r = tabsN (lisK g l n) ∧ o = []) := by
 have F := Fx.nil
 refine ent Try.func40 Try.ntmps40 Try.results40 ?_
 refine rK [0, 1] ?_
 refine rK [0, 1, 5] ?_
 refine W.seqk fun K1 hK1 => ?_
 refine rK [0, 1, 5, 6] ?_
 refine W.block ?_
 refine lpa (α := Nat) [0, 1] [16, 20, 22, 23, 25, 26] [64] (fun i => [(6, I i), (5, .own 64 0 (lisK g l i).length)]) (fun i => [(64, .row true 26 1 ((lisK g l i).map rgV))]) (fun i => i ≤ n) (fun i => n - i) 0 v0 ?_
 ·
  intro i hI0
  simp only [List.cons_append, List.nil_append]
  try dsimp only at hI0
  replace F := F.add hI0
  refine W.seqk fun K2 hK2 => ?_
  refine rK [0, 1, 5, 6, 11] ?_
  refine it (fun hc1 => ?_) (fun hc1 => ?_)
  ·
   try simp at hc1
   replace F := F.add hc1
   refine W.skip ?_
   refine hK2 _ ?_
   clear hK2 K2
   refine W.seqk fun K3 hK3 => ?_
   refine W.block ?_
   by_cases hil : i ∈ l
   ·
    replace F := F.add hil
    have hin : i < n := by omega
    have hk1 := lisK_many hg l i
    have hk2 : (lisK g l i).length ≤ 7000 := Nat.le_trans hk1 (by omega)
    have hk3 := hg i
    replace F := F.add hin |>.add hk1 |>.add hk2 |>.add hk3
    refine W.seqR ?_
    refine oN 2 ?_
    refine oC [] ?_
    refine ct (HasN l i) ?_
    refine oN 1 ?_
    refine oK [0, 1, 5, 6, 17] ?_
    refine cF ?_
    refine W.skip ?_
    refine hK3 _ ?_
    clear hK3 K3
    refine rEw ?_
    refine ⟨i + 1, lf ?_ ?_, v0, v0⟩
    ·
     try (simp [Fx.get F])
     all_goals (
      rw [lisK_in hil]
     )
    ·
     try (simp [Fx.get F])
     all_goals (
      rw [lisK_in hil]
     )
   ·
    replace F := F.add hil
    have hin : i < n := by omega
    have hk1 := lisK_many hg l i
    have hk2 : (lisK g l i).length ≤ 7000 := Nat.le_trans hk1 (by omega)
    have hk3 := hg i
    replace F := F.add hin |>.add hk1 |>.add hk2 |>.add hk3
    refine W.seqR ?_
    refine oN 2 ?_
    refine oC [] ?_
    refine ct (HasN l i) ?_
    refine oN 1 ?_
    refine oK [0, 1, 5, 6, 17] ?_
    refine cT ?_
    have ih1 := ih i hin hil
    rw [rgV_snoc] at ih1
    refine W.region ?_
    refine oN 2 ?_
    refine oC [] ?_
    refine ct (CopyIntsN l (by omega)) ?_
    refine oNw 4 ?_
    refine fz 160 ?_
    refine oC [] ?_
    refine ct (ih1) ?_
    refine oNw 2 ?_
    refine WOps.endK ?_
    refine hK3 _ ?_
    clear hK3 K3
    refine rEw ?_
    refine ⟨i + 1, lf ?_ ?_, v0, v0⟩
    ·
     try (simp [Fx.get F])
     all_goals (
      rw [lisK_out hil, List.length_append]
     )
    ·
     try (simp [Fx.get F])
     all_goals (
      rw [lisK_out hil, List.map_append]
     )
  ·
   try simp at hc1
   replace F := F.add hc1
   refine W.exit ?_
   refine hK1 _ ?_
   clear hK2 K2 hK1 K1
   refine rK [4] ?_
   refine W.ret ?_
   refine er true [64] [] ?_
   obtain rfl : i = n := by omega
   exact ⟨rfl, rfl⟩
def lisT (n : Nat) : Nat → List Nat → List (List Nat)
  | 0, l => lisK (fun _ => []) l n
  | f + 1, l => lisK (fun j => lisT n f (l ++ [j])) l n
theorem lisT_many {n : Nat} (hn : n ≤ 5) : ∀ (f : Nat) (l : List Nat), (lisT n f l).length ≤ 6 ^ f
  | 0, l => by have := lisK_many (g := fun _ => []) (b := 0) (by simp) l n; rw [lisT]; simpa using this
  | f + 1, l => by
    have := lisK_many (g := fun j => lisT n f (l ++ [j])) (b := 6 ^ f) (fun j => lisT_many hn f _) l n
    have h1 : n * 6 ^ f ≤ 5 * 6 ^ f := Nat.mul_le_mul_right _ hn
    have h2 : 1 ≤ 6 ^ f := Nat.one_le_pow _ _ (by omega)
    rw [lisT, Nat.pow_succ]; omega
theorem snoc_nodup {l : List Nat} {j : Nat} (hd : l.Nodup) (hj : j ∉ l) : (l ++ [j]).Nodup := List.nodup_append.2 ⟨hd, by simp, fun a ha b hb => by obtain rfl := List.mem_singleton.1 hb; rintro rfl; exact hj ha⟩
theorem snoc_lt {l : List Nat} {n j : Nat} (hl : ∀ y ∈ l, y < n) (hj : j < n) : ∀ y ∈ l ++ [j], y < n := fun y hy => by
  rcases List.mem_append.1 hy with h | h
  · exact hl y h
  · obtain rfl := List.mem_singleton.1 h; exact hj
theorem all_in {l : List Nat} {n j : Nat} (hd : l.Nodup) (hl : ∀ y ∈ l, y < n) (hn : l.length = n) (hj : j < n) : j ∈ l := by
  refine Classical.byContradiction fun h => ?_
  have := le_of_nodup_lt (snoc_nodup hd h) (snoc_lt hl hj)
  simp at this; omega
theorem lists_ok {n : Nat} (hn : n ≤ 5) : ∀ (f : Nat) (l : List Nat), l.length + f = n → l.Nodup → (∀ y ∈ l, y < n) → ACalls Try.prog 40 [rgV l, I n] [] (fun r o => r = tabsN (lisT n f l) ∧ o = [])
  | 0, l, h, hd, hl => lists_step n hn l (by omega) (fun _ => []) (by simp) fun j hj hjl => absurd (all_in hd hl (by omega) hj) hjl
  | f + 1, l, h, hd, hl => lists_step n hn l (by omega) (fun j => lisT n f (l ++ [j])) (fun j => Nat.le_trans (lisT_many hn f _) (Nat.pow_le_pow_right (n := 6) (by omega) (by omega : f ≤ 4))) fun j hj hjl => lists_ok hn f (l ++ [j]) (by simp; omega) (snoc_nodup hd hjl) (snoc_lt hl hj)
theorem lisK_mem {g : Nat → List (List Nat)} {l h : List Nat} {n : Nat} (hh : h ∈ lisK g l n) : h = l ∨ ∃ j, j < n ∧ j ∉ l ∧ h ∈ g j := by
  rw [lisK, List.mem_cons, List.mem_flatMap] at hh
  rcases hh with h1 | ⟨j, hj, h2⟩
  · exact .inl h1
  · by_cases hjl : j ∈ l
    · rw [if_pos hjl] at h2; cases h2
    · rw [if_neg hjl] at h2; exact .inr ⟨j, List.mem_range.1 hj, hjl, h2⟩
theorem lisT_mem {n : Nat} : ∀ (f : Nat) (l h : List Nat), l.Nodup → (∀ y ∈ l, y < n) → h ∈ lisT n f l → h.Nodup ∧ ∀ y ∈ h, y < n
  | 0, l, h, hd, hl, hh => by
    rcases lisK_mem hh with rfl | ⟨j, _, _, h2⟩
    · exact ⟨hd, hl⟩
    · simp at h2
  | f + 1, l, h, hd, hl, hh => by
    rcases lisK_mem hh with rfl | ⟨j, hj, hjl, h2⟩
    · exact ⟨hd, hl⟩
    · exact lisT_mem f (l ++ [j]) h (snoc_nodup hd hjl) (snoc_lt hl hj) h2
end Go.Sim
