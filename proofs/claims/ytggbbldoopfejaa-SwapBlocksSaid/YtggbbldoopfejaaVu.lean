/- Exact contracts of the shuffle and of held turns made of numbers. -/
import Derived.Test.YtggbbldoopfejaaVp
namespace Go.Sim
open Go.Proofs Go.Plain
set_option maxRecDepth 100000
set_option linter.unusedSimpArgs false
set_option linter.unusedVariables false
attribute [-simp] List.map_set List.map_take List.map_drop
attribute [local simp] take_map' drop_map'
/-- one step of the shuffle -/
noncomputable def shufS (x : List Int × Int × Nat) : List Int × Int × Nat := ((x.1.set x.2.2 (nth x.1 (castV x.2.1 ((x.2.2 : Int) + 1)).toNat)).set (castV x.2.1 ((x.2.2 : Int) + 1)).toNat (x.2.2 : Int), castF x.2.1 ((x.2.2 : Int) + 1), x.2.2 + 1)
noncomputable def shufR : Nat → List Int × Int × Nat → List Int × Int × Nat
  | 0, x => x
  | k + 1, x => shufR k (shufS x)
/-- an order made of a die, and the die -/
noncomputable def shufZ (f : Int) (n : Nat) : List Int × Int := ((shufR n (List.replicate n 0, f, 0)).1, (shufR n (List.replicate n 0, f, 0)).2.1)
theorem shufR_order {n : Nat} : ∀ (k : Nat) (x : List Int × Int × Nat), x.1.length = n → x.2.2 + k = n → Order (x.1.take x.2.2) x.2.2 → Order ((shufR k x).1.take n) n ∧ (shufR k x).1.length = n
  | 0, ⟨l, f, i⟩, hl, hk, ho => by
    simp only at hl hk ho
    obtain rfl : i = n := by omega
    exact ⟨ho, hl⟩
  | k + 1, ⟨l, f, i⟩, hl, hk, ho => by
    simp only at hl hk ho
    have h1 := castV_lo f ((i : Int) + 1)
    have h2 := castV_hi f ((i : Int) + 1) (by omega)
    have h3 : (castV f ((i : Int) + 1)).toNat < l.length := by omega
    refine shufR_order k (shufS (l, f, i)) (by simp [shufS, hl]) (by simp [shufS]; omega) ?_
    simp only [shufS, nth_get h3]
    exact order_step ho (by omega) (by omega) h3
theorem shufZ_order (f : Int) (n : Nat) : Order (shufZ f n).1 n := by
  obtain ⟨h1, h2⟩ := shufR_order (n := n) n (List.replicate n 0, f, 0) (by simp) (by simp) (by simp [Order])
  rw [List.take_of_length_le (by omega)] at h1
  exact h1
set_option maxHeartbeats 4000000 in
theorem Shuffle_ex (f0 : Int) (n : Nat) (hn : n ≤ 1000000) : ACalls Try.prog 42 [.ptr 10000 0 0, I n] [(10000, die f0)] (fun r o => r = .own 20000 0 (shufZ f0 n).1.length ∧ o = [(10000, die (shufZ f0 n).2), (20000, .row true 3 1 ((shufZ f0 n).1.map I))]) := by
 have F := Fx.nil
 refine ent Try.func42 Try.ntmps42 Try.results42 ?_
 refine rK [0, 1] ?_
 have hmx : (if 0 < n then (n : Int) else 0) = n := by split <;> omega
 have h16 : (n : Int) ≤ 16777216 := by omega
 have hn0 : (0 : Int) ≤ n := by omega
 replace F := F.add hmx |>.add h16 |>.add hn0
 refine rK [0, 5] ?_
 refine W.seqk fun K1 hK1 => ?_
 refine rK [0, 5, 6] ?_
 refine W.block ?_
 refine lpa (α := List Int × Int × Nat) [0] [13, 20] [10000, 80] (fun x => [(5, .own 80 0 x.1.length), (6, I x.2.2)]) (fun x => [(10000, die x.2.1), (80, .row true 3 1 (x.1.map I))]) (fun x => x.1.length = n ∧ x.2.2 ≤ n ∧ shufR n (List.replicate n 0, f0, 0) = shufR (n - x.2.2) x) (fun x => n - x.2.2) (List.replicate n 0, f0, 0) ?_ ?_
 ·
  exact ⟨by simp, Nat.zero_le _, rfl⟩
 ·
  intro ⟨l, f, i⟩ hI0
  simp only [List.cons_append, List.nil_append]
  try dsimp only at hI0
  obtain ⟨hl, hi, ho⟩ := hI0
  replace F := F.add hi
  refine W.seqk fun K2 hK2 => ?_
  refine rK [0, 5, 6, 14] ?_
  refine it (fun hc1 => ?_) (fun hc1 => ?_)
  ·
   try simp at hc1
   replace F := F.add hc1
   refine W.skip ?_
   refine hK2 _ ?_
   clear hK2 K2
   refine W.seqk fun K3 hK3 => ?_
   refine W.block ?_
   have hc0 : 0 ≤ castV f ((i : Int) + 1) := castV_lo _ _
   have hc9 : castV f ((i : Int) + 1) < (i : Int) + 1 := castV_hi _ _ (by omega)
   have hcl : castV f ((i : Int) + 1) < l.length := by omega
   have hct : (castV f ((i : Int) + 1)).toNat < l.length := by omega
   have hc8 : (castV f ((i : Int) + 1)).toNat ≤ i := by omega
   replace F := F.add hc0 |>.add hc9 |>.add hcl |>.add hct |>.add hc8
   refine W.seqR ?_
   refine oNw 3 ?_
   refine oC [(10000, 10000)] ?_
   refine ct (Cast_ok _ _ (by omega)) ?_
   refine oN 1 ?_
   refine oK [0, 5, 6, 7] ?_
   refine rK [0, 5, 6, 7] ?_
   refine rE ?_
   refine hK3 _ ?_
   clear hK3 K3
   refine rEw ?_
   refine ⟨((l.set i l[(castV f ((i : Int) + 1)).toNat]).set (castV f ((i : Int) + 1)).toNat (i : Int), castF f ((i : Int) + 1), i + 1), lf0, ?_, v0⟩
   ·
    exact ⟨by simpa using hl, by simp only; omega, by rw [ho]; simp only; rw [show n - i = (n - (i + 1)) + 1 by omega, shufR, shufS, nth_get hct]⟩
  ·
   try simp at hc1
   replace F := F.add hc1
   refine W.exit ?_
   refine hK1 _ ?_
   clear hK2 K2 hK1 K1
   refine rK [4] ?_
   refine W.ret ?_
   refine er false [] [(10000, 10000), (20000, 80)] ?_
   have e0 : n - i = 0 := by omega
   have e2 : shufZ f0 n = (l, f) := by rw [shufZ, ho, e0]; rfl
   rw [e2]
   exact ⟨rfl, rfl⟩
/-- held turns made of a die, and the die -/
noncomputable def heldZ (f : Int) (ow : List Turn) : List Turn × Int := ((shufZ f ow.length).1.map fun k => nth ow k.toNat, (shufZ f ow.length).2)
theorem heldZ_perm (f : Int) (ow : List Turn) : (heldZ f ow).1.Perm ow := (shufZ_order f ow.length).pick
set_option maxHeartbeats 4000000 in
theorem HeldOf_ex (f : Int) (ow : List Turn) (lk : List (List Turn)) (hol : ow.length ≤ 1000000) : ACalls Try.prog 26 [.ptr 10000 0 0, trade ow lk] [(10000, die f)] (fun r o => r = turns (heldZ f ow).1 ∧ o = [(10000, die (heldZ f ow).2)]) := by
 have F := Fx.nil
 refine ent Try.func26 Try.ntmps26 Try.results26 ?_
 obtain ⟨l, ql⟩ : ∃ l, l = (shufZ f ow.length).1 := ⟨_, rfl⟩
 have hz12 : Order l ow.length := ql ▸ shufZ_order f ow.length
 replace F := F.add hz12
 refine rK [0, 3] ?_
 refine W.seqR ?_
 refine oN 4 ?_
 refine oC [(10000, 10000)] ?_
 refine CallT.mk (Shuffle_ex _ _ (by omega)) (by simp [hz12]) ?_
 rw [← ql]
 refine WOps.norm (by simp [hz12]; rfl) ?_
 refine oN 1 ?_
 refine oK [3, 5] ?_
 refine rK [3, 5, 6] ?_
 refine W.seqk fun K1 hK1 => ?_
 refine rK [3, 5, 6, 7] ?_
 refine W.block ?_
 refine sn 6 9000 55 2 ?_
 refine lpa (α := Nat) [3, 5] [15, 28, 29] [9000] (fun i => [(7, I i), (6, .own 9000 0 i)]) (fun i => [(9000, .row true 55 2 (((l.take i).map fun k => nth ow k.toNat).map T))]) (fun i => i ≤ l.length) (fun i => l.length - i) 0 v0 ?_
 ·
  intro i hI0
  simp only [List.cons_append, List.nil_append]
  try dsimp only at hI0
  replace F := F.add hI0
  refine W.seqk fun K2 hK2 => ?_
  refine rK [3, 5, 6, 7, 16] ?_
  refine it (fun hc1 => ?_) (fun hc1 => ?_)
  ·
   try simp at hc1
   replace F := F.add hc1
   refine W.skip ?_
   refine hK2 _ ?_
   clear hK2 K2
   refine W.seqk fun K3 hK3 => ?_
   refine W.block ?_
   have hll : l.length ≤ 1000000 := by rw [hz12.length]; exact hol
   have hk0 : 0 ≤ l[i] := (Order.mem hz12 (List.getElem_mem _)).1
   have hk1 : l[i] < ow.length := (Order.mem hz12 (List.getElem_mem _)).2
   have hk2 : l[i].toNat < ow.length := by omega
   replace F := F.add hll |>.add hk0 |>.add hk1 |>.add hk2
   refine wDe 10 [] [[], [], [1], [], [], [4, 3], [3, 4, 5], [5, 4, 3, 6, 1, 2], [2, 1, 6, 3, 4, 5, 7], [7, 5, 4, 3, 6, 1, 2, 8], [8, 2, 1, 6, 3, 4, 5, 7, 9, 0], [0, 9, 7, 5, 4, 3, 6, 1, 2, 8, 10]] ?_
   refine dN 10 0 ?_
   refine dD ?_
   refine oNw 2 ?_
   refine WOps.endK ?_
   refine hK3 _ ?_
   clear hK3 K3
   refine rEw ?_
   refine ⟨i + 1, lf ?_ ?_, v0, v0⟩
   ·
    exact v1
   ·
    try (simp [Fx.get F])
    all_goals (
     have e := take_snoc (T ∘ fun k : Int => nth ow k.toNat) hc1
     simpa [nth_get hk2] using e
    )
  ·
   try simp at hc1
   replace F := F.add hc1
   refine W.exit ?_
   refine hK1 _ ?_
   clear hK2 K2 hK1 K1
   refine rK [4] ?_
   refine W.ret ?_
   refine er false [9000] [(10000, 10000)] ?_
   have e : List.take i (List.take i l) = l := by rw [List.take_take, Nat.min_self, List.take_of_length_le hc1]
   rw [e]
   exact ⟨by rw [heldZ, ← ql]; simp, rfl⟩
theorem SameIntsN (a : List Nat) : ACalls Try.prog 34 [rgV a, rgV a] [] (fun r o => r = B true ∧ o = []) := by
  have h := SameInts_ok (a.map fun (n : Nat) => (n : Int)) (a.map fun (n : Nat) => (n : Int))
  have e : ints (a.map fun (n : Nat) => (n : Int)) = rgV a := by
    simp [Function.comp_def]
  rw [e] at h
  refine h.mono fun r o h => ⟨h.1.trans (by simp), h.2⟩
theorem wfT_valid {x : Turn} (h : validT x = true) : WfT x := by
  simp [validT] at h
  exact ⟨wfI (by omega) (by omega), wfI (by omega) (by omega)⟩
end Go.Sim
