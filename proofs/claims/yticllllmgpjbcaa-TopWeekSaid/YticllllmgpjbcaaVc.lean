/- What a die makes: numbers, orders, turns, trades. -/
import Derived.Test.YticllllmgpjbcaaVb
namespace Go.Sim.W6
open Go.Proofs
set_option maxRecDepth 100000
set_option linter.unusedSimpArgs false
set_option linter.unusedVariables false
attribute [-simp] List.map_set
theorem wrap_u64 {n : Int} (h1 : 0 ≤ n) (h2 : n < 18446744073709551616) : IntKind.u64.wrap n = n := by
  have e1 : (2 : Int) ^ IntKind.u64.bits = 18446744073709551616 := by decide
  have e3 : IntKind.u64.signed = false := rfl
  simp only [IntKind.wrap, e1, e3, Bool.false_and, Bool.false_eq_true, if_false]
  omega
theorem rollV_range (f : Int) : 0 ≤ rollV f ∧ rollV f < 18446744073709551616 := by
  unfold rollV xsh
  rw [xorI_eq]
  exact u64_range _
theorem shr2_range {x : Int} (h : 0 ≤ x ∧ x < 18446744073709551616) : 0 ≤ shrI .u64 x 2 ∧ shrI .u64 x 2 < 4611686018427387904 := by
  rw [shrI_eq]
  have : (2 : Int) ^ min (2 : Int).toNat IntKind.u64.bits = 4 := by decide
  rw [this, Int.fdiv_eq_ediv_of_nonneg _ (by omega)]
  omega
noncomputable def castV (f n : Int) : Int := if n < 2 then 0 else (shrI .u64 (rollV f) 2).tmod n
def castF (f n : Int) : Int := if n < 2 then f else rollF f
theorem castV_lo (f n : Int) : 0 ≤ castV f n := by
  unfold castV; split
  · omega
  · exact Int.tmod_nonneg _ (shr2_range (rollV_range f)).1
theorem castV_hi (f n : Int) (h : 1 ≤ n) : castV f n < n := by
  unfold castV; split
  · omega
  · exact Int.tmod_lt_of_pos _ (by omega)
theorem castV_le (f n : Int) (h : 1 ≤ n) : castV f n ≤ n - 1 := by have := castV_hi f n h; omega
set_option maxHeartbeats 4000000 in
theorem Cast_ok (f n : Int) (hn : n < 9223372036854775808) : ACalls Try.prog 7 [.ptr 10000 0 0, I n] [(10000, die f)] (fun r o => r = I (castV f n) ∧ o = [(10000, die (castF f n))]) := by
 have F := Fx.nil
 refine ent Try.func7 Try.ntmps7 Try.results7 ?_
 refine rK [0, 1] ?_
 refine W.seqk fun K1 hK1 => ?_
 refine rK [0, 1, 6] ?_
 refine it (fun hc1 => ?_) (fun hc1 => ?_)
 ·
  try simp at hc1
  replace F := F.add hc1
  refine rK [4] ?_
  refine W.ret ?_
  refine tr ?_
  clear hK1 K1
  refine er false [] [(10000, 10000)] ?_
  exact ⟨by rw [castV, if_pos hc1], by rw [castF, if_pos hc1]⟩
 ·
  try simp at hc1
  replace F := F.add hc1
  refine W.skip ?_
  refine hK1 _ ?_
  clear hK1 K1
  have hu : IntKind.u64.wrap n = n := wrap_u64 (by omega) (by omega)
  have hn0 : ¬ n = 0 := by omega
  have hlo : 0 ≤ (shrI .u64 (rollV f) 2).tmod n := Int.tmod_nonneg _ (shr2_range (rollV_range f)).1
  have hhi : (shrI .u64 (rollV f) 2).tmod n < n := Int.tmod_lt_of_pos _ (by omega)
  replace F := F.add hu |>.add hn0 |>.add hlo |>.add hhi
  refine W.seqR ?_
  refine oN 1 ?_
  refine oC [(10000, 10000)] ?_
  refine ct (W6.roll_ok _) ?_
  refine oNw 6 ?_
  refine oK [4] ?_
  refine W.ret ?_
  refine er false [] [(10000, 10000)] ?_
  exact ⟨by rw [castV, if_neg (by omega)], by rw [castF, if_neg (by omega)]⟩
set_option maxHeartbeats 4000000 in
theorem Once_ok (f n : Int) (hn : n < 9223372036854775808) : ACalls Try.prog 29 [.ptr 10000 0 0, I n] [(10000, die f)] (fun r o => r = B (castV f n == 0) ∧ o = [(10000, die (castF f n))]) := by
 have F := Fx.nil
 refine ent Try.func29 Try.ntmps29 Try.results29 ?_
 refine rK [0, 1] ?_
 refine W.seqR ?_
 refine oN 2 ?_
 refine oC [(10000, 10000)] ?_
 refine ct (W6.Cast_ok _ _ (by omega)) ?_
 refine oN 2 ?_
 refine oK [4] ?_
 refine W.ret ?_
 exact er0 false [] [(10000, 10000)]
noncomputable def oneV (f : Int) (l : List Int) : Int := if l.length = 0 then 0 else nth l (castV f l.length).toNat
def oneF (f : Int) (l : List Int) : Int := if l.length = 0 then f else castF f l.length
theorem oneV_mem (f : Int) (l : List Int) (h : l ≠ []) : oneV f l ∈ l := by
  have h0 : 0 < l.length := List.length_pos_iff.2 h
  have h1 := castV_lo f l.length
  have h2 := castV_hi f l.length (by omega)
  rw [oneV, if_neg (by omega), nth_get (by omega)]
  exact List.getElem_mem _
set_option maxHeartbeats 4000000 in
theorem One_ok (f : Int) (l : List Int) (hl : l.length < 9223372036854775808) : ACalls Try.prog 34 [.ptr 10000 0 0, ints l] [(10000, die f)] (fun r o => r = I (oneV f l) ∧ o = [(10000, die (oneF f l))]) := by
 have F := Fx.nil
 refine ent Try.func34 Try.ntmps34 Try.results34 ?_
 refine rK [0, 1] ?_
 refine W.seqk fun K1 hK1 => ?_
 refine rK [0, 1, 7] ?_
 refine it (fun hc1 => ?_) (fun hc1 => ?_)
 ·
  try simp at hc1
  replace F := F.add hc1
  refine rK [4] ?_
  refine W.ret ?_
  refine tr ?_
  clear hK1 K1
  refine er false [] [(10000, 10000)] ?_
  exact ⟨by simp [oneV, hc1], by simp [oneF, hc1]⟩
 ·
  try simp at hc1
  replace F := F.add hc1
  refine W.skip ?_
  refine hK1 _ ?_
  clear hK1 K1
  have h0 : 0 < l.length := List.length_pos_iff.2 hc1
  have hlo := castV_lo f l.length
  have hhi := castV_hi f l.length (by omega)
  have hix : (castV f l.length).toNat < l.length := by omega
  replace F := F.add h0 |>.add hlo |>.add hhi |>.add hix
  refine W.seqR ?_
  refine oN 4 ?_
  refine oC [(10000, 10000)] ?_
  refine ct (W6.Cast_ok _ _ (by omega)) ?_
  refine oN 3 ?_
  refine oK [4] ?_
  refine W.ret ?_
  refine er false [] [(10000, 10000)] ?_
  exact ⟨by rw [oneV, if_neg (by omega), nth_get hix], by rw [oneF, if_neg (by omega)]⟩
noncomputable def dieStep (f n : Int) : Int := rollF (mulI .u64 (xorI .u64 f (IntKind.u64.wrap n)) 11507291218515648293)
set_option maxHeartbeats 4000000 in
theorem DieOf_ok (l : List Int) : ACalls Try.prog 6 [ints l] [] (fun r o => r = .ptr 20000 0 0 ∧ o = [(20000, die (l.foldl dieStep 2611923443488327891))]) := by
 refine ACalls.len (l := l.map I) (by simp) ⟨_, Try.func6, by kernel_rfl, by kernel_rfl⟩ fun hl => ?_
 simp [maxLen_val] at hl
 have F := Fx.nil
 refine ent Try.func6 Try.ntmps6 Try.results6 ?_
 refine rK [0] ?_
 refine rK [0, 3] ?_
 refine W.seqk fun K1 hK1 => ?_
 refine rK [0, 3, 4] ?_
 refine W.block ?_
 refine lpa (α := Nat) [0, 3] [9, 28] [48] (fun i => [(4, I i)]) (fun i => [(48, die ((l.take i).foldl dieStep 2611923443488327891))]) (fun i => i ≤ l.length) (fun i => l.length - i) 0 v0 ?_
 ·
  intro i hI0
  simp only [List.cons_append, List.nil_append]
  try dsimp only at hI0
  replace F := F.add hI0
  refine W.seqk fun K2 hK2 => ?_
  refine rK [0, 3, 4, 10] ?_
  refine it (fun hc1 => ?_) (fun hc1 => ?_)
  ·
   try simp at hc1
   replace F := F.add hc1
   refine W.skip ?_
   refine hK2 _ ?_
   clear hK2 K2
   refine W.seqk fun K3 hK3 => ?_
   refine W.block ?_
   refine wD 12 [] [[], [], [1], [1, 2], [2, 1, 3], [], [], [6, 5], [5, 6, 7], [7, 6, 5, 8], [8, 5, 6, 7, 9, 3, 1, 2, 4], [4, 2, 1, 3, 9, 7, 6, 5, 8, 10], [11, 10, 9, 8, 7, 6, 5, 4, 3, 2, 1, 0], [0, 1, 2, 3, 4, 5, 6, 7, 8, 9, 10, 11, 12], [12, 11, 10, 9, 8, 7, 6, 5, 4, 3, 2, 1, 0, 13]] ?_
   refine dB [([14, 15, 16, 17, 18, 19, 20, 21, 22, 23, 24], [], []), ([13, 18, 19, 20, 21, 22], [false], []), ([13, 18, 19, 20, 21, 22], [false, true], []), ([13, 18, 19, 20, 21, 22], [false, true, true], []), ([13, 18, 19, 20, 21, 22], [false, true, true, true], []), ([13, 14, 15, 16, 17, 19], [false, false, false, false, false], []), ([13, 14, 15, 16, 17, 18], [false, false, false, false, false, false], []), ([13, 14, 15, 16, 17], [false, false, false, false, false, true, true], []), ([13, 14, 15, 16, 17], [false, false, false, false, false, true, true, true], []), ([13, 14, 15, 16, 17], [false, false, false, false, false, true, true, true, true], []), ([13], [false, true, true, true, true, true, true, true, true, true], []), ([13], [false, true, true, true, true, true, true, true, true, true, true], [])] 0 12 ?_
   refine dD ?_
   refine oN 3 ?_
   refine oK [0, 3, 4] ?_
   refine W.region ?_
   refine oN 1 ?_
   refine oC [(10000, 48)] ?_
   refine ct (roll_ok _) ?_
   refine WOps.endK ?_
   refine hK3 _ ?_
   clear hK3 K3
   refine rEw ?_
   refine ⟨i + 1, lf ?_ ?_, v0, v0⟩
   ·
    exact v1
   ·
    try (simp [Fx.get F])
    all_goals (
     rw [List.take_succ_eq_append_getElem hc1, List.foldl_append]; rfl
    )
  ·
   try simp at hc1
   replace F := F.add hc1
   refine W.exit ?_
   refine hK1 _ ?_
   clear hK2 K2 hK1 K1
   refine rK [2] ?_
   refine W.ret ?_
   refine er false [] [(20000, 48)] ?_
   exact ⟨rfl, by rw [List.take_of_length_le (by omega)]⟩
/-! orders -/
theorem set_append_perm {α : Type} (a : α) : ∀ (l : List α) (k : Nat) (h : k < l.length), (l.set k a ++ [l[k]]).Perm (l ++ [a])
  | x :: l, 0, h => by
    simp only [List.set_cons_zero, List.getElem_cons_zero, List.cons_append]
    refine List.Perm.trans (List.perm_append_comm (l₁ := a :: l) (l₂ := [x])) ?_
    exact List.Perm.cons x (List.perm_append_comm (l₁ := [a]) (l₂ := l))
  | x :: l, k + 1, h => by
    simp only [List.set_cons_succ, List.getElem_cons_succ, List.cons_append]
    exact List.Perm.cons x (set_append_perm a l k (by simpa using h))
def Order (l : List Int) (n : Nat) : Prop := l.Perm ((List.range n).map Int.ofNat)
theorem Order.length {l : List Int} {n : Nat} (h : Order l n) : l.length = n := by have := List.Perm.length_eq h; simpa using this
theorem Order.mem {l : List Int} {n : Nat} (h : Order l n) {x : Int} (hx : x ∈ l) : 0 ≤ x ∧ x < n := by
  have := (List.Perm.mem_iff h).1 hx
  simp only [List.mem_map, List.mem_range] at this
  obtain ⟨k, hk, rfl⟩ := this
  simp only [Int.ofNat_eq_natCast]; omega
theorem Order.nodup {l : List Int} {n : Nat} (h : Order l n) : l.Nodup := by
  refine (List.Perm.nodup_iff h).2 ?_
  refine List.Pairwise.map _ (fun a b hab => ?_) (List.nodup_range (n := n))
  simp only [Int.ofNat_eq_natCast, ne_eq, Int.natCast_inj]; exact hab
theorem order_step {l : List Int} {i : Nat} (h : Order (l.take i) i) (hi : i < l.length) {k : Nat} (hk : k ≤ i) (h1 : k < l.length) : Order (((l.set i l[k]).set k (i : Int)).take (i + 1)) (i + 1) := by
  have e1 : (((l.set i l[k]).set k (i : Int)).take (i + 1)).Perm ((l.take i) ++ [(i : Int)]) := by
    by_cases hki : k = i
    · subst hki
      rw [List.set_set, List.take_set, List.take_succ_eq_append_getElem hi, List.set_append_right _ _ (by simp; omega)]
      simp [Nat.min_eq_left (Nat.le_of_lt hi)]
    · have hlt : k < i := by omega
      have e2 : ((l.set i l[k]).set k (i : Int)).take (i + 1) = (l.take i).set k (i : Int) ++ [(l.take i)[k]'(by simp; omega)] := by
        rw [List.take_set, List.take_set, List.take_succ_eq_append_getElem hi, List.set_append_right _ _ (by simp; omega), List.set_append_left _ _ (by simp; omega)]
        simp [Nat.min_eq_left (Nat.le_of_lt hi)]
      rw [e2]
      exact set_append_perm _ _ _ _
  refine e1.trans ?_
  rw [List.range_succ, List.map_append]
  exact List.Perm.append_right _ h
set_option maxHeartbeats 4000000 in
theorem Shuffle_ok (f : Int) (n : Nat) (hn : n ≤ 1000000) : ACalls Try.prog 35 [.ptr 10000 0 0, I n] [(10000, die f)] (fun r o => ∃ z : List Int × Int, r = .own 20000 0 z.1.length ∧ o = [(10000, die z.2), (20000, .row true 3 1 (z.1.map I))] ∧ Order z.1 n) := by
 have F := Fx.nil
 refine ent Try.func35 Try.ntmps35 Try.results35 ?_
 refine rK [0, 1] ?_
 have hmx : (if 0 < n then (n : Int) else 0) = n := by split <;> omega
 have h16 : (n : Int) ≤ 16777216 := by omega
 have hn0 : (0 : Int) ≤ n := by omega
 replace F := F.add hmx |>.add h16 |>.add hn0
 refine rK [0, 5] ?_
 refine W.seqk fun K1 hK1 => ?_
 refine rK [0, 5, 6] ?_
 refine W.block ?_
 refine lpa (α := List Int × Int × Nat) [0] [13, 20] [10000, 80] (fun x => [(5, .own 80 0 x.1.length), (6, I x.2.2)]) (fun x => [(10000, die x.2.1), (80, .row true 3 1 (x.1.map I))]) (fun x => x.1.length = n ∧ x.2.2 ≤ n ∧ Order (x.1.take x.2.2) x.2.2) (fun x => n - x.2.2) (List.replicate n 0, f, 0) ?_ ?_
 ·
  exact ⟨by simp, Nat.zero_le _, by simp [Order]⟩
 ·
  intro ⟨l, f, i⟩ hI0
  simp only [List.cons_append, List.nil_append]
  try dsimp only at hI0
  obtain ⟨hl, hi, ho⟩ := hI0
  replace F := F.add hi
  refine W.seqk fun K2 hK2 => ?_
  refine rK [0, 5, 6, 14] ?_
  refine it (fun hc1 => ?_) (fun hc1 => ?_)
  ·
   try simp at hc1
   replace F := F.add hc1
   refine W.skip ?_
   refine hK2 _ ?_
   clear hK2 K2
   refine W.seqk fun K3 hK3 => ?_
   refine W.block ?_
   have hc0 : 0 ≤ castV f ((i : Int) + 1) := castV_lo _ _
   have hc9 : castV f ((i : Int) + 1) < (i : Int) + 1 := castV_hi _ _ (by omega)
   have hcl : castV f ((i : Int) + 1) < l.length := by omega
   have hct : (castV f ((i : Int) + 1)).toNat < l.length := by omega
   have hc8 : (castV f ((i : Int) + 1)).toNat ≤ i := by omega
   replace F := F.add hc0 |>.add hc9 |>.add hcl |>.add hct |>.add hc8
   refine W.seqR ?_
   refine oNw 3 ?_
   refine oC [(10000, 10000)] ?_
   refine ct (W6.Cast_ok _ _ (by omega)) ?_
   refine oN 1 ?_
   refine oK [0, 5, 6, 7] ?_
   refine rK [0, 5, 6, 7] ?_
   refine rE ?_
   refine hK3 _ ?_
   clear hK3 K3
   refine rEw ?_
   refine ⟨((l.set i l[(castV f ((i : Int) + 1)).toNat]).set (castV f ((i : Int) + 1)).toNat (i : Int), castF f ((i : Int) + 1), i + 1), lf0, ?_, v0⟩
   ·
    exact ⟨by simpa using hl, by simp only; omega, order_step ho (by omega) hc8 hct⟩
  ·
   try simp at hc1
   replace F := F.add hc1
   refine W.exit ?_
   refine hK1 _ ?_
   clear hK2 K2 hK1 K1
   refine rK [4] ?_
   refine W.ret ?_
   refine er false [] [(10000, 10000), (20000, 80)] ?_
   refine ⟨(l, f), rfl, rfl, ?_⟩
   have : i = n := by omega
   subst this
   rwa [List.take_of_length_le (by omega)] at ho
end Go.Sim.W6
