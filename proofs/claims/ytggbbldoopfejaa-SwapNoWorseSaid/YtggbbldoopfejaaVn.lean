/- The reference's rings. -/
import Derived.Test.YtggbbldoopfejaaVm
namespace Go.Sim
open Go.Proofs Go.Plain
set_option maxRecDepth 100000
set_option linter.unusedSimpArgs false
set_option linter.unusedVariables false
attribute [-simp] List.map_set List.map_take List.map_drop
attribute [local simp] take_map' drop_map'
/-- who is left, one by one -/
def lfOf (n : Nat) (L : List Nat) : List Bool := (List.range n).map fun i => decide (i ∈ L)
theorem lfOf_length (n : Nat) (L : List Nat) : (lfOf n L).length = n := by simp [lfOf]
theorem lfOf_get {n : Nat} {L : List Nat} {i : Nat} (h : i < (lfOf n L).length) : (lfOf n L)[i] = decide (i ∈ L) := by simp [lfOf]
theorem lfOf_erase {n : Nat} {L : List Nat} (hd : L.Nodup) (x : Nat) : (lfOf n L).set x false = lfOf n (L.erase x) := by
  refine List.ext_getElem (by simp [lfOf_length]) fun i h1 h2 => ?_
  rw [List.getElem_set, lfOf_get, lfOf_get]
  split
  · rename_i h; subst h; simp [hd.mem_erase_iff]
  · rename_i h; rw [decide_eq_decide, hd.mem_erase_iff]
    exact ⟨fun h' => ⟨Ne.symm h, h'⟩, fun h' => h'.2⟩
theorem lfOf_range (n : Nat) : List.replicate n false = lfOf n (List.range 0) := by
  refine List.ext_getElem (by simp [lfOf_length]) fun i h1 h2 => ?_
  rw [lfOf_get]; simp
theorem lfOf_succ {n k : Nat} : (lfOf n (List.range k)).set k true = lfOf n (List.range (k + 1)) := by
  refine List.ext_getElem (by simp [lfOf_length]) fun i h1 h2 => ?_
  rw [List.getElem_set, lfOf_get, lfOf_get]
  split
  · rename_i h; subst h; simp
  · rw [decide_eq_decide]; simp; omega
/-- at whom a trader points, along a list of turns -/
def ptK (ow : List Turn) (L : List Nat) (i : Nat) : List Turn → Nat
  | [] => i
  | x :: r => if x ∈ ow ∧ ow.idxOf x ∈ L then ow.idxOf x else ptK ow L i r
theorem ptK_at {ow : List Turn} {L : List Nat} {i : Nat} {l : List Turn} {k : Nat} (h : k < l.length) : ptK ow L i (l.drop k) = if l[k] ∈ ow ∧ ow.idxOf l[k] ∈ L then ow.idxOf l[k] else ptK ow L i (l.drop (k + 1)) := by
  rw [List.drop_eq_getElem_cons h, ptK]
theorem idxOf_self {ow : List Turn} (hd : ow.Nodup) {i : Nat} (hi : i < ow.length) : ow.idxOf ow[i] = i := by
  exact hd.idxOf_getElem i hi
theorem ptK_takes {ow : List Turn} (hd : ow.Nodup) {L : List Nat} {i : Nat} (hi : i < ow.length) : ∀ l : List Turn, ptK ow L i (l.take (l.idxOf ow[i]) ++ [ow[i]]) = ptL ow L i ow[i] l
  | [] => by
    simp only [List.idxOf_nil, List.take_nil, List.nil_append, ptK, ptL, idxOf_self hd hi]
    split <;> rfl
  | x :: r => by
    rw [ptL]
    by_cases hx : x = ow[i]
    · subst hx
      rw [if_pos rfl, List.idxOf_cons_self]
      simp only [List.take_zero, List.nil_append, ptK, idxOf_self hd hi]
      split <;> rfl
    · rw [if_neg hx, show (x :: r).idxOf ow[i] = r.idxOf ow[i] + 1 by rw [List.idxOf_cons, cond_eq_ite, if_neg (by simpa using hx)], List.take_succ_cons, List.cons_append, ptK, ptK_takes hd hi r]
theorem ptK_takesT {ow : List Turn} {lk : List (List Turn)} (hd : ow.Nodup) {L : List Nat} {i : Nat} (hi : i < ow.length) (hk : i < lk.length) : ptK ow L i (takesT ow lk i) = ptF ow lk L i := by
  rw [takesT_eq hi hk, ptK_takes hd hi, ptF_eq hi hk]
set_option maxHeartbeats 4000000 in
theorem rpoints_ok (ow : List Turn) (lk : List (List Turn)) (L : List Nat) (i : Nat) (hv : ValidT ow lk) (hi : i < ow.length) : ACalls Try.prog 84 [trade ow lk, .own 10000 0 ow.length, I i] [(10000, .row true 4 1 ((lfOf ow.length L).map B))] (fun r o => r = I (ptF ow lk L i : Nat) ∧ o = [(10000, .row true 4 1 ((lfOf ow.length L).map B))]) := by
 have F := Fx.nil
 refine ent Try.func84 Try.ntmps84 Try.results84 ?_
 have hn8 : ow.length ≤ 8 := hv.most
 have qs : lk.length = ow.length := hv.same
 have qk : i < lk.length := by omega
 have q16 : lk[i].length ≤ 1000 := Nat.le_trans (hv.likes _ (List.getElem_mem qk)).2 (by omega)
 have qtl : (takesT ow lk i).length ≤ 1001 := by rw [takesT_eq hi qk]; simp; omega
 have hll := lfOf_length ow.length L
 replace F := F.add hn8 |>.add hll
 refine rK [1, 2, 3] ?_
 refine W.seqR ?_
 refine oN 2 ?_
 refine oC [] ?_
 refine ct (Takes_imm ow lk i hi qk q16) ?_
 refine oN 1 ?_
 refine oK [1, 2, 3, 7] ?_
 refine W.seqk fun K1 hK1 => ?_
 refine rK [1, 2, 3, 7, 8] ?_
 refine W.block ?_
 refine lpa (α := Nat) [1, 2, 3, 7] [15, 25, 29] [] (fun k => [(8, I k)]) (fun k => []) (fun k => k ≤ (takesT ow lk i).length ∧ ptF ow lk L i = ptK ow L i ((takesT ow lk i).drop k)) (fun k => (takesT ow lk i).length - k) 0 ?_ ?_
 ·
  exact ⟨by omega, by rw [List.drop_zero, ptK_takesT hv.owns.1 hi qk]⟩
 ·
  intro k hI0
  simp only [List.cons_append, List.nil_append]
  try dsimp only at hI0
  obtain ⟨hkl, he⟩ := hI0
  replace F := F.add hkl
  refine W.seqk fun K2 hK2 => ?_
  refine rK [1, 2, 3, 7, 8, 16] ?_
  refine it (fun hc1 => ?_) (fun hc1 => ?_)
  ·
   try simp at hc1
   replace F := F.add hc1
   refine W.skip ?_
   refine hK2 _ ?_
   clear hK2 K2
   refine W.seqk fun K3 hK3 => ?_
   refine W.block ?_
   refine wD 6 [] [[], [0], [], [], [3, 2], [2, 3, 4], [4, 3, 2, 5, 0, 1], [1, 0, 5, 2, 3, 4, 6]] ?_
   refine dN 6 0 ?_
   refine dD ?_
   refine oC [] ?_
   refine ct (At_ok _ _ _) ?_
   refine oN 1 ?_
   refine oK [1, 2, 3, 7, 8, 9] ?_
   by_cases hmem : (takesT ow lk i)[k] ∈ ow
   ·
    replace F := F.add hmem
    have hix : ow.idxOf (takesT ow lk i)[k] < ow.length := List.idxOf_lt_length_iff.2 hmem
    have hlf : (lfOf ow.length L)[ow.idxOf (takesT ow lk i)[k]]'(by rw [hll]; exact hix) = decide (ow.idxOf (takesT ow lk i)[k] ∈ L) := lfOf_get _
    replace F := F.add hix |>.add hlf
    by_cases hL : ow.idxOf (takesT ow lk i)[k] ∈ L
    ·
     replace F := F.add hL
     refine W.seqR ?_
     refine oN 6 ?_
     refine gT ?_
     refine gT ?_
     refine gT ?_
     refine gT ?_
     refine oN 1 ?_
     refine oK [1, 2, 3, 7, 8, 9, 36] ?_
     refine cT ?_
     refine rK [6] ?_
     refine W.ret ?_
     refine br (tr (tr (br (tr ?_))))
     clear hK3 K3 hK1 K1
     refine er false [] [(10000, 10000)] ?_
     exact ⟨congrArg (fun n : Nat => I (n : Int)) (by rw [he, ptK_at hc1, if_pos ⟨hmem, hL⟩]), rfl⟩
    ·
     replace F := F.add hL
     refine W.seqR ?_
     refine oN 6 ?_
     refine gT ?_
     refine gT ?_
     refine gT ?_
     refine gT ?_
     refine oN 1 ?_
     refine oK [1, 2, 3, 7, 8, 9, 36] ?_
     refine cF ?_
     refine W.skip ?_
     refine hK3 _ ?_
     clear hK3 K3
     refine rEw ?_
     refine ⟨k + 1, lf0, ?_, v0⟩
     ·
      exact ⟨by omega, by rw [he, ptK_at hc1, if_neg (fun h => hL h.2)]⟩
   ·
    replace F := F.add hmem
    have hix : ¬ ow.idxOf (takesT ow lk i)[k] < ow.length := fun h => hmem (List.idxOf_lt_length_iff.1 h)
    replace F := F.add hix
    refine W.seqR ?_
    refine oN 6 ?_
    refine gF ?_
    refine gF ?_
    refine gF ?_
    refine gF ?_
    refine oN 1 ?_
    refine oK [1, 2, 3, 7, 8, 9, 36] ?_
    refine cF ?_
    refine W.skip ?_
    refine hK3 _ ?_
    clear hK3 K3
    refine rEw ?_
    refine ⟨k + 1, lf0, ?_, v0⟩
    ·
     exact ⟨by omega, by rw [he, ptK_at hc1, if_neg (fun h => hmem h.1)]⟩
  ·
   try simp at hc1
   replace F := F.add hc1
   refine W.exit ?_
   refine hK1 _ ?_
   clear hK2 K2 hK1 K1
   refine rK [6] ?_
   refine W.ret ?_
   refine er false [] [(10000, 10000)] ?_
   exact ⟨congrArg (fun n : Nat => I (n : Int)) (by rw [he, List.drop_of_length_le hc1]; rfl), rfl⟩
theorem ptL_lt {ow : List Turn} {L : List Nat} {i : Nat} (hi : i < ow.length) {own : Turn} : ∀ {l : List Turn}, ptL ow L i own l < ow.length
  | [] => hi
  | x :: r => by
    rw [ptL]
    split
    · exact hi
    · split
      · rename_i h; exact List.idxOf_lt_length_iff.2 h.1
      · exact ptL_lt hi
theorem ptF_lt {ow : List Turn} {lk : List (List Turn)} {L : List Nat} {i : Nat} (hi : i < ow.length) : ptF ow lk L i < ow.length := ptL_lt hi
theorem goR_step {f : Nat → Nat} {i n k : Nat} {out : List Nat} {last : Nat} (h : k < n) : goR f i (n - k) out last = if f last = i then some out else goR f i (n - (k + 1)) (out ++ [f last]) (f last) := by
  rw [show n - k = (n - (k + 1)) + 1 by omega, goR]
theorem goR_end {f : Nat → Nat} {i n k : Nat} {out : List Nat} {last : Nat} (h : n ≤ k) : goR f i (n - k) out last = none := by
  rw [show n - k = 0 by omega, goR]
theorem concat_at {α : Type} (l : List α) (x : α) : (l ++ [x])[l.length]? = some x := by simp
set_option maxHeartbeats 4000000 in
theorem rring_ok (ow : List Turn) (lk : List (List Turn)) (L : List Nat) (i : Nat) (hv : ValidT ow lk) (hi : i < ow.length) : ACalls Try.prog 73 [trade ow lk, .own 10000 0 ow.length, I i] [(10000, .row true 4 1 ((lfOf ow.length L).map B))] (fun r o => r = rgV ((ringR (ptF ow lk L) ow.length i).getD []) ∧ o = [(10000, .row true 4 1 ((lfOf ow.length L).map B))]) := by
 have F := Fx.nil
 refine ent Try.func73 Try.ntmps73 Try.results73 ?_
 have hn8 : ow.length ≤ 8 := hv.most
 replace F := F.add hn8
 refine rK [1, 2, 3] ?_
 refine rK [1, 2, 3, 7] ?_
 refine W.seqk fun K1 hK1 => ?_
 refine W.block ?_
 refine lpa (α := List Nat × Nat) [1, 2, 3] [12, 15, 21, 25, 32, 33] [80] (fun z => [(7, .own 80 0 (z.1.length + 1))]) (fun z => [(80, .row true 3 1 ((z.1 ++ [z.2]).map nI))]) (fun z => z.2 < ow.length ∧ z.1.length ≤ ow.length ∧ ringR (ptF ow lk L) ow.length i = goR (ptF ow lk L) i (ow.length - z.1.length) (z.1 ++ [z.2]) z.2) (fun z => ow.length - z.1.length) ([], i) ?_ ?_
 ·
  exact ⟨hi, by simp, rfl⟩
 ·
  intro ⟨out, last⟩ hI0
  simp only [List.cons_append, List.nil_append]
  try dsimp only at hI0
  obtain ⟨hlast, hol, he⟩ := hI0
  replace F := F.add hlast |>.add hol
  have hm1 : (out.length : Int) < (out.length : Int) + 1 := by omega
  have hcat : (List.map nI out ++ [I (last : Int)])[out.length]? = some (I (last : Int)) := by
    have := concat_at (List.map nI out) (I (last : Int)); rwa [List.length_map] at this
  replace F := F.add hm1 |>.add hcat
  refine W.seqk fun K2 hK2 => ?_
  refine rK [1, 2, 3, 7, 16] ?_
  refine it (fun hc1 => ?_) (fun hc1 => ?_)
  ·
   try simp at hc1
   replace F := F.add hc1
   refine W.skip ?_
   refine hK2 _ ?_
   clear hK2 K2
   refine W.block ?_
   refine wD 8 [] [[], [], [], [], [3], [3, 4], [4, 3, 5, 2], [2, 5, 3, 4, 6], [6, 4, 3, 5, 2, 7, 1, 0], [0, 1, 7, 2, 5, 3, 4, 6, 8]] ?_
   refine dNw 8 0 ?_
   refine dD ?_
   refine oC [(10000, 10000)] ?_
   refine ct (rpoints_ok ow lk L last hv hlast) ?_
   refine oN 1 ?_
   refine oK [1, 2, 3, 7, 8] ?_
   refine W.seqk fun K3 hK3 => ?_
   refine rK [1, 2, 3, 7, 8, 28] ?_
   refine it (fun hc2 => ?_) (fun hc2 => ?_)
   ·
    try simp at hc2
    replace F := F.add hc2
    refine rK [6] ?_
    refine W.ret ?_
    refine tr (br (tr (br (tr ?_))))
    clear hK3 K3 hK1 K1
    refine er true [80] [(10000, 10000)] ?_
    refine ⟨?_, rfl⟩
    rw [he, goR_step (by omega), if_pos (by omega), List.take_of_length_le (by simp)]; simp
   ·
    try simp at hc2
    replace F := F.add hc2
    refine W.skip ?_
    refine hK3 _ ?_
    clear hK3 K3
    refine rEw ?_
    refine bn ?_
    refine ⟨(out ++ [last], ptF ow lk L last), lf0, ?_, v0⟩
    ·
     refine ⟨ptF_lt hlast, by simp; omega, ?_⟩
     rw [he, goR_step (by omega), if_neg (by omega)]; simp
  ·
   try simp at hc1
   replace F := F.add hc1
   refine W.exit ?_
   refine hK1 _ ?_
   clear hK2 K2 hK1 K1
   refine rK [6] ?_
   refine W.ret ?_
   refine er true [] [(10000, 10000)] ?_
   exact ⟨by rw [he, goR_end (by omega)]; rfl, rfl⟩
theorem all_drop {α : Type} {p : α → Bool} {l : List α} {k : Nat} (h : k < l.length) : (l.drop k).all p = (p l[k] && (l.drop (k + 1)).all p) := by rw [List.drop_eq_getElem_cons h, List.all_cons]
theorem leastB_all {l : List Nat} (h : 0 < l.length) : leastB l = (l.drop 1).all fun y => decide (l[0] ≤ y) := by
  cases l with
  | nil => simp at h
  | cons x xs => rfl
set_option maxHeartbeats 4000000 in
theorem least_ok (l : List Nat) (h0 : 0 < l.length) (hb : l.length ≤ 100000) : ACalls Try.prog 74 [rgV l] [] (fun r o => r = B (leastB l) ∧ o = []) := by
 have F := Fx.nil
 replace F := F.add h0
 refine ent Try.func74 Try.ntmps74 Try.results74 ?_
 refine rK [0] ?_
 refine W.seqk fun K1 hK1 => ?_
 refine rK [0, 3] ?_
 refine W.block ?_
 refine lpa (α := Nat) [0] [6] [] (fun k => [(3, I k)]) (fun k => []) (fun k => 1 ≤ k ∧ k ≤ l.length ∧ leastB l = (l.drop k).all fun y => decide (l[0] ≤ y)) (fun k => l.length - k) 1 ?_ ?_
 ·
  exact ⟨Nat.le_refl _, by omega, leastB_all h0⟩
 ·
  intro k hI0
  simp only [List.cons_append, List.nil_append]
  try dsimp only at hI0
  obtain ⟨hk1, hkl, he⟩ := hI0
  replace F := F.add hk1 |>.add hkl
  refine W.seqk fun K2 hK2 => ?_
  refine rK [0, 3, 7] ?_
  refine it (fun hc1 => ?_) (fun hc1 => ?_)
  ·
   try simp at hc1
   replace F := F.add hc1
   refine W.skip ?_
   refine hK2 _ ?_
   clear hK2 K2
   refine W.seqk fun K3 hK3 => ?_
   refine W.block ?_
   have hkx : k < l.length := by omega
   replace F := F.add hkx
   refine wD 7 [] [[], [], [1, 0], [0, 1, 2], [], [4], [4, 5], [5, 4, 6, 2, 1, 0, 3]] ?_
   refine dN 7 0 ?_
   refine dD ?_
   refine oN 1 ?_
   refine oK [0, 3, 17] ?_
   refine it (fun hc2 => ?_) (fun hc2 => ?_)
   ·
    try simp at hc2
    replace F := F.add hc2
    refine rK [2] ?_
    refine W.ret ?_
    refine br (tr (tr (br (tr ?_))))
    clear hK3 K3 hK1 K1
    refine er false [] [] ?_
    exact ⟨by rw [he, all_drop hkx, decide_eq_false (by omega), Bool.false_and], rfl⟩
   ·
    try simp at hc2
    replace F := F.add hc2
    refine W.skip ?_
    refine hK3 _ ?_
    clear hK3 K3
    refine rEw ?_
    refine ⟨k + 1, lf0, ?_, v0⟩
    ·
     exact ⟨by omega, by omega, by rw [he, all_drop hkx, decide_eq_true hc2, Bool.true_and]⟩
  ·
   try simp at hc1
   replace F := F.add hc1
   refine W.exit ?_
   refine hK1 _ ?_
   clear hK2 K2 hK1 K1
   refine rK [2] ?_
   refine W.ret ?_
   refine er false [] [] ?_
   exact ⟨by rw [he, List.drop_of_length_le hc1]; rfl, rfl⟩
theorem ringR'_none {f : Nat → Nat} {n i : Nat} (h : (ringR f n i).getD [] = []) (hne : ∀ r, ringR f n i = some r → r ≠ []) : ringR' f n i = none := by
  unfold ringR'
  cases hr : ringR f n i with
  | none => rfl
  | some r => rw [hr] at h; exact absurd h (hne r hr)
theorem goR_ne {f : Nat → Nat} {i : Nat} : ∀ {n : Nat} {out : List Nat} {last : Nat} {r : List Nat}, out ≠ [] → goR f i n out last = some r → r ≠ []
  | 0, _, _, _, _, h => by simp [goR] at h
  | n + 1, out, last, r, ho, h => by
    rw [goR] at h
    split at h
    · cases h; exact ho
    · exact goR_ne (by simp) h
theorem ringR_ne {f : Nat → Nat} {n i : Nat} {r : List Nat} (h : ringR f n i = some r) : r ≠ [] := goR_ne (by simp) h
theorem ringR_of {f : Nat → Nat} {n i x : Nat} {xs : List Nat} (h : (ringR f n i).getD [] = x :: xs) : ringR f n i = some (x :: xs) := by
  cases hr : ringR f n i with
  | none => rw [hr] at h; cases h
  | some r => rw [hr] at h; exact congrArg some h
theorem ringR'_of {f : Nat → Nat} {n i x : Nat} {xs : List Nat} (h : (ringR f n i).getD [] = x :: xs) : ringR' f n i = if leastB (x :: xs) = true then some (x :: xs) else none := by
  unfold ringR'; rw [ringR_of h]
set_option maxHeartbeats 4000000 in
theorem Round_ok (ow : List Turn) (lk : List (List Turn)) (L : List Nat) (hv : ValidT ow lk) (hd : L.Nodup) (hL : ∀ y ∈ L, y < ow.length) : ACalls Try.prog 43 [trade ow lk, .own 10000 0 ow.length] [(10000, .row true 4 1 ((lfOf ow.length L).map B))] (fun r o => r = tabsN (rnd ow lk L ow.length) ∧ o = [(10000, .row true 4 1 ((lfOf ow.length L).map B))]) := by
 have F := Fx.nil
 refine ent Try.func43 Try.ntmps43 Try.results43 ?_
 have hn8 : ow.length ≤ 8 := hv.most
 have hll := lfOf_length ow.length L
 have qLn := le_of_nodup_lt hd hL
 replace F := F.add hn8 |>.add hll
 refine rK [1, 2] ?_
 refine rK [1, 2, 5] ?_
 refine W.seqk fun K1 hK1 => ?_
 refine rK [1, 2, 5, 6] ?_
 refine W.block ?_
 refine sn 5 9000 26 1 ?_
 refine lp (α := Nat) [1, 2] [11, 23, 25, 29, 33, 34] [9000] (fun i => [(6, I i), (5, .own 9000 0 (rnd ow lk L i).length)]) (fun i => [(9000, .row true 26 1 ((rnd ow lk L i).map rgV))]) (fun i => i ≤ ow.length) (fun i => ow.length - i) 0 ?_ ?_ v0 ?_
 ·
  try (simp [Fx.get F])
  all_goals (
   exact rfl
  )
 ·
  try (simp [Fx.get F])
  all_goals (
   exact rnd_zero ow lk L
  )
 ·
  intro i hI0
  simp only [List.cons_append, List.nil_append]
  try dsimp only at hI0
  replace F := F.add hI0
  have qrl := rnd_length ow lk L i
  refine W.seqk fun K2 hK2 => ?_
  refine rK [1, 2, 5, 6, 12] ?_
  refine it (fun hc1 => ?_) (fun hc1 => ?_)
  ·
   try simp at hc1
   replace F := F.add hc1
   refine W.skip ?_
   refine hK2 _ ?_
   clear hK2 K2
   refine W.seqk fun K3 hK3 => ?_
   refine W.block ?_
   refine W.seqk fun K4 hK4 => ?_
   have hlf : (lfOf ow.length L)[i]'(by rw [hll]; omega) = decide (i ∈ L) := lfOf_get _
   replace F := F.add hlf
   refine rK [1, 2, 5, 6, 19] ?_
   refine it (fun hc2 => ?_) (fun hc2 => ?_)
   ·
    try simp at hc2
    replace F := F.add hc2
    refine W.exit ?_
    refine hK3 _ ?_
    clear hK4 K4 hK3 K3
    refine rEw ?_
    refine ⟨i + 1, lf ?_ ?_, v0, v0⟩
    ·
     try (simp [Fx.get F])
     all_goals (
      rw [rnd_out hc2]
     )
    ·
     try (simp [Fx.get F])
     all_goals (
      rw [rnd_out hc2]
     )
   ·
    try simp at hc2
    replace F := F.add hc2
    refine W.skip ?_
    refine hK4 _ ?_
    clear hK4 K4
    refine W.seqR ?_
    refine oN 3 ?_
    refine oC [(10000, 10000)] ?_
    refine ct (rring_ok ow lk L i hv (by omega)) ?_
    refine oN 1 ?_
    refine oK [1, 2, 5, 6, 7] ?_
    by_cases hR : (ringR (ptF ow lk L) ow.length i).getD [] = []
    ·
     replace F := F.add hR
     refine W.seqR ?_
     refine oN 4 ?_
     refine gF ?_
     refine gF ?_
     refine oN 1 ?_
     refine oK [1, 2, 5, 6, 7, 30] ?_
     refine cF ?_
     refine W.skip ?_
     refine hK3 _ ?_
     clear hK3 K3
     refine rEw ?_
     refine ⟨i + 1, lf ?_ ?_, v0, v0⟩
     ·
      try (simp [Fx.get F])
      all_goals (
       rw [rnd_none (by rw [← ringR'_eq (ptF_closed ow lk L) hc2 qLn]; exact ringR'_none hR fun r => ringR_ne)]
      )
     ·
      try (simp [Fx.get F])
      all_goals (
       rw [rnd_none (by rw [← ringR'_eq (ptF_closed ow lk L) hc2 qLn]; exact ringR'_none hR fun r => ringR_ne)]
      )
    ·
     replace F := F.add hR
     obtain ⟨r0, r1, q01⟩ := List.exists_cons_of_ne_nil hR
     have hr01 := q01
     have qlen : r1.length ≤ 99999 := by
       have q1 := ringR_of hr01
       obtain ⟨K, hF, qe⟩ := (ringR_iff (ptF_closed ow lk L) (m := i) (by assumption) qLn).1 q1
       have := hF.le (ptF_closed ow lk L) (by assumption)
       have q2 := congrArg List.length qe
       rw [orb_length] at q2
       simp at q2; omega
     have qle := least_ok (r0 :: r1) (by simp) (by simp; omega)
     simp only [rgV, List.map_cons, nI_def] at qle
     replace F := F.add hr01
     refine W.seqR ?_
     refine oN 4 ?_
     refine gT ?_
     refine gC [] ?_
     refine ct (qle) ?_
     refine oN 1 ?_
     refine oK [1, 2, 5, 6, 7, 30] ?_
     refine it (fun hc4 => ?_) (fun hc4 => ?_)
     ·
      try simp at hc4
      replace F := F.add hc4
      refine rEw ?_
      refine hK3 _ ?_
      clear hK3 K3
      refine rEw ?_
      refine ⟨i + 1, lf ?_ ?_, v0, v0⟩
      ·
       try (simp [Fx.get F])
       all_goals (
        have q : ringP (ptF ow lk L) ow.length i = some (r0 :: r1) := by rw [← ringR'_eq (ptF_closed ow lk L) hc2 qLn, ringR'_of hr01, if_pos hc4]
        rw [rnd_some hc2 q]; simp
       )
      ·
       try (simp [Fx.get F])
       all_goals (
        have q : ringP (ptF ow lk L) ow.length i = some (r0 :: r1) := by rw [← ringR'_eq (ptF_closed ow lk L) hc2 qLn, ringR'_of hr01, if_pos hc4]
        rw [rnd_some hc2 q]; simp
       )
     ·
      try simp at hc4
      replace F := F.add hc4
      refine W.skip ?_
      refine hK3 _ ?_
      clear hK3 K3
      refine rEw ?_
      refine ⟨i + 1, lf ?_ ?_, v0, v0⟩
      ·
       try (simp [Fx.get F])
       all_goals (
        have q : ringP (ptF ow lk L) ow.length i = none := by rw [← ringR'_eq (ptF_closed ow lk L) hc2 qLn, ringR'_of hr01, if_neg (by simp [hc4])]
        rw [rnd_none q]
       )
      ·
       try (simp [Fx.get F])
       all_goals (
        have q : ringP (ptF ow lk L) ow.length i = none := by rw [← ringR'_eq (ptF_closed ow lk L) hc2 qLn, ringR'_of hr01, if_neg (by simp [hc4])]
        rw [rnd_none q]
       )
  ·
   try simp at hc1
   replace F := F.add hc1
   refine W.exit ?_
   refine hK1 _ ?_
   clear hK2 K2 hK1 K1
   refine rK [4] ?_
   refine W.ret ?_
   refine er true [9000] [(10000, 10000)] ?_
   obtain rfl : i = ow.length := by omega
   exact ⟨rfl, rfl⟩
end Go.Sim
