/- Tables of differences: blank ones, and facts added. -/
import Derived.Test.YtfcmfoacedbleaaDoorQb
namespace Go.Sim
open Go.Proofs
set_option maxRecDepth 100000
set_option linter.unusedSimpArgs false
set_option linter.unusedVariables false
attribute [-simp] List.map_set List.map_take List.map_drop
attribute [simp] spn_eta D2_def
theorem set_mapD (l : List Dif) (i : Nat) (a b : Int) : (l.map D2).set i (.agg [I a, I b]) = (l.set i (a, b)).map D2 := by
  show (l.map D2).set i (D2 (a, b)) = _
  exact List.map_set.symm
theorem set_mapR (t : List (List Dif)) (i : Nat) (r : List Dif) : (t.map rowA).set i (r.map D2) = (t.set i r).map rowA := by
  show (t.map rowA).set i (rowA r) = _
  exact List.map_set.symm
attribute [simp] set_mapD set_mapR rowA_def
set_option maxHeartbeats 4000000 in
theorem both_ok (d o : Dif) : ACalls Tryd.prog 67 [D2 d, D2 o] [] (fun r o' => r = D2 (bothD d o) ∧ o' = []) := by
 have F := Fx.nil
 refine ent Tryd.func67 Tryd.ntmps67 Tryd.results67 ?_
 refine rK [2, 3, 4] ?_
 refine rK [4] ?_
 refine W.ret ?_
 refine er false [] [] ?_
 have e1 : (if d.1 < o.1 then o.1 else d.1) = max d.1 o.1 := by split <;> omega
 have e2 : (if o.2 < d.2 then o.2 else d.2) = min d.2 o.2 := by split <;> omega
 refine ⟨?_, rfl⟩
 rw [e1, e2]; rfl
set_option maxHeartbeats 4000000 in
theorem turned_ok (d : Dif) : ACalls Tryd.prog 70 [D2 d] [] (fun r o' => r = D2 (turnD d) ∧ o' = []) := by
 have F := Fx.nil
 refine ent Tryd.func70 Tryd.ntmps70 Tryd.results70 ?_
 refine rK [1, 2] ?_
 refine rK [2] ?_
 refine W.ret ?_
 refine er false [] [] ?_
 simp [turnD]
set_option maxHeartbeats 4000000 in
theorem plus_ok (d o : Dif) : ACalls Tryd.prog 69 [D2 d, D2 o] [] (fun r o' => r = D2 (plusD d o) ∧ o' = []) := by
 have F := Fx.nil
 refine ent Tryd.func69 Tryd.ntmps69 Tryd.results69 ?_
 refine rK [2, 3, 4] ?_
 refine rK [2, 3, 4, 5] ?_
 refine W.seqk fun K1 hK1 => ?_
 by_cases h1 : d.1 ≤ -1099511627776
 ·
  replace F := F.add h1
  refine W.seqR ?_
  refine oN 4 ?_
  refine gF ?_
  refine gF ?_
  refine gF ?_
  refine oN 1 ?_
  refine oK [2, 3, 4, 5, 24] ?_
  refine cT ?_
  refine rE ?_
  refine hK1 _ ?_
  clear hK1 K1
  refine W.seqk fun K2 hK2 => ?_
  by_cases h3 : 1099511627776 ≤ d.2
  ·
   replace F := F.add h3
   refine W.seqR ?_
   refine oN 4 ?_
   refine gF ?_
   refine gF ?_
   refine gF ?_
   refine oN 1 ?_
   refine oK [4, 5, 33] ?_
   refine cT ?_
   refine rE ?_
   refine hK2 _ ?_
   clear hK2 K2
   refine rK [4] ?_
   refine W.ret ?_
   refine er false [] [] ?_
   refine ⟨?_, rfl⟩
   unfold plusD
   (repeat' split) <;> first | rfl | (exfalso; omega)
  ·
   replace F := F.add h3
   by_cases h4 : 1099511627776 ≤ o.2
   ·
    replace F := F.add h4
    refine W.seqR ?_
    refine oN 4 ?_
    refine gT ?_
    refine gT ?_
    refine gT ?_
    refine oN 1 ?_
    refine oK [4, 5, 33] ?_
    refine cT ?_
    refine rE ?_
    refine hK2 _ ?_
    clear hK2 K2
    refine rK [4] ?_
    refine W.ret ?_
    refine er false [] [] ?_
    refine ⟨?_, rfl⟩
    unfold plusD
    (repeat' split) <;> first | rfl | (exfalso; omega)
   ·
    replace F := F.add h4
    refine W.seqR ?_
    refine oN 4 ?_
    refine gT ?_
    refine gT ?_
    refine gT ?_
    refine oN 1 ?_
    refine oK [4, 5, 33] ?_
    refine cF ?_
    refine W.skip ?_
    refine hK2 _ ?_
    clear hK2 K2
    refine rK [4] ?_
    refine W.ret ?_
    refine er false [] [] ?_
    refine ⟨?_, rfl⟩
    unfold plusD
    (repeat' split) <;> first | rfl | (exfalso; omega)
 ·
  replace F := F.add h1
  by_cases h2 : o.1 ≤ -1099511627776
  ·
   replace F := F.add h2
   refine W.seqR ?_
   refine oN 4 ?_
   refine gT ?_
   refine gT ?_
   refine gT ?_
   refine oN 1 ?_
   refine oK [2, 3, 4, 5, 24] ?_
   refine cT ?_
   refine rE ?_
   refine hK1 _ ?_
   clear hK1 K1
   refine W.seqk fun K3 hK3 => ?_
   by_cases h3 : 1099511627776 ≤ d.2
   ·
    replace F := F.add h3
    refine W.seqR ?_
    refine oN 4 ?_
    refine gF ?_
    refine gF ?_
    refine gF ?_
    refine oN 1 ?_
    refine oK [4, 5, 33] ?_
    refine cT ?_
    refine rE ?_
    refine hK3 _ ?_
    clear hK3 K3
    refine rK [4] ?_
    refine W.ret ?_
    refine er false [] [] ?_
    refine ⟨?_, rfl⟩
    unfold plusD
    (repeat' split) <;> first | rfl | (exfalso; omega)
   ·
    replace F := F.add h3
    by_cases h4 : 1099511627776 ≤ o.2
    ·
     replace F := F.add h4
     refine W.seqR ?_
     refine oN 4 ?_
     refine gT ?_
     refine gT ?_
     refine gT ?_
     refine oN 1 ?_
     refine oK [4, 5, 33] ?_
     refine cT ?_
     refine rE ?_
     refine hK3 _ ?_
     clear hK3 K3
     refine rK [4] ?_
     refine W.ret ?_
     refine er false [] [] ?_
     refine ⟨?_, rfl⟩
     unfold plusD
     (repeat' split) <;> first | rfl | (exfalso; omega)
    ·
     replace F := F.add h4
     refine W.seqR ?_
     refine oN 4 ?_
     refine gT ?_
     refine gT ?_
     refine gT ?_
     refine oN 1 ?_
     refine oK [4, 5, 33] ?_
     refine cF ?_
     refine W.skip ?_
     refine hK3 _ ?_
     clear hK3 K3
     refine rK [4] ?_
     refine W.ret ?_
     refine er false [] [] ?_
     refine ⟨?_, rfl⟩
     unfold plusD
     (repeat' split) <;> first | rfl | (exfalso; omega)
  ·
   replace F := F.add h2
   refine W.seqR ?_
   refine oN 4 ?_
   refine gT ?_
   refine gT ?_
   refine gT ?_
   refine oN 1 ?_
   refine oK [2, 3, 4, 5, 24] ?_
   refine cF ?_
   refine W.skip ?_
   refine hK1 _ ?_
   clear hK1 K1
   refine W.seqk fun K4 hK4 => ?_
   by_cases h3 : 1099511627776 ≤ d.2
   ·
    replace F := F.add h3
    refine W.seqR ?_
    refine oN 4 ?_
    refine gF ?_
    refine gF ?_
    refine gF ?_
    refine oN 1 ?_
    refine oK [4, 5, 33] ?_
    refine cT ?_
    refine rE ?_
    refine hK4 _ ?_
    clear hK4 K4
    refine rK [4] ?_
    refine W.ret ?_
    refine er false [] [] ?_
    refine ⟨?_, rfl⟩
    unfold plusD
    (repeat' split) <;> first | rfl | (exfalso; omega)
   ·
    replace F := F.add h3
    by_cases h4 : 1099511627776 ≤ o.2
    ·
     replace F := F.add h4
     refine W.seqR ?_
     refine oN 4 ?_
     refine gT ?_
     refine gT ?_
     refine gT ?_
     refine oN 1 ?_
     refine oK [4, 5, 33] ?_
     refine cT ?_
     refine rE ?_
     refine hK4 _ ?_
     clear hK4 K4
     refine rK [4] ?_
     refine W.ret ?_
     refine er false [] [] ?_
     refine ⟨?_, rfl⟩
     unfold plusD
     (repeat' split) <;> first | rfl | (exfalso; omega)
    ·
     replace F := F.add h4
     refine W.seqR ?_
     refine oN 4 ?_
     refine gT ?_
     refine gT ?_
     refine gT ?_
     refine oN 1 ?_
     refine oK [4, 5, 33] ?_
     refine cF ?_
     refine W.skip ?_
     refine hK4 _ ?_
     clear hK4 K4
     refine rK [4] ?_
     refine W.ret ?_
     refine er false [] [] ?_
     refine ⟨?_, rfl⟩
     unfold plusD
     (repeat' split) <;> first | rfl | (exfalso; omega)
theorem grid_last {T : Tab} {R : List AV} : (T.map rowA ++ [R])[T.length]? = some R := by
  rw [List.getElem?_append_right (by simp)]; simp
theorem grid_set {T : Tab} {R R' : List AV} : (T.map rowA ++ [R]).set T.length R' = T.map rowA ++ [R'] := by
  rw [List.set_append_right _ _ (by simp)]; simp
attribute [simp] grid_last grid_set
def rowB (n i : Nat) : List Dif := (List.range n).map fun k => if i = k then (0, 0) else (-1099511627776, 1099511627776)
theorem blankT_rows (n : Nat) : blankT n = (List.range n).map (rowB n) := rfl
theorem row_ext {a b : List Dif} {n : Nat} (ha : a.length = n) (hb : b.length = n) (h : ∀ j, j < n → nth a j = nth b j) : a = b := by
  refine List.ext_getElem (by omega) fun i h1 h2 => ?_
  have := h i (by omega)
  rwa [nth_get h1, nth_get h2] at this
theorem rowB_nth {n i j : Nat} (hj : j < n) : nth (rowB n i) j = if i = j then (0, 0) else (-1099511627776, 1099511627776) := by
  rw [nth_get (by simp [rowB]; exact hj)]; simp [rowB]
theorem nth_setD {l : List Dif} {i j : Nat} {v : Dif} (hi : i < l.length) : nth (l.set i v) j = if j = i then v else nth l j := by
  by_cases e : j = i
  · subst e; rw [if_pos rfl, nth_get (by rw [List.length_set]; exact hi), List.getElem_set_self]
  · rw [if_neg e]
    unfold nth
    rw [List.getD_eq_getElem?_getD, List.getD_eq_getElem?_getD, List.getElem?_set_ne (Ne.symm e)]
theorem nth_rep {n j : Nat} : nth (List.replicate n ((0, 0) : Dif)) j = (0, 0) := by
  unfold nth
  rw [List.getD_eq_getElem?_getD, List.getElem?_replicate]; split <;> rfl
/-- the first rows of a blank table -/
def IsB (n : Nat) (T : Tab) : Prop := T = (List.range T.length).map (rowB n)
theorem IsB.nil (n : Nat) : IsB n [] := rfl
theorem IsB.snoc {n : Nat} {T : Tab} (h : IsB n T) {R : List Dif} (hR : R = rowB n T.length) : IsB n (T ++ [R]) := by
  unfold IsB at h ⊢
  rw [List.length_append, List.length_singleton, List.range_succ, List.map_append, ← h, hR]; rfl
theorem IsB.all {n : Nat} {T : Tab} (h : IsB n T) (hl : T.length = n) : T = blankT n := by
  unfold IsB at h
  rw [h, hl, blankT_rows]
set_option maxHeartbeats 4000000 in
theorem blank_ok (n : Nat) (hn1 : 1 ≤ n) (hn2 : n ≤ 1000) : ACalls Tryd.prog 68 [I n] [] (fun r o => r = .own 20000 0 n ∧ o = [(20000, .grid 89 2 90 n ((blankT n).map rowA))]) := by
 have F := Fx.nil
 refine ent Tryd.func68 Tryd.ntmps68 Tryd.results68 ?_
 have hn16 : (n : Int) ≤ 16777216 := by omega
 have hn0 : (0 : Int) ≤ n := by omega
 have hnp : 0 < n := by omega
 replace F := F.add hn16 |>.add hn0 |>.add hnp
 refine rK [0] ?_
 refine rK [0, 3] ?_
 refine W.seqk fun K1 hK1 => ?_
 refine W.seqR ?_
 refine WOps.le (Le.asGrid (id := 56) (ty := 89) (sz := 2) (by simp [hn16, hn0, hnp]; rfl)) rfl rfl ?_
 refine oN 3 ?_
 refine oK [0, 3, 9, 10] ?_
 refine W.block ?_
 refine lpa (α := Tab) [0, 3, 9] [16, 22] [56] (fun T => [(10, I T.length)]) (fun T => [(56, .grid 89 2 90 n (T.map rowA))]) (fun T => T.length ≤ n ∧ IsB n T) (fun T => n - T.length) [] ?_ ?_
 ·
  first | exact ⟨Nat.zero_le _, IsB.nil n⟩ | exact ⟨Nat.zero_le _, List.length_replicate, fun j hj => by rw [if_neg (Nat.not_lt_zero _)]; exact nth_rep⟩
 ·
  intro T hI0
  simp only [List.cons_append, List.nil_append]
  try dsimp only at hI0
  obtain ⟨hTn, kT⟩ := hI0
  replace F := F.add hTn
  refine rK [0, 3, 9, 10, 11] ?_
  refine W.seqk fun K2 hK2 => ?_
  refine it (fun hc1 => ?_) (fun hc1 => ?_)
  ·
   try simp at hc1
   replace F := F.add hc1
   refine W.skip ?_
   refine hK2 _ ?_
   clear hK2 K2
   refine W.seqk fun K3 hK3 => ?_
   refine W.block ?_
   have hTl : T.length < n := by omega
   replace F := F.add hTl
   refine rK [0, 3, 4, 9, 10] ?_
   refine rK [0, 3, 4, 9, 10] ?_
   refine rK [0, 3, 4, 9, 10, 22, 23] ?_
   refine W.block ?_
   refine lpa (α := Nat × List Dif) [0, 3, 4, 9, 10, 22] [] [56] (fun x => [(23, I x.1)]) (fun x => [(56, .grid 89 2 90 n (T.map rowA ++ [x.2.map D2]))]) (fun x => x.1 ≤ n ∧ x.2.length = n ∧ ∀ j, j < n → nth x.2 j = if j < x.1 then nth (rowB n T.length) j else (0, 0)) (fun x => n - x.1) (0, List.replicate n (0, 0)) ?_ ?_
   ·
    first | exact ⟨Nat.zero_le _, IsB.nil n⟩ | exact ⟨Nat.zero_le _, List.length_replicate, fun j hj => by rw [if_neg (Nat.not_lt_zero _)]; exact nth_rep⟩
   ·
    intro ⟨k, R⟩ hI1
    simp only [List.cons_append, List.nil_append]
    try dsimp only at hI1
    obtain ⟨hk, hRl, kR⟩ := hI1
    replace F := F.add hk |>.add hRl
    refine rK [0, 3, 4, 9, 10, 22, 23, 24] ?_
    refine W.seqk fun K4 hK4 => ?_
    refine it (fun hc2 => ?_) (fun hc2 => ?_)
    ·
     try simp at hc2
     replace F := F.add hc2
     refine W.skip ?_
     refine hK4 _ ?_
     clear hK4 K4
     refine W.seqk fun K5 hK5 => ?_
     refine W.block ?_
     have hkn : k < n := by omega
     have hkR : k < R.length := by omega
     replace F := F.add hkn |>.add hkR
     refine rK [0, 3, 4, 5, 9, 10, 22, 23] ?_
     refine rK [0, 3, 4, 5, 9, 10, 22, 23, 28] ?_
     refine it (fun hc3 => ?_) (fun hc3 => ?_)
     ·
      try simp at hc3
      replace F := F.add hc3
      refine rE ?_
      refine hK5 _ ?_
      clear hK5 K5
      refine rEw ?_
      refine ⟨(k + 1, R.set k (-1099511627776, 1099511627776)), lf0, ?_, v0⟩
      ·
       first
       | (refine ⟨by show (T ++ [R]).length ≤ n; simp; omega, kT.snoc ?_⟩
          refine row_ext (n := n) hRl (by simp [rowB]) fun j hj => ?_
          have e := kR j hj
          rw [if_pos (by omega)] at e
          exact e)
       | (refine ⟨by show k + 1 ≤ n; omega, by show (R.set k _).length = n; rw [List.length_set]; exact hRl, fun j hj => ?_⟩
          show nth (R.set k (-1099511627776, 1099511627776)) j = if j < k + 1 then nth (rowB n T.length) j else (0, 0)
          rw [nth_setD hkR]
          by_cases e : j = k
          · rw [if_pos e, if_pos (by omega), rowB_nth hj, if_neg (by omega)]
          · rw [if_neg e, kR j hj]
            by_cases e2 : j < k
            · rw [if_pos e2, if_pos (by omega)]
            · rw [if_neg e2, if_neg (by omega)])
       | (refine ⟨by show k + 1 ≤ n; omega, hRl, fun j hj => ?_⟩
          show nth R j = if j < k + 1 then nth (rowB n T.length) j else (0, 0)
          rw [kR j hj]
          by_cases e : j = k
          · rw [if_neg (by omega), if_pos (by omega), rowB_nth hj, if_pos (by omega)]
          · by_cases e2 : j < k
            · rw [if_pos e2, if_pos (by omega)]
            · rw [if_neg e2, if_neg (by omega)])
     ·
      try simp at hc3
      replace F := F.add hc3
      refine W.skip ?_
      refine hK5 _ ?_
      clear hK5 K5
      refine rEw ?_
      refine ⟨(k + 1, R), lf0, ?_, v0⟩
      ·
       first
       | (refine ⟨by show (T ++ [R]).length ≤ n; simp; omega, kT.snoc ?_⟩
          refine row_ext (n := n) hRl (by simp [rowB]) fun j hj => ?_
          have e := kR j hj
          rw [if_pos (by omega)] at e
          exact e)
       | (refine ⟨by show k + 1 ≤ n; omega, by show (R.set k _).length = n; rw [List.length_set]; exact hRl, fun j hj => ?_⟩
          show nth (R.set k (-1099511627776, 1099511627776)) j = if j < k + 1 then nth (rowB n T.length) j else (0, 0)
          rw [nth_setD hkR]
          by_cases e : j = k
          · rw [if_pos e, if_pos (by omega), rowB_nth hj, if_neg (by omega)]
          · rw [if_neg e, kR j hj]
            by_cases e2 : j < k
            · rw [if_pos e2, if_pos (by omega)]
            · rw [if_neg e2, if_neg (by omega)])
       | (refine ⟨by show k + 1 ≤ n; omega, hRl, fun j hj => ?_⟩
          show nth R j = if j < k + 1 then nth (rowB n T.length) j else (0, 0)
          rw [kR j hj]
          by_cases e : j = k
          · rw [if_neg (by omega), if_pos (by omega), rowB_nth hj, if_pos (by omega)]
          · by_cases e2 : j < k
            · rw [if_pos e2, if_pos (by omega)]
            · rw [if_neg e2, if_neg (by omega)])
    ·
     try simp at hc2
     replace F := F.add hc2
     refine W.exit ?_
     refine hK3 _ ?_
     clear hK4 K4 hK3 K3
     refine rEw ?_
     refine ⟨T ++ [R], lf0, ?_, v0⟩
     ·
      first
      | (refine ⟨by show (T ++ [R]).length ≤ n; simp; omega, kT.snoc ?_⟩
         refine row_ext (n := n) hRl (by simp [rowB]) fun j hj => ?_
         have e := kR j hj
         rw [if_pos (by omega)] at e
         exact e)
      | (refine ⟨by show k + 1 ≤ n; omega, by show (R.set k _).length = n; rw [List.length_set]; exact hRl, fun j hj => ?_⟩
         show nth (R.set k (-1099511627776, 1099511627776)) j = if j < k + 1 then nth (rowB n T.length) j else (0, 0)
         rw [nth_setD hkR]
         by_cases e : j = k
         · rw [if_pos e, if_pos (by omega), rowB_nth hj, if_neg (by omega)]
         · rw [if_neg e, kR j hj]
           by_cases e2 : j < k
           · rw [if_pos e2, if_pos (by omega)]
           · rw [if_neg e2, if_neg (by omega)])
      | (refine ⟨by show k + 1 ≤ n; omega, hRl, fun j hj => ?_⟩
         show nth R j = if j < k + 1 then nth (rowB n T.length) j else (0, 0)
         rw [kR j hj]
         by_cases e : j = k
         · rw [if_neg (by omega), if_pos (by omega), rowB_nth hj, if_pos (by omega)]
         · by_cases e2 : j < k
           · rw [if_pos e2, if_pos (by omega)]
           · rw [if_neg e2, if_neg (by omega)])
  ·
   try simp at hc1
   replace F := F.add hc1
   refine W.exit ?_
   refine hK1 _ ?_
   clear hK2 K2 hK1 K1
   refine rK [2] ?_
   refine W.ret ?_
   refine er false [] [(20000, 56)] ?_
   refine ⟨rfl, ?_⟩
   rw [← kT.all (by omega)]
def withV : Option Tab → AV
  | none => .tup [.imm [], B false]
  | some u => .tup [tabV u, B true]
/-- the places before this one are written -/
def WOut (f : Nat → Nat → Dif) (n i k : Nat) (U : Tab) : Prop := ∀ i' k', i' < n → k' < n → i' < i ∨ (i' = i ∧ k' < k) → at2 U i' k' = f i' k'
theorem WOut.init (f : Nat → Nat → Dif) (n : Nat) (U : Tab) : WOut f n 0 0 U := fun i' k' _ _ h => by omega
theorem WOut.row {f : Nat → Nat → Dif} {n i : Nat} {U : Tab} (h : WOut f n i n U) : WOut f n (i + 1) 0 U := fun i' k' h1 h2 h3 => h i' k' h1 h2 (by omega)
theorem WOut.step {f : Nat → Nat → Dif} {n i k : Nat} {U : Tab} (h : WOut f n i k U) (hs : Sq n U) (hi : i < U.length) (hk : k < n) : WOut f n i (k + 1) (U.set i (U[i].set k (f i k))) := fun i' k' h1 h2 h3 => by
  rw [at2_set hs hi hk]
  by_cases e : i' = i ∧ k' = k
  · rw [if_pos e, e.1, e.2]
  · rw [if_neg e]; exact h i' k' h1 h2 (by omega)
theorem WOut.all {f : Nat → Nat → Dif} {n : Nat} {U : Tab} (h : WOut f n n 0 U) (hs : Sq n U) : U = tabF n f :=
  hs.ext (tabF_sq n f) fun i k hi hk => by rw [tabF_at hi hk]; exact h i k hi hk (by omega)
set_option maxHeartbeats 4000000 in
theorem with_ok (t : Tab) (n : Nat) (hn1 : 1 ≤ n) (hn2 : n ≤ 1000) (hs : Sq n t) (p q : Nat) (hp : p < n) (hq : q < n) (d : Dif) : ACalls Tryd.prog 50 [tabV t, .agg [I p, I q, I d.1, I d.2]] [] (fun r o => r = withV (withT t p q d) ∧ o = []) := by
 have F := Fx.nil
 replace F := F.add hp |>.add hq
 refine ent Tryd.func50 Tryd.ntmps50 Tryd.results50 ?_
 have htl : t.length = n := hs.1
 have qpl : p < t.length := by omega
 have qql : q < t.length := by omega
 have hrp : t[p].length = n := hs.row qpl
 have hrq : t[q].length = n := hs.row qql
 obtain ⟨e0, qe0⟩ : ∃ z, at2 t p q = z := ⟨_, rfl⟩
 have hpq : t[p][q]'(by omega) = e0 := by rw [← at2_get]; exact qe0
 obtain ⟨e, qe⟩ : ∃ z, bothD d e0 = z := ⟨_, rfl⟩
 have he := qe
 have qw : withT t p q d = if e.2 < e.1 then none else some (tabF n (withE t p q e)) := by rw [withT, qe0, qe, htl]
 replace F := F.add htl |>.add hrp |>.add hrq |>.add hpq |>.add he
 refine rK [0, 3] ?_
 refine wD 13 [] [[], [0], [], [], [3], [3, 4, 2], [2, 4, 3, 5], [], [7], [7, 8, 5, 3, 4, 2, 6], [6, 2, 4, 3, 5, 8, 7, 9], [9, 7, 8, 5, 3, 4, 2, 6, 10, 0, 1], [], [1, 0, 10, 6, 2, 4, 3, 5, 8, 7, 9, 11, 12]] ?_
 refine dB [([14, 15, 16, 17, 18, 19, 20, 21, 22, 6], [], []), ([14, 15, 16, 17, 18, 19, 20, 21, 22, 6], [true], []), ([12, 13, 15, 16, 19, 20, 6], [false, false], []), ([12, 13, 14, 19, 20, 6], [false, false, false], []), ([12, 13, 14, 19, 20, 6], [false, false, false, true], []), ([12, 13, 19, 20, 6], [false, false, true, true, true], []), ([12, 13, 19, 20, 6], [false, false, true, true, true, true], []), ([12, 13, 14, 15, 16, 17, 18, 6], [false, false, false, false, false, false, false], []), ([12, 13, 14, 15, 16, 17, 18, 6], [false, false, false, false, false, false, false, true], []), ([12, 13, 6], [false, false, true, true, true, true, true, true, true], []), ([12, 13, 6], [false, false, true, true, true, true, true, true, true, true], [])] 2 11 ?_
 refine dC [6] [true, true, true, true, true, true, true, true, true, true, true] [] [] ?_
 refine cd (both_ok d e0) ?_
 refine dB [([12, 13, 14, 15, 16, 17, 18, 19, 20, 21, 22, 23], [false, false, false, false, false, false, false, false, false, false, false, false], [])] 0 13 ?_
 refine dD ?_
 refine oN 1 ?_
 refine oK [0, 3, 6] ?_
 refine W.seqk fun K1 hK1 => ?_
 refine rK [0, 3, 6, 28] ?_
 refine it (fun hc1 => ?_) (fun hc1 => ?_)
 ·
  try simp at hc1
  replace F := F.add hc1
  refine rK [4, 5] ?_
  refine W.ret ?_
  refine tr ?_
  clear hK1 K1
  refine er true [] [] ?_
  exact ⟨by rw [qw, if_pos (by omega)]; rfl, rfl⟩
 ·
  try simp at hc1
  replace F := F.add hc1
  refine W.skip ?_
  refine hK1 _ ?_
  clear hK1 K1
  refine W.seqR ?_
  refine oN 2 ?_
  refine oC [] ?_
  refine ct (blank_ok n hn1 hn2) ?_
  refine oN 1 ?_
  refine oK [0, 3, 6, 7] ?_
  refine W.seqk fun K2 hK2 => ?_
  refine rK [0, 3, 6, 7, 33, 34] ?_
  refine W.block ?_
  refine lpa (α := Nat × Tab) [0, 3, 6, 7, 33] [10, 11, 38, 51, 60, 70, 71, 80, 94, 96] [248] (fun x => [(34, I x.1)]) (fun x => [(248, .grid 89 2 90 n (x.2.map rowA))]) (fun x => x.1 ≤ n ∧ Sq n x.2 ∧ WOut (withE t p q e) n x.1 0 x.2) (fun x => n - x.1) (0, blankT n) ?_ ?_
  ·
   first
   | exact ⟨Nat.zero_le _, tabF_sq _ _, WOut.init _ _ _⟩
   | exact ⟨Nat.zero_le _, kS, kW⟩
  ·
   intro ⟨i, U⟩ hI0
   simp only [List.cons_append, List.nil_append]
   try dsimp only at hI0
   obtain ⟨hi, kS, kW⟩ := hI0
   replace F := F.add hi
   refine rK [0, 3, 6, 7, 33, 34, 35] ?_
   refine W.seqk fun K3 hK3 => ?_
   refine it (fun hc2 => ?_) (fun hc2 => ?_)
   ·
    try simp at hc2
    replace F := F.add hc2
    refine W.skip ?_
    refine hK3 _ ?_
    clear hK3 K3
    refine W.seqk fun K4 hK4 => ?_
    refine W.block ?_
    have hin : i < n := by omega
    have hrl : t[i].length = n := hs.row (by omega)
    replace F := F.add hin |>.add hrl
    refine rK [0, 3, 6, 7, 8, 33, 34] ?_
    refine rK [0, 3, 6, 7, 8, 33, 34, 38, 39] ?_
    refine W.block ?_
    refine lpa (α := Nat × Tab) [0, 3, 6, 7, 8, 33, 34, 38] [10, 11, 51, 60, 70, 71, 80, 94, 96] [248] (fun x => [(39, I x.1)]) (fun x => [(248, .grid 89 2 90 n (x.2.map rowA))]) (fun x => x.1 ≤ n ∧ Sq n x.2 ∧ WOut (withE t p q e) n i x.1 x.2) (fun x => n - x.1) (0, U) ?_ ?_
    ·
     first
     | exact ⟨Nat.zero_le _, tabF_sq _ _, WOut.init _ _ _⟩
     | exact ⟨Nat.zero_le _, kS, kW⟩
    ·
     intro ⟨k, V⟩ hI1
     simp only [List.cons_append, List.nil_append]
     try dsimp only at hI1
     obtain ⟨hk, kS2, kW2⟩ := hI1
     replace F := F.add hk
     refine rK [0, 3, 6, 7, 8, 33, 34, 38, 39, 40] ?_
     refine W.seqk fun K5 hK5 => ?_
     refine it (fun hc3 => ?_) (fun hc3 => ?_)
     ·
      try simp at hc3
      replace F := F.add hc3
      refine W.skip ?_
      refine hK5 _ ?_
      clear hK5 K5
      refine W.seqk fun K6 hK6 => ?_
      refine W.block ?_
      have hkn : k < n := by omega
      have hVl : V.length = n := kS2.1
      have hVi : V[i].length = n := kS2.row (by omega)
      obtain ⟨x0, qx0⟩ : ∃ z, at2 t i k = z := ⟨_, rfl⟩
      obtain ⟨x1, qx1⟩ : ∃ z, at2 t i p = z := ⟨_, rfl⟩
      obtain ⟨x2, qx2⟩ : ∃ z, at2 t q k = z := ⟨_, rfl⟩
      obtain ⟨x3, qx3⟩ : ∃ z, at2 t i q = z := ⟨_, rfl⟩
      obtain ⟨x4, qx4⟩ : ∃ z, at2 t p k = z := ⟨_, rfl⟩
      have hx0 : t[i][k] = x0 := by rw [← at2_get]; exact qx0
      have hx1 : t[i][p] = x1 := by rw [← at2_get]; exact qx1
      have hx2 : t[q][k] = x2 := by rw [← at2_get]; exact qx2
      have hx3 : t[i][q] = x3 := by rw [← at2_get]; exact qx3
      have hx4 : t[p][k] = x4 := by rw [← at2_get]; exact qx4
      replace F := F.add hkn |>.add hVl |>.add hVi |>.add hx0 |>.add hx1 |>.add hx2 |>.add hx3 |>.add hx4
      refine rK [0, 3, 6, 7, 8, 9, 33, 34, 38, 39] ?_
      refine wD 20 [] [[], [], [1, 0], [0, 1, 2], [], [4], [4, 5, 2, 1, 0, 3], [3, 0, 1, 2, 5, 4, 6], [], [8, 6, 4, 5, 2, 1, 0, 3, 7], [], [], [11], [11, 12, 10], [10, 12, 11, 13], [], [15, 13, 11, 12, 10, 14], [14, 10, 12, 11, 13, 15, 16], [16, 15, 13, 11, 12, 10, 14, 17, 7, 3, 0, 1, 2, 5, 4, 6, 8, 9], [], [9, 8, 6, 4, 5, 2, 1, 0, 3, 7, 17, 14, 10, 12, 11, 13, 15, 16, 18, 19]] ?_
      refine dB [([43, 46, 47, 50, 52, 53, 54, 55, 56, 57, 58, 59, 10], [], []), ([42, 46, 47, 50, 52, 53, 54, 55, 56, 57, 58, 59, 10], [false], []), ([46, 47, 50, 52, 53, 54, 55, 56, 57, 58, 59, 10], [true, true], []), ([46, 47, 50, 52, 53, 54, 55, 56, 57, 58, 59, 10], [true, true, true], []), ([42, 43, 44, 45, 50, 52, 53, 54, 55, 56, 57, 58, 59, 10], [false, false, false, false], []), ([42, 43, 44, 45, 50, 52, 53, 54, 55, 56, 57, 58, 59, 10], [false, false, false, false, true], []), ([50, 52, 53, 54, 55, 56, 57, 58, 59, 10], [true, true, true, true, true, true], []), ([50, 52, 53, 54, 55, 56, 57, 58, 59, 10], [true, true, true, true, true, true, true], []), ([42, 43, 44, 45, 46, 47, 48, 49, 52, 53, 54, 55, 56, 57, 58, 59, 10], [false, false, false, false, false, false, false, false], [])] 11 9 ?_
      refine dC [52, 53, 54, 55, 56, 57, 58, 59, 10] [true, true, true, true, true, true, true, true, true] [] [] ?_
      refine cd (plus_ok x1 e) ?_
      refine dB [([42, 43, 44, 45, 46, 47, 48, 49, 50, 51, 53, 54, 57, 10], [false, false, false, false, false, false, false, false, false, false], []), ([42, 43, 44, 45, 46, 47, 48, 49, 50, 51, 52, 57, 10], [false, false, false, false, false, false, false, false, false, false, false], []), ([42, 43, 44, 45, 46, 47, 48, 49, 50, 51, 52, 57, 10], [false, false, false, false, false, false, false, false, false, false, false, true], []), ([42, 43, 44, 45, 46, 47, 48, 49, 50, 51, 57, 10], [false, false, false, false, false, false, false, false, false, false, true, true, true], []), ([42, 43, 44, 45, 46, 47, 48, 49, 50, 51, 57, 10], [false, false, false, false, false, false, false, false, false, false, true, true, true, true], []), ([42, 43, 44, 45, 46, 47, 48, 49, 50, 51, 52, 53, 54, 55, 56, 10], [false, false, false, false, false, false, false, false, false, false, false, false, false, false, false], []), ([42, 43, 44, 45, 46, 47, 48, 49, 50, 51, 10], [false, false, false, false, false, false, false, false, false, false, true, true, true, true, true, true], []), ([42, 43, 44, 45, 46, 47, 48, 49, 50, 51, 10], [false, false, false, false, false, false, false, false, false, false, true, true, true, true, true, true, true], [])] 2 18 ?_
      refine dC [10] [true, true, true, true, true, true, true, true, true, true, true, true, true, true, true, true, true, true] [] [] ?_
      refine cd (plus_ok (plusD x1 e) x2) ?_
      refine dB [([42, 43, 44, 45, 46, 47, 48, 49, 50, 51, 52, 53, 54, 55, 56, 57, 58, 59, 60], [false, false, false, false, false, false, false, false, false, false, false, false, false, false, false, false, false, false, false], [])] 0 20 ?_
      refine dD ?_
      refine oN 1 ?_
      refine oK [0, 3, 6, 7, 8, 9, 10, 33, 34, 38, 39] ?_
      refine wD 21 [] [[], [], [1, 0], [0, 1, 2], [], [4], [4, 5, 2, 1, 0, 3], [3, 0, 1, 2, 5, 4, 6], [], [8], [8, 9, 6, 4, 5, 2, 1, 0, 3, 7], [], [], [12], [12, 13, 11], [11, 13, 12, 14], [], [16, 14, 12, 13, 11, 15], [15, 11, 13, 12, 14, 16, 17], [17, 16, 14, 12, 13, 11, 15, 18, 7, 3, 0, 1, 2, 5, 4, 6, 9, 8, 10], [], [10, 8, 9, 6, 4, 5, 2, 1, 0, 3, 7, 18, 15, 11, 13, 12, 14, 16, 17, 19, 20]] ?_
      refine dB [([62, 65, 66, 69, 70, 72, 73, 74, 75, 76, 77, 78, 79, 11], [], []), ([61, 65, 66, 69, 70, 72, 73, 74, 75, 76, 77, 78, 79, 11], [false], []), ([65, 66, 69, 70, 72, 73, 74, 75, 76, 77, 78, 79, 11], [true, true], []), ([65, 66, 69, 70, 72, 73, 74, 75, 76, 77, 78, 79, 11], [true, true, true], []), ([61, 62, 63, 64, 69, 70, 72, 73, 74, 75, 76, 77, 78, 79, 11], [false, false, false, false], []), ([61, 62, 63, 64, 69, 70, 72, 73, 74, 75, 76, 77, 78, 79, 11], [false, false, false, false, true], []), ([69, 70, 72, 73, 74, 75, 76, 77, 78, 79, 11], [true, true, true, true, true, true], []), ([69, 70, 72, 73, 74, 75, 76, 77, 78, 79, 11], [true, true, true, true, true, true, true], []), ([61, 62, 63, 64, 65, 66, 67, 68, 72, 73, 74, 75, 76, 77, 78, 79, 11], [false, false, false, false, false, false, false, false], [])] 12 9 ?_
      refine dC [61, 62, 63, 64, 65, 66, 67, 68, 72, 73, 74, 75, 76, 77, 78, 79, 11] [false, false, false, false, false, false, false, false, true] [] [] ?_
      refine cd (turned_ok e) ?_
      refine dC [72, 73, 74, 75, 76, 77, 78, 79, 11] [true, true, true, true, true, true, true, true, true, true] [] [] ?_
      refine cd (plus_ok x3 (turnD e)) ?_
      refine dB [([61, 62, 63, 64, 65, 66, 67, 68, 69, 70, 71, 73, 74, 77, 11], [false, false, false, false, false, false, false, false, false, false, false], []), ([61, 62, 63, 64, 65, 66, 67, 68, 69, 70, 71, 72, 77, 11], [false, false, false, false, false, false, false, false, false, false, false, false], []), ([61, 62, 63, 64, 65, 66, 67, 68, 69, 70, 71, 72, 77, 11], [false, false, false, false, false, false, false, false, false, false, false, false, true], []), ([61, 62, 63, 64, 65, 66, 67, 68, 69, 70, 71, 77, 11], [false, false, false, false, false, false, false, false, false, false, false, true, true, true], []), ([61, 62, 63, 64, 65, 66, 67, 68, 69, 70, 71, 77, 11], [false, false, false, false, false, false, false, false, false, false, false, true, true, true, true], []), ([61, 62, 63, 64, 65, 66, 67, 68, 69, 70, 71, 72, 73, 74, 75, 76, 11], [false, false, false, false, false, false, false, false, false, false, false, false, false, false, false, false], []), ([61, 62, 63, 64, 65, 66, 67, 68, 69, 70, 71, 11], [false, false, false, false, false, false, false, false, false, false, false, true, true, true, true, true, true], []), ([61, 62, 63, 64, 65, 66, 67, 68, 69, 70, 71, 11], [false, false, false, false, false, false, false, false, false, false, false, true, true, true, true, true, true, true], [])] 2 19 ?_
      refine dC [11] [true, true, true, true, true, true, true, true, true, true, true, true, true, true, true, true, true, true, true] [] [] ?_
      refine cd (plus_ok (plusD x3 (turnD e)) x4) ?_
      refine dB [([61, 62, 63, 64, 65, 66, 67, 68, 69, 70, 71, 72, 73, 74, 75, 76, 77, 78, 79, 80], [false, false, false, false, false, false, false, false, false, false, false, false, false, false, false, false, false, false, false, false], [])] 0 21 ?_
      refine dD ?_
      refine oN 1 ?_
      refine oK [0, 3, 6, 7, 8, 9, 10, 11, 33, 34, 38, 39] ?_
      refine wDe 16 [] [[], [], [1, 0], [0, 1, 2], [], [], [], [6, 5], [5, 6, 7], [], [9, 7, 6, 5, 8], [8, 5, 6, 7, 9, 10], [], [12, 10, 9, 7, 6, 5, 8, 11], [], [14, 11, 8, 5, 6, 7, 9, 10, 12, 13], [15, 14, 13, 12, 11, 10, 9, 8, 7, 6, 5, 4, 2, 1, 0, 3], [3, 0, 1, 2, 4, 5, 6, 7, 8, 9, 10, 11, 12, 13, 14, 15, 16]] ?_
      refine dB [([82, 85, 86, 87, 88, 89, 90, 91, 92, 93, 94, 95, 96], [], []), ([81, 85, 86, 87, 88, 89, 90, 91, 92, 93, 94, 95, 96], [false], []), ([85, 86, 87, 88, 89, 90, 91, 92, 93, 94, 95, 96], [true, true], []), ([85, 86, 87, 88, 89, 90, 91, 92, 93, 94, 95, 96], [true, true, true], []), ([81, 82, 83, 84, 86, 87, 88, 89, 90, 91, 92, 93, 94, 95, 96], [false, false, false, false], []), ([81, 82, 83, 84, 85, 87, 90, 93, 95], [false, false, false, false, false], []), ([81, 82, 83, 84, 85, 86, 90, 93, 95], [false, false, false, false, false, false], []), ([81, 82, 83, 84, 85, 90, 93, 95], [false, false, false, false, false, true, true], []), ([81, 82, 83, 84, 85, 90, 93, 95], [false, false, false, false, false, true, true, true], []), ([81, 82, 83, 84, 85, 86, 87, 88, 89, 93, 95], [false, false, false, false, false, false, false, false, false], []), ([81, 82, 83, 84, 85, 93, 95], [false, false, false, false, false, true, true, true, true, true], []), ([81, 82, 83, 84, 85, 93, 95], [false, false, false, false, false, true, true, true, true, true, true], []), ([81, 82, 83, 84, 85, 86, 87, 88, 89, 90, 91, 92, 95], [false, false, false, false, false, false, false, false, false, false, false, false], [])] 3 13 ?_
      refine dC [81, 82, 83, 84, 85, 95] [false, false, false, false, false, true, true, true, true, true, true, true, true] [] [] ?_
      refine cd (both_ok x0 (plusD (plusD x1 e) x2)) ?_
      refine dB [([81, 82, 83, 84, 85, 86, 87, 88, 89, 90, 91, 92, 93, 94], [false, false, false, false, false, false, false, false, false, false, false, false, false, false], [])] 1 15 ?_
      refine dC [81, 82, 83, 84, 85] [false, false, false, false, false, true, true, true, true, true, true, true, true, true, true] [] [] ?_
      refine cd (both_ok (bothD x0 (plusD (plusD x1 e) x2)) (plusD (plusD x3 (turnD e)) x4)) ?_
      refine dD ?_
      refine oN 2 ?_
      refine WOps.endK ?_
      refine hK6 _ ?_
      clear hK6 K6
      refine rEw ?_
      refine ⟨(k + 1, V.set i (V[i].set k (bothD (bothD x0 (plusD (plusD x1 e) x2)) (plusD (plusD x3 (turnD e)) x4)))), lf0, ?_, v0⟩
      ·
       first
       | exact ⟨by show i + 1 ≤ n; omega, kS2, (show k = n by omega) ▸ kW2 |>.row⟩
       | (have hVp : i < V.length := by omega
          have hf : withE t p q e i k = bothD (bothD x0 (plusD (plusD x1 e) x2)) (plusD (plusD x3 (turnD e)) x4) := by rw [withE, qx0, qx1, qx2, qx3, qx4]
          refine ⟨by show k + 1 ≤ n; omega, kS2.set (by rw [List.length_set]; exact hVi), ?_⟩
          have h9 := kW2.step kS2 hVp hkn
          rw [hf] at h9; exact h9)
     ·
      try simp at hc3
      replace F := F.add hc3
      refine W.exit ?_
      refine hK4 _ ?_
      clear hK5 K5 hK4 K4
      refine rEw ?_
      refine ⟨(i + 1, V), lf0, ?_, v0⟩
      ·
       first
       | exact ⟨by show i + 1 ≤ n; omega, kS2, (show k = n by omega) ▸ kW2 |>.row⟩
       | (have hVp : i < V.length := by omega
          have hf : withE t p q e i k = bothD (bothD x0 (plusD (plusD x1 e) x2)) (plusD (plusD x3 (turnD e)) x4) := by rw [withE, qx0, qx1, qx2, qx3, qx4]
          refine ⟨by show k + 1 ≤ n; omega, kS2.set (by rw [List.length_set]; exact hVi), ?_⟩
          have h9 := kW2.step kS2 hVp hkn
          rw [hf] at h9; exact h9)
   ·
    try simp at hc2
    replace F := F.add hc2
    refine W.exit ?_
    refine hK2 _ ?_
    clear hK3 K3 hK2 K2
    have hUl : U.length = n := kS.1
    have hUt : List.take n U = U := List.take_of_length_le (by omega)
    have hie : i = n := by omega
    replace F := F.add hUl |>.add hUt |>.add hie
    refine rK [4, 5] ?_
    refine W.ret ?_
    refine er true [248] [] ?_
    refine ⟨?_, rfl⟩
    have e9 : U = tabF n (withE t p q e) := (hie ▸ kW).all kS
    rw [qw, if_neg (by omega), ← e9]; rfl
end Go.Sim
