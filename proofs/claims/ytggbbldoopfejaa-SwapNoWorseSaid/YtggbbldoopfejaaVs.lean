/- The reference's search for a ring that pleases. -/
import Derived.Test.YtggbbldoopfejaaVr
namespace Go.Sim
open Go.Proofs Go.Plain
set_option maxRecDepth 100000
set_option linter.unusedSimpArgs false
set_option linter.unusedVariables false
attribute [-simp] List.map_set List.map_take List.map_drop
attribute [local simp] take_map' drop_map' take_app1
/-- does a trader like what another one holds more, by the reference -/
def wantsR (ow : List Turn) (lk : List (List Turn)) (held : List Turn) (a b : Nat) : Bool := decide (rkR ow lk a (nth held b) < min (takesT ow lk a).length (rkR ow lk a (nth held a)))
set_option maxHeartbeats 4000000 in
theorem wants_ok (ow : List Turn) (lk : List (List Turn)) (held : List Turn) (hv : ValidT ow lk) (hh : held.length = ow.length) (a b : Nat) (ha : a < ow.length) (hb : b < ow.length) : ACalls Try.prog 69 [trade ow lk, turns held, I a, I b] [] (fun r o => r = B (wantsR ow lk held a b) ∧ o = []) := by
 have F := Fx.nil
 refine ent Try.func69 Try.ntmps69 Try.results69 ?_
 have qs : lk.length = ow.length := hv.same
 have qk : a < lk.length := by omega
 have q16 : lk[a].length ≤ 1000 := Nat.le_trans (hv.likes _ (List.getElem_mem qk)).2 (by omega)
 have hah : a < held.length := by omega
 have hbh : b < held.length := by omega
 replace F := F.add hah |>.add hbh
 refine rK [1, 2, 3, 4] ?_
 refine wD 18 [] [[], [], [], [], [3, 2], [2, 3, 4], [4, 3, 2, 5, 1, 0], [], [], [0, 1, 5, 2, 3, 4, 6, 8, 7], [7, 8, 6, 4, 3, 2, 5, 1, 0, 9], [], [], [], [], [14, 13], [13, 14, 15], [7, 8, 6, 4, 3, 2, 5, 1, 0, 9, 15, 14, 13, 16, 12, 11], [11, 12, 16, 13, 14, 15, 17, 9, 0, 1, 5, 2, 3, 4, 6, 8, 7, 10], [10, 7, 8, 9, 17, 15, 14, 13, 16, 12, 11, 18, 0, 1, 5, 2, 3, 4, 6], [6, 4, 3, 2, 5, 1, 0, 18, 11, 12, 16, 13, 14, 15, 17, 9, 8, 7, 10, 19]] ?_
 refine dN 6 12 ?_
 refine dC [] ?_
 refine cd (Rank_ok ow lk a held[b] ha qk q16) ?_
 refine dN 2 9 ?_
 refine dC [] ?_
 refine cd (Takes_imm ow lk a ha qk q16) ?_
 refine dN 7 1 ?_
 refine dC [] ?_
 refine cd (Rank_ok ow lk a held[a] ha qk q16) ?_
 refine dD ?_
 refine oN 3 ?_
 refine oK [8] ?_
 refine W.ret ?_
 refine er false [] [] ?_
 refine ⟨congrArg (fun b => AV.val (Value.bool b)) ?_, rfl⟩
 rw [wantsR, nth_get hah, nth_get hbh]
 refine decide_eq_decide.2 ?_
 split <;> omega
/-- is a list a ring that pleases, by the reference -/
def plzR (ow : List Turn) (lk : List (List Turn)) (held : List Turn) (l : List Nat) : Bool := (List.range' 0 (l.length - 0)).all (fun i => !decide (nth l i ∈ l.take i) && wantsR ow lk held (nth l i) (nth l ((i + 1) % l.length))) && decide (1 < l.length)
theorem all_range' {p : Nat → Bool} {i n : Nat} (h : i < n) : (List.range' i (n - i)).all p = (p i && (List.range' (i + 1) (n - (i + 1))).all p) := by rw [range'_next h, List.all_cons]
set_option maxHeartbeats 4000000 in
theorem Please_ok (ow : List Turn) (lk : List (List Turn)) (held : List Turn) (hv : ValidT ow lk) (hh : held.length = ow.length) (l : List Nat) (hl : ∀ y ∈ l, y < ow.length) (hl8 : l.length ≤ 8) : ACalls Try.prog 38 [trade ow lk, turns held, rgV l] [] (fun r o => r = B (plzR ow lk held l) ∧ o = []) := by
 have F := Fx.nil
 replace F := F.add hl8
 refine ent Try.func38 Try.ntmps38 Try.results38 ?_
 refine rK [1, 2, 3] ?_
 refine W.seqk fun K1 hK1 => ?_
 refine rK [1, 2, 3, 7] ?_
 refine W.block ?_
 refine lpa (α := Nat) [1, 2, 3] [10, 21, 33, 37] [] (fun i => [(7, I i)]) (fun i => []) (fun i => i ≤ l.length ∧ plzR ow lk held l = ((List.range' i (l.length - i)).all (fun i => !decide (nth l i ∈ l.take i) && wantsR ow lk held (nth l i) (nth l ((i + 1) % l.length))) && decide (1 < l.length))) (fun i => l.length - i) 0 ?_ ?_
 ·
  exact ⟨by omega, rfl⟩
 ·
  intro i hI0
  simp only [List.cons_append, List.nil_append]
  try dsimp only at hI0
  obtain ⟨hil, he⟩ := hI0
  replace F := F.add hil
  refine W.seqk fun K2 hK2 => ?_
  refine rK [1, 2, 3, 7, 11] ?_
  refine it (fun hc1 => ?_) (fun hc1 => ?_)
  ·
   try simp at hc1
   replace F := F.add hc1
   refine W.skip ?_
   refine hK2 _ ?_
   clear hK2 K2
   refine W.seqk fun K3 hK3 => ?_
   refine W.block ?_
   by_cases hin : l[i] ∈ l.take i
   ·
    replace F := F.add hin
    have hih : i < l.length := by omega
    obtain ⟨n, qn⟩ : ∃ n, n = (i + 1) % l.length := ⟨_, rfl⟩
    have hmod : Int.tmod ((i : Int) + 1) ((l.length : Nat) : Int) = (n : Int) := by rw [qn]; rfl
    have hm0 : ¬ l.length = 0 := by omega
    have hml : n < l.length := qn ▸ Nat.mod_lt _ (by omega)
    have hx1 : l[i] < ow.length := hl _ (List.getElem_mem hih)
    have hx2 : l[n] < ow.length := hl _ (List.getElem_mem hml)
    have qhe := he
    rw [all_range' hih, ← qn, nth_get hih, nth_get hml] at qhe
    replace F := F.add hih |>.add hmod |>.add hm0 |>.add hml |>.add hx1 |>.add hx2
    refine wD 23 [] [[], [], [1, 0], [], [], [4, 3], [3, 4, 5], [5, 4, 3, 6, 0, 1, 2], [2, 1, 0, 6, 3, 4, 5, 7], [7, 5, 4, 3, 6, 0, 1, 2, 8], [7, 5, 4, 3, 6, 0, 1, 2, 8], [7, 5, 4, 3, 6, 0, 1, 2, 8], [7, 5, 4, 3, 6, 0, 1, 2, 8], [12, 8, 2, 1, 0, 6, 3, 4, 5, 7, 11], [11, 7, 5, 4, 3, 6, 0, 1, 2, 8, 12, 13], [7, 5, 4, 3, 6, 0, 1, 2, 8], [7, 5, 4, 3, 6, 0, 1, 2, 8], [8, 2, 1, 0, 6, 3, 4, 5, 7, 16], [7, 5, 4, 3, 6, 0, 1, 2, 8], [8, 2, 1, 0, 6, 3, 4, 5, 7, 18], [18, 19, 16, 7, 5, 4, 3, 6, 0, 1, 2, 8, 17], [17, 16, 19, 18, 20, 8, 2, 1, 0, 6, 3, 4, 5, 7, 15], [15, 7, 5, 4, 3, 6, 0, 1, 2, 8, 20, 18, 19, 16, 17, 21], [21, 17, 16, 19, 18, 20, 15, 22, 13, 12, 11, 14, 10, 8, 2, 1, 0, 6, 3, 4, 5, 7, 9], [9, 7, 5, 4, 3, 6, 0, 1, 2, 8, 10, 14, 11, 12, 13, 22, 15, 20, 18, 19, 16, 17, 21, 23], [23, 21, 17, 16, 19, 18, 20, 15, 22, 13, 12, 11, 14, 10, 9, 24, 7, 5, 4, 3, 6, 0, 1, 2, 8]] ?_
    refine dN 7 16 ?_
    refine dC [] ?_
    refine cd (has_ok (l.take i) l[i]) ?_
    refine dN 1 14 ?_
    refine dF ?_
    refine dF ?_
    refine dF ?_
    refine dF ?_
    refine dF ?_
    refine dF ?_
    refine dF ?_
    refine dF ?_
    refine dF ?_
    refine dF ?_
    refine dF ?_
    refine dF ?_
    refine dF ?_
    refine dF ?_
    refine dD ?_
    refine gF ?_
    refine gF ?_
    refine oN 1 ?_
    refine oK [1, 2, 3, 7, 39] ?_
    refine cT ?_
    refine rK [6] ?_
    refine W.ret ?_
    refine br (tr (tr (br (tr ?_))))
    clear hK3 K3 hK1 K1
    exact er0 false [] []
   ·
    replace F := F.add hin
    have hih : i < l.length := by omega
    obtain ⟨n, qn⟩ : ∃ n, n = (i + 1) % l.length := ⟨_, rfl⟩
    have hmod : Int.tmod ((i : Int) + 1) ((l.length : Nat) : Int) = (n : Int) := by rw [qn]; rfl
    have hm0 : ¬ l.length = 0 := by omega
    have hml : n < l.length := qn ▸ Nat.mod_lt _ (by omega)
    have hx1 : l[i] < ow.length := hl _ (List.getElem_mem hih)
    have hx2 : l[n] < ow.length := hl _ (List.getElem_mem hml)
    have qhe := he
    rw [all_range' hih, ← qn, nth_get hih, nth_get hml] at qhe
    replace F := F.add hih |>.add hmod |>.add hm0 |>.add hml |>.add hx1 |>.add hx2
    refine wD 23 [] [[], [], [1, 0], [], [], [4, 3], [3, 4, 5], [5, 4, 3, 6, 0, 1, 2], [2, 1, 0, 6, 3, 4, 5, 7], [7, 5, 4, 3, 6, 0, 1, 2, 8], [7, 5, 4, 3, 6, 0, 1, 2, 8], [7, 5, 4, 3, 6, 0, 1, 2, 8], [7, 5, 4, 3, 6, 0, 1, 2, 8], [12, 8, 2, 1, 0, 6, 3, 4, 5, 7, 11], [11, 7, 5, 4, 3, 6, 0, 1, 2, 8, 12, 13], [7, 5, 4, 3, 6, 0, 1, 2, 8], [7, 5, 4, 3, 6, 0, 1, 2, 8], [8, 2, 1, 0, 6, 3, 4, 5, 7, 16], [7, 5, 4, 3, 6, 0, 1, 2, 8], [8, 2, 1, 0, 6, 3, 4, 5, 7, 18], [18, 19, 16, 7, 5, 4, 3, 6, 0, 1, 2, 8, 17], [17, 16, 19, 18, 20, 8, 2, 1, 0, 6, 3, 4, 5, 7, 15], [15, 7, 5, 4, 3, 6, 0, 1, 2, 8, 20, 18, 19, 16, 17, 21], [21, 17, 16, 19, 18, 20, 15, 22, 13, 12, 11, 14, 10, 8, 2, 1, 0, 6, 3, 4, 5, 7, 9], [9, 7, 5, 4, 3, 6, 0, 1, 2, 8, 10, 14, 11, 12, 13, 22, 15, 20, 18, 19, 16, 17, 21, 23], [23, 21, 17, 16, 19, 18, 20, 15, 22, 13, 12, 11, 14, 10, 9, 24, 7, 5, 4, 3, 6, 0, 1, 2, 8]] ?_
    refine dN 7 16 ?_
    refine dC [] ?_
    refine cd (has_ok (l.take i) l[i]) ?_
    refine dN 1 14 ?_
    refine dT ?_
    refine dT ?_
    refine dT ?_
    refine dT ?_
    refine dT ?_
    refine dT ?_
    refine dT ?_
    refine dT ?_
    refine dTw ?_
    refine dT ?_
    refine dT ?_
    refine dT ?_
    refine dT ?_
    refine dT ?_
    refine dD ?_
    refine gC [] ?_
    refine ct (wants_ok ow lk held hv hh l[i] l[n] (by omega) (by omega)) ?_
    refine gT ?_
    refine oN 1 ?_
    refine oK [1, 2, 3, 7, 39] ?_
    refine it (fun hc3 => ?_) (fun hc3 => ?_)
    ·
     try simp at hc3
     replace F := F.add hc3
     refine rK [6] ?_
     refine W.ret ?_
     refine br (tr (tr (br (tr ?_))))
     clear hK3 K3 hK1 K1
     exact er0 false [] []
    ·
     try simp at hc3
     replace F := F.add hc3
     refine W.skip ?_
     refine hK3 _ ?_
     clear hK3 K3
     refine rEw ?_
     refine ⟨i + 1, lf0, v0, v0⟩
  ·
   try simp at hc1
   replace F := F.add hc1
   refine W.exit ?_
   refine hK1 _ ?_
   clear hK2 K2 hK1 K1
   refine rK [6] ?_
   refine W.ret ?_
   exact er0 false [] []
/-- the reference's search for a ring -/
def rple (P : List Nat → Bool) (n many : Nat) : Nat → List Nat → List Nat
  | 0, _ => []
  | f + 1, l => if l.length = many then (if P l then l else []) else firstNE (fun i => if l ≠ [] ∧ (i ≤ nth l 0 ∨ i ∈ l) then [] else rple P n many f (l ++ [i])) (List.range' 0 (n - 0))
set_option maxHeartbeats 4000000 in
theorem rple_step (ow : List Turn) (lk : List (List Turn)) (held : List Turn) (hv : ValidT ow lk) (hh : held.length = ow.length) (many : Nat) (hmany : many ≤ ow.length) (f : Nat) (l : List Nat) (hl : ∀ y ∈ l, y < ow.length) (hlen : l.length ≤ many) (ih : ∀ i : Nat, l.length + 1 ≤ many → i < ow.length → ACalls Try.prog 65 [trade ow lk, turns held, rgV (l ++ [i]), I many] [] (fun r o => r = rgV (rple (plzR ow lk held) ow.length many f (l ++ [i])) ∧ o = [])) : ACalls Try.prog 65 [trade ow lk, turns held, rgV l, I many] [] (fun r o => r = rgV (rple (plzR ow lk held) ow.length many (f + 1) l) ∧ o = []) := by
 have F := Fx.nil
 replace F := F.add hlen
 refine ent Try.func65 Try.ntmps65 Try.results65 ?_
 have hn8 : ow.length ≤ 8 := hv.most
 replace F := F.add hn8
 refine rK [1, 2, 3, 4] ?_
 refine W.seqk fun K1 hK1 => ?_
 refine rK [1, 2, 3, 4, 14] ?_
 refine it (fun hc1 => ?_) (fun hc1 => ?_)
 ·
  try simp at hc1
  replace F := F.add hc1
  refine W.seqk fun K2 hK2 => ?_
  refine W.seqR ?_
  refine oN 3 ?_
  refine oC [] ?_
  refine ct (Please_ok ow lk held hv hh l hl (by omega)) ?_
  refine oK [2, 18] ?_
  refine it (fun hc2 => ?_) (fun hc2 => ?_)
  ·
   try simp at hc2
   replace F := F.add hc2
   refine rK [8] ?_
   refine W.ret ?_
   refine tr (tr ?_)
   clear hK2 K2 hK1 K1
   refine er true [] [] ?_
   exact ⟨congrArg rgV (by rw [rple, if_pos (by omega), if_pos hc2]), rfl⟩
  ·
   try simp at hc2
   replace F := F.add hc2
   refine W.skip ?_
   refine hK2 _ ?_
   clear hK2 K2
   refine rK [8] ?_
   refine W.ret ?_
   refine tr ?_
   clear hK1 K1
   refine er true [] [] ?_
   exact ⟨by rw [rple, if_pos (by omega), if_neg (by simp [hc2])]; rfl, rfl⟩
 ·
  try simp at hc1
  replace F := F.add hc1
  refine W.skip ?_
  refine hK1 _ ?_
  clear hK1 K1
  refine W.seqk fun K3 hK3 => ?_
  refine rK [1, 2, 3, 4, 9] ?_
  refine W.block ?_
  refine lpa (α := Nat) [1, 2, 3, 4] [22, 27, 38, 43, 45, 47, 48, 50, 52] [] (fun i => [(9, I i)]) (fun i => []) (fun i => i ≤ ow.length ∧ rple (plzR ow lk held) ow.length many (f + 1) l = firstNE (fun i => if l ≠ [] ∧ (i ≤ nth l 0 ∨ i ∈ l) then [] else rple (plzR ow lk held) ow.length many f (l ++ [i])) (List.range' i (ow.length - i))) (fun i => ow.length - i) 0 ?_ ?_
  ·
   exact ⟨by omega, by rw [rple, if_neg (by omega)]⟩
  ·
   intro i hI0
   simp only [List.cons_append, List.nil_append]
   try dsimp only at hI0
   obtain ⟨hil, he⟩ := hI0
   replace F := F.add hil
   refine W.seqk fun K4 hK4 => ?_
   refine rK [1, 2, 3, 4, 9, 23] ?_
   refine it (fun hc3 => ?_) (fun hc3 => ?_)
   ·
    try simp at hc3
    replace F := F.add hc3
    refine W.skip ?_
    refine hK4 _ ?_
    clear hK4 K4
    refine W.seqk fun K5 hK5 => ?_
    refine W.block ?_
    refine W.seqk fun K6 hK6 => ?_
    by_cases h0 : 0 < l.length
    ·
     replace F := F.add h0
     by_cases hle : i ≤ l[0]
     ·
      replace F := F.add hle
      have hih : i < ow.length := by omega
      replace F := F.add hih
      refine W.seqR ?_
      refine oN 4 ?_
      refine gT ?_
      refine gT ?_
      refine gT ?_
      refine gT ?_
      refine gT ?_
      refine gT ?_
      refine gF ?_
      refine gF ?_
      refine gF ?_
      refine gT ?_
      refine oN 1 ?_
      refine oK [1, 2, 3, 4, 9, 40] ?_
      refine cT ?_
      refine W.exit ?_
      refine hK5 _ ?_
      clear hK6 K6 hK5 K5
      refine rEw ?_
      refine ⟨i + 1, lf0, ?_, v0⟩
      ·
       exact ⟨by omega, by rw [he, firstNE_skip hih (if_pos ⟨List.length_pos_iff.1 h0, .inl (by rw [nth_get h0]; exact hle)⟩)]⟩
     ·
      replace F := F.add hle
      by_cases hin : i ∈ l
      ·
       replace F := F.add hin
       have hih : i < ow.length := by omega
       replace F := F.add hih
       refine W.seqR ?_
       refine oN 4 ?_
       refine gT ?_
       refine gT ?_
       refine gT ?_
       refine gT ?_
       refine gT ?_
       refine gT ?_
       refine gT ?_
       refine gT ?_
       refine gC [] ?_
       refine ct (has_ok l i) ?_
       refine gT ?_
       refine oN 1 ?_
       refine oK [1, 2, 3, 4, 9, 40] ?_
       refine cT ?_
       refine W.exit ?_
       refine hK5 _ ?_
       clear hK6 K6 hK5 K5
       refine rEw ?_
       refine ⟨i + 1, lf0, ?_, v0⟩
       ·
        exact ⟨by omega, by rw [he, firstNE_skip hih (if_pos ⟨List.length_pos_iff.1 h0, .inr hin⟩)]⟩
      ·
       replace F := F.add hin
       have hih : i < ow.length := by omega
       replace F := F.add hih
       refine W.seqR ?_
       refine oN 4 ?_
       refine gT ?_
       refine gT ?_
       refine gT ?_
       refine gT ?_
       refine gT ?_
       refine gT ?_
       refine gT ?_
       refine gT ?_
       refine gC [] ?_
       refine ct (has_ok l i) ?_
       refine gT ?_
       refine oN 1 ?_
       refine oK [1, 2, 3, 4, 9, 40] ?_
       refine cF ?_
       refine W.skip ?_
       refine hK6 _ ?_
       clear hK6 K6
       have ih1 := ih i (by omega) hih
       rw [rgV_snoc] at ih1
       have hgi : (if l ≠ [] ∧ (i ≤ nth l 0 ∨ i ∈ l) then [] else rple (plzR ow lk held) ow.length many f (l ++ [i])) = rple (plzR ow lk held) ow.length many f (l ++ [i]) := if_neg (by
         rintro ⟨a, b⟩
         first
         | exact h0 (List.length_pos_iff.2 a)
         | (rcases b with b | b
            · rw [nth_get h0] at b; exact hle b
            · exact hin b))
       replace F := F.add hgi
       refine wD 9 [(4, [344]), (7, [360])] [[], [], [], [], [3, 2], [], [5], [5, 6, 2, 3, 4], [], [8, 4, 3, 2, 6, 5, 7, 1, 0], [0, 1, 7, 5, 6, 2, 3, 4, 8, 9]] ?_
       refine dN 4 5 ?_
       refine dAw [344] ?_
       refine dN 2 2 ?_
       refine dAw [360] ?_
       refine dN 1 0 ?_
       refine dD ?_
       refine fz 384 ?_
       refine oC [] ?_
       refine ct (ih1) ?_
       refine oN 1 ?_
       refine oK [1, 2, 3, 4, 9, 10] ?_
       refine rK [1, 2, 3, 4, 9, 10, 53] ?_
       refine it (fun hc7 => ?_) (fun hc7 => ?_)
       ·
        try simp at hc7
        replace F := F.add hc7
        refine rK [8] ?_
        refine W.ret ?_
        refine br (tr (tr (br (tr ?_))))
        clear hK5 K5 hK3 K3
        refine er true [] [] ?_
        exact ⟨congrArg rgV (by rw [he, firstNE_hit hih (by rw [hgi]; intro e; simp_all), hgi]), rfl⟩
       ·
        try simp at hc7
        replace F := F.add hc7
        refine W.skip ?_
        refine hK5 _ ?_
        clear hK5 K5
        refine rEw ?_
        refine ⟨i + 1, lf0, ?_, v0⟩
        ·
         exact ⟨by omega, by rw [he, firstNE_skip hih (by rw [hgi]; assumption)]⟩
    ·
     replace F := F.add h0
     have hih : i < ow.length := by omega
     replace F := F.add hih
     refine W.seqR ?_
     refine oN 4 ?_
     refine gF ?_
     refine gF ?_
     refine gF ?_
     refine gF ?_
     refine gF ?_
     refine gF ?_
     refine gF ?_
     refine gF ?_
     refine gF ?_
     refine gF ?_
     refine oN 1 ?_
     refine oK [1, 2, 3, 4, 9, 40] ?_
     refine cF ?_
     refine W.skip ?_
     refine hK6 _ ?_
     clear hK6 K6
     have ih1 := ih i (by omega) hih
     rw [rgV_snoc] at ih1
     have hgi : (if l ≠ [] ∧ (i ≤ nth l 0 ∨ i ∈ l) then [] else rple (plzR ow lk held) ow.length many f (l ++ [i])) = rple (plzR ow lk held) ow.length many f (l ++ [i]) := if_neg (by
       rintro ⟨a, b⟩
       first
       | exact h0 (List.length_pos_iff.2 a)
       | (rcases b with b | b
          · rw [nth_get h0] at b; exact hle b
          · exact hin b))
     replace F := F.add hgi
     refine wD 9 [(4, [344]), (7, [360])] [[], [], [], [], [3, 2], [], [5], [5, 6, 2, 3, 4], [], [8, 4, 3, 2, 6, 5, 7, 1, 0], [0, 1, 7, 5, 6, 2, 3, 4, 8, 9]] ?_
     refine dN 4 5 ?_
     refine dAw [344] ?_
     refine dN 2 2 ?_
     refine dAw [360] ?_
     refine dN 1 0 ?_
     refine dD ?_
     refine fz 384 ?_
     refine oC [] ?_
     refine ct (ih1) ?_
     refine oN 1 ?_
     refine oK [1, 2, 3, 4, 9, 10] ?_
     refine rK [1, 2, 3, 4, 9, 10, 53] ?_
     refine it (fun hc9 => ?_) (fun hc9 => ?_)
     ·
      try simp at hc9
      replace F := F.add hc9
      refine rK [8] ?_
      refine W.ret ?_
      refine br (tr (tr (br (tr ?_))))
      clear hK5 K5 hK3 K3
      refine er true [] [] ?_
      exact ⟨congrArg rgV (by rw [he, firstNE_hit hih (by rw [hgi]; intro e; simp_all), hgi]), rfl⟩
     ·
      try simp at hc9
      replace F := F.add hc9
      refine W.skip ?_
      refine hK5 _ ?_
      clear hK5 K5
      refine rEw ?_
      refine ⟨i + 1, lf0, ?_, v0⟩
      ·
       exact ⟨by omega, by rw [he, firstNE_skip hih (by rw [hgi]; assumption)]⟩
   ·
    try simp at hc3
    replace F := F.add hc3
    refine W.exit ?_
    refine hK3 _ ?_
    clear hK4 K4 hK3 K3
    refine rK [8] ?_
    refine W.ret ?_
    refine er true [] [] ?_
    exact ⟨by rw [he, firstNE_done (by omega)]; rfl, rfl⟩
theorem rple_ok (ow : List Turn) (lk : List (List Turn)) (held : List Turn) (hv : ValidT ow lk) (hh : held.length = ow.length) (many : Nat) (hmany : many ≤ ow.length) : ∀ (f : Nat) (l : List Nat), (∀ y ∈ l, y < ow.length) → l.length ≤ many → many < f + l.length →
    ACalls Try.prog 65 [trade ow lk, turns held, rgV l, I many] [] (fun r o => r = rgV (rple (plzR ow lk held) ow.length many f l) ∧ o = [])
  | 0, l, _, h1, h2 => by omega
  | f + 1, l, hl, h1, h2 => rple_step ow lk held hv hh many hmany f l hl h1 fun i h hi => rple_ok ow lk held hv hh many hmany f (l ++ [i]) (fun y hy => by rcases List.mem_append.1 hy with h | h; exact hl y h; obtain rfl := List.mem_singleton.1 h; exact hi) (by simpa using h) (by simp; omega)
set_option maxHeartbeats 4000000 in
theorem rPleases_step (ow : List Turn) (lk : List (List Turn)) (held : List Turn) (hpl : ValidT ow lk → held.length = ow.length → ∀ many, 2 ≤ many → many ≤ ow.length → rple (plzR ow lk held) ow.length many (many + 1) [] = pleaseM (more ow lk held) ow.length many) : ACalls Try.prog 31 [trade ow lk, turns held] [] (fun r o => r = .tup [rgV (pleaseT ow lk held), I (heldT ow lk held)] ∧ o = []) := by
 have F := Fx.nil
 refine ent Try.func31 Try.ntmps31 Try.results31 ?_
 refine rK [1, 2] ?_
 refine W.seqk fun K1 hK1 => ?_
 refine W.seqR ?_
 refine oN 2 ?_
 refine oC [] ?_
 refine ct (rCheckHeld_ok _ _ _) ?_
 refine oN 1 ?_
 refine oK [1, 2, 6] ?_
 refine rK [1, 2, 6, 13] ?_
 refine it (fun hc1 => ?_) (fun hc1 => ?_)
 ·
  try simp at hc1
  replace F := F.add hc1
  refine rK [4, 5] ?_
  refine W.ret ?_
  refine tr ?_
  clear hK1 K1
  refine er true [] [] ?_
  exact ⟨by rw [pleaseT, if_neg hc1]; rfl, rfl⟩
 ·
  try simp at hc1
  replace F := F.add hc1
  obtain ⟨hv, hh⟩ := heldT_valid (by simpa using hc1)
  have hn8 : ow.length ≤ 8 := hv.most
  have hz : heldT ow lk held = 0 := by simpa using hc1
  replace F := F.add hn8 |>.add hz
  refine W.skip ?_
  refine hK1 _ ?_
  clear hK1 K1
  refine W.seqk fun K2 hK2 => ?_
  refine rK [1, 2, 7] ?_
  refine W.block ?_
  refine lpa (α := Nat) [1, 2] [17, 24, 26] [] (fun many => [(7, I many)]) (fun many => []) (fun many => 2 ≤ many ∧ pleaseL (more ow lk held) ow.length = firstNE (fun many => pleaseM (more ow lk held) ow.length many) (List.range' many (ow.length + 1 - many))) (fun many => ow.length + 1 - many) 2 ?_ ?_
  ·
   exact ⟨by omega, rfl⟩
  ·
   intro many hI0
   simp only [List.cons_append, List.nil_append]
   try dsimp only at hI0
   obtain ⟨hm2, he⟩ := hI0
   replace F := F.add hm2
   refine W.seqk fun K3 hK3 => ?_
   refine rK [1, 2, 7, 18] ?_
   refine it (fun hc2 => ?_) (fun hc2 => ?_)
   ·
    try simp at hc2
    replace F := F.add hc2
    refine W.skip ?_
    refine hK3 _ ?_
    clear hK3 K3
    refine W.seqk fun K4 hK4 => ?_
    refine W.block ?_
    have hmn : many ≤ ow.length := by omega
    have qpl := hpl hv hh many hm2 hmn
    replace F := F.add hmn
    refine W.seqR ?_
    refine oN 3 ?_
    refine oC [] ?_
    refine ct (rple_ok ow lk held hv hh many (by omega) (many + 1) [] (by simp) (by simp) (by simp)) ?_
    refine oN 1 ?_
    refine oK [1, 2, 7, 8] ?_
    refine rK [1, 2, 7, 8, 27] ?_
    refine it (fun hc3 => ?_) (fun hc3 => ?_)
    ·
     try simp at hc3
     replace F := F.add hc3
     refine rK [4, 5] ?_
     refine W.ret ?_
     refine br (tr (tr (br (tr ?_))))
     clear hK4 K4 hK2 K2
     refine er true [] [] ?_
     exact ⟨by rw [pleaseT, if_pos hz, he, firstNE_hit (by omega) (by rw [← qpl]; exact List.length_pos_iff.1 hc3), ← qpl, hz], rfl⟩
    ·
     try simp at hc3
     replace F := F.add hc3
     refine W.skip ?_
     refine hK4 _ ?_
     clear hK4 K4
     refine rEw ?_
     refine ⟨many + 1, lf0, ?_, v0⟩
     ·
      exact ⟨by omega, by rw [he, firstNE_skip (by omega) (by rw [← qpl]; exact hc3)]⟩
   ·
    try simp at hc2
    replace F := F.add hc2
    refine W.exit ?_
    refine hK2 _ ?_
    clear hK3 K3 hK2 K2
    refine rK [4, 5] ?_
    refine W.ret ?_
    refine er true [] [] ?_
    exact ⟨by rw [pleaseT, if_pos hz, he, firstNE_done (by omega), hz]; rfl, rfl⟩
end Go.Sim
