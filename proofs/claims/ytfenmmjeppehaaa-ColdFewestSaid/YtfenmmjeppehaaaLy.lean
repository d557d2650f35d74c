/- Sums, all scoops that may be, and whether a box stays cold with some. -/
import Derived.Test.YtfenmmjeppehaaaLq
import Derived.Test.YtfenmmjeppehaaaLs
import Derived.Test.YtfenmmjeppehaaaLx
namespace Go.Sim
open Go.Proofs
set_option maxRecDepth 100000
set_option linter.unusedSimpArgs false
set_option linter.unusedVariables false
attribute [-simp] List.map_set List.map_take List.map_drop
set_option maxHeartbeats 4000000 in
theorem Total_ok (l : List Int) (h6 : l.length ≤ 100) (h5 : ∀ x ∈ l, 0 ≤ x ∧ x ≤ 5) : ACalls Try.prog 47 [ints l] [] (fun r o => r = I (sumI l) ∧ o = []) := by
 have F := Fx.nil
 replace F := F.add h6
 refine ent Try.func47 Try.ntmps47 Try.results47 ?_
 refine rK [0] ?_
 refine rK [0, 3] ?_
 refine W.seqk fun K1 hK1 => ?_
 refine rK [0, 3, 4] ?_
 refine W.block ?_
 refine lp (α := Nat) [0] [7] [] (fun i => [(4, I i), (3, I (sumI (l.take i)))]) (fun i => []) (fun i => i ≤ l.length) (fun i => l.length - i) 0 ?_ ?_ v0 ?_
 ·
  try (simp [Fx.get F])
  all_goals (
   rfl
  )
 ·
  exact v1
 ·
  intro i hI0
  simp only [List.cons_append, List.nil_append]
  try dsimp only at hI0
  replace F := F.add hI0
  refine W.seqk fun K2 hK2 => ?_
  refine rK [0, 3, 4, 8] ?_
  refine it (fun hc1 => ?_) (fun hc1 => ?_)
  ·
   try simp at hc1
   replace F := F.add hc1
   refine W.skip ?_
   refine hK2 _ ?_
   clear hK2 K2
   refine W.seqk fun K3 hK3 => ?_
   refine W.block ?_
   have hil : i < l.length := by omega
   have qs1 := sumI_in (l := l.take i) fun x hx => h5 x (List.mem_of_mem_take hx)
   have qs2 := h5 _ (List.getElem_mem hil)
   have qtl : (l.take i).length ≤ 100 := by rw [List.length_take]; omega
   have qst := sumI_take hil
   replace F := F.add hil
   refine rEw ?_
   refine hK3 _ ?_
   clear hK3 K3
   refine rEw ?_
   refine ⟨i + 1, lf ?_ ?_, v0, v0⟩
   ·
    try (simp [Fx.get F])
    all_goals (
     first | exact ⟨by omega, by rw [qst]⟩ | (rw [qst]; done) | omega | skip
    )
   ·
    exact v1
  ·
   try simp at hc1
   replace F := F.add hc1
   refine W.exit ?_
   refine hK1 _ ?_
   clear hK2 K2 hK1 K1
   refine rK [2] ?_
   refine W.ret ?_
   refine er false [] [] ?_
   exact ⟨congrArg I (by rw [List.take_of_length_le (by omega)]), rfl⟩
def outK (begun : List Int) (r k : Nat) : List (List Int) := (List.range k).flatMap fun j : Nat => (allS r).map fun l => (begun ++ [(j : Int)]) ++ l
theorem outK_succ (begun : List Int) (r k : Nat) : outK begun r (k + 1) = outK begun r k ++ (allS r).map fun l => (begun ++ [(k : Int)]) ++ l := by
  rw [outK, List.range_succ, List.flatMap_append, outK]; simp
theorem outK_six (begun : List Int) (r : Nat) : outK begun r 6 = (allS (r + 1)).map fun l => begun ++ l := by
  rw [outK, allS, List.map_flatMap]
  congr 1; funext j
  rw [List.map_map]
  exact List.map_congr_left fun l _ => by simp
theorem allS_len : ∀ r : Nat, (allS r).length = 6 ^ r
  | 0 => rfl
  | r + 1 => by
    rw [allS, List.length_flatMap]
    simp only [List.length_map, allS_len r]
    rw [List.map_const', List.sum_replicate_nat, List.length_range, Nat.pow_succ, Nat.mul_comm]
theorem allS_le {r : Nat} (h : r ≤ 3) : (allS r).length ≤ 216 := by
  rw [allS_len]
  exact Nat.pow_le_pow_right (by omega) h
set_option maxHeartbeats 4000000 in
theorem all_zero (begun : List Int) (n : Nat) (hn : begun.length = n) : ACalls Try.prog 49 [ints begun, I n] [] (fun r o => r = tabs [begun] ∧ o = []) := by
 have F := Fx.nil
 replace F := F.add hn
 refine ent Try.func49 Try.ntmps49 Try.results49 ?_
 refine rK [0, 1] ?_
 refine W.seqk fun K1 hK1 => ?_
 refine rK [0, 1, 10] ?_
 refine cT ?_
 refine rK [4] ?_
 refine W.ret ?_
 refine tr ?_
 clear hK1 K1
 exact er0 false [96] []
set_option maxHeartbeats 4000000 in
theorem all_step (begun : List Int) (n r : Nat) (hn : begun.length + (r + 1) = n) (h3 : n ≤ 3) (ih : ∀ x : Int, ACalls Try.prog 49 [ints (begun ++ [x]), I n] [] (fun r' o => r' = tabs ((allS r).map fun l => (begun ++ [x]) ++ l) ∧ o = [])) : ACalls Try.prog 49 [ints begun, I n] [] (fun r' o => r' = tabs ((allS (r + 1)).map fun l => begun ++ l) ∧ o = []) := by
 have F := Fx.nil
 refine ent Try.func49 Try.ntmps49 Try.results49 ?_
 have hbl : begun.length ≤ 3 := by omega
 have hne : ¬ (begun.length : Int) = (n : Int) := by omega
 replace F := F.add hbl |>.add hne
 refine rK [0, 1] ?_
 refine W.seqk fun K1 hK1 => ?_
 refine rK [0, 1, 10] ?_
 refine cF ?_
 refine W.skip ?_
 refine hK1 _ ?_
 clear hK1 K1
 refine rK [0, 1, 5] ?_
 refine W.seqk fun K2 hK2 => ?_
 refine rK [0, 1, 5, 6] ?_
 refine W.block ?_
 refine sn 5 9000 29 1 ?_
 refine lpa (α := Nat × List (List Int)) [0, 1] [19, 21, 22, 24, 25] [9000] (fun x => [(6, I x.1), (5, .own 9000 0 x.2.length)]) (fun x => [(9000, .row true 29 1 (x.2.map ints))]) (fun x => x.1 ≤ 6 ∧ x.2.length ≤ 216 * x.1 ∧ x.2 = outK begun r x.1) (fun x => 6 - x.1) (0, []) ?_ ?_
 ·
  exact ⟨Nat.zero_le _, Nat.zero_le _, rfl⟩
 ·
  intro ⟨k, out⟩ hI0
  simp only [List.cons_append, List.nil_append]
  try dsimp only at hI0
  obtain ⟨hk, hol, qout⟩ := hI0
  replace F := F.add hk |>.add hol
  refine W.seqk fun K3 hK3 => ?_
  refine rK [0, 1, 5, 6, 14] ?_
  refine it (fun hc2 => ?_) (fun hc2 => ?_)
  ·
   try simp at hc2
   replace F := F.add hc2
   refine W.skip ?_
   refine hK3 _ ?_
   clear hK3 K3
   refine W.seqk fun K4 hK4 => ?_
   refine W.block ?_
   have hk6 : k < 6 := by omega
   have ihk := ih (k : Int)
   obtain ⟨Z, qZ⟩ : ∃ Z, Z = (allS r).map fun l => (begun ++ [(k : Int)]) ++ l := ⟨_, rfl⟩
   have hZl : Z.length ≤ 216 := by rw [qZ, List.length_map]; exact allS_le (by omega)
   rw [← qZ, show ints (begun ++ [(k : Int)]) = .imm (begun.map I ++ [I k]) from by simp] at ihk
   have htk : List.take (begun.length + 1) (begun.map I ++ [I (k : Int)]) = begun.map I ++ [I (k : Int)] := List.take_of_length_le (by simp)
   replace F := F.add hk6 |>.add hZl |>.add htk
   refine W.region ?_
   refine oN 2 ?_
   refine oC [] ?_
   refine ct (CopyInts_ok begun (by omega)) ?_
   refine oNw 4 ?_
   refine fz 152 ?_
   refine oC [] ?_
   refine ct (ihk) ?_
   refine oNw 2 ?_
   refine WOps.endK ?_
   refine hK4 _ ?_
   clear hK4 K4
   refine rEw ?_
   refine ⟨(k + 1, out ++ Z), lf0, ?_, v0⟩
   ·
    refine ⟨by show k + 1 ≤ 6; omega, by show (out ++ Z).length ≤ 216 * (k + 1); rw [List.length_append]; omega, ?_⟩
    show out ++ Z = outK begun r (k + 1)
    rw [outK_succ, qout, qZ]
  ·
   try simp at hc2
   replace F := F.add hc2
   refine W.exit ?_
   refine hK2 _ ?_
   clear hK3 K3 hK2 K2
   refine rK [4] ?_
   refine W.ret ?_
   refine er false [9000] [] ?_
   have e : k = 6 := by omega
   rw [qout, e, outK_six]
   exact ⟨rfl, rfl⟩
theorem all_ok (n : Nat) (h3 : n ≤ 3) : ∀ (r : Nat) (begun : List Int), begun.length + r = n → ACalls Try.prog 49 [ints begun, I n] [] (fun r' o => r' = tabs ((allS r).map fun l => begun ++ l) ∧ o = [])
  | 0, begun, hn => (all_zero begun n (by omega)).mono fun r o h => by simpa [allS] using h
  | r + 1, begun, hn => all_step begun n r hn h3 fun x => all_ok n h3 r (begun ++ [x]) (by simp; omega)
theorem all_all (n : Nat) (h3 : n ≤ 3) : ACalls Try.prog 49 [ints [], I n] [] (fun r' o => r' = tabs (allS n) ∧ o = []) := by
  have := all_ok n h3 n [] (by simp)
  simpa using this
theorem coldTo_snoc {c : Cel} {b k : Nat} {u : Int} (hk : (k : Int) < u) (h : ¬ coldV (iceS c b k) = 1) : coldTo c b u = false := by
  refine Bool.eq_false_iff.2 fun q => h ?_
  rw [coldTo, List.all_eq_true] at q
  have := q k (List.mem_range.2 (by omega))
  rw [coldV, verd_one]; exact this
set_option maxHeartbeats 4000000 in
theorem stays_ok (c : Cel) (hv : ValidC c) (b : Nat) (hb : b < c.boxes.length) (vs : List Int) (hvs : VisitsOk vs) (sc : List Int) (hvl : vs.length ≤ 3) (hsl : sc.length = vs.length) (hs : ∀ n ∈ sc, 0 ≤ n ∧ n ≤ 5) (g : Int) (hg : 0 ≤ g ∧ g ≤ 100000) (hf : c.fils.length ≤ 5) (u : Nat) (hu : u ≤ 240) : ACalls Try.prog 48 [celV c, I b, ints vs, ints sc, I g, I u] [] (fun r o => r = B (coldTo (scooped c b g vs sc) b u) ∧ o = []) := by
 have F := Fx.nil
 replace F := F.add hu
 refine ent Try.func48 Try.ntmps48 Try.results48 ?_
 obtain ⟨m, qm⟩ : ∃ m, scooped c b g vs sc = m := ⟨_, rfl⟩
 have hmm := qm
 have qmv : ValidC m := by rw [← qm]; exact scooped_valid hv hb hg hvs (fun n hn => (hs n hn).2) (by omega)
 have qmb : b < m.boxes.length := by rw [← qm]; exact hb
 replace F := F.add hmm
 refine rK [1, 2, 3, 4, 5, 6] ?_
 refine W.seqR ?_
 refine oN 5 ?_
 refine oC [] ?_
 refine ct (rScooped_ok c hv b vs sc (by omega) hsl hs g) ?_
 refine oN 2 ?_
 refine oK [1, 5, 13] ?_
 refine W.seqk fun K1 hK1 => ?_
 refine rK [1, 5, 13, 14] ?_
 refine W.block ?_
 refine lpa (α := Nat) [1, 5, 13] [32] [] (fun i => [(14, I i)]) (fun i => []) (fun i => i ≤ u ∧ ∀ k, k < i → 0 < iceLo m b k) (fun i => u - i) 0 v0 ?_
 ·
  intro i hI0
  simp only [List.cons_append, List.nil_append]
  try dsimp only at hI0
  obtain ⟨hi, hm1⟩ := hI0
  replace F := F.add hi
  refine W.seqk fun K2 hK2 => ?_
  refine rK [1, 5, 13, 14, 25] ?_
  refine it (fun hc1 => ?_) (fun hc1 => ?_)
  ·
   try simp at hc1
   replace F := F.add hc1
   refine W.skip ?_
   refine hK2 _ ?_
   clear hK2 K2
   refine W.seqk fun K3 hK3 => ?_
   refine W.block ?_
   have hiu : i < u := by omega
   obtain ⟨qe1, qe2⟩ : atE m (b : Int) (i : Int) = 0 ∧ atS m (b : Int) (i : Int) = iceS m b i := by
     have e : atE m (b : Int) (i : Int) = 0 := by rw [atE, if_neg (fun k => k (checkC_zero.2 qmv)), if_neg (by omega), if_neg (by omega)]
     exact ⟨e, by rw [atS, if_pos e, Int.toNat_natCast, Int.toNat_natCast]⟩
   have hx1 := qe1
   have hx2 := qe2
   obtain ⟨v, qv⟩ : ∃ v, coldV (iceS m b i) = v := ⟨_, rfl⟩
   have hv9 := qv
   replace F := F.add hiu |>.add hx1 |>.add hx2 |>.add hv9
   refine W.seqR ?_
   refine oN 3 ?_
   refine oC [] ?_
   refine ct (Cold_ok ⟨⟨_, _⟩, _, _, _⟩ _ _) ?_
   refine oN 5 ?_
   refine oK [1, 5, 13, 14, 15, 16] ?_
   refine W.seqR ?_
   refine oN 3 ?_
   refine gT ?_
   refine gT ?_
   refine oN 1 ?_
   refine oK [1, 5, 13, 14, 40] ?_
   refine it (fun hc2 => ?_) (fun hc2 => ?_)
   ·
    try simp at hc2
    replace F := F.add hc2
    refine rK [12] ?_
    refine W.ret ?_
    refine br (tr (tr (br (tr ?_))))
    clear hK3 K3 hK1 K1
    refine er false [] [] ?_
    first
    | exact ⟨congrArg B (by rw [qm]; exact (coldTo_yes (by omega) hm1).symm), rfl⟩
    | exact ⟨congrArg B (by rw [qm]; exact (coldTo_snoc (k := i) (by omega) (by rw [qv]; simp_all)).symm), rfl⟩
   ·
    try simp at hc2
    replace F := F.add hc2
    refine W.skip ?_
    refine hK3 _ ?_
    clear hK3 K3
    refine rEw ?_
    refine ⟨i + 1, lf0, ?_, v0⟩
    ·
     refine ⟨by omega, fun k hk => ?_⟩
     by_cases e : k = i
     · have : coldV (iceS m b i) = 1 := by rw [qv]; simp_all
       rw [coldV, verd_one, decide_eq_true_eq] at this
       rw [e]; exact this
     · exact hm1 k (by omega)
  ·
   try simp at hc1
   replace F := F.add hc1
   refine W.exit ?_
   refine hK1 _ ?_
   clear hK2 K2 hK1 K1
   refine rK [12] ?_
   refine W.ret ?_
   refine er false [] [] ?_
   first
   | exact ⟨congrArg B (by rw [qm]; exact (coldTo_yes (by omega) hm1).symm), rfl⟩
   | exact ⟨congrArg B (by rw [qm]; exact (coldTo_snoc (k := i) (by omega) (by rw [qv]; simp_all)).symm), rfl⟩
end Go.Sim
