/- Visits made of numbers. -/
import Derived.Test.YtfenmmjeppehaaaLk
import Derived.Test.YtfenmmjeppehaaaQh
import Derived.Test.YtfenmmjeppehaaaLo
import Derived.Test.YtfenmmjeppehaaaLh
namespace Go.Sim
open Go.Proofs
set_option maxRecDepth 100000
set_option linter.unusedSimpArgs false
set_option linter.unusedVariables false
attribute [-simp] List.map_set List.map_take List.map_drop
structure MadeV (l : List Int) (p : Nat) : Prop where
  pos : 0 < l.length
  len : l.length ≤ p
  ok : VisitsOk l
theorem visits_snoc {l : List Int} {h : Int} (k : VisitsOk l) (hl : ∀ v ∈ l, v < h) (h0 : 0 ≤ h ∧ h ≤ 239) : VisitsOk (l ++ [h]) := by
  refine ⟨fun v hv => ?_, ?_⟩
  · rcases List.mem_append.1 hv with q | q
    · exact k.1 v q
    · obtain rfl := List.mem_singleton.1 q; exact h0
  · rw [List.pairwise_append]
    exact ⟨k.2, List.pairwise_singleton _ _, fun a ha b hb => by obtain rfl := List.mem_singleton.1 hb; exact hl a ha⟩
set_option maxHeartbeats 4000000 in
theorem visitsOf_ok (f : Int) (p : Nat) (h1 : 1 ≤ p) (hp : p ≤ 40) : ACalls Try.prog 18 [.ptr 10000 0 0, I p] [(10000, die f)] (fun r o => ∃ z : List Int × Int, r = ints z.1 ∧ o = [(10000, die z.2)] ∧ MadeV z.1 p) := by
 have F := Fx.nil
 replace F := F.add h1 |>.add hp
 refine ent Try.func18 Try.ntmps18 Try.results18 ?_
 refine rK [0, 1] ?_
 refine rK [0, 1, 5] ?_
 refine W.seqR ?_
 refine oN 1 ?_
 refine oC [(10000, 10000)] ?_
 refine CallT.mkE (Cast_E f 4 (by omega) (by omega)) (fun z9 hz9 => ⟨(by simp [h1, hp]), ?_⟩)
 refine WOps.norm (by simp [h1, hp]; rfl) ?_
 refine oN 1 ?_
 refine oK [0, 1, 5, 6] ?_
 refine W.seqk fun K1 hK1 => ?_
 refine W.seqR ?_
 refine oN 2 ?_
 refine oC [(10000, 10000)] ?_
 refine CallT.mkE (From_E z9.2 1 p (by omega) (by omega) (by omega)) (fun z12 hz12 => ⟨(by simp [h1, hp]), ?_⟩)
 obtain ⟨m, qm⟩ : ∃ m : Nat, z12.1 = (m : Int) := ⟨z12.1.toNat, by omega⟩
 have hmq := qm
 have hmp : 1 ≤ m ∧ m ≤ p := by omega
 replace F := F.add hmq |>.add hmp
 refine WOps.norm (by simp [h1, hp, hmq, hmp]; rfl) ?_
 refine oN 1 ?_
 refine oK [0, 5, 6, 7] ?_
 refine W.block ?_
 refine sn 5 9000 3 1 ?_
 refine lpa (α := List Int × Int × Int × Nat) [0] [19, 20, 23] [9000, 10000] (fun x => [(5, .own 9000 0 x.1.length), (6, I x.2.1), (7, I x.2.2.2)]) (fun x => [(9000, .row true 3 1 (x.1.map I)), (10000, die x.2.2.1)]) (fun x => (VisitsOk x.1 ∧ ∀ v ∈ x.1, v < x.2.1) ∧ (0 ≤ x.2.1 ∧ x.2.1 + 5 * (x.2.2.2 : Int) ≤ 3 + 5 * (m : Int)) ∧ x.1.length + x.2.2.2 = m) (fun x => x.2.2.2) ([], z9.1, z12.2, m) ?_ ?_
 ·
  exact ⟨⟨⟨fun v hv => (by cases hv), List.Pairwise.nil⟩, fun v hv => (by cases hv)⟩, ⟨by show 0 ≤ z9.1; omega, by show z9.1 + 5 * (m : Int) ≤ 3 + 5 * m; omega⟩, by show 0 + m = m; omega⟩
 ·
  intro ⟨l, hr, g, i⟩ hI0
  simp only [List.cons_append, List.nil_append]
  try dsimp only at hI0
  obtain ⟨kvs, hhr, hsl⟩ := hI0
  replace F := F.add hhr |>.add hsl
  refine W.seqk fun K2 hK2 => ?_
  refine rK [0, 5, 6, 7, 14] ?_
  refine it (fun hc1 => ?_) (fun hc1 => ?_)
  ·
   try simp at hc1
   replace F := F.add hc1
   refine W.skip ?_
   refine hK2 _ ?_
   clear hK2 K2
   refine W.seqk fun K3 hK3 => ?_
   refine W.block ?_
   have him : ((i : Nat) : Int) - 1 = ((i - 1 : Nat) : Int) := by omega
   have hi0 : 0 < i := by omega
   replace F := F.add him |>.add hi0
   refine rKw [0, 5, 6, 7] ?_
   refine W.region ?_
   refine oN 2 ?_
   refine oC [(10000, 10000)] ?_
   refine CallT.mkE (From_E g 1 5 (by omega) (by omega) (by omega)) (fun z23 hz23 => ⟨(by simp [h1, hp, hmq, hmp, hhr, hsl, hc1, him, hi0]), ?_⟩)
   refine WOps.norm (by simp [h1, hp, hmq, hmp, hhr, hsl, hc1, him, hi0]; rfl) ?_
   refine oNw 2 ?_
   refine WOps.endK ?_
   refine hK3 _ ?_
   clear hK3 K3
   refine rEw ?_
   refine ⟨(l ++ [hr], hr + z23.1, z23.2, i - 1), lf0, ?_, ?_⟩
   ·
    refine ⟨⟨visits_snoc kvs.1 kvs.2 (by omega), fun v hv => ?_⟩, ?_, by show (l ++ [hr]).length + (i - 1) = m; rw [len_snoc]; omega⟩
    · show v < hr + z23.1
      rcases List.mem_append.1 hv with q | q
      · have := kvs.2 v q; omega
      · obtain rfl := List.mem_singleton.1 q; omega
    · show 0 ≤ hr + z23.1 ∧ hr + z23.1 + 5 * ((i - 1 : Nat) : Int) ≤ 3 + 5 * (m : Int)
      omega
   ·
    show i - 1 < i
    omega
  ·
   try simp at hc1
   replace F := F.add hc1
   refine W.exit ?_
   refine hK1 _ ?_
   clear hK2 K2 hK1 K1
   refine rK [4] ?_
   refine W.ret ?_
   refine er false [9000] [(10000, 10000)] ?_
   exact ⟨(l, g), rfl, rfl, ⟨by show 0 < l.length; omega, by show l.length ≤ p; omega, kvs.1⟩⟩
/-- more than the statements go through -/
def wideB (c : Cel) (ls : List CLot) : Bool := (ls.take 40).any (fun l => decide (15 < l.stays.length)) || (decide (15 < c.boxes.length) || (decide (40 < c.fils.length) || (decide (15 < c.rats.length) || decide (40 < ls.length))))
theorem wideB_lot {c : Cel} {ls : List CLot} {i : Nat} (h1 : i < ls.length) (h2 : i < 40) (h3 : 15 < ls[i].stays.length) : wideB c ls = true := by
  have : (ls.take 40).any (fun l => decide (15 < l.stays.length)) = true := List.any_eq_true.2 ⟨ls[i], List.mem_iff_getElem.2 ⟨i, by rw [List.length_take]; omega, List.getElem_take⟩, decide_eq_true h3⟩
  rw [wideB, this]; rfl
theorem wideB_no {c : Cel} {ls : List CLot} {i : Nat} (h : ls.length ≤ i ∨ 40 ≤ i) (hm : ∀ j, j < i → (nth ls j).stays.length ≤ 15) : wideB c ls = (decide (15 < c.boxes.length) || (decide (40 < c.fils.length) || (decide (15 < c.rats.length) || decide (40 < ls.length)))) := by
  have : (ls.take 40).any (fun l => decide (15 < l.stays.length)) = false := by
    rw [List.any_eq_false]
    intro l hl
    obtain ⟨j, hj, rfl⟩ := List.getElem_of_mem hl
    rw [List.length_take] at hj
    have := hm j (by omega)
    rw [nth_get (by omega)] at this
    rw [List.getElem_take]; simp; omega
  rw [wideB, this]; rfl
theorem wideB_f {c : Cel} {ls : List CLot} (h : ¬ wideB c ls = true) : (∀ l ∈ ls, l.stays.length ≤ 15) ∧ (c.boxes.length ≤ 15 ∧ c.fils.length ≤ 40 ∧ c.rats.length ≤ 15) ∧ ls.length ≤ 40 := by
  have h' : wideB c ls = false := by simpa using h
  rw [wideB] at h'
  simp only [Bool.or_eq_false_iff, decide_eq_false_iff_not] at h'
  obtain ⟨h1, h2, h3, h4, h5⟩ := h'
  refine ⟨fun l hl => ?_, ⟨by omega, by omega, by omega⟩, by omega⟩
  rw [List.any_eq_false] at h1
  have := h1 l (by rw [List.take_of_length_le (by omega)]; exact hl)
  simp at this; omega
set_option maxHeartbeats 4000000 in
theorem wide_det (c : Cel) (ls : List CLot) : ACalls Try.prog 14 [celV c, lotsV ls] [] (fun r o => r = B (wideB c ls) ∧ o = []) := by
 refine ACalls.lenA (xs := [I c.hall.lo, I c.hall.hi, boxesV c.boxes, filsV c.fils, ratsV c.rats]) (l := c.boxes.map B9) (by simp) (by simp) ⟨_, Try.func14, by kernel_rfl, by kernel_rfl⟩ fun hl1 => ?_
 simp [maxLen_val] at hl1
 have F := Fx.nil
 refine ent Try.func14 Try.ntmps14 Try.results14 ?_
 refine rK [1, 2] ?_
 refine W.seqk fun K1 hK1 => ?_
 refine rK [1, 2, 5] ?_
 refine W.block ?_
 refine lpa (α := Nat) [1, 2] [8, 21] [] (fun i => [(5, I i)]) (fun i => []) (fun i => i ≤ ls.length ∧ i ≤ 40 ∧ ∀ j, j < i → (nth ls j).stays.length ≤ 15) (fun i => ls.length - i) 0 v0 ?_
 ·
  intro i hI0
  simp only [List.cons_append, List.nil_append]
  try dsimp only at hI0
  obtain ⟨hi, hi4, hm1⟩ := hI0
  replace F := F.add hi |>.add hi4
  refine W.seqk fun K2 hK2 => ?_
  refine W.seqR ?_
  refine oN 5 ?_
  refine gX ?_
  refine gX ?_
  refine oN 1 ?_
  refine oK [1, 2, 5, 13] ?_
  refine it (fun hc1 => ?_) (fun hc1 => ?_)
  ·
   try simp at hc1
   replace F := F.add hc1
   refine W.skip ?_
   refine hK2 _ ?_
   clear hK2 K2
   refine W.seqk fun K3 hK3 => ?_
   refine W.block ?_
   refine rK [1, 2, 5, 22] ?_
   refine it (fun hc2 => ?_) (fun hc2 => ?_)
   ·
    try simp at hc2
    replace F := F.add hc2
    refine rK [4] ?_
    refine W.ret ?_
    refine br (tr (tr (br (tr ?_))))
    clear hK3 K3 hK1 K1
    refine er false [] [] ?_
    exact ⟨congrArg B (wideB_lot (i := i) (by omega) (by omega) (by omega)).symm, rfl⟩
   ·
    try simp at hc2
    replace F := F.add hc2
    refine W.skip ?_
    refine hK3 _ ?_
    clear hK3 K3
    refine rEw ?_
    refine ⟨i + 1, lf0, ?_, v0⟩
    ·
     refine ⟨by omega, by omega, fun j hj => ?_⟩
     by_cases e : j = i
     · rw [e, nth_get (by omega)]; omega
     · exact hm1 j (by omega)
  ·
   try simp at hc1
   replace F := F.add hc1
   refine W.exit ?_
   refine hK1 _ ?_
   clear hK2 K2 hK1 K1
   by_cases hw1 : (15 : Int) < c.boxes.length
   ·
    replace F := F.add hw1
    refine W.seqR ?_
    refine oN 5 ?_
    refine gF ?_
    refine gF ?_
    refine gF ?_
    refine gF ?_
    refine oN 2 ?_
    refine gF ?_
    refine gF ?_
    refine gF ?_
    refine gF ?_
    refine oN 2 ?_
    refine gF ?_
    refine gF ?_
    refine gF ?_
    refine oN 2 ?_
    refine oK [4] ?_
    refine W.ret ?_
    refine er false [] [] ?_
    (refine ⟨congrArg B ?_, rfl⟩
     rw [wideB_no (i := i) (by omega) hm1]
     simp; omega)
   ·
    replace F := F.add hw1
    by_cases hw2 : (40 : Int) < c.fils.length
    ·
     replace F := F.add hw2
     refine W.seqR ?_
     refine oN 5 ?_
     refine gT ?_
     refine gT ?_
     refine gT ?_
     refine gT ?_
     refine oN 2 ?_
     refine gF ?_
     refine gF ?_
     refine gF ?_
     refine gF ?_
     refine oN 2 ?_
     refine gF ?_
     refine gF ?_
     refine gF ?_
     refine oN 2 ?_
     refine oK [4] ?_
     refine W.ret ?_
     refine er false [] [] ?_
     (refine ⟨congrArg B ?_, rfl⟩
      rw [wideB_no (i := i) (by omega) hm1]
      simp; omega)
    ·
     replace F := F.add hw2
     by_cases hw3 : (15 : Int) < c.rats.length
     ·
      replace F := F.add hw3
      refine W.seqR ?_
      refine oN 5 ?_
      refine gT ?_
      refine gT ?_
      refine gT ?_
      refine gT ?_
      refine oN 2 ?_
      refine gT ?_
      refine gT ?_
      refine gT ?_
      refine gT ?_
      refine oN 2 ?_
      refine gF ?_
      refine gF ?_
      refine gF ?_
      refine oN 2 ?_
      refine oK [4] ?_
      refine W.ret ?_
      refine er false [] [] ?_
      (refine ⟨congrArg B ?_, rfl⟩
       rw [wideB_no (i := i) (by omega) hm1]
       simp; omega)
     ·
      replace F := F.add hw3
      refine W.seqR ?_
      refine oN 5 ?_
      refine gT ?_
      refine gT ?_
      refine gT ?_
      refine gT ?_
      refine oN 2 ?_
      refine gT ?_
      refine gT ?_
      refine gT ?_
      refine gT ?_
      refine oN 2 ?_
      refine gT ?_
      refine gT ?_
      refine gT ?_
      refine oN 2 ?_
      refine oK [4] ?_
      refine W.ret ?_
      refine er false [] [] ?_
      (refine ⟨congrArg B ?_, rfl⟩
       rw [wideB_no (i := i) (by omega) hm1]
       simp [show ¬ 15 < c.boxes.length by omega, show ¬ 40 < c.fils.length by omega, show ¬ 15 < c.rats.length by omega]; omega)
theorem optV_ren (f : Nat → Nat) (o : Option (List Int)) : AV.ren f (optV o) = optV o := by cases o <;> rfl
theorem optV_kill (i : Nat) (o : Option (List Int)) : AV.mapTop (AV.kill i) (optV o) = optV o := by cases o <;> rfl
theorem optV_kill1 (i : Nat) (o : Option (List Int)) : AV.kill i (optV o) = optV o := by cases o <;> rfl
theorem optV_men (i : Nat) (o : Option (List Int)) : AV.men i (optV o) = false := by cases o <;> rfl
theorem optV_data (o : Option (List Int)) : AV.isData (optV o) = true := by cases o <;> rfl
theorem optV_named (l : List Nat) (o : Option (List Int)) : AV.named l (optV o) = true := by cases o <;> rfl
theorem optV_snap (st : St) (ps : List (Nat × Nat)) (o : Option (List Int)) : St.snap st ps (optV o) = some (ints (o.getD []), false) := by cases o <;> rfl
theorem snap_agg (st : St) (ps : List (Nat × Nat)) (l : List AV) : St.snap st ps (.agg l) = match st.snapL ps l with
    | some (ys, b) => some (.agg ys, b)
    | none => none := rfl
theorem snap_val (st : St) (ps : List (Nat × Nat)) (v : Value) : St.snap st ps (.val v) = St.snap1 st ps (.val v) := rfl
theorem snap_imm (st : St) (ps : List (Nat × Nat)) (l : List AV) : St.snap st ps (.imm l) = St.snap1 st ps (.imm l) := rfl
theorem snap_own (st : St) (ps : List (Nat × Nat)) (i o n : Nat) : St.snap st ps (.own i o n) = St.snap1 st ps (.own i o n) := rfl
theorem snap_ptr (st : St) (ps : List (Nat × Nat)) (i o n : Nat) : St.snap st ps (.ptr i o n) = St.snap1 st ps (.ptr i o n) := rfl
end Go.Sim
