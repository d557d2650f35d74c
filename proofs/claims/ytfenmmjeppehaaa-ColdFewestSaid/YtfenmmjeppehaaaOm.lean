/- No fewer scoops keep a box cold: the law answers true. -/
import Derived.Test.YtfenmmjeppehaaaLy
import Derived.Test.YtfenmmjeppehaaaLi
namespace Go.Sim
open Go.Proofs
set_option maxRecDepth 100000
set_option linter.unusedSimpArgs false
set_option linter.unusedVariables false
attribute [-simp] List.map_set List.map_take List.map_drop
theorem visErr_of {l : List Int} (h0 : 0 < l.length) (h6 : l.length ≤ 6) (h : VisitsOk l) : visErr l = 0 := by
  refine visErr_done (i := l.length) (List.length_pos_iff.1 h0) h6 (Nat.le_refl _) fun j hj => ?_
  have h1 := h.1 _ (List.getElem_mem hj)
  rw [visG_get hj (by omega), if_neg (by omega)]
  by_cases e : 0 < j
  · have := List.pairwise_iff_getElem.1 h.2 (j - 1) j (by omega) hj (by omega)
    rw [if_neg (by omega)]
  · rw [if_neg (by omega)]
theorem coldTo_less {c : Cel} {b : Nat} {u w : Nat} (h : u ≤ w) (k : coldTo c b w = true) : coldTo c b u = true := by
  rw [coldTo, List.all_eq_true] at *
  intro i hi
  exact k i (List.mem_range.2 (by have := List.mem_range.1 hi; omega))
/-- the scoops that keep the box cold -/
abbrev okS (c : Cel) (b : Nat) (g : Int) (vs : List Int) (u : Nat) : List Int → Bool := fun sc => coldTo (scooped c b g vs sc) b u
theorem fillC_okS {c : Cel} (hv : ValidC c) (b : Nat) (vs : List Int) (g : Int) (u : Nat) : fillC c b vs g u = bestL4 (okS c b g vs u) (allS vs.length) := by
  rw [fillC]
  congr 1
  funext sc; exact (scooped_cold hv).symm
theorem fill_at {c : Cel} (hv : ValidC c) {b : Nat} (hb : b < c.boxes.length) {vs : List Int} (h0 : 0 < vs.length) (h6 : vs.length ≤ 6) (hvs : VisitsOk vs) {g : Int} (hg : 1 ≤ g ∧ g ≤ 100000) {u : Nat} (hu : 1 ≤ u ∧ u ≤ 240) :
    fillX c b vs g u = bestL4 (okS c b g vs u) (allS vs.length) ∧ fillE c b vs g u = if bestL4 (okS c b g vs u) (allS vs.length) = none then 3 else 0 := by
  have e : fillPE c b vs g u = 0 := by rw [fillPE, if_neg (fun k => k (checkC_zero.2 hv)), if_neg (by omega), if_neg (fun k => k (visErr_of h0 h6 hvs)), if_neg (by omega)]
  obtain ⟨k1, k2⟩ := fillX_yes e
  rw [Int.toNat_natCast, fillC_okS hv] at k1 k2
  exact ⟨k1, k2⟩
theorem best_ok {ok : List Int → Bool} {L : List (List Int)} {l : List Int} (h : bestL4 ok L = some l) : ok l = true ∧ l ∈ L := by
  obtain ⟨A, B, h1, h2, _⟩ := bestL4_some h
  exact ⟨h2, by rw [h1]; simp⟩
/-- A longer time does not need fewer. -/
theorem best_longer {ok ok' : List Int → Bool} (hm : ∀ l, ok' l = true → ok l = true) {L : List (List Int)} {y : List Int} (hy : bestL4 ok' L = some y) : ∃ x, bestL4 ok L = some x ∧ sumI x ≤ sumI y := by
  obtain ⟨h1, h2⟩ := best_ok hy
  cases hx : bestL4 ok L with
  | none => have := bestL4_none hx y h2; rw [hm y h1] at this; cases this
  | some x =>
    refine ⟨x, rfl, ?_⟩
    obtain ⟨A, B, q1, q2, q3, q4⟩ := bestL4_some hx
    rw [q1] at h2
    rcases List.mem_append.1 h2 with h2 | h2
    · have := q3 y h2 (hm y h1); omega
    · rcases List.mem_cons.1 h2 with rfl | h2
      · exact Int.le_refl _
      · exact q4 y h2 (hm y h1)
/-- has the best one not come yet -/
def beforeB (X : Option (List Int)) (L : List (List Int)) (i : Nat) : Bool := match X with
  | none => true
  | some l => decide (l ∉ L.take i)
theorem beforeB_zero (X : Option (List Int)) (L : List (List Int)) : beforeB X L 0 = true := by cases X <;> simp [beforeB]
theorem beforeB_succ {l : List Int} {L : List (List Int)} {i : Nat} (hi : i < L.length) : beforeB (some l) L (i + 1) = (beforeB (some l) L i && !decide (L[i] = l)) := by
  unfold beforeB
  dsimp only
  rw [List.take_succ_eq_append_getElem hi, Bool.eq_iff_iff]
  simp only [decide_eq_true_eq, Bool.and_eq_true, Bool.not_eq_true', decide_eq_false_iff_not, List.mem_append, List.mem_singleton, not_or]
  exact ⟨fun q => ⟨q.1, fun e => q.2 e.symm⟩, fun q => ⟨q.1, fun e => q.2 e.symm⟩⟩
theorem before_end {ok : List Int → Bool} {L : List (List Int)} {l : List Int} (h : bestL4 ok L = some l) {i : Nat} (hi : L.length ≤ i) : beforeB (some l) L i = false := by
  unfold beforeB
  dsimp only
  rw [List.take_of_length_le hi]
  simpa using (best_ok h).2
/-- What is fine has more scoops, or as many and comes later. -/
theorem best_after {ok : List Int → Bool} {L : List (List Int)} {l : List Int} (h : bestL4 ok L = some l) {i : Nat} (hi : i < L.length) (ho : ok L[i] = true) (hs : ¬ sumI l < sumI L[i]) : sumI L[i] = sumI l ∧ beforeB (some l) L (i + 1) = false := by
  obtain ⟨A, B, q1, q2, q3, q4⟩ := bestL4_some h
  have hA : A.length ≤ i := by
    by_cases e : A.length ≤ i
    · exact e
    · exfalso
      have : L[i] ∈ A := by
        have : L[i]? = A[i]? := by rw [q1, List.getElem?_append_left (by omega)]
        rw [List.getElem?_eq_getElem hi, List.getElem?_eq_getElem (by omega)] at this
        rw [Option.some.inj this]
        exact List.getElem_mem _
      exact hs (q3 _ this ho)
  have hm : L[i] ∈ l :: B := by
    have : L[i]? = (l :: B)[i - A.length]? := by rw [q1, List.getElem?_append_right hA]
    rw [List.getElem?_eq_getElem hi] at this
    exact List.mem_of_getElem? this.symm
  refine ⟨?_, ?_⟩
  · rcases List.mem_cons.1 hm with e | e
    · rw [e]
    · have := q4 _ e ho; omega
  · unfold beforeB
    dsimp only
    have : l ∈ L.take (i + 1) := by
      rw [q1, List.take_append]
      refine List.mem_append.2 (.inr ?_)
      obtain ⟨n, hn⟩ : ∃ n, i + 1 - A.length = n + 1 := ⟨i - A.length, by omega⟩
      rw [hn]; simp
    simpa using this
set_option maxHeartbeats 4000000 in
theorem ColdFewest_ok (nums : List Int) : ACalls Try.prog 8 [ints nums] [] (fun r o => r = B true ∧ o = []) := by
 have F := Fx.nil
 refine ent Try.func8 Try.ntmps8 Try.results8 ?_
 refine rK [0] ?_
 refine W.seqR ?_
 refine oN 1 ?_
 refine oC [] ?_
 refine ct (DieOf_ok _) ?_
 refine oN 1 ?_
 refine oK [3] ?_
 refine W.seqR ?_
 refine oN 1 ?_
 refine oC [(10000, 152)] ?_
 refine CallT.mkE (CellarOf_ok _ 2 3 (by omega) (by omega)) (fun z21 hz21 => ⟨(by simp), ?_⟩)
 obtain ⟨c, g1⟩ := z21
 have qmc : MadeC c 2 3 := hz21
 have qv := qmc.ok
 have hb6 : c.boxes.length ≤ 1000 := by have := qmc.bx; omega
 replace F := F.add hb6
 refine WOps.norm (by simp [hb6]; rfl) ?_
 refine oN 2 ?_
 refine oK [3, 4] ?_
 refine W.seqk fun K1 hK1 => ?_
 refine rK [3, 4, 25] ?_
 refine it (fun hc1 => ?_) (fun hc1 => ?_)
 ·
  try simp at hc1
  replace F := F.add hc1
  refine W.seqR ?_
  refine oC [] ?_
  refine ct (awake_ok) ?_
  refine oN 1 ?_
  refine oK [2] ?_
  refine W.ret ?_
  refine tr ?_
  clear hK1 K1
  refine er false [] [] ?_
  first
  | exact ⟨rfl, rfl⟩
  | (rw [qbf, qxl, before_end qbxl (by omega)]
     exact ⟨rfl, rfl⟩)
 ·
  try simp at hc1
  replace F := F.add hc1
  refine W.skip ?_
  refine hK1 _ ?_
  clear hK1 K1
  have hb0 : 0 < c.boxes.length := by first | omega | exact List.length_pos_iff.2 (by assumption)
  replace F := F.add hb0
  refine W.seqR ?_
  refine oN 4 ?_
  refine oC [(10000, 152)] ?_
  refine CallT.mkE (Cast_E g1 c.boxes.length (by omega) (by omega)) (fun z31 hz31 => ⟨(by simp [hb6, hc1, hb0]), ?_⟩)
  refine WOps.norm (by simp [hb6, hc1, hb0]; rfl) ?_
  refine oN 1 ?_
  refine oC [(10000, 152)] ?_
  refine CallT.mkE (visitsOf_ok z31.2 2 (by omega) (by omega)) (fun z33 hz33 => ⟨(by simp [hb6, hc1, hb0]), ?_⟩)
  obtain ⟨vs, g2⟩ := z33
  have qmv : MadeV vs 2 := hz33
  have hvl := qmv.len
  have hv0 := qmv.pos
  replace F := F.add hvl |>.add hv0
  refine WOps.norm (by simp [hb6, hc1, hb0, hvl, hv0]; rfl) ?_
  refine oN 3 ?_
  refine oC [(10000, 152)] ?_
  refine CallT.mkE (One_E g2 [20, 200] (by simp) (by simp)) (fun z37 hz37 => ⟨(by simp [hb6, hc1, hb0, hvl, hv0]), ?_⟩)
  have qz37 : z37.1 = 20 ∨ z37.1 = 200 := by simpa using hz37
  refine WOps.norm (by simp [hb6, hc1, hb0, hvl, hv0]; rfl) ?_
  refine oC [(10000, 152)] ?_
  refine CallT.mkE (From_E z37.2 1 z37.1 (by omega) (by omega) (by omega)) (fun z38 hz38 => ⟨(by simp [hb6, hc1, hb0, hvl, hv0]), ?_⟩)
  refine WOps.norm (by simp [hb6, hc1, hb0, hvl, hv0]; rfl) ?_
  refine oN 1 ?_
  refine oC [(10000, 152)] ?_
  refine CallT.mkE (From_E z38.2 1 10 (by omega) (by omega) (by omega)) (fun z40 hz40 => ⟨(by simp [hb6, hc1, hb0, hvl, hv0]), ?_⟩)
  refine WOps.norm (by simp [hb6, hc1, hb0, hvl, hv0]; rfl) ?_
  refine oN 4 ?_
  refine oK [4, 5, 6, 7, 8] ?_
  obtain ⟨b, qb⟩ : ∃ b : Nat, z31.1 = (b : Int) := ⟨z31.1.toNat, by omega⟩
  have hbq := qb
  have hbl : b < c.boxes.length := by omega
  obtain ⟨u, qu⟩ : ∃ u : Nat, z40.1 = (u : Int) := ⟨z40.1.toNat, by omega⟩
  have huq := qu
  have hur : 1 ≤ u ∧ u ≤ 10 := by omega
  obtain ⟨g, qg⟩ : ∃ g, z38.1 = g := ⟨_, rfl⟩
  have hgq := qg
  have hgr : 1 ≤ g ∧ g ≤ 200 := by omega
  obtain ⟨qX, qE⟩ := fill_at qv hbl hv0 (by omega) qmv.ok (g := g) (by omega) (u := u) (by omega)
  obtain ⟨qY, qF⟩ := fill_at qv hbl hv0 (by omega) qmv.ok (g := g) (by omega) (u := u + 1) (by omega)
  obtain ⟨L, qL⟩ : ∃ L, allS vs.length = L := ⟨_, rfl⟩
  rw [qL] at qX qE qY qF
  have hLl : L.length ≤ 216 := by rw [← qL]; exact allS_le (by omega)
  have qLm : ∀ x ∈ L, x.length = vs.length ∧ ∀ y ∈ x, 0 ≤ y ∧ y ≤ 5 := fun x hx => mem_allS.1 (by rw [qL]; exact hx)
  obtain ⟨X, qbx⟩ : ∃ X, bestL4 (okS c b g vs u) L = X := ⟨_, rfl⟩
  obtain ⟨Y, qby⟩ : ∃ Y, bestL4 (okS c b g vs (u + 1)) L = Y := ⟨_, rfl⟩
  rw [qbx] at qX qE
  rw [qby] at qY qF
  have qmono : ∀ l, okS c b g vs (u + 1) l = true → okS c b g vs u l = true := fun l h => coldTo_less (by omega) h
  have hXe := qX
  have hYe : fillX c b vs g (u + 1) = Y := qY
  have hFe : fillE c b vs g (u + 1) = if Y = none then 3 else 0 := qF
  have qall := all_all vs.length (by omega)
  rw [qL] at qall
  replace F := F.add hbq |>.add hbl |>.add huq |>.add hur |>.add hgq |>.add hgr |>.add hLl |>.add hXe |>.add hYe |>.add hFe
  by_cases hxn : X = none
  ·
   replace F := F.add hxn
   have hyn : Y = none := by
     cases hy : Y with
     | none => rfl
     | some y =>
       obtain ⟨x, h1, _⟩ := best_longer qmono (qby.trans hy)
       rw [qbx, hxn] at h1; cases h1
   have hovx : optV X = .val (.slice none 0 0) := by rw [hxn]; rfl
   have hovy : optV Y = .val (.slice none 0 0) := by rw [hyn]; rfl
   have hEe : fillE c b vs g u = 3 := by rw [qE, if_pos hxn]
   replace F := F.add hyn |>.add hovx |>.add hovy |>.add hEe
   refine W.seqR ?_
   refine oN 5 ?_
   refine oC [] ?_
   refine ct (Fill_ok c b vs g u) ?_
   refine oN 5 ?_
   refine oK [4, 5, 6, 7, 8, 9, 10] ?_
   refine W.seqR ?_
   refine oNw 6 ?_
   refine oC [] ?_
   refine ct (Fill_ok c b vs g (u + 1)) ?_
   refine oN 5 ?_
   refine oK [4, 5, 6, 7, 8, 9, 10, 11, 12] ?_
   refine W.seqk fun K2 hK2 => ?_
   refine W.seqR ?_
   refine oN 3 ?_
   refine gT ?_
   refine gT ?_
   refine oN 2 ?_
   refine gT ?_
   refine gT ?_
   refine gT ?_
   refine gT ?_
   refine gT ?_
   refine gT ?_
   refine oN 2 ?_
   refine gT ?_
   refine gT ?_
   refine gT ?_
   refine gF ?_
   refine gF ?_
   refine gF ?_
   refine gF ?_
   refine gF ?_
   refine gT ?_
   refine oN 1 ?_
   refine oK [4, 5, 6, 7, 8, 9, 10, 84] ?_
   refine cF ?_
   refine W.skip ?_
   refine hK2 _ ?_
   clear hK2 K2
   refine W.seqk fun K3 hK3 => ?_
   refine W.seqR ?_
   refine oN 3 ?_
   refine gF ?_
   refine gF ?_
   refine gF ?_
   refine gF ?_
   refine gF ?_
   refine gF ?_
   refine gF ?_
   refine gF ?_
   refine gF ?_
   refine gF ?_
   refine gF ?_
   refine gF ?_
   refine gF ?_
   refine gF ?_
   refine gF ?_
   refine oN 1 ?_
   refine oK [4, 5, 6, 7, 8, 9, 10, 103] ?_
   refine cF ?_
   refine W.skip ?_
   refine hK3 _ ?_
   clear hK3 K3
   refine W.seqR ?_
   refine oN 2 ?_
   refine oC [] ?_
   refine ct (qall) ?_
   refine oN 1 ?_
   refine oK [4, 5, 6, 7, 8, 9, 10, 13] ?_
   refine rK [4, 5, 6, 7, 8, 9, 10, 13, 14] ?_
   refine W.seqk fun K4 hK4 => ?_
   refine rK [4, 5, 6, 7, 8, 9, 10, 13, 14, 15] ?_
   refine W.block ?_
   refine lpa (α := Nat × Bool) [4, 5, 6, 7, 8, 9, 10, 13] [109, 120, 127, 129, 155] [] (fun x => [(15, I x.1), (14, B x.2)]) (fun x => []) (fun x => x.1 ≤ L.length ∧ x.2 = beforeB X L x.1) (fun x => L.length - x.1) (0, true) ?_ ?_
   ·
    exact ⟨Nat.zero_le _, (beforeB_zero _ _).symm⟩
   ·
    intro ⟨i, bf⟩ hI0
    simp only [List.cons_append, List.nil_append]
    try dsimp only at hI0
    obtain ⟨hi, qbf⟩ := hI0
    replace F := F.add hi
    refine W.seqk fun K5 hK5 => ?_
    refine rK [4, 5, 6, 7, 8, 9, 10, 13, 14, 15, 110] ?_
    refine it (fun hc4 => ?_) (fun hc4 => ?_)
    ·
     try simp at hc4
     replace F := F.add hc4
     refine W.skip ?_
     refine hK5 _ ?_
     clear hK5 K5
     refine W.seqk fun K6 hK6 => ?_
     refine W.block ?_
     have hil : i < L.length := by omega
     obtain ⟨Z, qZ⟩ : ∃ Z, L[i] = Z := ⟨_, rfl⟩
     have hZ := qZ
     obtain ⟨qzn, qzs⟩ := qLm _ (List.getElem_mem hil)
     rw [qZ] at qzn qzs
     have hzn : Z.length = vs.length := qzn
     have hZn : nth L i = Z := by rw [nth_get hil, qZ]
     have hz0 : ¬ Z = [] := fun e => by rw [e] at hzn; simp only [List.length_nil] at hzn; omega
     replace F := F.add hil |>.add hZ |>.add hzn |>.add hZn |>.add hz0
     refine W.seqR ?_
     refine oN 2 ?_
     refine gX ?_
     refine gX ?_
     refine gX ?_
     refine gX ?_
     refine gX ?_
     refine gXc ?_
     refine cx (fun hg => by (try simp at hg); exact SameInts_ok Z []) ?_
     refine gX ?_
     refine oN 2 ?_
     refine oK [4, 5, 6, 7, 8, 9, 10, 13, 14, 15] ?_
     refine W.seqR ?_
     refine oN 4 ?_
     refine oC [] ?_
     refine ct (Total_ok Z (by omega) qzs) ?_
     refine oN 1 ?_
     refine oC [] ?_
     refine ct (Total_ok [] (by simp) (by simp)) ?_
     refine oN 2 ?_
     refine oK [4, 5, 6, 7, 8, 9, 10, 13, 14, 15, 16, 17] ?_
     refine W.seqk fun K7 hK7 => ?_
     refine W.seqR ?_
     refine oN 3 ?_
     refine gF ?_
     refine gF ?_
     refine gF ?_
     refine gF ?_
     refine gF ?_
     refine gF ?_
     refine gF ?_
     refine gF ?_
     refine gF ?_
     refine gF ?_
     refine gF ?_
     refine gF ?_
     refine oN 1 ?_
     refine oK [4, 5, 6, 7, 8, 9, 10, 13, 14, 15, 145] ?_
     refine cF ?_
     refine W.skip ?_
     refine hK7 _ ?_
     clear hK7 K7
     have hok2 : coldTo (scooped c b g vs Z) b u = false := by first | assumption | exact (by have := bestL4_none (qbx.trans hxn) _ (List.getElem_mem hil); rw [qZ] at this; exact this)
     replace F := F.add hok2
     refine wD 9 [] [[], [], [], [], [], [4, 3], [3, 4, 5], [], [], [8, 7, 5, 4, 3, 6, 2, 1, 0]] ?_
     refine dB [([147, 148, 149, 150, 151, 152, 153, 154], [], []), ([146, 148, 149, 150, 151, 152, 153, 154], [false], []), ([146, 147, 149, 150, 151, 152, 153, 154], [false, false], []), ([146, 147, 148, 150, 153, 154], [false, false, false], []), ([146, 147, 148, 149, 153, 154], [false, false, false, false], []), ([146, 147, 148, 153, 154], [false, false, false, true, true], []), ([146, 147, 148, 153, 154], [false, false, false, true, true, true], []), ([146, 147, 148, 149, 150, 151, 152, 154], [false, false, false, false, false, false, false], []), ([146, 147, 148, 149, 150, 151, 152, 153], [false, false, false, false, false, false, false, false], [])] 0 9 ?_
     refine dD ?_
     refine oC [] ?_
     refine ct (stays_ok c qv b hbl vs qmv.ok Z (by omega) hzn qzs g (by omega) (by have := qmc.fl; omega) u (by omega)) ?_
     refine oK [4, 5, 6, 7, 8, 9, 10, 13, 14, 15, 155] ?_
     refine cF ?_
     refine W.skip ?_
     refine hK6 _ ?_
     clear hK6 K6
     refine rEw ?_
     refine ⟨(i + 1, beforeB X L (i + 1)), lf ?_ ?_, v0, v0⟩
     ·
      try (simp [Fx.get F])
      all_goals (
       first
       | (rw [qxl, beforeB_succ hil, qZ, qbf, qxl]; done)
       | (rw [qbf, hxn]; rfl)
       | (have q := beforeB_succ (l := xl) hil
          rw [qZ, ← qxl, ← qbf] at q
          rw [q]
          simp_all
          done)
       | (have q := beforeB_succ (l := xl) hil
          rw [qZ, ← qxl, ← qbf] at q
          rw [q]
          cases bf <;> simp_all
          done)
      )
     ·
      exact v1
    ·
     try simp at hc4
     replace F := F.add hc4
     refine W.exit ?_
     refine hK4 _ ?_
     clear hK5 K5 hK4 K4
     refine W.seqR ?_
     refine oN 3 ?_
     refine gF ?_
     refine gF ?_
     refine oN 2 ?_
     refine gC [] ?_
     refine ct (awake_ok) ?_
     refine oN 2 ?_
     refine oK [2] ?_
     refine W.ret ?_
     refine er false [] [] ?_
     first
     | exact ⟨rfl, rfl⟩
     | (rw [qbf, qxl, before_end qbxl (by omega)]
        exact ⟨rfl, rfl⟩)
  ·
   replace F := F.add hxn
   obtain ⟨xl, qxl⟩ : ∃ l, X = some l := by
     cases hq : X with
     | none => exact absurd hq hxn
     | some l => exact ⟨l, rfl⟩
   have hovx : optV X = .imm (xl.map I) := by rw [qxl]; rfl
   have hEe : fillE c b vs g u = 0 := by rw [qE, if_neg hxn]
   have qbxl : bestL4 (okS c b g vs u) L = some xl := qbx.trans qxl
   obtain ⟨qxo, qxm⟩ := best_ok qbxl
   obtain ⟨qxn, qxs⟩ := qLm xl qxm
   have hxn2 : xl.length = vs.length := qxn
   have hxo : coldTo (scooped c b g vs xl) b u = true := qxo
   replace F := F.add hovx |>.add hEe |>.add hxn2 |>.add hxo
   refine W.seqR ?_
   refine oN 5 ?_
   refine oC [] ?_
   refine ct (Fill_ok c b vs g u) ?_
   refine oN 5 ?_
   refine oK [4, 5, 6, 7, 8, 9, 10] ?_
   by_cases hyn : Y = none
   ·
    replace F := F.add hyn
    have hovy : optV Y = .val (.slice none 0 0) := by rw [hyn]; rfl
    replace F := F.add hovy
    refine W.seqR ?_
    refine oNw 6 ?_
    refine oC [] ?_
    refine ct (Fill_ok c b vs g (u + 1)) ?_
    refine oN 5 ?_
    refine oK [4, 5, 6, 7, 8, 9, 10, 11, 12] ?_
    refine W.seqk fun K8 hK8 => ?_
    refine W.seqR ?_
    refine oN 3 ?_
    refine gF ?_
    refine gF ?_
    refine oN 2 ?_
    refine gT ?_
    refine gT ?_
    refine gT ?_
    refine gF ?_
    refine gF ?_
    refine gT ?_
    refine oN 2 ?_
    refine gT ?_
    refine gT ?_
    refine gT ?_
    refine gF ?_
    refine gF ?_
    refine gF ?_
    refine gF ?_
    refine gF ?_
    refine gT ?_
    refine oN 1 ?_
    refine oK [4, 5, 6, 7, 8, 9, 10, 84] ?_
    refine cF ?_
    refine W.skip ?_
    refine hK8 _ ?_
    clear hK8 K8
    refine W.seqk fun K9 hK9 => ?_
    refine W.seqR ?_
    refine oN 3 ?_
    refine gT ?_
    refine gT ?_
    refine gT ?_
    refine gT ?_
    refine gT ?_
    refine gT ?_
    refine gT ?_
    refine gT ?_
    refine gT ?_
    refine gT ?_
    refine gT ?_
    refine gT ?_
    refine gC [] ?_
    refine ct (stays_ok c qv b hbl vs qmv.ok xl (by omega) hxn2 qxs g (by omega) (by have := qmc.fl; omega) u (by omega)) ?_
    refine gT ?_
    refine gT ?_
    refine oN 1 ?_
    refine oK [4, 5, 6, 7, 8, 9, 10, 103] ?_
    refine cF ?_
    refine W.skip ?_
    refine hK9 _ ?_
    clear hK9 K9
    refine W.seqR ?_
    refine oN 2 ?_
    refine oC [] ?_
    refine ct (qall) ?_
    refine oN 1 ?_
    refine oK [4, 5, 6, 7, 8, 9, 10, 13] ?_
    refine rK [4, 5, 6, 7, 8, 9, 10, 13, 14] ?_
    refine W.seqk fun K10 hK10 => ?_
    refine rK [4, 5, 6, 7, 8, 9, 10, 13, 14, 15] ?_
    refine W.block ?_
    refine lpa (α := Nat × Bool) [4, 5, 6, 7, 8, 9, 10, 13] [109, 120, 127, 129, 155] [] (fun x => [(15, I x.1), (14, B x.2)]) (fun x => []) (fun x => x.1 ≤ L.length ∧ x.2 = beforeB X L x.1) (fun x => L.length - x.1) (0, true) ?_ ?_
    ·
     exact ⟨Nat.zero_le _, (beforeB_zero _ _).symm⟩
    ·
     intro ⟨i, bf⟩ hI0
     simp only [List.cons_append, List.nil_append]
     try dsimp only at hI0
     obtain ⟨hi, qbf⟩ := hI0
     replace F := F.add hi
     refine W.seqk fun K11 hK11 => ?_
     refine rK [4, 5, 6, 7, 8, 9, 10, 13, 14, 15, 110] ?_
     refine it (fun hc9 => ?_) (fun hc9 => ?_)
     ·
      try simp at hc9
      replace F := F.add hc9
      refine W.skip ?_
      refine hK11 _ ?_
      clear hK11 K11
      refine W.seqk fun K12 hK12 => ?_
      refine W.block ?_
      have hil : i < L.length := by omega
      obtain ⟨Z, qZ⟩ : ∃ Z, L[i] = Z := ⟨_, rfl⟩
      have hZ := qZ
      obtain ⟨qzn, qzs⟩ := qLm _ (List.getElem_mem hil)
      rw [qZ] at qzn qzs
      have hzn : Z.length = vs.length := qzn
      have hZn : nth L i = Z := by rw [nth_get hil, qZ]
      have hz0 : ¬ Z = [] := fun e => by rw [e] at hzn; simp only [List.length_nil] at hzn; omega
      replace F := F.add hil |>.add hZ |>.add hzn |>.add hZn |>.add hz0
      refine W.seqR ?_
      refine oN 2 ?_
      refine gX ?_
      refine gX ?_
      refine gX ?_
      refine gX ?_
      refine gX ?_
      refine gXc ?_
      refine cx (fun hg => by (try simp at hg); exact SameInts_ok Z xl) ?_
      refine gX ?_
      refine oN 2 ?_
      refine oK [4, 5, 6, 7, 8, 9, 10, 13, 14, 15] ?_
      refine W.seqR ?_
      refine oN 4 ?_
      refine oC [] ?_
      refine ct (Total_ok Z (by omega) qzs) ?_
      refine oN 1 ?_
      refine oC [] ?_
      refine ct (Total_ok xl (by omega) qxs) ?_
      refine oN 2 ?_
      refine oK [4, 5, 6, 7, 8, 9, 10, 13, 14, 15, 16, 17] ?_
      refine W.seqk fun K13 hK13 => ?_
      by_cases hgo : coldTo (scooped c b g vs Z) b u = true
      ·
       replace F := F.add hgo
       by_cases hlt : sumI xl < sumI Z
       ·
        replace F := F.add hlt
        refine W.seqR ?_
        refine oN 3 ?_
        refine gT ?_
        refine gT ?_
        refine gT ?_
        refine gT ?_
        refine gF ?_
        refine gF ?_
        refine gF ?_
        refine gF ?_
        refine gF ?_
        refine gF ?_
        refine gF ?_
        refine gT ?_
        refine oN 1 ?_
        refine oK [4, 5, 6, 7, 8, 9, 10, 13, 14, 15, 145] ?_
        refine cT ?_
        refine W.exit ?_
        refine hK12 _ ?_
        clear hK13 K13 hK12 K12
        refine rEw ?_
        refine ⟨(i + 1, beforeB X L (i + 1)), lf ?_ ?_, v0, v0⟩
        ·
         try (simp [Fx.get F])
         all_goals (
          first
          | (rw [qxl, beforeB_succ hil, qZ, qbf, qxl]; done)
          | (rw [qbf, hxn]; rfl)
          | (have q := beforeB_succ (l := xl) hil
             rw [qZ, ← qxl, ← qbf] at q
             rw [q]
             simp_all
             done)
          | (have q := beforeB_succ (l := xl) hil
             rw [qZ, ← qxl, ← qbf] at q
             rw [q]
             cases bf <;> simp_all
             done)
         )
        ·
         exact v1
       ·
        replace F := F.add hlt
        have hsz : coldTo (scooped c b g vs Z) b u = true → sumI Z = sumI xl ∧ (bf && !decide (Z = xl)) = false := fun k => by
          obtain ⟨q1, q2⟩ := best_after qbxl hil (by rw [qZ]; exact k) (by rw [qZ]; exact hlt)
          rw [qZ] at q1
          exact ⟨q1, by rw [← q2, beforeB_succ hil, qZ, qbf, qxl]⟩
        replace F := F.add hsz
        refine W.seqR ?_
        refine oN 3 ?_
        refine gT ?_
        refine gT ?_
        refine gT ?_
        refine gT ?_
        refine gT ?_
        refine gT ?_
        refine gT ?_
        refine gT ?_
        refine gT ?_
        refine gT ?_
        refine gT ?_
        refine gT ?_
        refine oN 1 ?_
        refine oK [4, 5, 6, 7, 8, 9, 10, 13, 14, 15, 145] ?_
        refine cT ?_
        refine W.exit ?_
        refine hK12 _ ?_
        clear hK13 K13 hK12 K12
        refine rEw ?_
        refine ⟨(i + 1, beforeB X L (i + 1)), lf ?_ ?_, v0, v0⟩
        ·
         try (simp [Fx.get F])
         all_goals (
          first
          | (rw [qxl, beforeB_succ hil, qZ, qbf, qxl]; done)
          | (rw [qbf, hxn]; rfl)
          | (have q := beforeB_succ (l := xl) hil
             rw [qZ, ← qxl, ← qbf] at q
             rw [q]
             simp_all
             done)
          | (have q := beforeB_succ (l := xl) hil
             rw [qZ, ← qxl, ← qbf] at q
             rw [q]
             cases bf <;> simp_all
             done)
         )
        ·
         exact v1
      ·
       replace F := F.add hgo
       have hok : coldTo (scooped c b g vs Z) b u = false := by simpa using hgo
       replace F := F.add hok
       by_cases hlt : sumI xl < sumI Z
       ·
        replace F := F.add hlt
        refine W.seqR ?_
        refine oN 3 ?_
        refine gT ?_
        refine gT ?_
        refine gT ?_
        refine gT ?_
        refine gF ?_
        refine gF ?_
        refine gF ?_
        refine gF ?_
        refine gF ?_
        refine gF ?_
        refine gF ?_
        refine gT ?_
        refine oN 1 ?_
        refine oK [4, 5, 6, 7, 8, 9, 10, 13, 14, 15, 145] ?_
        refine cT ?_
        refine W.exit ?_
        refine hK12 _ ?_
        clear hK13 K13 hK12 K12
        refine rEw ?_
        refine ⟨(i + 1, beforeB X L (i + 1)), lf ?_ ?_, v0, v0⟩
        ·
         try (simp [Fx.get F])
         all_goals (
          first
          | (rw [qxl, beforeB_succ hil, qZ, qbf, qxl]; done)
          | (rw [qbf, hxn]; rfl)
          | (have q := beforeB_succ (l := xl) hil
             rw [qZ, ← qxl, ← qbf] at q
             rw [q]
             simp_all
             done)
          | (have q := beforeB_succ (l := xl) hil
             rw [qZ, ← qxl, ← qbf] at q
             rw [q]
             cases bf <;> simp_all
             done)
         )
        ·
         exact v1
       ·
        replace F := F.add hlt
        have hsz : coldTo (scooped c b g vs Z) b u = true → sumI Z = sumI xl ∧ (bf && !decide (Z = xl)) = false := fun k => by
          obtain ⟨q1, q2⟩ := best_after qbxl hil (by rw [qZ]; exact k) (by rw [qZ]; exact hlt)
          rw [qZ] at q1
          exact ⟨q1, by rw [← q2, beforeB_succ hil, qZ, qbf, qxl]⟩
        replace F := F.add hsz
        by_cases heq : (sumI Z == sumI xl) = true
        ·
         replace F := F.add heq
         refine W.seqR ?_
         refine oN 3 ?_
         refine gT ?_
         refine gT ?_
         refine gT ?_
         refine gT ?_
         refine gT ?_
         refine gT ?_
         refine gT ?_
         refine gT ?_
         refine gT ?_
         refine gT ?_
         refine gT ?_
         refine gT ?_
         refine oN 1 ?_
         refine oK [4, 5, 6, 7, 8, 9, 10, 13, 14, 15, 145] ?_
         refine it (fun hc13 => ?_) (fun hc13 => ?_)
         ·
          try simp at hc13
          replace F := F.add hc13
          refine W.exit ?_
          refine hK12 _ ?_
          clear hK13 K13 hK12 K12
          refine rEw ?_
          refine ⟨(i + 1, beforeB X L (i + 1)), lf ?_ ?_, v0, v0⟩
          ·
           try (simp [Fx.get F])
           all_goals (
            first
            | (rw [qxl, beforeB_succ hil, qZ, qbf, qxl]; done)
            | (rw [qbf, hxn]; rfl)
            | (have q := beforeB_succ (l := xl) hil
               rw [qZ, ← qxl, ← qbf] at q
               rw [q]
               simp_all
               done)
            | (have q := beforeB_succ (l := xl) hil
               rw [qZ, ← qxl, ← qbf] at q
               rw [q]
               cases bf <;> simp_all
               done)
           )
          ·
           exact v1
         ·
          try simp at hc13
          replace F := F.add hc13
          refine W.skip ?_
          refine hK13 _ ?_
          clear hK13 K13
          have hok2 : coldTo (scooped c b g vs Z) b u = false := by first | assumption | exact (by have := bestL4_none (qbx.trans hxn) _ (List.getElem_mem hil); rw [qZ] at this; exact this)
          replace F := F.add hok2
          refine wD 9 [] [[], [], [], [], [], [4, 3], [3, 4, 5], [], [], [8, 7, 5, 4, 3, 6, 2, 1, 0]] ?_
          refine dB [([147, 148, 149, 150, 151, 152, 153, 154], [], []), ([146, 148, 149, 150, 151, 152, 153, 154], [false], []), ([146, 147, 149, 150, 151, 152, 153, 154], [false, false], []), ([146, 147, 148, 150, 153, 154], [false, false, false], []), ([146, 147, 148, 149, 153, 154], [false, false, false, false], []), ([146, 147, 148, 153, 154], [false, false, false, true, true], []), ([146, 147, 148, 153, 154], [false, false, false, true, true, true], []), ([146, 147, 148, 149, 150, 151, 152, 154], [false, false, false, false, false, false, false], []), ([146, 147, 148, 149, 150, 151, 152, 153], [false, false, false, false, false, false, false, false], [])] 0 9 ?_
          refine dD ?_
          refine oC [] ?_
          refine ct (stays_ok c qv b hbl vs qmv.ok Z (by omega) hzn qzs g (by omega) (by have := qmc.fl; omega) u (by omega)) ?_
          refine oK [4, 5, 6, 7, 8, 9, 10, 13, 14, 15, 155] ?_
          refine cF ?_
          refine W.skip ?_
          refine hK12 _ ?_
          clear hK12 K12
          refine rEw ?_
          refine ⟨(i + 1, beforeB X L (i + 1)), lf ?_ ?_, v0, v0⟩
          ·
           try (simp [Fx.get F])
           all_goals (
            first
            | (rw [qxl, beforeB_succ hil, qZ, qbf, qxl]; done)
            | (rw [qbf, hxn]; rfl)
            | (have q := beforeB_succ (l := xl) hil
               rw [qZ, ← qxl, ← qbf] at q
               rw [q]
               simp_all
               done)
            | (have q := beforeB_succ (l := xl) hil
               rw [qZ, ← qxl, ← qbf] at q
               rw [q]
               cases bf <;> simp_all
               done)
           )
          ·
           exact v1
        ·
         replace F := F.add heq
         refine W.seqR ?_
         refine oN 3 ?_
         refine gT ?_
         refine gT ?_
         refine gT ?_
         refine gT ?_
         refine gT ?_
         refine gT ?_
         refine gT ?_
         refine gT ?_
         refine gF ?_
         refine gF ?_
         refine gT ?_
         refine gT ?_
         refine oN 1 ?_
         refine oK [4, 5, 6, 7, 8, 9, 10, 13, 14, 15, 145] ?_
         refine cF ?_
         refine W.skip ?_
         refine hK13 _ ?_
         clear hK13 K13
         have hok2 : coldTo (scooped c b g vs Z) b u = false := by first | assumption | exact (by have := bestL4_none (qbx.trans hxn) _ (List.getElem_mem hil); rw [qZ] at this; exact this)
         replace F := F.add hok2
         refine wD 9 [] [[], [], [], [], [], [4, 3], [3, 4, 5], [], [], [8, 7, 5, 4, 3, 6, 2, 1, 0]] ?_
         refine dB [([147, 148, 149, 150, 151, 152, 153, 154], [], []), ([146, 148, 149, 150, 151, 152, 153, 154], [false], []), ([146, 147, 149, 150, 151, 152, 153, 154], [false, false], []), ([146, 147, 148, 150, 153, 154], [false, false, false], []), ([146, 147, 148, 149, 153, 154], [false, false, false, false], []), ([146, 147, 148, 153, 154], [false, false, false, true, true], []), ([146, 147, 148, 153, 154], [false, false, false, true, true, true], []), ([146, 147, 148, 149, 150, 151, 152, 154], [false, false, false, false, false, false, false], []), ([146, 147, 148, 149, 150, 151, 152, 153], [false, false, false, false, false, false, false, false], [])] 0 9 ?_
         refine dD ?_
         refine oC [] ?_
         refine ct (stays_ok c qv b hbl vs qmv.ok Z (by omega) hzn qzs g (by omega) (by have := qmc.fl; omega) u (by omega)) ?_
         refine oK [4, 5, 6, 7, 8, 9, 10, 13, 14, 15, 155] ?_
         refine cF ?_
         refine W.skip ?_
         refine hK12 _ ?_
         clear hK12 K12
         refine rEw ?_
         refine ⟨(i + 1, beforeB X L (i + 1)), lf ?_ ?_, v0, v0⟩
         ·
          try (simp [Fx.get F])
          all_goals (
           first
           | (rw [qxl, beforeB_succ hil, qZ, qbf, qxl]; done)
           | (rw [qbf, hxn]; rfl)
           | (have q := beforeB_succ (l := xl) hil
              rw [qZ, ← qxl, ← qbf] at q
              rw [q]
              simp_all
              done)
           | (have q := beforeB_succ (l := xl) hil
              rw [qZ, ← qxl, ← qbf] at q
              rw [q]
              cases bf <;> simp_all
              done)
          )
         ·
          exact v1
     ·
      try simp at hc9
      replace F := F.add hc9
      refine W.exit ?_
      refine hK10 _ ?_
      clear hK11 K11 hK10 K10
      refine W.seqR ?_
      refine oN 3 ?_
      refine gT ?_
      refine gT ?_
      refine oN 2 ?_
      refine gXc ?_
      refine cx (fun hg => by (try simp at hg); exact awake_ok) ?_
      refine oN 2 ?_
      refine oK [2] ?_
      refine W.ret ?_
      refine er false [] [] ?_
      first
      | exact ⟨rfl, rfl⟩
      | (rw [qbf, qxl, before_end qbxl (by omega)]
         exact ⟨rfl, rfl⟩)
   ·
    replace F := F.add hyn
    obtain ⟨yl, qyl⟩ : ∃ l, Y = some l := by
      cases hq : Y with
      | none => exact absurd hq hyn
      | some l => exact ⟨l, rfl⟩
    have hovy : optV Y = .imm (yl.map I) := by rw [qyl]; rfl
    have qys := (qLm yl (best_ok (qby.trans qyl)).2)
    have hsum : ¬ sumI yl < sumI xl := by
      obtain ⟨x, h1, h2⟩ := best_longer qmono (qby.trans qyl)
      rw [qbxl] at h1; cases h1; omega
    replace F := F.add hovy |>.add hsum
    refine W.seqR ?_
    refine oNw 6 ?_
    refine oC [] ?_
    refine ct (Fill_ok c b vs g (u + 1)) ?_
    refine oN 5 ?_
    refine oK [4, 5, 6, 7, 8, 9, 10, 11, 12] ?_
    refine W.seqk fun K14 hK14 => ?_
    refine W.seqR ?_
    refine oN 3 ?_
    refine gF ?_
    refine gF ?_
    refine oN 2 ?_
    refine gT ?_
    refine gT ?_
    refine gT ?_
    refine gF ?_
    refine gF ?_
    refine gT ?_
    refine oN 2 ?_
    refine gT ?_
    refine gT ?_
    refine gT ?_
    refine gT ?_
    refine gC [] ?_
    refine ct (Total_ok yl (by omega) qys.2) ?_
    refine gT ?_
    refine gC [] ?_
    refine ct (Total_ok xl (by omega) qxs) ?_
    refine gT ?_
    refine gT ?_
    refine oN 1 ?_
    refine oK [4, 5, 6, 7, 8, 9, 10, 84] ?_
    refine cF ?_
    refine W.skip ?_
    refine hK14 _ ?_
    clear hK14 K14
    refine W.seqk fun K15 hK15 => ?_
    refine W.seqR ?_
    refine oN 3 ?_
    refine gT ?_
    refine gT ?_
    refine gT ?_
    refine gT ?_
    refine gT ?_
    refine gT ?_
    refine gT ?_
    refine gT ?_
    refine gT ?_
    refine gT ?_
    refine gT ?_
    refine gT ?_
    refine gC [] ?_
    refine ct (stays_ok c qv b hbl vs qmv.ok xl (by omega) hxn2 qxs g (by omega) (by have := qmc.fl; omega) u (by omega)) ?_
    refine gT ?_
    refine gT ?_
    refine oN 1 ?_
    refine oK [4, 5, 6, 7, 8, 9, 10, 103] ?_
    refine cF ?_
    refine W.skip ?_
    refine hK15 _ ?_
    clear hK15 K15
    refine W.seqR ?_
    refine oN 2 ?_
    refine oC [] ?_
    refine ct (qall) ?_
    refine oN 1 ?_
    refine oK [4, 5, 6, 7, 8, 9, 10, 13] ?_
    refine rK [4, 5, 6, 7, 8, 9, 10, 13, 14] ?_
    refine W.seqk fun K16 hK16 => ?_
    refine rK [4, 5, 6, 7, 8, 9, 10, 13, 14, 15] ?_
    refine W.block ?_
    refine lpa (α := Nat × Bool) [4, 5, 6, 7, 8, 9, 10, 13] [109, 120, 127, 129, 155] [] (fun x => [(15, I x.1), (14, B x.2)]) (fun x => []) (fun x => x.1 ≤ L.length ∧ x.2 = beforeB X L x.1) (fun x => L.length - x.1) (0, true) ?_ ?_
    ·
     exact ⟨Nat.zero_le _, (beforeB_zero _ _).symm⟩
    ·
     intro ⟨i, bf⟩ hI0
     simp only [List.cons_append, List.nil_append]
     try dsimp only at hI0
     obtain ⟨hi, qbf⟩ := hI0
     replace F := F.add hi
     refine W.seqk fun K17 hK17 => ?_
     refine rK [4, 5, 6, 7, 8, 9, 10, 13, 14, 15, 110] ?_
     refine it (fun hc19 => ?_) (fun hc19 => ?_)
     ·
      try simp at hc19
      replace F := F.add hc19
      refine W.skip ?_
      refine hK17 _ ?_
      clear hK17 K17
      refine W.seqk fun K18 hK18 => ?_
      refine W.block ?_
      have hil : i < L.length := by omega
      obtain ⟨Z, qZ⟩ : ∃ Z, L[i] = Z := ⟨_, rfl⟩
      have hZ := qZ
      obtain ⟨qzn, qzs⟩ := qLm _ (List.getElem_mem hil)
      rw [qZ] at qzn qzs
      have hzn : Z.length = vs.length := qzn
      have hZn : nth L i = Z := by rw [nth_get hil, qZ]
      have hz0 : ¬ Z = [] := fun e => by rw [e] at hzn; simp only [List.length_nil] at hzn; omega
      replace F := F.add hil |>.add hZ |>.add hzn |>.add hZn |>.add hz0
      refine W.seqR ?_
      refine oN 2 ?_
      refine gX ?_
      refine gX ?_
      refine gX ?_
      refine gX ?_
      refine gX ?_
      refine gXc ?_
      refine cx (fun hg => by (try simp at hg); exact SameInts_ok Z xl) ?_
      refine gX ?_
      refine oN 2 ?_
      refine oK [4, 5, 6, 7, 8, 9, 10, 13, 14, 15] ?_
      refine W.seqR ?_
      refine oN 4 ?_
      refine oC [] ?_
      refine ct (Total_ok Z (by omega) qzs) ?_
      refine oN 1 ?_
      refine oC [] ?_
      refine ct (Total_ok xl (by omega) qxs) ?_
      refine oN 2 ?_
      refine oK [4, 5, 6, 7, 8, 9, 10, 13, 14, 15, 16, 17] ?_
      refine W.seqk fun K19 hK19 => ?_
      by_cases hgo : coldTo (scooped c b g vs Z) b u = true
      ·
       replace F := F.add hgo
       by_cases hlt : sumI xl < sumI Z
       ·
        replace F := F.add hlt
        refine W.seqR ?_
        refine oN 3 ?_
        refine gT ?_
        refine gT ?_
        refine gT ?_
        refine gT ?_
        refine gF ?_
        refine gF ?_
        refine gF ?_
        refine gF ?_
        refine gF ?_
        refine gF ?_
        refine gF ?_
        refine gT ?_
        refine oN 1 ?_
        refine oK [4, 5, 6, 7, 8, 9, 10, 13, 14, 15, 145] ?_
        refine cT ?_
        refine W.exit ?_
        refine hK18 _ ?_
        clear hK19 K19 hK18 K18
        refine rEw ?_
        refine ⟨(i + 1, beforeB X L (i + 1)), lf ?_ ?_, v0, v0⟩
        ·
         try (simp [Fx.get F])
         all_goals (
          first
          | (rw [qxl, beforeB_succ hil, qZ, qbf, qxl]; done)
          | (rw [qbf, hxn]; rfl)
          | (have q := beforeB_succ (l := xl) hil
             rw [qZ, ← qxl, ← qbf] at q
             rw [q]
             simp_all
             done)
          | (have q := beforeB_succ (l := xl) hil
             rw [qZ, ← qxl, ← qbf] at q
             rw [q]
             cases bf <;> simp_all
             done)
         )
        ·
         exact v1
       ·
        replace F := F.add hlt
        have hsz : coldTo (scooped c b g vs Z) b u = true → sumI Z = sumI xl ∧ (bf && !decide (Z = xl)) = false := fun k => by
          obtain ⟨q1, q2⟩ := best_after qbxl hil (by rw [qZ]; exact k) (by rw [qZ]; exact hlt)
          rw [qZ] at q1
          exact ⟨q1, by rw [← q2, beforeB_succ hil, qZ, qbf, qxl]⟩
        replace F := F.add hsz
        refine W.seqR ?_
        refine oN 3 ?_
        refine gT ?_
        refine gT ?_
        refine gT ?_
        refine gT ?_
        refine gT ?_
        refine gT ?_
        refine gT ?_
        refine gT ?_
        refine gT ?_
        refine gT ?_
        refine gT ?_
        refine gT ?_
        refine oN 1 ?_
        refine oK [4, 5, 6, 7, 8, 9, 10, 13, 14, 15, 145] ?_
        refine cT ?_
        refine W.exit ?_
        refine hK18 _ ?_
        clear hK19 K19 hK18 K18
        refine rEw ?_
        refine ⟨(i + 1, beforeB X L (i + 1)), lf ?_ ?_, v0, v0⟩
        ·
         try (simp [Fx.get F])
         all_goals (
          first
          | (rw [qxl, beforeB_succ hil, qZ, qbf, qxl]; done)
          | (rw [qbf, hxn]; rfl)
          | (have q := beforeB_succ (l := xl) hil
             rw [qZ, ← qxl, ← qbf] at q
             rw [q]
             simp_all
             done)
          | (have q := beforeB_succ (l := xl) hil
             rw [qZ, ← qxl, ← qbf] at q
             rw [q]
             cases bf <;> simp_all
             done)
         )
        ·
         exact v1
      ·
       replace F := F.add hgo
       have hok : coldTo (scooped c b g vs Z) b u = false := by simpa using hgo
       replace F := F.add hok
       by_cases hlt : sumI xl < sumI Z
       ·
        replace F := F.add hlt
        refine W.seqR ?_
        refine oN 3 ?_
        refine gT ?_
        refine gT ?_
        refine gT ?_
        refine gT ?_
        refine gF ?_
        refine gF ?_
        refine gF ?_
        refine gF ?_
        refine gF ?_
        refine gF ?_
        refine gF ?_
        refine gT ?_
        refine oN 1 ?_
        refine oK [4, 5, 6, 7, 8, 9, 10, 13, 14, 15, 145] ?_
        refine cT ?_
        refine W.exit ?_
        refine hK18 _ ?_
        clear hK19 K19 hK18 K18
        refine rEw ?_
        refine ⟨(i + 1, beforeB X L (i + 1)), lf ?_ ?_, v0, v0⟩
        ·
         try (simp [Fx.get F])
         all_goals (
          first
          | (rw [qxl, beforeB_succ hil, qZ, qbf, qxl]; done)
          | (rw [qbf, hxn]; rfl)
          | (have q := beforeB_succ (l := xl) hil
             rw [qZ, ← qxl, ← qbf] at q
             rw [q]
             simp_all
             done)
          | (have q := beforeB_succ (l := xl) hil
             rw [qZ, ← qxl, ← qbf] at q
             rw [q]
             cases bf <;> simp_all
             done)
         )
        ·
         exact v1
       ·
        replace F := F.add hlt
        have hsz : coldTo (scooped c b g vs Z) b u = true → sumI Z = sumI xl ∧ (bf && !decide (Z = xl)) = false := fun k => by
          obtain ⟨q1, q2⟩ := best_after qbxl hil (by rw [qZ]; exact k) (by rw [qZ]; exact hlt)
          rw [qZ] at q1
          exact ⟨q1, by rw [← q2, beforeB_succ hil, qZ, qbf, qxl]⟩
        replace F := F.add hsz
        by_cases heq : (sumI Z == sumI xl) = true
        ·
         replace F := F.add heq
         refine W.seqR ?_
         refine oN 3 ?_
         refine gT ?_
         refine gT ?_
         refine gT ?_
         refine gT ?_
         refine gT ?_
         refine gT ?_
         refine gT ?_
         refine gT ?_
         refine gT ?_
         refine gT ?_
         refine gT ?_
         refine gT ?_
         refine oN 1 ?_
         refine oK [4, 5, 6, 7, 8, 9, 10, 13, 14, 15, 145] ?_
         refine it (fun hc23 => ?_) (fun hc23 => ?_)
         ·
          try simp at hc23
          replace F := F.add hc23
          refine W.exit ?_
          refine hK18 _ ?_
          clear hK19 K19 hK18 K18
          refine rEw ?_
          refine ⟨(i + 1, beforeB X L (i + 1)), lf ?_ ?_, v0, v0⟩
          ·
           try (simp [Fx.get F])
           all_goals (
            first
            | (rw [qxl, beforeB_succ hil, qZ, qbf, qxl]; done)
            | (rw [qbf, hxn]; rfl)
            | (have q := beforeB_succ (l := xl) hil
               rw [qZ, ← qxl, ← qbf] at q
               rw [q]
               simp_all
               done)
            | (have q := beforeB_succ (l := xl) hil
               rw [qZ, ← qxl, ← qbf] at q
               rw [q]
               cases bf <;> simp_all
               done)
           )
          ·
           exact v1
         ·
          try simp at hc23
          replace F := F.add hc23
          refine W.skip ?_
          refine hK19 _ ?_
          clear hK19 K19
          have hok2 : coldTo (scooped c b g vs Z) b u = false := by first | assumption | exact (by have := bestL4_none (qbx.trans hxn) _ (List.getElem_mem hil); rw [qZ] at this; exact this)
          replace F := F.add hok2
          refine wD 9 [] [[], [], [], [], [], [4, 3], [3, 4, 5], [], [], [8, 7, 5, 4, 3, 6, 2, 1, 0]] ?_
          refine dB [([147, 148, 149, 150, 151, 152, 153, 154], [], []), ([146, 148, 149, 150, 151, 152, 153, 154], [false], []), ([146, 147, 149, 150, 151, 152, 153, 154], [false, false], []), ([146, 147, 148, 150, 153, 154], [false, false, false], []), ([146, 147, 148, 149, 153, 154], [false, false, false, false], []), ([146, 147, 148, 153, 154], [false, false, false, true, true], []), ([146, 147, 148, 153, 154], [false, false, false, true, true, true], []), ([146, 147, 148, 149, 150, 151, 152, 154], [false, false, false, false, false, false, false], []), ([146, 147, 148, 149, 150, 151, 152, 153], [false, false, false, false, false, false, false, false], [])] 0 9 ?_
          refine dD ?_
          refine oC [] ?_
          refine ct (stays_ok c qv b hbl vs qmv.ok Z (by omega) hzn qzs g (by omega) (by have := qmc.fl; omega) u (by omega)) ?_
          refine oK [4, 5, 6, 7, 8, 9, 10, 13, 14, 15, 155] ?_
          refine cF ?_
          refine W.skip ?_
          refine hK18 _ ?_
          clear hK18 K18
          refine rEw ?_
          refine ⟨(i + 1, beforeB X L (i + 1)), lf ?_ ?_, v0, v0⟩
          ·
           try (simp [Fx.get F])
           all_goals (
            first
            | (rw [qxl, beforeB_succ hil, qZ, qbf, qxl]; done)
            | (rw [qbf, hxn]; rfl)
            | (have q := beforeB_succ (l := xl) hil
               rw [qZ, ← qxl, ← qbf] at q
               rw [q]
               simp_all
               done)
            | (have q := beforeB_succ (l := xl) hil
               rw [qZ, ← qxl, ← qbf] at q
               rw [q]
               cases bf <;> simp_all
               done)
           )
          ·
           exact v1
        ·
         replace F := F.add heq
         refine W.seqR ?_
         refine oN 3 ?_
         refine gT ?_
         refine gT ?_
         refine gT ?_
         refine gT ?_
         refine gT ?_
         refine gT ?_
         refine gT ?_
         refine gT ?_
         refine gF ?_
         refine gF ?_
         refine gT ?_
         refine gT ?_
         refine oN 1 ?_
         refine oK [4, 5, 6, 7, 8, 9, 10, 13, 14, 15, 145] ?_
         refine cF ?_
         refine W.skip ?_
         refine hK19 _ ?_
         clear hK19 K19
         have hok2 : coldTo (scooped c b g vs Z) b u = false := by first | assumption | exact (by have := bestL4_none (qbx.trans hxn) _ (List.getElem_mem hil); rw [qZ] at this; exact this)
         replace F := F.add hok2
         refine wD 9 [] [[], [], [], [], [], [4, 3], [3, 4, 5], [], [], [8, 7, 5, 4, 3, 6, 2, 1, 0]] ?_
         refine dB [([147, 148, 149, 150, 151, 152, 153, 154], [], []), ([146, 148, 149, 150, 151, 152, 153, 154], [false], []), ([146, 147, 149, 150, 151, 152, 153, 154], [false, false], []), ([146, 147, 148, 150, 153, 154], [false, false, false], []), ([146, 147, 148, 149, 153, 154], [false, false, false, false], []), ([146, 147, 148, 153, 154], [false, false, false, true, true], []), ([146, 147, 148, 153, 154], [false, false, false, true, true, true], []), ([146, 147, 148, 149, 150, 151, 152, 154], [false, false, false, false, false, false, false], []), ([146, 147, 148, 149, 150, 151, 152, 153], [false, false, false, false, false, false, false, false], [])] 0 9 ?_
         refine dD ?_
         refine oC [] ?_
         refine ct (stays_ok c qv b hbl vs qmv.ok Z (by omega) hzn qzs g (by omega) (by have := qmc.fl; omega) u (by omega)) ?_
         refine oK [4, 5, 6, 7, 8, 9, 10, 13, 14, 15, 155] ?_
         refine cF ?_
         refine W.skip ?_
         refine hK18 _ ?_
         clear hK18 K18
         refine rEw ?_
         refine ⟨(i + 1, beforeB X L (i + 1)), lf ?_ ?_, v0, v0⟩
         ·
          try (simp [Fx.get F])
          all_goals (
           first
           | (rw [qxl, beforeB_succ hil, qZ, qbf, qxl]; done)
           | (rw [qbf, hxn]; rfl)
           | (have q := beforeB_succ (l := xl) hil
              rw [qZ, ← qxl, ← qbf] at q
              rw [q]
              simp_all
              done)
           | (have q := beforeB_succ (l := xl) hil
              rw [qZ, ← qxl, ← qbf] at q
              rw [q]
              cases bf <;> simp_all
              done)
          )
         ·
          exact v1
     ·
      try simp at hc19
      replace F := F.add hc19
      refine W.exit ?_
      refine hK16 _ ?_
      clear hK17 K17 hK16 K16
      refine W.seqR ?_
      refine oN 3 ?_
      refine gT ?_
      refine gT ?_
      refine oN 2 ?_
      refine gXc ?_
      refine cx (fun hg => by (try simp at hg); exact awake_ok) ?_
      refine oN 2 ?_
      refine oK [2] ?_
      refine W.ret ?_
      refine er false [] [] ?_
      first
      | exact ⟨rfl, rfl⟩
      | (rw [qbf, qxl, before_end qbxl (by omega)]
         exact ⟨rfl, rfl⟩)
end Go.Sim
