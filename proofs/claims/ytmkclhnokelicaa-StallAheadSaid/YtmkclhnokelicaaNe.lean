/- Who is ahead, by the rules: the law answers true. -/
import Derived.Test.YtmkclhnokelicaaNd
import Derived.Test.YtmkclhnokelicaaLu
namespace Go.Sim
open Go.Proofs
set_option maxRecDepth 100000
set_option linter.unusedSimpArgs false
set_option linter.unusedVariables false
attribute [-simp] List.map_set List.map_take List.map_drop
theorem rankL_next {l : Lett} {s j : Nat} (hj : j + 1 < (rankL l s).length) : ∃ a b : Nat, (rankL l s)[j] = (a : Int) ∧ (rankL l s)[j + 1] = (b : Int) ∧ a < l.apps.length ∧ b < l.apps.length ∧ canS l.stalls (nth l.apps a) s = true ∧ canS l.stalls (nth l.apps b) s = true ∧ aheadB l s a b = true := by
  obtain ⟨a, h1, h2, h3⟩ := mem_rankL.1 (List.getElem_mem (show j < (rankL l s).length by omega))
  obtain ⟨b, h4, h5, h6⟩ := mem_rankL.1 (List.getElem_mem hj)
  have h7 := List.pairwise_iff_getElem.1 (rankL_sorted l s) j (j + 1) (by omega) hj (by omega)
  rw [h1, h4] at h7
  have hab := ltQ_ne h7
  rw [ltQ_ahead hab] at h7
  exact ⟨a, b, h1, h4, h2, h5, h3, h6, h7⟩
theorem rankL_heir {l : Lett} {s a : Nat} (ha : a < l.apps.length) (hc : canS l.stalls (nth l.apps a) s = true) (hh : (nth l.stalls s).heir = (a : Int)) (h0 : 0 < (rankL l s).length) : (rankL l s)[0] = (a : Int) := by
  obtain ⟨b, h1, h2, h3⟩ := mem_rankL.1 (List.getElem_mem h0)
  by_cases hab : b = a
  · rw [h1, hab]
  · exfalso
    obtain ⟨j, hj, e⟩ := List.getElem_of_mem (mem_rankL.2 ⟨a, rfl, ha, hc⟩)
    have hj0 : 0 < j := by
      rcases Nat.eq_zero_or_pos j with q | q
      · subst q; rw [h1] at e; exact absurd (by omega) hab
      · exact q
    have h7 := List.pairwise_iff_getElem.1 (rankL_sorted l s) 0 j h0 hj hj0
    rw [h1, e, ltQ_ahead hab] at h7
    have h8 : aheadB l s a b = true := aheadB_iff.2 (.inl hh)
    rw [ahead_asym (fun e => hab e.symm) h8] at h7
    cases h7
theorem nth_pos {l : Lett} {pl : List Int} {a : Nat} (ha : a < l.apps.length) (hpl : pl.length = l.apps.length) (h : ∀ k, ∀ hk : k < (drawL l.apps).length, nth pl (drawL l.apps)[k].toNat = (k : Int)) : nth pl a = (posD l a : Int) := by
  obtain ⟨h1, h2⟩ := posD_get ha
  have := h _ h1
  rwa [h2, Int.toNat_natCast] at this
theorem places_step {D pl : List Int} {i c n : Nat} (hD : D.Nodup) (hi : i < D.length) (hc : D[i] = (c : Int)) (hcn : c < n) (hpl : pl.length = n) (hm : ∀ k, ∀ hk : k < D.length, ∃ c : Nat, D[k] = (c : Int) ∧ c < n) (h : ∀ k, k < i → ∀ hk : k < D.length, nth pl D[k].toNat = (k : Int)) :
    (pl.set c (i : Int)).length = n ∧ ∀ k, k < i + 1 → ∀ hk : k < D.length, nth (pl.set c (i : Int)) D[k].toNat = (k : Int) := by
  refine ⟨by rw [List.length_set]; exact hpl, fun k hk hkD => ?_⟩
  by_cases e : k = i
  · subst e; rw [hc, Int.toNat_natCast, nth_set_same (by omega)]
  · obtain ⟨d, hd, _⟩ := hm k hkD
    have hne : d ≠ c := fun e2 => by
      have e3 := hD.idxOf_getElem k hkD
      have e4 := hD.idxOf_getElem i hi
      rw [hd, e2, ← hc, e4] at e3
      exact e e3.symm
    rw [hd, Int.toNat_natCast, nth_set_other hne]
    have := h k (by omega) hkD
    rwa [hd, Int.toNat_natCast] at this
/-- what the rules say of two that follow each other -/
def RuP (rule heir : Int) (a b : Nat) (va vb ya yb : Int) (pa pb : Nat) : Prop := heir = (a : Int) ∨ (heir ≠ (a : Int) ∧ heir ≠ (b : Int) ∧ ((rule = 3 ∧ vb < va) ∨ ((rule = 3 → vb = va) ∧ ((rule ≠ 1 ∧ yb < ya) ∨ ((rule ≠ 1 → yb = ya) ∧ pa < pb)))))
section
variable {rule heir va vb ya yb : Int} {a b pa pb : Nat}
theorem RuP.nots (h : RuP rule heir a b va vb ya yb pa pb) (hh : ¬ heir = (a : Int)) : ¬ (b : Int) = heir := by
  rcases h with h | h
  · exact absurd h hh
  · exact fun e => h.2.1 e.symm
theorem RuP.lot (h : RuP rule heir a b va vb ya yb pa pb) (hh : ¬ heir = (a : Int)) (r : rule = 1) : pa < pb := by
  rcases h with h | ⟨_, _, h | ⟨_, h | h⟩⟩
  · exact absurd h hh
  · omega
  · omega
  · exact h.2
theorem RuP.bid (h : RuP rule heir a b va vb ya yb pa pb) (hh : ¬ heir = (a : Int)) (r : rule = 3) (hb : ¬ vb < va) : vb = va := by
  rcases h with h | ⟨_, _, h | ⟨h, _⟩⟩
  · exact absurd h hh
  · omega
  · exact h r
theorem RuP.yrs (h : RuP rule heir a b va vb ya yb pa pb) (hh : ¬ heir = (a : Int)) (r : ¬ rule = 1) (hb : rule = 3 → ¬ vb < va) (hy : ¬ yb < ya) : yb = ya ∧ pa < pb := by
  rcases h with h | ⟨_, _, h | ⟨_, h | h⟩⟩
  · exact absurd h hh
  · exact absurd h.2 (hb h.1)
  · exact absurd h.2 hy
  · exact ⟨h.1 r, h.2⟩
end
set_option maxHeartbeats 40000000 in
theorem StallAhead_ok (nums : List Int) : ACalls Try.prog 11 [ints nums] [] (fun r o => r = B true ∧ o = []) := by
 have F := Fx.nil
 refine ent Try.func11 Try.ntmps11 Try.results11 ?_
 refine rK [0] ?_
 refine W.seqR ?_
 refine oN 1 ?_
 refine oC [] ?_
 refine ct (DieOf_ok _) ?_
 refine oN 1 ?_
 refine oK [3] ?_
 refine W.seqR ?_
 refine oN 1 ?_
 refine oC [(10000, 224)] ?_
 refine CallT.mkE (LettingOf_ok _ 5 8 (by omega) (by omega) (by omega)) (fun z30 hz30 => ⟨(by simp), ?_⟩)
 obtain ⟨l, fd⟩ := z30
 have qmade : MadeL l 5 8 := hz30
 have hv : ValidL l := qmade.ok
 have h8 := hv.a8
 have hs8 := hv.s8
 have hs0 := hv.s0
 replace F := F.add hv |>.add h8 |>.add hs8 |>.add hs0
 refine WOps.norm (by simp [hv, h8, hs8, hs0]; rfl) ?_
 refine oN 2 ?_
 refine oK [3, 4] ?_
 refine W.seqR ?_
 refine fz 240 ?_
 refine fz 241 ?_
 refine oN 4 ?_
 refine oC [(10000, 224)] ?_
 refine ct (Cast_ok _ _ (by omega)) ?_
 refine oN 1 ?_
 refine oK [4, 5] ?_
 obtain ⟨s, qs⟩ : ∃ s : Nat, castV fd (l.stalls.length : Int) = (s : Int) := ⟨(castV fd (l.stalls.length : Int)).toNat, by have := castV_lo fd (l.stalls.length : Int); omega⟩
 have hsv := qs
 have hsl : s < l.stalls.length := by have := castV_hi fd (l.stalls.length : Int) (by omega); omega
 have qso := hv.st _ (List.getElem_mem hsl)
 have qn : nth l.stalls s = l.stalls[s] := nth_get hsl
 replace F := F.add hsv |>.add hsl
 refine rK [4, 5, 6] ?_
 refine W.seqR ?_
 refine oN 2 ?_
 refine oC [] ?_
 refine ct (Ranks_ok l hv s hsl) ?_
 refine oN 5 ?_
 refine oK [4, 5, 6, 7, 8] ?_
 refine W.seqR ?_
 refine oN 1 ?_
 refine oC [] ?_
 refine CallT.mk (Draw_ok l hv) (by simp [hv, h8, hs8, hs0, hsv, hsl]) ?_
 obtain ⟨X, qX⟩ : ∃ X, X = rankL l s := ⟨_, rfl⟩
 have hX := qX.symm
 have qXm : ∀ a : Nat, (a : Int) ∈ X ↔ a < l.apps.length ∧ canS l.stalls (nth l.apps a) s = true := fun a => by
   rw [qX, mem_rankL]
   exact ⟨fun ⟨b, h1, h2, h3⟩ => by have : b = a := by omega
                                    subst this; exact ⟨h2, h3⟩, fun ⟨h1, h2⟩ => ⟨a, rfl, h1, h2⟩⟩
 have hXl : X.length = (canL l s l.apps.length).length := by rw [qX]; exact sortL_len _ _
 have hXn : (canL l s l.apps.length).length ≤ 8 := by have := canL_len l s l.apps.length; omega
 obtain ⟨D, qD⟩ : ∃ D, D = drawL l.apps := ⟨_, rfl⟩
 have hD := qD.symm
 have hDl : D.length = l.apps.length := by rw [qD]; exact drawL_len _
 have qDm : ∀ k, ∀ hk : k < D.length, ∃ c : Nat, D[k] = (c : Int) ∧ c < l.apps.length := fun k hk => by
   have := mem_drawL.1 (show D[k] ∈ drawL l.apps by rw [← qD]; exact List.getElem_mem hk)
   exact ⟨D[k].toNat, by omega, by omega⟩
 have qDd : D.Nodup := by rw [qD]; exact drawL_nodup _
 replace F := F.add hX |>.add hXl |>.add hXn |>.add hD |>.add hDl
 refine WOps.norm (by simp [hv, h8, hs8, hs0, hsv, hsl, hX, hXl, hXn, hD, hDl]; rfl) ?_
 refine oN 5 ?_
 refine oK [4, 5, 6, 7, 8, 9, 10] ?_
 refine W.seqk fun K1 hK1 => ?_
 refine W.seqR ?_
 refine oN 3 ?_
 refine gT ?_
 refine gT ?_
 refine oN 2 ?_
 refine gT ?_
 refine gT ?_
 refine gT ?_
 refine gT ?_
 refine gT ?_
 refine gT ?_
 refine oN 1 ?_
 refine oK [4, 5, 6, 7, 9, 65] ?_
 refine cF ?_
 refine W.skip ?_
 refine hK1 _ ?_
 clear hK1 K1
 have hmk : (l.apps.length : Int) ≤ 16777216 := by omega
 have hmk2 : l.apps.length ≤ 16777216 := by omega
 replace F := F.add hmk |>.add hmk2
 refine wD 9 [] [[], [0], [0, 1], [1, 0, 2], [], [4], [4, 5], [5, 4, 6], [2, 0, 1, 3], [3, 1, 0, 2, 8, 6, 4, 5, 7]] ?_
 refine dB [([70, 71, 72, 73], [], []), ([70, 71, 72, 73], [true], []), ([70, 71, 72, 73], [true, true], []), ([70, 71, 72, 73], [true, true, true], []), ([66, 67, 68, 69, 11], [false, false, false, false], []), ([66, 67, 68, 69, 11], [false, false, false, false, true], []), ([66, 67, 68, 69, 11], [false, false, false, false, true, true], []), ([66, 67, 68, 69, 11], [false, false, false, false, true, true, true], []), ([70, 71, 72, 73], [true, true, true, true, false, false, false, false], [])] 0 9 ?_
 refine dD ?_
 refine oN 1 ?_
 refine oK [4, 5, 6, 7, 9, 11, 12] ?_
 refine W.seqk fun K2 hK2 => ?_
 refine rK [4, 5, 6, 7, 9, 11, 12, 13] ?_
 refine W.block ?_
 refine lpa (α := Nat × List Int) [4, 5, 6, 7, 9, 11, 12] [76, 91] [584] (fun x => [(13, I x.1)]) (fun x => [(584, .row true 3 1 (x.2.map I))]) (fun x => x.1 ≤ l.apps.length ∧ x.2.length = l.apps.length ∧ ∀ k, k < x.1 → ∀ hk : k < D.length, nth x.2 D[k].toNat = (k : Int)) (fun x => l.apps.length - x.1) (0, List.replicate l.apps.length 0) v0 ?_
 ·
  intro ⟨i, pl⟩ hI0
  simp only [List.cons_append, List.nil_append]
  try dsimp only at hI0
  obtain ⟨hi, hpl, qpl⟩ := hI0
  replace F := F.add hi |>.add hpl
  refine W.seqk fun K3 hK3 => ?_
  refine rK [4, 5, 6, 7, 9, 11, 12, 13, 77] ?_
  refine it (fun hc2 => ?_) (fun hc2 => ?_)
  ·
   try simp at hc2
   replace F := F.add hc2
   refine W.skip ?_
   refine hK3 _ ?_
   clear hK3 K3
   refine W.seqk fun K4 hK4 => ?_
   refine W.block ?_
   refine W.seqk fun K5 hK5 => ?_
   have hil : i < l.apps.length := by omega
   have hiD : i < D.length := by omega
   obtain ⟨c, qc, qcl⟩ := qDm i hiD
   have hDi := qc
   have hcl := qcl
   have hc0 : ¬ ((c : Int) < 0) := by omega
   replace F := F.add hil |>.add hiD |>.add hDi |>.add hcl |>.add hc0
   refine W.seqR ?_
   refine oN 6 ?_
   refine gT ?_
   refine gT ?_
   refine gT ?_
   refine gT ?_
   refine gT ?_
   refine gT ?_
   refine gT ?_
   refine oN 1 ?_
   refine oK [4, 5, 6, 7, 9, 11, 12, 13, 93] ?_
   refine cF ?_
   refine W.skip ?_
   refine hK5 _ ?_
   clear hK5 K5
   refine rE ?_
   refine hK4 _ ?_
   clear hK4 K4
   refine rEw ?_
   refine ⟨(i + 1, pl.set c i), lf0, ?_, v0⟩
   ·
    exact ⟨by show i + 1 ≤ _; omega, places_step qDd hiD qc qcl hpl qDm qpl⟩
  ·
   try simp at hc2
   replace F := F.add hc2
   refine W.exit ?_
   refine hK2 _ ?_
   clear hK3 K3 hK2 K2
   have hie : i = l.apps.length := by omega
   have qpos : ∀ a, ∀ ha : a < pl.length, pl[a] = (posD l a : Int) := fun a ha => by
     rw [← nth_get ha]
     exact nth_pos (by omega) hpl fun k hk => by
       subst qD; exact qpl k (by rw [drawL_len] at hk; omega) hk
   replace F := F.add hie
   refine rK [4, 5, 6, 7, 11, 12, 14] ?_
   refine W.seqk fun K6 hK6 => ?_
   refine rK [4, 5, 6, 7, 11, 12, 14, 15] ?_
   refine W.block ?_
   refine lp (α := Nat × List Int) [4, 5, 6, 7, 11, 12] [16, 104, 116, 151] [552] (fun x => [(15, I x.1), (14, I (canL l s x.1).length)]) (fun x => [(552, .row true 3 1 (x.2.map I))]) (fun x => x.1 ≤ l.apps.length ∧ x.2.length = l.apps.length ∧ ∀ a, a < x.1 → canS l.stalls (nth l.apps a) s = true → nth x.2 a = bidA (nth l.apps a) s) (fun x => l.apps.length - x.1) (0, List.replicate l.apps.length 0) ?_ ?_ v0 ?_
   ·
    try (simp [Fx.get F])
    all_goals (
     rfl
    )
   ·
    exact v1
   ·
    intro ⟨i, bd⟩ hI1
    simp only [List.cons_append, List.nil_append]
    try dsimp only at hI1
    obtain ⟨hi2, hbdl, qbd⟩ := hI1
    replace F := F.add hi2 |>.add hbdl
    refine W.seqk fun K7 hK7 => ?_
    refine rK [4, 5, 6, 7, 11, 12, 14, 15, 105] ?_
    refine it (fun hc4 => ?_) (fun hc4 => ?_)
    ·
     try simp at hc4
     replace F := F.add hc4
     refine W.skip ?_
     refine hK7 _ ?_
     clear hK7 K7
     refine W.seqk fun K8 hK8 => ?_
     refine W.block ?_
     have hil : i < l.apps.length := by omega
     have qap := hv.ap _ (List.getElem_mem hil)
     have hwb : l.apps[i].bids.length = l.apps[i].wishes.length := qap.len
     have hw8 : l.apps[i].wishes.length ≤ 8 := by have := qap.wlen; omega
     obtain ⟨V, qV⟩ : ∃ V, V = bidA l.apps[i] s := ⟨_, rfl⟩
     obtain ⟨cb, qcb⟩ : ∃ cb : Nat → Bool, ∀ k, cb k = (decide ((s : Int) ∈ l.apps[i].wishes.take k) && (!decide (l.stalls[s].rule = 3) || decide (l.stalls[s].least ≤ V))) := ⟨_, fun _ => rfl⟩
     have hcb0 : cb 0 = false := by rw [qcb]; simp
     replace F := F.add hil |>.add hwb |>.add hw8 |>.add hcb0
     refine rK [4, 5, 6, 7, 11, 12, 14, 15, 16] ?_
     refine rK [4, 5, 6, 7, 11, 12, 14, 15, 16, 17] ?_
     refine W.seqk fun K9 hK9 => ?_
     refine rK [4, 5, 6, 7, 11, 12, 14, 15, 16, 17, 18] ?_
     refine W.block ?_
     refine lpa (α := Nat × List Int) [4, 5, 6, 7, 11, 12, 14, 15, 16] [116] [552] (fun x => [(18, I x.1), (17, B (cb x.1))]) (fun x => [(552, .row true 3 1 (x.2.map I))]) (fun x => x.1 ≤ l.apps[i].wishes.length ∧ x.2.length = l.apps.length ∧ (∀ a, a < i → canS l.stalls (nth l.apps a) s = true → nth x.2 a = bidA (nth l.apps a) s) ∧ ((s : Int) ∈ l.apps[i].wishes.take x.1 → nth x.2 i = V)) (fun x => l.apps[i].wishes.length - x.1) (0, bd) v0 ?_
     ·
      intro ⟨k, b⟩ hI2
      simp only [List.cons_append, List.nil_append]
      try dsimp only at hI2
      obtain ⟨hkl, hbl, qb1, qb2⟩ := hI2
      replace F := F.add hkl |>.add hbl
      refine W.seqk fun K10 hK10 => ?_
      refine rK [4, 5, 6, 7, 11, 12, 14, 15, 16, 17, 18, 117] ?_
      refine it (fun hc5 => ?_) (fun hc5 => ?_)
      ·
       try simp at hc5
       replace F := F.add hc5
       refine W.skip ?_
       refine hK10 _ ?_
       clear hK10 K10
       refine W.seqk fun K11 hK11 => ?_
       refine W.block ?_
       by_cases hw : l.apps[i].wishes[k] = (s : Int)
       ·
        replace F := F.add hw
        have hkw : k < l.apps[i].wishes.length := by omega
        have hkb : k < l.apps[i].bids.length := by omega
        have hbk : l.apps[i].bids[k] = V := by rw [qV, bidA, ← hw, qap.nodup.idxOf_getElem k hkw, nth_get hkb]
        have qmem : (s : Int) ∈ l.apps[i].wishes.take (k + 1) := by rw [← hw]; exact List.mem_take_iff_getElem.2 ⟨k, by omega, rfl⟩
        replace F := F.add hkw |>.add hkb |>.add hbk
        by_cases hr3 : l.stalls[s].rule = 3
        ·
         replace F := F.add hr3
         have hr4 : (l.stalls[s].rule != 3) = false := by simp [hr3]
         replace F := F.add hr4
         by_cases hle : l.stalls[s].least ≤ V
         ·
          replace F := F.add hle
          have hcb : cb (k + 1) = true := by rw [qcb, decide_eq_true qmem, decide_eq_true hle, Bool.or_true]; rfl
          replace F := F.add hcb
          refine rK [4, 5, 6, 7, 11, 12, 14, 15, 16, 17, 18, 126] ?_
          refine cT ?_
          refine rK [4, 5, 6, 7, 11, 12, 14, 15, 16, 18] ?_
          refine wDe 11 [] [[], [0], [0, 1], [1, 0, 2], [2, 0, 1, 3], [3, 1, 0, 2, 4], [2, 0, 1, 3], [6, 4, 2, 0, 1, 3, 5], [5, 3, 1, 0, 2, 4, 6, 7], [2, 0, 1, 3], [3, 1, 0, 2, 9], [9, 10, 7, 6, 4, 2, 0, 1, 3, 5, 8], [8, 5, 4, 6, 7, 10, 9, 11, 2, 0, 1, 3], [3, 1, 0, 2, 11, 9, 10, 7, 6, 4, 5, 8, 12]] ?_
          refine dB [([], [], []), ([], [true], []), ([], [true, true], []), ([], [true, true, true], [])] 7 4 ?_
          refine dT [141, 144, 145] [true, true, true, true] [] ?_
          refine dT [141, 144, 145] [true, true, true, true, true] [] ?_
          refine dT [139, 140, 144, 145] [true, true, true, true, false, false] [] ?_
          refine dT [144, 145] [true, true, true, true, true, true, true] [] ?_
          refine dT [144, 145] [true, true, true, true, true, true, true, true] [] ?_
          refine dT [139, 140, 141, 142, 143] [true, true, true, true, false, false, false, false, false] [] ?_
          refine dT [139, 140, 141, 142, 143] [true, true, true, true, false, false, false, false, false, true] [] ?_
          refine dD ?_
          refine gT ?_
          refine oN 2 ?_
          refine WOps.endK ?_
          refine hK11 _ ?_
          clear hK11 K11
          refine rEw ?_
          refine ⟨(k + 1, b.set i V), lf0, ?_, v0⟩
          ·
           exact ⟨by show k + 1 ≤ _; omega, by rw [List.length_set]; exact hbl, fun a ha hc => by dsimp only; rw [nth_set_other (by omega)]; exact qb1 a ha hc, fun _ => nth_set_same (by omega)⟩
         ·
          replace F := F.add hle
          have hcb : cb (k + 1) = false := by rw [qcb, decide_eq_true qmem, decide_eq_false hle, decide_eq_true hr3]; rfl
          replace F := F.add hcb
          refine rK [4, 5, 6, 7, 11, 12, 14, 15, 16, 17, 18, 126] ?_
          refine cT ?_
          refine rK [4, 5, 6, 7, 11, 12, 14, 15, 16, 18] ?_
          refine wDe 11 [] [[], [0], [0, 1], [1, 0, 2], [2, 0, 1, 3], [3, 1, 0, 2, 4], [2, 0, 1, 3], [6, 4, 2, 0, 1, 3, 5], [5, 3, 1, 0, 2, 4, 6, 7], [2, 0, 1, 3], [3, 1, 0, 2, 9], [9, 10, 7, 6, 4, 2, 0, 1, 3, 5, 8], [8, 5, 4, 6, 7, 10, 9, 11, 2, 0, 1, 3], [3, 1, 0, 2, 11, 9, 10, 7, 6, 4, 5, 8, 12]] ?_
          refine dB [([], [], []), ([], [true], []), ([], [true, true], []), ([], [true, true, true], [])] 7 4 ?_
          refine dT [141, 144, 145] [true, true, true, true] [] ?_
          refine dT [141, 144, 145] [true, true, true, true, true] [] ?_
          refine dT [139, 140, 144, 145] [true, true, true, true, false, false] [] ?_
          refine dT [144, 145] [true, true, true, true, true, true, true] [] ?_
          refine dT [144, 145] [true, true, true, true, true, true, true, true] [] ?_
          refine dT [139, 140, 141, 142, 143] [true, true, true, true, false, false, false, false, false] [] ?_
          refine dT [139, 140, 141, 142, 143] [true, true, true, true, false, false, false, false, false, true] [] ?_
          refine dD ?_
          refine gT ?_
          refine oN 2 ?_
          refine WOps.endK ?_
          refine hK11 _ ?_
          clear hK11 K11
          refine rEw ?_
          refine ⟨(k + 1, b.set i V), lf0, ?_, v0⟩
          ·
           exact ⟨by show k + 1 ≤ _; omega, by rw [List.length_set]; exact hbl, fun a ha hc => by dsimp only; rw [nth_set_other (by omega)]; exact qb1 a ha hc, fun _ => nth_set_same (by omega)⟩
        ·
         replace F := F.add hr3
         have hr4 : (l.stalls[s].rule != 3) = true := by simp [hr3]
         have hcb : cb (k + 1) = true := by rw [qcb, decide_eq_true qmem, decide_eq_false hr3]; rfl
         replace F := F.add hr4 |>.add hcb
         refine rK [4, 5, 6, 7, 11, 12, 14, 15, 16, 17, 18, 126] ?_
         refine cT ?_
         refine rK [4, 5, 6, 7, 11, 12, 14, 15, 16, 18] ?_
         refine wDe 11 [] [[], [0], [0, 1], [1, 0, 2], [2, 0, 1, 3], [3, 1, 0, 2, 4], [2, 0, 1, 3], [6, 4, 2, 0, 1, 3, 5], [5, 3, 1, 0, 2, 4, 6, 7], [2, 0, 1, 3], [3, 1, 0, 2, 9], [9, 10, 7, 6, 4, 2, 0, 1, 3, 5, 8], [8, 5, 4, 6, 7, 10, 9, 11, 2, 0, 1, 3], [3, 1, 0, 2, 11, 9, 10, 7, 6, 4, 5, 8, 12]] ?_
         refine dB [([], [], []), ([], [true], []), ([], [true, true], []), ([], [true, true, true], [])] 7 4 ?_
         refine dF [some 139, some 140, some 141, some 142, some 143, some 144, some 145] 3 138 false 0 ?_
         refine dD ?_
         refine gF ?_
         refine oN 2 ?_
         refine WOps.endK ?_
         refine hK11 _ ?_
         clear hK11 K11
         refine rEw ?_
         refine ⟨(k + 1, b.set i V), lf0, ?_, v0⟩
         ·
          exact ⟨by show k + 1 ≤ _; omega, by rw [List.length_set]; exact hbl, fun a ha hc => by dsimp only; rw [nth_set_other (by omega)]; exact qb1 a ha hc, fun _ => nth_set_same (by omega)⟩
       ·
        replace F := F.add hw
        have hkw : k < l.apps[i].wishes.length := by omega
        have qmem : (s : Int) ∈ l.apps[i].wishes.take (k + 1) ↔ (s : Int) ∈ l.apps[i].wishes.take k := by
          rw [List.take_succ_eq_append_getElem hkw]
          simp only [List.mem_append, List.mem_singleton]
          exact ⟨fun h => h.resolve_right fun e => hw e.symm, .inl⟩
        have hcb : cb (k + 1) = cb k := by rw [qcb, qcb, decide_eq_decide.2 qmem]
        replace F := F.add hkw |>.add hcb
        refine rK [4, 5, 6, 7, 11, 12, 14, 15, 16, 17, 18, 126] ?_
        refine cF ?_
        refine W.skip ?_
        refine hK11 _ ?_
        clear hK11 K11
        refine rEw ?_
        refine ⟨(k + 1, b), lf0, v0, v0⟩
      ·
       try simp at hc5
       replace F := F.add hc5
       refine W.exit ?_
       refine hK9 _ ?_
       clear hK10 K10 hK9 K9
       refine W.seqk fun K12 hK12 => ?_
       by_cases hcan : canS l.stalls l.apps[i] s = true
       ·
        replace F := F.add hcan
        have hil : i < l.apps.length := hil
        have hke : k = l.apps[i].wishes.length := by omega
        have hce : cb l.apps[i].wishes.length = true := by rw [qcb, List.take_length, qV, ← canS_eq hsl]; exact hcan
        have hmX : (i : Int) ∈ X := (qXm i).2 ⟨hil, by rw [nth_get hil]; exact hcan⟩
        have hX0 : 0 < X.length := List.length_pos_of_mem hmX
        have hX1 : 0 < (canL l s l.apps.length).length := by omega
        replace F := F.add hil |>.add hke |>.add hce |>.add hmX |>.add hX0 |>.add hX1
        by_cases hhe : l.stalls[s].heir = (i : Int)
        ·
         replace F := F.add hhe
         have hh2 : (l.stalls[s].heir == (i : Int)) = true := by simp [hhe]
         have hX00 : X[0] = (i : Int) := by subst qX; exact rankL_heir hil (by rw [nth_get hil]; exact hcan) (by rw [qn]; exact hhe) hX0
         replace F := F.add hh2 |>.add hX00
         refine W.seqR ?_
         refine oN 3 ?_
         refine oC [] ?_
         refine ct (Has_ok _ _) ?_
         refine oN 2 ?_
         refine gT ?_
         refine gT ?_
         refine gT ?_
         refine gT ?_
         refine gT ?_
         refine gT ?_
         refine gT ?_
         refine gT ?_
         refine gT ?_
         refine gT ?_
         refine gT ?_
         refine gT ?_
         refine gT ?_
         refine gT ?_
         refine oN 1 ?_
         refine oK [4, 5, 6, 7, 11, 12, 14, 15, 17, 168] ?_
         refine cF ?_
         refine W.skip ?_
         refine hK12 _ ?_
         clear hK12 K12
         refine rK [4, 5, 6, 7, 11, 12, 14, 15, 169] ?_
         refine cT ?_
         refine rE ?_
         refine hK8 _ ?_
         clear hK8 K8
         refine rEw ?_
         refine ⟨(i + 1, b), lf ?_ ?_, ?_, v0⟩
         ·
          try (simp [Fx.get F])
          all_goals (
           have := wrap_i64 (n := ((canL l s i).length : Int) + 1) (by omega) (by have := canL_len l s i; omega)
           rw [this, canL_hit hil hcan, List.length_append]; rfl
          )
         ·
          exact v1
         ·
          exact ⟨by show i + 1 ≤ _; omega, hbl, fun a ha hc => by
            have ha : a < i + 1 := ha
            show nth b a = bidA (nth l.apps a) s
            by_cases e : a = i
            · subst e
              rw [nth_get hil] at hc ⊢
              rw [qb2 (by rw [hke, List.take_length]; exact canS_mem hc), qV]
            · exact qb1 a (by omega) hc⟩
        ·
         replace F := F.add hhe
         have hh2 : (l.stalls[s].heir == (i : Int)) = false := by simp [hhe]
         replace F := F.add hh2
         refine W.seqR ?_
         refine oN 3 ?_
         refine oC [] ?_
         refine ct (Has_ok _ _) ?_
         refine oN 2 ?_
         refine gT ?_
         refine gT ?_
         refine gT ?_
         refine gT ?_
         refine gT ?_
         refine gT ?_
         refine gT ?_
         refine gT ?_
         refine gF ?_
         refine gF ?_
         refine gF ?_
         refine gF ?_
         refine gF ?_
         refine gT ?_
         refine oN 1 ?_
         refine oK [4, 5, 6, 7, 11, 12, 14, 15, 17, 168] ?_
         refine cF ?_
         refine W.skip ?_
         refine hK12 _ ?_
         clear hK12 K12
         refine rK [4, 5, 6, 7, 11, 12, 14, 15, 169] ?_
         refine cT ?_
         refine rE ?_
         refine hK8 _ ?_
         clear hK8 K8
         refine rEw ?_
         refine ⟨(i + 1, b), lf ?_ ?_, ?_, v0⟩
         ·
          try (simp [Fx.get F])
          all_goals (
           have := wrap_i64 (n := ((canL l s i).length : Int) + 1) (by omega) (by have := canL_len l s i; omega)
           rw [this, canL_hit hil hcan, List.length_append]; rfl
          )
         ·
          exact v1
         ·
          exact ⟨by show i + 1 ≤ _; omega, hbl, fun a ha hc => by
            have ha : a < i + 1 := ha
            show nth b a = bidA (nth l.apps a) s
            by_cases e : a = i
            · subst e
              rw [nth_get hil] at hc ⊢
              rw [qb2 (by rw [hke, List.take_length]; exact canS_mem hc), qV]
            · exact qb1 a (by omega) hc⟩
       ·
        replace F := F.add hcan
        have hil : i < l.apps.length := hil
        have hke : k = l.apps[i].wishes.length := by omega
        have hce : cb l.apps[i].wishes.length = false := by rw [qcb, List.take_length, qV, ← canS_eq hsl]; simpa using hcan
        have hmX : (i : Int) ∉ X := fun h => hcan (by have := ((qXm i).1 h).2; rwa [nth_get hil] at this)
        replace F := F.add hil |>.add hke |>.add hce |>.add hmX
        refine W.seqR ?_
        refine oN 3 ?_
        refine oC [] ?_
        refine ct (Has_ok _ _) ?_
        refine oN 2 ?_
        refine gT ?_
        refine gT ?_
        refine gF ?_
        refine gF ?_
        refine gF ?_
        refine gF ?_
        refine gT ?_
        refine gT ?_
        refine gF ?_
        refine gF ?_
        refine gF ?_
        refine gF ?_
        refine gF ?_
        refine gT ?_
        refine oN 1 ?_
        refine oK [4, 5, 6, 7, 11, 12, 14, 15, 17, 168] ?_
        refine cF ?_
        refine W.skip ?_
        refine hK12 _ ?_
        clear hK12 K12
        refine rK [4, 5, 6, 7, 11, 12, 14, 15, 169] ?_
        refine cF ?_
        refine W.skip ?_
        refine hK8 _ ?_
        clear hK8 K8
        refine rEw ?_
        refine ⟨(i + 1, b), lf ?_ ?_, ?_, v0⟩
        ·
         try (simp [Fx.get F])
         all_goals (
          rw [canL_miss hil hcan]
         )
        ·
         exact v1
        ·
         exact ⟨by show i + 1 ≤ _; omega, hbl, fun a ha hc => by
           have ha : a < i + 1 := ha
           show nth b a = bidA (nth l.apps a) s
           by_cases e : a = i
           · subst e
             rw [nth_get hil] at hc ⊢
             rw [qb2 (by rw [hke, List.take_length]; exact canS_mem hc), qV]
           · exact qb1 a (by omega) hc⟩
    ·
     try simp at hc4
     replace F := F.add hc4
     refine W.exit ?_
     refine hK6 _ ?_
     clear hK7 K7 hK6 K6
     refine W.seqk fun K13 hK13 => ?_
     have hie2 : i = l.apps.length := by omega
     replace F := F.add hie2
     refine rK [4, 6, 7, 11, 12, 14, 19] ?_
     refine W.block ?_
     refine lpa (α := Nat) [4, 6, 7, 11, 12, 14] [22, 23, 174] [] (fun i => [(19, I i)]) (fun i => []) (fun i => 1 ≤ i ∧ i ≤ X.length + 1) (fun i => X.length + 1 - i) 1 v0 ?_
     ·
      intro i hI3
      simp only [List.cons_append, List.nil_append]
      try dsimp only at hI3
      obtain ⟨hi1, hi3⟩ := hI3
      replace F := F.add hi1 |>.add hi3
      refine W.seqk fun K14 hK14 => ?_
      refine rK [4, 6, 7, 11, 12, 14, 19, 175] ?_
      refine it (fun hc16 => ?_) (fun hc16 => ?_)
      ·
       try simp at hc16
       replace F := F.add hc16
       refine W.skip ?_
       refine hK14 _ ?_
       clear hK14 K14
       refine W.seqk fun K15 hK15 => ?_
       refine W.block ?_
       obtain ⟨j, rfl⟩ : ∃ j, i = j + 1 := ⟨i - 1, by omega⟩
       have hjX : j + 1 < X.length := by omega
       have hjX2 : j < X.length := by omega
       have hjn : j + 1 < (canL l s l.apps.length).length := by omega
       have hjn2 : j < (canL l s l.apps.length).length := by omega
       have hjn3 : (j : Int) + 1 < ((canL l s l.apps.length).length : Int) := by omega
       have hjn4 : (0 : Int) ≤ (j : Int) + 1 := by omega
       obtain ⟨a, b, qa, qb, qal, qbl, qac, qbc, qah⟩ : ∃ a b : Nat, X[j] = (a : Int) ∧ X[j + 1] = (b : Int) ∧ a < l.apps.length ∧ b < l.apps.length ∧ canS l.stalls (nth l.apps a) s = true ∧ canS l.stalls (nth l.apps b) s = true ∧ aheadB l s a b = true := by
         subst qX; exact rankL_next hjX
       have hXa := qa
       have hXb := qb
       have hal : a < l.apps.length := qal
       have hbl3 : b < l.apps.length := qbl
       have haB : a < bd.length := by omega
       have hbB : b < bd.length := by omega
       have haP : a < pl.length := by omega
       have hbP : b < pl.length := by omega
       obtain ⟨va, qva⟩ : ∃ v, v = bidA l.apps[a] s := ⟨_, rfl⟩
       obtain ⟨vb, qvb⟩ : ∃ v, v = bidA l.apps[b] s := ⟨_, rfl⟩
       have hBa : bd[a] = va := by rw [← nth_get haB, qbd a (by omega) qac, nth_get hal, qva]
       have hBb : bd[b] = vb := by rw [← nth_get hbB, qbd b (by omega) qbc, nth_get hbl3, qvb]
       obtain ⟨pa, qpa⟩ : ∃ p, p = posD l a := ⟨_, rfl⟩
       obtain ⟨pb, qpb⟩ : ∃ p, p = posD l b := ⟨_, rfl⟩
       have hPa : pl[a] = (pa : Int) := by rw [qpos a haP, qpa]
       have hPb : pl[b] = (pb : Int) := by rw [qpos b hbP, qpb]
       have qru : RuP l.stalls[s].rule l.stalls[s].heir a b va vb l.apps[a].years l.apps[b].years pa pb := by
         have := aheadB_iff.1 qah
         rwa [qn, nth_get hal, nth_get hbl3, ← qva, ← qvb, ← qpa, ← qpb] at this
       replace F := F.add hjX |>.add hjX2 |>.add hjn |>.add hjn2 |>.add hjn3 |>.add hjn4 |>.add hXa |>.add hXb |>.add hal |>.add hbl3 |>.add haB |>.add hbB |>.add haP |>.add hbP |>.add hBa |>.add hBb |>.add hPa |>.add hPb
       replace F := Fx.nil
       replace F := F.add h8 |>.add hs8 |>.add hsl |>.add hX |>.add hXl |>.add hXn |>.add hpl |>.add hbdl |>.add hie2 |>.add hi1 |>.add hi3 |>.add hjX |>.add hjX2 |>.add hjn |>.add hjn2 |>.add hjn3 |>.add hjn4 |>.add hXa |>.add hXb |>.add hal |>.add hbl3 |>.add haB |>.add hbB |>.add haP |>.add hbP |>.add hBa |>.add hBb |>.add hPa |>.add hPb
       refine wD 10 [] [[], [], [1], [1, 2, 0], [0, 2, 1, 3], [], [], [6, 5], [5, 6, 7], [3, 1, 2, 0, 4], [4, 0, 2, 1, 3, 9, 7, 6, 5, 8]] ?_
       refine dBw [([179, 180, 183, 184, 185, 186], [], []), ([178, 183, 184, 185, 186], [false], []), ([178, 183, 184, 185, 186], [false, true], []), ([183, 184, 185, 186], [true, true, true], []), ([183, 184, 185, 186], [true, true, true, true], []), ([178, 179, 180, 181, 182, 184, 20], [false, false, false, false, false], []), ([178, 179, 180, 181, 182, 183, 20], [false, false, false, false, false, false], []), ([178, 179, 180, 181, 182, 20], [false, false, false, false, false, true, true], []), ([178, 179, 180, 181, 182, 20], [false, false, false, false, false, true, true, true], []), ([183, 184, 185, 186], [true, true, true, true, true, false, false, false, false], [])] 0 10 ?_
       refine dD ?_
       refine oN 1 ?_
       refine oK [4, 6, 7, 11, 12, 14, 19, 20, 21] ?_
       refine W.seqk fun K16 hK16 => ?_
       by_cases hha : l.stalls[s].heir = (a : Int)
       ·
        replace F := F.add hha
        have hh1 : ((a : Int) == l.stalls[s].heir) = true := by simp [hha]
        replace F := F.add hh1
        refine rK [4, 6, 7, 11, 12, 14, 19, 20, 21, 190] ?_
        refine cT ?_
        refine W.exit ?_
        refine hK15 _ ?_
        clear hK16 K16 hK15 K15
        refine rEw ?_
        refine ⟨j + 2, lf0, v0, v0⟩
       ·
        replace F := F.add hha
        have hh1 : ((a : Int) == l.stalls[s].heir) = false := by rw [beq_eq_false_iff_ne]; exact fun e => hha e.symm
        have hh2 : ((b : Int) == l.stalls[s].heir) = false := by rw [beq_eq_false_iff_ne]; exact qru.nots hha
        replace F := F.add hh1 |>.add hh2
        refine rK [4, 6, 7, 11, 12, 14, 19, 20, 21, 190] ?_
        refine cF ?_
        refine W.skip ?_
        refine hK16 _ ?_
        clear hK16 K16
        refine wD 13 [(12, [176])] [[], [0], [], [2, 0, 1], [1, 0, 2, 3], [], [5], [], [7, 5, 6], [6, 5, 7, 8], [], [], [11, 3, 2, 0, 1, 4, 10], [10, 4, 1, 0, 2, 3, 12, 8, 7, 5, 6, 9, 11]] ?_
        refine dB [([193, 196, 197, 198, 199, 200, 22, 23], [], []), ([193, 196, 197, 198, 199, 200, 22, 23], [true], []), ([191, 192, 196, 197, 198, 199, 200, 22, 23], [false, false], []), ([196, 197, 198, 199, 200, 22, 23], [true, true, true], []), ([196, 197, 198, 199, 200, 22, 23], [true, true, true, true], []), ([191, 192, 193, 194, 195, 198, 22, 23], [false, false, false, false, false], [176]), ([191, 192, 193, 194, 195, 198, 22, 23], [false, false, false, false, false, true], [176]), ([191, 192, 193, 194, 195, 196, 197, 22, 23], [false, false, false, false, false, false, false], [176]), ([191, 192, 193, 194, 195, 22, 23], [false, false, false, false, false, true, true, true], [176]), ([191, 192, 193, 194, 195, 22, 23], [false, false, false, false, false, true, true, true, true], [176]), ([191, 192, 193, 194, 195, 196, 197, 198, 199, 200, 23], [false, false, false, false, false, false, false, false, false, false], []), ([191, 192, 193, 194, 195, 196, 197, 198, 199, 200, 22], [false, false, false, false, false, false, false, false, false, false, false], [])] 1 12 ?_
        refine WDraw.upd hΓ [176] (viewB_eq (L := [196, 197, 198, 199, 200]) (S := [true, true, true, true, true, false, false, false, false, false, true, true]) (O := []) (by kernel_rfl) (by kernel_rfl) (by simp [h8, hs8, hsl, hX, hXl, hXn, hpl, hbdl, hie2, hi1, hi3, hjX, hjX2, hjn, hjn2, hjn3, hjn4, hXa, hXb, hal, hbl3, haB, hbB, haP, hbP, hBa, hBb, hPa, hPb, hha, hh1, hh2]; rfl)) (by first | rfl | simp) (by simp [h8, hs8, hsl, hX, hXl, hXn, hpl, hbdl, hie2, hi1, hi3, hjX, hjX2, hjn, hjn2, hjn3, hjn4, hXa, hXb, hal, hbl3, haB, hbB, haP, hbP, hBa, hBb, hPa, hPb, hha, hh1, hh2]; first | rfl | exact ⟨rfl, rfl⟩) (by simp [h8, hs8, hsl, hX, hXl, hXn, hpl, hbdl, hie2, hi1, hi3, hjX, hjX2, hjn, hjn2, hjn3, hjn4, hXa, hXb, hal, hbl3, haB, hbB, haP, hbP, hBa, hBb, hPa, hPb, hha, hh1, hh2]; first | done | rfl) (.inr (by simp)) (by simp [h8, hs8, hsl, hX, hXl, hXn, hpl, hbdl, hie2, hi1, hi3, hjX, hjX2, hjn, hjn2, hjn3, hjn4, hXa, hXb, hal, hbl3, haB, hbB, haP, hbP, hBa, hBb, hPa, hPb, hha, hh1, hh2]; rfl) ?_
        refine dD ?_
        refine WOps.le Le.dedup rfl rfl ?_
        refine WOps.norm (by simp [h8, hs8, hsl, hX, hXl, hXn, hpl, hbdl, hie2, hi1, hi3, hjX, hjX2, hjn, hjn2, hjn3, hjn4, hXa, hXb, hal, hbl3, haB, hbB, haP, hbP, hBa, hBb, hPa, hPb, hha, hh1, hh2]; rfl) ?_
        refine oN 1 ?_
        refine oK [4, 6, 7, 11, 12, 14, 19, 20, 21, 22, 23] ?_
        by_cases r1 : l.stalls[s].rule = 1
        ·
         replace F := F.add r1
         have hpp : pa < pb := qru.lot hha r1
         replace F := F.add hpp
         refine rK [4, 6, 7, 11, 12, 14, 19, 20, 21, 22, 23, 24] ?_
         refine wD 37 [] [[], [0], [0, 1], [1, 0, 2], [2, 0, 1, 3], [3, 1, 0, 2, 4], [2, 0, 1, 3], [3, 1, 0, 2, 6], [6, 7, 4, 2, 0, 1, 3, 5], [5, 4, 7, 6, 8, 2, 0, 1, 3], [3, 1, 0, 2, 8, 6, 7, 4, 5, 9], [9, 5, 4, 7, 6, 8, 2, 0, 1, 3, 10], [10, 3, 1, 0, 2, 8, 6, 7, 4, 5, 9, 11], [11, 9, 5, 4, 7, 6, 8, 2, 0, 1, 3, 10, 12], [11, 9, 5, 4, 7, 6, 8, 2, 0, 1, 3, 10, 12], [14, 12, 10, 3, 1, 0, 2, 8, 6, 7, 4, 5, 9, 11, 13], [13, 11, 9, 5, 4, 7, 6, 8, 2, 0, 1, 3, 10, 12, 14, 15], [11, 9, 5, 4, 7, 6, 8, 2, 0, 1, 3, 10, 12], [11, 9, 5, 4, 7, 6, 8, 2, 0, 1, 3, 10, 12], [18, 12, 10, 3, 1, 0, 2, 8, 6, 7, 4, 5, 9, 11, 17], [17, 11, 9, 5, 4, 7, 6, 8, 2, 0, 1, 3, 10, 12, 18, 19], [19, 18, 17, 20, 15, 14, 12, 10, 3, 1, 0, 2, 8, 6, 7, 4, 5, 9, 11, 13, 16], [16, 13, 11, 9, 5, 4, 7, 6, 8, 2, 0, 1, 3, 10, 12, 14, 15, 20, 17, 18, 19, 21], [21, 19, 18, 17, 20, 15, 14, 12, 10, 3, 1, 0, 2, 8, 6, 7, 4, 5, 9, 11, 13, 16, 22], [21, 19, 18, 17, 20, 15, 14, 12, 10, 3, 1, 0, 2, 8, 6, 7, 4, 5, 9, 11, 13, 16, 22], [24, 22, 16, 13, 11, 9, 5, 4, 7, 6, 8, 2, 0, 1, 3, 10, 12, 14, 15, 20, 17, 18, 19, 21, 23], [23, 21, 19, 18, 17, 20, 15, 14, 12, 10, 3, 1, 0, 2, 8, 6, 7, 4, 5, 9, 11, 13, 16, 22, 24, 25], [21, 19, 18, 17, 20, 15, 14, 12, 10, 3, 1, 0, 2, 8, 6, 7, 4, 5, 9, 11, 13, 16, 22], [21, 19, 18, 17, 20, 15, 14, 12, 10, 3, 1, 0, 2, 8, 6, 7, 4, 5, 9, 11, 13, 16, 22], [28, 22, 16, 13, 11, 9, 5, 4, 7, 6, 8, 2, 0, 1, 3, 10, 12, 14, 15, 20, 17, 18, 19, 21, 27], [27, 21, 19, 18, 17, 20, 15, 14, 12, 10, 3, 1, 0, 2, 8, 6, 7, 4, 5, 9, 11, 13, 16, 22, 28, 29], [29, 28, 27, 30, 25, 24, 22, 16, 13, 11, 9, 5, 4, 7, 6, 8, 2, 0, 1, 3, 10, 12, 14, 15, 20, 17, 18, 19, 21, 23, 26], [26, 23, 21, 19, 18, 17, 20, 15, 14, 12, 10, 3, 1, 0, 2, 8, 6, 7, 4, 5, 9, 11, 13, 16, 22, 24, 25, 30, 27, 28, 29, 31], [31, 29, 28, 27, 30, 25, 24, 22, 16, 13, 11, 9, 5, 4, 7, 6, 8, 2, 0, 1, 3, 10, 12, 14, 15, 20, 17, 18, 19, 21, 23, 26, 32], [32, 26, 23, 21, 19, 18, 17, 20, 15, 14, 12, 10, 3, 1, 0, 2, 8, 6, 7, 4, 5, 9, 11, 13, 16, 22, 24, 25, 30, 27, 28, 29, 31, 33], [31, 29, 28, 27, 30, 25, 24, 22, 16, 13, 11, 9, 5, 4, 7, 6, 8, 2, 0, 1, 3, 10, 12, 14, 15, 20, 17, 18, 19, 21, 23, 26, 32], [32, 26, 23, 21, 19, 18, 17, 20, 15, 14, 12, 10, 3, 1, 0, 2, 8, 6, 7, 4, 5, 9, 11, 13, 16, 22, 24, 25, 30, 27, 28, 29, 31, 35], [35, 36, 33, 31, 29, 28, 27, 30, 25, 24, 22, 16, 13, 11, 9, 5, 4, 7, 6, 8, 2, 0, 1, 3, 10, 12, 14, 15, 20, 17, 18, 19, 21, 23, 26, 32, 34], [34, 33, 36, 35, 37, 31, 29, 28, 27, 30, 25, 24, 22, 16, 13, 11, 9, 5, 4, 7, 6, 8, 2, 0, 1, 3, 10, 12, 14, 15, 20, 17, 18, 19, 21, 23, 26, 32], [32, 26, 23, 24, 25, 30, 27, 28, 29, 31, 37, 35, 36, 33, 34, 38, 21, 19, 18, 17, 20, 15, 14, 12, 10, 3, 1, 0, 2, 8, 6, 7, 4, 5, 9, 11, 13, 16, 22], [22, 16, 13, 14, 15, 20, 17, 18, 19, 21, 38, 34, 33, 36, 35, 37, 31, 29, 28, 27, 30, 25, 24, 23, 26, 32, 39, 11, 9, 5, 4, 7, 6, 8, 2, 0, 1, 3, 10, 12], [12, 11, 39, 32, 26, 23, 24, 25, 30, 27, 28, 29, 31, 37, 35, 36, 33, 34, 38, 21, 19, 18, 17, 20, 15, 14, 13, 16, 22, 40, 9, 5, 4, 7, 6, 8, 2, 0, 1, 3, 10], [10, 3, 1, 0, 2, 8, 6, 7, 4, 5, 9, 40, 22, 16, 13, 14, 15, 20, 17, 18, 19, 21, 38, 34, 33, 36, 35, 37, 31, 29, 28, 27, 30, 25, 24, 23, 26, 32, 39, 11, 12, 41]] ?_
         refine dB [([], [], []), ([], [true], []), ([], [true, true], []), ([], [true, true, true], [])] 33 4 ?_
         refine dF [some 208, some 209, some 210, some 211, some 212] 3 207 true 28 ?_
         refine dB [([], [true, true, true, true, true, true, true, true, true], []), ([], [true, true, true, true, true, true, true, true, true, true], [])] 26 11 ?_
         refine dT [] [true, true, true, true, true, true, true, true, true, true, true] [] ?_
         refine dT [] [true, true, true, true, true, true, true, true, true, true, true, true] [] ?_
         refine dF [some 217, some 218, some 219, some 220, some 221, some 222, some 223, some 224, some 225, some 226] 12 216 true 14 ?_
         refine dF [some 227, some 228, some 229, some 230, some 231, some 232, some 233, some 234, some 235, some 236] 22 226 false 4 ?_
         refine dF [some 237, some 238, some 239, some 240] 32 236 true 0 ?_
         refine dD ?_
         refine gF ?_
         refine gF ?_
         refine gF ?_
         refine gT ?_
         refine oN 2 ?_
         refine oK [4, 6, 7, 11, 12, 14, 19, 20, 21, 22, 23, 24, 25] ?_
         refine wD 21 [] [[], [0], [0, 1], [1, 0, 2], [2, 0, 1, 3], [3, 1, 0, 2, 4], [2, 0, 1, 3], [3, 1, 0, 2, 6], [6, 7, 4, 2, 0, 1, 3, 5], [5, 3, 1, 0, 2, 4, 7, 6, 8], [8, 6, 7, 4, 2, 0, 1, 3, 5, 9], [9, 5, 3, 1, 0, 2, 4, 7, 6, 8, 10], [10, 8, 6, 7, 4, 2, 0, 1, 3, 5, 9, 11], [11, 9, 5, 3, 1, 0, 2, 4, 7, 6, 8, 10, 12], [11, 9, 5, 3, 1, 0, 2, 4, 7, 6, 8, 10, 12], [14, 12, 10, 8, 6, 7, 4, 2, 0, 1, 3, 5, 9, 11, 13], [13, 11, 9, 5, 3, 1, 0, 2, 4, 7, 6, 8, 10, 12, 14, 15], [11, 9, 5, 3, 1, 0, 2, 4, 7, 6, 8, 10, 12], [11, 9, 5, 3, 1, 0, 2, 4, 7, 6, 8, 10, 12], [18, 12, 10, 8, 6, 7, 4, 2, 0, 1, 3, 5, 9, 11, 17], [17, 11, 9, 5, 3, 1, 0, 2, 4, 7, 6, 8, 10, 12, 18, 19], [19, 18, 17, 20, 15, 14, 12, 10, 8, 6, 7, 4, 2, 0, 1, 3, 5, 9, 11, 13, 16], [16, 13, 14, 15, 20, 17, 18, 19, 21, 11, 9, 5, 3, 1, 0, 2, 4, 7, 6, 8, 10, 12], [12, 10, 11, 21, 19, 18, 17, 20, 15, 14, 13, 16, 22, 8, 6, 7, 4, 2, 0, 1, 3, 5, 9], [9, 5, 4, 7, 6, 8, 22, 16, 13, 14, 15, 20, 17, 18, 19, 21, 11, 10, 12, 23, 2, 0, 1, 3], [3, 1, 0, 2, 23, 12, 10, 11, 21, 19, 18, 17, 20, 15, 14, 13, 16, 22, 8, 6, 7, 4, 5, 9, 24]] ?_
         refine dB [([], [], []), ([], [true], []), ([], [true, true], []), ([], [true, true, true], [])] 17 4 ?_
         refine dF [some 250, some 251, some 252, some 253, some 254, some 255] 3 249 false 11 ?_
         refine dF [some 256, some 257, some 258] 9 255 true 8 ?_
         refine dF [some 259, some 260, some 261, some 262, some 263, some 264, some 265, some 266] 12 258 false 0 ?_
         refine dD ?_
         refine gF ?_
         refine gF ?_
         refine gF ?_
         refine oN 2 ?_
         refine oK [4, 6, 7, 11, 12, 14, 19, 20, 21, 25, 26] ?_
         refine wD 18 [] [[], [], [1], [1, 2, 0], [0, 2, 1, 3], [3, 1, 2, 0, 4], [4, 0, 2, 1, 3, 5], [5, 3, 1, 2, 0, 4, 6], [6, 4, 0, 2, 1, 3, 5, 7], [7, 5, 3, 1, 2, 0, 4, 6, 8], [8, 6, 4, 0, 2, 1, 3, 5, 7, 9], [8, 6, 4, 0, 2, 1, 3, 5, 7, 9], [11, 9, 7, 5, 3, 1, 2, 0, 4, 6, 8, 10], [10, 8, 6, 4, 0, 2, 1, 3, 5, 7, 9, 11, 12], [8, 6, 4, 0, 2, 1, 3, 5, 7, 9], [8, 6, 4, 0, 2, 1, 3, 5, 7, 9], [15, 9, 7, 5, 3, 1, 2, 0, 4, 6, 8, 14], [14, 8, 6, 4, 0, 2, 1, 3, 5, 7, 9, 15, 16], [16, 15, 14, 17, 12, 11, 9, 7, 5, 3, 1, 2, 0, 4, 6, 8, 10, 13], [13, 10, 11, 12, 17, 14, 15, 16, 18, 8, 6, 4, 0, 2, 1, 3, 5, 7, 9], [9, 7, 5, 3, 1, 2, 0, 4, 6, 8, 18, 16, 15, 14, 17, 12, 11, 10, 13, 19], [19, 13, 10, 11, 12, 17, 14, 15, 16, 18, 8, 9, 20, 6, 4, 0, 2, 1, 3, 5, 7], [7, 5, 6, 20, 9, 8, 18, 16, 15, 14, 17, 12, 11, 10, 13, 19, 21, 3, 1, 2, 0, 4]] ?_
         refine dB [([272, 273], [], []), ([271], [false], []), ([271], [false, true], []), ([], [true, true, true], []), ([], [true, true, true, true], [])] 13 5 ?_
         refine dT [] [true, true, true, true, true] [] ?_
         refine dT [] [true, true, true, true, true, true] [] ?_
         refine dT [] [true, true, true, true, true, true, true] [] ?_
         refine dT [] [true, true, true, true, true, true, true, true] [] ?_
         refine dT [] [true, true, true, true, true, true, true, true, true] [] ?_
         refine dT [282, 285, 286, 287, 288] [true, true, true, true, true, true, true, true, true, true] [] ?_
         refine dT [281, 285, 286, 287, 288] [true, true, true, true, true, true, true, true, true, true, false] [] ?_
         refine dT [285, 286, 287, 288] [true, true, true, true, true, true, true, true, true, true, true, true] [] ?_
         refine dT [285, 286, 287, 288] [true, true, true, true, true, true, true, true, true, true, true, true, true] [] ?_
         refine dT [281, 282, 283, 284, 286] [true, true, true, true, true, true, true, true, true, true, false, false, false, false] [] ?_
         refine dT [281, 282, 283, 284, 285] [true, true, true, true, true, true, true, true, true, true, false, false, false, false, false] [] ?_
         refine dT [281, 282, 283, 284] [true, true, true, true, true, true, true, true, true, true, false, false, false, false, true, true] [] ?_
         refine dT [281, 282, 283, 284] [true, true, true, true, true, true, true, true, true, true, false, false, false, false, true, true, true] [] ?_
         refine dD ?_
         refine gT ?_
         refine gT ?_
         refine gT ?_
         refine gT ?_
         refine oN 1 ?_
         refine oK [4, 6, 7, 11, 12, 14, 19, 293] ?_
         refine cF ?_
         refine W.skip ?_
         refine hK15 _ ?_
         clear hK15 K15
         refine rEw ?_
         refine ⟨j + 2, lf0, v0, v0⟩
        ·
         replace F := F.add r1
         by_cases r2 : l.stalls[s].rule = 2
         ·
          replace F := F.add r2
          by_cases hy : l.apps[b].years < l.apps[a].years
          ·
           replace F := F.add hy
           have hyb : (l.apps[a].years == l.apps[b].years) = false := by rw [beq_eq_false_iff_ne]; omega
           replace F := F.add hyb
           refine rK [4, 6, 7, 11, 12, 14, 19, 20, 21, 22, 23, 24] ?_
           refine wD 37 [] [[], [0], [0, 1], [1, 0, 2], [2, 0, 1, 3], [3, 1, 0, 2, 4], [2, 0, 1, 3], [3, 1, 0, 2, 6], [6, 7, 4, 2, 0, 1, 3, 5], [5, 4, 7, 6, 8, 2, 0, 1, 3], [3, 1, 0, 2, 8, 6, 7, 4, 5, 9], [9, 5, 4, 7, 6, 8, 2, 0, 1, 3, 10], [10, 3, 1, 0, 2, 8, 6, 7, 4, 5, 9, 11], [11, 9, 5, 4, 7, 6, 8, 2, 0, 1, 3, 10, 12], [11, 9, 5, 4, 7, 6, 8, 2, 0, 1, 3, 10, 12], [14, 12, 10, 3, 1, 0, 2, 8, 6, 7, 4, 5, 9, 11, 13], [13, 11, 9, 5, 4, 7, 6, 8, 2, 0, 1, 3, 10, 12, 14, 15], [11, 9, 5, 4, 7, 6, 8, 2, 0, 1, 3, 10, 12], [11, 9, 5, 4, 7, 6, 8, 2, 0, 1, 3, 10, 12], [18, 12, 10, 3, 1, 0, 2, 8, 6, 7, 4, 5, 9, 11, 17], [17, 11, 9, 5, 4, 7, 6, 8, 2, 0, 1, 3, 10, 12, 18, 19], [19, 18, 17, 20, 15, 14, 12, 10, 3, 1, 0, 2, 8, 6, 7, 4, 5, 9, 11, 13, 16], [16, 13, 11, 9, 5, 4, 7, 6, 8, 2, 0, 1, 3, 10, 12, 14, 15, 20, 17, 18, 19, 21], [21, 19, 18, 17, 20, 15, 14, 12, 10, 3, 1, 0, 2, 8, 6, 7, 4, 5, 9, 11, 13, 16, 22], [21, 19, 18, 17, 20, 15, 14, 12, 10, 3, 1, 0, 2, 8, 6, 7, 4, 5, 9, 11, 13, 16, 22], [24, 22, 16, 13, 11, 9, 5, 4, 7, 6, 8, 2, 0, 1, 3, 10, 12, 14, 15, 20, 17, 18, 19, 21, 23], [23, 21, 19, 18, 17, 20, 15, 14, 12, 10, 3, 1, 0, 2, 8, 6, 7, 4, 5, 9, 11, 13, 16, 22, 24, 25], [21, 19, 18, 17, 20, 15, 14, 12, 10, 3, 1, 0, 2, 8, 6, 7, 4, 5, 9, 11, 13, 16, 22], [21, 19, 18, 17, 20, 15, 14, 12, 10, 3, 1, 0, 2, 8, 6, 7, 4, 5, 9, 11, 13, 16, 22], [28, 22, 16, 13, 11, 9, 5, 4, 7, 6, 8, 2, 0, 1, 3, 10, 12, 14, 15, 20, 17, 18, 19, 21, 27], [27, 21, 19, 18, 17, 20, 15, 14, 12, 10, 3, 1, 0, 2, 8, 6, 7, 4, 5, 9, 11, 13, 16, 22, 28, 29], [29, 28, 27, 30, 25, 24, 22, 16, 13, 11, 9, 5, 4, 7, 6, 8, 2, 0, 1, 3, 10, 12, 14, 15, 20, 17, 18, 19, 21, 23, 26], [26, 23, 21, 19, 18, 17, 20, 15, 14, 12, 10, 3, 1, 0, 2, 8, 6, 7, 4, 5, 9, 11, 13, 16, 22, 24, 25, 30, 27, 28, 29, 31], [31, 29, 28, 27, 30, 25, 24, 22, 16, 13, 11, 9, 5, 4, 7, 6, 8, 2, 0, 1, 3, 10, 12, 14, 15, 20, 17, 18, 19, 21, 23, 26, 32], [32, 26, 23, 21, 19, 18, 17, 20, 15, 14, 12, 10, 3, 1, 0, 2, 8, 6, 7, 4, 5, 9, 11, 13, 16, 22, 24, 25, 30, 27, 28, 29, 31, 33], [31, 29, 28, 27, 30, 25, 24, 22, 16, 13, 11, 9, 5, 4, 7, 6, 8, 2, 0, 1, 3, 10, 12, 14, 15, 20, 17, 18, 19, 21, 23, 26, 32], [32, 26, 23, 21, 19, 18, 17, 20, 15, 14, 12, 10, 3, 1, 0, 2, 8, 6, 7, 4, 5, 9, 11, 13, 16, 22, 24, 25, 30, 27, 28, 29, 31, 35], [35, 36, 33, 31, 29, 28, 27, 30, 25, 24, 22, 16, 13, 11, 9, 5, 4, 7, 6, 8, 2, 0, 1, 3, 10, 12, 14, 15, 20, 17, 18, 19, 21, 23, 26, 32, 34], [34, 33, 36, 35, 37, 31, 29, 28, 27, 30, 25, 24, 22, 16, 13, 11, 9, 5, 4, 7, 6, 8, 2, 0, 1, 3, 10, 12, 14, 15, 20, 17, 18, 19, 21, 23, 26, 32], [32, 26, 23, 24, 25, 30, 27, 28, 29, 31, 37, 35, 36, 33, 34, 38, 21, 19, 18, 17, 20, 15, 14, 12, 10, 3, 1, 0, 2, 8, 6, 7, 4, 5, 9, 11, 13, 16, 22], [22, 16, 13, 14, 15, 20, 17, 18, 19, 21, 38, 34, 33, 36, 35, 37, 31, 29, 28, 27, 30, 25, 24, 23, 26, 32, 39, 11, 9, 5, 4, 7, 6, 8, 2, 0, 1, 3, 10, 12], [12, 11, 39, 32, 26, 23, 24, 25, 30, 27, 28, 29, 31, 37, 35, 36, 33, 34, 38, 21, 19, 18, 17, 20, 15, 14, 13, 16, 22, 40, 9, 5, 4, 7, 6, 8, 2, 0, 1, 3, 10], [10, 3, 1, 0, 2, 8, 6, 7, 4, 5, 9, 40, 22, 16, 13, 14, 15, 20, 17, 18, 19, 21, 38, 34, 33, 36, 35, 37, 31, 29, 28, 27, 30, 25, 24, 23, 26, 32, 39, 11, 12, 41]] ?_
           refine dB [([], [], []), ([], [true], []), ([], [true, true], []), ([], [true, true, true], [])] 33 4 ?_
           refine dT [210, 211] [true, true, true, true] [] ?_
           refine dT [210, 211] [true, true, true, true, true] [] ?_
           refine dT [208, 209] [true, true, true, true, false, false] [] ?_
           refine dT [208, 209] [true, true, true, true, false, false, true] [] ?_
           refine dT [] [true, true, true, true, true, true, true, true] [] ?_
           refine dB [([], [true, true, true, true, true, true, true, true, true], []), ([], [true, true, true, true, true, true, true, true, true, true], [])] 26 11 ?_
           refine dF [some 215, some 216] 10 214 false 24 ?_
           refine dF [some 217, some 218, some 219, some 220, some 221, some 222, some 223, some 224, some 225, some 226] 12 216 true 14 ?_
           refine dF [some 227, some 228, some 229, some 230, some 231, some 232, some 233, some 234, some 235, some 236] 22 226 false 4 ?_
           refine dF [some 237, some 238, some 239, some 240] 32 236 true 0 ?_
           refine dD ?_
           refine gF ?_
           refine gF ?_
           refine gF ?_
           refine gF ?_
           refine oN 2 ?_
           refine oK [4, 6, 7, 11, 12, 14, 19, 20, 21, 22, 23, 24, 25] ?_
           refine wD 21 [] [[], [0], [0, 1], [1, 0, 2], [2, 0, 1, 3], [3, 1, 0, 2, 4], [2, 0, 1, 3], [3, 1, 0, 2, 6], [6, 7, 4, 2, 0, 1, 3, 5], [5, 3, 1, 0, 2, 4, 7, 6, 8], [8, 6, 7, 4, 2, 0, 1, 3, 5, 9], [9, 5, 3, 1, 0, 2, 4, 7, 6, 8, 10], [10, 8, 6, 7, 4, 2, 0, 1, 3, 5, 9, 11], [11, 9, 5, 3, 1, 0, 2, 4, 7, 6, 8, 10, 12], [11, 9, 5, 3, 1, 0, 2, 4, 7, 6, 8, 10, 12], [14, 12, 10, 8, 6, 7, 4, 2, 0, 1, 3, 5, 9, 11, 13], [13, 11, 9, 5, 3, 1, 0, 2, 4, 7, 6, 8, 10, 12, 14, 15], [11, 9, 5, 3, 1, 0, 2, 4, 7, 6, 8, 10, 12], [11, 9, 5, 3, 1, 0, 2, 4, 7, 6, 8, 10, 12], [18, 12, 10, 8, 6, 7, 4, 2, 0, 1, 3, 5, 9, 11, 17], [17, 11, 9, 5, 3, 1, 0, 2, 4, 7, 6, 8, 10, 12, 18, 19], [19, 18, 17, 20, 15, 14, 12, 10, 8, 6, 7, 4, 2, 0, 1, 3, 5, 9, 11, 13, 16], [16, 13, 14, 15, 20, 17, 18, 19, 21, 11, 9, 5, 3, 1, 0, 2, 4, 7, 6, 8, 10, 12], [12, 10, 11, 21, 19, 18, 17, 20, 15, 14, 13, 16, 22, 8, 6, 7, 4, 2, 0, 1, 3, 5, 9], [9, 5, 4, 7, 6, 8, 22, 16, 13, 14, 15, 20, 17, 18, 19, 21, 11, 10, 12, 23, 2, 0, 1, 3], [3, 1, 0, 2, 23, 12, 10, 11, 21, 19, 18, 17, 20, 15, 14, 13, 16, 22, 8, 6, 7, 4, 5, 9, 24]] ?_
           refine dB [([], [], []), ([], [true], []), ([], [true, true], []), ([], [true, true, true], [])] 17 4 ?_
           refine dT [252, 253] [true, true, true, true] [] ?_
           refine dT [252, 253] [true, true, true, true, true] [] ?_
           refine dT [250, 251] [true, true, true, true, false, false] [] ?_
           refine dT [250, 251] [true, true, true, true, false, false, true] [] ?_
           refine dT [] [true, true, true, true, true, true, true, true] [] ?_
           refine dT [] [true, true, true, true, true, true, true, true, true] [] ?_
           refine dF [some 256, some 257, some 258] 9 255 true 8 ?_
           refine dF [some 259, some 260, some 261, some 262, some 263, some 264, some 265, some 266] 12 258 false 0 ?_
           refine dD ?_
           refine gF ?_
           refine gF ?_
           refine gT ?_
           refine oN 2 ?_
           refine oK [4, 6, 7, 11, 12, 14, 19, 20, 21, 25, 26] ?_
           refine wD 18 [] [[], [], [1], [1, 2, 0], [0, 2, 1, 3], [3, 1, 2, 0, 4], [4, 0, 2, 1, 3, 5], [5, 3, 1, 2, 0, 4, 6], [6, 4, 0, 2, 1, 3, 5, 7], [7, 5, 3, 1, 2, 0, 4, 6, 8], [8, 6, 4, 0, 2, 1, 3, 5, 7, 9], [8, 6, 4, 0, 2, 1, 3, 5, 7, 9], [11, 9, 7, 5, 3, 1, 2, 0, 4, 6, 8, 10], [10, 8, 6, 4, 0, 2, 1, 3, 5, 7, 9, 11, 12], [8, 6, 4, 0, 2, 1, 3, 5, 7, 9], [8, 6, 4, 0, 2, 1, 3, 5, 7, 9], [15, 9, 7, 5, 3, 1, 2, 0, 4, 6, 8, 14], [14, 8, 6, 4, 0, 2, 1, 3, 5, 7, 9, 15, 16], [16, 15, 14, 17, 12, 11, 9, 7, 5, 3, 1, 2, 0, 4, 6, 8, 10, 13], [13, 10, 11, 12, 17, 14, 15, 16, 18, 8, 6, 4, 0, 2, 1, 3, 5, 7, 9], [9, 7, 5, 3, 1, 2, 0, 4, 6, 8, 18, 16, 15, 14, 17, 12, 11, 10, 13, 19], [19, 13, 10, 11, 12, 17, 14, 15, 16, 18, 8, 9, 20, 6, 4, 0, 2, 1, 3, 5, 7], [7, 5, 6, 20, 9, 8, 18, 16, 15, 14, 17, 12, 11, 10, 13, 19, 21, 3, 1, 2, 0, 4]] ?_
           refine dB [([272, 273], [], []), ([271], [false], []), ([271], [false, true], []), ([], [true, true, true], []), ([], [true, true, true, true], [])] 13 5 ?_
           refine dT [] [true, true, true, true, true] [] ?_
           refine dT [] [true, true, true, true, true, true] [] ?_
           refine dT [] [true, true, true, true, true, true, true] [] ?_
           refine dF [some 279, some 280] 7 278 true 8 ?_
           refine dF [some 281, some 282, some 283, some 284, some 285, some 286, some 287, some 288] 9 280 true 0 ?_
           refine dD ?_
           refine gF ?_
           refine gF ?_
           refine gF ?_
           refine gT ?_
           refine oN 1 ?_
           refine oK [4, 6, 7, 11, 12, 14, 19, 293] ?_
           refine cF ?_
           refine W.skip ?_
           refine hK15 _ ?_
           clear hK15 K15
           refine rEw ?_
           refine ⟨j + 2, lf0, v0, v0⟩
          ·
           replace F := F.add hy
           have hye : l.apps[b].years = l.apps[a].years := (qru.yrs hha r1 (fun q => by rw [r2] at q; exact absurd q (by decide)) hy).1
           have hpp : pa < pb := (qru.yrs hha r1 (fun q => by rw [r2] at q; exact absurd q (by decide)) hy).2
           replace F := F.add hye |>.add hpp
           refine rK [4, 6, 7, 11, 12, 14, 19, 20, 21, 22, 23, 24] ?_
           refine wD 37 [] [[], [0], [0, 1], [1, 0, 2], [2, 0, 1, 3], [3, 1, 0, 2, 4], [2, 0, 1, 3], [3, 1, 0, 2, 6], [6, 7, 4, 2, 0, 1, 3, 5], [5, 4, 7, 6, 8, 2, 0, 1, 3], [3, 1, 0, 2, 8, 6, 7, 4, 5, 9], [9, 5, 4, 7, 6, 8, 2, 0, 1, 3, 10], [10, 3, 1, 0, 2, 8, 6, 7, 4, 5, 9, 11], [11, 9, 5, 4, 7, 6, 8, 2, 0, 1, 3, 10, 12], [11, 9, 5, 4, 7, 6, 8, 2, 0, 1, 3, 10, 12], [14, 12, 10, 3, 1, 0, 2, 8, 6, 7, 4, 5, 9, 11, 13], [13, 11, 9, 5, 4, 7, 6, 8, 2, 0, 1, 3, 10, 12, 14, 15], [11, 9, 5, 4, 7, 6, 8, 2, 0, 1, 3, 10, 12], [11, 9, 5, 4, 7, 6, 8, 2, 0, 1, 3, 10, 12], [18, 12, 10, 3, 1, 0, 2, 8, 6, 7, 4, 5, 9, 11, 17], [17, 11, 9, 5, 4, 7, 6, 8, 2, 0, 1, 3, 10, 12, 18, 19], [19, 18, 17, 20, 15, 14, 12, 10, 3, 1, 0, 2, 8, 6, 7, 4, 5, 9, 11, 13, 16], [16, 13, 11, 9, 5, 4, 7, 6, 8, 2, 0, 1, 3, 10, 12, 14, 15, 20, 17, 18, 19, 21], [21, 19, 18, 17, 20, 15, 14, 12, 10, 3, 1, 0, 2, 8, 6, 7, 4, 5, 9, 11, 13, 16, 22], [21, 19, 18, 17, 20, 15, 14, 12, 10, 3, 1, 0, 2, 8, 6, 7, 4, 5, 9, 11, 13, 16, 22], [24, 22, 16, 13, 11, 9, 5, 4, 7, 6, 8, 2, 0, 1, 3, 10, 12, 14, 15, 20, 17, 18, 19, 21, 23], [23, 21, 19, 18, 17, 20, 15, 14, 12, 10, 3, 1, 0, 2, 8, 6, 7, 4, 5, 9, 11, 13, 16, 22, 24, 25], [21, 19, 18, 17, 20, 15, 14, 12, 10, 3, 1, 0, 2, 8, 6, 7, 4, 5, 9, 11, 13, 16, 22], [21, 19, 18, 17, 20, 15, 14, 12, 10, 3, 1, 0, 2, 8, 6, 7, 4, 5, 9, 11, 13, 16, 22], [28, 22, 16, 13, 11, 9, 5, 4, 7, 6, 8, 2, 0, 1, 3, 10, 12, 14, 15, 20, 17, 18, 19, 21, 27], [27, 21, 19, 18, 17, 20, 15, 14, 12, 10, 3, 1, 0, 2, 8, 6, 7, 4, 5, 9, 11, 13, 16, 22, 28, 29], [29, 28, 27, 30, 25, 24, 22, 16, 13, 11, 9, 5, 4, 7, 6, 8, 2, 0, 1, 3, 10, 12, 14, 15, 20, 17, 18, 19, 21, 23, 26], [26, 23, 21, 19, 18, 17, 20, 15, 14, 12, 10, 3, 1, 0, 2, 8, 6, 7, 4, 5, 9, 11, 13, 16, 22, 24, 25, 30, 27, 28, 29, 31], [31, 29, 28, 27, 30, 25, 24, 22, 16, 13, 11, 9, 5, 4, 7, 6, 8, 2, 0, 1, 3, 10, 12, 14, 15, 20, 17, 18, 19, 21, 23, 26, 32], [32, 26, 23, 21, 19, 18, 17, 20, 15, 14, 12, 10, 3, 1, 0, 2, 8, 6, 7, 4, 5, 9, 11, 13, 16, 22, 24, 25, 30, 27, 28, 29, 31, 33], [31, 29, 28, 27, 30, 25, 24, 22, 16, 13, 11, 9, 5, 4, 7, 6, 8, 2, 0, 1, 3, 10, 12, 14, 15, 20, 17, 18, 19, 21, 23, 26, 32], [32, 26, 23, 21, 19, 18, 17, 20, 15, 14, 12, 10, 3, 1, 0, 2, 8, 6, 7, 4, 5, 9, 11, 13, 16, 22, 24, 25, 30, 27, 28, 29, 31, 35], [35, 36, 33, 31, 29, 28, 27, 30, 25, 24, 22, 16, 13, 11, 9, 5, 4, 7, 6, 8, 2, 0, 1, 3, 10, 12, 14, 15, 20, 17, 18, 19, 21, 23, 26, 32, 34], [34, 33, 36, 35, 37, 31, 29, 28, 27, 30, 25, 24, 22, 16, 13, 11, 9, 5, 4, 7, 6, 8, 2, 0, 1, 3, 10, 12, 14, 15, 20, 17, 18, 19, 21, 23, 26, 32], [32, 26, 23, 24, 25, 30, 27, 28, 29, 31, 37, 35, 36, 33, 34, 38, 21, 19, 18, 17, 20, 15, 14, 12, 10, 3, 1, 0, 2, 8, 6, 7, 4, 5, 9, 11, 13, 16, 22], [22, 16, 13, 14, 15, 20, 17, 18, 19, 21, 38, 34, 33, 36, 35, 37, 31, 29, 28, 27, 30, 25, 24, 23, 26, 32, 39, 11, 9, 5, 4, 7, 6, 8, 2, 0, 1, 3, 10, 12], [12, 11, 39, 32, 26, 23, 24, 25, 30, 27, 28, 29, 31, 37, 35, 36, 33, 34, 38, 21, 19, 18, 17, 20, 15, 14, 13, 16, 22, 40, 9, 5, 4, 7, 6, 8, 2, 0, 1, 3, 10], [10, 3, 1, 0, 2, 8, 6, 7, 4, 5, 9, 40, 22, 16, 13, 14, 15, 20, 17, 18, 19, 21, 38, 34, 33, 36, 35, 37, 31, 29, 28, 27, 30, 25, 24, 23, 26, 32, 39, 11, 12, 41]] ?_
           refine dB [([], [], []), ([], [true], []), ([], [true, true], []), ([], [true, true, true], [])] 33 4 ?_
           refine dT [210, 211] [true, true, true, true] [] ?_
           refine dT [210, 211] [true, true, true, true, true] [] ?_
           refine dT [208, 209] [true, true, true, true, false, false] [] ?_
           refine dT [208, 209] [true, true, true, true, false, false, true] [] ?_
           refine dT [] [true, true, true, true, true, true, true, true] [] ?_
           refine dB [([], [true, true, true, true, true, true, true, true, true], []), ([], [true, true, true, true, true, true, true, true, true, true], [])] 26 11 ?_
           refine dT [] [true, true, true, true, true, true, true, true, true, true, true] [] ?_
           refine dT [] [true, true, true, true, true, true, true, true, true, true, true, true] [] ?_
           refine dF [some 217, some 218, some 219, some 220, some 221, some 222, some 223, some 224, some 225, some 226] 12 216 true 14 ?_
           refine dF [some 227, some 228, some 229, some 230, some 231, some 232, some 233, some 234, some 235, some 236] 22 226 false 4 ?_
           refine dF [some 237, some 238, some 239, some 240] 32 236 true 0 ?_
           refine dD ?_
           refine gF ?_
           refine gF ?_
           refine gF ?_
           refine gT ?_
           refine oN 2 ?_
           refine oK [4, 6, 7, 11, 12, 14, 19, 20, 21, 22, 23, 24, 25] ?_
           refine wD 21 [] [[], [0], [0, 1], [1, 0, 2], [2, 0, 1, 3], [3, 1, 0, 2, 4], [2, 0, 1, 3], [3, 1, 0, 2, 6], [6, 7, 4, 2, 0, 1, 3, 5], [5, 3, 1, 0, 2, 4, 7, 6, 8], [8, 6, 7, 4, 2, 0, 1, 3, 5, 9], [9, 5, 3, 1, 0, 2, 4, 7, 6, 8, 10], [10, 8, 6, 7, 4, 2, 0, 1, 3, 5, 9, 11], [11, 9, 5, 3, 1, 0, 2, 4, 7, 6, 8, 10, 12], [11, 9, 5, 3, 1, 0, 2, 4, 7, 6, 8, 10, 12], [14, 12, 10, 8, 6, 7, 4, 2, 0, 1, 3, 5, 9, 11, 13], [13, 11, 9, 5, 3, 1, 0, 2, 4, 7, 6, 8, 10, 12, 14, 15], [11, 9, 5, 3, 1, 0, 2, 4, 7, 6, 8, 10, 12], [11, 9, 5, 3, 1, 0, 2, 4, 7, 6, 8, 10, 12], [18, 12, 10, 8, 6, 7, 4, 2, 0, 1, 3, 5, 9, 11, 17], [17, 11, 9, 5, 3, 1, 0, 2, 4, 7, 6, 8, 10, 12, 18, 19], [19, 18, 17, 20, 15, 14, 12, 10, 8, 6, 7, 4, 2, 0, 1, 3, 5, 9, 11, 13, 16], [16, 13, 14, 15, 20, 17, 18, 19, 21, 11, 9, 5, 3, 1, 0, 2, 4, 7, 6, 8, 10, 12], [12, 10, 11, 21, 19, 18, 17, 20, 15, 14, 13, 16, 22, 8, 6, 7, 4, 2, 0, 1, 3, 5, 9], [9, 5, 4, 7, 6, 8, 22, 16, 13, 14, 15, 20, 17, 18, 19, 21, 11, 10, 12, 23, 2, 0, 1, 3], [3, 1, 0, 2, 23, 12, 10, 11, 21, 19, 18, 17, 20, 15, 14, 13, 16, 22, 8, 6, 7, 4, 5, 9, 24]] ?_
           refine dB [([], [], []), ([], [true], []), ([], [true, true], []), ([], [true, true, true], [])] 17 4 ?_
           refine dT [252, 253] [true, true, true, true] [] ?_
           refine dT [252, 253] [true, true, true, true, true] [] ?_
           refine dT [250, 251] [true, true, true, true, false, false] [] ?_
           refine dT [250, 251] [true, true, true, true, false, false, true] [] ?_
           refine dT [] [true, true, true, true, true, true, true, true] [] ?_
           refine dT [] [true, true, true, true, true, true, true, true, true] [] ?_
           refine dT [] [true, true, true, true, true, true, true, true, true, true] [] ?_
           refine dT [] [true, true, true, true, true, true, true, true, true, true, true] [] ?_
           refine dT [] [true, true, true, true, true, true, true, true, true, true, true, true] [] ?_
           refine dF [some 259, some 260, some 261, some 262, some 263, some 264, some 265, some 266] 12 258 false 0 ?_
           refine dD ?_
           refine gF ?_
           refine gT ?_
           refine gT ?_
           refine oN 2 ?_
           refine oK [4, 6, 7, 11, 12, 14, 19, 20, 21, 25, 26] ?_
           refine wD 18 [] [[], [], [1], [1, 2, 0], [0, 2, 1, 3], [3, 1, 2, 0, 4], [4, 0, 2, 1, 3, 5], [5, 3, 1, 2, 0, 4, 6], [6, 4, 0, 2, 1, 3, 5, 7], [7, 5, 3, 1, 2, 0, 4, 6, 8], [8, 6, 4, 0, 2, 1, 3, 5, 7, 9], [8, 6, 4, 0, 2, 1, 3, 5, 7, 9], [11, 9, 7, 5, 3, 1, 2, 0, 4, 6, 8, 10], [10, 8, 6, 4, 0, 2, 1, 3, 5, 7, 9, 11, 12], [8, 6, 4, 0, 2, 1, 3, 5, 7, 9], [8, 6, 4, 0, 2, 1, 3, 5, 7, 9], [15, 9, 7, 5, 3, 1, 2, 0, 4, 6, 8, 14], [14, 8, 6, 4, 0, 2, 1, 3, 5, 7, 9, 15, 16], [16, 15, 14, 17, 12, 11, 9, 7, 5, 3, 1, 2, 0, 4, 6, 8, 10, 13], [13, 10, 11, 12, 17, 14, 15, 16, 18, 8, 6, 4, 0, 2, 1, 3, 5, 7, 9], [9, 7, 5, 3, 1, 2, 0, 4, 6, 8, 18, 16, 15, 14, 17, 12, 11, 10, 13, 19], [19, 13, 10, 11, 12, 17, 14, 15, 16, 18, 8, 9, 20, 6, 4, 0, 2, 1, 3, 5, 7], [7, 5, 6, 20, 9, 8, 18, 16, 15, 14, 17, 12, 11, 10, 13, 19, 21, 3, 1, 2, 0, 4]] ?_
           refine dB [([272, 273], [], []), ([271], [false], []), ([271], [false, true], []), ([], [true, true, true], []), ([], [true, true, true, true], [])] 13 5 ?_
           refine dT [] [true, true, true, true, true] [] ?_
           refine dT [] [true, true, true, true, true, true] [] ?_
           refine dT [] [true, true, true, true, true, true, true] [] ?_
           refine dT [] [true, true, true, true, true, true, true, true] [] ?_
           refine dT [] [true, true, true, true, true, true, true, true, true] [] ?_
           refine dT [282, 285, 286, 287, 288] [true, true, true, true, true, true, true, true, true, true] [] ?_
           refine dT [281, 285, 286, 287, 288] [true, true, true, true, true, true, true, true, true, true, false] [] ?_
           refine dT [285, 286, 287, 288] [true, true, true, true, true, true, true, true, true, true, true, true] [] ?_
           refine dT [285, 286, 287, 288] [true, true, true, true, true, true, true, true, true, true, true, true, true] [] ?_
           refine dT [281, 282, 283, 284, 286] [true, true, true, true, true, true, true, true, true, true, false, false, false, false] [] ?_
           refine dT [281, 282, 283, 284, 285] [true, true, true, true, true, true, true, true, true, true, false, false, false, false, false] [] ?_
           refine dT [281, 282, 283, 284] [true, true, true, true, true, true, true, true, true, true, false, false, false, false, true, true] [] ?_
           refine dT [281, 282, 283, 284] [true, true, true, true, true, true, true, true, true, true, false, false, false, false, true, true, true] [] ?_
           refine dD ?_
           refine gT ?_
           refine gT ?_
           refine gT ?_
           refine gT ?_
           refine oN 1 ?_
           refine oK [4, 6, 7, 11, 12, 14, 19, 293] ?_
           refine cF ?_
           refine W.skip ?_
           refine hK15 _ ?_
           clear hK15 K15
           refine rEw ?_
           refine ⟨j + 2, lf0, v0, v0⟩
         ·
          replace F := F.add r2
          have hr3 : l.stalls[s].rule = 3 := by have := qso.rule; omega
          replace F := F.add hr3
          by_cases hbd : vb < va
          ·
           replace F := F.add hbd
           have hvq : (va == vb) = false := by rw [beq_eq_false_iff_ne]; omega
           replace F := F.add hvq
           by_cases hyq : l.apps[a].years = l.apps[b].years
           ·
            replace F := F.add hyq
            refine rK [4, 6, 7, 11, 12, 14, 19, 20, 21, 22, 23, 24] ?_
            refine wD 37 [] [[], [0], [0, 1], [1, 0, 2], [2, 0, 1, 3], [3, 1, 0, 2, 4], [2, 0, 1, 3], [3, 1, 0, 2, 6], [6, 7, 4, 2, 0, 1, 3, 5], [5, 4, 7, 6, 8, 2, 0, 1, 3], [3, 1, 0, 2, 8, 6, 7, 4, 5, 9], [9, 5, 4, 7, 6, 8, 2, 0, 1, 3, 10], [10, 3, 1, 0, 2, 8, 6, 7, 4, 5, 9, 11], [11, 9, 5, 4, 7, 6, 8, 2, 0, 1, 3, 10, 12], [11, 9, 5, 4, 7, 6, 8, 2, 0, 1, 3, 10, 12], [14, 12, 10, 3, 1, 0, 2, 8, 6, 7, 4, 5, 9, 11, 13], [13, 11, 9, 5, 4, 7, 6, 8, 2, 0, 1, 3, 10, 12, 14, 15], [11, 9, 5, 4, 7, 6, 8, 2, 0, 1, 3, 10, 12], [11, 9, 5, 4, 7, 6, 8, 2, 0, 1, 3, 10, 12], [18, 12, 10, 3, 1, 0, 2, 8, 6, 7, 4, 5, 9, 11, 17], [17, 11, 9, 5, 4, 7, 6, 8, 2, 0, 1, 3, 10, 12, 18, 19], [19, 18, 17, 20, 15, 14, 12, 10, 3, 1, 0, 2, 8, 6, 7, 4, 5, 9, 11, 13, 16], [16, 13, 11, 9, 5, 4, 7, 6, 8, 2, 0, 1, 3, 10, 12, 14, 15, 20, 17, 18, 19, 21], [21, 19, 18, 17, 20, 15, 14, 12, 10, 3, 1, 0, 2, 8, 6, 7, 4, 5, 9, 11, 13, 16, 22], [21, 19, 18, 17, 20, 15, 14, 12, 10, 3, 1, 0, 2, 8, 6, 7, 4, 5, 9, 11, 13, 16, 22], [24, 22, 16, 13, 11, 9, 5, 4, 7, 6, 8, 2, 0, 1, 3, 10, 12, 14, 15, 20, 17, 18, 19, 21, 23], [23, 21, 19, 18, 17, 20, 15, 14, 12, 10, 3, 1, 0, 2, 8, 6, 7, 4, 5, 9, 11, 13, 16, 22, 24, 25], [21, 19, 18, 17, 20, 15, 14, 12, 10, 3, 1, 0, 2, 8, 6, 7, 4, 5, 9, 11, 13, 16, 22], [21, 19, 18, 17, 20, 15, 14, 12, 10, 3, 1, 0, 2, 8, 6, 7, 4, 5, 9, 11, 13, 16, 22], [28, 22, 16, 13, 11, 9, 5, 4, 7, 6, 8, 2, 0, 1, 3, 10, 12, 14, 15, 20, 17, 18, 19, 21, 27], [27, 21, 19, 18, 17, 20, 15, 14, 12, 10, 3, 1, 0, 2, 8, 6, 7, 4, 5, 9, 11, 13, 16, 22, 28, 29], [29, 28, 27, 30, 25, 24, 22, 16, 13, 11, 9, 5, 4, 7, 6, 8, 2, 0, 1, 3, 10, 12, 14, 15, 20, 17, 18, 19, 21, 23, 26], [26, 23, 21, 19, 18, 17, 20, 15, 14, 12, 10, 3, 1, 0, 2, 8, 6, 7, 4, 5, 9, 11, 13, 16, 22, 24, 25, 30, 27, 28, 29, 31], [31, 29, 28, 27, 30, 25, 24, 22, 16, 13, 11, 9, 5, 4, 7, 6, 8, 2, 0, 1, 3, 10, 12, 14, 15, 20, 17, 18, 19, 21, 23, 26, 32], [32, 26, 23, 21, 19, 18, 17, 20, 15, 14, 12, 10, 3, 1, 0, 2, 8, 6, 7, 4, 5, 9, 11, 13, 16, 22, 24, 25, 30, 27, 28, 29, 31, 33], [31, 29, 28, 27, 30, 25, 24, 22, 16, 13, 11, 9, 5, 4, 7, 6, 8, 2, 0, 1, 3, 10, 12, 14, 15, 20, 17, 18, 19, 21, 23, 26, 32], [32, 26, 23, 21, 19, 18, 17, 20, 15, 14, 12, 10, 3, 1, 0, 2, 8, 6, 7, 4, 5, 9, 11, 13, 16, 22, 24, 25, 30, 27, 28, 29, 31, 35], [35, 36, 33, 31, 29, 28, 27, 30, 25, 24, 22, 16, 13, 11, 9, 5, 4, 7, 6, 8, 2, 0, 1, 3, 10, 12, 14, 15, 20, 17, 18, 19, 21, 23, 26, 32, 34], [34, 33, 36, 35, 37, 31, 29, 28, 27, 30, 25, 24, 22, 16, 13, 11, 9, 5, 4, 7, 6, 8, 2, 0, 1, 3, 10, 12, 14, 15, 20, 17, 18, 19, 21, 23, 26, 32], [32, 26, 23, 24, 25, 30, 27, 28, 29, 31, 37, 35, 36, 33, 34, 38, 21, 19, 18, 17, 20, 15, 14, 12, 10, 3, 1, 0, 2, 8, 6, 7, 4, 5, 9, 11, 13, 16, 22], [22, 16, 13, 14, 15, 20, 17, 18, 19, 21, 38, 34, 33, 36, 35, 37, 31, 29, 28, 27, 30, 25, 24, 23, 26, 32, 39, 11, 9, 5, 4, 7, 6, 8, 2, 0, 1, 3, 10, 12], [12, 11, 39, 32, 26, 23, 24, 25, 30, 27, 28, 29, 31, 37, 35, 36, 33, 34, 38, 21, 19, 18, 17, 20, 15, 14, 13, 16, 22, 40, 9, 5, 4, 7, 6, 8, 2, 0, 1, 3, 10], [10, 3, 1, 0, 2, 8, 6, 7, 4, 5, 9, 40, 22, 16, 13, 14, 15, 20, 17, 18, 19, 21, 38, 34, 33, 36, 35, 37, 31, 29, 28, 27, 30, 25, 24, 23, 26, 32, 39, 11, 12, 41]] ?_
            refine dB [([], [], []), ([], [true], []), ([], [true, true], []), ([], [true, true, true], [])] 33 4 ?_
            refine dF [some 208, some 209, some 210, some 211, some 212] 3 207 true 28 ?_
            refine dB [([], [true, true, true, true, true, true, true, true, true], []), ([], [true, true, true, true, true, true, true, true, true, true], [])] 26 11 ?_
            refine dT [] [true, true, true, true, true, true, true, true, true, true, true] [] ?_
            refine dT [] [true, true, true, true, true, true, true, true, true, true, true, true] [] ?_
            refine dT [218, 221, 222, 223, 224] [true, true, true, true, true, true, true, true, true, true, true, true, true] [] ?_
            refine dT [217, 221, 222, 223, 224] [true, true, true, true, true, true, true, true, true, true, true, true, true, false] [] ?_
            refine dT [221, 222, 223, 224] [true, true, true, true, true, true, true, true, true, true, true, true, true, true, true] [] ?_
            refine dT [221, 222, 223, 224] [true, true, true, true, true, true, true, true, true, true, true, true, true, true, true, true] [] ?_
            refine dT [217, 218, 219, 220, 222] [true, true, true, true, true, true, true, true, true, true, true, true, true, false, false, false, false] [] ?_
            refine dT [217, 218, 219, 220, 221] [true, true, true, true, true, true, true, true, true, true, true, true, true, false, false, false, false, false] [] ?_
            refine dT [217, 218, 219, 220] [true, true, true, true, true, true, true, true, true, true, true, true, true, false, false, false, false, true, true] [] ?_
            refine dT [217, 218, 219, 220] [true, true, true, true, true, true, true, true, true, true, true, true, true, false, false, false, false, true, true, true] [] ?_
            refine dT [] [true, true, true, true, true, true, true, true, true, true, true, true, true, true, true, true, true, true, true, true, true] [] ?_
            refine dT [] [true, true, true, true, true, true, true, true, true, true, true, true, true, true, true, true, true, true, true, true, true, true] [] ?_
            refine dF [some 227, some 228, some 229, some 230, some 231, some 232, some 233, some 234, some 235, some 236] 22 226 false 4 ?_
            refine dF [some 237, some 238, some 239, some 240] 32 236 true 0 ?_
            refine dD ?_
            refine gF ?_
            refine gF ?_
            refine gT ?_
            refine gT ?_
            refine oN 2 ?_
            refine oK [4, 6, 7, 11, 12, 14, 19, 20, 21, 22, 23, 24, 25] ?_
            refine wD 21 [] [[], [0], [0, 1], [1, 0, 2], [2, 0, 1, 3], [3, 1, 0, 2, 4], [2, 0, 1, 3], [3, 1, 0, 2, 6], [6, 7, 4, 2, 0, 1, 3, 5], [5, 3, 1, 0, 2, 4, 7, 6, 8], [8, 6, 7, 4, 2, 0, 1, 3, 5, 9], [9, 5, 3, 1, 0, 2, 4, 7, 6, 8, 10], [10, 8, 6, 7, 4, 2, 0, 1, 3, 5, 9, 11], [11, 9, 5, 3, 1, 0, 2, 4, 7, 6, 8, 10, 12], [11, 9, 5, 3, 1, 0, 2, 4, 7, 6, 8, 10, 12], [14, 12, 10, 8, 6, 7, 4, 2, 0, 1, 3, 5, 9, 11, 13], [13, 11, 9, 5, 3, 1, 0, 2, 4, 7, 6, 8, 10, 12, 14, 15], [11, 9, 5, 3, 1, 0, 2, 4, 7, 6, 8, 10, 12], [11, 9, 5, 3, 1, 0, 2, 4, 7, 6, 8, 10, 12], [18, 12, 10, 8, 6, 7, 4, 2, 0, 1, 3, 5, 9, 11, 17], [17, 11, 9, 5, 3, 1, 0, 2, 4, 7, 6, 8, 10, 12, 18, 19], [19, 18, 17, 20, 15, 14, 12, 10, 8, 6, 7, 4, 2, 0, 1, 3, 5, 9, 11, 13, 16], [16, 13, 14, 15, 20, 17, 18, 19, 21, 11, 9, 5, 3, 1, 0, 2, 4, 7, 6, 8, 10, 12], [12, 10, 11, 21, 19, 18, 17, 20, 15, 14, 13, 16, 22, 8, 6, 7, 4, 2, 0, 1, 3, 5, 9], [9, 5, 4, 7, 6, 8, 22, 16, 13, 14, 15, 20, 17, 18, 19, 21, 11, 10, 12, 23, 2, 0, 1, 3], [3, 1, 0, 2, 23, 12, 10, 11, 21, 19, 18, 17, 20, 15, 14, 13, 16, 22, 8, 6, 7, 4, 5, 9, 24]] ?_
            refine dB [([], [], []), ([], [true], []), ([], [true, true], []), ([], [true, true, true], [])] 17 4 ?_
            refine dT [252, 253] [true, true, true, true] [] ?_
            refine dT [252, 253] [true, true, true, true, true] [] ?_
            refine dT [250, 251] [true, true, true, true, false, false] [] ?_
            refine dT [250, 251] [true, true, true, true, false, false, true] [] ?_
            refine dT [] [true, true, true, true, true, true, true, true] [] ?_
            refine dT [] [true, true, true, true, true, true, true, true, true] [] ?_
            refine dT [] [true, true, true, true, true, true, true, true, true, true] [] ?_
            refine dT [] [true, true, true, true, true, true, true, true, true, true, true] [] ?_
            refine dT [] [true, true, true, true, true, true, true, true, true, true, true, true] [] ?_
            refine dT [260, 263, 264, 265, 266] [true, true, true, true, true, true, true, true, true, true, true, true, true] [] ?_
            refine dT [259, 263, 264, 265, 266] [true, true, true, true, true, true, true, true, true, true, true, true, true, false] [] ?_
            refine dT [263, 264, 265, 266] [true, true, true, true, true, true, true, true, true, true, true, true, true, true, true] [] ?_
            refine dT [263, 264, 265, 266] [true, true, true, true, true, true, true, true, true, true, true, true, true, true, true, true] [] ?_
            refine dT [259, 260, 261, 262, 264] [true, true, true, true, true, true, true, true, true, true, true, true, true, false, false, false, false] [] ?_
            refine dT [259, 260, 261, 262, 263] [true, true, true, true, true, true, true, true, true, true, true, true, true, false, false, false, false, false] [] ?_
            refine dT [259, 260, 261, 262] [true, true, true, true, true, true, true, true, true, true, true, true, true, false, false, false, false, true, true] [] ?_
            refine dT [259, 260, 261, 262] [true, true, true, true, true, true, true, true, true, true, true, true, true, false, false, false, false, true, true, true] [] ?_
            refine dD ?_
            refine gT ?_
            refine gT ?_
            refine gT ?_
            refine oN 2 ?_
            refine oK [4, 6, 7, 11, 12, 14, 19, 20, 21, 25, 26] ?_
            refine wD 18 [] [[], [], [1], [1, 2, 0], [0, 2, 1, 3], [3, 1, 2, 0, 4], [4, 0, 2, 1, 3, 5], [5, 3, 1, 2, 0, 4, 6], [6, 4, 0, 2, 1, 3, 5, 7], [7, 5, 3, 1, 2, 0, 4, 6, 8], [8, 6, 4, 0, 2, 1, 3, 5, 7, 9], [8, 6, 4, 0, 2, 1, 3, 5, 7, 9], [11, 9, 7, 5, 3, 1, 2, 0, 4, 6, 8, 10], [10, 8, 6, 4, 0, 2, 1, 3, 5, 7, 9, 11, 12], [8, 6, 4, 0, 2, 1, 3, 5, 7, 9], [8, 6, 4, 0, 2, 1, 3, 5, 7, 9], [15, 9, 7, 5, 3, 1, 2, 0, 4, 6, 8, 14], [14, 8, 6, 4, 0, 2, 1, 3, 5, 7, 9, 15, 16], [16, 15, 14, 17, 12, 11, 9, 7, 5, 3, 1, 2, 0, 4, 6, 8, 10, 13], [13, 10, 11, 12, 17, 14, 15, 16, 18, 8, 6, 4, 0, 2, 1, 3, 5, 7, 9], [9, 7, 5, 3, 1, 2, 0, 4, 6, 8, 18, 16, 15, 14, 17, 12, 11, 10, 13, 19], [19, 13, 10, 11, 12, 17, 14, 15, 16, 18, 8, 9, 20, 6, 4, 0, 2, 1, 3, 5, 7], [7, 5, 6, 20, 9, 8, 18, 16, 15, 14, 17, 12, 11, 10, 13, 19, 21, 3, 1, 2, 0, 4]] ?_
            refine dB [([272, 273], [], []), ([271], [false], []), ([271], [false, true], []), ([], [true, true, true], []), ([], [true, true, true, true], [])] 13 5 ?_
            refine dT [] [true, true, true, true, true] [] ?_
            refine dT [] [true, true, true, true, true, true] [] ?_
            refine dT [] [true, true, true, true, true, true, true] [] ?_
            refine dF [some 279, some 280] 7 278 true 8 ?_
            refine dF [some 281, some 282, some 283, some 284, some 285, some 286, some 287, some 288] 9 280 true 0 ?_
            refine dD ?_
            refine gF ?_
            refine gF ?_
            refine gF ?_
            refine gT ?_
            refine oN 1 ?_
            refine oK [4, 6, 7, 11, 12, 14, 19, 293] ?_
            refine cF ?_
            refine W.skip ?_
            refine hK15 _ ?_
            clear hK15 K15
            refine rEw ?_
            refine ⟨j + 2, lf0, v0, v0⟩
           ·
            replace F := F.add hyq
            have hyq2 : (l.apps[a].years == l.apps[b].years) = false := by rw [beq_eq_false_iff_ne]; exact hyq
            replace F := F.add hyq2
            refine rK [4, 6, 7, 11, 12, 14, 19, 20, 21, 22, 23, 24] ?_
            refine wD 37 [] [[], [0], [0, 1], [1, 0, 2], [2, 0, 1, 3], [3, 1, 0, 2, 4], [2, 0, 1, 3], [3, 1, 0, 2, 6], [6, 7, 4, 2, 0, 1, 3, 5], [5, 4, 7, 6, 8, 2, 0, 1, 3], [3, 1, 0, 2, 8, 6, 7, 4, 5, 9], [9, 5, 4, 7, 6, 8, 2, 0, 1, 3, 10], [10, 3, 1, 0, 2, 8, 6, 7, 4, 5, 9, 11], [11, 9, 5, 4, 7, 6, 8, 2, 0, 1, 3, 10, 12], [11, 9, 5, 4, 7, 6, 8, 2, 0, 1, 3, 10, 12], [14, 12, 10, 3, 1, 0, 2, 8, 6, 7, 4, 5, 9, 11, 13], [13, 11, 9, 5, 4, 7, 6, 8, 2, 0, 1, 3, 10, 12, 14, 15], [11, 9, 5, 4, 7, 6, 8, 2, 0, 1, 3, 10, 12], [11, 9, 5, 4, 7, 6, 8, 2, 0, 1, 3, 10, 12], [18, 12, 10, 3, 1, 0, 2, 8, 6, 7, 4, 5, 9, 11, 17], [17, 11, 9, 5, 4, 7, 6, 8, 2, 0, 1, 3, 10, 12, 18, 19], [19, 18, 17, 20, 15, 14, 12, 10, 3, 1, 0, 2, 8, 6, 7, 4, 5, 9, 11, 13, 16], [16, 13, 11, 9, 5, 4, 7, 6, 8, 2, 0, 1, 3, 10, 12, 14, 15, 20, 17, 18, 19, 21], [21, 19, 18, 17, 20, 15, 14, 12, 10, 3, 1, 0, 2, 8, 6, 7, 4, 5, 9, 11, 13, 16, 22], [21, 19, 18, 17, 20, 15, 14, 12, 10, 3, 1, 0, 2, 8, 6, 7, 4, 5, 9, 11, 13, 16, 22], [24, 22, 16, 13, 11, 9, 5, 4, 7, 6, 8, 2, 0, 1, 3, 10, 12, 14, 15, 20, 17, 18, 19, 21, 23], [23, 21, 19, 18, 17, 20, 15, 14, 12, 10, 3, 1, 0, 2, 8, 6, 7, 4, 5, 9, 11, 13, 16, 22, 24, 25], [21, 19, 18, 17, 20, 15, 14, 12, 10, 3, 1, 0, 2, 8, 6, 7, 4, 5, 9, 11, 13, 16, 22], [21, 19, 18, 17, 20, 15, 14, 12, 10, 3, 1, 0, 2, 8, 6, 7, 4, 5, 9, 11, 13, 16, 22], [28, 22, 16, 13, 11, 9, 5, 4, 7, 6, 8, 2, 0, 1, 3, 10, 12, 14, 15, 20, 17, 18, 19, 21, 27], [27, 21, 19, 18, 17, 20, 15, 14, 12, 10, 3, 1, 0, 2, 8, 6, 7, 4, 5, 9, 11, 13, 16, 22, 28, 29], [29, 28, 27, 30, 25, 24, 22, 16, 13, 11, 9, 5, 4, 7, 6, 8, 2, 0, 1, 3, 10, 12, 14, 15, 20, 17, 18, 19, 21, 23, 26], [26, 23, 21, 19, 18, 17, 20, 15, 14, 12, 10, 3, 1, 0, 2, 8, 6, 7, 4, 5, 9, 11, 13, 16, 22, 24, 25, 30, 27, 28, 29, 31], [31, 29, 28, 27, 30, 25, 24, 22, 16, 13, 11, 9, 5, 4, 7, 6, 8, 2, 0, 1, 3, 10, 12, 14, 15, 20, 17, 18, 19, 21, 23, 26, 32], [32, 26, 23, 21, 19, 18, 17, 20, 15, 14, 12, 10, 3, 1, 0, 2, 8, 6, 7, 4, 5, 9, 11, 13, 16, 22, 24, 25, 30, 27, 28, 29, 31, 33], [31, 29, 28, 27, 30, 25, 24, 22, 16, 13, 11, 9, 5, 4, 7, 6, 8, 2, 0, 1, 3, 10, 12, 14, 15, 20, 17, 18, 19, 21, 23, 26, 32], [32, 26, 23, 21, 19, 18, 17, 20, 15, 14, 12, 10, 3, 1, 0, 2, 8, 6, 7, 4, 5, 9, 11, 13, 16, 22, 24, 25, 30, 27, 28, 29, 31, 35], [35, 36, 33, 31, 29, 28, 27, 30, 25, 24, 22, 16, 13, 11, 9, 5, 4, 7, 6, 8, 2, 0, 1, 3, 10, 12, 14, 15, 20, 17, 18, 19, 21, 23, 26, 32, 34], [34, 33, 36, 35, 37, 31, 29, 28, 27, 30, 25, 24, 22, 16, 13, 11, 9, 5, 4, 7, 6, 8, 2, 0, 1, 3, 10, 12, 14, 15, 20, 17, 18, 19, 21, 23, 26, 32], [32, 26, 23, 24, 25, 30, 27, 28, 29, 31, 37, 35, 36, 33, 34, 38, 21, 19, 18, 17, 20, 15, 14, 12, 10, 3, 1, 0, 2, 8, 6, 7, 4, 5, 9, 11, 13, 16, 22], [22, 16, 13, 14, 15, 20, 17, 18, 19, 21, 38, 34, 33, 36, 35, 37, 31, 29, 28, 27, 30, 25, 24, 23, 26, 32, 39, 11, 9, 5, 4, 7, 6, 8, 2, 0, 1, 3, 10, 12], [12, 11, 39, 32, 26, 23, 24, 25, 30, 27, 28, 29, 31, 37, 35, 36, 33, 34, 38, 21, 19, 18, 17, 20, 15, 14, 13, 16, 22, 40, 9, 5, 4, 7, 6, 8, 2, 0, 1, 3, 10], [10, 3, 1, 0, 2, 8, 6, 7, 4, 5, 9, 40, 22, 16, 13, 14, 15, 20, 17, 18, 19, 21, 38, 34, 33, 36, 35, 37, 31, 29, 28, 27, 30, 25, 24, 23, 26, 32, 39, 11, 12, 41]] ?_
            refine dB [([], [], []), ([], [true], []), ([], [true, true], []), ([], [true, true, true], [])] 33 4 ?_
            refine dF [some 208, some 209, some 210, some 211, some 212] 3 207 true 28 ?_
            refine dB [([], [true, true, true, true, true, true, true, true, true], []), ([], [true, true, true, true, true, true, true, true, true, true], [])] 26 11 ?_
            refine dT [] [true, true, true, true, true, true, true, true, true, true, true] [] ?_
            refine dT [] [true, true, true, true, true, true, true, true, true, true, true, true] [] ?_
            refine dT [218, 221, 222, 223, 224] [true, true, true, true, true, true, true, true, true, true, true, true, true] [] ?_
            refine dT [217, 221, 222, 223, 224] [true, true, true, true, true, true, true, true, true, true, true, true, true, false] [] ?_
            refine dT [221, 222, 223, 224] [true, true, true, true, true, true, true, true, true, true, true, true, true, true, true] [] ?_
            refine dT [221, 222, 223, 224] [true, true, true, true, true, true, true, true, true, true, true, true, true, true, true, true] [] ?_
            refine dT [217, 218, 219, 220, 222] [true, true, true, true, true, true, true, true, true, true, true, true, true, false, false, false, false] [] ?_
            refine dT [217, 218, 219, 220, 221] [true, true, true, true, true, true, true, true, true, true, true, true, true, false, false, false, false, false] [] ?_
            refine dT [217, 218, 219, 220] [true, true, true, true, true, true, true, true, true, true, true, true, true, false, false, false, false, true, true] [] ?_
            refine dT [217, 218, 219, 220] [true, true, true, true, true, true, true, true, true, true, true, true, true, false, false, false, false, true, true, true] [] ?_
            refine dT [] [true, true, true, true, true, true, true, true, true, true, true, true, true, true, true, true, true, true, true, true, true] [] ?_
            refine dT [] [true, true, true, true, true, true, true, true, true, true, true, true, true, true, true, true, true, true, true, true, true, true] [] ?_
            refine dF [some 227, some 228, some 229, some 230, some 231, some 232, some 233, some 234, some 235, some 236] 22 226 false 4 ?_
            refine dF [some 237, some 238, some 239, some 240] 32 236 true 0 ?_
            refine dD ?_
            refine gF ?_
            refine gF ?_
            refine gT ?_
            refine gT ?_
            refine oN 2 ?_
            refine oK [4, 6, 7, 11, 12, 14, 19, 20, 21, 22, 23, 24, 25] ?_
            refine wD 21 [] [[], [0], [0, 1], [1, 0, 2], [2, 0, 1, 3], [3, 1, 0, 2, 4], [2, 0, 1, 3], [3, 1, 0, 2, 6], [6, 7, 4, 2, 0, 1, 3, 5], [5, 3, 1, 0, 2, 4, 7, 6, 8], [8, 6, 7, 4, 2, 0, 1, 3, 5, 9], [9, 5, 3, 1, 0, 2, 4, 7, 6, 8, 10], [10, 8, 6, 7, 4, 2, 0, 1, 3, 5, 9, 11], [11, 9, 5, 3, 1, 0, 2, 4, 7, 6, 8, 10, 12], [11, 9, 5, 3, 1, 0, 2, 4, 7, 6, 8, 10, 12], [14, 12, 10, 8, 6, 7, 4, 2, 0, 1, 3, 5, 9, 11, 13], [13, 11, 9, 5, 3, 1, 0, 2, 4, 7, 6, 8, 10, 12, 14, 15], [11, 9, 5, 3, 1, 0, 2, 4, 7, 6, 8, 10, 12], [11, 9, 5, 3, 1, 0, 2, 4, 7, 6, 8, 10, 12], [18, 12, 10, 8, 6, 7, 4, 2, 0, 1, 3, 5, 9, 11, 17], [17, 11, 9, 5, 3, 1, 0, 2, 4, 7, 6, 8, 10, 12, 18, 19], [19, 18, 17, 20, 15, 14, 12, 10, 8, 6, 7, 4, 2, 0, 1, 3, 5, 9, 11, 13, 16], [16, 13, 14, 15, 20, 17, 18, 19, 21, 11, 9, 5, 3, 1, 0, 2, 4, 7, 6, 8, 10, 12], [12, 10, 11, 21, 19, 18, 17, 20, 15, 14, 13, 16, 22, 8, 6, 7, 4, 2, 0, 1, 3, 5, 9], [9, 5, 4, 7, 6, 8, 22, 16, 13, 14, 15, 20, 17, 18, 19, 21, 11, 10, 12, 23, 2, 0, 1, 3], [3, 1, 0, 2, 23, 12, 10, 11, 21, 19, 18, 17, 20, 15, 14, 13, 16, 22, 8, 6, 7, 4, 5, 9, 24]] ?_
            refine dB [([], [], []), ([], [true], []), ([], [true, true], []), ([], [true, true, true], [])] 17 4 ?_
            refine dT [252, 253] [true, true, true, true] [] ?_
            refine dT [252, 253] [true, true, true, true, true] [] ?_
            refine dT [250, 251] [true, true, true, true, false, false] [] ?_
            refine dT [250, 251] [true, true, true, true, false, false, true] [] ?_
            refine dT [] [true, true, true, true, true, true, true, true] [] ?_
            refine dT [] [true, true, true, true, true, true, true, true, true] [] ?_
            refine dF [some 256, some 257, some 258] 9 255 true 8 ?_
            refine dF [some 259, some 260, some 261, some 262, some 263, some 264, some 265, some 266] 12 258 false 0 ?_
            refine dD ?_
            refine gF ?_
            refine gF ?_
            refine gT ?_
            refine oN 2 ?_
            refine oK [4, 6, 7, 11, 12, 14, 19, 20, 21, 25, 26] ?_
            refine wD 18 [] [[], [], [1], [1, 2, 0], [0, 2, 1, 3], [3, 1, 2, 0, 4], [4, 0, 2, 1, 3, 5], [5, 3, 1, 2, 0, 4, 6], [6, 4, 0, 2, 1, 3, 5, 7], [7, 5, 3, 1, 2, 0, 4, 6, 8], [8, 6, 4, 0, 2, 1, 3, 5, 7, 9], [8, 6, 4, 0, 2, 1, 3, 5, 7, 9], [11, 9, 7, 5, 3, 1, 2, 0, 4, 6, 8, 10], [10, 8, 6, 4, 0, 2, 1, 3, 5, 7, 9, 11, 12], [8, 6, 4, 0, 2, 1, 3, 5, 7, 9], [8, 6, 4, 0, 2, 1, 3, 5, 7, 9], [15, 9, 7, 5, 3, 1, 2, 0, 4, 6, 8, 14], [14, 8, 6, 4, 0, 2, 1, 3, 5, 7, 9, 15, 16], [16, 15, 14, 17, 12, 11, 9, 7, 5, 3, 1, 2, 0, 4, 6, 8, 10, 13], [13, 10, 11, 12, 17, 14, 15, 16, 18, 8, 6, 4, 0, 2, 1, 3, 5, 7, 9], [9, 7, 5, 3, 1, 2, 0, 4, 6, 8, 18, 16, 15, 14, 17, 12, 11, 10, 13, 19], [19, 13, 10, 11, 12, 17, 14, 15, 16, 18, 8, 9, 20, 6, 4, 0, 2, 1, 3, 5, 7], [7, 5, 6, 20, 9, 8, 18, 16, 15, 14, 17, 12, 11, 10, 13, 19, 21, 3, 1, 2, 0, 4]] ?_
            refine dB [([272, 273], [], []), ([271], [false], []), ([271], [false, true], []), ([], [true, true, true], []), ([], [true, true, true, true], [])] 13 5 ?_
            refine dT [] [true, true, true, true, true] [] ?_
            refine dT [] [true, true, true, true, true, true] [] ?_
            refine dT [] [true, true, true, true, true, true, true] [] ?_
            refine dF [some 279, some 280] 7 278 true 8 ?_
            refine dF [some 281, some 282, some 283, some 284, some 285, some 286, some 287, some 288] 9 280 true 0 ?_
            refine dD ?_
            refine gF ?_
            refine gF ?_
            refine gF ?_
            refine gT ?_
            refine oN 1 ?_
            refine oK [4, 6, 7, 11, 12, 14, 19, 293] ?_
            refine cF ?_
            refine W.skip ?_
            refine hK15 _ ?_
            clear hK15 K15
            refine rEw ?_
            refine ⟨j + 2, lf0, v0, v0⟩
          ·
           replace F := F.add hbd
           have hve : vb = va := qru.bid hha hr3 hbd
           replace F := F.add hve
           by_cases hz : l.apps[b].years < l.apps[a].years
           ·
            replace F := F.add hz
            have hyb : (l.apps[a].years == l.apps[b].years) = false := by rw [beq_eq_false_iff_ne]; omega
            replace F := F.add hyb
            refine rK [4, 6, 7, 11, 12, 14, 19, 20, 21, 22, 23, 24] ?_
            refine wD 37 [] [[], [0], [0, 1], [1, 0, 2], [2, 0, 1, 3], [3, 1, 0, 2, 4], [2, 0, 1, 3], [3, 1, 0, 2, 6], [6, 7, 4, 2, 0, 1, 3, 5], [5, 4, 7, 6, 8, 2, 0, 1, 3], [3, 1, 0, 2, 8, 6, 7, 4, 5, 9], [9, 5, 4, 7, 6, 8, 2, 0, 1, 3, 10], [10, 3, 1, 0, 2, 8, 6, 7, 4, 5, 9, 11], [11, 9, 5, 4, 7, 6, 8, 2, 0, 1, 3, 10, 12], [11, 9, 5, 4, 7, 6, 8, 2, 0, 1, 3, 10, 12], [14, 12, 10, 3, 1, 0, 2, 8, 6, 7, 4, 5, 9, 11, 13], [13, 11, 9, 5, 4, 7, 6, 8, 2, 0, 1, 3, 10, 12, 14, 15], [11, 9, 5, 4, 7, 6, 8, 2, 0, 1, 3, 10, 12], [11, 9, 5, 4, 7, 6, 8, 2, 0, 1, 3, 10, 12], [18, 12, 10, 3, 1, 0, 2, 8, 6, 7, 4, 5, 9, 11, 17], [17, 11, 9, 5, 4, 7, 6, 8, 2, 0, 1, 3, 10, 12, 18, 19], [19, 18, 17, 20, 15, 14, 12, 10, 3, 1, 0, 2, 8, 6, 7, 4, 5, 9, 11, 13, 16], [16, 13, 11, 9, 5, 4, 7, 6, 8, 2, 0, 1, 3, 10, 12, 14, 15, 20, 17, 18, 19, 21], [21, 19, 18, 17, 20, 15, 14, 12, 10, 3, 1, 0, 2, 8, 6, 7, 4, 5, 9, 11, 13, 16, 22], [21, 19, 18, 17, 20, 15, 14, 12, 10, 3, 1, 0, 2, 8, 6, 7, 4, 5, 9, 11, 13, 16, 22], [24, 22, 16, 13, 11, 9, 5, 4, 7, 6, 8, 2, 0, 1, 3, 10, 12, 14, 15, 20, 17, 18, 19, 21, 23], [23, 21, 19, 18, 17, 20, 15, 14, 12, 10, 3, 1, 0, 2, 8, 6, 7, 4, 5, 9, 11, 13, 16, 22, 24, 25], [21, 19, 18, 17, 20, 15, 14, 12, 10, 3, 1, 0, 2, 8, 6, 7, 4, 5, 9, 11, 13, 16, 22], [21, 19, 18, 17, 20, 15, 14, 12, 10, 3, 1, 0, 2, 8, 6, 7, 4, 5, 9, 11, 13, 16, 22], [28, 22, 16, 13, 11, 9, 5, 4, 7, 6, 8, 2, 0, 1, 3, 10, 12, 14, 15, 20, 17, 18, 19, 21, 27], [27, 21, 19, 18, 17, 20, 15, 14, 12, 10, 3, 1, 0, 2, 8, 6, 7, 4, 5, 9, 11, 13, 16, 22, 28, 29], [29, 28, 27, 30, 25, 24, 22, 16, 13, 11, 9, 5, 4, 7, 6, 8, 2, 0, 1, 3, 10, 12, 14, 15, 20, 17, 18, 19, 21, 23, 26], [26, 23, 21, 19, 18, 17, 20, 15, 14, 12, 10, 3, 1, 0, 2, 8, 6, 7, 4, 5, 9, 11, 13, 16, 22, 24, 25, 30, 27, 28, 29, 31], [31, 29, 28, 27, 30, 25, 24, 22, 16, 13, 11, 9, 5, 4, 7, 6, 8, 2, 0, 1, 3, 10, 12, 14, 15, 20, 17, 18, 19, 21, 23, 26, 32], [32, 26, 23, 21, 19, 18, 17, 20, 15, 14, 12, 10, 3, 1, 0, 2, 8, 6, 7, 4, 5, 9, 11, 13, 16, 22, 24, 25, 30, 27, 28, 29, 31, 33], [31, 29, 28, 27, 30, 25, 24, 22, 16, 13, 11, 9, 5, 4, 7, 6, 8, 2, 0, 1, 3, 10, 12, 14, 15, 20, 17, 18, 19, 21, 23, 26, 32], [32, 26, 23, 21, 19, 18, 17, 20, 15, 14, 12, 10, 3, 1, 0, 2, 8, 6, 7, 4, 5, 9, 11, 13, 16, 22, 24, 25, 30, 27, 28, 29, 31, 35], [35, 36, 33, 31, 29, 28, 27, 30, 25, 24, 22, 16, 13, 11, 9, 5, 4, 7, 6, 8, 2, 0, 1, 3, 10, 12, 14, 15, 20, 17, 18, 19, 21, 23, 26, 32, 34], [34, 33, 36, 35, 37, 31, 29, 28, 27, 30, 25, 24, 22, 16, 13, 11, 9, 5, 4, 7, 6, 8, 2, 0, 1, 3, 10, 12, 14, 15, 20, 17, 18, 19, 21, 23, 26, 32], [32, 26, 23, 24, 25, 30, 27, 28, 29, 31, 37, 35, 36, 33, 34, 38, 21, 19, 18, 17, 20, 15, 14, 12, 10, 3, 1, 0, 2, 8, 6, 7, 4, 5, 9, 11, 13, 16, 22], [22, 16, 13, 14, 15, 20, 17, 18, 19, 21, 38, 34, 33, 36, 35, 37, 31, 29, 28, 27, 30, 25, 24, 23, 26, 32, 39, 11, 9, 5, 4, 7, 6, 8, 2, 0, 1, 3, 10, 12], [12, 11, 39, 32, 26, 23, 24, 25, 30, 27, 28, 29, 31, 37, 35, 36, 33, 34, 38, 21, 19, 18, 17, 20, 15, 14, 13, 16, 22, 40, 9, 5, 4, 7, 6, 8, 2, 0, 1, 3, 10], [10, 3, 1, 0, 2, 8, 6, 7, 4, 5, 9, 40, 22, 16, 13, 14, 15, 20, 17, 18, 19, 21, 38, 34, 33, 36, 35, 37, 31, 29, 28, 27, 30, 25, 24, 23, 26, 32, 39, 11, 12, 41]] ?_
            refine dB [([], [], []), ([], [true], []), ([], [true, true], []), ([], [true, true, true], [])] 33 4 ?_
            refine dF [some 208, some 209, some 210, some 211, some 212] 3 207 true 28 ?_
            refine dB [([], [true, true, true, true, true, true, true, true, true], []), ([], [true, true, true, true, true, true, true, true, true, true], [])] 26 11 ?_
            refine dT [] [true, true, true, true, true, true, true, true, true, true, true] [] ?_
            refine dT [] [true, true, true, true, true, true, true, true, true, true, true, true] [] ?_
            refine dT [218, 221, 222, 223, 224] [true, true, true, true, true, true, true, true, true, true, true, true, true] [] ?_
            refine dT [217, 221, 222, 223, 224] [true, true, true, true, true, true, true, true, true, true, true, true, true, false] [] ?_
            refine dT [221, 222, 223, 224] [true, true, true, true, true, true, true, true, true, true, true, true, true, true, true] [] ?_
            refine dT [221, 222, 223, 224] [true, true, true, true, true, true, true, true, true, true, true, true, true, true, true, true] [] ?_
            refine dT [217, 218, 219, 220, 222] [true, true, true, true, true, true, true, true, true, true, true, true, true, false, false, false, false] [] ?_
            refine dT [217, 218, 219, 220, 221] [true, true, true, true, true, true, true, true, true, true, true, true, true, false, false, false, false, false] [] ?_
            refine dT [217, 218, 219, 220] [true, true, true, true, true, true, true, true, true, true, true, true, true, false, false, false, false, true, true] [] ?_
            refine dT [217, 218, 219, 220] [true, true, true, true, true, true, true, true, true, true, true, true, true, false, false, false, false, true, true, true] [] ?_
            refine dT [] [true, true, true, true, true, true, true, true, true, true, true, true, true, true, true, true, true, true, true, true, true] [] ?_
            refine dT [] [true, true, true, true, true, true, true, true, true, true, true, true, true, true, true, true, true, true, true, true, true, true] [] ?_
            refine dT [228, 231, 232, 233, 234] [true, true, true, true, true, true, true, true, true, true, true, true, true, true, true, true, true, true, true, true, true, true, true] [] ?_
            refine dT [227, 231, 232, 233, 234] [true, true, true, true, true, true, true, true, true, true, true, true, true, true, true, true, true, true, true, true, true, true, true, false] [] ?_
            refine dT [231, 232, 233, 234] [true, true, true, true, true, true, true, true, true, true, true, true, true, true, true, true, true, true, true, true, true, true, true, true, true] [] ?_
            refine dT [231, 232, 233, 234] [true, true, true, true, true, true, true, true, true, true, true, true, true, true, true, true, true, true, true, true, true, true, true, true, true, true] [] ?_
            refine dT [227, 228, 229, 230, 232] [true, true, true, true, true, true, true, true, true, true, true, true, true, true, true, true, true, true, true, true, true, true, true, false, false, false, false] [] ?_
            refine dT [227, 228, 229, 230, 231] [true, true, true, true, true, true, true, true, true, true, true, true, true, true, true, true, true, true, true, true, true, true, true, false, false, false, false, false] [] ?_
            refine dT [227, 228, 229, 230] [true, true, true, true, true, true, true, true, true, true, true, true, true, true, true, true, true, true, true, true, true, true, true, false, false, false, false, true, true] [] ?_
            refine dT [227, 228, 229, 230] [true, true, true, true, true, true, true, true, true, true, true, true, true, true, true, true, true, true, true, true, true, true, true, false, false, false, false, true, true, true] [] ?_
            refine dT [] [true, true, true, true, true, true, true, true, true, true, true, true, true, true, true, true, true, true, true, true, true, true, true, true, true, true, true, true, true, true, true] [] ?_
            refine dT [] [true, true, true, true, true, true, true, true, true, true, true, true, true, true, true, true, true, true, true, true, true, true, true, true, true, true, true, true, true, true, true, true] [] ?_
            refine dT [239, 240] [true, true, true, true, true, true, true, true, true, true, true, true, true, true, true, true, true, true, true, true, true, true, true, true, true, true, true, true, true, true, true, true, true] [] ?_
            refine dT [239, 240] [true, true, true, true, true, true, true, true, true, true, true, true, true, true, true, true, true, true, true, true, true, true, true, true, true, true, true, true, true, true, true, true, true, true] [] ?_
            refine dT [237, 238] [true, true, true, true, true, true, true, true, true, true, true, true, true, true, true, true, true, true, true, true, true, true, true, true, true, true, true, true, true, true, true, true, true, false, false] [] ?_
            refine dT [237, 238] [true, true, true, true, true, true, true, true, true, true, true, true, true, true, true, true, true, true, true, true, true, true, true, true, true, true, true, true, true, true, true, true, true, false, false, true] [] ?_
            refine dD ?_
            refine gT ?_
            refine gT ?_
            refine gT ?_
            refine gT ?_
            refine oN 2 ?_
            refine oK [4, 6, 7, 11, 12, 14, 19, 20, 21, 22, 23, 24, 25] ?_
            refine wD 21 [] [[], [0], [0, 1], [1, 0, 2], [2, 0, 1, 3], [3, 1, 0, 2, 4], [2, 0, 1, 3], [3, 1, 0, 2, 6], [6, 7, 4, 2, 0, 1, 3, 5], [5, 3, 1, 0, 2, 4, 7, 6, 8], [8, 6, 7, 4, 2, 0, 1, 3, 5, 9], [9, 5, 3, 1, 0, 2, 4, 7, 6, 8, 10], [10, 8, 6, 7, 4, 2, 0, 1, 3, 5, 9, 11], [11, 9, 5, 3, 1, 0, 2, 4, 7, 6, 8, 10, 12], [11, 9, 5, 3, 1, 0, 2, 4, 7, 6, 8, 10, 12], [14, 12, 10, 8, 6, 7, 4, 2, 0, 1, 3, 5, 9, 11, 13], [13, 11, 9, 5, 3, 1, 0, 2, 4, 7, 6, 8, 10, 12, 14, 15], [11, 9, 5, 3, 1, 0, 2, 4, 7, 6, 8, 10, 12], [11, 9, 5, 3, 1, 0, 2, 4, 7, 6, 8, 10, 12], [18, 12, 10, 8, 6, 7, 4, 2, 0, 1, 3, 5, 9, 11, 17], [17, 11, 9, 5, 3, 1, 0, 2, 4, 7, 6, 8, 10, 12, 18, 19], [19, 18, 17, 20, 15, 14, 12, 10, 8, 6, 7, 4, 2, 0, 1, 3, 5, 9, 11, 13, 16], [16, 13, 14, 15, 20, 17, 18, 19, 21, 11, 9, 5, 3, 1, 0, 2, 4, 7, 6, 8, 10, 12], [12, 10, 11, 21, 19, 18, 17, 20, 15, 14, 13, 16, 22, 8, 6, 7, 4, 2, 0, 1, 3, 5, 9], [9, 5, 4, 7, 6, 8, 22, 16, 13, 14, 15, 20, 17, 18, 19, 21, 11, 10, 12, 23, 2, 0, 1, 3], [3, 1, 0, 2, 23, 12, 10, 11, 21, 19, 18, 17, 20, 15, 14, 13, 16, 22, 8, 6, 7, 4, 5, 9, 24]] ?_
            refine dB [([], [], []), ([], [true], []), ([], [true, true], []), ([], [true, true, true], [])] 17 4 ?_
            refine dT [252, 253] [true, true, true, true] [] ?_
            refine dT [252, 253] [true, true, true, true, true] [] ?_
            refine dT [250, 251] [true, true, true, true, false, false] [] ?_
            refine dT [250, 251] [true, true, true, true, false, false, true] [] ?_
            refine dT [] [true, true, true, true, true, true, true, true] [] ?_
            refine dT [] [true, true, true, true, true, true, true, true, true] [] ?_
            refine dF [some 256, some 257, some 258] 9 255 true 8 ?_
            refine dF [some 259, some 260, some 261, some 262, some 263, some 264, some 265, some 266] 12 258 false 0 ?_
            refine dD ?_
            refine gF ?_
            refine gF ?_
            refine gT ?_
            refine oN 2 ?_
            refine oK [4, 6, 7, 11, 12, 14, 19, 20, 21, 25, 26] ?_
            refine wD 18 [] [[], [], [1], [1, 2, 0], [0, 2, 1, 3], [3, 1, 2, 0, 4], [4, 0, 2, 1, 3, 5], [5, 3, 1, 2, 0, 4, 6], [6, 4, 0, 2, 1, 3, 5, 7], [7, 5, 3, 1, 2, 0, 4, 6, 8], [8, 6, 4, 0, 2, 1, 3, 5, 7, 9], [8, 6, 4, 0, 2, 1, 3, 5, 7, 9], [11, 9, 7, 5, 3, 1, 2, 0, 4, 6, 8, 10], [10, 8, 6, 4, 0, 2, 1, 3, 5, 7, 9, 11, 12], [8, 6, 4, 0, 2, 1, 3, 5, 7, 9], [8, 6, 4, 0, 2, 1, 3, 5, 7, 9], [15, 9, 7, 5, 3, 1, 2, 0, 4, 6, 8, 14], [14, 8, 6, 4, 0, 2, 1, 3, 5, 7, 9, 15, 16], [16, 15, 14, 17, 12, 11, 9, 7, 5, 3, 1, 2, 0, 4, 6, 8, 10, 13], [13, 10, 11, 12, 17, 14, 15, 16, 18, 8, 6, 4, 0, 2, 1, 3, 5, 7, 9], [9, 7, 5, 3, 1, 2, 0, 4, 6, 8, 18, 16, 15, 14, 17, 12, 11, 10, 13, 19], [19, 13, 10, 11, 12, 17, 14, 15, 16, 18, 8, 9, 20, 6, 4, 0, 2, 1, 3, 5, 7], [7, 5, 6, 20, 9, 8, 18, 16, 15, 14, 17, 12, 11, 10, 13, 19, 21, 3, 1, 2, 0, 4]] ?_
            refine dB [([272, 273], [], []), ([271], [false], []), ([271], [false, true], []), ([], [true, true, true], []), ([], [true, true, true, true], [])] 13 5 ?_
            refine dT [] [true, true, true, true, true] [] ?_
            refine dT [] [true, true, true, true, true, true] [] ?_
            refine dT [] [true, true, true, true, true, true, true] [] ?_
            refine dF [some 279, some 280] 7 278 true 8 ?_
            refine dF [some 281, some 282, some 283, some 284, some 285, some 286, some 287, some 288] 9 280 true 0 ?_
            refine dD ?_
            refine gF ?_
            refine gF ?_
            refine gF ?_
            refine gT ?_
            refine oN 1 ?_
            refine oK [4, 6, 7, 11, 12, 14, 19, 293] ?_
            refine cF ?_
            refine W.skip ?_
            refine hK15 _ ?_
            clear hK15 K15
            refine rEw ?_
            refine ⟨j + 2, lf0, v0, v0⟩
           ·
            replace F := F.add hz
            have hye : l.apps[b].years = l.apps[a].years := (qru.yrs hha r1 (fun _ => hbd) hz).1
            have hpp : pa < pb := (qru.yrs hha r1 (fun _ => hbd) hz).2
            replace F := F.add hye |>.add hpp
            refine rK [4, 6, 7, 11, 12, 14, 19, 20, 21, 22, 23, 24] ?_
            refine wD 37 [] [[], [0], [0, 1], [1, 0, 2], [2, 0, 1, 3], [3, 1, 0, 2, 4], [2, 0, 1, 3], [3, 1, 0, 2, 6], [6, 7, 4, 2, 0, 1, 3, 5], [5, 4, 7, 6, 8, 2, 0, 1, 3], [3, 1, 0, 2, 8, 6, 7, 4, 5, 9], [9, 5, 4, 7, 6, 8, 2, 0, 1, 3, 10], [10, 3, 1, 0, 2, 8, 6, 7, 4, 5, 9, 11], [11, 9, 5, 4, 7, 6, 8, 2, 0, 1, 3, 10, 12], [11, 9, 5, 4, 7, 6, 8, 2, 0, 1, 3, 10, 12], [14, 12, 10, 3, 1, 0, 2, 8, 6, 7, 4, 5, 9, 11, 13], [13, 11, 9, 5, 4, 7, 6, 8, 2, 0, 1, 3, 10, 12, 14, 15], [11, 9, 5, 4, 7, 6, 8, 2, 0, 1, 3, 10, 12], [11, 9, 5, 4, 7, 6, 8, 2, 0, 1, 3, 10, 12], [18, 12, 10, 3, 1, 0, 2, 8, 6, 7, 4, 5, 9, 11, 17], [17, 11, 9, 5, 4, 7, 6, 8, 2, 0, 1, 3, 10, 12, 18, 19], [19, 18, 17, 20, 15, 14, 12, 10, 3, 1, 0, 2, 8, 6, 7, 4, 5, 9, 11, 13, 16], [16, 13, 11, 9, 5, 4, 7, 6, 8, 2, 0, 1, 3, 10, 12, 14, 15, 20, 17, 18, 19, 21], [21, 19, 18, 17, 20, 15, 14, 12, 10, 3, 1, 0, 2, 8, 6, 7, 4, 5, 9, 11, 13, 16, 22], [21, 19, 18, 17, 20, 15, 14, 12, 10, 3, 1, 0, 2, 8, 6, 7, 4, 5, 9, 11, 13, 16, 22], [24, 22, 16, 13, 11, 9, 5, 4, 7, 6, 8, 2, 0, 1, 3, 10, 12, 14, 15, 20, 17, 18, 19, 21, 23], [23, 21, 19, 18, 17, 20, 15, 14, 12, 10, 3, 1, 0, 2, 8, 6, 7, 4, 5, 9, 11, 13, 16, 22, 24, 25], [21, 19, 18, 17, 20, 15, 14, 12, 10, 3, 1, 0, 2, 8, 6, 7, 4, 5, 9, 11, 13, 16, 22], [21, 19, 18, 17, 20, 15, 14, 12, 10, 3, 1, 0, 2, 8, 6, 7, 4, 5, 9, 11, 13, 16, 22], [28, 22, 16, 13, 11, 9, 5, 4, 7, 6, 8, 2, 0, 1, 3, 10, 12, 14, 15, 20, 17, 18, 19, 21, 27], [27, 21, 19, 18, 17, 20, 15, 14, 12, 10, 3, 1, 0, 2, 8, 6, 7, 4, 5, 9, 11, 13, 16, 22, 28, 29], [29, 28, 27, 30, 25, 24, 22, 16, 13, 11, 9, 5, 4, 7, 6, 8, 2, 0, 1, 3, 10, 12, 14, 15, 20, 17, 18, 19, 21, 23, 26], [26, 23, 21, 19, 18, 17, 20, 15, 14, 12, 10, 3, 1, 0, 2, 8, 6, 7, 4, 5, 9, 11, 13, 16, 22, 24, 25, 30, 27, 28, 29, 31], [31, 29, 28, 27, 30, 25, 24, 22, 16, 13, 11, 9, 5, 4, 7, 6, 8, 2, 0, 1, 3, 10, 12, 14, 15, 20, 17, 18, 19, 21, 23, 26, 32], [32, 26, 23, 21, 19, 18, 17, 20, 15, 14, 12, 10, 3, 1, 0, 2, 8, 6, 7, 4, 5, 9, 11, 13, 16, 22, 24, 25, 30, 27, 28, 29, 31, 33], [31, 29, 28, 27, 30, 25, 24, 22, 16, 13, 11, 9, 5, 4, 7, 6, 8, 2, 0, 1, 3, 10, 12, 14, 15, 20, 17, 18, 19, 21, 23, 26, 32], [32, 26, 23, 21, 19, 18, 17, 20, 15, 14, 12, 10, 3, 1, 0, 2, 8, 6, 7, 4, 5, 9, 11, 13, 16, 22, 24, 25, 30, 27, 28, 29, 31, 35], [35, 36, 33, 31, 29, 28, 27, 30, 25, 24, 22, 16, 13, 11, 9, 5, 4, 7, 6, 8, 2, 0, 1, 3, 10, 12, 14, 15, 20, 17, 18, 19, 21, 23, 26, 32, 34], [34, 33, 36, 35, 37, 31, 29, 28, 27, 30, 25, 24, 22, 16, 13, 11, 9, 5, 4, 7, 6, 8, 2, 0, 1, 3, 10, 12, 14, 15, 20, 17, 18, 19, 21, 23, 26, 32], [32, 26, 23, 24, 25, 30, 27, 28, 29, 31, 37, 35, 36, 33, 34, 38, 21, 19, 18, 17, 20, 15, 14, 12, 10, 3, 1, 0, 2, 8, 6, 7, 4, 5, 9, 11, 13, 16, 22], [22, 16, 13, 14, 15, 20, 17, 18, 19, 21, 38, 34, 33, 36, 35, 37, 31, 29, 28, 27, 30, 25, 24, 23, 26, 32, 39, 11, 9, 5, 4, 7, 6, 8, 2, 0, 1, 3, 10, 12], [12, 11, 39, 32, 26, 23, 24, 25, 30, 27, 28, 29, 31, 37, 35, 36, 33, 34, 38, 21, 19, 18, 17, 20, 15, 14, 13, 16, 22, 40, 9, 5, 4, 7, 6, 8, 2, 0, 1, 3, 10], [10, 3, 1, 0, 2, 8, 6, 7, 4, 5, 9, 40, 22, 16, 13, 14, 15, 20, 17, 18, 19, 21, 38, 34, 33, 36, 35, 37, 31, 29, 28, 27, 30, 25, 24, 23, 26, 32, 39, 11, 12, 41]] ?_
            refine dB [([], [], []), ([], [true], []), ([], [true, true], []), ([], [true, true, true], [])] 33 4 ?_
            refine dF [some 208, some 209, some 210, some 211, some 212] 3 207 true 28 ?_
            refine dB [([], [true, true, true, true, true, true, true, true, true], []), ([], [true, true, true, true, true, true, true, true, true, true], [])] 26 11 ?_
            refine dT [] [true, true, true, true, true, true, true, true, true, true, true] [] ?_
            refine dT [] [true, true, true, true, true, true, true, true, true, true, true, true] [] ?_
            refine dT [218, 221, 222, 223, 224] [true, true, true, true, true, true, true, true, true, true, true, true, true] [] ?_
            refine dT [217, 221, 222, 223, 224] [true, true, true, true, true, true, true, true, true, true, true, true, true, false] [] ?_
            refine dT [221, 222, 223, 224] [true, true, true, true, true, true, true, true, true, true, true, true, true, true, true] [] ?_
            refine dT [221, 222, 223, 224] [true, true, true, true, true, true, true, true, true, true, true, true, true, true, true, true] [] ?_
            refine dT [217, 218, 219, 220, 222] [true, true, true, true, true, true, true, true, true, true, true, true, true, false, false, false, false] [] ?_
            refine dT [217, 218, 219, 220, 221] [true, true, true, true, true, true, true, true, true, true, true, true, true, false, false, false, false, false] [] ?_
            refine dT [217, 218, 219, 220] [true, true, true, true, true, true, true, true, true, true, true, true, true, false, false, false, false, true, true] [] ?_
            refine dT [217, 218, 219, 220] [true, true, true, true, true, true, true, true, true, true, true, true, true, false, false, false, false, true, true, true] [] ?_
            refine dT [] [true, true, true, true, true, true, true, true, true, true, true, true, true, true, true, true, true, true, true, true, true] [] ?_
            refine dT [] [true, true, true, true, true, true, true, true, true, true, true, true, true, true, true, true, true, true, true, true, true, true] [] ?_
            refine dT [228, 231, 232, 233, 234] [true, true, true, true, true, true, true, true, true, true, true, true, true, true, true, true, true, true, true, true, true, true, true] [] ?_
            refine dT [227, 231, 232, 233, 234] [true, true, true, true, true, true, true, true, true, true, true, true, true, true, true, true, true, true, true, true, true, true, true, false] [] ?_
            refine dT [231, 232, 233, 234] [true, true, true, true, true, true, true, true, true, true, true, true, true, true, true, true, true, true, true, true, true, true, true, true, true] [] ?_
            refine dT [231, 232, 233, 234] [true, true, true, true, true, true, true, true, true, true, true, true, true, true, true, true, true, true, true, true, true, true, true, true, true, true] [] ?_
            refine dT [227, 228, 229, 230, 232] [true, true, true, true, true, true, true, true, true, true, true, true, true, true, true, true, true, true, true, true, true, true, true, false, false, false, false] [] ?_
            refine dT [227, 228, 229, 230, 231] [true, true, true, true, true, true, true, true, true, true, true, true, true, true, true, true, true, true, true, true, true, true, true, false, false, false, false, false] [] ?_
            refine dT [227, 228, 229, 230] [true, true, true, true, true, true, true, true, true, true, true, true, true, true, true, true, true, true, true, true, true, true, true, false, false, false, false, true, true] [] ?_
            refine dT [227, 228, 229, 230] [true, true, true, true, true, true, true, true, true, true, true, true, true, true, true, true, true, true, true, true, true, true, true, false, false, false, false, true, true, true] [] ?_
            refine dT [] [true, true, true, true, true, true, true, true, true, true, true, true, true, true, true, true, true, true, true, true, true, true, true, true, true, true, true, true, true, true, true] [] ?_
            refine dT [] [true, true, true, true, true, true, true, true, true, true, true, true, true, true, true, true, true, true, true, true, true, true, true, true, true, true, true, true, true, true, true, true] [] ?_
            refine dT [239, 240] [true, true, true, true, true, true, true, true, true, true, true, true, true, true, true, true, true, true, true, true, true, true, true, true, true, true, true, true, true, true, true, true, true] [] ?_
            refine dT [239, 240] [true, true, true, true, true, true, true, true, true, true, true, true, true, true, true, true, true, true, true, true, true, true, true, true, true, true, true, true, true, true, true, true, true, true] [] ?_
            refine dT [237, 238] [true, true, true, true, true, true, true, true, true, true, true, true, true, true, true, true, true, true, true, true, true, true, true, true, true, true, true, true, true, true, true, true, true, false, false] [] ?_
            refine dT [237, 238] [true, true, true, true, true, true, true, true, true, true, true, true, true, true, true, true, true, true, true, true, true, true, true, true, true, true, true, true, true, true, true, true, true, false, false, true] [] ?_
            refine dD ?_
            refine gT ?_
            refine gT ?_
            refine gT ?_
            refine gT ?_
            refine oN 2 ?_
            refine oK [4, 6, 7, 11, 12, 14, 19, 20, 21, 22, 23, 24, 25] ?_
            refine wD 21 [] [[], [0], [0, 1], [1, 0, 2], [2, 0, 1, 3], [3, 1, 0, 2, 4], [2, 0, 1, 3], [3, 1, 0, 2, 6], [6, 7, 4, 2, 0, 1, 3, 5], [5, 3, 1, 0, 2, 4, 7, 6, 8], [8, 6, 7, 4, 2, 0, 1, 3, 5, 9], [9, 5, 3, 1, 0, 2, 4, 7, 6, 8, 10], [10, 8, 6, 7, 4, 2, 0, 1, 3, 5, 9, 11], [11, 9, 5, 3, 1, 0, 2, 4, 7, 6, 8, 10, 12], [11, 9, 5, 3, 1, 0, 2, 4, 7, 6, 8, 10, 12], [14, 12, 10, 8, 6, 7, 4, 2, 0, 1, 3, 5, 9, 11, 13], [13, 11, 9, 5, 3, 1, 0, 2, 4, 7, 6, 8, 10, 12, 14, 15], [11, 9, 5, 3, 1, 0, 2, 4, 7, 6, 8, 10, 12], [11, 9, 5, 3, 1, 0, 2, 4, 7, 6, 8, 10, 12], [18, 12, 10, 8, 6, 7, 4, 2, 0, 1, 3, 5, 9, 11, 17], [17, 11, 9, 5, 3, 1, 0, 2, 4, 7, 6, 8, 10, 12, 18, 19], [19, 18, 17, 20, 15, 14, 12, 10, 8, 6, 7, 4, 2, 0, 1, 3, 5, 9, 11, 13, 16], [16, 13, 14, 15, 20, 17, 18, 19, 21, 11, 9, 5, 3, 1, 0, 2, 4, 7, 6, 8, 10, 12], [12, 10, 11, 21, 19, 18, 17, 20, 15, 14, 13, 16, 22, 8, 6, 7, 4, 2, 0, 1, 3, 5, 9], [9, 5, 4, 7, 6, 8, 22, 16, 13, 14, 15, 20, 17, 18, 19, 21, 11, 10, 12, 23, 2, 0, 1, 3], [3, 1, 0, 2, 23, 12, 10, 11, 21, 19, 18, 17, 20, 15, 14, 13, 16, 22, 8, 6, 7, 4, 5, 9, 24]] ?_
            refine dB [([], [], []), ([], [true], []), ([], [true, true], []), ([], [true, true, true], [])] 17 4 ?_
            refine dT [252, 253] [true, true, true, true] [] ?_
            refine dT [252, 253] [true, true, true, true, true] [] ?_
            refine dT [250, 251] [true, true, true, true, false, false] [] ?_
            refine dT [250, 251] [true, true, true, true, false, false, true] [] ?_
            refine dT [] [true, true, true, true, true, true, true, true] [] ?_
            refine dT [] [true, true, true, true, true, true, true, true, true] [] ?_
            refine dT [] [true, true, true, true, true, true, true, true, true, true] [] ?_
            refine dT [] [true, true, true, true, true, true, true, true, true, true, true] [] ?_
            refine dT [] [true, true, true, true, true, true, true, true, true, true, true, true] [] ?_
            refine dT [260, 263, 264, 265, 266] [true, true, true, true, true, true, true, true, true, true, true, true, true] [] ?_
            refine dT [259, 263, 264, 265, 266] [true, true, true, true, true, true, true, true, true, true, true, true, true, false] [] ?_
            refine dT [263, 264, 265, 266] [true, true, true, true, true, true, true, true, true, true, true, true, true, true, true] [] ?_
            refine dT [263, 264, 265, 266] [true, true, true, true, true, true, true, true, true, true, true, true, true, true, true, true] [] ?_
            refine dT [259, 260, 261, 262, 264] [true, true, true, true, true, true, true, true, true, true, true, true, true, false, false, false, false] [] ?_
            refine dT [259, 260, 261, 262, 263] [true, true, true, true, true, true, true, true, true, true, true, true, true, false, false, false, false, false] [] ?_
            refine dT [259, 260, 261, 262] [true, true, true, true, true, true, true, true, true, true, true, true, true, false, false, false, false, true, true] [] ?_
            refine dT [259, 260, 261, 262] [true, true, true, true, true, true, true, true, true, true, true, true, true, false, false, false, false, true, true, true] [] ?_
            refine dD ?_
            refine gT ?_
            refine gT ?_
            refine gT ?_
            refine oN 2 ?_
            refine oK [4, 6, 7, 11, 12, 14, 19, 20, 21, 25, 26] ?_
            refine wD 18 [] [[], [], [1], [1, 2, 0], [0, 2, 1, 3], [3, 1, 2, 0, 4], [4, 0, 2, 1, 3, 5], [5, 3, 1, 2, 0, 4, 6], [6, 4, 0, 2, 1, 3, 5, 7], [7, 5, 3, 1, 2, 0, 4, 6, 8], [8, 6, 4, 0, 2, 1, 3, 5, 7, 9], [8, 6, 4, 0, 2, 1, 3, 5, 7, 9], [11, 9, 7, 5, 3, 1, 2, 0, 4, 6, 8, 10], [10, 8, 6, 4, 0, 2, 1, 3, 5, 7, 9, 11, 12], [8, 6, 4, 0, 2, 1, 3, 5, 7, 9], [8, 6, 4, 0, 2, 1, 3, 5, 7, 9], [15, 9, 7, 5, 3, 1, 2, 0, 4, 6, 8, 14], [14, 8, 6, 4, 0, 2, 1, 3, 5, 7, 9, 15, 16], [16, 15, 14, 17, 12, 11, 9, 7, 5, 3, 1, 2, 0, 4, 6, 8, 10, 13], [13, 10, 11, 12, 17, 14, 15, 16, 18, 8, 6, 4, 0, 2, 1, 3, 5, 7, 9], [9, 7, 5, 3, 1, 2, 0, 4, 6, 8, 18, 16, 15, 14, 17, 12, 11, 10, 13, 19], [19, 13, 10, 11, 12, 17, 14, 15, 16, 18, 8, 9, 20, 6, 4, 0, 2, 1, 3, 5, 7], [7, 5, 6, 20, 9, 8, 18, 16, 15, 14, 17, 12, 11, 10, 13, 19, 21, 3, 1, 2, 0, 4]] ?_
            refine dB [([272, 273], [], []), ([271], [false], []), ([271], [false, true], []), ([], [true, true, true], []), ([], [true, true, true, true], [])] 13 5 ?_
            refine dT [] [true, true, true, true, true] [] ?_
            refine dT [] [true, true, true, true, true, true] [] ?_
            refine dT [] [true, true, true, true, true, true, true] [] ?_
            refine dT [] [true, true, true, true, true, true, true, true] [] ?_
            refine dT [] [true, true, true, true, true, true, true, true, true] [] ?_
            refine dT [282, 285, 286, 287, 288] [true, true, true, true, true, true, true, true, true, true] [] ?_
            refine dT [281, 285, 286, 287, 288] [true, true, true, true, true, true, true, true, true, true, false] [] ?_
            refine dT [285, 286, 287, 288] [true, true, true, true, true, true, true, true, true, true, true, true] [] ?_
            refine dT [285, 286, 287, 288] [true, true, true, true, true, true, true, true, true, true, true, true, true] [] ?_
            refine dT [281, 282, 283, 284, 286] [true, true, true, true, true, true, true, true, true, true, false, false, false, false] [] ?_
            refine dT [281, 282, 283, 284, 285] [true, true, true, true, true, true, true, true, true, true, false, false, false, false, false] [] ?_
            refine dT [281, 282, 283, 284] [true, true, true, true, true, true, true, true, true, true, false, false, false, false, true, true] [] ?_
            refine dT [281, 282, 283, 284] [true, true, true, true, true, true, true, true, true, true, false, false, false, false, true, true, true] [] ?_
            refine dD ?_
            refine gT ?_
            refine gT ?_
            refine gT ?_
            refine gT ?_
            refine oN 1 ?_
            refine oK [4, 6, 7, 11, 12, 14, 19, 293] ?_
            refine cF ?_
            refine W.skip ?_
            refine hK15 _ ?_
            clear hK15 K15
            refine rEw ?_
            refine ⟨j + 2, lf0, v0, v0⟩
      ·
       try simp at hc16
       replace F := F.add hc16
       refine W.exit ?_
       refine hK13 _ ?_
       clear hK14 K14 hK13 K13
       refine W.seqR ?_
       refine oN 5 ?_
       refine gC [] ?_
       refine ct (awake_ok) ?_
       refine oN 2 ?_
       refine oK [2] ?_
       refine W.ret ?_
       refine er false [] [] ?_
       exact ⟨rfl, rfl⟩
end Go.Sim
