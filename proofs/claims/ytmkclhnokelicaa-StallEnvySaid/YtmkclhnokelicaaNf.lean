/- Envies, and nothing else: the law answers true. -/
import Derived.Test.YtmkclhnokelicaaNd
import Derived.Test.YtmkclhnokelicaaLu
import Derived.Test.YtmkclhnokelicaaLw
namespace Go.Sim
open Go.Proofs
set_option maxRecDepth 100000
set_option linter.unusedSimpArgs false
set_option linter.unusedVariables false
attribute [-simp] List.map_set List.map_take List.map_drop
theorem ahead_not {l : Lett} {s a b : Nat} (ha : a < l.apps.length) (hb : b < l.apps.length) (hab : a ≠ b) : (!aheadB l s b a) = aheadB l s a b := by
  rcases ahead_tot (s := s) ha hb hab with h | h
  · rw [h, ahead_asym hab h]; rfl
  · rw [h, ahead_asym hab.symm h]; rfl
theorem env_rank {l : Lett} {X : List Int} {a s k : Nat} (hk : HoldOk l X) (ha : a < l.apps.length) (hs : s < l.stalls.length) (hsX : s < X.length) (hnm : X[s] ∉ (rankL l s).take k) (hend : (rankL l s).length ≤ k ∨ ∃ h : k < (rankL l s).length, (rankL l s)[k] = X[s]) :
    envB l X a s = (decide ((a : Int) ∈ (rankL l s).take k) && decide (l.apps[a].wishes.idxOf (s : Int) < placeL l X a)) := by
  have hmem : (a : Int) ∈ rankL l s ↔ canS l.stalls l.apps[a] s = true := by
    rw [mem_rankL, ← nth_get ha]
    exact ⟨fun ⟨b, h1, _, h3⟩ => by have : b = a := by omega
                                    subst this; exact h3, fun h => ⟨a, rfl, ha, h⟩⟩
  rw [envB_at hsX ha]
  rcases hk.ok s hsX with hX | ⟨b, hX, hb, hbc⟩
  · have hkl : (rankL l s).length ≤ k := by
      rcases hend with h | ⟨h, e⟩
      · exact h
      · obtain ⟨c, h1, _⟩ := mem_rankL.1 (List.getElem_mem h)
        omega
    rw [List.take_of_length_le hkl, decide_eq_true (show X[s] < 0 by omega), Bool.true_or, Bool.and_true]
    congr 1
    rw [Bool.eq_iff_iff, decide_eq_true_eq]; exact hmem.symm
  · have hbR : (b : Int) ∈ rankL l s := mem_rankL.2 ⟨b, rfl, hb, hbc⟩
    obtain ⟨hkR, hRk⟩ : ∃ h : k < (rankL l s).length, (rankL l s)[k] = (b : Int) := by
      rcases hend with h | ⟨h, e⟩
      · rw [List.take_of_length_le h, hX] at hnm; exact absurd hbR hnm
      · exact ⟨h, by rw [e, hX]⟩
    rw [hX, decide_eq_false (show ¬ (b : Int) < 0 by omega), Bool.false_or, Int.toNat_natCast]
    by_cases hab : a = b
    · subst hab
      have hm : (a : Int) ∈ X := by rw [← hX]; exact List.getElem_mem hsX
      have h1 := List.idxOf_lt_length_iff.2 hm
      have h2 := List.getElem_idxOf h1
      have h3 := hk.one _ s a h1 hsX h2 hX
      have hp : placeL l X a = l.apps[a].wishes.idxOf (s : Int) := by rw [placeL_in ha hm, h3]
      rw [hp, decide_eq_false (Nat.lt_irrefl _)]; simp
    · rw [ahead_not ha hb hab]
      have key : (a : Int) ∈ (rankL l s).take k ↔ canS l.stalls l.apps[a] s = true ∧ aheadB l s a b = true := by
        constructor
        · intro hm
          obtain ⟨j, hj, e⟩ := List.mem_take_iff_getElem.1 hm
          have h7 := List.pairwise_iff_getElem.1 (rankL_sorted l s) j k (by omega) hkR (by omega)
          rw [e, hRk, ltQ_ahead hab] at h7
          exact ⟨hmem.1 (List.mem_of_mem_take hm), h7⟩
        · rintro ⟨h1, h2⟩
          obtain ⟨j, hj, e⟩ := List.getElem_of_mem (hmem.2 h1)
          refine List.mem_take_iff_getElem.2 ⟨j, ?_, e⟩
          rcases Nat.lt_trichotomy j k with q | q | q
          · omega
          · subst q; rw [hRk] at e; exact absurd (by omega) hab
          · have h7 := List.pairwise_iff_getElem.1 (rankL_sorted l s) k j hkR hj q
            rw [e, hRk, ltQ_ahead (Ne.symm hab), ahead_asym hab h2] at h7
            cases h7
      by_cases h1 : canS l.stalls l.apps[a] s = true <;> by_cases h2 : aheadB l s a b = true
      · rw [decide_eq_true (key.2 ⟨h1, h2⟩), h1, h2]; simp
      · rw [decide_eq_false (fun h => h2 (key.1 h).2)]; simp [h2]
      · rw [decide_eq_false (fun h => h1 (key.1 h).1)]; simp [h1]
      · rw [decide_eq_false (fun h => h1 (key.1 h).1)]; simp [h1]
theorem envQ_prefix {l : Lett} {h : List Int} {a s : Nat} (ha : a < l.apps.length) (hs : s < l.stalls.length) (e : envB l h a s = true) : ∃ r, envL l h = envQ l h a s ++ ((a : Int), (s : Int)) :: r := by
  have h1 : ∀ k, s + 1 ≤ k → k ≤ l.stalls.length → ∃ r, envR l h a k = envR l h a (s + 1) ++ r := fun k hk _ => by
    obtain ⟨d, rfl⟩ : ∃ d, k = s + 1 + d := ⟨k - (s + 1), by omega⟩
    refine ⟨((List.range' (s + 1) d).filter (envB l h a)).map fun s : Nat => ((a : Int), (s : Int)), ?_⟩
    have e0 : List.range (s + 1 + d) = List.range (s + 1) ++ List.range' (s + 1) d := by
      have := List.range'_append_1 (s := 0) (m := s + 1) (n := d)
      rw [Nat.zero_add] at this
      rw [List.range_eq_range', List.range_eq_range', this]
    unfold envR
    rw [e0, List.filter_append, List.map_append]
  have h2 : ∀ k, a + 1 ≤ k → ∃ r, (List.range k).flatMap (fun a => envR l h a l.stalls.length) = (List.range (a + 1)).flatMap (fun a => envR l h a l.stalls.length) ++ r := fun k hk => by
    obtain ⟨d, rfl⟩ : ∃ d, k = a + 1 + d := ⟨k - (a + 1), by omega⟩
    refine ⟨(List.range' (a + 1) d).flatMap fun a => envR l h a l.stalls.length, ?_⟩
    have e0 : List.range (a + 1 + d) = List.range (a + 1) ++ List.range' (a + 1) d := by
      have := List.range'_append_1 (s := 0) (m := a + 1) (n := d)
      rw [Nat.zero_add] at this
      rw [List.range_eq_range', List.range_eq_range', this]
    rw [e0, List.flatMap_append]
  obtain ⟨r1, e1⟩ := h1 l.stalls.length hs (Nat.le_refl _)
  obtain ⟨r2, e2⟩ := h2 l.apps.length ha
  refine ⟨r1 ++ r2, ?_⟩
  have e3 : envL l h = (List.range l.apps.length).flatMap fun a => envR l h a l.stalls.length := rfl
  have e4 : envR l h a (s + 1) = envR l h a s ++ [((a : Int), (s : Int))] := by
    simp [envR, List.range_succ, List.filter_append, e]
  rw [e3, e2, List.range_succ, List.flatMap_append, envQ]
  simp only [List.flatMap_cons, List.flatMap_nil, List.append_nil]
  rw [e1, e4]
  simp only [List.append_assoc, List.cons_append, List.nil_append]
theorem mem_envL {l : Lett} {h : List Int} {a s : Nat} (ha : a < l.apps.length) (hs : s < l.stalls.length) (e : envB l h a s = true) : ((a : Int), (s : Int)) ∈ envL l h := by
  obtain ⟨r, hr⟩ := envQ_prefix ha hs e
  rw [hr]; simp
theorem left_ok {l : Lett} {X : List Int} (hk : HoldOk l X) {s : Nat} (hs : s < X.length) : HoldOk l (X.set s (-1)) := by
  refine ⟨by rw [List.length_set]; exact hk.len, fun t ht => ?_, fun t u a ht hu h1 h2 => ?_⟩
  · rw [List.length_set] at ht
    rw [List.getElem_set]
    split
    · exact .inl rfl
    · exact hk.ok t ht
  · rw [List.length_set] at ht hu
    rw [List.getElem_set] at h1 h2
    split at h1
    · omega
    · split at h2
      · omega
      · exact hk.one t u a ht hu h1 h2
theorem left_env {l : Lett} {X : List Int} (hk : HoldOk l X) {s b : Nat} (hs : s < X.length) (hX : X[s] = (b : Int)) : envB l (X.set s (-1)) b s = true ∧ b < l.apps.length := by
  obtain ⟨hb, hbc⟩ : b < l.apps.length ∧ canS l.stalls (nth l.apps b) s = true := by
    rcases hk.ok s hs with q | ⟨c, q1, q2, q3⟩
    · omega
    · have : c = b := by omega
      subst this; exact ⟨q2, q3⟩
  have hn : (b : Int) ∉ X.set s (-1) := fun hm => by
    obtain ⟨t, ht, e⟩ := List.getElem_of_mem hm
    rw [List.length_set] at ht
    rw [List.getElem_set] at e
    split at e
    · omega
    · rename_i hne
      exact hne (hk.one s t b hs ht hX e)
  refine ⟨?_, hb⟩
  have hc2 : canS l.stalls l.apps[b] s = true := by rw [← nth_get hb]; exact hbc
  rw [envB_at (by rw [List.length_set]; exact hs) hb, hc2, placeL_out hb hn, decide_eq_true (canS_lt hc2), decide_eq_true (show (X.set s (-1))[s]'(by rw [List.length_set]; exact hs) < 0 by rw [List.getElem_set_self]; decide)]
  rfl
set_option maxHeartbeats 4000000 in
theorem StallEnvy_ok (nums : List Int) : ACalls Try.prog 12 [ints nums] [] (fun r o => r = B true ∧ o = []) := by
 have F := Fx.nil
 refine ent Try.func12 Try.ntmps12 Try.results12 ?_
 refine rK [0] ?_
 refine W.seqR ?_
 refine oN 1 ?_
 refine oC [] ?_
 refine ct (DieOf_ok _) ?_
 refine oN 1 ?_
 refine oK [3] ?_
 refine W.seqR ?_
 refine oN 1 ?_
 refine oC [(10000, 200)] ?_
 refine CallT.mkE (LettingOf_ok _ 4 4 (by omega) (by omega) (by omega)) (fun z27 hz27 => ⟨(by simp), ?_⟩)
 obtain ⟨l, fd⟩ := z27
 have qmade : MadeL l 4 4 := hz27
 have hv : ValidL l := qmade.ok
 have h8 := hv.a8
 have hs8 := hv.s8
 replace F := F.add hv |>.add h8 |>.add hs8
 refine WOps.norm (by simp [hv, h8, hs8]; rfl) ?_
 refine oN 2 ?_
 refine oK [3, 4] ?_
 refine W.seqR ?_
 refine fz 216 ?_
 refine fz 217 ?_
 refine oN 1 ?_
 refine oC [] ?_
 refine CallT.mk (All_ok l hv l.stalls.length [] (by simp)) (by simp [hv, h8, hs8]) ?_
 obtain ⟨A, qA⟩ : ∃ A, A = allL l l.stalls.length [] := ⟨_, rfl⟩
 have hA := qA.symm
 have qmem : ∀ h, h ∈ A ↔ HoldOk l h := fun h => by rw [qA]; exact mem_all
 have qlen : A.length ≤ 43046721 := by rw [qA]; exact Nat.le_trans (allL_many h8 _ _) (Nat.pow_le_pow_right (n := 9) (by omega) hs8)
 have hA0 : 0 < A.length := List.length_pos_of_mem ((qmem (List.replicate l.stalls.length (-1))).2 ⟨by simp, fun s hs => .inl (by simp), fun s t a hs ht h1 h2 => by simp at h1⟩)
 replace F := F.add hA |>.add hA0
 refine WOps.norm (by simp [hv, h8, hs8, hA, hA0]; rfl) ?_
 refine oN 1 ?_
 refine oK [3, 4, 5] ?_
 obtain ⟨c, qc⟩ : ∃ c : Nat, castV fd (A.length : Int) = (c : Int) := ⟨(castV fd (A.length : Int)).toNat, by have := castV_lo fd (A.length : Int); omega⟩
 have hcv := qc
 have hcA : c < A.length := by have := castV_hi fd (A.length : Int) (by omega); omega
 obtain ⟨X, qX⟩ : ∃ X, X = A[c] := ⟨_, rfl⟩
 have hX := qX.symm
 have hk : HoldOk l X := by rw [qX]; exact (qmem _).1 (List.getElem_mem hcA)
 have hXl : X.length = l.stalls.length := hk.len
 obtain ⟨E, qE⟩ : ∃ E, E = envL l X := ⟨_, rfl⟩
 have hE := qE.symm
 replace F := F.add hcv |>.add hcA |>.add hX |>.add hk |>.add hXl |>.add hE
 refine W.seqR ?_
 refine oN 4 ?_
 refine oC [(10000, 200)] ?_
 refine ct (Cast_ok _ _ (by omega)) ?_
 refine oN 3 ?_
 refine oK [4, 6] ?_
 refine W.seqR ?_
 refine oN 2 ?_
 refine oC [] ?_
 refine ct (Envies_ok l hv X hk) ?_
 refine oN 5 ?_
 refine oK [4, 6, 7, 8] ?_
 refine W.seqk fun K1 hK1 => ?_
 refine rK [4, 6, 7, 44] ?_
 refine cF ?_
 refine W.skip ?_
 refine hK1 _ ?_
 clear hK1 K1
 refine rK [4, 6, 7, 9] ?_
 refine W.seqk fun K2 hK2 => ?_
 refine rK [4, 6, 7, 9, 10] ?_
 refine W.block ?_
 refine lp (α := Nat) [4, 6, 7] [48, 55, 62, 69, 102, 106, 111] [] (fun a => [(10, I a), (9, I (envQ l X a 0).length)]) (fun a => []) (fun a => a ≤ l.apps.length) (fun a => l.apps.length - a) 0 ?_ ?_ v0 ?_
 ·
  try (simp [Fx.get F])
  all_goals (
   rw [envQ_00]; rfl
  )
 ·
  exact v1
 ·
  intro a hI0
  simp only [List.cons_append, List.nil_append]
  try dsimp only at hI0
  replace F := F.add hI0
  refine W.seqk fun K3 hK3 => ?_
  refine rK [4, 6, 7, 9, 10, 49] ?_
  refine it (fun hc2 => ?_) (fun hc2 => ?_)
  ·
   try simp at hc2
   replace F := F.add hc2
   refine W.skip ?_
   refine hK3 _ ?_
   clear hK3 K3
   refine W.seqk fun K4 hK4 => ?_
   refine W.block ?_
   have ha : a < l.apps.length := by omega
   replace F := F.add ha
   refine rK [4, 6, 7, 9, 10, 11] ?_
   refine W.block ?_
   refine lpa (α := Nat) [4, 6, 7, 10] [55, 62, 69, 102, 106, 111] [] (fun s => [(11, I s), (9, I (envQ l X a s).length)]) (fun s => []) (fun s => s ≤ l.stalls.length) (fun s => l.stalls.length - s) 0 v0 ?_
   ·
    intro s hI1
    simp only [List.cons_append, List.nil_append]
    try dsimp only at hI1
    replace F := F.add hI1
    refine W.seqk fun K5 hK5 => ?_
    refine rK [4, 6, 7, 9, 10, 11, 56] ?_
    refine it (fun hc3 => ?_) (fun hc3 => ?_)
    ·
     try simp at hc3
     replace F := F.add hc3
     refine W.skip ?_
     refine hK5 _ ?_
     clear hK5 K5
     refine W.seqk fun K6 hK6 => ?_
     refine W.block ?_
     have hs : s < l.stalls.length := by omega
     have hsX : s < X.length := by omega
     obtain ⟨R, qR⟩ : ∃ R, R = rankL l s := ⟨_, rfl⟩
     have hR := qR.symm
     have hRn : R.length ≤ 8 := by rw [qR, rankL, sortL_len]; have := canL_len l s l.apps.length; omega
     obtain ⟨ah, qah⟩ : ∃ ah : Nat → Bool, ∀ k, ah k = decide ((a : Int) ∈ R.take k) := ⟨_, fun _ => rfl⟩
     have hah0 : ah 0 = false := by rw [qah]; simp
     have hql : (envQ l X a s).length ≤ 100 := by have := envQ_le (l := l) (h := X) (a := a) (s := s) (by omega) hs8; omega
     replace F := F.add hs |>.add hsX |>.add hR |>.add hRn |>.add hah0 |>.add hql
     refine W.seqR ?_
     refine oN 2 ?_
     refine oC [] ?_
     refine ct (Ranks_ok l hv s hs) ?_
     refine oN 5 ?_
     refine oK [4, 6, 7, 9, 10, 11, 12, 13] ?_
     refine W.seqk fun K7 hK7 => ?_
     refine rK [4, 6, 7, 9, 10, 11, 12, 66] ?_
     refine cF ?_
     refine W.skip ?_
     refine hK7 _ ?_
     clear hK7 K7
     refine rK [4, 6, 7, 9, 10, 11, 12, 14] ?_
     refine W.seqk fun K8 hK8 => ?_
     refine rK [4, 6, 7, 9, 10, 11, 12, 14, 15] ?_
     refine W.block ?_
     refine lpa (α := Nat) [4, 6, 7, 9, 10, 11, 12] [69] [] (fun k => [(15, I k), (14, B (ah k))]) (fun k => []) (fun k => k ≤ R.length ∧ X[s] ∉ R.take k) (fun k => R.length - k) 0 v0 ?_
     ·
      intro k hI2
      simp only [List.cons_append, List.nil_append]
      try dsimp only at hI2
      obtain ⟨hkR, hnm⟩ := hI2
      replace F := F.add hkR
      refine W.seqk fun K9 hK9 => ?_
      by_cases hkl : k < R.length
      ·
       replace F := F.add hkl
       by_cases hst : R[k] = X[s]
       ·
        replace F := F.add hst
        refine wD 13 [] [[], [], [1], [1, 2, 0], [0, 2, 1, 3], [3, 1, 2, 0, 4], [3, 1, 2, 0, 4], [6, 4, 0, 2, 1, 3, 5], [5, 3, 1, 2, 0, 4, 6, 7], [3, 1, 2, 0, 4], [3, 1, 2, 0, 4], [10, 4, 0, 2, 1, 3, 9], [9, 3, 1, 2, 0, 4, 10, 11], [11, 10, 9, 12, 7, 6, 4, 0, 2, 1, 3, 5, 8], [8, 5, 6, 7, 12, 9, 10, 11, 13, 3, 1, 2, 0, 4]] ?_
        refine dN 5 8 ?_
        refine dT ?_
        refine dT ?_
        refine dT ?_
        refine dT ?_
        refine dT ?_
        refine dT ?_
        refine dT ?_
        refine dT ?_
        refine dD ?_
        refine gT ?_
        refine oN 1 ?_
        refine oK [4, 6, 7, 9, 10, 11, 12, 14, 15, 81] ?_
        refine cF ?_
        refine W.exit ?_
        refine hK8 _ ?_
        clear hK9 K9 hK8 K8
        refine W.seqk fun K10 hK10 => ?_
        by_cases hay : ah k = true
        ·
         replace F := F.add hay
         by_cases hpl : l.apps[a].wishes.idxOf (s : Int) < placeL l X a
         ·
          replace F := F.add hpl
          have hpl2 : ¬ placeL l X a ≤ l.apps[a].wishes.idxOf (s : Int) := by omega
          have henv : envB l X a s = true := by
            rw [env_rank hk ha hs hsX (k := k) (by rw [← qR]; exact hnm) (by subst qR; first | exact .inr ⟨hkl, hst⟩ | exact .inl (by omega)), ← qR, ← qah, hay, decide_eq_true hpl]; rfl
          obtain ⟨er, qer⟩ := envQ_prefix ha hs henv
          have hEl : (envQ l X a s).length < E.length := by rw [qE, qer]; simp
          have hEl2 : ¬ E.length ≤ (envQ l X a s).length := by omega
          have hEa : E[(envQ l X a s).length] = ((a : Int), (s : Int)) := by subst qE; simp [qer]
          replace F := F.add hpl2 |>.add henv |>.add hEl |>.add hEl2 |>.add hEa
          refine wD 13 [] [[], [0], [0, 1], [1, 0, 2], [2, 0, 1, 3], [1, 0, 2], [5, 3, 1, 0, 2, 4], [4, 2, 0, 1, 3, 5, 6], [1, 0, 2], [8, 6, 5, 3, 1, 0, 2, 4, 7], [1, 0, 2], [1, 0, 2], [1, 0, 2], [7, 4, 3, 5, 6, 8, 9, 12, 11, 2, 0, 1, 10], [10, 11, 12, 13, 7, 4, 2, 0, 1, 3, 5, 6, 8, 9], [9, 8, 6, 5, 3, 4, 7, 13, 12, 11, 10, 14, 1, 0, 2]] ?_
          refine dN 3 10 ?_
          refine dT ?_
          refine dT ?_
          refine dT ?_
          refine dT ?_
          refine dT ?_
          refine dT ?_
          refine dG [] ?_
          refine cd (Wish_ok l.apps[a] s) ?_
          refine dT ?_
          refine dT ?_
          refine dT ?_
          refine dD ?_
          refine gC [] ?_
          refine ct (Place_ok l X a ha) ?_
          refine gT ?_
          refine oN 1 ?_
          refine oK [4, 6, 7, 9, 10, 11, 108] ?_
          refine cF ?_
          refine W.skip ?_
          refine hK10 _ ?_
          clear hK10 K10
          refine W.seqk fun K11 hK11 => ?_
          refine W.seqR ?_
          refine oN 5 ?_
          refine gT ?_
          refine gT ?_
          refine gT ?_
          refine gT ?_
          refine gT ?_
          refine gT ?_
          refine gT ?_
          refine gT ?_
          refine oN 1 ?_
          refine oK [4, 6, 7, 9, 10, 11, 122] ?_
          refine cF ?_
          refine W.skip ?_
          refine hK11 _ ?_
          clear hK11 K11
          refine rEw ?_
          refine hK6 _ ?_
          clear hK6 K6
          refine rEw ?_
          refine ⟨s + 1, lf ?_ ?_, ?_, v0⟩
          ·
           try (simp [Fx.get F])
           all_goals (
            first
            | (rw [envQ_miss henv]; done)
            | (rw [envQ_hit henv, List.length_append]; rfl)
            | (have e : s = l.stalls.length := by omega
               rw [e, envQ_next]; done)
           )
          ·
           exact v1
          ·
           first
           | exact ⟨by omega, qnm2⟩
           | omega
         ·
          replace F := F.add hpl
          have hpl2 : placeL l X a ≤ l.apps[a].wishes.idxOf (s : Int) := by omega
          have henv : envB l X a s = false := by
            rw [env_rank hk ha hs hsX (k := k) (by rw [← qR]; exact hnm) (by subst qR; first | exact .inr ⟨hkl, hst⟩ | exact .inl (by omega)), ← qR, ← qah, hay, decide_eq_false hpl]; rfl
          replace F := F.add hpl2 |>.add henv
          refine wD 13 [] [[], [0], [0, 1], [1, 0, 2], [2, 0, 1, 3], [1, 0, 2], [5, 3, 1, 0, 2, 4], [4, 2, 0, 1, 3, 5, 6], [1, 0, 2], [8, 6, 5, 3, 1, 0, 2, 4, 7], [1, 0, 2], [1, 0, 2], [1, 0, 2], [7, 4, 3, 5, 6, 8, 9, 12, 11, 2, 0, 1, 10], [10, 11, 12, 13, 7, 4, 2, 0, 1, 3, 5, 6, 8, 9], [9, 8, 6, 5, 3, 4, 7, 13, 12, 11, 10, 14, 1, 0, 2]] ?_
          refine dN 3 10 ?_
          refine dT ?_
          refine dT ?_
          refine dT ?_
          refine dT ?_
          refine dT ?_
          refine dT ?_
          refine dG [] ?_
          refine cd (Wish_ok l.apps[a] s) ?_
          refine dT ?_
          refine dT ?_
          refine dT ?_
          refine dD ?_
          refine gC [] ?_
          refine ct (Place_ok l X a ha) ?_
          refine gT ?_
          refine oN 1 ?_
          refine oK [4, 6, 7, 9, 10, 11, 108] ?_
          refine cT ?_
          refine W.exit ?_
          refine hK6 _ ?_
          clear hK10 K10 hK6 K6
          refine rEw ?_
          refine ⟨s + 1, lf ?_ ?_, ?_, v0⟩
          ·
           try (simp [Fx.get F])
           all_goals (
            first
            | (rw [envQ_miss henv]; done)
            | (rw [envQ_hit henv, List.length_append]; rfl)
            | (have e : s = l.stalls.length := by omega
               rw [e, envQ_next]; done)
           )
          ·
           exact v1
          ·
           first
           | exact ⟨by omega, qnm2⟩
           | omega
        ·
         replace F := F.add hay
         have henv : envB l X a s = false := by
           rw [env_rank hk ha hs hsX (k := k) (by rw [← qR]; exact hnm) (by subst qR; first | exact .inr ⟨hkl, hst⟩ | exact .inl (by omega)), ← qR, ← qah]
           simp [hay]
         replace F := F.add henv
         refine wD 13 [] [[], [0], [0, 1], [1, 0, 2], [2, 0, 1, 3], [1, 0, 2], [5, 3, 1, 0, 2, 4], [4, 2, 0, 1, 3, 5, 6], [1, 0, 2], [8, 6, 5, 3, 1, 0, 2, 4, 7], [1, 0, 2], [1, 0, 2], [1, 0, 2], [7, 4, 3, 5, 6, 8, 9, 12, 11, 2, 0, 1, 10], [10, 11, 12, 13, 7, 4, 2, 0, 1, 3, 5, 6, 8, 9], [9, 8, 6, 5, 3, 4, 7, 13, 12, 11, 10, 14, 1, 0, 2]] ?_
         refine dN 3 10 ?_
         refine dF ?_
         refine dF ?_
         refine dF ?_
         refine dF ?_
         refine dF ?_
         refine dF ?_
         refine dF ?_
         refine dF ?_
         refine dF ?_
         refine dF ?_
         refine dD ?_
         refine gF ?_
         refine gF ?_
         refine oN 1 ?_
         refine oK [4, 6, 7, 9, 10, 11, 108] ?_
         refine cT ?_
         refine W.exit ?_
         refine hK6 _ ?_
         clear hK10 K10 hK6 K6
         refine rEw ?_
         refine ⟨s + 1, lf ?_ ?_, ?_, v0⟩
         ·
          try (simp [Fx.get F])
          all_goals (
           first
           | (rw [envQ_miss henv]; done)
           | (rw [envQ_hit henv, List.length_append]; rfl)
           | (have e : s = l.stalls.length := by omega
              rw [e, envQ_next]; done)
          )
         ·
          exact v1
         ·
          first
          | exact ⟨by omega, qnm2⟩
          | omega
       ·
        replace F := F.add hst
        have qnm2 : X[s] ∉ R.take (k + 1) := nmem_take_succ hnm hkl hst
        refine wD 13 [] [[], [], [1], [1, 2, 0], [0, 2, 1, 3], [3, 1, 2, 0, 4], [3, 1, 2, 0, 4], [6, 4, 0, 2, 1, 3, 5], [5, 3, 1, 2, 0, 4, 6, 7], [3, 1, 2, 0, 4], [3, 1, 2, 0, 4], [10, 4, 0, 2, 1, 3, 9], [9, 3, 1, 2, 0, 4, 10, 11], [11, 10, 9, 12, 7, 6, 4, 0, 2, 1, 3, 5, 8], [8, 5, 6, 7, 12, 9, 10, 11, 13, 3, 1, 2, 0, 4]] ?_
        refine dN 5 8 ?_
        refine dT ?_
        refine dT ?_
        refine dT ?_
        refine dT ?_
        refine dT ?_
        refine dT ?_
        refine dT ?_
        refine dT ?_
        refine dD ?_
        refine gT ?_
        refine oN 1 ?_
        refine oK [4, 6, 7, 9, 10, 11, 12, 14, 15, 81] ?_
        refine cT ?_
        refine W.skip ?_
        refine hK9 _ ?_
        clear hK9 K9
        refine W.seqk fun K12 hK12 => ?_
        refine W.block ?_
        by_cases hak : ah k = true
        ·
         replace F := F.add hak
         have hah : ah (k + 1) = true := by rw [qah, decide_eq_true_eq] at hak ⊢; rw [List.take_succ_eq_append_getElem hkl]; exact List.mem_append_left _ hak
         replace F := F.add hah
         refine W.region ?_
         refine oN 2 ?_
         refine gF ?_
         refine gF ?_
         refine gF ?_
         refine gF ?_
         refine gF ?_
         refine gF ?_
         refine oN 2 ?_
         refine WOps.endK ?_
         refine hK12 _ ?_
         clear hK12 K12
         refine rEw ?_
         refine ⟨k + 1, lf ?_ ?_, ?_, v0⟩
         ·
          try (simp [Fx.get F])
          all_goals (
           first
           | (rw [envQ_miss henv]; done)
           | (rw [envQ_hit henv, List.length_append]; rfl)
           | (have e : s = l.stalls.length := by omega
              rw [e, envQ_next]; done)
          )
         ·
          exact v1
         ·
          first
          | exact ⟨by omega, qnm2⟩
          | omega
        ·
         replace F := F.add hak
         have hah : ah (k + 1) = decide (R[k] = (a : Int)) := by
           rw [qah, decide_eq_true_eq] at hak
           rw [qah, decide_eq_decide, List.take_succ_eq_append_getElem hkl, List.mem_append, List.mem_singleton]
           exact ⟨fun h => (h.resolve_left hak).symm, fun h => .inr h.symm⟩
         replace F := F.add hah
         refine W.region ?_
         refine oN 2 ?_
         refine gT ?_
         refine gT ?_
         refine gT ?_
         refine gT ?_
         refine gT ?_
         refine gT ?_
         refine oN 2 ?_
         refine WOps.endK ?_
         refine hK12 _ ?_
         clear hK12 K12
         refine rEw ?_
         refine ⟨k + 1, lf ?_ ?_, ?_, v0⟩
         ·
          try (simp [Fx.get F])
          all_goals (
           rw [Bool.eq_iff_iff, beq_iff_eq, decide_eq_true_eq]
          )
         ·
          exact v1
         ·
          first
          | exact ⟨by omega, qnm2⟩
          | omega
      ·
       replace F := F.add hkl
       refine wD 13 [] [[], [], [1], [1, 2, 0], [0, 2, 1, 3], [3, 1, 2, 0, 4], [3, 1, 2, 0, 4], [6, 4, 0, 2, 1, 3, 5], [5, 3, 1, 2, 0, 4, 6, 7], [3, 1, 2, 0, 4], [3, 1, 2, 0, 4], [10, 4, 0, 2, 1, 3, 9], [9, 3, 1, 2, 0, 4, 10, 11], [11, 10, 9, 12, 7, 6, 4, 0, 2, 1, 3, 5, 8], [8, 5, 6, 7, 12, 9, 10, 11, 13, 3, 1, 2, 0, 4]] ?_
       refine dN 5 8 ?_
       refine dF ?_
       refine dF ?_
       refine dF ?_
       refine dF ?_
       refine dF ?_
       refine dF ?_
       refine dF ?_
       refine dF ?_
       refine dD ?_
       refine gF ?_
       refine oN 1 ?_
       refine oK [4, 6, 7, 9, 10, 11, 12, 14, 15, 81] ?_
       refine cF ?_
       refine W.exit ?_
       refine hK8 _ ?_
       clear hK9 K9 hK8 K8
       refine W.seqk fun K13 hK13 => ?_
       by_cases hay : ah k = true
       ·
        replace F := F.add hay
        by_cases hpl : l.apps[a].wishes.idxOf (s : Int) < placeL l X a
        ·
         replace F := F.add hpl
         have hpl2 : ¬ placeL l X a ≤ l.apps[a].wishes.idxOf (s : Int) := by omega
         have henv : envB l X a s = true := by
           rw [env_rank hk ha hs hsX (k := k) (by rw [← qR]; exact hnm) (by subst qR; first | exact .inr ⟨hkl, hst⟩ | exact .inl (by omega)), ← qR, ← qah, hay, decide_eq_true hpl]; rfl
         obtain ⟨er, qer⟩ := envQ_prefix ha hs henv
         have hEl : (envQ l X a s).length < E.length := by rw [qE, qer]; simp
         have hEl2 : ¬ E.length ≤ (envQ l X a s).length := by omega
         have hEa : E[(envQ l X a s).length] = ((a : Int), (s : Int)) := by subst qE; simp [qer]
         replace F := F.add hpl2 |>.add henv |>.add hEl |>.add hEl2 |>.add hEa
         refine wD 13 [] [[], [0], [0, 1], [1, 0, 2], [2, 0, 1, 3], [1, 0, 2], [5, 3, 1, 0, 2, 4], [4, 2, 0, 1, 3, 5, 6], [1, 0, 2], [8, 6, 5, 3, 1, 0, 2, 4, 7], [1, 0, 2], [1, 0, 2], [1, 0, 2], [7, 4, 3, 5, 6, 8, 9, 12, 11, 2, 0, 1, 10], [10, 11, 12, 13, 7, 4, 2, 0, 1, 3, 5, 6, 8, 9], [9, 8, 6, 5, 3, 4, 7, 13, 12, 11, 10, 14, 1, 0, 2]] ?_
         refine dN 3 10 ?_
         refine dT ?_
         refine dT ?_
         refine dT ?_
         refine dT ?_
         refine dT ?_
         refine dT ?_
         refine dG [] ?_
         refine cd (Wish_ok l.apps[a] s) ?_
         refine dT ?_
         refine dT ?_
         refine dT ?_
         refine dD ?_
         refine gC [] ?_
         refine ct (Place_ok l X a ha) ?_
         refine gT ?_
         refine oN 1 ?_
         refine oK [4, 6, 7, 9, 10, 11, 108] ?_
         refine cF ?_
         refine W.skip ?_
         refine hK13 _ ?_
         clear hK13 K13
         refine W.seqk fun K14 hK14 => ?_
         refine W.seqR ?_
         refine oN 5 ?_
         refine gT ?_
         refine gT ?_
         refine gT ?_
         refine gT ?_
         refine gT ?_
         refine gT ?_
         refine gT ?_
         refine gT ?_
         refine oN 1 ?_
         refine oK [4, 6, 7, 9, 10, 11, 122] ?_
         refine cF ?_
         refine W.skip ?_
         refine hK14 _ ?_
         clear hK14 K14
         refine rEw ?_
         refine hK6 _ ?_
         clear hK6 K6
         refine rEw ?_
         refine ⟨s + 1, lf ?_ ?_, ?_, v0⟩
         ·
          try (simp [Fx.get F])
          all_goals (
           first
           | (rw [envQ_miss henv]; done)
           | (rw [envQ_hit henv, List.length_append]; rfl)
           | (have e : s = l.stalls.length := by omega
              rw [e, envQ_next]; done)
          )
         ·
          exact v1
         ·
          first
          | exact ⟨by omega, qnm2⟩
          | omega
        ·
         replace F := F.add hpl
         have hpl2 : placeL l X a ≤ l.apps[a].wishes.idxOf (s : Int) := by omega
         have henv : envB l X a s = false := by
           rw [env_rank hk ha hs hsX (k := k) (by rw [← qR]; exact hnm) (by subst qR; first | exact .inr ⟨hkl, hst⟩ | exact .inl (by omega)), ← qR, ← qah, hay, decide_eq_false hpl]; rfl
         replace F := F.add hpl2 |>.add henv
         refine wD 13 [] [[], [0], [0, 1], [1, 0, 2], [2, 0, 1, 3], [1, 0, 2], [5, 3, 1, 0, 2, 4], [4, 2, 0, 1, 3, 5, 6], [1, 0, 2], [8, 6, 5, 3, 1, 0, 2, 4, 7], [1, 0, 2], [1, 0, 2], [1, 0, 2], [7, 4, 3, 5, 6, 8, 9, 12, 11, 2, 0, 1, 10], [10, 11, 12, 13, 7, 4, 2, 0, 1, 3, 5, 6, 8, 9], [9, 8, 6, 5, 3, 4, 7, 13, 12, 11, 10, 14, 1, 0, 2]] ?_
         refine dN 3 10 ?_
         refine dT ?_
         refine dT ?_
         refine dT ?_
         refine dT ?_
         refine dT ?_
         refine dT ?_
         refine dG [] ?_
         refine cd (Wish_ok l.apps[a] s) ?_
         refine dT ?_
         refine dT ?_
         refine dT ?_
         refine dD ?_
         refine gC [] ?_
         refine ct (Place_ok l X a ha) ?_
         refine gT ?_
         refine oN 1 ?_
         refine oK [4, 6, 7, 9, 10, 11, 108] ?_
         refine cT ?_
         refine W.exit ?_
         refine hK6 _ ?_
         clear hK13 K13 hK6 K6
         refine rEw ?_
         refine ⟨s + 1, lf ?_ ?_, ?_, v0⟩
         ·
          try (simp [Fx.get F])
          all_goals (
           first
           | (rw [envQ_miss henv]; done)
           | (rw [envQ_hit henv, List.length_append]; rfl)
           | (have e : s = l.stalls.length := by omega
              rw [e, envQ_next]; done)
          )
         ·
          exact v1
         ·
          first
          | exact ⟨by omega, qnm2⟩
          | omega
       ·
        replace F := F.add hay
        have henv : envB l X a s = false := by
          rw [env_rank hk ha hs hsX (k := k) (by rw [← qR]; exact hnm) (by subst qR; first | exact .inr ⟨hkl, hst⟩ | exact .inl (by omega)), ← qR, ← qah]
          simp [hay]
        replace F := F.add henv
        refine wD 13 [] [[], [0], [0, 1], [1, 0, 2], [2, 0, 1, 3], [1, 0, 2], [5, 3, 1, 0, 2, 4], [4, 2, 0, 1, 3, 5, 6], [1, 0, 2], [8, 6, 5, 3, 1, 0, 2, 4, 7], [1, 0, 2], [1, 0, 2], [1, 0, 2], [7, 4, 3, 5, 6, 8, 9, 12, 11, 2, 0, 1, 10], [10, 11, 12, 13, 7, 4, 2, 0, 1, 3, 5, 6, 8, 9], [9, 8, 6, 5, 3, 4, 7, 13, 12, 11, 10, 14, 1, 0, 2]] ?_
        refine dN 3 10 ?_
        refine dF ?_
        refine dF ?_
        refine dF ?_
        refine dF ?_
        refine dF ?_
        refine dF ?_
        refine dF ?_
        refine dF ?_
        refine dF ?_
        refine dF ?_
        refine dD ?_
        refine gF ?_
        refine gF ?_
        refine oN 1 ?_
        refine oK [4, 6, 7, 9, 10, 11, 108] ?_
        refine cT ?_
        refine W.exit ?_
        refine hK6 _ ?_
        clear hK13 K13 hK6 K6
        refine rEw ?_
        refine ⟨s + 1, lf ?_ ?_, ?_, v0⟩
        ·
         try (simp [Fx.get F])
         all_goals (
          first
          | (rw [envQ_miss henv]; done)
          | (rw [envQ_hit henv, List.length_append]; rfl)
          | (have e : s = l.stalls.length := by omega
             rw [e, envQ_next]; done)
         )
        ·
         exact v1
        ·
         first
         | exact ⟨by omega, qnm2⟩
         | omega
    ·
     try simp at hc3
     replace F := F.add hc3
     refine W.exit ?_
     refine hK4 _ ?_
     clear hK5 K5 hK4 K4
     refine rEw ?_
     refine ⟨a + 1, lf ?_ ?_, ?_, v0⟩
     ·
      try (simp [Fx.get F])
      all_goals (
       first
       | (rw [envQ_miss henv]; done)
       | (rw [envQ_hit henv, List.length_append]; rfl)
       | (have e : s = l.stalls.length := by omega
          rw [e, envQ_next]; done)
      )
     ·
      exact v1
     ·
      first
      | exact ⟨by omega, qnm2⟩
      | omega
  ·
   try simp at hc2
   replace F := F.add hc2
   refine W.exit ?_
   refine hK2 _ ?_
   clear hK3 K3 hK2 K2
   have hae : a = l.apps.length := by omega
   have hEn : (envQ l X l.apps.length 0).length = E.length := by rw [envQ_end, qE]
   replace F := F.add hae |>.add hEn
   refine W.seqR ?_
   refine oN 1 ?_
   refine oC [] ?_
   refine CallT.mkE (Let_ok l hv) (fun z127 hz127 => ⟨(by simp [hv, h8, hs8, hA, hA0, hcv, hcA, hX, hk, hXl, hE, hI0, hc2, hae, hEn]), ?_⟩)
   obtain ⟨z, qz⟩ : ∃ z, z = z127 := ⟨_, rfl⟩
   have hz := qz.symm
   have qb : BestL l z := by rw [qz]; exact hz127
   have qzk : HoldOk l z := qb.hold
   have hzl : z.length = l.stalls.length := qzk.len
   replace F := F.add hz |>.add hzl
   refine WOps.norm (by simp [hv, h8, hs8, hA, hA0, hcv, hcA, hX, hk, hXl, hE, hI0, hc2, hae, hEn, hz, hzl]; rfl) ?_
   refine oN 5 ?_
   refine oK [4, 7, 9, 16, 17] ?_
   refine W.seqk fun K15 hK15 => ?_
   refine W.seqR ?_
   refine oN 5 ?_
   refine gT ?_
   refine gT ?_
   refine oN 2 ?_
   refine gT ?_
   refine gT ?_
   refine gT ?_
   refine gT ?_
   refine gT ?_
   refine gT ?_
   refine oN 1 ?_
   refine oK [4, 16, 145] ?_
   refine cF ?_
   refine W.skip ?_
   refine hK15 _ ?_
   clear hK15 K15
   refine W.seqk fun K16 hK16 => ?_
   refine rK [4, 16, 18] ?_
   refine W.block ?_
   refine lpa (α := Nat) [4, 16] [148, 158, 165, 170] [] (fun s => [(18, I s)]) (fun s => []) (fun s => s ≤ z.length) (fun s => z.length - s) 0 v0 ?_
   ·
    intro s hI3
    simp only [List.cons_append, List.nil_append]
    try dsimp only at hI3
    replace F := F.add hI3
    refine W.seqk fun K17 hK17 => ?_
    refine rK [4, 16, 18, 149] ?_
    refine it (fun hc17 => ?_) (fun hc17 => ?_)
    ·
     try simp at hc17
     replace F := F.add hc17
     refine W.skip ?_
     refine hK17 _ ?_
     clear hK17 K17
     refine W.seqk fun K18 hK18 => ?_
     refine W.block ?_
     refine W.seqk fun K19 hK19 => ?_
     by_cases hng : z[s] < 0
     ·
      replace F := F.add hng
      have hsz : s < z.length := by omega
      replace F := F.add hsz
      refine rK [4, 16, 18, 156] ?_
      refine cT ?_
      refine W.exit ?_
      refine hK18 _ ?_
      clear hK19 K19 hK18 K18
      refine rEw ?_
      refine ⟨s + 1, lf ?_ ?_, ?_, v0⟩
      ·
       try (simp [Fx.get F])
       all_goals (
        first
        | (rw [envQ_miss henv]; done)
        | (rw [envQ_hit henv, List.length_append]; rfl)
        | (have e : s = l.stalls.length := by omega
           rw [e, envQ_next]; done)
       )
      ·
       exact v1
      ·
       first
       | exact ⟨by omega, qnm2⟩
       | omega
     ·
      replace F := F.add hng
      have hsz2 : s < z.length := by omega
      obtain ⟨b, qzb⟩ : ∃ b : Nat, z[s] = (b : Int) := ⟨z[s].toNat, by omega⟩
      have hzb := qzb
      obtain ⟨Z, qZ⟩ : ∃ Z, Z = z.set s (-1) := ⟨_, rfl⟩
      have hZ := qZ.symm
      have hZl : Z.length = l.stalls.length := by rw [qZ, List.length_set]; exact hzl
      have qZk : HoldOk l Z := by rw [qZ]; exact left_ok qzk hsz2
      have hZt : List.take l.stalls.length (Z.map I) = Z.map I := List.take_of_length_le (by rw [List.length_map]; omega)
      obtain ⟨Y, qY⟩ : ∃ Y, Y = envL l Z := ⟨_, rfl⟩
      have hY := qY.symm
      have qYm : ((b : Int), (s : Int)) ∈ Y := by
        rw [qY, qZ]
        obtain ⟨e1, e2⟩ := left_env qzk hsz2 qzb
        exact mem_envL e2 (by omega) e1
      obtain ⟨sb, qsb⟩ : ∃ sb : Nat → Bool, ∀ k, sb k = decide (((b : Int), (s : Int)) ∈ Y.take k) := ⟨_, fun _ => rfl⟩
      have hsb0 : sb 0 = false := by rw [qsb]; simp
      have hYn : Y.length ≤ 64 := by rw [qY, ← envQ_end]; have := envQ_le (l := l) (h := Z) (a := l.apps.length) (s := 0) (by omega) hs8; omega
      replace F := F.add hsz2 |>.add hzb |>.add hZ |>.add hZl |>.add hZt |>.add hY |>.add hsb0 |>.add hYn
      have hsz : s < z.length := by omega
      replace F := F.add hsz
      refine rK [4, 16, 18, 156] ?_
      refine cF ?_
      refine W.skip ?_
      refine hK19 _ ?_
      clear hK19 K19
      refine W.seqR ?_
      refine oN 1 ?_
      refine oC [] ?_
      refine ct (CopyInts_ok z (by omega)) ?_
      refine oN 1 ?_
      refine oK [4, 16, 18, 19] ?_
      refine rK [4, 16, 18, 19] ?_
      refine W.seqR ?_
      refine fz 1264 ?_
      refine oN 2 ?_
      refine oC [] ?_
      refine ct (Envies_ok l hv Z qZk) ?_
      refine oN 5 ?_
      refine oK [4, 16, 18, 20, 21] ?_
      refine rK [4, 16, 18, 20, 21, 22] ?_
      refine W.seqk fun K20 hK20 => ?_
      refine rK [4, 16, 18, 20, 21, 22, 23] ?_
      refine W.block ?_
      refine lpa (α := Nat) [4, 16, 18, 20, 21] [170] [] (fun k => [(23, I k), (22, B (sb k))]) (fun k => []) (fun k => k ≤ Y.length) (fun k => Y.length - k) 0 v0 ?_
      ·
       intro k hI4
       simp only [List.cons_append, List.nil_append]
       try dsimp only at hI4
       replace F := F.add hI4
       refine W.seqk fun K21 hK21 => ?_
       have hsz := hsz2
       replace F := F.add hsz
       refine rK [4, 16, 18, 20, 21, 22, 23, 171] ?_
       refine it (fun hc20 => ?_) (fun hc20 => ?_)
       ·
        try simp at hc20
        replace F := F.add hc20
        refine W.skip ?_
        refine hK21 _ ?_
        clear hK21 K21
        refine W.seqk fun K22 hK22 => ?_
        refine W.block ?_
        by_cases hsk : sb k = true
        ·
         replace F := F.add hsk
         have hkY : k < Y.length := by omega
         have hsb : sb (k + 1) = true := by rw [qsb, decide_eq_true_eq] at hsk ⊢; rw [List.take_succ_eq_append_getElem hkY]; exact List.mem_append_left _ hsk
         replace F := F.add hkY |>.add hsb
         refine wDe 12 [] [[], [0], [0, 1], [0, 1], [3, 1, 0, 2], [2, 0, 1, 3, 4], [0, 1], [0, 1], [7, 1, 0, 6], [6, 0, 1, 7, 8], [0, 1], [10, 8, 7, 1, 0, 6, 9], [9, 6, 7, 8, 10, 11, 4, 3, 1, 0, 2, 5], [5, 2, 3, 4, 11, 10, 8, 7, 6, 9, 12, 0, 1], [1, 0, 12, 9, 6, 7, 8, 10, 11, 4, 3, 2, 5, 13]] ?_
         refine dN 2 10 ?_
         refine dF ?_
         refine dF ?_
         refine dF ?_
         refine dF ?_
         refine dF ?_
         refine dF ?_
         refine dF ?_
         refine dF ?_
         refine dF ?_
         refine dF ?_
         refine dD ?_
         refine gF ?_
         refine oN 2 ?_
         refine WOps.endK ?_
         refine hK22 _ ?_
         clear hK22 K22
         refine rEw ?_
         refine ⟨k + 1, lf ?_ ?_, ?_, v0⟩
         ·
          try (simp [Fx.get F])
          all_goals (
           first
           | (rw [envQ_miss henv]; done)
           | (rw [envQ_hit henv, List.length_append]; rfl)
           | (have e : s = l.stalls.length := by omega
              rw [e, envQ_next]; done)
          )
         ·
          exact v1
         ·
          first
          | exact ⟨by omega, qnm2⟩
          | omega
        ·
         replace F := F.add hsk
         have hkY : k < Y.length := by omega
         replace F := F.add hkY
         by_cases heq : Y[k] = ((b : Int), (s : Int))
         ·
          replace F := F.add heq
          have hsb : sb (k + 1) = true := by rw [qsb, decide_eq_true_eq, ← heq]; exact List.mem_take_iff_getElem.2 ⟨k, by omega, rfl⟩
          replace F := F.add hsb
          refine wDe 12 [] [[], [0], [0, 1], [0, 1], [3, 1, 0, 2], [2, 0, 1, 3, 4], [0, 1], [0, 1], [7, 1, 0, 6], [6, 0, 1, 7, 8], [0, 1], [10, 8, 7, 1, 0, 6, 9], [9, 6, 7, 8, 10, 11, 4, 3, 1, 0, 2, 5], [5, 2, 3, 4, 11, 10, 8, 7, 6, 9, 12, 0, 1], [1, 0, 12, 9, 6, 7, 8, 10, 11, 4, 3, 2, 5, 13]] ?_
          refine dN 2 10 ?_
          refine dT ?_
          refine dT ?_
          refine dT ?_
          refine dT ?_
          refine dT ?_
          refine dT ?_
          refine dT ?_
          refine dT ?_
          refine dT ?_
          refine dT ?_
          refine dD ?_
          refine gT ?_
          refine oN 2 ?_
          refine WOps.endK ?_
          refine hK22 _ ?_
          clear hK22 K22
          refine rEw ?_
          refine ⟨k + 1, lf ?_ ?_, ?_, v0⟩
          ·
           try (simp [Fx.get F])
           all_goals (
            first
            | (rw [envQ_miss henv]; done)
            | (rw [envQ_hit henv, List.length_append]; rfl)
            | (have e : s = l.stalls.length := by omega
               rw [e, envQ_next]; done)
           )
          ·
           exact v1
          ·
           first
           | exact ⟨by omega, qnm2⟩
           | omega
         ·
          replace F := F.add heq
          have hpf : (Y[k].1 == (b : Int) && Y[k].2 == (s : Int)) = false := by rw [pair_beq Y[k] ((b : Int), (s : Int)), beq_eq_false_iff_ne]; exact heq
          have hsb : sb (k + 1) = false := by
            rw [qsb, decide_eq_false_iff_not, List.take_succ_eq_append_getElem hkY, List.mem_append, List.mem_singleton]
            rw [qsb, decide_eq_true_eq] at hsk
            exact fun h => h.elim hsk fun e => heq e.symm
          replace F := F.add hpf |>.add hsb
          refine wDe 12 [] [[], [0], [0, 1], [0, 1], [3, 1, 0, 2], [2, 0, 1, 3, 4], [0, 1], [0, 1], [7, 1, 0, 6], [6, 0, 1, 7, 8], [0, 1], [10, 8, 7, 1, 0, 6, 9], [9, 6, 7, 8, 10, 11, 4, 3, 1, 0, 2, 5], [5, 2, 3, 4, 11, 10, 8, 7, 6, 9, 12, 0, 1], [1, 0, 12, 9, 6, 7, 8, 10, 11, 4, 3, 2, 5, 13]] ?_
          refine dN 2 10 ?_
          refine dT ?_
          refine dT ?_
          refine dT ?_
          refine dT ?_
          refine dT ?_
          refine dT ?_
          refine dT ?_
          refine dT ?_
          refine dT ?_
          refine dT ?_
          refine dD ?_
          refine gT ?_
          refine oN 2 ?_
          refine WOps.endK ?_
          refine hK22 _ ?_
          clear hK22 K22
          refine rEw ?_
          refine ⟨k + 1, lf ?_ ?_, ?_, v0⟩
          ·
           try (simp [Fx.get F])
           all_goals (
            first
            | (rw [envQ_miss henv]; done)
            | (rw [envQ_hit henv, List.length_append]; rfl)
            | (have e : s = l.stalls.length := by omega
               rw [e, envQ_next]; done)
           )
          ·
           exact v1
          ·
           first
           | exact ⟨by omega, qnm2⟩
           | omega
       ·
        try simp at hc20
        replace F := F.add hc20
        refine W.exit ?_
        refine hK20 _ ?_
        clear hK21 K21 hK20 K20
        have hke : k = Y.length := by omega
        have hsbe : sb Y.length = true := by rw [qsb, decide_eq_true_eq, List.take_length]; exact qYm
        replace F := F.add hke |>.add hsbe
        refine W.seqR ?_
        refine oN 3 ?_
        refine gT ?_
        refine gT ?_
        refine oN 1 ?_
        refine oK [4, 16, 18, 193] ?_
        refine cF ?_
        refine W.skip ?_
        refine hK18 _ ?_
        clear hK18 K18
        refine rEw ?_
        refine ⟨s + 1, lf ?_ ?_, ?_, v0⟩
        ·
         try (simp [Fx.get F])
         all_goals (
          first
          | (rw [envQ_miss henv]; done)
          | (rw [envQ_hit henv, List.length_append]; rfl)
          | (have e : s = l.stalls.length := by omega
             rw [e, envQ_next]; done)
         )
        ·
         exact v1
        ·
         first
         | exact ⟨by omega, qnm2⟩
         | omega
    ·
     try simp at hc17
     replace F := F.add hc17
     refine W.exit ?_
     refine hK16 _ ?_
     clear hK17 K17 hK16 K16
     refine W.seqR ?_
     refine oC [] ?_
     refine ct (awake_ok) ?_
     refine oN 1 ?_
     refine oK [2] ?_
     refine W.ret ?_
     refine er false [] [] ?_
     exact ⟨rfl, rfl⟩
end Go.Sim
