/- A stall more, an applicant less: the law answers true. -/
import Derived.Test.YtmkclhnokelicaaLz
import Derived.Test.YtmkclhnokelicaaPo
namespace Go.Sim
open Go.Proofs
set_option maxRecDepth 100000
set_option linter.unusedSimpArgs false
set_option linter.unusedVariables false
attribute [-simp] List.map_set List.map_take List.map_drop
attribute [local simp] frz_A4 ren_A4 kill_A4 map_setA data_A4 data_row take_setA
theorem ST_map (l : List Stl) (r : Int) : l.map S3 ++ [.agg [I r, I 0, I (-1)]] = (l ++ [(⟨r, 0, -1⟩ : Stl)]).map S3 := by simp
theorem insR_step {l : Lett} {AP : List App} {n i : Nat} {y : App} (hA : AP.length = l.apps.length) (hi : i < l.apps.length) (h1 : ∀ a, a < i → InsR n (nth l.apps a) (nth AP a)) (h2 : ∀ a, i ≤ a → nth AP a = nth l.apps a) (hy : InsR n l.apps[i] y) :
    (AP.set i y).length = l.apps.length ∧ (∀ a, a < i + 1 → InsR n (nth l.apps a) (nth (AP.set i y) a)) ∧ ∀ a, i + 1 ≤ a → nth (AP.set i y) a = nth l.apps a := by
  refine ⟨by rw [List.length_set]; exact hA, fun a ha => ?_, fun a ha => ?_⟩
  · by_cases e : a = i
    · subst e; rw [nth_set_same (by omega), nth_get hi]; exact hy
    · rw [nth_set_other e]; exact h1 a (by omega)
  · rw [nth_set_other (by omega)]; exact h2 a (by omega)
theorem insR_skip {l : Lett} {AP : List App} {n i : Nat} (hA : AP.length = l.apps.length) (hi : i < l.apps.length) (h1 : ∀ a, a < i → InsR n (nth l.apps a) (nth AP a)) (h2 : ∀ a, i ≤ a → nth AP a = nth l.apps a) :
    AP.length = l.apps.length ∧ (∀ a, a < i + 1 → InsR n (nth l.apps a) (nth AP a)) ∧ ∀ a, i + 1 ≤ a → nth AP a = nth l.apps a := by
  refine ⟨hA, fun a ha => ?_, fun a ha => h2 a (by omega)⟩
  by_cases e : a = i
  · subst e; rw [h2 a (Nat.le_refl _)]; exact .inl rfl
  · exact h1 a (by omega)
theorem ins_row (AP : List App) (i : Nat) (x : App) (n : Int) (k : Nat) {v : Int} : (AP.map A4).set i (.agg [I x.years, I x.token, .imm (List.map I (List.take k x.wishes) ++ I n :: List.map I (List.drop k x.wishes)), .imm (List.map I (List.take k x.bids) ++ I v :: List.map I (List.drop k x.bids))]) = (AP.set i (insA n x k v)).map A4 := by
  have e : (AP.set i (insA n x k v)).map A4 = (AP.map A4).set i (A4 (insA n x k v)) := List.map_set
  rw [e]; congr 1; simp [insA]
set_option maxHeartbeats 4000000 in
theorem StallRoom_ok (nums : List Int) : ACalls Try.prog 7 [ints nums] [] (fun r o => r = B true ∧ o = []) := by
 have F := Fx.nil
 refine ent Try.func7 Try.ntmps7 Try.results7 ?_
 refine rK [0] ?_
 refine W.seqR ?_
 refine oN 1 ?_
 refine oC [] ?_
 refine ct (DieOf_ok _) ?_
 refine oN 1 ?_
 refine oK [3] ?_
 refine W.seqR ?_
 refine oN 1 ?_
 refine oC [(10000, 168)] ?_
 refine CallT.mkE (LettingOf_ok _ 6 6 (by omega) (by omega) (by omega)) (fun z23 hz23 => ⟨(by simp), ?_⟩)
 obtain ⟨l, fd⟩ := z23
 have qmade : MadeL l 6 6 := hz23
 have hv : ValidL l := qmade.ok
 have h8 := hv.a8
 have hs6 : l.stalls.length ≤ 6 := qmade.st
 have qcl : ∀ a ∈ l.apps, a.wishes.length ≤ 1000 ∧ a.bids.length ≤ 1000 := fun a ha => by have q := hv.ap a ha; have := q.wlen; have := q.len; omega
 replace F := F.add hv |>.add h8 |>.add hs6
 refine WOps.norm (by simp [hv, h8, hs6]; rfl) ?_
 refine oN 2 ?_
 refine oK [3, 4] ?_
 refine W.seqR ?_
 refine fz 184 ?_
 refine fz 185 ?_
 refine oN 1 ?_
 refine oC [] ?_
 refine ct (CopyLetting_ok l (by omega) (by omega) qcl) ?_
 refine oN 2 ?_
 refine oK [3, 4, 5] ?_
 obtain ⟨r, qr⟩ : ∃ r, fromV fd 1 3 = r := ⟨_, rfl⟩
 obtain ⟨f2, qf2⟩ : ∃ g, fromF fd 1 3 = g := ⟨_, rfl⟩
 have hr := qr
 have hf2 := qf2
 have qrr : 1 ≤ r ∧ r ≤ 3 := by have := fromV_range fd (lo := 1) (hi := 3) (by omega); omega
 obtain ⟨ST, qST⟩ : ∃ ST, ST = l.stalls ++ [(⟨r, 0, -1⟩ : Stl)] := ⟨_, rfl⟩
 have hST : l.stalls.map S3 ++ [.agg [I r, I 0, I (-1)]] = ST.map S3 := by rw [qST]; exact ST_map _ _
 have hSTl : ST.length = l.stalls.length + 1 := by rw [qST]; simp
 have qst : ∃ x, StlOk l.apps.length x ∧ ST = l.stalls ++ [x] := ⟨_, ⟨qrr, by show (0 : Int) ≤ 0 ∧ (0 : Int) ≤ 1000000; decide, by show (-1 : Int) ≤ -1 ∧ (-1 : Int) < l.apps.length; omega⟩, qST⟩
 replace F := F.add hr |>.add hf2 |>.add hST |>.add hSTl
 refine wD 6 [(3, [168])] [[], [0], [], [2], [2, 3], [3, 2, 4], [4, 2, 3, 5, 0, 1], [6, 5, 4, 3, 2, 1, 0], [0, 1, 2, 3, 4, 5, 6, 7]] ?_
 refine dN 3 3 ?_
 refine dC [(10000, 168)] ?_
 refine cd (From_ok fd 1 3 (by omega) (by omega) (by omega) (by omega)) ?_
 refine dN 2 0 ?_
 refine dD ?_
 refine oNw 3 ?_
 refine oK [3, 4, 5] ?_
 refine W.seqk fun K1 hK1 => ?_
 refine rK [3, 4, 5, 6] ?_
 refine W.block ?_
 refine lpa (α := Nat × Int × List App) [3, 4, 5] [37, 50, 52, 54, 62, 65, 66, 67, 74, 84, 86, 87, 88, 95] [201, 168] (fun x => [(6, I x.1)]) (fun x => [(201, .row true 37 4 (x.2.2.map A4)), (168, die x.2.1)]) (fun x => x.1 ≤ l.apps.length ∧ x.2.2.length = l.apps.length ∧ (∀ a, a < x.1 → InsR l.stalls.length (nth l.apps a) (nth x.2.2 a)) ∧ ∀ a, x.1 ≤ a → nth x.2.2 a = nth l.apps a) (fun x => l.apps.length - x.1) (0, f2, l.apps) v0 ?_
 ·
  intro ⟨i, g, AP⟩ hI0
  simp only [List.cons_append, List.nil_append]
  try dsimp only at hI0
  obtain ⟨hi, hAPl, qins, qsame⟩ := hI0
  replace F := F.add hi |>.add hAPl
  refine W.seqk fun K2 hK2 => ?_
  refine rK [3, 4, 5, 6, 38] ?_
  refine it (fun hc1 => ?_) (fun hc1 => ?_)
  ·
   try simp at hc1
   replace F := F.add hc1
   refine W.skip ?_
   refine hK2 _ ?_
   clear hK2 K2
   refine W.seqk fun K3 hK3 => ?_
   refine W.block ?_
   have hil : i < l.apps.length := by omega
   have hiA : i < AP.length := by omega
   have hap : AP[i] = l.apps[i] := by have := qsame i (Nat.le_refl _); rwa [nth_get hil, nth_get hiA] at this
   have qap := hv.ap _ (List.getElem_mem hil)
   have qwl := qap.wlen
   have hw8 : l.apps[i].wishes.length ≤ 6 := by omega
   have hbl : l.apps[i].bids.length = l.apps[i].wishes.length := qap.len
   have hbt : List.take l.apps[i].wishes.length l.apps[i].bids = l.apps[i].bids := List.take_of_length_le (by omega)
   obtain ⟨k, qk⟩ : ∃ k : Nat, castV g ((l.apps[i].wishes.length : Int) + 1) = (k : Int) := ⟨(castV g ((l.apps[i].wishes.length : Int) + 1)).toNat, by have := castV_lo g ((l.apps[i].wishes.length : Int) + 1); omega⟩
   have hk := qk
   have hkl : k ≤ l.apps[i].wishes.length := by have := castV_hi g ((l.apps[i].wishes.length : Int) + 1) (by omega); omega
   have hkb : k ≤ l.apps[i].bids.length := by omega
   obtain ⟨g2, qg2⟩ : ∃ g2, castF g ((l.apps[i].wishes.length : Int) + 1) = g2 := ⟨_, rfl⟩
   have hg2 := qg2
   obtain ⟨g3, qg3⟩ : ∃ g3, castF g2 2 = g3 := ⟨_, rfl⟩
   have hg3 := qg3
   replace F := F.add hil |>.add hiA |>.add hap |>.add hw8 |>.add hbl |>.add hbt |>.add hk |>.add hkl |>.add hkb |>.add hg2 |>.add hg3
   refine rK [3, 4, 5, 6, 7] ?_
   refine W.seqR ?_
   refine oNw 7 ?_
   refine oC [(10000, 168)] ?_
   refine ct (Cast_ok _ _ (by omega)) ?_
   refine oN 1 ?_
   refine oK [3, 4, 5, 6, 7, 8] ?_
   refine W.seqR ?_
   refine oN 1 ?_
   refine oC [(10000, 168)] ?_
   refine ct (Once_ok _ _ (by omega)) ?_
   refine oK [3, 4, 5, 6, 7, 8, 54] ?_
   refine it (fun hc2 => ?_) (fun hc2 => ?_)
   ·
    try simp at hc2
    replace F := F.add hc2
    refine wD 20 [(12, [496]), (19, [536])] [[], [], [1], [1, 2], [2, 1, 3], [], [5, 3, 1, 2, 4], [4, 2, 1, 3, 5, 6], [], [8], [8, 9], [9, 8, 10], [10, 8, 9, 11, 6, 5, 3, 1, 2, 4, 7], [], [13], [13, 14], [14, 13, 15], [], [17, 15, 13, 14, 16], [16, 14, 13, 15, 17, 18, 7, 4, 2, 1, 3, 5, 6, 11, 9, 8, 10, 12], [19, 18, 17, 16, 15, 14, 13, 12, 11, 10, 9, 8, 7, 6, 5, 4, 3, 2, 1, 0], [0, 1, 2, 3, 4, 5, 6, 7, 8, 9, 10, 11, 12, 13, 14, 15, 16, 17, 18, 19, 20], [20, 19, 18, 17, 16, 15, 14, 13, 12, 11, 10, 9, 8, 7, 6, 5, 4, 3, 2, 1, 0, 21]] ?_
    refine dN 7 13 ?_
    refine dC [] ?_
    refine cd (CopyInts_ok _ (by rw [List.length_take]; omega)) ?_
    refine dN 4 8 ?_
    refine dAw [496] ?_
    refine dN 6 1 ?_
    refine WDraw.appI hΓ [536] (by simp [hv, h8, hs6, hr, hf2, hST, hSTl, hi, hAPl, hc1, hil, hiA, hap, hw8, hbl, hbt, hk, hkl, hkb, hg2, hg3, hc2]; rfl) (by first | rfl | simp) (by simp [hv, h8, hs6, hr, hf2, hST, hSTl, hi, hAPl, hc1, hil, hiA, hap, hw8, hbl, hbt, hk, hkl, hkb, hg2, hg3, hc2]; (try (simp (disch := omega) only [wrap_i64, mul_i64, capOk_of]; (try simp [hv, h8, hs6, hr, hf2, hST, hSTl, hi, hAPl, hc1, hil, hiA, hap, hw8, hbl, hbt, hk, hkl, hkb, hg2, hg3, hc2]))); first | rfl | exact ⟨rfl, rfl⟩) (by simp [hv, h8, hs6, hr, hf2, hST, hSTl, hi, hAPl, hc1, hil, hiA, hap, hw8, hbl, hbt, hk, hkl, hkb, hg2, hg3, hc2, imD]; first | rfl | exact ⟨rfl, rfl⟩) (by first | rfl | simp) (by simp [hv, h8, hs6, hr, hf2, hST, hSTl, hi, hAPl, hc1, hil, hiA, hap, hw8, hbl, hbt, hk, hkl, hkb, hg2, hg3, hc2]; first | done | rfl) (.inr (by simp)) (by simp [hv, h8, hs6, hr, hf2, hST, hSTl, hi, hAPl, hc1, hil, hiA, hap, hw8, hbl, hbt, hk, hkl, hkb, hg2, hg3, hc2]; rfl) ?_
    refine dD ?_
    refine oN 3 ?_
    refine oK [3, 4, 5, 6, 7, 8] ?_
    obtain ⟨v, qv⟩ : ∃ v, castV g3 9 = v := ⟨_, rfl⟩
    have hv9 := qv
    obtain ⟨g5, qg5⟩ : ∃ g5, castF g3 9 = g5 := ⟨_, rfl⟩
    have hg5 := qg5
    have qvr : 0 ≤ v ∧ v ≤ 1000000 := by have := castV_lo g3 9; have := castV_hi g3 9 (by omega); omega
    replace F := F.add hv9 |>.add hg5
    refine wDe 19 [(9, [168]), (11, [672]), (18, [704])] [[], [], [1], [1, 2], [2, 1, 3], [], [5, 3, 1, 2, 4], [4, 2, 1, 3, 5, 6], [], [6, 5, 3, 1, 2, 4, 7, 8], [8, 7, 4, 2, 1, 3, 5, 6, 9], [9, 8, 10, 6, 5, 3, 1, 2, 4, 7], [], [12], [12, 13], [13, 12, 14], [], [16, 14, 12, 13, 15], [15, 13, 12, 14, 16, 17, 7, 4, 2, 1, 3, 5, 6, 10, 8, 9, 11], [18, 17, 16, 15, 14, 13, 12, 11, 10, 9, 8, 7, 6, 5, 4, 3, 2, 1, 0], [0, 1, 2, 3, 4, 5, 6, 7, 8, 9, 10, 11, 12, 13, 14, 15, 16, 17, 18, 19], [19, 18, 17, 16, 15, 14, 13, 12, 11, 10, 9, 8, 7, 6, 5, 4, 3, 2, 1, 0, 20]] ?_
    refine dN 7 12 ?_
    refine dC [] ?_
    refine cd (CopyInts_ok _ (by rw [List.length_take]; omega)) ?_
    refine dN 1 10 ?_
    refine dC [(10000, 168)] ?_
    refine cd (Cast_ok _ _ (by omega)) ?_
    refine dN 1 8 ?_
    refine dAw [672] ?_
    refine dN 6 1 ?_
    refine WDraw.appI hΓ [704] (by simp [hv, h8, hs6, hr, hf2, hST, hSTl, hi, hAPl, hc1, hil, hiA, hap, hw8, hbl, hbt, hk, hkl, hkb, hg2, hg3, hc2, hv9, hg5]; rfl) (by first | rfl | simp) (by simp [hv, h8, hs6, hr, hf2, hST, hSTl, hi, hAPl, hc1, hil, hiA, hap, hw8, hbl, hbt, hk, hkl, hkb, hg2, hg3, hc2, hv9, hg5]; (try (simp (disch := omega) only [wrap_i64, mul_i64, capOk_of]; (try simp [hv, h8, hs6, hr, hf2, hST, hSTl, hi, hAPl, hc1, hil, hiA, hap, hw8, hbl, hbt, hk, hkl, hkb, hg2, hg3, hc2, hv9, hg5]))); first | rfl | exact ⟨rfl, rfl⟩) (by simp [hv, h8, hs6, hr, hf2, hST, hSTl, hi, hAPl, hc1, hil, hiA, hap, hw8, hbl, hbt, hk, hkl, hkb, hg2, hg3, hc2, hv9, hg5, imD]; first | rfl | exact ⟨rfl, rfl⟩) (by first | rfl | simp) (by simp [hv, h8, hs6, hr, hf2, hST, hSTl, hi, hAPl, hc1, hil, hiA, hap, hw8, hbl, hbt, hk, hkl, hkb, hg2, hg3, hc2, hv9, hg5]; first | done | rfl) (.inr (by simp)) (by simp [hv, h8, hs6, hr, hf2, hST, hSTl, hi, hAPl, hc1, hil, hiA, hap, hw8, hbl, hbt, hk, hkl, hkb, hg2, hg3, hc2, hv9, hg5]; rfl) ?_
    refine dD ?_
    refine oN 3 ?_
    refine WOps.endK ?_
    refine hK3 _ ?_
    clear hK3 K3
    refine rEw ?_
    refine ⟨(i + 1, g5, AP.set i (insA l.stalls.length l.apps[i] k v)), lf ?_ ?_, ?_, v0⟩
    ·
     exact v1
    ·
     try (simp [Fx.get F])
     all_goals (
      exact ins_row _ _ _ _ _
     )
    ·
     first
     | omega
     | exact ⟨by show i + 1 ≤ _; omega, insR_step hAPl hil qins qsame (.inr ⟨k, v, hkl, qvr, rfl⟩)⟩
     | exact ⟨by show i + 1 ≤ _; omega, insR_skip hAPl hil qins qsame⟩
   ·
    try simp at hc2
    replace F := F.add hc2
    refine W.skip ?_
    refine hK3 _ ?_
    clear hK3 K3
    refine rEw ?_
    refine ⟨(i + 1, g3, AP), lf0, ?_, v0⟩
    ·
     first
     | omega
     | exact ⟨by show i + 1 ≤ _; omega, insR_step hAPl hil qins qsame (.inr ⟨k, v, hkl, qvr, rfl⟩)⟩
     | exact ⟨by show i + 1 ≤ _; omega, insR_skip hAPl hil qins qsame⟩
  ·
   try simp at hc1
   replace F := F.add hc1
   refine W.exit ?_
   refine hK1 _ ?_
   clear hK2 K2 hK1 K1
   have hie : i = l.apps.length := by omega
   have qmr : MoreR l ⟨ST, AP⟩ := ⟨qst, hAPl, fun a ha => qins a (by omega)⟩
   have qvM : ValidL ⟨ST, AP⟩ := qmr.valid hv (by omega)
   have hAPt : List.take l.apps.length (AP.map A4) = AP.map A4 := List.take_of_length_le (by simp [hAPl])
   have hSTt : List.take (l.stalls.length + 1) (ST.map S3) = ST.map S3 := List.take_of_length_le (by simp [hSTl])
   replace F := F.add hie |>.add hAPt |>.add hSTt
   refine W.seqR ?_
   refine fz 200 ?_
   refine fz 201 ?_
   refine oN 1 ?_
   refine oC [] ?_
   refine CallT.mkE (Let_ok l hv) (fun z100 hz100 => ⟨(by simp [hv, h8, hs6, hr, hf2, hST, hSTl, hi, hAPl, hc1, hie, hAPt, hSTt]), ?_⟩)
   have hxl : z100.length = l.stalls.length := hz100.len
   replace F := F.add hxl
   refine WOps.norm (by simp [hv, h8, hs6, hr, hf2, hST, hSTl, hi, hAPl, hc1, hie, hAPt, hSTt, hxl]; rfl) ?_
   refine oN 5 ?_
   refine oK [3, 4, 5, 9, 10] ?_
   refine W.seqR ?_
   refine oN 1 ?_
   refine oC [] ?_
   refine CallT.mkE (Let_ok ⟨ST, AP⟩ qvM) (fun z105 hz105 => ⟨(by simp [hv, h8, hs6, hr, hf2, hST, hSTl, hi, hAPl, hc1, hie, hAPt, hSTt, hxl]), ?_⟩)
   have hyl : z105.length = l.stalls.length + 1 := (show z105.length = ST.length from hz105.len).trans hSTl
   obtain ⟨BF, qBF⟩ : ∃ BF, BF = z100 ++ [-1] := ⟨_, rfl⟩
   have hBF : z100.map I ++ [I (-1)] = BF.map I := by rw [qBF]; simp
   have hBFt : List.take (l.stalls.length + 1) (BF.map I) = BF.map I := List.take_of_length_le (by rw [qBF]; simp [hxl])
   replace F := F.add hyl |>.add hBF |>.add hBFt
   refine WOps.norm (by simp [hv, h8, hs6, hr, hf2, hST, hSTl, hi, hAPl, hc1, hie, hAPt, hSTt, hxl, hyl, hBF, hBFt]; rfl) ?_
   refine oN 5 ?_
   refine oK [3, 4, 5, 9, 10, 11, 12] ?_
   refine W.seqk fun K4 hK4 => ?_
   refine W.seqR ?_
   refine oN 3 ?_
   refine gT ?_
   refine gT ?_
   refine oN 2 ?_
   refine gT ?_
   refine gT ?_
   refine gT ?_
   refine gT ?_
   refine gT ?_
   refine gT ?_
   refine oN 2 ?_
   refine gT ?_
   refine gT ?_
   refine gT ?_
   refine gT ?_
   refine gT ?_
   refine gT ?_
   refine oN 1 ?_
   refine oK [3, 4, 5, 9, 11, 129] ?_
   refine cF ?_
   refine W.skip ?_
   refine hK4 _ ?_
   clear hK4 K4
   refine W.seqk fun K5 hK5 => ?_
   refine rK [3, 4, 5, 9, 11, 13] ?_
   refine W.block ?_
   refine lpa (α := Nat) [3, 4, 5, 9, 11] [133, 138, 139, 140, 144, 148] [] (fun a => [(13, I a)]) (fun a => []) (fun a => a ≤ l.apps.length) (fun a => l.apps.length - a) 0 v0 ?_
   ·
    intro a hI1
    simp only [List.cons_append, List.nil_append]
    try dsimp only at hI1
    replace F := F.add hI1
    refine W.seqk fun K6 hK6 => ?_
    refine rK [3, 4, 5, 9, 11, 13, 134] ?_
    refine it (fun hc4 => ?_) (fun hc4 => ?_)
    ·
     try simp at hc4
     replace F := F.add hc4
     refine W.skip ?_
     refine hK6 _ ?_
     clear hK6 K6
     refine W.seqk fun K7 hK7 => ?_
     refine W.block ?_
     have ha : a < l.apps.length := by omega
     have haA : a < AP.length := by omega
     replace F := F.add ha |>.add haA
     refine W.seqR ?_
     refine oN 1 ?_
     refine oC [] ?_
     refine ct (CopyInts_ok _ (by omega)) ?_
     refine oNw 2 ?_
     refine fz 1104 ?_
     refine oN 1 ?_
     refine oK [3, 4, 5, 9, 11, 13, 14] ?_
     have hle : ¬ placeL ⟨ST, AP⟩ BF a < placeL ⟨ST, AP⟩ z105 a := Nat.not_lt.2 (by rw [qBF]; exact moreL_le hv (by omega) qmr hz100 hz105 ha)
     replace F := F.add hle
     refine wD 7 [] [[], [], [], [2, 1, 0], [], [], [], [0, 1, 2, 3, 6, 5, 4], [4, 5, 6, 7, 0, 1, 2, 3]] ?_
     refine dN 3 4 ?_
     refine dC [] ?_
     refine cd (Place_ok ⟨ST, AP⟩ z105 a haA) ?_
     refine dN 3 0 ?_
     refine dD ?_
     refine oC [] ?_
     refine ct (Place_ok ⟨ST, AP⟩ BF a haA) ?_
     refine oN 1 ?_
     refine oK [3, 4, 5, 9, 11, 13, 149] ?_
     refine cF ?_
     refine W.skip ?_
     refine hK7 _ ?_
     clear hK7 K7
     refine rEw ?_
     refine ⟨a + 1, lf0, ?_, v0⟩
     ·
      first
      | omega
      | exact ⟨by show i + 1 ≤ _; omega, insR_step hAPl hil qins qsame (.inr ⟨k, v, hkl, qvr, rfl⟩)⟩
      | exact ⟨by show i + 1 ≤ _; omega, insR_skip hAPl hil qins qsame⟩
    ·
     try simp at hc4
     replace F := F.add hc4
     refine W.exit ?_
     refine hK5 _ ?_
     clear hK6 K6 hK5 K5
     refine W.seqk fun K8 hK8 => ?_
     refine rK [3, 4, 9, 153] ?_
     refine it (fun hc6 => ?_) (fun hc6 => ?_)
     ·
      try simp at hc6
      replace F := F.add hc6
      refine W.seqR ?_
      refine oC [] ?_
      refine ct (awake_ok) ?_
      refine oN 1 ?_
      refine oK [2] ?_
      refine W.ret ?_
      refine tr ?_
      clear hK8 K8
      refine er false [] [] ?_
      exact ⟨rfl, rfl⟩
     ·
      try simp at hc6
      replace F := F.add hc6
      refine W.skip ?_
      refine hK8 _ ?_
      clear hK8 K8
      have hn1 : 0 < l.apps.length := by first | omega | exact List.length_pos_iff.2 (by assumption)
      replace F := F.add hn1
      refine W.seqR ?_
      refine oN 4 ?_
      refine oC [(10000, 168)] ?_
      refine ct (Cast_ok _ _ (by omega)) ?_
      refine oN 1 ?_
      refine oK [4, 9, 15] ?_
      obtain ⟨w, qw⟩ : ∃ w : Nat, castV g (l.apps.length : Int) = (w : Int) := ⟨(castV g (l.apps.length : Int)).toNat, by have := castV_lo g (l.apps.length : Int); omega⟩
      have hw := qw
      have hwl : w < l.apps.length := by have := castV_hi g (l.apps.length : Int) (by omega); omega
      obtain ⟨GP, qGP⟩ : ∃ GP, GP = (goneL l w).apps := ⟨_, rfl⟩
      have qvG : ValidL ⟨l.stalls, GP⟩ := by rw [qGP]; exact told_valid hv hwl List.nodup_nil (by simp)
      have hset : (l.apps.map A4).set w (.agg [I l.apps[w].years, I l.apps[w].token, .imm [], .imm []]) = GP.map A4 := by
        rw [qGP, goneL, ← set_A4, nth_get hwl]; rfl
      have hGPl : GP.length = l.apps.length := by rw [qGP]; simp [goneL]
      have hGPt : List.take l.apps.length (GP.map A4) = GP.map A4 := List.take_of_length_le (by simp [hGPl])
      replace F := F.add hw |>.add hwl |>.add hset |>.add hGPl |>.add hGPt
      refine W.seqR ?_
      refine oN 1 ?_
      refine oC [] ?_
      refine ct (CopyLetting_ok l (by omega) (by omega) qcl) ?_
      refine oN 2 ?_
      refine oK [4, 9, 15, 16] ?_
      refine wD 9 [(8, [1289])] [[], [0], [], [], [3], [], [2, 0, 1], [1, 0, 2, 6], [6, 2, 0, 1, 7], [8, 7, 6, 2, 1, 0, 5, 3, 4], [4, 3, 5, 0, 1, 2, 6, 7, 8, 9], [9, 8, 7, 6, 2, 1, 0, 5, 3, 4, 10]] ?_
      refine dN 8 1 ?_
      refine WDraw.upd hΓ [1289] (by simp [hv, h8, hs6, hr, hf2, hST, hSTl, hi, hAPl, hc1, hie, hAPt, hSTt, hxl, hyl, hBF, hBFt, hI1, hc4, hc6, hn1, hw, hwl, hset, hGPl, hGPt]; rfl) (by first | rfl | simp) (by simp [hv, h8, hs6, hr, hf2, hST, hSTl, hi, hAPl, hc1, hie, hAPt, hSTt, hxl, hyl, hBF, hBFt, hI1, hc4, hc6, hn1, hw, hwl, hset, hGPl, hGPt]; first | rfl | exact ⟨rfl, rfl⟩) (by simp [hv, h8, hs6, hr, hf2, hST, hSTl, hi, hAPl, hc1, hie, hAPt, hSTt, hxl, hyl, hBF, hBFt, hI1, hc4, hc6, hn1, hw, hwl, hset, hGPl, hGPt]; first | done | rfl) (.inr (by simp)) (by simp [hv, h8, hs6, hr, hf2, hST, hSTl, hi, hAPl, hc1, hie, hAPt, hSTt, hxl, hyl, hBF, hBFt, hI1, hc4, hc6, hn1, hw, hwl, hset, hGPl, hGPt]; rfl) ?_
      refine dD ?_
      refine WOps.le Le.dedup rfl rfl ?_
      refine WOps.norm (by simp [hv, h8, hs6, hr, hf2, hST, hSTl, hi, hAPl, hc1, hie, hAPt, hSTt, hxl, hyl, hBF, hBFt, hI1, hc4, hc6, hn1, hw, hwl, hset, hGPl, hGPt]; rfl) ?_
      refine oN 3 ?_
      refine oK [4, 9, 15, 16] ?_
      refine W.seqR ?_
      refine WOps.le (Le.loose (id := 1289) (by simp [hv, h8, hs6, hr, hf2, hST, hSTl, hi, hAPl, hc1, hie, hAPt, hSTt, hxl, hyl, hBF, hBFt, hI1, hc4, hc6, hn1, hw, hwl, hset, hGPl, hGPt]; rfl)) rfl rfl ?_
      refine WOps.le (Le.ownNilO (id := 1289) (k := w) (j := 2) (nid := 9000) (ty := 3) (sz := 1) (by simp [hv, h8, hs6, hr, hf2, hST, hSTl, hi, hAPl, hc1, hie, hAPt, hSTt, hxl, hyl, hBF, hBFt, hI1, hc4, hc6, hn1, hw, hwl, hset, hGPl, hGPt]; rfl)) rfl rfl ?_
      refine WOps.le (Le.ownNilO (id := 1289) (k := w) (j := 3) (nid := 9008) (ty := 3) (sz := 1) (by simp [hv, h8, hs6, hr, hf2, hST, hSTl, hi, hAPl, hc1, hie, hAPt, hSTt, hxl, hyl, hBF, hBFt, hI1, hc4, hc6, hn1, hw, hwl, hset, hGPl, hGPt]; rfl)) rfl rfl ?_
      refine fz 9000 ?_
      refine fz 9008 ?_
      refine WOps.le (Le.tight (id := 1289) (by simp [hv, h8, hs6, hr, hf2, hST, hSTl, hi, hAPl, hc1, hie, hAPt, hSTt, hxl, hyl, hBF, hBFt, hI1, hc4, hc6, hn1, hw, hwl, hset, hGPl, hGPt]; rfl)) rfl rfl ?_
      refine fz 1289 ?_
      refine fz 1288 ?_
      refine oN 1 ?_
      refine oC [] ?_
      refine CallT.mkE (Let_ok ⟨l.stalls, GP⟩ qvG) (fun z174 hz174 => ⟨(by simp [hv, h8, hs6, hr, hf2, hST, hSTl, hi, hAPl, hc1, hie, hAPt, hSTt, hxl, hyl, hBF, hBFt, hI1, hc4, hc6, hn1, hw, hwl, hset, hGPl, hGPt]), ?_⟩)
      have hgl : z174.length = l.stalls.length := hz174.len
      replace F := F.add hgl
      refine WOps.norm (by simp [hv, h8, hs6, hr, hf2, hST, hSTl, hi, hAPl, hc1, hie, hAPt, hSTt, hxl, hyl, hBF, hBFt, hI1, hc4, hc6, hn1, hw, hwl, hset, hGPl, hGPt, hgl]; rfl) ?_
      refine oN 5 ?_
      refine oK [4, 9, 15, 17, 18] ?_
      refine W.seqk fun K9 hK9 => ?_
      refine W.seqR ?_
      refine oN 3 ?_
      refine gT ?_
      refine gT ?_
      refine gT ?_
      refine gT ?_
      refine gT ?_
      refine gT ?_
      refine oN 1 ?_
      refine oK [4, 9, 15, 17, 186] ?_
      refine cF ?_
      refine W.skip ?_
      refine hK9 _ ?_
      clear hK9 K9
      refine W.seqk fun K10 hK10 => ?_
      refine rK [4, 9, 15, 17, 19] ?_
      refine W.block ?_
      refine lpa (α := Nat) [4, 9, 15, 17] [190, 201, 205] [] (fun a => [(19, I a)]) (fun a => []) (fun a => a ≤ l.apps.length) (fun a => l.apps.length - a) 0 v0 ?_
      ·
       intro a hI2
       simp only [List.cons_append, List.nil_append]
       try dsimp only at hI2
       replace F := F.add hI2
       refine W.seqk fun K11 hK11 => ?_
       refine rK [4, 9, 15, 17, 19, 191] ?_
       refine it (fun hc8 => ?_) (fun hc8 => ?_)
       ·
        try simp at hc8
        replace F := F.add hc8
        refine W.skip ?_
        refine hK11 _ ?_
        clear hK11 K11
        refine W.seqk fun K12 hK12 => ?_
        refine W.block ?_
        by_cases haw : a = w
        ·
         replace F := F.add haw
         have ha : a < l.apps.length := by omega
         replace F := F.add ha
         have ha : a < l.apps.length := by omega
         replace F := F.add ha
         refine wD 11 [] [[], [], [1, 0], [0, 1, 2], [2, 1, 0, 3], [2, 1, 0, 3], [2, 1, 0, 3], [6, 5, 3, 0, 1, 2, 4], [2, 1, 0, 3], [2, 1, 0, 3], [2, 1, 0, 3], [4, 5, 6, 7, 10, 9, 3, 0, 1, 2, 8], [8, 9, 10, 11, 4, 2, 1, 0, 3, 5, 6, 7], [7, 6, 5, 4, 11, 10, 9, 8, 12, 2, 1, 0, 3]] ?_
         refine dN 4 7 ?_
         refine dF ?_
         refine dF ?_
         refine dF ?_
         refine dF ?_
         refine dF ?_
         refine dF ?_
         refine dF ?_
         refine dD ?_
         refine gF ?_
         refine gF ?_
         refine oN 1 ?_
         refine oK [4, 9, 15, 17, 19, 207] ?_
         refine cF ?_
         refine W.skip ?_
         refine hK12 _ ?_
         clear hK12 K12
         refine rEw ?_
         refine ⟨a + 1, lf0, ?_, v0⟩
         ·
          first
          | omega
          | exact ⟨by show i + 1 ≤ _; omega, insR_step hAPl hil qins qsame (.inr ⟨k, v, hkl, qvr, rfl⟩)⟩
          | exact ⟨by show i + 1 ≤ _; omega, insR_skip hAPl hil qins qsame⟩
        ·
         replace F := F.add haw
         have ha : a < l.apps.length := by omega
         have hle : ¬ placeL l z100 a < placeL l z174 a := Nat.not_lt.2 (goneL_le hv hwl hz100 (by rw [show goneL l w = (⟨l.stalls, GP⟩ : Lett) from (by rw [qGP]; rfl)]; exact hz174) ha haw)
         replace F := F.add ha |>.add hle
         have ha : a < l.apps.length := by omega
         replace F := F.add ha
         refine wD 11 [] [[], [], [1, 0], [0, 1, 2], [2, 1, 0, 3], [2, 1, 0, 3], [2, 1, 0, 3], [6, 5, 3, 0, 1, 2, 4], [2, 1, 0, 3], [2, 1, 0, 3], [2, 1, 0, 3], [4, 5, 6, 7, 10, 9, 3, 0, 1, 2, 8], [8, 9, 10, 11, 4, 2, 1, 0, 3, 5, 6, 7], [7, 6, 5, 4, 11, 10, 9, 8, 12, 2, 1, 0, 3]] ?_
         refine dN 4 7 ?_
         refine dX ?_
         refine dX ?_
         refine dX ?_
         refine dXc ?_
         refine cdx (fun hg => by (try simp at hg); exact Place_ok l z174 a ha) ?_
         refine dX ?_
         refine dX ?_
         refine dX ?_
         refine dD ?_
         refine gXc ?_
         refine cx (fun hg => by (try simp at hg); exact Place_ok l z100 a ha) ?_
         refine gX ?_
         refine oN 1 ?_
         refine oK [4, 9, 15, 17, 19, 207] ?_
         refine cF ?_
         refine W.skip ?_
         refine hK12 _ ?_
         clear hK12 K12
         refine rEw ?_
         refine ⟨a + 1, lf0, ?_, v0⟩
         ·
          first
          | omega
          | exact ⟨by show i + 1 ≤ _; omega, insR_step hAPl hil qins qsame (.inr ⟨k, v, hkl, qvr, rfl⟩)⟩
          | exact ⟨by show i + 1 ≤ _; omega, insR_skip hAPl hil qins qsame⟩
       ·
        try simp at hc8
        replace F := F.add hc8
        refine W.exit ?_
        refine hK10 _ ?_
        clear hK11 K11 hK10 K10
        refine W.seqR ?_
        refine oC [] ?_
        refine ct (awake_ok) ?_
        refine oN 1 ?_
        refine oK [2] ?_
        refine W.ret ?_
        refine er false [] [] ?_
        exact ⟨rfl, rfl⟩
end Go.Sim
