/- Stalls that were let, swapped: the law answers true. -/
import Derived.Test.YticllllmgpjbcaaXp
import Derived.Test.YticllllmgpjbcaaLt
import Derived.Test.YticllllmgpjbcaaLm
import Derived.Test.YticllllmgpjbcaaLw
import Derived.Test.YticllllmgpjbcaaVl
namespace Go.Sim
open Go.Proofs
set_option maxRecDepth 100000
set_option linter.unusedSimpArgs false
set_option linter.unusedVariables false
attribute [-simp] List.map_set List.map_take List.map_drop
theorem wf_turn {x : W6.Turn} (h : W6.validT x = true) : W6.WfT x := by
  unfold W6.validT at h
  simp only [Bool.and_eq_true, decide_eq_true_eq] at h
  exact ⟨wfI (by omega) (by omega), wfI (by omega) (by omega)⟩
theorem got_facts {l : Lett} (hv : ValidL l) {h : List Int} (hk : HoldOk l h) {d : Int} (hd : 0 ≤ d ∧ d ≤ 6) : W6.checkT (frL l h d).1 (frL l h d).2.1 = 0 ∧ W6.heldT (frL l h d).1 (frL l h d).2.1 (gotL l h d) = 0 ∧ W6.pleaseT (frL l h d).1 (frL l h d).2.1 (gotL l h d) = [] ∧ ∀ x ∈ gotL l h d, W6.WfT x := by
  have qv := fr_valid hv hk hd
  refine ⟨W6.checkT_zero.2 qv, W6.swap_held qv, W6.swap_unpleased qv, fun x hx => wf_turn (qv.owns.2 x ?_)⟩
  rwa [got_mem hv hk hd] at hx
theorem Cast_7 (f : Int) : ACalls Try.prog 7 [.ptr 10000 0 0, I 7] [(10000, die f)] (fun r o => ∃ z : Int × Int, r = I z.1 ∧ o = [(10000, die z.2)] ∧ (0 ≤ z.1 ∧ z.1 ≤ 6)) :=
  (Cast_ok f 7 (by omega)).mono fun _ _ h => ⟨(castV f 7, castF f 7), h.1, h.2, castV_lo f 7, castV_le f 7 (by omega)⟩
set_option maxHeartbeats 4000000 in
theorem SwapStalls_ok (nums : List Int) : ACalls Try.prog 5 [ints nums] [] (fun r o => r = B true ∧ o = []) := by
 have F := Fx.nil
 refine ent Try.func5 Try.ntmps5 Try.results5 ?_
 refine rK [0] ?_
 refine W.seqR ?_
 refine oN 1 ?_
 refine oC [] ?_
 refine ct (DieOf_ok _) ?_
 refine oN 1 ?_
 refine oK [3] ?_
 refine W.seqR ?_
 refine oN 1 ?_
 refine oC [(10000, 192)] ?_
 refine CallT.mkE (LettingOf_ok _ 4 4 (by omega) (by omega) (by omega)) (fun z26 hz26 => ⟨(by simp), ?_⟩)
 obtain ⟨l, fd⟩ := z26
 have qmade : MadeL l 4 4 := hz26
 have hv : ValidL l := qmade.ok
 have h8 := hv.a8
 have hs8 := hv.s8
 replace F := F.add hv |>.add h8 |>.add hs8
 refine WOps.norm (by simp [hv, h8, hs8]; rfl) ?_
 refine oN 2 ?_
 refine oK [3, 4] ?_
 refine W.seqR ?_
 refine fz 208 ?_
 refine fz 209 ?_
 refine oN 1 ?_
 refine oC [] ?_
 refine CallT.mkE (Let_ok l hv) (fun z29 hz29 => ⟨(by simp [hv, h8, hs8]), ?_⟩)
 have qh0 : HoldOk l z29 := hz29.hold
 obtain ⟨AL, qAL⟩ : ∃ L, allL l l.stalls.length [] = L := ⟨_, rfl⟩
 have qall := All_ok l hv l.stalls.length [] (by simp)
 rw [qAL] at qall
 have qmem : ∀ h, h ∈ AL ↔ HoldOk l h := fun h => by rw [← qAL]; exact mem_all
 have hALm : AL.length ≤ 387420489 := by
   rw [← qAL]
   have h1 := allL_many h8 l.stalls.length []
   have h2 : 9 ^ l.stalls.length ≤ 9 ^ 9 := Nat.pow_le_pow_right (by omega) (by omega)
   omega
 have hAL0 : 0 < AL.length := List.length_pos_of_mem ((qmem z29).2 qh0)
 replace F := F.add hALm |>.add hAL0
 refine WOps.norm (by simp [hv, h8, hs8, hALm, hAL0]; rfl) ?_
 refine oN 5 ?_
 refine oK [3, 4, 5, 6] ?_
 refine W.seqk fun K1 hK1 => ?_
 refine W.seqR ?_
 refine oN 1 ?_
 refine oC [] ?_
 refine ct (qall) ?_
 refine oN 1 ?_
 refine oK [3, 4, 5, 6, 7] ?_
 obtain ⟨p, qp⟩ : ∃ p, decide (castV fd 2 = 0) = p := ⟨_, rfl⟩
 have hp9 := qp
 obtain ⟨g1, qg1⟩ : ∃ g, castF fd 2 = g := ⟨_, rfl⟩
 have hg1 := qg1
 replace F := F.add hp9 |>.add hg1
 refine W.seqR ?_
 refine oN 1 ?_
 refine oC [(10000, 192)] ?_
 refine ct (Once_ok fd 2 (by omega)) ?_
 refine oK [3, 4, 5, 6, 7, 35] ?_
 refine it (fun hc1 => ?_) (fun hc1 => ?_)
 ·
  try simp at hc1
  replace F := F.add hc1
  obtain ⟨kx, qkx⟩ : ∃ k : Nat, castV g1 AL.length = (k : Int) := ⟨(castV g1 AL.length).toNat, by have := castV_lo g1 AL.length; omega⟩
  have hkx := qkx
  have hkl : kx < AL.length := by have := castV_hi g1 AL.length (by omega); omega
  replace F := F.add hkx |>.add hkl
  refine W.region ?_
  refine oN 4 ?_
  refine oC [(10000, 192)] ?_
  refine ct (Cast_ok g1 AL.length (by omega)) ?_
  refine oN 3 ?_
  refine WOps.endK ?_
  refine hK1 _ ?_
  clear hK1 K1
  first
  | obtain ⟨h, qh⟩ : ∃ h, AL[kx] = h := ⟨_, rfl⟩
  | obtain ⟨h, qh⟩ : ∃ h, z29 = h := ⟨_, rfl⟩
  have hh9 := qh
  have hk : HoldOk l h := by first | (rw [← qh]; exact (qmem _).1 (List.getElem_mem hkl)) | (rw [← qh]; exact qh0)
  have hhl := hk.len
  replace F := F.add hh9 |>.add hk |>.add hhl
  refine W.seqR ?_
  refine oN 1 ?_
  refine oC [(10000, 192)] ?_
  refine CallT.mkE (Cast_7 _) (fun z44 hz44 => ⟨(by simp [hv, h8, hs8, hALm, hAL0, hp9, hg1, hc1, hkx, hkl, hh9, hk, hhl]), ?_⟩)
  obtain ⟨d, g3⟩ := z44
  have hd : 0 ≤ d ∧ d ≤ 6 := hz44
  have qF := From_fine l hv h hk d hd
  obtain ⟨qc1, qc2, qc3, qc4⟩ := got_facts hv hk hd
  obtain ⟨e1, e2, e3⟩ := fr_len l h d
  have qgl := got_len hv hk hd
  have qpl := fun (i : Nat) hi hg => swap_place (i := i) hv hk hd hi hg
  have qno := now_ok hv hk hd
  have qni := fun (s : Nat) hs => now_iff (s := s) hv hk hd hs
  have qnm := now_many hv hk hd
  obtain ⟨FR, qFR⟩ : ∃ x, frL l h d = x := ⟨_, rfl⟩
  obtain ⟨X, qX⟩ : ∃ x, W6.swapT FR.1 FR.2.1 = x := ⟨_, rfl⟩
  obtain ⟨A, qA⟩ : ∃ x, who l h = x := ⟨_, rfl⟩
  have qXg : gotL l h d = X := by rw [gotL, qFR]; exact qX
  have qap : FR.2.2 = A.map fun a : Nat => (a : Int) := by rw [← qFR, frL_eq, qA]
  have qlA : A.length ≤ 8 := by have := who_len l h; rw [qA] at this; omega
  obtain ⟨NW, qW⟩ : ∃ w, nowL l h d = w := ⟨_, rfl⟩
  have qWn : nowN l.stalls.length X A A.length = NW := by rw [← qW, nowL, qXg, qA, hhl]
  rw [qXg] at qc2 qc3 qc4
  rw [qFR] at qc1 qc2 qc3 qF
  rw [qFR, qA] at e1 e2 e3
  rw [qXg, qA] at qgl
  rw [qW] at qno qni qnm
  rw [qA] at qnm
  have hX := qX
  have hq1 := qc1
  have hq2 := qc2
  have hq3 := qc3
  have hXl : X.length = A.length := qgl
  have hapl : FR.2.2.length = A.length := e3
  replace F := F.add hd |>.add hX |>.add hq1 |>.add hq2 |>.add hq3 |>.add hXl |>.add hapl
  refine WOps.norm (by simp [hv, h8, hs8, hALm, hAL0, hp9, hg1, hc1, hkx, hkl, hh9, hk, hhl, hd, hX, hq1, hq2, hq3, hXl, hapl]; rfl) ?_
  refine oN 1 ?_
  refine oK [4, 5, 6, 8] ?_
  refine W.seqR ?_
  refine oN 3 ?_
  refine oC [] ?_
  refine ct (qF) ?_
  refine oN 8 ?_
  refine oK [4, 5, 6, 8, 9, 10, 11] ?_
  refine W.seqR ?_
  refine oN 1 ?_
  refine oC [] ?_
  refine ct (W6.Swap_ok FR.1 FR.2.1) ?_
  refine oN 5 ?_
  refine oK [4, 5, 6, 8, 9, 10, 11, 12, 13] ?_
  refine W.seqR ?_
  refine oN 2 ?_
  refine oC [] ?_
  refine ct (W6.Pleases_ok FR.1 FR.2.1 X (fun _ => qc4)) ?_
  refine oN 5 ?_
  refine oK [4, 5, 6, 8, 10, 11, 12, 13, 14, 15] ?_
  refine W.seqk fun K2 hK2 => ?_
  refine W.seqR ?_
  refine oN 3 ?_
  refine gT ?_
  refine gT ?_
  refine oN 2 ?_
  refine gT ?_
  refine gT ?_
  refine oN 2 ?_
  refine gT ?_
  refine gT ?_
  refine oN 2 ?_
  refine gT ?_
  refine gT ?_
  refine gT ?_
  refine oN 2 ?_
  refine gT ?_
  refine gT ?_
  refine gT ?_
  refine gT ?_
  refine gT ?_
  refine oN 2 ?_
  refine gT ?_
  refine gT ?_
  refine gT ?_
  refine gT ?_
  refine gT ?_
  refine gT ?_
  refine oN 1 ?_
  refine oK [4, 5, 8, 10, 12, 97] ?_
  refine cF ?_
  refine W.skip ?_
  refine hK2 _ ?_
  clear hK2 K2
  have hms : (l.stalls.length : Int) ≤ 16777216 := by omega
  replace F := F.add hms
  refine rK [4, 5, 8, 10, 12, 16] ?_
  refine W.seqk fun K3 hK3 => ?_
  refine rK [4, 5, 8, 10, 12, 16, 17] ?_
  refine W.block ?_
  refine lp (α := Nat × List Int) [4, 5, 8, 10, 12, 16] [103] [800] (fun x => [(17, I x.1)]) (fun x => [(800, .row true 3 1 (x.2.map I))]) (fun x => x.1 ≤ l.stalls.length ∧ x.2.length = l.stalls.length ∧ x.2.take x.1 = List.replicate x.1 (-1)) (fun x => l.stalls.length - x.1) (0, List.replicate l.stalls.length 0) ?_ ?_ ?_ ?_
  ·
   try (simp [Fx.get F])
   all_goals (
    first | done | omega | exact ⟨rfl, rfl⟩ | rfl
   )
  ·
   try (simp [Fx.get F])
   all_goals (
    first | (rw [qw0]; done) | done | exact ⟨rfl, rfl⟩ | rfl
   )
  ·
   exact ⟨Nat.zero_le _, List.length_replicate, rfl⟩
  ·
   intro ⟨i, w⟩ hI0
   simp only [List.cons_append, List.nil_append]
   try dsimp only at hI0
   obtain ⟨hi, hwl, qwt⟩ := hI0
   replace F := F.add hi |>.add hwl
   refine W.seqk fun K4 hK4 => ?_
   refine rK [4, 5, 8, 10, 12, 16, 17, 104] ?_
   refine it (fun hc3 => ?_) (fun hc3 => ?_)
   ·
    try simp at hc3
    replace F := F.add hc3
    refine W.skip ?_
    refine hK4 _ ?_
    clear hK4 K4
    refine W.seqk fun K5 hK5 => ?_
    refine W.block ?_
    have hih : i < l.stalls.length := by omega
    replace F := F.add hih
    refine rE ?_
    refine hK5 _ ?_
    clear hK5 K5
    refine rEw ?_
    refine ⟨(i + 1, w.set i (-1)), lf ?_ ?_, ?_, ?_⟩
    ·
     try (simp [Fx.get F])
     all_goals (
      first
      | done
      | omega
      | (rw [if_pos hng3] at qms; omega)
      | (rw [if_neg hng3] at qms; omega)
      | (rw [if_pos hng3] at qms; refine ⟨?_, ?_⟩ <;> omega)
      | (rw [if_neg hng3] at qms; refine ⟨?_, ?_⟩ <;> omega)
      | (rw [if_pos hng3] at qms; simp [qms]; done)
      | (rw [if_neg hng3] at qms; simp [qms]; done)
     )
    ·
     try (simp [Fx.get F])
     all_goals (
      first | (rw [qnx]; done) | done | exact ⟨rfl, rfl⟩ | rfl
     )
    ·
     (refine ⟨by show i + 1 ≤ _; omega, by show (w.set i (-1)).length = _; rw [List.length_set]; exact hwl, ?_⟩
      show (w.set i (-1)).take (i + 1) = List.replicate (i + 1) (-1)
      rw [List.take_succ_eq_append_getElem (by rw [List.length_set]; omega), List.take_set, List.set_eq_of_length_le (by rw [List.length_take]; omega), qwt, List.getElem_set_self, List.replicate_succ'])
    ·
     first | done | omega | exact ⟨rfl, rfl⟩ | rfl
   ·
    try simp at hc3
    replace F := F.add hc3
    refine W.exit ?_
    refine hK3 _ ?_
    clear hK4 K4 hK3 K3
    refine W.seqk fun K6 hK6 => ?_
    refine rK [4, 5, 8, 10, 12, 16, 18] ?_
    refine W.block ?_
    have qw0 : w = nowN l.stalls.length X A 0 := by
      have q : i = l.stalls.length := by omega
      rw [q, List.take_of_length_le (by omega)] at qwt
      exact qwt
    refine lp (α := Nat) [4, 5, 8, 10, 12, 16] [112, 139, 150, 160, 164] [800] (fun k => [(18, I k)]) (fun k => [(800, .row true 3 1 ((nowN l.stalls.length X A k).map I))]) (fun k => k ≤ A.length) (fun k => A.length - k) 0 ?_ ?_ ?_ ?_
    ·
     try (simp [Fx.get F])
     all_goals (
      first | done | omega | exact ⟨rfl, rfl⟩ | rfl
     )
    ·
     try (simp [Fx.get F])
     all_goals (
      first | (rw [qw0]; done) | done | exact ⟨rfl, rfl⟩ | rfl
     )
    ·
     omega
    ·
     intro k hI1
     simp only [List.cons_append, List.nil_append]
     try dsimp only at hI1
     replace F := F.add hI1
     refine W.seqk fun K7 hK7 => ?_
     refine rK [4, 5, 8, 10, 12, 16, 18, 113] ?_
     refine it (fun hc4 => ?_) (fun hc4 => ?_)
     ·
      try simp at hc4
      replace F := F.add hc4
      refine W.skip ?_
      refine hK7 _ ?_
      clear hK7 K7
      refine W.seqk fun K8 hK8 => ?_
      refine W.block ?_
      have hkA : k < A.length := by omega
      have hkX : k < X.length := by omega
      have hkp : k < FR.2.2.length := by omega
      have hkg : k < (gotL l h d).length := by rw [qXg]; exact hkX
      obtain ⟨s, q1, q2, q3, q4⟩ := qpl k (by rw [qA]; exact hkA) hkg
      have qXk : X[k] = ((s : Int), d) := by
        have e : ∀ (Y : List W6.Turn) (hY : k < Y.length), Y = gotL l h d → Y[k] = ((s : Int), d) := fun Y hY e => by subst e; exact q1
        exact e X hkX qXg.symm
      have hX1 : X[k].1 = (s : Int) := by rw [qXk]
      have hX2 : X[k].2 = d := by rw [qXk]
      obtain ⟨a, qa⟩ : ∃ a, A[k] = a := ⟨_, rfl⟩
      have qAk : (who l h)[k]'(by rw [qA]; exact hkA) = a := by
        have e : ∀ (Y : List Nat) (hY : k < Y.length), Y = A → Y[k] = a := fun Y hY e => by subst e; exact qa
        exact e _ _ qA
      rw [qAk] at q3 q4
      have hpk : FR.2.2[k] = (a : Int) := by
        have e : ∀ (Y : List Int) (hY : k < Y.length), Y = (A.map fun a : Nat => (a : Int)) → Y[k] = (a : Int) := fun Y hY e => by subst e; rw [List.getElem_map, qa]
        exact e _ hkp qap
      have hal : a < l.apps.length := by
        have := (mem_who (l := l) (h := h) (n := l.apps.length) (a := a)).1 (by rw [← qAk]; exact List.getElem_mem _)
        exact this.1
      have hsl : s < l.stalls.length := by omega
      have hpl : (l.apps[a].wishes.idxOf (s : Int)) ≤ placeL l h a := by rw [← nth_get hal]; exact q4
      have hpl2 : ¬ placeL l h a < (l.apps[a].wishes.idxOf (s : Int)) := Nat.not_lt.2 hpl
      have hs0 : ¬ (s : Int) < 0 := by omega
      have ha0 : ¬ (a : Int) < 0 := by omega
      have hsl2 : ¬ l.stalls.length ≤ s := by omega
      have hal2 : ¬ l.apps.length ≤ a := by omega
      have hnl : (nowN l.stalls.length X A k).length = l.stalls.length := nowN_len _ _ _ _
      have qnx : nowN l.stalls.length X A (k + 1) = (nowN l.stalls.length X A k).set s (a : Int) := by
        rw [nowN, W6.nth_get hkX, qXk, nth_get hkA, qa]; rfl
      replace F := F.add hkA |>.add hkX |>.add hkp |>.add hkg |>.add hX1 |>.add hX2 |>.add hpk |>.add hal |>.add hsl |>.add hpl |>.add hpl2 |>.add hs0 |>.add ha0 |>.add hsl2 |>.add hal2 |>.add hnl
      refine wD 10 [] [[], [], [1, 0], [0, 1, 2], [2, 1, 0, 3], [], [], [6, 5], [5, 6, 7], [3, 0, 1, 2, 4], [4, 2, 1, 0, 3, 9, 7, 6, 5, 8]] ?_
      refine dB [([117, 121, 122, 123, 124], [], []), ([116, 121, 122, 123, 124], [false], []), ([121, 122, 123, 124], [true, true], []), ([121, 122, 123, 124], [true, true, true], []), ([121, 122, 123, 124], [true, true, true, true], []), ([116, 117, 118, 119, 120, 122, 19], [false, false, false, false, false], []), ([116, 117, 118, 119, 120, 121, 19], [false, false, false, false, false, false], []), ([116, 117, 118, 119, 120, 19], [false, false, false, false, false, true, true], []), ([116, 117, 118, 119, 120, 19], [false, false, false, false, false, true, true, true], []), ([121, 122, 123, 124], [true, true, true, true, true, false, false, false, false], [])] 0 10 ?_
      refine dD ?_
      refine oN 1 ?_
      refine oK [4, 5, 8, 10, 12, 16, 18, 19, 20] ?_
      refine W.seqk fun K9 hK9 => ?_
      refine wD 39 [] [[], [], [1, 0], [0, 1, 2], [2, 1, 0, 3], [], [5, 3, 0, 1, 2, 4], [4, 2, 1, 0, 3, 5, 6], [6, 5, 3, 0, 1, 2, 4, 7], [7, 4, 2, 1, 0, 3, 5, 6, 8], [8, 9, 6, 5, 3, 0, 1, 2, 4, 7], [7, 4, 2, 1, 0, 3, 5, 6, 9, 8, 10], [10, 8, 9, 6, 5, 3, 0, 1, 2, 4, 7, 11], [10, 8, 9, 6, 5, 3, 0, 1, 2, 4, 7, 11], [11, 7, 4, 2, 1, 0, 3, 5, 6, 9, 8, 10, 13], [13, 14, 11, 7, 4, 2, 1, 0, 3, 5, 6, 9, 8, 10, 12], [12, 14, 13, 15, 10, 8, 9, 6, 5, 3, 0, 1, 2, 4, 7, 11], [11, 7, 4, 2, 1, 0, 3, 5, 6, 9, 8, 10, 15, 13, 14, 12, 16], [16, 12, 14, 13, 15, 10, 8, 9, 6, 5, 3, 0, 1, 2, 4, 7, 11, 17], [17, 11, 7, 4, 2, 1, 0, 3, 5, 6, 9, 8, 10, 15, 13, 14, 12, 16, 18], [18, 19, 16, 12, 14, 13, 15, 10, 8, 9, 6, 5, 3, 0, 1, 2, 4, 7, 11, 17], [17, 11, 7, 4, 2, 1, 0, 3, 5, 6, 9, 8, 10, 15, 13, 14, 12, 16, 19, 18, 20], [20, 18, 19, 16, 12, 14, 13, 15, 10, 8, 9, 6, 5, 3, 0, 1, 2, 4, 7, 11, 17, 21], [20, 18, 19, 16, 12, 14, 13, 15, 10, 8, 9, 6, 5, 3, 0, 1, 2, 4, 7, 11, 17, 21], [21, 17, 11, 7, 4, 2, 1, 0, 3, 5, 6, 9, 8, 10, 15, 13, 14, 12, 16, 19, 18, 20, 23], [23, 20, 18, 19, 16, 12, 14, 13, 15, 10, 8, 9, 6, 5, 3, 0, 1, 2, 4, 7, 11, 17, 21, 24], [24, 23, 25, 21, 17, 11, 7, 4, 2, 1, 0, 3, 5, 6, 9, 8, 10, 15, 13, 14, 12, 16, 19, 18, 20, 22], [22, 25, 23, 24, 26, 20, 18, 19, 16, 12, 14, 13, 15, 10, 8, 9, 6, 5, 3, 0, 1, 2, 4, 7, 11, 17, 21], [21, 17, 11, 7, 4, 2, 1, 0, 3, 5, 6, 9, 8, 10, 15, 13, 14, 12, 16, 19, 18, 20, 26, 24, 23, 25, 22, 27], [27, 22, 25, 23, 24, 26, 20, 18, 19, 16, 12, 14, 13, 15, 10, 8, 9, 6, 5, 3, 0, 1, 2, 4, 7, 11, 17, 21, 28], [28, 21, 17, 11, 7, 4, 2, 1, 0, 3, 5, 6, 9, 8, 10, 15, 13, 14, 12, 16, 19, 18, 20, 26, 24, 23, 25, 22, 27, 29], [27, 22, 25, 23, 24, 26, 20, 18, 19, 16, 12, 14, 13, 15, 10, 8, 9, 6, 5, 3, 0, 1, 2, 4, 7, 11, 17, 21, 28], [31, 29, 27, 22, 25, 23, 24, 26, 20, 18, 19, 16, 12, 14, 13, 15, 10, 8, 9, 6, 5, 3, 0, 1, 2, 4, 7, 11, 17, 21, 28, 30], [30, 28, 21, 17, 11, 7, 4, 2, 1, 0, 3, 5, 6, 9, 8, 10, 15, 13, 14, 12, 16, 19, 18, 20, 26, 24, 23, 25, 22, 27, 29, 31, 32], [27, 22, 25, 23, 24, 26, 20, 18, 19, 16, 12, 14, 13, 15, 10, 8, 9, 6, 5, 3, 0, 1, 2, 4, 7, 11, 17, 21, 28], [34, 32, 31, 29, 27, 22, 25, 23, 24, 26, 20, 18, 19, 16, 12, 14, 13, 15, 10, 8, 9, 6, 5, 3, 0, 1, 2, 4, 7, 11, 17, 21, 28, 30, 33], [27, 22, 25, 23, 24, 26, 20, 18, 19, 16, 12, 14, 13, 15, 10, 8, 9, 6, 5, 3, 0, 1, 2, 4, 7, 11, 17, 21, 28], [27, 22, 25, 23, 24, 26, 20, 18, 19, 16, 12, 14, 13, 15, 10, 8, 9, 6, 5, 3, 0, 1, 2, 4, 7, 11, 17, 21, 28], [27, 22, 25, 23, 24, 26, 20, 18, 19, 16, 12, 14, 13, 15, 10, 8, 9, 6, 5, 3, 0, 1, 2, 4, 7, 11, 17, 21, 28], [33, 30, 29, 31, 32, 34, 35, 38, 37, 28, 21, 17, 11, 7, 4, 2, 1, 0, 3, 5, 6, 9, 8, 10, 15, 13, 14, 12, 16, 19, 18, 20, 26, 24, 23, 25, 22, 27, 36], [36, 37, 38, 39, 33, 30, 28, 21, 17, 11, 7, 4, 2, 1, 0, 3, 5, 6, 9, 8, 10, 15, 13, 14, 12, 16, 19, 18, 20, 26, 24, 23, 25, 22, 27, 29, 31, 32, 34, 35], [35, 34, 32, 31, 29, 30, 33, 39, 38, 37, 36, 40, 27, 22, 25, 23, 24, 26, 20, 18, 19, 16, 12, 14, 13, 15, 10, 8, 9, 6, 5, 3, 0, 1, 2, 4, 7, 11, 17, 21, 28]] ?_
      refine dB [([126, 130], [], []), ([125, 130], [false], []), ([130], [true, true], []), ([130], [true, true, true], []), ([130], [true, true, true, true], []), ([125, 126, 127, 128, 129], [false, false, false, false, false], []), ([], [true, true, true, true, true, true], []), ([], [true, true, true, true, true, true, true], [])] 31 8 ?_
      refine dT [] [true, true, true, true, true, true, true, true] [] ?_
      refine dT [] [true, true, true, true, true, true, true, true, true] [] ?_
      refine dB [([], [true, true, true, true, true, true, true, true, true, true], []), ([], [true, true, true, true, true, true, true, true, true, true, true], [])] 27 12 ?_
      refine dT [138, 139] [true, true, true, true, true, true, true, true, true, true, true, true] [] ?_
      refine dT [137] [true, true, true, true, true, true, true, true, true, true, true, true, false] [] ?_
      refine dT [137] [true, true, true, true, true, true, true, true, true, true, true, true, false, true] [] ?_
      refine dT [] [true, true, true, true, true, true, true, true, true, true, true, true, true, true, true] [] ?_
      refine dB [([], [true, true, true, true, true, true, true, true, true, true, true, true, true, true, true, true], []), ([], [true, true, true, true, true, true, true, true, true, true, true, true, true, true, true, true, true], [])] 21 18 ?_
      refine dT [] [true, true, true, true, true, true, true, true, true, true, true, true, true, true, true, true, true, true] [] ?_
      refine dT [] [true, true, true, true, true, true, true, true, true, true, true, true, true, true, true, true, true, true, true] [] ?_
      refine dB [([], [true, true, true, true, true, true, true, true, true, true, true, true, true, true, true, true, true, true, true, true], []), ([], [true, true, true, true, true, true, true, true, true, true, true, true, true, true, true, true, true, true, true, true, true], [])] 17 22 ?_
      refine dT [148, 149, 150] [true, true, true, true, true, true, true, true, true, true, true, true, true, true, true, true, true, true, true, true, true, true] [] ?_
      refine dT [147] [true, true, true, true, true, true, true, true, true, true, true, true, true, true, true, true, true, true, true, true, true, true, false] [] ?_
      refine dT [147] [true, true, true, true, true, true, true, true, true, true, true, true, true, true, true, true, true, true, true, true, true, true, false, true] [] ?_
      refine dT [147] [true, true, true, true, true, true, true, true, true, true, true, true, true, true, true, true, true, true, true, true, true, true, false, true, true] [] ?_
      refine dT [] [true, true, true, true, true, true, true, true, true, true, true, true, true, true, true, true, true, true, true, true, true, true, true, true, true, true] [] ?_
      refine dB [([], [true, true, true, true, true, true, true, true, true, true, true, true, true, true, true, true, true, true, true, true, true, true, true, true, true, true, true], []), ([], [true, true, true, true, true, true, true, true, true, true, true, true, true, true, true, true, true, true, true, true, true, true, true, true, true, true, true, true], [])] 10 29 ?_
      refine dT [156, 159, 161, 162, 163] [true, true, true, true, true, true, true, true, true, true, true, true, true, true, true, true, true, true, true, true, true, true, true, true, true, true, true, true, true] [] ?_
      refine dT [156, 159, 161, 162, 163] [true, true, true, true, true, true, true, true, true, true, true, true, true, true, true, true, true, true, true, true, true, true, true, true, true, true, true, true, true, true] [] ?_
      refine dT [154, 155, 159, 161, 162, 163] [true, true, true, true, true, true, true, true, true, true, true, true, true, true, true, true, true, true, true, true, true, true, true, true, true, true, true, true, true, false, false] [] ?_
      refine dT [159, 161, 162, 163] [true, true, true, true, true, true, true, true, true, true, true, true, true, true, true, true, true, true, true, true, true, true, true, true, true, true, true, true, true, true, true, true] [] ?_
      refine dT [159, 161, 162, 163] [true, true, true, true, true, true, true, true, true, true, true, true, true, true, true, true, true, true, true, true, true, true, true, true, true, true, true, true, true, true, true, true, true] [] ?_
      refine dT [154, 155, 156, 157, 158, 161, 162, 163] [true, true, true, true, true, true, true, true, true, true, true, true, true, true, true, true, true, true, true, true, true, true, true, true, true, true, true, true, true, false, false, false, false, false] [] ?_
      refine dG [161, 162, 163] [true, true, true, true, true, true, true, true, true, true, true, true, true, true, true, true, true, true, true, true, true, true, true, true, true, true, true, true, true, true, true, true, true, true, true] [] [] ?_
      refine cd (Wish_ok l.apps[a] s) ?_
      refine dT [154, 155, 156, 157, 158, 159, 160, 162, 163] [true, true, true, true, true, true, true, true, true, true, true, true, true, true, true, true, true, true, true, true, true, true, true, true, true, true, true, true, true, false, false, false, false, false, false, false] [] ?_
      refine dT [154, 155, 156, 157, 158, 159, 160, 161, 163] [true, true, true, true, true, true, true, true, true, true, true, true, true, true, true, true, true, true, true, true, true, true, true, true, true, true, true, true, true, false, false, false, false, false, false, false, false] [] ?_
      refine dT [154, 155, 156, 157, 158, 159, 160, 161, 162] [true, true, true, true, true, true, true, true, true, true, true, true, true, true, true, true, true, true, true, true, true, true, true, true, true, true, true, true, true, false, false, false, false, false, false, false, false, false] [] ?_
      refine dD ?_
      refine gC [] ?_
      refine ct (Place_ok l h a hal) ?_
      refine gT ?_
      refine oN 1 ?_
      refine oK [4, 5, 8, 10, 12, 16, 18, 19, 20, 166] ?_
      refine cF ?_
      refine W.skip ?_
      refine hK9 _ ?_
      clear hK9 K9
      refine rE ?_
      refine hK8 _ ?_
      clear hK8 K8
      refine rEw ?_
      refine ⟨k + 1, lf ?_ ?_, ?_, ?_⟩
      ·
       try (simp [Fx.get F])
       all_goals (
        first
        | done
        | omega
        | (rw [if_pos hng3] at qms; omega)
        | (rw [if_neg hng3] at qms; omega)
        | (rw [if_pos hng3] at qms; refine ⟨?_, ?_⟩ <;> omega)
        | (rw [if_neg hng3] at qms; refine ⟨?_, ?_⟩ <;> omega)
        | (rw [if_pos hng3] at qms; simp [qms]; done)
        | (rw [if_neg hng3] at qms; simp [qms]; done)
       )
      ·
       try (simp [Fx.get F])
       all_goals (
        first | (rw [qnx]; done) | done | exact ⟨rfl, rfl⟩ | rfl
       )
      ·
       omega
      ·
       first | done | omega | exact ⟨rfl, rfl⟩ | rfl
     ·
      try simp at hc4
      replace F := F.add hc4
      refine W.exit ?_
      refine hK6 _ ?_
      clear hK7 K7 hK6 K6
      refine rK [4, 5, 10, 16, 21] ?_
      refine W.seqk fun K10 hK10 => ?_
      refine rK [4, 5, 10, 16, 21, 22] ?_
      refine W.block ?_
      have hkA2 : k = A.length := by omega
      have qW2 : nowN l.stalls.length X A k = NW := by rw [hkA2]; exact qWn
      have hNt : List.take l.stalls.length NW = NW := List.take_of_length_le (by rw [← qW2, nowN_len]; exact Nat.le_refl _)
      have hW2 : nowN l.stalls.length X A A.length = NW := qWn
      have hWl : NW.length = l.stalls.length := by rw [← qW2]; exact nowN_len _ _ _ _
      replace F := F.add hkA2 |>.add hNt |>.add hW2 |>.add hWl
      refine lp (α := Nat) [4, 5, 10, 16] [173] [] (fun j => [(22, I j), (21, I (manyN NW j))]) (fun j => []) (fun j => j ≤ l.stalls.length) (fun j => l.stalls.length - j) 0 ?_ ?_ ?_ ?_
      ·
       try (simp [Fx.get F])
       all_goals (
        first | done | omega | exact ⟨rfl, rfl⟩ | rfl
       )
      ·
       try (simp [Fx.get F])
       all_goals (
        first | (rw [qw0]; done) | done | exact ⟨rfl, rfl⟩ | rfl
       )
      ·
       omega
      ·
       intro j hI2
       simp only [List.cons_append, List.nil_append]
       try dsimp only at hI2
       replace F := F.add hI2
       refine W.seqk fun K11 hK11 => ?_
       refine rK [4, 5, 10, 16, 21, 22, 174] ?_
       refine it (fun hc6 => ?_) (fun hc6 => ?_)
       ·
        try simp at hc6
        replace F := F.add hc6
        refine W.skip ?_
        refine hK11 _ ?_
        clear hK11 K11
        refine W.seqk fun K12 hK12 => ?_
        refine W.block ?_
        refine W.seqk fun K13 hK13 => ?_
        have hjh : j < l.stalls.length := by omega
        have hjW : j < NW.length := by omega
        have hjh2 : j < h.length := by omega
        have qms := manyN_succ NW j
        have qml := manyN_le NW j
        rw [nth_get hjW] at qms
        have qiff := qni j hjh2
        rw [nth_get hjW, nth_get hjh2] at qiff
        replace F := F.add hjh |>.add hjW |>.add hjh2
        by_cases hneg : NW[j] < 0
        ·
         replace F := F.add hneg
         have hng2 : h[j] < 0 := qiff.1 hneg
         have hng3 : ¬ 0 ≤ NW[j] := by omega
         replace F := F.add hng2 |>.add hng3
         refine wD 10 [] [[], [], [1, 0], [0, 1, 2], [2, 1, 0, 3], [], [], [6, 5], [5, 6, 7], [7, 6, 5, 8], [8, 5, 6, 7, 9, 3, 0, 1, 2, 4]] ?_
         refine dB [([178, 182, 183, 184, 185, 186], [], []), ([177, 182, 183, 184, 185, 186], [false], []), ([182, 183, 184, 185, 186], [true, true], []), ([182, 183, 184, 185, 186], [true, true, true], []), ([182, 183, 184, 185, 186], [true, true, true, true], []), ([177, 178, 179, 180, 181, 183], [false, false, false, false, false], []), ([177, 178, 179, 180, 181, 182], [false, false, false, false, false, false], []), ([177, 178, 179, 180, 181], [false, false, false, false, false, true, true], []), ([177, 178, 179, 180, 181], [false, false, false, false, false, true, true, true], []), ([177, 178, 179, 180, 181], [false, false, false, false, false, true, true, true, true], [])] 0 10 ?_
         refine dD ?_
         refine oN 1 ?_
         refine oK [4, 5, 10, 16, 21, 22, 187] ?_
         refine cF ?_
         refine W.skip ?_
         refine hK13 _ ?_
         clear hK13 K13
         refine rK [4, 5, 10, 16, 21, 22, 192] ?_
         refine cF ?_
         refine W.skip ?_
         refine hK12 _ ?_
         clear hK12 K12
         refine rEw ?_
         refine ⟨j + 1, lf ?_ ?_, ?_, ?_⟩
         ·
          try (simp [Fx.get F])
          all_goals (
           (rw [if_neg hng3] at qms; omega)
          )
         ·
          try (simp [Fx.get F])
          all_goals (
           first | (rw [qnx]; done) | done | exact ⟨rfl, rfl⟩ | rfl
          )
         ·
          omega
         ·
          first | done | omega | exact ⟨rfl, rfl⟩ | rfl
        ·
         replace F := F.add hneg
         have hng2 : ¬ h[j] < 0 := fun q => hneg (qiff.2 q)
         have hng3 : 0 ≤ NW[j] := by omega
         replace F := F.add hng2 |>.add hng3
         refine wD 10 [] [[], [], [1, 0], [0, 1, 2], [2, 1, 0, 3], [], [], [6, 5], [5, 6, 7], [7, 6, 5, 8], [8, 5, 6, 7, 9, 3, 0, 1, 2, 4]] ?_
         refine dB [([178, 182, 183, 184, 185, 186], [], []), ([177, 182, 183, 184, 185, 186], [false], []), ([182, 183, 184, 185, 186], [true, true], []), ([182, 183, 184, 185, 186], [true, true, true], []), ([182, 183, 184, 185, 186], [true, true, true, true], []), ([177, 178, 179, 180, 181, 183], [false, false, false, false, false], []), ([177, 178, 179, 180, 181, 182], [false, false, false, false, false, false], []), ([177, 178, 179, 180, 181], [false, false, false, false, false, true, true], []), ([177, 178, 179, 180, 181], [false, false, false, false, false, true, true, true], []), ([177, 178, 179, 180, 181], [false, false, false, false, false, true, true, true, true], [])] 0 10 ?_
         refine dD ?_
         refine oN 1 ?_
         refine oK [4, 5, 10, 16, 21, 22, 187] ?_
         refine cF ?_
         refine W.skip ?_
         refine hK13 _ ?_
         clear hK13 K13
         refine rK [4, 5, 10, 16, 21, 22, 192] ?_
         refine cT ?_
         refine rEw ?_
         refine hK12 _ ?_
         clear hK12 K12
         refine rEw ?_
         refine ⟨j + 1, lf ?_ ?_, ?_, ?_⟩
         ·
          try (simp [Fx.get F])
          all_goals (
           (rw [if_pos hng3] at qms; omega)
          )
         ·
          try (simp [Fx.get F])
          all_goals (
           first | (rw [qnx]; done) | done | exact ⟨rfl, rfl⟩ | rfl
          )
         ·
          omega
         ·
          first | done | omega | exact ⟨rfl, rfl⟩ | rfl
       ·
        try simp at hc6
        replace F := F.add hc6
        refine W.exit ?_
        refine hK10 _ ?_
        clear hK11 K11 hK10 K10
        have hje : j = l.stalls.length := by omega
        have hmn : manyN NW l.stalls.length = A.length := by rw [← hhl]; exact qnm
        have hcw : checkH l NW = 0 := checkH_zero.2 ⟨hv, qno⟩
        replace F := F.add hje |>.add hmn |>.add hcw
        refine W.seqR ?_
        refine oN 5 ?_
        refine gT ?_
        refine gT ?_
        refine gC [] ?_
        refine ct (CheckHolders_ok l NW) ?_
        refine gT ?_
        refine oN 2 ?_
        refine gC [] ?_
        refine ct (W6.awake_ok) ?_
        refine oN 2 ?_
        refine oK [2] ?_
        refine W.ret ?_
        refine er false [] [] ?_
        first | done | omega | exact ⟨rfl, rfl⟩ | rfl
 ·
  try simp at hc1
  replace F := F.add hc1
  refine W.skip ?_
  refine hK1 _ ?_
  clear hK1 K1
  first
  | obtain ⟨h, qh⟩ : ∃ h, AL[kx] = h := ⟨_, rfl⟩
  | obtain ⟨h, qh⟩ : ∃ h, z29 = h := ⟨_, rfl⟩
  have hh9 := qh
  have hk : HoldOk l h := by first | (rw [← qh]; exact (qmem _).1 (List.getElem_mem hkl)) | (rw [← qh]; exact qh0)
  have hhl := hk.len
  replace F := F.add hh9 |>.add hk |>.add hhl
  refine W.seqR ?_
  refine oN 1 ?_
  refine oC [(10000, 192)] ?_
  refine CallT.mkE (Cast_7 _) (fun z44 hz44 => ⟨(by simp [hv, h8, hs8, hALm, hAL0, hp9, hg1, hc1, hh9, hk, hhl]), ?_⟩)
  obtain ⟨d, g3⟩ := z44
  have hd : 0 ≤ d ∧ d ≤ 6 := hz44
  have qF := From_fine l hv h hk d hd
  obtain ⟨qc1, qc2, qc3, qc4⟩ := got_facts hv hk hd
  obtain ⟨e1, e2, e3⟩ := fr_len l h d
  have qgl := got_len hv hk hd
  have qpl := fun (i : Nat) hi hg => swap_place (i := i) hv hk hd hi hg
  have qno := now_ok hv hk hd
  have qni := fun (s : Nat) hs => now_iff (s := s) hv hk hd hs
  have qnm := now_many hv hk hd
  obtain ⟨FR, qFR⟩ : ∃ x, frL l h d = x := ⟨_, rfl⟩
  obtain ⟨X, qX⟩ : ∃ x, W6.swapT FR.1 FR.2.1 = x := ⟨_, rfl⟩
  obtain ⟨A, qA⟩ : ∃ x, who l h = x := ⟨_, rfl⟩
  have qXg : gotL l h d = X := by rw [gotL, qFR]; exact qX
  have qap : FR.2.2 = A.map fun a : Nat => (a : Int) := by rw [← qFR, frL_eq, qA]
  have qlA : A.length ≤ 8 := by have := who_len l h; rw [qA] at this; omega
  obtain ⟨NW, qW⟩ : ∃ w, nowL l h d = w := ⟨_, rfl⟩
  have qWn : nowN l.stalls.length X A A.length = NW := by rw [← qW, nowL, qXg, qA, hhl]
  rw [qXg] at qc2 qc3 qc4
  rw [qFR] at qc1 qc2 qc3 qF
  rw [qFR, qA] at e1 e2 e3
  rw [qXg, qA] at qgl
  rw [qW] at qno qni qnm
  rw [qA] at qnm
  have hX := qX
  have hq1 := qc1
  have hq2 := qc2
  have hq3 := qc3
  have hXl : X.length = A.length := qgl
  have hapl : FR.2.2.length = A.length := e3
  replace F := F.add hd |>.add hX |>.add hq1 |>.add hq2 |>.add hq3 |>.add hXl |>.add hapl
  refine WOps.norm (by simp [hv, h8, hs8, hALm, hAL0, hp9, hg1, hc1, hh9, hk, hhl, hd, hX, hq1, hq2, hq3, hXl, hapl]; rfl) ?_
  refine oN 1 ?_
  refine oK [4, 5, 6, 8] ?_
  refine W.seqR ?_
  refine oN 3 ?_
  refine oC [] ?_
  refine ct (qF) ?_
  refine oN 8 ?_
  refine oK [4, 5, 6, 8, 9, 10, 11] ?_
  refine W.seqR ?_
  refine oN 1 ?_
  refine oC [] ?_
  refine ct (W6.Swap_ok FR.1 FR.2.1) ?_
  refine oN 5 ?_
  refine oK [4, 5, 6, 8, 9, 10, 11, 12, 13] ?_
  refine W.seqR ?_
  refine oN 2 ?_
  refine oC [] ?_
  refine ct (W6.Pleases_ok FR.1 FR.2.1 X (fun _ => qc4)) ?_
  refine oN 5 ?_
  refine oK [4, 5, 6, 8, 10, 11, 12, 13, 14, 15] ?_
  refine W.seqk fun K14 hK14 => ?_
  refine W.seqR ?_
  refine oN 3 ?_
  refine gT ?_
  refine gT ?_
  refine oN 2 ?_
  refine gT ?_
  refine gT ?_
  refine oN 2 ?_
  refine gT ?_
  refine gT ?_
  refine oN 2 ?_
  refine gT ?_
  refine gT ?_
  refine gT ?_
  refine oN 2 ?_
  refine gT ?_
  refine gT ?_
  refine gT ?_
  refine gT ?_
  refine gT ?_
  refine oN 2 ?_
  refine gT ?_
  refine gT ?_
  refine gT ?_
  refine gT ?_
  refine gT ?_
  refine gT ?_
  refine oN 1 ?_
  refine oK [4, 5, 8, 10, 12, 97] ?_
  refine cF ?_
  refine W.skip ?_
  refine hK14 _ ?_
  clear hK14 K14
  have hms : (l.stalls.length : Int) ≤ 16777216 := by omega
  replace F := F.add hms
  refine rK [4, 5, 8, 10, 12, 16] ?_
  refine W.seqk fun K15 hK15 => ?_
  refine rK [4, 5, 8, 10, 12, 16, 17] ?_
  refine W.block ?_
  refine lp (α := Nat × List Int) [4, 5, 8, 10, 12, 16] [103] [800] (fun x => [(17, I x.1)]) (fun x => [(800, .row true 3 1 (x.2.map I))]) (fun x => x.1 ≤ l.stalls.length ∧ x.2.length = l.stalls.length ∧ x.2.take x.1 = List.replicate x.1 (-1)) (fun x => l.stalls.length - x.1) (0, List.replicate l.stalls.length 0) ?_ ?_ ?_ ?_
  ·
   try (simp [Fx.get F])
   all_goals (
    first | done | omega | exact ⟨rfl, rfl⟩ | rfl
   )
  ·
   try (simp [Fx.get F])
   all_goals (
    first | (rw [qw0]; done) | done | exact ⟨rfl, rfl⟩ | rfl
   )
  ·
   exact ⟨Nat.zero_le _, List.length_replicate, rfl⟩
  ·
   intro ⟨i, w⟩ hI0
   simp only [List.cons_append, List.nil_append]
   try dsimp only at hI0
   obtain ⟨hi, hwl, qwt⟩ := hI0
   replace F := F.add hi |>.add hwl
   refine W.seqk fun K16 hK16 => ?_
   refine rK [4, 5, 8, 10, 12, 16, 17, 104] ?_
   refine it (fun hc12 => ?_) (fun hc12 => ?_)
   ·
    try simp at hc12
    replace F := F.add hc12
    refine W.skip ?_
    refine hK16 _ ?_
    clear hK16 K16
    refine W.seqk fun K17 hK17 => ?_
    refine W.block ?_
    have hih : i < l.stalls.length := by omega
    replace F := F.add hih
    refine rE ?_
    refine hK17 _ ?_
    clear hK17 K17
    refine rEw ?_
    refine ⟨(i + 1, w.set i (-1)), lf ?_ ?_, ?_, ?_⟩
    ·
     try (simp [Fx.get F])
     all_goals (
      first
      | done
      | omega
      | (rw [if_pos hng3] at qms; omega)
      | (rw [if_neg hng3] at qms; omega)
      | (rw [if_pos hng3] at qms; refine ⟨?_, ?_⟩ <;> omega)
      | (rw [if_neg hng3] at qms; refine ⟨?_, ?_⟩ <;> omega)
      | (rw [if_pos hng3] at qms; simp [qms]; done)
      | (rw [if_neg hng3] at qms; simp [qms]; done)
     )
    ·
     try (simp [Fx.get F])
     all_goals (
      first | (rw [qnx]; done) | done | exact ⟨rfl, rfl⟩ | rfl
     )
    ·
     (refine ⟨by show i + 1 ≤ _; omega, by show (w.set i (-1)).length = _; rw [List.length_set]; exact hwl, ?_⟩
      show (w.set i (-1)).take (i + 1) = List.replicate (i + 1) (-1)
      rw [List.take_succ_eq_append_getElem (by rw [List.length_set]; omega), List.take_set, List.set_eq_of_length_le (by rw [List.length_take]; omega), qwt, List.getElem_set_self, List.replicate_succ'])
    ·
     first | done | omega | exact ⟨rfl, rfl⟩ | rfl
   ·
    try simp at hc12
    replace F := F.add hc12
    refine W.exit ?_
    refine hK15 _ ?_
    clear hK16 K16 hK15 K15
    refine W.seqk fun K18 hK18 => ?_
    refine rK [4, 5, 8, 10, 12, 16, 18] ?_
    refine W.block ?_
    have qw0 : w = nowN l.stalls.length X A 0 := by
      have q : i = l.stalls.length := by omega
      rw [q, List.take_of_length_le (by omega)] at qwt
      exact qwt
    refine lp (α := Nat) [4, 5, 8, 10, 12, 16] [112, 139, 150, 160, 164] [800] (fun k => [(18, I k)]) (fun k => [(800, .row true 3 1 ((nowN l.stalls.length X A k).map I))]) (fun k => k ≤ A.length) (fun k => A.length - k) 0 ?_ ?_ ?_ ?_
    ·
     try (simp [Fx.get F])
     all_goals (
      first | done | omega | exact ⟨rfl, rfl⟩ | rfl
     )
    ·
     try (simp [Fx.get F])
     all_goals (
      first | (rw [qw0]; done) | done | exact ⟨rfl, rfl⟩ | rfl
     )
    ·
     omega
    ·
     intro k hI1
     simp only [List.cons_append, List.nil_append]
     try dsimp only at hI1
     replace F := F.add hI1
     refine W.seqk fun K19 hK19 => ?_
     refine rK [4, 5, 8, 10, 12, 16, 18, 113] ?_
     refine it (fun hc13 => ?_) (fun hc13 => ?_)
     ·
      try simp at hc13
      replace F := F.add hc13
      refine W.skip ?_
      refine hK19 _ ?_
      clear hK19 K19
      refine W.seqk fun K20 hK20 => ?_
      refine W.block ?_
      have hkA : k < A.length := by omega
      have hkX : k < X.length := by omega
      have hkp : k < FR.2.2.length := by omega
      have hkg : k < (gotL l h d).length := by rw [qXg]; exact hkX
      obtain ⟨s, q1, q2, q3, q4⟩ := qpl k (by rw [qA]; exact hkA) hkg
      have qXk : X[k] = ((s : Int), d) := by
        have e : ∀ (Y : List W6.Turn) (hY : k < Y.length), Y = gotL l h d → Y[k] = ((s : Int), d) := fun Y hY e => by subst e; exact q1
        exact e X hkX qXg.symm
      have hX1 : X[k].1 = (s : Int) := by rw [qXk]
      have hX2 : X[k].2 = d := by rw [qXk]
      obtain ⟨a, qa⟩ : ∃ a, A[k] = a := ⟨_, rfl⟩
      have qAk : (who l h)[k]'(by rw [qA]; exact hkA) = a := by
        have e : ∀ (Y : List Nat) (hY : k < Y.length), Y = A → Y[k] = a := fun Y hY e => by subst e; exact qa
        exact e _ _ qA
      rw [qAk] at q3 q4
      have hpk : FR.2.2[k] = (a : Int) := by
        have e : ∀ (Y : List Int) (hY : k < Y.length), Y = (A.map fun a : Nat => (a : Int)) → Y[k] = (a : Int) := fun Y hY e => by subst e; rw [List.getElem_map, qa]
        exact e _ hkp qap
      have hal : a < l.apps.length := by
        have := (mem_who (l := l) (h := h) (n := l.apps.length) (a := a)).1 (by rw [← qAk]; exact List.getElem_mem _)
        exact this.1
      have hsl : s < l.stalls.length := by omega
      have hpl : (l.apps[a].wishes.idxOf (s : Int)) ≤ placeL l h a := by rw [← nth_get hal]; exact q4
      have hpl2 : ¬ placeL l h a < (l.apps[a].wishes.idxOf (s : Int)) := Nat.not_lt.2 hpl
      have hs0 : ¬ (s : Int) < 0 := by omega
      have ha0 : ¬ (a : Int) < 0 := by omega
      have hsl2 : ¬ l.stalls.length ≤ s := by omega
      have hal2 : ¬ l.apps.length ≤ a := by omega
      have hnl : (nowN l.stalls.length X A k).length = l.stalls.length := nowN_len _ _ _ _
      have qnx : nowN l.stalls.length X A (k + 1) = (nowN l.stalls.length X A k).set s (a : Int) := by
        rw [nowN, W6.nth_get hkX, qXk, nth_get hkA, qa]; rfl
      replace F := F.add hkA |>.add hkX |>.add hkp |>.add hkg |>.add hX1 |>.add hX2 |>.add hpk |>.add hal |>.add hsl |>.add hpl |>.add hpl2 |>.add hs0 |>.add ha0 |>.add hsl2 |>.add hal2 |>.add hnl
      refine wD 10 [] [[], [], [1, 0], [0, 1, 2], [2, 1, 0, 3], [], [], [6, 5], [5, 6, 7], [3, 0, 1, 2, 4], [4, 2, 1, 0, 3, 9, 7, 6, 5, 8]] ?_
      refine dB [([117, 121, 122, 123, 124], [], []), ([116, 121, 122, 123, 124], [false], []), ([121, 122, 123, 124], [true, true], []), ([121, 122, 123, 124], [true, true, true], []), ([121, 122, 123, 124], [true, true, true, true], []), ([116, 117, 118, 119, 120, 122, 19], [false, false, false, false, false], []), ([116, 117, 118, 119, 120, 121, 19], [false, false, false, false, false, false], []), ([116, 117, 118, 119, 120, 19], [false, false, false, false, false, true, true], []), ([116, 117, 118, 119, 120, 19], [false, false, false, false, false, true, true, true], []), ([121, 122, 123, 124], [true, true, true, true, true, false, false, false, false], [])] 0 10 ?_
      refine dD ?_
      refine oN 1 ?_
      refine oK [4, 5, 8, 10, 12, 16, 18, 19, 20] ?_
      refine W.seqk fun K21 hK21 => ?_
      refine wD 39 [] [[], [], [1, 0], [0, 1, 2], [2, 1, 0, 3], [], [5, 3, 0, 1, 2, 4], [4, 2, 1, 0, 3, 5, 6], [6, 5, 3, 0, 1, 2, 4, 7], [7, 4, 2, 1, 0, 3, 5, 6, 8], [8, 9, 6, 5, 3, 0, 1, 2, 4, 7], [7, 4, 2, 1, 0, 3, 5, 6, 9, 8, 10], [10, 8, 9, 6, 5, 3, 0, 1, 2, 4, 7, 11], [10, 8, 9, 6, 5, 3, 0, 1, 2, 4, 7, 11], [11, 7, 4, 2, 1, 0, 3, 5, 6, 9, 8, 10, 13], [13, 14, 11, 7, 4, 2, 1, 0, 3, 5, 6, 9, 8, 10, 12], [12, 14, 13, 15, 10, 8, 9, 6, 5, 3, 0, 1, 2, 4, 7, 11], [11, 7, 4, 2, 1, 0, 3, 5, 6, 9, 8, 10, 15, 13, 14, 12, 16], [16, 12, 14, 13, 15, 10, 8, 9, 6, 5, 3, 0, 1, 2, 4, 7, 11, 17], [17, 11, 7, 4, 2, 1, 0, 3, 5, 6, 9, 8, 10, 15, 13, 14, 12, 16, 18], [18, 19, 16, 12, 14, 13, 15, 10, 8, 9, 6, 5, 3, 0, 1, 2, 4, 7, 11, 17], [17, 11, 7, 4, 2, 1, 0, 3, 5, 6, 9, 8, 10, 15, 13, 14, 12, 16, 19, 18, 20], [20, 18, 19, 16, 12, 14, 13, 15, 10, 8, 9, 6, 5, 3, 0, 1, 2, 4, 7, 11, 17, 21], [20, 18, 19, 16, 12, 14, 13, 15, 10, 8, 9, 6, 5, 3, 0, 1, 2, 4, 7, 11, 17, 21], [21, 17, 11, 7, 4, 2, 1, 0, 3, 5, 6, 9, 8, 10, 15, 13, 14, 12, 16, 19, 18, 20, 23], [23, 20, 18, 19, 16, 12, 14, 13, 15, 10, 8, 9, 6, 5, 3, 0, 1, 2, 4, 7, 11, 17, 21, 24], [24, 23, 25, 21, 17, 11, 7, 4, 2, 1, 0, 3, 5, 6, 9, 8, 10, 15, 13, 14, 12, 16, 19, 18, 20, 22], [22, 25, 23, 24, 26, 20, 18, 19, 16, 12, 14, 13, 15, 10, 8, 9, 6, 5, 3, 0, 1, 2, 4, 7, 11, 17, 21], [21, 17, 11, 7, 4, 2, 1, 0, 3, 5, 6, 9, 8, 10, 15, 13, 14, 12, 16, 19, 18, 20, 26, 24, 23, 25, 22, 27], [27, 22, 25, 23, 24, 26, 20, 18, 19, 16, 12, 14, 13, 15, 10, 8, 9, 6, 5, 3, 0, 1, 2, 4, 7, 11, 17, 21, 28], [28, 21, 17, 11, 7, 4, 2, 1, 0, 3, 5, 6, 9, 8, 10, 15, 13, 14, 12, 16, 19, 18, 20, 26, 24, 23, 25, 22, 27, 29], [27, 22, 25, 23, 24, 26, 20, 18, 19, 16, 12, 14, 13, 15, 10, 8, 9, 6, 5, 3, 0, 1, 2, 4, 7, 11, 17, 21, 28], [31, 29, 27, 22, 25, 23, 24, 26, 20, 18, 19, 16, 12, 14, 13, 15, 10, 8, 9, 6, 5, 3, 0, 1, 2, 4, 7, 11, 17, 21, 28, 30], [30, 28, 21, 17, 11, 7, 4, 2, 1, 0, 3, 5, 6, 9, 8, 10, 15, 13, 14, 12, 16, 19, 18, 20, 26, 24, 23, 25, 22, 27, 29, 31, 32], [27, 22, 25, 23, 24, 26, 20, 18, 19, 16, 12, 14, 13, 15, 10, 8, 9, 6, 5, 3, 0, 1, 2, 4, 7, 11, 17, 21, 28], [34, 32, 31, 29, 27, 22, 25, 23, 24, 26, 20, 18, 19, 16, 12, 14, 13, 15, 10, 8, 9, 6, 5, 3, 0, 1, 2, 4, 7, 11, 17, 21, 28, 30, 33], [27, 22, 25, 23, 24, 26, 20, 18, 19, 16, 12, 14, 13, 15, 10, 8, 9, 6, 5, 3, 0, 1, 2, 4, 7, 11, 17, 21, 28], [27, 22, 25, 23, 24, 26, 20, 18, 19, 16, 12, 14, 13, 15, 10, 8, 9, 6, 5, 3, 0, 1, 2, 4, 7, 11, 17, 21, 28], [27, 22, 25, 23, 24, 26, 20, 18, 19, 16, 12, 14, 13, 15, 10, 8, 9, 6, 5, 3, 0, 1, 2, 4, 7, 11, 17, 21, 28], [33, 30, 29, 31, 32, 34, 35, 38, 37, 28, 21, 17, 11, 7, 4, 2, 1, 0, 3, 5, 6, 9, 8, 10, 15, 13, 14, 12, 16, 19, 18, 20, 26, 24, 23, 25, 22, 27, 36], [36, 37, 38, 39, 33, 30, 28, 21, 17, 11, 7, 4, 2, 1, 0, 3, 5, 6, 9, 8, 10, 15, 13, 14, 12, 16, 19, 18, 20, 26, 24, 23, 25, 22, 27, 29, 31, 32, 34, 35], [35, 34, 32, 31, 29, 30, 33, 39, 38, 37, 36, 40, 27, 22, 25, 23, 24, 26, 20, 18, 19, 16, 12, 14, 13, 15, 10, 8, 9, 6, 5, 3, 0, 1, 2, 4, 7, 11, 17, 21, 28]] ?_
      refine dB [([126, 130], [], []), ([125, 130], [false], []), ([130], [true, true], []), ([130], [true, true, true], []), ([130], [true, true, true, true], []), ([125, 126, 127, 128, 129], [false, false, false, false, false], []), ([], [true, true, true, true, true, true], []), ([], [true, true, true, true, true, true, true], [])] 31 8 ?_
      refine dT [] [true, true, true, true, true, true, true, true] [] ?_
      refine dT [] [true, true, true, true, true, true, true, true, true] [] ?_
      refine dB [([], [true, true, true, true, true, true, true, true, true, true], []), ([], [true, true, true, true, true, true, true, true, true, true, true], [])] 27 12 ?_
      refine dT [138, 139] [true, true, true, true, true, true, true, true, true, true, true, true] [] ?_
      refine dT [137] [true, true, true, true, true, true, true, true, true, true, true, true, false] [] ?_
      refine dT [137] [true, true, true, true, true, true, true, true, true, true, true, true, false, true] [] ?_
      refine dT [] [true, true, true, true, true, true, true, true, true, true, true, true, true, true, true] [] ?_
      refine dB [([], [true, true, true, true, true, true, true, true, true, true, true, true, true, true, true, true], []), ([], [true, true, true, true, true, true, true, true, true, true, true, true, true, true, true, true, true], [])] 21 18 ?_
      refine dT [] [true, true, true, true, true, true, true, true, true, true, true, true, true, true, true, true, true, true] [] ?_
      refine dT [] [true, true, true, true, true, true, true, true, true, true, true, true, true, true, true, true, true, true, true] [] ?_
      refine dB [([], [true, true, true, true, true, true, true, true, true, true, true, true, true, true, true, true, true, true, true, true], []), ([], [true, true, true, true, true, true, true, true, true, true, true, true, true, true, true, true, true, true, true, true, true], [])] 17 22 ?_
      refine dT [148, 149, 150] [true, true, true, true, true, true, true, true, true, true, true, true, true, true, true, true, true, true, true, true, true, true] [] ?_
      refine dT [147] [true, true, true, true, true, true, true, true, true, true, true, true, true, true, true, true, true, true, true, true, true, true, false] [] ?_
      refine dT [147] [true, true, true, true, true, true, true, true, true, true, true, true, true, true, true, true, true, true, true, true, true, true, false, true] [] ?_
      refine dT [147] [true, true, true, true, true, true, true, true, true, true, true, true, true, true, true, true, true, true, true, true, true, true, false, true, true] [] ?_
      refine dT [] [true, true, true, true, true, true, true, true, true, true, true, true, true, true, true, true, true, true, true, true, true, true, true, true, true, true] [] ?_
      refine dB [([], [true, true, true, true, true, true, true, true, true, true, true, true, true, true, true, true, true, true, true, true, true, true, true, true, true, true, true], []), ([], [true, true, true, true, true, true, true, true, true, true, true, true, true, true, true, true, true, true, true, true, true, true, true, true, true, true, true, true], [])] 10 29 ?_
      refine dT [156, 159, 161, 162, 163] [true, true, true, true, true, true, true, true, true, true, true, true, true, true, true, true, true, true, true, true, true, true, true, true, true, true, true, true, true] [] ?_
      refine dT [156, 159, 161, 162, 163] [true, true, true, true, true, true, true, true, true, true, true, true, true, true, true, true, true, true, true, true, true, true, true, true, true, true, true, true, true, true] [] ?_
      refine dT [154, 155, 159, 161, 162, 163] [true, true, true, true, true, true, true, true, true, true, true, true, true, true, true, true, true, true, true, true, true, true, true, true, true, true, true, true, true, false, false] [] ?_
      refine dT [159, 161, 162, 163] [true, true, true, true, true, true, true, true, true, true, true, true, true, true, true, true, true, true, true, true, true, true, true, true, true, true, true, true, true, true, true, true] [] ?_
      refine dT [159, 161, 162, 163] [true, true, true, true, true, true, true, true, true, true, true, true, true, true, true, true, true, true, true, true, true, true, true, true, true, true, true, true, true, true, true, true, true] [] ?_
      refine dT [154, 155, 156, 157, 158, 161, 162, 163] [true, true, true, true, true, true, true, true, true, true, true, true, true, true, true, true, true, true, true, true, true, true, true, true, true, true, true, true, true, false, false, false, false, false] [] ?_
      refine dG [161, 162, 163] [true, true, true, true, true, true, true, true, true, true, true, true, true, true, true, true, true, true, true, true, true, true, true, true, true, true, true, true, true, true, true, true, true, true, true] [] [] ?_
      refine cd (Wish_ok l.apps[a] s) ?_
      refine dT [154, 155, 156, 157, 158, 159, 160, 162, 163] [true, true, true, true, true, true, true, true, true, true, true, true, true, true, true, true, true, true, true, true, true, true, true, true, true, true, true, true, true, false, false, false, false, false, false, false] [] ?_
      refine dT [154, 155, 156, 157, 158, 159, 160, 161, 163] [true, true, true, true, true, true, true, true, true, true, true, true, true, true, true, true, true, true, true, true, true, true, true, true, true, true, true, true, true, false, false, false, false, false, false, false, false] [] ?_
      refine dT [154, 155, 156, 157, 158, 159, 160, 161, 162] [true, true, true, true, true, true, true, true, true, true, true, true, true, true, true, true, true, true, true, true, true, true, true, true, true, true, true, true, true, false, false, false, false, false, false, false, false, false] [] ?_
      refine dD ?_
      refine gC [] ?_
      refine ct (Place_ok l h a hal) ?_
      refine gT ?_
      refine oN 1 ?_
      refine oK [4, 5, 8, 10, 12, 16, 18, 19, 20, 166] ?_
      refine cF ?_
      refine W.skip ?_
      refine hK21 _ ?_
      clear hK21 K21
      refine rE ?_
      refine hK20 _ ?_
      clear hK20 K20
      refine rEw ?_
      refine ⟨k + 1, lf ?_ ?_, ?_, ?_⟩
      ·
       try (simp [Fx.get F])
       all_goals (
        first
        | done
        | omega
        | (rw [if_pos hng3] at qms; omega)
        | (rw [if_neg hng3] at qms; omega)
        | (rw [if_pos hng3] at qms; refine ⟨?_, ?_⟩ <;> omega)
        | (rw [if_neg hng3] at qms; refine ⟨?_, ?_⟩ <;> omega)
        | (rw [if_pos hng3] at qms; simp [qms]; done)
        | (rw [if_neg hng3] at qms; simp [qms]; done)
       )
      ·
       try (simp [Fx.get F])
       all_goals (
        first | (rw [qnx]; done) | done | exact ⟨rfl, rfl⟩ | rfl
       )
      ·
       omega
      ·
       first | done | omega | exact ⟨rfl, rfl⟩ | rfl
     ·
      try simp at hc13
      replace F := F.add hc13
      refine W.exit ?_
      refine hK18 _ ?_
      clear hK19 K19 hK18 K18
      refine rK [4, 5, 10, 16, 21] ?_
      refine W.seqk fun K22 hK22 => ?_
      refine rK [4, 5, 10, 16, 21, 22] ?_
      refine W.block ?_
      have hkA2 : k = A.length := by omega
      have qW2 : nowN l.stalls.length X A k = NW := by rw [hkA2]; exact qWn
      have hNt : List.take l.stalls.length NW = NW := List.take_of_length_le (by rw [← qW2, nowN_len]; exact Nat.le_refl _)
      have hW2 : nowN l.stalls.length X A A.length = NW := qWn
      have hWl : NW.length = l.stalls.length := by rw [← qW2]; exact nowN_len _ _ _ _
      replace F := F.add hkA2 |>.add hNt |>.add hW2 |>.add hWl
      refine lp (α := Nat) [4, 5, 10, 16] [173] [] (fun j => [(22, I j), (21, I (manyN NW j))]) (fun j => []) (fun j => j ≤ l.stalls.length) (fun j => l.stalls.length - j) 0 ?_ ?_ ?_ ?_
      ·
       try (simp [Fx.get F])
       all_goals (
        first | done | omega | exact ⟨rfl, rfl⟩ | rfl
       )
      ·
       try (simp [Fx.get F])
       all_goals (
        first | (rw [qw0]; done) | done | exact ⟨rfl, rfl⟩ | rfl
       )
      ·
       omega
      ·
       intro j hI2
       simp only [List.cons_append, List.nil_append]
       try dsimp only at hI2
       replace F := F.add hI2
       refine W.seqk fun K23 hK23 => ?_
       refine rK [4, 5, 10, 16, 21, 22, 174] ?_
       refine it (fun hc15 => ?_) (fun hc15 => ?_)
       ·
        try simp at hc15
        replace F := F.add hc15
        refine W.skip ?_
        refine hK23 _ ?_
        clear hK23 K23
        refine W.seqk fun K24 hK24 => ?_
        refine W.block ?_
        refine W.seqk fun K25 hK25 => ?_
        have hjh : j < l.stalls.length := by omega
        have hjW : j < NW.length := by omega
        have hjh2 : j < h.length := by omega
        have qms := manyN_succ NW j
        have qml := manyN_le NW j
        rw [nth_get hjW] at qms
        have qiff := qni j hjh2
        rw [nth_get hjW, nth_get hjh2] at qiff
        replace F := F.add hjh |>.add hjW |>.add hjh2
        by_cases hneg : NW[j] < 0
        ·
         replace F := F.add hneg
         have hng2 : h[j] < 0 := qiff.1 hneg
         have hng3 : ¬ 0 ≤ NW[j] := by omega
         replace F := F.add hng2 |>.add hng3
         refine wD 10 [] [[], [], [1, 0], [0, 1, 2], [2, 1, 0, 3], [], [], [6, 5], [5, 6, 7], [7, 6, 5, 8], [8, 5, 6, 7, 9, 3, 0, 1, 2, 4]] ?_
         refine dB [([178, 182, 183, 184, 185, 186], [], []), ([177, 182, 183, 184, 185, 186], [false], []), ([182, 183, 184, 185, 186], [true, true], []), ([182, 183, 184, 185, 186], [true, true, true], []), ([182, 183, 184, 185, 186], [true, true, true, true], []), ([177, 178, 179, 180, 181, 183], [false, false, false, false, false], []), ([177, 178, 179, 180, 181, 182], [false, false, false, false, false, false], []), ([177, 178, 179, 180, 181], [false, false, false, false, false, true, true], []), ([177, 178, 179, 180, 181], [false, false, false, false, false, true, true, true], []), ([177, 178, 179, 180, 181], [false, false, false, false, false, true, true, true, true], [])] 0 10 ?_
         refine dD ?_
         refine oN 1 ?_
         refine oK [4, 5, 10, 16, 21, 22, 187] ?_
         refine cF ?_
         refine W.skip ?_
         refine hK25 _ ?_
         clear hK25 K25
         refine rK [4, 5, 10, 16, 21, 22, 192] ?_
         refine cF ?_
         refine W.skip ?_
         refine hK24 _ ?_
         clear hK24 K24
         refine rEw ?_
         refine ⟨j + 1, lf ?_ ?_, ?_, ?_⟩
         ·
          try (simp [Fx.get F])
          all_goals (
           (rw [if_neg hng3] at qms; omega)
          )
         ·
          try (simp [Fx.get F])
          all_goals (
           first | (rw [qnx]; done) | done | exact ⟨rfl, rfl⟩ | rfl
          )
         ·
          omega
         ·
          first | done | omega | exact ⟨rfl, rfl⟩ | rfl
        ·
         replace F := F.add hneg
         have hng2 : ¬ h[j] < 0 := fun q => hneg (qiff.2 q)
         have hng3 : 0 ≤ NW[j] := by omega
         replace F := F.add hng2 |>.add hng3
         refine wD 10 [] [[], [], [1, 0], [0, 1, 2], [2, 1, 0, 3], [], [], [6, 5], [5, 6, 7], [7, 6, 5, 8], [8, 5, 6, 7, 9, 3, 0, 1, 2, 4]] ?_
         refine dB [([178, 182, 183, 184, 185, 186], [], []), ([177, 182, 183, 184, 185, 186], [false], []), ([182, 183, 184, 185, 186], [true, true], []), ([182, 183, 184, 185, 186], [true, true, true], []), ([182, 183, 184, 185, 186], [true, true, true, true], []), ([177, 178, 179, 180, 181, 183], [false, false, false, false, false], []), ([177, 178, 179, 180, 181, 182], [false, false, false, false, false, false], []), ([177, 178, 179, 180, 181], [false, false, false, false, false, true, true], []), ([177, 178, 179, 180, 181], [false, false, false, false, false, true, true, true], []), ([177, 178, 179, 180, 181], [false, false, false, false, false, true, true, true, true], [])] 0 10 ?_
         refine dD ?_
         refine oN 1 ?_
         refine oK [4, 5, 10, 16, 21, 22, 187] ?_
         refine cF ?_
         refine W.skip ?_
         refine hK25 _ ?_
         clear hK25 K25
         refine rK [4, 5, 10, 16, 21, 22, 192] ?_
         refine cT ?_
         refine rEw ?_
         refine hK24 _ ?_
         clear hK24 K24
         refine rEw ?_
         refine ⟨j + 1, lf ?_ ?_, ?_, ?_⟩
         ·
          try (simp [Fx.get F])
          all_goals (
           (rw [if_pos hng3] at qms; omega)
          )
         ·
          try (simp [Fx.get F])
          all_goals (
           first | (rw [qnx]; done) | done | exact ⟨rfl, rfl⟩ | rfl
          )
         ·
          omega
         ·
          first | done | omega | exact ⟨rfl, rfl⟩ | rfl
       ·
        try simp at hc15
        replace F := F.add hc15
        refine W.exit ?_
        refine hK22 _ ?_
        clear hK23 K23 hK22 K22
        have hje : j = l.stalls.length := by omega
        have hmn : manyN NW l.stalls.length = A.length := by rw [← hhl]; exact qnm
        have hcw : checkH l NW = 0 := checkH_zero.2 ⟨hv, qno⟩
        replace F := F.add hje |>.add hmn |>.add hcw
        refine W.seqR ?_
        refine oN 5 ?_
        refine gT ?_
        refine gT ?_
        refine gC [] ?_
        refine ct (CheckHolders_ok l NW) ?_
        refine gT ?_
        refine oN 2 ?_
        refine gC [] ?_
        refine ct (W6.awake_ok) ?_
        refine oN 2 ?_
        refine oK [2] ?_
        refine W.ret ?_
        refine er false [] [] ?_
        first | done | omega | exact ⟨rfl, rfl⟩ | rfl
end Go.Sim
