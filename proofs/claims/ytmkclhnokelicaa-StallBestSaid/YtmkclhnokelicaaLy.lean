/- No fair holders are better for anybody: the law answers true. -/
import Derived.Test.YtmkclhnokelicaaLu
import Derived.Test.YtmkclhnokelicaaLw
import Derived.Test.YtmkclhnokelicaaPn
namespace Go.Sim
open Go.Proofs
set_option maxRecDepth 100000
set_option linter.unusedSimpArgs false
set_option linter.unusedVariables false
attribute [-simp] List.map_set List.map_take List.map_drop
set_option maxHeartbeats 4000000 in
theorem StallBest_ok (nums : List Int) : ACalls Try.prog 5 [ints nums] [] (fun r o => r = B true ∧ o = []) := by
 have F := Fx.nil
 refine ent Try.func5 Try.ntmps5 Try.results5 ?_
 refine rK [0] ?_
 refine W.seqR ?_
 refine oN 1 ?_
 refine oC [] ?_
 refine ct (DieOf_ok _) ?_
 refine oC [(10000, 136)] ?_
 refine CallT.mkE (LettingOf_ok _ 4 4 (by omega) (by omega) (by omega)) (fun z18 hz18 => ⟨(by simp), ?_⟩)
 obtain ⟨l, fd⟩ := z18
 have qmade : MadeL l 4 4 := hz18
 have hv : ValidL l := qmade.ok
 have h8 := hv.a8
 have hs8 := hv.s8
 replace F := F.add hv |>.add h8 |>.add hs8
 refine WOps.norm (by simp [hv, h8, hs8]; rfl) ?_
 refine oN 2 ?_
 refine oK [3] ?_
 refine W.seqR ?_
 refine fz 144 ?_
 refine fz 145 ?_
 refine oN 1 ?_
 refine oC [] ?_
 refine CallT.mkE (Let_ok l hv) (fun z21 hz21 => ⟨(by simp [hv, h8, hs8]), ?_⟩)
 have hk : HoldOk l z21 := hz21.hold
 have hkl := hk.len
 replace F := F.add hk |>.add hkl
 refine WOps.norm (by simp [hv, h8, hs8, hk, hkl]; rfl) ?_
 refine oN 5 ?_
 refine oK [3, 4, 5] ?_
 refine W.seqk fun K1 hK1 => ?_
 refine W.seqR ?_
 refine oN 3 ?_
 refine gT ?_
 refine gT ?_
 refine gT ?_
 refine gT ?_
 refine gT ?_
 refine gT ?_
 refine oN 1 ?_
 refine oK [3, 4, 33] ?_
 refine cF ?_
 refine W.skip ?_
 refine hK1 _ ?_
 clear hK1 K1
 refine W.seqR ?_
 refine oN 1 ?_
 refine oC [] ?_
 refine CallT.mk (All_ok l hv l.stalls.length [] (by simp)) (by simp [hv, h8, hs8, hk, hkl]) ?_
 obtain ⟨A, qA⟩ : ∃ A, A = allL l l.stalls.length [] := ⟨_, rfl⟩
 have hA := qA.symm
 have qmem : ∀ h, h ∈ A ↔ HoldOk l h := fun h => by rw [qA]; exact mem_all
 have qlen : A.length ≤ 43046721 := by rw [qA]; exact Nat.le_trans (allL_many h8 _ _) (Nat.pow_le_pow_right (n := 9) (by omega) hs8)
 replace F := F.add hA
 refine WOps.norm (by simp [hv, h8, hs8, hk, hkl, hA]; rfl) ?_
 refine oN 1 ?_
 refine oK [3, 4, 6] ?_
 refine rK [3, 4, 6, 7] ?_
 refine W.seqk fun K2 hK2 => ?_
 refine rK [3, 4, 6, 7, 8] ?_
 refine W.block ?_
 refine lpa (α := Nat) [3, 4, 6] [38, 48, 54, 63, 68, 75, 82, 89, 104] [] (fun i => [(8, I i), (7, B (decide (z21 ∈ A.take i)))]) (fun i => []) (fun i => i ≤ A.length) (fun i => A.length - i) 0 v0 ?_
 ·
  intro i hI0
  simp only [List.cons_append, List.nil_append]
  try dsimp only at hI0
  replace F := F.add hI0
  refine W.seqk fun K3 hK3 => ?_
  refine rK [3, 4, 6, 7, 8, 39] ?_
  refine it (fun hc2 => ?_) (fun hc2 => ?_)
  ·
   try simp at hc2
   replace F := F.add hc2
   refine W.skip ?_
   refine hK3 _ ?_
   clear hK3 K3
   refine W.seqk fun K4 hK4 => ?_
   refine W.block ?_
   have hiA : i < A.length := by omega
   have qk : HoldOk l A[i] := (qmem _).1 (List.getElem_mem hiA)
   have hkl2 := qk.len
   replace F := F.add hiA |>.add hkl2
   refine wD 10 [] [[], [], [], [2, 1], [1, 2, 3], [3, 2, 1, 4, 0], [0, 4, 1, 2, 3, 5], [5, 3, 2, 1, 4, 0, 6], [5, 3, 2, 1, 4, 0, 6], [6, 0, 4, 1, 2, 3, 5, 7], [7, 9, 6, 0, 4, 1, 2, 3, 5, 8]] ?_
   refine dN 5 5 ?_
   refine dC [] ?_
   refine cd (Envies_ok l hv A[i] qk) ?_
   refine dN 4 0 ?_
   refine dD ?_
   refine oN 1 ?_
   refine oK [3, 4, 6, 7, 8, 9, 10] ?_
   refine W.seqk fun K5 hK5 => ?_
   refine rK [3, 4, 6, 7, 8, 9, 52] ?_
   refine cF ?_
   refine W.skip ?_
   refine hK5 _ ?_
   clear hK5 K5
   refine W.seqk fun K6 hK6 => ?_
   by_cases hen : envL l A[i] = []
   ·
    replace F := F.add hen
    have qfair := fair_all hv hz21 qk hen
    refine rK [3, 4, 6, 7, 8, 55] ?_
    refine cF ?_
    refine W.skip ?_
    refine hK6 _ ?_
    clear hK6 K6
    refine W.seqR ?_
    refine oN 2 ?_
    refine gX ?_
    refine gX ?_
    refine gX ?_
    refine gX ?_
    refine gX ?_
    refine gXc ?_
    refine cx (fun hg => by (try simp at hg); exact SameInts_ok _ _) ?_
    refine oN 2 ?_
    refine oK [3, 4, 6, 7, 8] ?_
    refine W.seqk fun K7 hK7 => ?_
    refine rK [3, 4, 6, 7, 8, 11] ?_
    refine W.block ?_
    refine lpa (α := Nat) [3, 4, 6, 7, 8] [68, 75, 82, 89] [] (fun a => [(11, I a)]) (fun a => []) (fun a => a ≤ l.apps.length) (fun a => l.apps.length - a) 0 v0 ?_
    ·
     intro a hI1
     simp only [List.cons_append, List.nil_append]
     try dsimp only at hI1
     replace F := F.add hI1
     refine W.seqk fun K8 hK8 => ?_
     refine rK [3, 4, 6, 7, 8, 11, 69] ?_
     refine it (fun hc5 => ?_) (fun hc5 => ?_)
     ·
      try simp at hc5
      replace F := F.add hc5
      refine W.skip ?_
      refine hK8 _ ?_
      clear hK8 K8
      refine W.seqk fun K9 hK9 => ?_
      refine W.block ?_
      have ha : a < l.apps.length := by omega
      have qp := qfair.1 a ha
      rw [nth_get ha] at qp
      have hp1 : ¬ placeL l A[i] a < placeL l z21 a := Nat.not_lt.2 qp.1
      replace F := F.add ha |>.add hp1
      refine wD 10 [] [[], [], [], [2, 1, 0], [], [], [], [6, 5], [5, 6, 7], [], [0, 1, 2, 3, 9, 7, 6, 5, 8, 4], [4, 8, 5, 6, 7, 9, 10, 0, 1, 2, 3], [11, 4, 8, 5, 6, 7, 9, 3, 2, 1, 0, 10]] ?_
      refine dN 3 7 ?_
      refine dC [] ?_
      refine cd (Place_ok l z21 a ha) ?_
      refine dN 6 0 ?_
      refine dD ?_
      refine oC [] ?_
      refine ct (Place_ok l A[i] a ha) ?_
      refine oN 2 ?_
      refine oK [3, 4, 6, 7, 8, 11, 12, 13] ?_
      refine rK [3, 4, 6, 7, 8, 11, 12, 13, 14] ?_
      by_cases hq1 : placeL l z21 a = l.apps[a].wishes.length
      ·
       replace F := F.add hq1
       have hq2 : placeL l A[i] a = l.apps[a].wishes.length := qp.2.1 hq1
       have hb1 : (((placeL l z21 a : Nat) : Int) == (l.apps[a].wishes.length : Int)) = true := by simp [hq1]
       have hb2 : (((placeL l A[i] a : Nat) : Int) == (l.apps[a].wishes.length : Int)) = true := by simp [hq2]
       replace F := F.add hq2 |>.add hb1 |>.add hb2
       refine W.seqR ?_
       refine oN 4 ?_
       refine gT ?_
       refine gT ?_
       refine gT ?_
       refine gT ?_
       refine gT ?_
       refine gT ?_
       refine gT ?_
       refine oN 1 ?_
       refine oK [3, 4, 6, 7, 8, 11, 101] ?_
       refine cF ?_
       refine W.skip ?_
       refine hK9 _ ?_
       clear hK9 K9
       refine rEw ?_
       refine ⟨a + 1, lf0, v0, v0⟩
      ·
       replace F := F.add hq1
       have hq2 : ¬ placeL l A[i] a = l.apps[a].wishes.length := fun e => hq1 (qp.2.2 e)
       have hb1 : (((placeL l z21 a : Nat) : Int) == (l.apps[a].wishes.length : Int)) = false := by rw [beq_eq_false_iff_ne]; omega
       have hb2 : (((placeL l A[i] a : Nat) : Int) == (l.apps[a].wishes.length : Int)) = false := by rw [beq_eq_false_iff_ne]; omega
       replace F := F.add hq2 |>.add hb1 |>.add hb2
       refine W.seqR ?_
       refine oN 4 ?_
       refine gT ?_
       refine gT ?_
       refine gT ?_
       refine gT ?_
       refine gT ?_
       refine gT ?_
       refine gT ?_
       refine oN 1 ?_
       refine oK [3, 4, 6, 7, 8, 11, 101] ?_
       refine cF ?_
       refine W.skip ?_
       refine hK9 _ ?_
       clear hK9 K9
       refine rEw ?_
       refine ⟨a + 1, lf0, v0, v0⟩
     ·
      try simp at hc5
      replace F := F.add hc5
      refine W.exit ?_
      refine hK7 _ ?_
      clear hK8 K8 hK7 K7
      refine rK [3, 4, 6, 7, 8, 15] ?_
      refine W.block ?_
      refine lpa (α := Nat) [3, 4, 6, 7, 8] [104] [] (fun k => [(15, I k)]) (fun k => []) (fun k => k ≤ z21.length) (fun k => z21.length - k) 0 v0 ?_
      ·
       intro k hI2
       simp only [List.cons_append, List.nil_append]
       try dsimp only at hI2
       replace F := F.add hI2
       refine W.seqk fun K10 hK10 => ?_
       refine rK [3, 4, 6, 7, 8, 15, 105] ?_
       refine it (fun hc8 => ?_) (fun hc8 => ?_)
       ·
        try simp at hc8
        replace F := F.add hc8
        refine W.skip ?_
        refine hK10 _ ?_
        clear hK10 K10
        refine W.seqk fun K11 hK11 => ?_
        refine W.block ?_
        by_cases hng : z21[k] < 0
        ·
         replace F := F.add hng
         have hkz : k < z21.length := by omega
         have hkA : k < A[i].length := by omega
         have hng2 : A[i][k] < 0 := (qfair.2 k hkz hkA).1 hng
         replace F := F.add hkz |>.add hkA |>.add hng2
         refine wD 13 [] [[], [], [1, 0], [0, 1, 2], [2, 1, 0, 3], [], [], [6, 5], [5, 6, 7], [], [9, 7, 6, 5, 8], [8, 5, 6, 7, 9, 10], [10, 9, 7, 6, 5, 8, 11], [11, 8, 5, 6, 7, 9, 10, 12, 3, 0, 1, 2, 4]] ?_
         refine dN 13 0 ?_
         refine dD ?_
         refine oN 1 ?_
         refine oK [3, 4, 6, 7, 8, 15, 121] ?_
         refine cF ?_
         refine W.skip ?_
         refine hK11 _ ?_
         clear hK11 K11
         refine rEw ?_
         refine ⟨k + 1, lf0, v0, v0⟩
        ·
         replace F := F.add hng
         have hkz : k < z21.length := by omega
         have hkA : k < A[i].length := by omega
         have hng2 : ¬ A[i][k] < 0 := fun e => hng ((qfair.2 k hkz hkA).2 e)
         replace F := F.add hkz |>.add hkA |>.add hng2
         refine wD 13 [] [[], [], [1, 0], [0, 1, 2], [2, 1, 0, 3], [], [], [6, 5], [5, 6, 7], [], [9, 7, 6, 5, 8], [8, 5, 6, 7, 9, 10], [10, 9, 7, 6, 5, 8, 11], [11, 8, 5, 6, 7, 9, 10, 12, 3, 0, 1, 2, 4]] ?_
         refine dN 13 0 ?_
         refine dD ?_
         refine oN 1 ?_
         refine oK [3, 4, 6, 7, 8, 15, 121] ?_
         refine cF ?_
         refine W.skip ?_
         refine hK11 _ ?_
         clear hK11 K11
         refine rEw ?_
         refine ⟨k + 1, lf0, v0, v0⟩
       ·
        try simp at hc8
        replace F := F.add hc8
        refine W.exit ?_
        refine hK4 _ ?_
        clear hK10 K10 hK4 K4
        refine rEw ?_
        refine ⟨i + 1, lf ?_ ?_, v0, v0⟩
        ·
         try (simp [Fx.get F])
         all_goals (
          have e : (z21 ∈ List.take (i + 1) A) ↔ (z21 ∈ List.take i A ∨ z21 = A[i]) := by rw [List.take_succ_eq_append_getElem hiA]; simp only [List.mem_append, List.mem_singleton]
          have e2 : decide (z21 ∈ List.take (i + 1) A) = decide (z21 ∈ List.take i A ∨ z21 = A[i]) := decide_eq_decide.2 e
          rw [e2]
          by_cases q : z21 ∈ List.take i A
          · simp [q]
          · simp [q, nth_get hiA, eq_comm]
         )
        ·
         exact v1
   ·
    replace F := F.add hen
    have hep : 0 < (envL l A[i]).length := List.length_pos_iff.2 hen
    have hnz : A[i] ≠ z21 := fun e => hen (by rw [e]; exact hz21.envy)
    replace F := F.add hep |>.add hnz
    refine rK [3, 4, 6, 7, 8, 55] ?_
    refine cT ?_
    refine W.exit ?_
    refine hK4 _ ?_
    clear hK6 K6 hK4 K4
    refine rEw ?_
    refine ⟨i + 1, lf ?_ ?_, v0, v0⟩
    ·
     try (simp [Fx.get F])
     all_goals (
      rw [List.take_succ_eq_append_getElem hiA]; simp only [List.mem_append, List.mem_singleton, Ne.symm hnz, or_false]
     )
    ·
     exact v1
  ·
   try simp at hc2
   replace F := F.add hc2
   refine W.exit ?_
   refine hK2 _ ?_
   clear hK3 K3 hK2 K2
   have hie : i = A.length := by omega
   have hzA : z21 ∈ A.take A.length := by rw [List.take_length]; exact (qmem _).2 hk
   replace F := F.add hie |>.add hzA
   refine W.seqR ?_
   refine oN 2 ?_
   refine gXc ?_
   refine cx (fun hg => by (try simp at hg); exact awake_ok) ?_
   refine oN 2 ?_
   refine oK [2] ?_
   refine W.ret ?_
   exact er0 false [] []
end Go.Sim
