/- The letting, by the reference. -/
import Derived.Test.YticllllmgpjbcaaLj
import Derived.Test.YticllllmgpjbcaaPe
namespace Go.Sim
open Go.Proofs
set_option maxRecDepth 100000
set_option linter.unusedSimpArgs false
set_option linter.unusedVariables false
attribute [-simp] List.map_set List.map_take List.map_drop
set_option maxHeartbeats 4000000 in
theorem rLet_ok (l : Lett) (hv : ValidL l) : ACalls Try.prog 21 [letV l] [] (fun r o => ∃ g, r = .tup [ints g, I 0] ∧ o = [] ∧ BestL l g) := by
 have F := Fx.nil
 refine ent Try.func21 Try.ntmps21 Try.results21 ?_
 have h8 := hv.a8
 have hs8 := hv.s8
 have hck : checkL l = 0 := checkL_zero.2 hv
 have hmk : (l.apps.length : Int) ≤ 16777216 := by omega
 have hmk2 : (l.stalls.length : Int) ≤ 16777216 := by omega
 replace F := F.add h8 |>.add hs8 |>.add hck |>.add hmk |>.add hmk2
 refine rK [1] ?_
 refine W.seqk fun K1 hK1 => ?_
 refine W.seqR ?_
 refine oN 1 ?_
 refine oC [] ?_
 refine ct (rCheck_ok _) ?_
 refine oN 1 ?_
 refine oK [1, 4] ?_
 refine rK [1, 4, 15] ?_
 refine cF ?_
 refine W.skip ?_
 refine hK1 _ ?_
 clear hK1 K1
 refine rK [1, 5] ?_
 refine W.seqk fun K2 hK2 => ?_
 refine rK [1, 5, 6] ?_
 refine W.block ?_
 refine lpa (α := Nat × List Int) [1, 5] [23] [160] (fun x => [(6, I x.1)]) (fun x => [(160, .row true 3 1 (x.2.map I))]) (fun x => x.1 ≤ l.stalls.length ∧ x.2.length = l.stalls.length ∧ x.2.take x.1 = List.replicate x.1 (-1)) (fun x => l.stalls.length - x.1) (0, List.replicate l.stalls.length 0) v0 ?_
 ·
  intro ⟨i, z⟩ hI0
  simp only [List.cons_append, List.nil_append]
  try dsimp only at hI0
  obtain ⟨hi, hzl, hzt⟩ := hI0
  replace F := F.add hi |>.add hzl
  refine W.seqk fun K3 hK3 => ?_
  refine rK [1, 5, 6, 24] ?_
  refine it (fun hc2 => ?_) (fun hc2 => ?_)
  ·
   try simp at hc2
   replace F := F.add hc2
   refine W.skip ?_
   refine hK3 _ ?_
   clear hK3 K3
   refine W.seqk fun K4 hK4 => ?_
   refine W.block ?_
   refine rE ?_
   refine hK4 _ ?_
   clear hK4 K4
   refine rEw ?_
   refine ⟨(i + 1, z.set i (-1)), lf0, ?_, v0⟩
   ·
    refine ⟨by show i + 1 ≤ _; omega, by simpa using hzl, ?_⟩
    show (z.set i (-1)).take (i + 1) = List.replicate (i + 1) (-1)
    have h5 : i < (z.set i (-1)).length := by rw [List.length_set]; omega
    rw [List.take_succ_eq_append_getElem h5, List.take_set, List.set_eq_of_length_le (by rw [List.length_take]; omega), hzt, List.getElem_set_self, List.replicate_succ']
  ·
   try simp at hc2
   replace F := F.add hc2
   refine W.exit ?_
   refine hK2 _ ?_
   clear hK3 K3 hK2 K2
   refine rK [1, 5, 7] ?_
   refine W.seqk fun K5 hK5 => ?_
   refine rK [1, 5, 7, 8] ?_
   refine W.block ?_
   have hz : z = List.replicate l.stalls.length (-1) := by
     have e : i = l.stalls.length := by omega
     rw [e, List.take_of_length_le (by omega)] at hzt
     exact hzt
   replace F := F.add hz
   refine lpa (α := Nat × List Int × List Int) [1, 5, 7] [36, 54, 72, 88] [160, 264] (fun x => [(8, I x.1)]) (fun x => [(160, .row true 3 1 (x.2.1.map I)), (264, .row true 3 1 (x.2.2.map I))]) (fun x => RAsk l x.2.1 x.2.2 x.1 (-1)) (fun x => l.apps.length - x.1) (0, z, List.replicate l.apps.length 0) ?_ ?_
   ·
    show RAsk l z (List.replicate l.apps.length 0) 0 (-1)
    rw [hz]
    exact RAsk.init l
   ·
    intro ⟨j, g0, nx0⟩ hI1
    simp only [List.cons_append, List.nil_append]
    try dsimp only at hI1
    have kO := hI1
    have hgl0 := kO.hl
    have hnl0 := kO.nl
    replace F := F.add hgl0 |>.add hnl0
    refine W.seqk fun K6 hK6 => ?_
    refine rK [1, 5, 7, 8, 37] ?_
    refine it (fun hc3 => ?_) (fun hc3 => ?_)
    ·
     try simp at hc3
     replace F := F.add hc3
     refine W.skip ?_
     refine hK6 _ ?_
     clear hK6 K6
     refine W.block ?_
     refine rK [1, 5, 7, 8, 9] ?_
     refine rKw [1, 5, 7, 8, 9] ?_
     refine W.block ?_
     refine lpa (α := Int × List Int × List Int) [1, 5, 7, 8] [54, 72, 88] [160, 264] (fun x => [(9, I x.1)]) (fun x => [(160, .row true 3 1 (x.2.1.map I)), (264, .row true 3 1 (x.2.2.map I))]) (fun x => RAsk l x.2.1 x.2.2 (j + 1) x.1) (fun x => restOf l x.2.2 + if 0 ≤ x.1 then 1 else 0) ((j : Int), g0, nx0) ?_ ?_
     ·
      exact kO.next (by omega)
     ·
      intro ⟨c, g, nx⟩ hI2
      simp only [List.cons_append, List.nil_append]
      try dsimp only at hI2
      have kR := hI2
      have hgl := kR.hl
      have hnl := kR.nl
      replace F := F.add hgl |>.add hnl
      refine W.seqk fun K7 hK7 => ?_
      by_cases hc0 : 0 ≤ c
      ·
       replace F := F.add hc0
       obtain ⟨a, rfl⟩ : ∃ a : Nat, c = (a : Int) := ⟨c.toNat, by omega⟩
       have ha := kR.free.1
       have hanx := kR.free.2.1
       obtain ⟨v, qv⟩ : ∃ v : Nat, nx[a] = (v : Int) := ⟨(nth nx a).toNat, by have := kR.nr a ha; rw [nth_get hanx] at this ⊢; omega⟩
       have hva := qv
       have qnv : nth nx a = (v : Int) := by rw [nth_get hanx]; exact qv
       replace F := F.add ha |>.add hanx |>.add hva
       refine wD 14 [] [[], [0], [0, 1], [1, 0, 2], [1, 0, 2], [4, 2, 0, 1, 3], [3, 1, 0, 2, 4, 5], [1, 0, 2], [2, 0, 1, 7], [1, 0, 2], [9, 7, 1, 0, 2, 8], [8, 2, 0, 1, 7, 9, 10], [10, 9, 7, 1, 0, 2, 8, 11], [11, 8, 2, 0, 1, 7, 9, 10, 12], [12, 10, 9, 7, 8, 11, 13, 5, 4, 2, 0, 1, 3, 6], [6, 3, 4, 5, 13, 11, 8, 7, 9, 10, 12, 14, 1, 0, 2]] ?_
       refine dB [([], [], []), ([], [true], []), ([], [true, true], [])] 11 3 ?_
       refine dT [45, 48, 49, 50, 51, 52, 53, 54] [true, true, true] [] ?_
       refine dT [44, 48, 49, 50, 51, 52, 53, 54] [true, true, true, false] [] ?_
       refine dT [48, 49, 50, 51, 52, 53, 54] [true, true, true, true, true] [] ?_
       refine dT [48, 49, 50, 51, 52, 53, 54] [true, true, true, true, true, true] [] ?_
       refine dT [44, 45, 46, 47, 50] [true, true, true, false, false, false, false] [] ?_
       refine dT [44, 45, 46, 47, 50] [true, true, true, false, false, false, false, true] [] ?_
       refine dT [44, 45, 46, 47, 48, 49] [true, true, true, false, false, false, false, false, false] [] ?_
       refine dT [44, 45, 46, 47] [true, true, true, false, false, false, false, true, true, true] [] ?_
       refine dT [44, 45, 46, 47] [true, true, true, false, false, false, false, true, true, true, true] [] ?_
       refine dT [44, 45, 46, 47] [true, true, true, false, false, false, false, true, true, true, true, true] [] ?_
       refine dT [44, 45, 46, 47] [true, true, true, false, false, false, false, true, true, true, true, true, true] [] ?_
       refine dD ?_
       refine gT ?_
       refine oN 1 ?_
       refine oK [1, 5, 7, 8, 9, 56] ?_
       refine it (fun hc4 => ?_) (fun hc4 => ?_)
       ·
        try simp at hc4
        replace F := F.add hc4
        refine W.skip ?_
        refine hK7 _ ?_
        clear hK7 K7
        refine W.block ?_
        have hvl : v < l.apps[a].wishes.length := by omega
        have qna : nth l.apps a = l.apps[a] := nth_get ha
        have qap := hv.ap _ (List.getElem_mem ha)
        have hw8 : l.apps[a].wishes.length ≤ 8 := Nat.le_trans qap.wlen hs8
        obtain ⟨s, qs⟩ : ∃ s : Nat, l.apps[a].wishes[v] = (s : Int) := ⟨l.apps[a].wishes[v].toNat, by have := qap.wish _ (List.getElem_mem hvl); omega⟩
        have hws := qs
        have hs : s < l.stalls.length := by have := (qap.wish _ (List.getElem_mem hvl)).2; omega
        have hsg : s < g.length := by omega
        have qpass : (canS l.stalls l.apps[a] s = true → ∃ b, holdL g s = some b ∧ aheadB l s b a = true) → RAsk l g (nx.set a ((v + 1 : Nat) : Int)) (j + 1) (a : Int) := fun h => kR.pass hv qnv (by rw [qna]; exact hvl) hs (by simp only [qna]; exact qs) (by rw [qna]; exact h)
        have qrest : restOf l (nx.set a ((v + 1 : Nat) : Int)) < restOf l nx := restOf_lt hanx ha (by rw [qnv, Int.toNat_natCast]; omega) (by rw [qna]; omega)
        replace F := F.add hvl |>.add hw8 |>.add hws |>.add hs |>.add hsg
        refine wD 10 [] [[], [0], [], [2, 0, 1], [1, 0, 2, 3], [3, 2, 0, 1, 4], [], [], [7, 6], [6, 7, 8], [8, 7, 6, 9, 4, 1, 0, 2, 3, 5], [5, 3, 2, 0, 1, 4, 9, 6, 7, 8, 10], [10, 8, 7, 6, 9, 4, 1, 0, 2, 3, 5, 11]] ?_
        refine dB [([59, 63, 64, 65, 66], [], []), ([59, 63, 64, 65, 66], [true], []), ([57, 58, 63, 64, 65, 66], [false, false], []), ([63, 64, 65, 66], [true, true, true], []), ([63, 64, 65, 66], [true, true, true, true], []), ([63, 64, 65, 66], [true, true, true, true, true], []), ([57, 58, 59, 60, 61, 62, 64], [false, false, false, false, false, false], []), ([57, 58, 59, 60, 61, 62, 63], [false, false, false, false, false, false, false], []), ([57, 58, 59, 60, 61, 62], [false, false, false, false, false, false, true, true], []), ([57, 58, 59, 60, 61, 62], [false, false, false, false, false, false, true, true, true], [])] 0 10 ?_
        refine dD ?_
        refine oN 3 ?_
        refine oK [1, 5, 7, 8, 9, 10] ?_
        refine W.seqk fun K8 hK8 => ?_
        by_cases hcan : canS l.stalls l.apps[a] s = true
        ·
         replace F := F.add hcan
         by_cases hx : 0 ≤ g[s]
         ·
          replace F := F.add hx
          obtain ⟨b, qb⟩ : ∃ b : Nat, g[s] = (b : Int) := ⟨g[s].toNat, by omega⟩
          have hgb := qb
          have qhb : holdL g s = some b := holdL_some.2 ⟨hsg, qb⟩
          have qok := kR.da.valid.ok s b qhb
          have hbl : b < l.apps.length := qok.2.1
          have hbx : b < nx.length := by omega
          have qcb : canS l.stalls l.apps[b] s = true := by rw [← nth_get hbl]; exact qok.2.2
          obtain ⟨u, qu⟩ : ∃ u : Nat, nx[b] = (u : Int) := ⟨(nth nx b).toNat, by have := kR.nr b hbl; rw [nth_get hbx] at this ⊢; omega⟩
          have hnu := qu
          have hu8 : u ≤ 8 := by
            have q1 := (kR.nr b hbl).2
            have q2 := (nth_app hv hbl).wlen
            rw [nth_get hbx, qu] at q1
            omega
          have qbump : aheadB l s b a = false → RAsk l (g.set s (a : Int)) (nx.set b ((u + 1 : Nat) : Int)) (j + 1) (b : Int) ∧ restOf l (nx.set b ((u + 1 : Nat) : Int)) < restOf l nx := fun h => by
            have q := kR.bump hv qnv (by rw [qna]; exact hvl) hs (by simp only [qna]; exact qs) (by rw [qna]; exact hcan) (by rw [nth_get hsg]; exact qb) h (by rw [nth_get hbx]; exact qu)
            exact ⟨q.1, restOf_lt hbx hbl (by rw [nth_get hbx, qu, Int.toNat_natCast]; omega) (by have := q.2.1; omega)⟩
          replace F := F.add hgb |>.add hbl |>.add hbx |>.add hnu |>.add hu8
          refine wD 19 [] [[], [], [], [2, 1, 0], [0, 1, 2, 3], [3, 2, 1, 0, 4], [4, 0, 1, 2, 3, 5], [4, 0, 1, 2, 3, 5], [7, 5, 3, 2, 1, 0, 4, 6], [6, 4, 0, 1, 2, 3, 5, 7, 8], [8, 7, 5, 3, 2, 1, 0, 4, 6, 9], [9, 6, 4, 0, 1, 2, 3, 5, 7, 8, 10], [10, 8, 7, 5, 3, 2, 1, 0, 4, 6, 9, 11], [10, 8, 7, 5, 3, 2, 1, 0, 4, 6, 9, 11], [10, 8, 7, 5, 3, 2, 1, 0, 4, 6, 9, 11], [10, 8, 7, 5, 3, 2, 1, 0, 4, 6, 9, 11], [15, 11, 9, 6, 4, 0, 1, 2, 3, 5, 7, 8, 10, 14], [14, 10, 8, 7, 5, 3, 2, 1, 0, 4, 6, 9, 11, 15, 16], [10, 8, 7, 5, 3, 2, 1, 0, 4, 6, 9, 11], [18, 16, 15, 14, 17, 13, 11, 9, 6, 4, 0, 1, 2, 3, 5, 7, 8, 10, 12], [12, 13, 17, 14, 15, 16, 18, 19, 10, 8, 7, 5, 3, 2, 1, 0, 4, 6, 9, 11], [11, 9, 6, 7, 8, 10, 19, 18, 16, 15, 14, 17, 13, 12, 20, 4, 0, 1, 2, 3, 5]] ?_
          refine dB [([70, 71], [], []), ([69, 71], [false], []), ([69, 70], [false, false], [])] 16 3 ?_
          refine dC [] [true, true, true] [] [] ?_
          refine cd (Can_ok l hv a s ha hs) ?_
          refine dB [([], [true, true, true, true], []), ([], [true, true, true, true, true], [])] 13 6 ?_
          refine dT [76] [true, true, true, true, true, true] [] ?_
          refine dT [75] [true, true, true, true, true, true, false] [] ?_
          refine dT [] [true, true, true, true, true, true, true, true] [] ?_
          refine dT [] [true, true, true, true, true, true, true, true, true] [] ?_
          refine dT [] [true, true, true, true, true, true, true, true, true, true] [] ?_
          refine dT [] [true, true, true, true, true, true, true, true, true, true, true] [] ?_
          refine dT [82, 83, 84, 85, 86, 87] [true, true, true, true, true, true, true, true, true, true, true, true] [] ?_
          refine dT [81, 83, 84, 85, 86, 87] [true, true, true, true, true, true, true, true, true, true, true, true, false] [] ?_
          refine dT [81, 82, 84, 87] [true, true, true, true, true, true, true, true, true, true, true, true, false, false] [] ?_
          refine dT [81, 82, 83, 87] [true, true, true, true, true, true, true, true, true, true, true, true, false, false, false] [] ?_
          refine dT [81, 82, 87] [true, true, true, true, true, true, true, true, true, true, true, true, false, false, true, true] [] ?_
          refine dT [81, 82, 87] [true, true, true, true, true, true, true, true, true, true, true, true, false, false, true, true, true] [] ?_
          refine dT [81, 82, 83, 84, 85, 86] [true, true, true, true, true, true, true, true, true, true, true, true, false, false, false, false, false, false] [] ?_
          refine dD ?_
          refine gC [] ?_
          refine ct (Ahead_ok l hv s b a hs hbl ha (fun _ => ⟨canS_mem qcb, canS_mem hcan⟩)) ?_
          refine gT ?_
          refine oN 1 ?_
          refine oK [1, 5, 7, 8, 9, 10, 90] ?_
          refine it (fun hc5 => ?_) (fun hc5 => ?_)
          ·
           try simp at hc5
           replace F := F.add hc5
           refine rKw [1, 5, 7, 8, 9] ?_
           refine W.exit ?_
           refine te (bs ?_)
           clear hK8 K8
           refine ⟨((a : Int), g, nx.set a ((v + 1 : Nat) : Int)), lf0, v0, v0⟩
          ·
           try simp at hc5
           replace F := F.add hc5
           refine W.skip ?_
           refine hK8 _ ?_
           clear hK8 K8
           refine rK [1, 5, 7, 8, 9, 10, 11] ?_
           refine rK [1, 5, 7, 8, 9] ?_
           refine rK [1, 5, 7, 8, 9, 107] ?_
           refine cT ?_
           refine rEw ?_
           refine bn ?_
           refine ⟨((b : Int), g.set s (a : Int), nx.set b ((u + 1 : Nat) : Int)), lf0, ?_, ?_⟩
           ·
            exact (qbump (by assumption)).1
           ·
            have q := (qbump (by assumption)).2
            show restOf l (nx.set b ((u + 1 : Nat) : Int)) + (if 0 ≤ (b : Int) then 1 else 0) < _
            rw [if_pos (by omega), if_pos (by omega)]
            omega
         ·
          replace F := F.add hx
          have hgm : g[s] = -1 := by have := kR.hr _ (List.getElem_mem hsg); omega
          replace F := F.add hgm
          refine wD 19 [] [[], [], [], [2, 1, 0], [0, 1, 2, 3], [3, 2, 1, 0, 4], [4, 0, 1, 2, 3, 5], [4, 0, 1, 2, 3, 5], [7, 5, 3, 2, 1, 0, 4, 6], [6, 4, 0, 1, 2, 3, 5, 7, 8], [8, 7, 5, 3, 2, 1, 0, 4, 6, 9], [9, 6, 4, 0, 1, 2, 3, 5, 7, 8, 10], [10, 8, 7, 5, 3, 2, 1, 0, 4, 6, 9, 11], [10, 8, 7, 5, 3, 2, 1, 0, 4, 6, 9, 11], [10, 8, 7, 5, 3, 2, 1, 0, 4, 6, 9, 11], [10, 8, 7, 5, 3, 2, 1, 0, 4, 6, 9, 11], [15, 11, 9, 6, 4, 0, 1, 2, 3, 5, 7, 8, 10, 14], [14, 10, 8, 7, 5, 3, 2, 1, 0, 4, 6, 9, 11, 15, 16], [10, 8, 7, 5, 3, 2, 1, 0, 4, 6, 9, 11], [18, 16, 15, 14, 17, 13, 11, 9, 6, 4, 0, 1, 2, 3, 5, 7, 8, 10, 12], [12, 13, 17, 14, 15, 16, 18, 19, 10, 8, 7, 5, 3, 2, 1, 0, 4, 6, 9, 11], [11, 9, 6, 7, 8, 10, 19, 18, 16, 15, 14, 17, 13, 12, 20, 4, 0, 1, 2, 3, 5]] ?_
          refine dB [([70, 71], [], []), ([69, 71], [false], []), ([69, 70], [false, false], [])] 16 3 ?_
          refine dC [] [true, true, true] [] [] ?_
          refine cd (Can_ok l hv a s ha hs) ?_
          refine dB [([], [true, true, true, true], []), ([], [true, true, true, true, true], [])] 13 6 ?_
          refine dT [76] [true, true, true, true, true, true] [] ?_
          refine dT [75] [true, true, true, true, true, true, false] [] ?_
          refine dT [] [true, true, true, true, true, true, true, true] [] ?_
          refine dT [] [true, true, true, true, true, true, true, true, true] [] ?_
          refine dT [] [true, true, true, true, true, true, true, true, true, true] [] ?_
          refine dT [] [true, true, true, true, true, true, true, true, true, true, true] [] ?_
          refine dF [some 81, some 82, some 83, some 84, some 85, some 86, some 87] 11 80 true 0 ?_
          refine dD ?_
          refine gF ?_
          refine gT ?_
          refine oN 1 ?_
          refine oK [1, 5, 7, 8, 9, 10, 90] ?_
          refine cF ?_
          refine W.skip ?_
          refine hK8 _ ?_
          clear hK8 K8
          refine rK [1, 5, 7, 8, 9, 10, 11] ?_
          refine rK [1, 5, 7, 8, 9] ?_
          refine rK [1, 5, 7, 8, 9, 107] ?_
          refine cF ?_
          refine W.skip ?_
          refine bn ?_
          refine ⟨(-1, g.set s (a : Int), nx), lf0, ?_, v0⟩
          ·
           exact kR.take hv qnv (by rw [qna]; exact hvl) hs (by simp only [qna]; exact qs) (by rw [qna]; exact hcan) (by rw [nth_get hsg]; exact hx)
        ·
         replace F := F.add hcan
         refine wD 19 [] [[], [], [], [2, 1, 0], [0, 1, 2, 3], [3, 2, 1, 0, 4], [4, 0, 1, 2, 3, 5], [4, 0, 1, 2, 3, 5], [7, 5, 3, 2, 1, 0, 4, 6], [6, 4, 0, 1, 2, 3, 5, 7, 8], [8, 7, 5, 3, 2, 1, 0, 4, 6, 9], [9, 6, 4, 0, 1, 2, 3, 5, 7, 8, 10], [10, 8, 7, 5, 3, 2, 1, 0, 4, 6, 9, 11], [10, 8, 7, 5, 3, 2, 1, 0, 4, 6, 9, 11], [10, 8, 7, 5, 3, 2, 1, 0, 4, 6, 9, 11], [10, 8, 7, 5, 3, 2, 1, 0, 4, 6, 9, 11], [15, 11, 9, 6, 4, 0, 1, 2, 3, 5, 7, 8, 10, 14], [14, 10, 8, 7, 5, 3, 2, 1, 0, 4, 6, 9, 11, 15, 16], [10, 8, 7, 5, 3, 2, 1, 0, 4, 6, 9, 11], [18, 16, 15, 14, 17, 13, 11, 9, 6, 4, 0, 1, 2, 3, 5, 7, 8, 10, 12], [12, 13, 17, 14, 15, 16, 18, 19, 10, 8, 7, 5, 3, 2, 1, 0, 4, 6, 9, 11], [11, 9, 6, 7, 8, 10, 19, 18, 16, 15, 14, 17, 13, 12, 20, 4, 0, 1, 2, 3, 5]] ?_
         refine dB [([70, 71], [], []), ([69, 71], [false], []), ([69, 70], [false, false], [])] 16 3 ?_
         refine dC [] [true, true, true] [] [] ?_
         refine cd (Can_ok l hv a s ha hs) ?_
         refine dB [([], [true, true, true, true], []), ([], [true, true, true, true, true], [])] 13 6 ?_
         refine dF [some 75, some 76, some 77, some 78, some 79, some 80] 5 74 false 7 ?_
         refine dF [some 81, some 82, some 83, some 84, some 85, some 86, some 87] 11 80 true 0 ?_
         refine dD ?_
         refine gF ?_
         refine gF ?_
         refine oN 1 ?_
         refine oK [1, 5, 7, 8, 9, 10, 90] ?_
         refine cT ?_
         refine rKw [1, 5, 7, 8, 9] ?_
         refine W.exit ?_
         refine te (bs ?_)
         clear hK8 K8
         refine ⟨((a : Int), g, nx.set a ((v + 1 : Nat) : Int)), lf0, v0, v0⟩
       ·
        try simp at hc4
        replace F := F.add hc4
        refine W.exit ?_
        refine te (te (bs (bn ?_)))
        clear hK7 K7
        refine ⟨(j + 1, g, nx), lf0, ?_, v0⟩
        ·
         refine kR.rest fun h => ?_
         (rw [Int.toNat_natCast, qnv, nth_get ha, Int.toNat_natCast]; omega)
      ·
       replace F := F.add hc0
       refine wD 14 [] [[], [0], [0, 1], [1, 0, 2], [1, 0, 2], [4, 2, 0, 1, 3], [3, 1, 0, 2, 4, 5], [1, 0, 2], [2, 0, 1, 7], [1, 0, 2], [9, 7, 1, 0, 2, 8], [8, 2, 0, 1, 7, 9, 10], [10, 9, 7, 1, 0, 2, 8, 11], [11, 8, 2, 0, 1, 7, 9, 10, 12], [12, 10, 9, 7, 8, 11, 13, 5, 4, 2, 0, 1, 3, 6], [6, 3, 4, 5, 13, 11, 8, 7, 9, 10, 12, 14, 1, 0, 2]] ?_
       refine dB [([], [], []), ([], [true], []), ([], [true, true], [])] 11 3 ?_
       refine dF [some 44, some 45, some 46, some 47, some 48, some 49, some 50, some 51, some 52, some 53, some 54] 2 43 true 0 ?_
       refine dD ?_
       refine gF ?_
       refine oN 1 ?_
       refine oK [1, 5, 7, 8, 9, 56] ?_
       refine cF ?_
       refine W.exit ?_
       refine te (te (bs (bn ?_)))
       clear hK7 K7
       refine ⟨(j + 1, g, nx), lf0, ?_, v0⟩
       ·
        refine kR.rest fun h => ?_
        (exfalso; omega)
    ·
     try simp at hc3
     replace F := F.add hc3
     refine W.exit ?_
     refine hK5 _ ?_
     clear hK6 K6 hK5 K5
     refine rK [2, 3] ?_
     refine W.ret ?_
     refine er false [160] [] ?_
     have e : j = l.apps.length := by have := kO.il; omega
     have e2 : g0.take l.stalls.length = g0 := List.take_of_length_le (by omega)
     rw [e] at kO
     exact ⟨g0, by rw [e2], rfl, kO.best hv⟩
end Go.Sim
