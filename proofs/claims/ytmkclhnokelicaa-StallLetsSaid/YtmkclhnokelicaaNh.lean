/- Envies and rents of any letting and holders, and the best holders of any letting. -/
import Derived.Test.YtmkclhnokelicaaNg
import Derived.Test.YtmkclhnokelicaaNb
import Derived.Test.YtmkclhnokelicaaLn
namespace Go.Sim
open Go.Proofs
set_option maxRecDepth 100000
set_option linter.unusedSimpArgs false
set_option linter.unusedVariables false
attribute [-simp] List.map_set List.map_take List.map_drop
set_option maxHeartbeats 4000000 in
theorem Envious_ok (l : Lett) (hv : ValidL l) (h : List Int) (hk : HoldOk l h) (a s : Nat) (ha : a < l.apps.length) (hs : s < l.stalls.length) : ACalls Try.prog 71 [letV l, ints h, I a, I s] [] (fun r o => r = B (envB l h a s) ∧ o = []) := by
 have F := Fx.nil
 replace F := F.add ha |>.add hs
 refine ent Try.func71 Try.ntmps71 Try.results71 ?_
 have h8 := hv.a8
 have hs8 := hv.s8
 have hhl := hk.len
 have hsl : s < h.length := by omega
 replace F := F.add h8 |>.add hs8 |>.add hhl |>.add hsl
 refine rK [1, 2, 3, 4] ?_
 refine W.seqk fun K1 hK1 => ?_
 by_cases hcan : canS l.stalls l.apps[a] s = true
 ·
  replace F := F.add hcan
  by_cases hlt : l.apps[a].wishes.idxOf (s : Int) < placeL l h a
  ·
   replace F := F.add hlt
   have hlt2 : ¬ placeL l h a ≤ l.apps[a].wishes.idxOf (s : Int) := by omega
   replace F := F.add hlt2
   refine wD 16 [] [[], [], [], [2, 1, 0], [0, 1, 2, 3], [3, 2, 1, 0, 4], [4, 0, 1, 2, 3, 5], [5, 3, 2, 1, 0, 4, 6], [4, 0, 1, 2, 3, 5], [8, 6, 4, 0, 1, 2, 3, 5, 7], [7, 5, 3, 2, 1, 0, 4, 6, 8, 9], [4, 0, 1, 2, 3, 5], [11, 9, 8, 6, 4, 0, 1, 2, 3, 5, 7, 10], [4, 0, 1, 2, 3, 5], [4, 0, 1, 2, 3, 5], [4, 0, 1, 2, 3, 5], [10, 7, 6, 8, 9, 11, 12, 15, 14, 5, 3, 2, 1, 0, 4, 13], [13, 14, 15, 16, 10, 7, 5, 3, 2, 1, 0, 4, 6, 8, 9, 11, 12], [12, 11, 9, 8, 6, 7, 10, 16, 15, 14, 13, 17, 4, 0, 1, 2, 3, 5]] ?_
   refine dN 3 13 ?_
   refine dC [] ?_
   refine cd (Can_ok l hv a s ha hs) ?_
   refine dN 2 10 ?_
   refine dT ?_
   refine dT ?_
   refine dT ?_
   refine dT ?_
   refine dT ?_
   refine dT ?_
   refine dG [] ?_
   refine cd (Wish_ok l.apps[a] s) ?_
   refine dT ?_
   refine dT ?_
   refine dT ?_
   refine dD ?_
   refine gC [] ?_
   refine ct (Place_ok l h a ha) ?_
   refine gT ?_
   refine oN 1 ?_
   refine oK [1, 2, 3, 4, 27] ?_
   refine cF ?_
   refine W.skip ?_
   refine hK1 _ ?_
   clear hK1 K1
   by_cases hng : h[s] < 0
   ·
    replace F := F.add hng
    refine wD 13 [] [[], [], [1, 0], [0, 1, 2], [2, 1, 0, 3], [3, 0, 1, 2, 4], [4, 2, 1, 0, 3, 5], [4, 2, 1, 0, 3, 5], [4, 2, 1, 0, 3, 5], [4, 2, 1, 0, 3, 5], [9, 5, 3, 0, 1, 2, 4, 8], [8, 4, 2, 1, 0, 3, 5, 9, 10], [4, 2, 1, 0, 3, 5], [12, 10, 9, 8, 11, 7, 5, 3, 0, 1, 2, 4, 6], [6, 4, 2, 1, 0, 3, 5, 7, 11, 8, 9, 10, 12, 13], [13, 12, 10, 9, 8, 11, 7, 6, 14, 4, 2, 1, 0, 3, 5], [5, 3, 0, 1, 2, 4, 14, 6, 7, 11, 8, 9, 10, 12, 13, 15]] ?_
    refine dN 6 7 ?_
    refine dF ?_
    refine dF ?_
    refine dF ?_
    refine dF ?_
    refine dF ?_
    refine dF ?_
    refine dF ?_
    refine dD ?_
    refine gF ?_
    refine gF ?_
    refine oN 2 ?_
    refine oK [8] ?_
    refine W.ret ?_
    refine er false [] [] ?_
    first
    | exact ⟨congrArg B (by rw [envB_at hsl ha, hcan, decide_eq_true hlt, decide_eq_true hng]; rfl), rfl⟩
    | exact ⟨congrArg B (by rw [envB_at hsl ha, hcan, decide_eq_true hlt, decide_eq_false hng, hb, Int.toNat_natCast]; simp), rfl⟩
    | exact ⟨congrArg B (by rw [envB_at hsl ha, hcan, decide_eq_false hlt]; rfl), rfl⟩
    | exact ⟨congrArg B (by rw [envB_at hsl ha]; simp [hcan]), rfl⟩
   ·
    replace F := F.add hng
    obtain ⟨b, qb⟩ : ∃ b : Nat, h[s] = (b : Int) := ⟨h[s].toNat, by omega⟩
    have hb := qb
    obtain ⟨hbl, qbc⟩ : b < l.apps.length ∧ canS l.stalls (nth l.apps b) s = true := by
      rcases hk.ok s hsl with q | ⟨c, q1, q2, q3⟩
      · omega
      · have : c = b := by omega
        subst this; exact ⟨q2, q3⟩
    have hnb : ¬ ((b : Int) < 0) := by omega
    replace F := F.add hb |>.add hnb
    refine wD 13 [] [[], [], [1, 0], [0, 1, 2], [2, 1, 0, 3], [3, 0, 1, 2, 4], [4, 2, 1, 0, 3, 5], [4, 2, 1, 0, 3, 5], [4, 2, 1, 0, 3, 5], [4, 2, 1, 0, 3, 5], [9, 5, 3, 0, 1, 2, 4, 8], [8, 4, 2, 1, 0, 3, 5, 9, 10], [4, 2, 1, 0, 3, 5], [12, 10, 9, 8, 11, 7, 5, 3, 0, 1, 2, 4, 6], [6, 4, 2, 1, 0, 3, 5, 7, 11, 8, 9, 10, 12, 13], [13, 12, 10, 9, 8, 11, 7, 6, 14, 4, 2, 1, 0, 3, 5], [5, 3, 0, 1, 2, 4, 14, 6, 7, 11, 8, 9, 10, 12, 13, 15]] ?_
    refine dN 6 7 ?_
    refine dT ?_
    refine dT ?_
    refine dT ?_
    refine dT ?_
    refine dT ?_
    refine dT ?_
    refine dT ?_
    refine dD ?_
    refine gC [] ?_
    refine ct (Ahead_ok l hv s b a hs hbl ha (fun _ => ⟨canS_mem (by rw [← nth_get hbl]; exact qbc), canS_mem hcan⟩)) ?_
    refine gT ?_
    refine oN 2 ?_
    refine oK [8] ?_
    refine W.ret ?_
    refine er false [] [] ?_
    first
    | exact ⟨congrArg B (by rw [envB_at hsl ha, hcan, decide_eq_true hlt, decide_eq_true hng]; rfl), rfl⟩
    | exact ⟨congrArg B (by rw [envB_at hsl ha, hcan, decide_eq_true hlt, decide_eq_false hng, hb, Int.toNat_natCast]; simp), rfl⟩
    | exact ⟨congrArg B (by rw [envB_at hsl ha, hcan, decide_eq_false hlt]; rfl), rfl⟩
    | exact ⟨congrArg B (by rw [envB_at hsl ha]; simp [hcan]), rfl⟩
  ·
   replace F := F.add hlt
   have hlt2 : placeL l h a ≤ l.apps[a].wishes.idxOf (s : Int) := by omega
   replace F := F.add hlt2
   refine wD 16 [] [[], [], [], [2, 1, 0], [0, 1, 2, 3], [3, 2, 1, 0, 4], [4, 0, 1, 2, 3, 5], [5, 3, 2, 1, 0, 4, 6], [4, 0, 1, 2, 3, 5], [8, 6, 4, 0, 1, 2, 3, 5, 7], [7, 5, 3, 2, 1, 0, 4, 6, 8, 9], [4, 0, 1, 2, 3, 5], [11, 9, 8, 6, 4, 0, 1, 2, 3, 5, 7, 10], [4, 0, 1, 2, 3, 5], [4, 0, 1, 2, 3, 5], [4, 0, 1, 2, 3, 5], [10, 7, 6, 8, 9, 11, 12, 15, 14, 5, 3, 2, 1, 0, 4, 13], [13, 14, 15, 16, 10, 7, 5, 3, 2, 1, 0, 4, 6, 8, 9, 11, 12], [12, 11, 9, 8, 6, 7, 10, 16, 15, 14, 13, 17, 4, 0, 1, 2, 3, 5]] ?_
   refine dN 3 13 ?_
   refine dC [] ?_
   refine cd (Can_ok l hv a s ha hs) ?_
   refine dN 2 10 ?_
   refine dT ?_
   refine dT ?_
   refine dT ?_
   refine dT ?_
   refine dT ?_
   refine dT ?_
   refine dG [] ?_
   refine cd (Wish_ok l.apps[a] s) ?_
   refine dT ?_
   refine dT ?_
   refine dT ?_
   refine dD ?_
   refine gC [] ?_
   refine ct (Place_ok l h a ha) ?_
   refine gT ?_
   refine oN 1 ?_
   refine oK [1, 2, 3, 4, 27] ?_
   refine cT ?_
   refine rK [8] ?_
   refine W.ret ?_
   refine tr ?_
   clear hK1 K1
   refine er false [] [] ?_
   first
   | exact ⟨congrArg B (by rw [envB_at hsl ha, hcan, decide_eq_true hlt, decide_eq_true hng]; rfl), rfl⟩
   | exact ⟨congrArg B (by rw [envB_at hsl ha, hcan, decide_eq_true hlt, decide_eq_false hng, hb, Int.toNat_natCast]; simp), rfl⟩
   | exact ⟨congrArg B (by rw [envB_at hsl ha, hcan, decide_eq_false hlt]; rfl), rfl⟩
   | exact ⟨congrArg B (by rw [envB_at hsl ha]; simp [hcan]), rfl⟩
 ·
  replace F := F.add hcan
  refine wD 16 [] [[], [], [], [2, 1, 0], [0, 1, 2, 3], [3, 2, 1, 0, 4], [4, 0, 1, 2, 3, 5], [5, 3, 2, 1, 0, 4, 6], [4, 0, 1, 2, 3, 5], [8, 6, 4, 0, 1, 2, 3, 5, 7], [7, 5, 3, 2, 1, 0, 4, 6, 8, 9], [4, 0, 1, 2, 3, 5], [11, 9, 8, 6, 4, 0, 1, 2, 3, 5, 7, 10], [4, 0, 1, 2, 3, 5], [4, 0, 1, 2, 3, 5], [4, 0, 1, 2, 3, 5], [10, 7, 6, 8, 9, 11, 12, 15, 14, 5, 3, 2, 1, 0, 4, 13], [13, 14, 15, 16, 10, 7, 5, 3, 2, 1, 0, 4, 6, 8, 9, 11, 12], [12, 11, 9, 8, 6, 7, 10, 16, 15, 14, 13, 17, 4, 0, 1, 2, 3, 5]] ?_
  refine dN 3 13 ?_
  refine dC [] ?_
  refine cd (Can_ok l hv a s ha hs) ?_
  refine dN 2 10 ?_
  refine dF ?_
  refine dF ?_
  refine dF ?_
  refine dF ?_
  refine dF ?_
  refine dF ?_
  refine dF ?_
  refine dF ?_
  refine dF ?_
  refine dF ?_
  refine dD ?_
  refine gF ?_
  refine gF ?_
  refine oN 1 ?_
  refine oK [1, 2, 3, 4, 27] ?_
  refine cT ?_
  refine rK [8] ?_
  refine W.ret ?_
  refine tr ?_
  clear hK1 K1
  refine er false [] [] ?_
  first
  | exact ⟨congrArg B (by rw [envB_at hsl ha, hcan, decide_eq_true hlt, decide_eq_true hng]; rfl), rfl⟩
  | exact ⟨congrArg B (by rw [envB_at hsl ha, hcan, decide_eq_true hlt, decide_eq_false hng, hb, Int.toNat_natCast]; simp), rfl⟩
  | exact ⟨congrArg B (by rw [envB_at hsl ha, hcan, decide_eq_false hlt]; rfl), rfl⟩
  | exact ⟨congrArg B (by rw [envB_at hsl ha]; simp [hcan]), rfl⟩
set_option maxHeartbeats 4000000 in
theorem envies_ok (l : Lett) (hv : ValidL l) (h : List Int) (hk : HoldOk l h) : ACalls Try.prog 61 [letV l, ints h] [] (fun r o => r = envs (envL l h) ∧ o = []) := by
 have F := Fx.nil
 refine ent Try.func61 Try.ntmps61 Try.results61 ?_
 have h8 := hv.a8
 have hs8 := hv.s8
 replace F := F.add h8 |>.add hs8
 refine rK [1, 2] ?_
 refine rK [1, 2, 5] ?_
 refine W.seqk fun K1 hK1 => ?_
 refine rK [1, 2, 5, 6] ?_
 refine W.block ?_
 refine sn 5 9000 68 2 ?_
 refine lp (α := Nat) [1, 2] [11, 18, 26, 31, 32] [9000] (fun a => [(6, I a), (5, .own 9000 0 (envQ l h a 0).length)]) (fun a => [(9000, .row true 68 2 ((envQ l h a 0).map E2))]) (fun a => a ≤ l.apps.length) (fun a => l.apps.length - a) 0 ?_ ?_ v0 ?_
 ·
  try (simp [Fx.get F])
  all_goals (
   first | omega | rfl
  )
 ·
  try (simp [Fx.get F])
  all_goals (
   first | rfl | simp [envQ_00]
  )
 ·
  intro a hI0
  simp only [List.cons_append, List.nil_append]
  try dsimp only at hI0
  replace F := F.add hI0
  refine W.seqk fun K2 hK2 => ?_
  refine rK [1, 2, 5, 6, 12] ?_
  refine it (fun hc1 => ?_) (fun hc1 => ?_)
  ·
   try simp at hc1
   replace F := F.add hc1
   refine W.skip ?_
   refine hK2 _ ?_
   clear hK2 K2
   refine W.seqk fun K3 hK3 => ?_
   refine W.block ?_
   have ha : a < l.apps.length := by omega
   replace F := F.add ha
   refine rK [1, 2, 5, 6, 7] ?_
   refine W.block ?_
   refine lp (α := Nat) [1, 2, 6] [18, 26, 31, 32] [9000] (fun s => [(7, I s), (5, .own 9000 0 (envQ l h a s).length)]) (fun s => [(9000, .row true 68 2 ((envQ l h a s).map E2))]) (fun s => s ≤ l.stalls.length) (fun s => l.stalls.length - s) 0 ?_ ?_ v0 ?_
   ·
    try (simp [Fx.get F])
    all_goals (
     first | omega | rfl
    )
   ·
    try (simp [Fx.get F])
    all_goals (
     first | rfl | simp [envQ_00]
    )
   ·
    intro s hI1
    simp only [List.cons_append, List.nil_append]
    try dsimp only at hI1
    replace F := F.add hI1
    refine W.seqk fun K4 hK4 => ?_
    refine rK [1, 2, 5, 6, 7, 19] ?_
    refine it (fun hc2 => ?_) (fun hc2 => ?_)
    ·
     try simp at hc2
     replace F := F.add hc2
     refine W.skip ?_
     refine hK4 _ ?_
     clear hK4 K4
     refine W.seqk fun K5 hK5 => ?_
     refine W.block ?_
     by_cases he : envB l h a s = true
     ·
      replace F := F.add he
      have hs : s < l.stalls.length := by omega
      have hql : (envQ l h a s).length ≤ 100 := by have := envQ_le (l := l) (h := h) (a := a) (s := s) (by omega) hs8; omega
      replace F := F.add hs |>.add hql
      refine W.seqR ?_
      refine oN 4 ?_
      refine oC [] ?_
      refine ct (Envious_ok l hv h hk a s ha hs) ?_
      refine oK [1, 2, 5, 6, 7, 26] ?_
      refine cT ?_
      refine rEw ?_
      refine hK5 _ ?_
      clear hK5 K5
      refine rEw ?_
      refine ⟨s + 1, lf ?_ ?_, v0, v0⟩
      ·
       try (simp [Fx.get F])
       all_goals (
        first
        | (rw [envQ_miss (by simpa using he)]; done)
        | (rw [envQ_hit he, List.length_append]; done)
        | (rw [envQ_hit he, List.length_append]; rfl)
        | (have e : s = l.stalls.length := by omega
           rw [e, envQ_next]; done)
       )
      ·
       try (simp [Fx.get F])
       all_goals (
        first
        | (rw [envQ_miss (by simpa using he)]; done)
        | (rw [envQ_hit he, List.map_append]; done)
        | (rw [envQ_hit he, List.map_append]; rfl)
        | (have e : s = l.stalls.length := by omega
           rw [e, envQ_next]; done)
       )
     ·
      replace F := F.add he
      have hs : s < l.stalls.length := by omega
      have hql : (envQ l h a s).length ≤ 100 := by have := envQ_le (l := l) (h := h) (a := a) (s := s) (by omega) hs8; omega
      replace F := F.add hs |>.add hql
      refine W.seqR ?_
      refine oN 4 ?_
      refine oC [] ?_
      refine ct (Envious_ok l hv h hk a s ha hs) ?_
      refine oK [1, 2, 5, 6, 7, 26] ?_
      refine cF ?_
      refine W.skip ?_
      refine hK5 _ ?_
      clear hK5 K5
      refine rEw ?_
      refine ⟨s + 1, lf ?_ ?_, v0, v0⟩
      ·
       try (simp [Fx.get F])
       all_goals (
        first
        | (rw [envQ_miss (by simpa using he)]; done)
        | (rw [envQ_hit he, List.length_append]; done)
        | (rw [envQ_hit he, List.length_append]; rfl)
        | (have e : s = l.stalls.length := by omega
           rw [e, envQ_next]; done)
       )
      ·
       try (simp [Fx.get F])
       all_goals (
        first
        | (rw [envQ_miss (by simpa using he)]; done)
        | (rw [envQ_hit he, List.map_append]; done)
        | (rw [envQ_hit he, List.map_append]; rfl)
        | (have e : s = l.stalls.length := by omega
           rw [e, envQ_next]; done)
       )
    ·
     try simp at hc2
     replace F := F.add hc2
     refine W.exit ?_
     refine hK3 _ ?_
     clear hK4 K4 hK3 K3
     refine rEw ?_
     refine ⟨a + 1, lf ?_ ?_, v0, v0⟩
     ·
      try (simp [Fx.get F])
      all_goals (
       first
       | (rw [envQ_miss (by simpa using he)]; done)
       | (rw [envQ_hit he, List.length_append]; done)
       | (rw [envQ_hit he, List.length_append]; rfl)
       | (have e : s = l.stalls.length := by omega
          rw [e, envQ_next]; done)
      )
     ·
      try (simp [Fx.get F])
      all_goals (
       first
       | (rw [envQ_miss (by simpa using he)]; done)
       | (rw [envQ_hit he, List.map_append]; done)
       | (rw [envQ_hit he, List.map_append]; rfl)
       | (have e : s = l.stalls.length := by omega
          rw [e, envQ_next]; done)
      )
  ·
   try simp at hc1
   replace F := F.add hc1
   refine W.exit ?_
   refine hK1 _ ?_
   clear hK2 K2 hK1 K1
   have hae : a = l.apps.length := by omega
   have hee : envQ l h l.apps.length 0 = envL l h := envQ_end
   replace F := F.add hae |>.add hee
   refine rK [4] ?_
   refine W.ret ?_
   refine er false [9000] [] ?_
   exact ⟨rfl, rfl⟩
set_option maxHeartbeats 4000000 in
theorem rEnvies_v (l : Lett) (hv : ValidL l) (h : List Int) (hk : HoldOk l h) : ACalls Try.prog 35 [letV l, ints h] [] (fun r o => r = .tup [envs (envL l h), I 0] ∧ o = []) := by
 have F := Fx.nil
 refine ent Try.func35 Try.ntmps35 Try.results35 ?_
 have hch : checkH l h = 0 := checkH_zero.2 ⟨hv, hk⟩
 replace F := F.add hch
 refine rK [1, 2] ?_
 refine W.seqk fun K1 hK1 => ?_
 refine W.seqR ?_
 refine oN 2 ?_
 refine oC [] ?_
 refine ct (rCheckHolders_ok _ _) ?_
 refine oN 1 ?_
 refine oK [1, 2, 6] ?_
 refine rK [1, 2, 6, 11] ?_
 refine cF ?_
 refine W.skip ?_
 refine hK1 _ ?_
 clear hK1 K1
 refine W.seqR ?_
 refine oN 2 ?_
 refine oC [] ?_
 refine ct (envies_ok l hv h hk) ?_
 refine oN 2 ?_
 refine oK [4, 5] ?_
 refine W.ret ?_
 exact er0 false [] []
set_option maxHeartbeats 4000000 in
theorem rEnvies_err (l : Lett) (h : List Int) (hn : ¬ checkH l h = 0) : ACalls Try.prog 35 [letV l, ints h] [] (fun r o => r = .tup [.imm [], I (checkH l h)] ∧ o = []) := by
 have F := Fx.nil
 replace F := F.add hn
 refine ent Try.func35 Try.ntmps35 Try.results35 ?_
 refine rK [1, 2] ?_
 refine W.seqk fun K1 hK1 => ?_
 refine W.seqR ?_
 refine oN 2 ?_
 refine oC [] ?_
 refine ct (rCheckHolders_ok _ _) ?_
 refine oN 1 ?_
 refine oK [1, 2, 6] ?_
 refine rK [1, 2, 6, 11] ?_
 refine cT ?_
 refine rK [4, 5] ?_
 refine W.weaken (Le.immNil (t := 4) (by first | rfl | simp)) ?_
 refine W.ret ?_
 refine tr ?_
 clear hK1 K1
 refine er false [] [] ?_
 exact ⟨rfl, rfl⟩
set_option maxHeartbeats 4000000 in
theorem Envies_err (l : Lett) (h : List Int) (hn : ¬ checkH l h = 0) : ACalls Try.prog 22 [letV l, ints h] [] (fun r o => r = .tup [.imm [], I (checkH l h)] ∧ o = []) := by
 have F := Fx.nil
 replace F := F.add hn
 refine ent Try.func22 Try.ntmps22 Try.results22 ?_
 refine rK [1, 2] ?_
 refine W.seqk fun K1 hK1 => ?_
 refine W.seqR ?_
 refine oN 2 ?_
 refine oC [] ?_
 refine ct (CheckHolders_ok _ _) ?_
 refine oN 1 ?_
 refine oK [1, 2, 6] ?_
 refine rK [1, 2, 6, 17] ?_
 refine cT ?_
 refine rK [4, 5] ?_
 refine W.weaken (Le.immNil (t := 4) (by first | rfl | simp)) ?_
 refine W.ret ?_
 refine tr ?_
 clear hK1 K1
 refine er false [] [] ?_
 exact ⟨rfl, rfl⟩
set_option maxHeartbeats 4000000 in
theorem Rents_er (l : Lett) (h : List Int) (hn : ¬ checkH l h = 0) : ACalls Try.prog 36 [letV l, ints h] [] (fun r o => r = .tup [.imm [], I (checkH l h)] ∧ o = []) := by
 have F := Fx.nil
 replace F := F.add hn
 refine ent Try.func36 Try.ntmps36 Try.results36 ?_
 refine rK [1, 2] ?_
 refine W.seqk fun K1 hK1 => ?_
 refine W.seqR ?_
 refine oN 2 ?_
 refine oC [] ?_
 refine ct (CheckHolders_ok _ _) ?_
 refine oN 1 ?_
 refine oK [1, 2, 6] ?_
 refine rK [1, 2, 6, 16] ?_
 refine cT ?_
 refine rK [4, 5] ?_
 refine W.weaken (Le.immNil (t := 4) (by first | rfl | simp)) ?_
 refine W.ret ?_
 refine tr ?_
 clear hK1 K1
 refine er false [] [] ?_
 exact ⟨rfl, rfl⟩
set_option maxHeartbeats 4000000 in
theorem rRents_err (l : Lett) (h : List Int) (hn : ¬ checkH l h = 0) : ACalls Try.prog 37 [letV l, ints h] [] (fun r o => r = .tup [.imm [], I (checkH l h)] ∧ o = []) := by
 have F := Fx.nil
 replace F := F.add hn
 refine ent Try.func37 Try.ntmps37 Try.results37 ?_
 refine rK [1, 2] ?_
 refine W.seqk fun K1 hK1 => ?_
 refine W.seqR ?_
 refine oN 2 ?_
 refine oC [] ?_
 refine ct (rCheckHolders_ok _ _) ?_
 refine oN 1 ?_
 refine oK [1, 2, 6] ?_
 refine rK [1, 2, 6, 15] ?_
 refine cT ?_
 refine rK [4, 5] ?_
 refine W.weaken (Le.immNil (t := 4) (by first | rfl | simp)) ?_
 refine W.ret ?_
 refine tr ?_
 clear hK1 K1
 refine er false [] [] ?_
 exact ⟨rfl, rfl⟩
attribute [local simp] rentsL_len rentsL_zero
set_option maxHeartbeats 4000000 in
theorem rRents_v (l : Lett) (hv : ValidL l) (h : List Int) (hk : HoldOk l h) : ACalls Try.prog 37 [letV l, ints h] [] (fun r o => r = .tup [ints (rentsL l h h.length), I 0] ∧ o = []) := by
 refine ACalls.len (l := h.map I) (by simp) ⟨_, Try.func37, by kernel_rfl, by kernel_rfl⟩ fun hlh => ?_
 simp [maxLen_val] at hlh
 have F := Fx.nil
 refine ent Try.func37 Try.ntmps37 Try.results37 ?_
 have hch : checkH l h = 0 := checkH_zero.2 ⟨hv, hk⟩
 have h8 := hv.a8
 have hs8 := hv.s8
 have hhl := hk.len
 replace F := F.add hch |>.add h8 |>.add hs8 |>.add hhl
 refine rK [1, 2] ?_
 refine W.seqk fun K1 hK1 => ?_
 refine W.seqR ?_
 refine oN 2 ?_
 refine oC [] ?_
 refine ct (rCheckHolders_ok _ _) ?_
 refine oN 1 ?_
 refine oK [1, 2, 6] ?_
 refine rK [1, 2, 6, 15] ?_
 refine cF ?_
 refine W.skip ?_
 refine hK1 _ ?_
 clear hK1 K1
 refine rK [1, 2, 7] ?_
 refine W.seqk fun K2 hK2 => ?_
 refine rK [1, 2, 7, 8] ?_
 refine W.block ?_
 refine sn 7 9000 3 1 ?_
 refine lpa (α := Nat) [1, 2] [10, 19, 53, 58, 59] [9000] (fun s => [(8, I s), (7, .own 9000 0 s)]) (fun s => [(9000, .row true 3 1 ((rentsL l h s).map I))]) (fun s => s ≤ h.length) (fun s => h.length - s) 0 v0 ?_
 ·
  intro s hI0
  simp only [List.cons_append, List.nil_append]
  try dsimp only at hI0
  replace F := F.add hI0
  refine W.seqk fun K3 hK3 => ?_
  refine rK [1, 2, 7, 8, 20] ?_
  refine it (fun hc2 => ?_) (fun hc2 => ?_)
  ·
   try simp at hc2
   replace F := F.add hc2
   refine W.skip ?_
   refine hK3 _ ?_
   clear hK3 K3
   refine W.seqk fun K4 hK4 => ?_
   refine W.block ?_
   have hsl : s < h.length := by omega
   have hs : s < l.stalls.length := by omega
   have hrl := rentsL_len l h s
   replace F := F.add hsl |>.add hs |>.add hrl
   refine rK [1, 2, 7, 8, 9] ?_
   refine W.seqk fun K5 hK5 => ?_
   by_cases hneg : h[s] < 0
   ·
    replace F := F.add hneg
    refine rK [1, 2, 7, 8, 9, 33] ?_
    refine cT ?_
    refine rE ?_
    refine hK5 _ ?_
    clear hK5 K5
    refine rEw ?_
    refine hK4 _ ?_
    clear hK4 K4
    refine rEw ?_
    refine ⟨s + 1, lf ?_ ?_, v0, v0⟩
    ·
     exact v1
    ·
     try (simp [Fx.get F])
     all_goals (
      rw [rentsL_succ, List.map_append]
      first
      | (rw [rentL_none hsl hneg]; rfl)
      | (rw [rentL_bid hsl hs hb hbl hr3, bidA, nth_get hix]; rfl)
      | (rw [rentL_least hsl hs hb hr3]; rfl)
     )
   ·
    replace F := F.add hneg
    obtain ⟨b, qb⟩ : ∃ b : Nat, h[s] = (b : Int) := ⟨h[s].toNat, by omega⟩
    have hb := qb
    obtain ⟨hbl, qbc⟩ : b < l.apps.length ∧ canS l.stalls (nth l.apps b) s = true := by
      rcases hk.ok s hsl with q | ⟨c, q1, q2, q3⟩
      · omega
      · have : c = b := by omega
        subst this; exact ⟨q2, q3⟩
    have hbl2 := hbl
    have hbc : canS l.stalls l.apps[b] s = true := by rw [← nth_get hbl]; exact qbc
    have qap := hv.ap _ (List.getElem_mem hbl)
    have hix : l.apps[b].wishes.idxOf (s : Int) < l.apps[b].bids.length := by rw [qap.len]; exact canS_lt hbc
    replace F := F.add hb |>.add hbl2 |>.add hbc |>.add hix
    by_cases hr3 : l.stalls[s].rule = 3
    ·
     replace F := F.add hr3
     refine rK [1, 2, 7, 8, 9, 33] ?_
     refine cF ?_
     refine rK [1, 2, 7, 8, 9, 40] ?_
     refine cT ?_
     refine wD 9 [] [[], [0], [], [], [3, 2], [2, 3, 4], [4, 3, 2, 5, 0, 1], [1, 0, 5, 2, 3, 4, 6], [], [6, 4, 3, 2, 5, 0, 1, 7, 8]] ?_
     refine dN 9 0 ?_
     refine dD ?_
     refine oN 1 ?_
     refine oK [1, 2, 7, 8, 10] ?_
     refine wDe 5 [] [[], [0], [], [], [3, 2], [2, 3, 4, 0, 1], [1, 0, 4, 3, 2, 5], [5, 2, 3, 4, 0, 1, 6]] ?_
     refine dN 4 1 ?_
     refine dC [] ?_
     refine cd (Wish_ok l.apps[b] s) ?_
     refine dD ?_
     refine oN 3 ?_
     refine WOps.endK ?_
     refine hK5 _ ?_
     clear hK5 K5
     refine rEw ?_
     refine hK4 _ ?_
     clear hK4 K4
     refine rEw ?_
     refine ⟨s + 1, lf ?_ ?_, v0, v0⟩
     ·
      exact v1
     ·
      try (simp [Fx.get F])
      all_goals (
       rw [rentsL_succ, List.map_append]
       first
       | (rw [rentL_none hsl hneg]; rfl)
       | (rw [rentL_bid hsl hs hb hbl hr3, bidA, nth_get hix]; rfl)
       | (rw [rentL_least hsl hs hb hr3]; rfl)
      )
    ·
     replace F := F.add hr3
     refine rK [1, 2, 7, 8, 9, 33] ?_
     refine cF ?_
     refine rK [1, 2, 7, 8, 9, 40] ?_
     refine cF ?_
     refine W.skip ?_
     refine hK5 _ ?_
     clear hK5 K5
     refine rEw ?_
     refine hK4 _ ?_
     clear hK4 K4
     refine rEw ?_
     refine ⟨s + 1, lf ?_ ?_, v0, v0⟩
     ·
      exact v1
     ·
      try (simp [Fx.get F])
      all_goals (
       rw [rentsL_succ, List.map_append]
       first
       | (rw [rentL_none hsl hneg]; rfl)
       | (rw [rentL_bid hsl hs hb hbl hr3, bidA, nth_get hix]; rfl)
       | (rw [rentL_least hsl hs hb hr3]; rfl)
      )
  ·
   try simp at hc2
   replace F := F.add hc2
   refine W.exit ?_
   refine hK2 _ ?_
   clear hK3 K3 hK2 K2
   refine rK [4, 5] ?_
   refine W.ret ?_
   refine er false [9000] [] ?_
   have e : s = h.length := by omega
   subst e
   rw [List.take_of_length_le (by rw [rentsL_len]; exact Nat.le_refl _)]
   exact ⟨rfl, rfl⟩
def envA (l : Lett) (h : List Int) : List (Int × Int) := if checkH l h = 0 then envL l h else []
def rentA (l : Lett) (h : List Int) : List Int := if checkH l h = 0 then rentsL l h h.length else []
theorem EnvA_of {f : FuncId} (h0 : ∀ l h, ¬ checkH l h = 0 → ACalls Try.prog f [letV l, ints h] [] (fun r o => r = .tup [.imm [], I (checkH l h)] ∧ o = [])) (h1 : ∀ l, ValidL l → ∀ h, HoldOk l h → ACalls Try.prog f [letV l, ints h] [] (fun r o => r = .tup [envs (envL l h), I 0] ∧ o = [])) (l : Lett) (h : List Int) :
    ACalls Try.prog f [letV l, ints h] [] (fun r o => r = .tup [envs (envA l h), I (checkH l h)] ∧ o = []) := by
  by_cases hc : checkH l h = 0
  · obtain ⟨hv, hk⟩ := checkH_zero.1 hc
    rw [envA, if_pos hc, hc]; exact h1 l hv h hk
  · rw [envA, if_neg hc]; exact h0 l h hc
theorem RentA_of {f : FuncId} (h0 : ∀ l h, ¬ checkH l h = 0 → ACalls Try.prog f [letV l, ints h] [] (fun r o => r = .tup [.imm [], I (checkH l h)] ∧ o = [])) (h1 : ∀ l, ValidL l → ∀ h, HoldOk l h → ACalls Try.prog f [letV l, ints h] [] (fun r o => r = .tup [ints (rentsL l h h.length), I 0] ∧ o = [])) (l : Lett) (h : List Int) :
    ACalls Try.prog f [letV l, ints h] [] (fun r o => r = .tup [ints (rentA l h), I (checkH l h)] ∧ o = []) := by
  by_cases hc : checkH l h = 0
  · obtain ⟨hv, hk⟩ := checkH_zero.1 hc
    rw [rentA, if_pos hc, hc]; exact h1 l hv h hk
  · rw [rentA, if_neg hc]; exact h0 l h hc
theorem EnvA_ok (l : Lett) (h : List Int) : ACalls Try.prog 22 [letV l, ints h] [] (fun r o => r = .tup [envs (envA l h), I (checkH l h)] ∧ o = []) := EnvA_of (f := 22) (fun l h hn => Envies_err l h hn) (fun l hv h hk => Envies_ok l hv h hk) l h
theorem rEnvA_ok (l : Lett) (h : List Int) : ACalls Try.prog 35 [letV l, ints h] [] (fun r o => r = .tup [envs (envA l h), I (checkH l h)] ∧ o = []) := EnvA_of (f := 35) (fun l h hn => rEnvies_err l h hn) (fun l hv h hk => rEnvies_v l hv h hk) l h
theorem RentA_ok (l : Lett) (h : List Int) : ACalls Try.prog 36 [letV l, ints h] [] (fun r o => r = .tup [ints (rentA l h), I (checkH l h)] ∧ o = []) := RentA_of (f := 36) (fun l h hn => Rents_er l h hn) (fun l hv h hk => Rents_ok l hv h hk) l h
theorem rRentA_ok (l : Lett) (h : List Int) : ACalls Try.prog 37 [letV l, ints h] [] (fun r o => r = .tup [ints (rentA l h), I (checkH l h)] ∧ o = []) := RentA_of (f := 37) (fun l h hn => rRents_err l h hn) (fun l hv h hk => rRents_v l hv h hk) l h
set_option maxHeartbeats 4000000 in
theorem Let_err (l : Lett) (hn : ¬ checkL l = 0) : ACalls Try.prog 20 [letV l] [] (fun r o => r = .tup [ints [], I (checkL l)] ∧ o = []) := by
 have F := Fx.nil
 replace F := F.add hn
 refine ent Try.func20 Try.ntmps20 Try.results20 ?_
 refine rK [1, 2, 3, 9, 10, 37, 38] ?_
 refine W.scope ?_
 refine W.seqk fun K1 hK1 => ?_
 refine W.seqR ?_
 refine oN 1 ?_
 refine oC [] ?_
 refine ct (Check_ok _) ?_
 refine oN 1 ?_
 refine oK [1, 2, 3, 4, 9, 10, 37, 38] ?_
 refine rK [1, 2, 3, 4, 9, 10, 15, 37, 38] ?_
 refine cT ?_
 refine rK [2, 3] ?_
 refine W.weaken (Le.immNil (t := 2) (by first | rfl | simp)) ?_
 refine W.ret ?_
 refine tr (ngr ?_)
 clear hK1 K1
 refine er false [] [] ?_
 exact ⟨rfl, rfl⟩
set_option maxHeartbeats 4000000 in
theorem rLet_err (l : Lett) (hn : ¬ checkL l = 0) : ACalls Try.prog 32 [letV l] [] (fun r o => r = .tup [ints [], I (checkL l)] ∧ o = []) := by
 have F := Fx.nil
 replace F := F.add hn
 refine ent Try.func32 Try.ntmps32 Try.results32 ?_
 refine rK [1] ?_
 refine W.seqk fun K1 hK1 => ?_
 refine W.seqR ?_
 refine oN 1 ?_
 refine oC [] ?_
 refine ct (rCheck_ok _) ?_
 refine oN 1 ?_
 refine oK [1, 4] ?_
 refine rK [1, 4, 15] ?_
 refine cT ?_
 refine rK [2, 3] ?_
 refine W.weaken (Le.immNil (t := 2) (by first | rfl | simp)) ?_
 refine W.ret ?_
 refine tr ?_
 clear hK1 K1
 refine er false [] [] ?_
 exact ⟨rfl, rfl⟩
/-- what Let gives: the best holders, or none -/
def LetR (l : Lett) (z : List Int) : Prop := (ValidL l → BestL l z) ∧ (¬ ValidL l → z = [])
theorem LetR.one {l : Lett} {z y : List Int} (h : LetR l z) (k : LetR l y) : z = y := by
  by_cases hv : ValidL l
  · exact bestL_one hv (h.1 hv) (k.1 hv)
  · rw [h.2 hv, k.2 hv]
theorem LetA_of {f : FuncId} (h0 : ∀ l, ¬ checkL l = 0 → ACalls Try.prog f [letV l] [] (fun r o => r = .tup [ints [], I (checkL l)] ∧ o = [])) (h1 : ∀ l, ValidL l → ACalls Try.prog f [letV l] [] (fun r o => ∃ z, r = .tup [ints z, I 0] ∧ o = [] ∧ BestL l z)) (l : Lett) :
    ACalls Try.prog f [letV l] [] (fun r o => ∃ z, r = .tup [ints z, I (checkL l)] ∧ o = [] ∧ LetR l z) := by
  by_cases hc : checkL l = 0
  · have hv := checkL_zero.1 hc
    rw [hc]
    exact (h1 l hv).mono fun r o ⟨z, a, b, c⟩ => ⟨z, a, b, fun _ => c, fun h => absurd hv h⟩
  · exact (h0 l hc).mono fun r o ⟨a, b⟩ => ⟨[], a, b, fun h => absurd (checkL_zero.2 h) hc, fun _ => rfl⟩
theorem LetA_ok (l : Lett) : ACalls Try.prog 20 [letV l] [] (fun r o => ∃ z, r = .tup [ints z, I (checkL l)] ∧ o = [] ∧ LetR l z) := LetA_of (f := 20) Let_err (fun l hv => Let_ok l hv) l
theorem rLetA_ok (l : Lett) : ACalls Try.prog 32 [letV l] [] (fun r o => ∃ z, r = .tup [ints z, I (checkL l)] ∧ o = [] ∧ LetR l z) := LetA_of (f := 32) rLet_err (fun l hv => rLet_ok l hv) l
end Go.Sim
