/- The draw of a letting, by the reference. -/
import Derived.Test.YticllllmgpjbcaaLf
namespace Go.Sim
open Go.Proofs
set_option maxRecDepth 100000
set_option linter.unusedSimpArgs false
set_option linter.unusedVariables false
attribute [-simp] List.map_set List.map_take List.map_drop
theorem drawG_ref {t : Nat} {r : List Int} (hq : t % r.length < r.length) : drawG r.length t r = r[t % r.length] :: drawG (r.eraseIdx (t % r.length)).length (t / r.length) (r.eraseIdx (t % r.length)) := by
  obtain ⟨n, hn⟩ : ∃ n, r.length = n + 1 := ⟨r.length - 1, by omega⟩
  have h1 : (r.eraseIdx (t % r.length)).length = n := by rw [List.length_eraseIdx_of_lt hq]; omega
  rw [h1]
  conv => lhs; rw [hn]
  rw [drawG, nth_get hq]
set_option maxHeartbeats 4000000 in
theorem rdraw_ok (l : Lett) (hv : ValidL l) : ACalls Try.prog 79 [letV l] [] (fun r o => r = .own 20000 0 (drawL l.apps).length ∧ o = [(20000, .row true 3 1 ((drawL l.apps).map I))]) := by
 have F := Fx.nil
 refine ent Try.func79 Try.ntmps79 Try.results79 ?_
 have h8 := hv.a8
 have hmx : ∀ a ∈ l.apps, a.token ≤ 1000000000 := fun a ha => (hv.ap a ha).token.2
 have hto := tokS_le hmx
 replace F := F.add h8 |>.add hmx |>.add hto
 refine rK [1] ?_
 refine rK [1, 3, 4] ?_
 refine rK [1, 3, 4, 5] ?_
 refine W.seqk fun K1 hK1 => ?_
 refine rK [1, 3, 4, 5, 6] ?_
 refine W.block ?_
 refine sn 3 9000 3 1 ?_
 refine lp (α := Nat) [1, 4] [11, 17, 18] [9000] (fun i => [(6, I i), (5, I (tokS (l.apps.take i))), (3, .own 9000 0 i)]) (fun i => [(9000, .row true 3 1 ((idsI i).map I))]) (fun i => i ≤ l.apps.length) (fun i => l.apps.length - i) 0 ?_ ?_ v0 ?_
 ·
  try (simp [Fx.get F])
  all_goals (
   simp [tokS]
  )
 ·
  try (simp [Fx.get F])
  all_goals (
   rfl
  )
 ·
  intro i hI0
  simp only [List.cons_append, List.nil_append]
  try dsimp only at hI0
  replace F := F.add hI0
  refine W.seqk fun K2 hK2 => ?_
  refine rK [1, 3, 4, 5, 6, 12] ?_
  refine it (fun hc1 => ?_) (fun hc1 => ?_)
  ·
   try simp at hc1
   replace F := F.add hc1
   refine W.skip ?_
   refine hK2 _ ?_
   clear hK2 K2
   refine W.seqk fun K3 hK3 => ?_
   refine W.block ?_
   have hil : i < l.apps.length := by omega
   have qtk := tokS_le (l := l.apps.take (i + 1)) (fun a ha => hmx a (List.mem_of_mem_take ha))
   have qt0 := (hv.ap _ (List.getElem_mem hil)).token
   rw [tokS_succ hil, List.length_take] at qtk
   have hidl := idsI_len i
   replace F := F.add hil |>.add hidl
   refine wDe 13 [(3, [9000])] [[], [], [1], [1, 2, 0], [], [], [5], [], [7, 5, 6], [6, 5, 7, 8], [8, 7, 5, 6, 9], [9, 6, 5, 7, 8, 10, 4], [0, 2, 1, 3], [3, 1, 2, 0, 12, 4, 10, 8, 7, 5, 6, 9, 11]] ?_
   refine dB [([16, 17, 19, 20, 21, 22, 23, 24, 25, 26], [], []), ([15, 19, 20, 21, 22, 23, 24, 25, 26], [false], []), ([15, 19, 20, 21, 22, 23, 24, 25, 26], [false, true], [])] 10 3 ?_
   refine dAw [19, 20, 21, 22, 23, 24, 25, 26] [true, true, true] [] [9000] ?_
   refine dBw [([15, 16, 17, 18, 20, 21, 22, 23, 24, 25, 3], [false, false, false, false], [9000]), ([15, 16, 17, 18, 19, 22, 3], [false, false, false, false, false], [9000]), ([15, 16, 17, 18, 19, 22, 3], [false, false, false, false, false, true], [9000]), ([15, 16, 17, 18, 19, 20, 21, 3], [false, false, false, false, false, false, false], [9000]), ([15, 16, 17, 18, 19, 3], [false, false, false, false, false, true, true, true], [9000]), ([15, 16, 17, 18, 19, 3], [false, false, false, false, false, true, true, true, true], [9000]), ([15, 16, 17, 18, 19, 3], [false, false, false, false, false, true, true, true, true, true], [9000]), ([15, 16, 17, 18, 3], [false, false, false, false, true, true, true, true, true, true, true], [9000]), ([19, 20, 21, 22, 23, 24, 25, 26], [true, true, true, true, false, false, false, false, false, false, false, false], [])] 0 13 ?_
   refine dD ?_
   refine oN 1 ?_
   refine WOps.endK ?_
   refine hK3 _ ?_
   clear hK3 K3
   refine W.region ?_
   refine WOps.le (Le.exch (x := 144) (y := 9000) (by simp [h8, hmx, hto, hI0, hc1, hil, hidl]; rfl)) rfl rfl ?_
   refine oNw 3 ?_
   refine WOps.endK ?_
   refine ⟨i + 1, lf ?_ ?_, ?_, ?_⟩
   ·
    try (simp [Fx.get F])
    all_goals (
     rw [tokS_succ hil]; omega
    )
   ·
    try (simp [Fx.get F])
    all_goals (
     rw [idsI_succ, List.map_append]; rfl
    )
   ·
    omega
   ·
    omega
  ·
   try simp at hc1
   replace F := F.add hc1
   refine W.exit ?_
   refine hK1 _ ?_
   clear hK2 K2 hK1 K1
   refine W.seqk fun K4 hK4 => ?_
   refine W.block ?_
   refine sn 4 9008 3 1 ?_
   refine lp (α := Nat × List Int × List Int) [] [28, 32, 36, 43, 44, 45, 49, 54] [9000, 9008] (fun x => [(5, I x.1), (3, .own 9000 0 x.2.1.length), (4, .own 9008 0 x.2.2.length)]) (fun x => [(9000, .row true 3 1 (x.2.1.map I)), (9008, .row true 3 1 (x.2.2.map I))]) (fun x => drawL l.apps = x.2.2 ++ drawG x.2.1.length x.1 x.2.1 ∧ x.2.2.length + x.2.1.length ≤ 8 ∧ x.1 ≤ 8000000000) (fun x => x.2.1.length) (tokS l.apps, idsI i, []) ?_ ?_ ?_ ?_
   ·
    try (simp [Fx.get F])
    all_goals (
     exact ⟨by rw [List.take_of_length_le (by omega)], (idsI_len i).symm⟩
    )
   ·
    exact v1
   ·
    refine ⟨?_, by show 0 + (idsI i).length ≤ 8; rw [idsI_len]; omega, by show tokS l.apps ≤ 8000000000; omega⟩
    show drawL l.apps = [] ++ drawG (idsI i).length (tokS l.apps) (idsI i)
    rw [idsI_len, drawL, show l.apps.length = i by omega]; rfl
   ·
    intro ⟨t, r, u⟩ hI1
    simp only [List.cons_append, List.nil_append]
    try dsimp only at hI1
    obtain ⟨hdr, hul, ht9⟩ := hI1
    replace F := F.add hul |>.add ht9
    refine W.seqk fun K5 hK5 => ?_
    refine rK [3, 4, 5, 29] ?_
    refine it (fun hc2 => ?_) (fun hc2 => ?_)
    ·
     try simp at hc2
     replace F := F.add hc2
     refine W.skip ?_
     refine hK5 _ ?_
     clear hK5 K5
     refine W.block ?_
     have hm0 : 0 < r.length := by omega
     have hmz : ¬ r.length = 0 := by omega
     have hmz2 : ¬ (r.length : Int) = 0 := by omega
     obtain ⟨q, qq⟩ : ∃ q, q = t % r.length := ⟨_, rfl⟩
     obtain ⟨t2, qt2⟩ : ∃ t2, t2 = t / r.length := ⟨_, rfl⟩
     have hmod : Int.tmod (t : Int) (r.length : Int) = (q : Int) := by rw [qq]; rfl
     have hdiv : Int.tdiv (t : Int) (r.length : Int) = (t2 : Int) := by rw [qt2]; rfl
     have hqr : q < r.length := by have := Nat.mod_lt t hm0; omega
     have hqle : q ≤ r.length := by omega
     have hq1 : (0 : Int) ≤ (q : Int) + 1 := by omega
     have hq2 : q + 1 ≤ r.length := by omega
     have ht2 : t2 ≤ 8000000000 := by have := Nat.div_le_self t r.length; omega
     replace F := F.add hm0 |>.add hmz |>.add hmz2 |>.add hmod |>.add hdiv |>.add hqr |>.add hqle |>.add hq1 |>.add hq2 |>.add ht2
     refine rK [3, 4, 5, 7] ?_
     refine rKw [3, 4, 5, 7] ?_
     refine rKw [3, 4, 5, 7] ?_
     by_cases hq0 : q = 0
     ·
      replace F := F.add hq0
      have hl1 : 1 ≤ r.length := by omega
      replace F := F.add hl1
      by_cases hql : q + 1 = r.length
      ·
       replace F := F.add hql
       have hql2 : q = 0 → r.length = 1 := by omega
       replace F := F.add hql2
       refine wDe 9 [(4, [360])] [[], [], [], [2, 1], [1, 2, 3, 0], [], [], [6], [6, 7, 5], [5, 7, 6, 8, 0, 3, 2, 1, 4], [4, 1, 2, 3, 0, 8, 6, 7, 5, 9]] ?_
       refine dB [([46, 47, 48, 50, 51, 52, 53], [], []), ([45, 47, 50, 51, 52, 53], [false], []), ([45, 46, 50, 51, 52, 53], [false, false], []), ([45, 50, 51, 52, 53], [false, true, true], [])] 5 4 ?_
       refine dAw [50, 51, 52, 53] [true, true, true, true] [] [360] ?_
       refine dBw [([45, 46, 47, 48, 49, 51, 52], [false, false, false, false, false], [360]), ([45, 46, 47, 48, 49, 50], [false, false, false, false, false, false], [360]), ([45, 46, 47, 48, 49, 50], [false, false, false, false, false, false, true], [360]), ([45, 46, 47, 48, 49], [false, false, false, false, false, true, true, true], [360])] 0 9 ?_
       refine dD ?_
       refine oNw 1 ?_
       refine WOps.le (Le.exch (x := 392) (y := 9000) (by simp [h8, hmx, hto, hI0, hc1, hul, ht9, hc2, hm0, hmz, hmz2, hmod, hdiv, hqr, hqle, hq1, hq2, ht2, hq0, hl1, hql, hql2]; rfl)) rfl rfl ?_
       refine oN 1 ?_
       refine WOps.endK ?_
       refine bn ?_
       refine ⟨(t2, r.eraseIdx q, u ++ [r[q]]), lf ?_ ?_, ?_, ?_⟩
       ·
        try (simp [Fx.get F])
        all_goals (
         rw [List.length_eraseIdx_of_lt hqr]; omega
        )
       ·
        try (simp [Fx.get F])
        all_goals (
         exact List.length_eq_zero_iff.1 (by rw [List.length_tail, List.length_map]; omega)
        )
       ·
        subst qt2
        subst qq
        have e := drawG_ref (t := t) hqr
        refine ⟨?_, ?_, ht2⟩
        · show drawL l.apps = (u ++ [r[t % r.length]]) ++ drawG (r.eraseIdx (t % r.length)).length (t / r.length) (r.eraseIdx (t % r.length))
          rw [hdr, e]; simp
        · show (u ++ [r[t % r.length]]).length + (r.eraseIdx (t % r.length)).length ≤ 8
          rw [List.length_eraseIdx_of_lt hqr, List.length_append]
          show u.length + 1 + _ ≤ 8
          omega
       ·
        show (r.eraseIdx q).length < r.length
        rw [List.length_eraseIdx_of_lt hqr]; omega
      ·
       replace F := F.add hql
       have hql2 : q = 0 → ¬ 1 = r.length := by omega
       replace F := F.add hql2
       refine wDe 9 [(4, [360])] [[], [], [], [2, 1], [1, 2, 3, 0], [], [], [6], [6, 7, 5], [5, 7, 6, 8, 0, 3, 2, 1, 4], [4, 1, 2, 3, 0, 8, 6, 7, 5, 9]] ?_
       refine dB [([46, 47, 48, 50, 51, 52, 53], [], []), ([45, 47, 50, 51, 52, 53], [false], []), ([45, 46, 50, 51, 52, 53], [false, false], []), ([45, 50, 51, 52, 53], [false, true, true], [])] 5 4 ?_
       refine dAw [50, 51, 52, 53] [true, true, true, true] [] [360] ?_
       refine dBw [([45, 46, 47, 48, 49, 51, 52], [false, false, false, false, false], [360]), ([45, 46, 47, 48, 49, 50], [false, false, false, false, false, false], [360]), ([45, 46, 47, 48, 49, 50], [false, false, false, false, false, false, true], [360]), ([45, 46, 47, 48, 49], [false, false, false, false, false, true, true, true], [360])] 0 9 ?_
       refine dD ?_
       refine oNw 1 ?_
       refine WOps.le (Le.exch (x := 392) (y := 9000) (by simp [h8, hmx, hto, hI0, hc1, hul, ht9, hc2, hm0, hmz, hmz2, hmod, hdiv, hqr, hqle, hq1, hq2, ht2, hq0, hl1, hql, hql2]; rfl)) rfl rfl ?_
       refine oN 1 ?_
       refine WOps.endK ?_
       refine bn ?_
       refine ⟨(t2, r.eraseIdx q, u ++ [r[q]]), lf ?_ ?_, ?_, ?_⟩
       ·
        try (simp [Fx.get F])
        all_goals (
         rw [List.length_eraseIdx_of_lt hqr]; omega
        )
       ·
        try (simp [Fx.get F])
        all_goals (
         exact List.take_of_length_le (by rw [List.length_tail, List.length_map]; omega)
        )
       ·
        subst qt2
        subst qq
        have e := drawG_ref (t := t) hqr
        refine ⟨?_, ?_, ht2⟩
        · show drawL l.apps = (u ++ [r[t % r.length]]) ++ drawG (r.eraseIdx (t % r.length)).length (t / r.length) (r.eraseIdx (t % r.length))
          rw [hdr, e]; simp
        · show (u ++ [r[t % r.length]]).length + (r.eraseIdx (t % r.length)).length ≤ 8
          rw [List.length_eraseIdx_of_lt hqr, List.length_append]
          show u.length + 1 + _ ≤ 8
          omega
       ·
        show (r.eraseIdx q).length < r.length
        rw [List.length_eraseIdx_of_lt hqr]; omega
     ·
      replace F := F.add hq0
      have hq00 : ¬ 0 = q := by omega
      replace F := F.add hq00
      by_cases hql : q + 1 = r.length
      ·
       replace F := F.add hql
       have hql2 : q = 0 → r.length = 1 := by omega
       replace F := F.add hql2
       refine wDe 9 [(4, [360])] [[], [], [], [2, 1], [1, 2, 3, 0], [], [], [6], [6, 7, 5], [5, 7, 6, 8, 0, 3, 2, 1, 4], [4, 1, 2, 3, 0, 8, 6, 7, 5, 9]] ?_
       refine dB [([46, 47, 48, 50, 51, 52, 53], [], []), ([45, 47, 50, 51, 52, 53], [false], []), ([45, 46, 50, 51, 52, 53], [false, false], []), ([45, 50, 51, 52, 53], [false, true, true], [])] 5 4 ?_
       refine dAw [50, 51, 52, 53] [true, true, true, true] [] [360] ?_
       refine dBw [([45, 46, 47, 48, 49, 51, 52], [false, false, false, false, false], [360]), ([45, 46, 47, 48, 49, 50], [false, false, false, false, false, false], [360]), ([45, 46, 47, 48, 49, 50], [false, false, false, false, false, false, true], [360]), ([45, 46, 47, 48, 49], [false, false, false, false, false, true, true, true], [360])] 0 9 ?_
       refine dD ?_
       refine oNw 1 ?_
       refine WOps.le (Le.exch (x := 392) (y := 9000) (by simp [h8, hmx, hto, hI0, hc1, hul, ht9, hc2, hm0, hmz, hmz2, hmod, hdiv, hqr, hqle, hq1, hq2, ht2, hq0, hq00, hql, hql2]; rfl)) rfl rfl ?_
       refine oN 1 ?_
       refine WOps.endK ?_
       refine bn ?_
       refine ⟨(t2, r.eraseIdx q, u ++ [r[q]]), lf ?_ ?_, ?_, ?_⟩
       ·
        try (simp [Fx.get F])
        all_goals (
         rw [List.length_eraseIdx_of_lt hqr]; omega
        )
       ·
        try (simp [Fx.get F])
        all_goals (
         rw [List.eraseIdx_eq_take_drop_succ]
         (rw [List.drop_of_length_le (by omega), List.append_nil])
        )
       ·
        subst qt2
        subst qq
        have e := drawG_ref (t := t) hqr
        refine ⟨?_, ?_, ht2⟩
        · show drawL l.apps = (u ++ [r[t % r.length]]) ++ drawG (r.eraseIdx (t % r.length)).length (t / r.length) (r.eraseIdx (t % r.length))
          rw [hdr, e]; simp
        · show (u ++ [r[t % r.length]]).length + (r.eraseIdx (t % r.length)).length ≤ 8
          rw [List.length_eraseIdx_of_lt hqr, List.length_append]
          show u.length + 1 + _ ≤ 8
          omega
       ·
        show (r.eraseIdx q).length < r.length
        rw [List.length_eraseIdx_of_lt hqr]; omega
      ·
       replace F := F.add hql
       have hql2 : q = 0 → ¬ 1 = r.length := by omega
       replace F := F.add hql2
       refine wDe 9 [(4, [360])] [[], [], [], [2, 1], [1, 2, 3, 0], [], [], [6], [6, 7, 5], [5, 7, 6, 8, 0, 3, 2, 1, 4], [4, 1, 2, 3, 0, 8, 6, 7, 5, 9]] ?_
       refine dB [([46, 47, 48, 50, 51, 52, 53], [], []), ([45, 47, 50, 51, 52, 53], [false], []), ([45, 46, 50, 51, 52, 53], [false, false], []), ([45, 50, 51, 52, 53], [false, true, true], [])] 5 4 ?_
       refine dAw [50, 51, 52, 53] [true, true, true, true] [] [360] ?_
       refine dBw [([45, 46, 47, 48, 49, 51, 52], [false, false, false, false, false], [360]), ([45, 46, 47, 48, 49, 50], [false, false, false, false, false, false], [360]), ([45, 46, 47, 48, 49, 50], [false, false, false, false, false, false, true], [360]), ([45, 46, 47, 48, 49], [false, false, false, false, false, true, true, true], [360])] 0 9 ?_
       refine dD ?_
       refine oNw 1 ?_
       refine WOps.le (Le.exch (x := 392) (y := 9000) (by simp [h8, hmx, hto, hI0, hc1, hul, ht9, hc2, hm0, hmz, hmz2, hmod, hdiv, hqr, hqle, hq1, hq2, ht2, hq0, hq00, hql, hql2]; rfl)) rfl rfl ?_
       refine oN 1 ?_
       refine WOps.endK ?_
       refine bn ?_
       refine ⟨(t2, r.eraseIdx q, u ++ [r[q]]), lf ?_ ?_, ?_, ?_⟩
       ·
        try (simp [Fx.get F])
        all_goals (
         rw [List.length_eraseIdx_of_lt hqr]; omega
        )
       ·
        try (simp [Fx.get F])
        all_goals (
         rw [List.eraseIdx_eq_take_drop_succ]
         (rw [List.map_append, List.take_of_length_le (l := List.drop (q + 1) r) (by rw [List.length_drop]; omega)])
        )
       ·
        subst qt2
        subst qq
        have e := drawG_ref (t := t) hqr
        refine ⟨?_, ?_, ht2⟩
        · show drawL l.apps = (u ++ [r[t % r.length]]) ++ drawG (r.eraseIdx (t % r.length)).length (t / r.length) (r.eraseIdx (t % r.length))
          rw [hdr, e]; simp
        · show (u ++ [r[t % r.length]]).length + (r.eraseIdx (t % r.length)).length ≤ 8
          rw [List.length_eraseIdx_of_lt hqr, List.length_append]
          show u.length + 1 + _ ≤ 8
          omega
       ·
        show (r.eraseIdx q).length < r.length
        rw [List.length_eraseIdx_of_lt hqr]; omega
    ·
     try simp at hc2
     replace F := F.add hc2
     refine W.exit ?_
     refine hK4 _ ?_
     clear hK5 K5 hK4 K4
     refine rK [2] ?_
     refine W.ret ?_
     refine er false [] [(20000, 9008)] ?_
     have e : drawL l.apps = u := by rw [hdr, hc2]; simp [drawG]
     rw [e]; exact ⟨rfl, rfl⟩
theorem rdraw_imm (l : Lett) (hv : ValidL l) : ACalls Try.prog 79 [letV l] [] (fun r o => r = ints (drawL l.apps) ∧ o = []) := ACalls.frzs [20000] (rdraw_ok l hv) (by simp; rfl) (by simp; rfl)
end Go.Sim
