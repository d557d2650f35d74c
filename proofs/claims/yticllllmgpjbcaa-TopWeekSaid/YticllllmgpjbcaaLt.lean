/- A letting made of numbers. -/
import Derived.Test.YticllllmgpjbcaaLc
namespace Go.Sim
open Go.Proofs
set_option maxRecDepth 100000
set_option linter.unusedSimpArgs false
set_option linter.unusedVariables false
attribute [-simp] List.map_set List.map_take List.map_drop
structure MadeL (l : Lett) (p q : Nat) : Prop where
  ok : ValidL l
  st : l.stalls.length ≤ p
  ap : l.apps.length ≤ q
set_option maxHeartbeats 4000000 in
theorem LettingOf_ok (f : Int) (p q : Nat) (hp0 : 1 ≤ p) (hp : p ≤ 8) (hq : q ≤ 8) : ACalls Try.prog 10 [.ptr 10000 0 0, I p, I q] [(10000, die f)] (fun r o => ∃ z : Lett × Int, r = .agg [.own 20000 0 z.1.stalls.length, .own 20001 0 z.1.apps.length] ∧ o = [(10000, die z.2), (20000, .row true 74 3 (z.1.stalls.map S3)), (20001, .row true 54 4 (z.1.apps.map A4))] ∧ MadeL z.1 p q) := by
 have F := Fx.nil
 replace F := F.add hp0 |>.add hp |>.add hq
 refine ent Try.func10 Try.ntmps10 Try.results10 ?_
 obtain ⟨c, qc⟩ : ∃ c : Nat, castV f ((q : Int) + 1) = (c : Int) := ⟨(castV f ((q : Int) + 1)).toNat, by have := castV_lo f ((q : Int) + 1); omega⟩
 have hcv : castV f ((q : Int) + 1) = (c : Int) := qc
 have hcq : c ≤ q := by have := castV_hi f ((q : Int) + 1) (by omega); omega
 obtain ⟨m, qm⟩ : ∃ m : Nat, fromV (castF f ((q : Int) + 1)) 1 p = (m : Int) := ⟨(fromV (castF f ((q : Int) + 1)) 1 p).toNat, by have := fromV_range (castF f ((q : Int) + 1)) (lo := 1) (hi := (p : Int)) (by omega); omega⟩
 have hmv : fromV (castF f ((q : Int) + 1)) 1 p = (m : Int) := qm
 have hm1 : 1 ≤ m := by have := fromV_range (castF f ((q : Int) + 1)) (lo := 1) (hi := (p : Int)) (by omega); omega
 have hmp : m ≤ p := by have := fromV_range (castF f ((q : Int) + 1)) (lo := 1) (hi := (p : Int)) (by omega); omega
 replace F := F.add hcv |>.add hcq |>.add hmv |>.add hm1 |>.add hmp
 refine rK [0, 1, 2, 6] ?_
 refine rK [0, 1, 2, 6, 7] ?_
 refine W.seqR ?_
 refine oNw 3 ?_
 refine oC [(10000, 10000)] ?_
 refine ct (Cast_ok _ _ (by omega)) ?_
 refine oN 1 ?_
 refine oK [0, 1, 6, 7, 8] ?_
 refine W.seqk fun K1 hK1 => ?_
 refine W.seqR ?_
 refine oN 2 ?_
 refine oC [(10000, 10000)] ?_
 refine ct (From_ok _ _ _ (by omega) (by omega) (by omega) (by omega)) ?_
 refine oN 1 ?_
 refine oK [0, 6, 7, 8, 9] ?_
 refine W.block ?_
 refine sno 56 0 0 9000 74 3 ?_
 refine lpa (α := List Stl × Int × Nat) [0, 6, 7, 8] [10, 26, 29, 31, 32, 33, 36, 40, 45, 46] [56, 9000, 10000] (fun x => [(9, I x.2.2)]) (fun x => [(56, .row false 34 2 [.agg [.own 9000 0 x.1.length, .val (.slice none 0 0)]]), (9000, .row true 74 3 (x.1.map S3)), (10000, die x.2.1)]) (fun x => (∀ s ∈ x.1, StlOk c s ∧ s.least ≤ 1000) ∧ x.1.length + x.2.2 = m) (fun x => x.2.2) ([], fromF (castF f ((q : Int) + 1)) 1 p, m) v0 ?_
 ·
  intro ⟨st, g, i⟩ hI0
  simp only [List.cons_append, List.nil_append]
  try dsimp only at hI0
  obtain ⟨kst, hlen⟩ := hI0
  replace F := F.add hlen
  refine W.seqk fun K2 hK2 => ?_
  refine rK [0, 6, 7, 8, 9, 22] ?_
  refine it (fun hc1 => ?_) (fun hc1 => ?_)
  ·
   try simp at hc1
   replace F := F.add hc1
   refine W.skip ?_
   refine hK2 _ ?_
   clear hK2 K2
   refine W.seqk fun K3 hK3 => ?_
   refine W.block ?_
   obtain ⟨r, qr⟩ : ∃ r, fromV g 1 3 = r := ⟨_, rfl⟩
   obtain ⟨g2, qg2⟩ : ∃ g2, fromF g 1 3 = g2 := ⟨_, rfl⟩
   obtain ⟨y1, qy1⟩ : ∃ y, castV g2 10 = y := ⟨_, rfl⟩
   obtain ⟨g3, qg3⟩ : ∃ g3, castF g2 10 = g3 := ⟨_, rfl⟩
   obtain ⟨y2, qy2⟩ : ∃ y, castV g3 1000 = y := ⟨_, rfl⟩
   obtain ⟨g4, qg4⟩ : ∃ g4, castF g3 1000 = g4 := ⟨_, rfl⟩
   obtain ⟨v, qv⟩ : ∃ v, oneV g4 [0, y1, y2] = v := ⟨_, rfl⟩
   obtain ⟨g5, qg5⟩ : ∃ g5, oneF g4 [0, y1, y2] = g5 := ⟨_, rfl⟩
   obtain ⟨g6, qg6⟩ : ∃ g6, castF g5 4 = g6 := ⟨_, rfl⟩
   obtain ⟨e, qe⟩ : ∃ e, fromV g6 (-1) ((c : Int) - 1) = e := ⟨_, rfl⟩
   obtain ⟨g7, qg7⟩ : ∃ g7, fromF g6 (-1) ((c : Int) - 1) = g7 := ⟨_, rfl⟩
   have hr := qr
   have hg2 := qg2
   have hy1 := qy1
   have hg3 := qg3
   have hy2 := qy2
   have hg4 := qg4
   have hv := qv
   have hg5 := qg5
   have hg6 := qg6
   have he := qe
   have hg7 := qg7
   have hw1 : IntKind.i64.wrap ((c : Int) - 1) = (c : Int) - 1 := wrap_i64 (by omega) (by omega)
   have qrr : 1 ≤ r ∧ r ≤ 3 := by have := fromV_range g (lo := 1) (hi := 3) (by omega); omega
   have qvv : 0 ≤ v ∧ v ≤ 1000 := by
     have h1 := oneV_mem g4 [0, y1, y2] (by simp)
     have h2 := castV_lo g2 10
     have h3 := castV_lo g3 1000
     have h4 := castV_hi g2 10 (by omega)
     have h5 := castV_hi g3 1000 (by omega)
     rw [qv] at h1
     simp only [List.mem_cons, List.not_mem_nil, or_false] at h1
     omega
   have qee : -1 ≤ e ∧ e < c := by have := fromV_range g6 (lo := -1) (hi := (c : Int) - 1) (by omega); omega
   have him : ((i : Nat) : Int) - 1 = ((i - 1 : Nat) : Int) := by omega
   replace F := F.add hr |>.add hg2 |>.add hy1 |>.add hg3 |>.add hy2 |>.add hg4 |>.add hv |>.add hg5 |>.add hg6 |>.add he |>.add hg7 |>.add hw1 |>.add him
   refine W.seqR ?_
   refine oN 1 ?_
   refine oC [(10000, 10000)] ?_
   refine ct (From_ok _ _ _ (by omega) (by omega) (by omega) (by omega)) ?_
   refine oN 2 ?_
   refine oC [(10000, 10000)] ?_
   refine ct (Cast_ok _ _ (by omega)) ?_
   refine oN 1 ?_
   refine oC [(10000, 10000)] ?_
   refine ct (Cast_ok _ _ (by omega)) ?_
   refine oN 1 ?_
   refine oC [(10000, 10000)] ?_
   refine ct (One_ok g4 [0, y1, y2] (by simp)) ?_
   refine oN 3 ?_
   refine oK [0, 6, 7, 8, 9, 10] ?_
   refine W.seqk fun K4 hK4 => ?_
   refine W.seqR ?_
   refine oN 1 ?_
   refine oC [(10000, 10000)] ?_
   refine ct (Once_ok _ _ (by omega)) ?_
   refine oK [0, 6, 7, 8, 9, 10, 36] ?_
   refine it (fun hc2 => ?_) (fun hc2 => ?_)
   ·
    try simp at hc2
    replace F := F.add hc2
    refine W.region ?_
    refine oN 3 ?_
    refine oC [(10000, 10000)] ?_
    refine ct (From_ok _ _ _ (by omega) (by omega) (by omega) (by omega)) ?_
    refine oN 2 ?_
    refine WOps.endK ?_
    refine hK4 _ ?_
    clear hK4 K4
    refine rEw ?_
    refine hK3 _ ?_
    clear hK3 K3
    refine rEw ?_
    refine ⟨(st ++ [⟨r, v, e⟩], g7, i - 1), lf0, ?_, v0⟩
    ·
     refine ⟨fun s hs => ?_, ?_⟩
     · rcases List.mem_append.1 hs with h | h
       · exact kst s h
       · obtain rfl := List.mem_singleton.1 h
         first
           | exact ⟨⟨qrr, ⟨qvv.1, by show v ≤ _; omega⟩, qee⟩, qvv.2⟩
           | exact ⟨⟨qrr, ⟨qvv.1, by show v ≤ _; omega⟩, ⟨by show (-1 : Int) ≤ -1; omega, by show (-1 : Int) < (c : Int); omega⟩⟩, qvv.2⟩
     · show (st ++ [_]).length + (i - 1) = m
       rw [List.length_append]; simp only [List.length_singleton]; omega
   ·
    try simp at hc2
    replace F := F.add hc2
    refine W.skip ?_
    refine hK4 _ ?_
    clear hK4 K4
    refine rEw ?_
    refine hK3 _ ?_
    clear hK3 K3
    refine rEw ?_
    refine ⟨(st ++ [⟨r, v, -1⟩], g6, i - 1), lf0, ?_, v0⟩
    ·
     refine ⟨fun s hs => ?_, ?_⟩
     · rcases List.mem_append.1 hs with h | h
       · exact kst s h
       · obtain rfl := List.mem_singleton.1 h
         first
           | exact ⟨⟨qrr, ⟨qvv.1, by show v ≤ _; omega⟩, qee⟩, qvv.2⟩
           | exact ⟨⟨qrr, ⟨qvv.1, by show v ≤ _; omega⟩, ⟨by show (-1 : Int) ≤ -1; omega, by show (-1 : Int) < (c : Int); omega⟩⟩, qvv.2⟩
     · show (st ++ [_]).length + (i - 1) = m
       rw [List.length_append]; simp only [List.length_singleton]; omega
  ·
   try simp at hc1
   replace F := F.add hc1
   refine W.exit ?_
   refine hK1 _ ?_
   clear hK2 K2 hK1 K1
   refine W.seqk fun K5 hK5 => ?_
   refine rK [0, 6, 7, 8, 11] ?_
   refine W.block ?_
   have hsl : st.length = m := by omega
   replace F := F.add hsl
   refine sno 56 0 1 9008 54 4 ?_
   refine lpa (α := List App × Int × Nat) [0, 6, 7, 8] [12, 54, 57, 59, 60, 61, 66, 67, 70, 76, 78, 84, 102, 103, 104, 106, 107, 108, 113, 114] [56, 9008, 10000] (fun x => [(11, I x.2.2)]) (fun x => [(56, .row false 34 2 [.agg [.own 9000 0 st.length, .own 9008 0 x.1.length]]), (9008, .row true 54 4 (x.1.map A4)), (10000, die x.2.1)]) (fun x => (∀ a ∈ x.1, AppOk st.length a) ∧ x.1.length = x.2.2 ∧ x.2.2 ≤ c) (fun x => c - x.2.2) ([], g, 0) v0 ?_
   ·
    intro ⟨aps, g, j⟩ hI1
    simp only [List.cons_append, List.nil_append]
    try dsimp only at hI1
    obtain ⟨kas, hal, hjc⟩ := hI1
    replace F := F.add hal |>.add hjc
    refine W.seqk fun K6 hK6 => ?_
    refine rK [0, 6, 7, 8, 11, 50] ?_
    refine it (fun hc3 => ?_) (fun hc3 => ?_)
    ·
     try simp at hc3
     replace F := F.add hc3
     refine W.skip ?_
     refine hK6 _ ?_
     clear hK6 K6
     refine W.seqk fun K7 hK7 => ?_
     refine W.block ?_
     obtain ⟨y, qy⟩ : ∃ y, castV g 5 = y := ⟨_, rfl⟩
     obtain ⟨g2, qg2⟩ : ∃ g2, castF g 5 = g2 := ⟨_, rfl⟩
     obtain ⟨y1, qy1⟩ : ∃ y, castV g2 10 = y := ⟨_, rfl⟩
     obtain ⟨g3, qg3⟩ : ∃ g3, castF g2 10 = g3 := ⟨_, rfl⟩
     obtain ⟨y2, qy2⟩ : ∃ y, castV g3 1000000001 = y := ⟨_, rfl⟩
     obtain ⟨g4, qg4⟩ : ∃ g4, castF g3 1000000001 = g4 := ⟨_, rfl⟩
     obtain ⟨tok, qv⟩ : ∃ v, oneV g4 [y1, y2] = v := ⟨_, rfl⟩
     obtain ⟨g5, qg5⟩ : ∃ g5, oneF g4 [y1, y2] = g5 := ⟨_, rfl⟩
     have hy := qy
     have hg2 := qg2
     have hy1 := qy1
     have hg3 := qg3
     have hy2 := qy2
     have hg4 := qg4
     have hv := qv
     have hg5 := qg5
     have qyy : 0 ≤ y ∧ y ≤ 60 := by
       have h1 := castV_lo g 5
       have h2 := castV_hi g 5 (by omega)
       omega
     have qtt : 0 ≤ tok ∧ tok ≤ 1000000000 := by
       have h1 := oneV_mem g4 [y1, y2] (by simp)
       have h2 := castV_lo g2 10
       have h3 := castV_lo g3 1000000001
       have h4 := castV_hi g2 10 (by omega)
       have h5 := castV_hi g3 1000000001 (by omega)
       rw [qv] at h1
       simp only [List.mem_cons, List.not_mem_nil, or_false] at h1
       omega
     replace F := F.add hy |>.add hg2 |>.add hy1 |>.add hg3 |>.add hy2 |>.add hg4 |>.add hv |>.add hg5
     refine W.seqR ?_
     refine oN 1 ?_
     refine oC [(10000, 10000)] ?_
     refine ct (Cast_ok _ _ (by omega)) ?_
     refine oN 2 ?_
     refine oC [(10000, 10000)] ?_
     refine ct (Cast_ok _ _ (by omega)) ?_
     refine oN 1 ?_
     refine oC [(10000, 10000)] ?_
     refine ct (Cast_ok _ _ (by omega)) ?_
     refine oN 1 ?_
     refine oC [(10000, 10000)] ?_
     refine ct (One_ok g4 [y1, y2] (by simp)) ?_
     refine oN 3 ?_
     refine oK [0, 6, 7, 8, 11, 12] ?_
     refine W.seqR ?_
     refine oN 4 ?_
     refine oC [(10000, 10000)] ?_
     refine CallT.mkE (Shuffle_ok g5 m (by omega)) (fun z67 hz67 => ⟨(by simp [hp0, hp, hq, hcv, hcq, hmv, hm1, hmp, hlen, hc1, hsl, hal, hjc, hc3, hy, hg2, hy1, hg3, hy2, hg4, hv, hg5]), ?_⟩)
     have hzl : z67.1.length = m := hz67.length
     have htm : z67.1.take m = z67.1 := List.take_of_length_le (by omega)
     obtain ⟨g7, qg7⟩ : ∃ g7, castF z67.2 2 = g7 := ⟨_, rfl⟩
     have hg7 := qg7
     replace F := F.add hzl |>.add htm |>.add hg7
     refine WOps.norm (by simp [hp0, hp, hq, hcv, hcq, hmv, hm1, hmp, hlen, hc1, hsl, hal, hjc, hc3, hy, hg2, hy1, hg3, hy2, hg4, hv, hg5, hzl, htm, hg7]; rfl) ?_
     refine oN 2 ?_
     refine oK [0, 6, 7, 8, 11, 12] ?_
     refine W.seqk fun K8 hK8 => ?_
     refine W.seqR ?_
     refine fz 536 ?_
     refine oN 1 ?_
     refine oC [(10000, 10000)] ?_
     refine ct (Once_ok _ _ (by omega)) ?_
     refine oK [0, 6, 7, 8, 11, 12, 70] ?_
     refine it (fun hc4 => ?_) (fun hc4 => ?_)
     ·
      try simp at hc4
      replace F := F.add hc4
      obtain ⟨w, qw⟩ : ∃ w : Nat, castV g7 ((m : Int) + 1) = (w : Int) := ⟨(castV g7 ((m : Int) + 1)).toNat, by have := castV_lo g7 ((m : Int) + 1); omega⟩
      have hw := qw
      have hwm : w ≤ m := by have := castV_hi g7 ((m : Int) + 1) (by omega); omega
      obtain ⟨g8, qg8⟩ : ∃ g8, castF g7 ((m : Int) + 1) = g8 := ⟨_, rfl⟩
      have hg8 := qg8
      replace F := F.add hw |>.add hwm |>.add hg8
      refine wDe 8 [(7, [10000])] [[], [0], [], [], [3], [3, 4], [4, 3, 5], [5, 3, 4, 6, 2], [2, 6, 4, 3, 5, 7, 0, 1], [8, 7, 6, 5, 4, 3, 2, 1, 0], [0, 1, 2, 3, 4, 5, 6, 7, 8, 9]] ?_
      refine dBw [([73, 74, 75, 76, 77, 78], [], [10000]), ([73, 74, 75, 76, 77, 78], [true], [10000]), ([71, 72, 74, 75, 76, 77], [false, false], []), ([71, 72, 73], [false, false, false], []), ([71, 72, 73], [false, false, false, true], []), ([71, 72, 73], [false, false, false, true, true], []), ([71, 72, 73], [false, false, false, true, true, true], [])] 1 7 ?_
      refine dC [71, 72] [false, false, true, true, true, true, true] [] [(10000, 10000)] ?_
      refine cd (Cast_ok _ _ (by omega)) ?_
      refine dD ?_
      refine oN 3 ?_
      refine WOps.endK ?_
      refine hK8 _ ?_
      clear hK8 K8
      refine W.seqk fun K9 hK9 => ?_
      refine rK [0, 6, 7, 8, 11, 12, 13] ?_
      refine W.block ?_
      refine sno 96 0 3 9016 3 1 ?_
      refine lpa (α := List Int × Int × Nat) [0, 6, 7, 8, 11, 12] [84, 102, 103, 104, 106, 107, 108] [96, 9016, 10000] (fun x => [(13, I x.2.2)]) (fun x => [(96, .row false 54 4 [.agg [I y, I tok, .imm ((z67.1.take w).map I), .own 9016 0 x.1.length]]), (9016, .row true 3 1 (x.1.map I)), (10000, die x.2.1)]) (fun x => x.1.length = x.2.2 ∧ x.2.2 ≤ w ∧ ∀ b ∈ x.1, 0 ≤ b ∧ b ≤ 1000000) (fun x => w - x.2.2) ([], g8, 0) v0 ?_
      ·
       intro ⟨bs, g9, k⟩ hI2
       simp only [List.cons_append, List.nil_append]
       try dsimp only at hI2
       obtain ⟨hbl, hkw, kbs⟩ := hI2
       replace F := F.add hbl |>.add hkw
       refine W.seqk fun K10 hK10 => ?_
       refine rK [0, 6, 7, 8, 11, 12, 13, 85] ?_
       refine it (fun hc5 => ?_) (fun hc5 => ?_)
       ·
        try simp at hc5
        replace F := F.add hc5
        refine W.skip ?_
        refine hK10 _ ?_
        clear hK10 K10
        refine W.seqk fun K11 hK11 => ?_
        refine W.block ?_
        have hkm : k < m := by omega
        have hkz : k < z67.1.length := by omega
        have qmm := hz67.mem (List.getElem_mem hkz)
        obtain ⟨s, qs⟩ : ∃ s : Nat, z67.1[k] = (s : Int) := ⟨z67.1[k].toNat, by omega⟩
        have hs := qs
        have hsl2 : s < st.length := by omega
        have hsm : s < m := by omega
        have qsl := kst _ (List.getElem_mem hsl2)
        obtain ⟨g10, qg10⟩ : ∃ g10, castF g9 8 = g10 := ⟨_, rfl⟩
        obtain ⟨y3, qy3⟩ : ∃ y, castV g9 8 = y := ⟨_, rfl⟩
        obtain ⟨y4, qy4⟩ : ∃ v, oneV g10 [0, 1, -1, y3] = v := ⟨_, rfl⟩
        obtain ⟨g11, qg11⟩ : ∃ g11, oneF g10 [0, 1, -1, y3] = g11 := ⟨_, rfl⟩
        have hg10 := qg10
        have hy3 := qy3
        have hy4 := qy4
        have hg11 := qg11
        have qy5 : -1 ≤ y4 ∧ y4 ≤ 8 := by
          have h1 := oneV_mem g10 [0, 1, -1, y3] (by simp)
          have h2 := castV_lo g9 8
          have h3 := castV_hi g9 8 (by omega)
          rw [qy4] at h1
          simp only [List.mem_cons, List.not_mem_nil, or_false] at h1
          omega
        have hq1 : -1 ≤ y4 := qy5.1
        have hq2 : y4 ≤ 8 := qy5.2
        have hq3 : 0 ≤ st[s].least := qsl.1.least.1
        have hq4 : st[s].least ≤ 1000 := qsl.2
        obtain ⟨bid, qbid⟩ : ∃ bid, (if st[s].least + y4 > 0 then st[s].least + y4 else 0) = bid := ⟨_, rfl⟩
        have hbid := qbid
        replace F := F.add hkm |>.add hkz |>.add hs |>.add hsl2 |>.add hsm |>.add hg10 |>.add hy3 |>.add hy4 |>.add hg11 |>.add hq1 |>.add hq2 |>.add hq3 |>.add hq4 |>.add hbid
        refine wDe 20 [(14, [10000]), (16, [10000])] [[], [0], [], [2], [], [4], [], [6, 4, 5], [5, 4, 6, 7], [7, 6, 4, 5, 8, 2, 3], [3, 2, 8, 5, 4, 6, 7, 9], [9, 7, 6, 4, 5, 8, 2, 3, 10], [], [], [13], [13, 14], [14, 13, 15, 12], [12, 15, 13, 14, 16, 10, 3, 2, 8, 5, 4, 6, 7, 9, 11], [11, 9, 7, 6, 4, 5, 8, 2, 3, 10, 16, 14, 13, 15, 12, 17], [17, 12, 15, 13, 14, 16, 10, 3, 2, 8, 5, 4, 6, 7, 9, 11, 18], [18, 11, 9, 7, 6, 4, 5, 8, 2, 3, 10, 16, 14, 13, 15, 12, 17, 19, 0, 1], [20, 19, 18, 17, 16, 15, 14, 13, 12, 11, 10, 9, 8, 7, 6, 5, 4, 3, 2, 1, 0], [0, 1, 2, 3, 4, 5, 6, 7, 8, 9, 10, 11, 12, 13, 14, 15, 16, 17, 18, 19, 20, 21]] ?_
        refine dB [([90, 91, 92, 93, 94, 95, 96, 97, 98, 99, 100, 101, 102, 103, 104, 105, 106, 107], [], [10000, 10000]), ([90, 91, 92, 93, 94, 95, 96, 97, 98, 99, 100, 101, 102, 103, 104, 105, 106, 107], [true], [10000, 10000]), ([88, 89, 92, 93, 94, 95, 96, 100, 101, 102, 103, 104], [false, false], [10000, 10000]), ([88, 89, 92, 93, 94, 95, 96, 100, 101, 102, 103, 104], [false, false, true], [10000, 10000]), ([88, 89, 90, 91, 94, 100, 101, 102, 103, 104], [false, false, false, false], [10000, 10000]), ([88, 89, 90, 91, 94, 100, 101, 102, 103, 104], [false, false, false, false, true], [10000, 10000]), ([88, 89, 90, 91, 92, 93, 100, 101, 102, 103, 104], [false, false, false, false, false, false], [10000, 10000]), ([88, 89, 90, 91, 100, 101, 102, 103, 104], [false, false, false, false, true, true, true], [10000, 10000]), ([88, 89, 90, 91, 100, 101, 102, 103, 104], [false, false, false, false, true, true, true, true], [10000, 10000]), ([88, 89, 100, 101, 102, 103, 104], [false, false, true, true, true, true, true, true, true], [10000, 10000]), ([88, 89, 100, 101, 102, 103, 104], [false, false, true, true, true, true, true, true, true, true], [10000, 10000]), ([88, 89, 100, 101, 102, 103, 104], [false, false, true, true, true, true, true, true, true, true, true], [10000, 10000]), ([88, 89, 90, 91, 92, 93, 94, 95, 96, 97, 98, 99, 101, 102, 103], [false, false, false, false, false, false, false, false, false, false, false, false], [10000]), ([88, 89, 90, 91, 92, 93, 94, 95, 96, 97, 98, 99, 100], [false, false, false, false, false, false, false, false, false, false, false, false, false], [])] 6 14 ?_
        refine dC [88, 89, 90, 91, 92, 93, 94, 95, 96, 97, 98, 99, 100] [false, false, false, false, false, false, false, false, false, false, false, false, false, true] [] [(10000, 10000)] ?_
        refine cd (Cast_ok _ _ (by omega)) ?_
        refine dB [([88, 89, 90, 91, 92, 93, 94, 95, 96, 97, 98, 99, 100], [false, false, false, false, false, false, false, false, false, false, false, false, false, true, true], [])] 4 16 ?_
        refine dC [88, 89, 90, 91, 92, 93, 94, 95, 96, 97, 98, 99] [false, false, false, false, false, false, false, false, false, false, false, false, true, true, true, true] [] [(10000, 10000)] ?_
        refine cd (One_ok g10 [0, 1, -1, y3] (by simp)) ?_
        refine dBw [([88, 89], [false, false, true, true, true, true, true, true, true, true, true, true, true, true, true, true, true], []), ([88, 89], [false, false, true, true, true, true, true, true, true, true, true, true, true, true, true, true, true, true], []), ([88, 89], [false, false, true, true, true, true, true, true, true, true, true, true, true, true, true, true, true, true, true], [])] 0 20 ?_
        refine dD ?_
        refine oNw 3 ?_
        refine WOps.endK ?_
        refine hK11 _ ?_
        clear hK11 K11
        refine rEw ?_
        refine ⟨(bs ++ [bid], g11, k + 1), lf0, ?_, v0⟩
        ·
         refine ⟨by show (bs ++ [bid]).length = k + 1; rw [List.length_append]; simp only [List.length_singleton]; omega, by show k + 1 ≤ w; omega, fun b hb => ?_⟩
         rcases List.mem_append.1 hb with h | h
         · exact kbs b h
         · obtain rfl := List.mem_singleton.1 h
           rw [← qbid]
           split <;> omega
       ·
        try simp at hc5
        replace F := F.add hc5
        refine W.exit ?_
        refine hK9 _ ?_
        clear hK10 K10 hK9 K9
        refine W.region ?_
        refine oN 3 ?_
        refine fz 9016 ?_
        refine oNw 4 ?_
        refine WOps.endK ?_
        refine hK7 _ ?_
        clear hK7 K7
        refine rEw ?_
        refine ⟨(aps ++ [⟨y, tok, z67.1.take w, bs⟩], g9, j + 1), lf ?_ ?_, ?_, v0⟩
        ·
         exact v1
        ·
         try (simp [Fx.get F])
         all_goals (
          rw [List.take_of_length_le (by omega)]
         )
        ·
         refine ⟨fun x hx => ?_, by show (aps ++ [_]).length = j + 1; rw [List.length_append]; simp only [List.length_singleton]; omega, by show j + 1 ≤ c; omega⟩
         rcases List.mem_append.1 hx with h | h
         · exact kas x h
         · obtain rfl := List.mem_singleton.1 h
           refine ⟨qyy, qtt, fun x hx => ?_, (Order.nodup hz67).sublist (List.take_sublist _ _), ?_, kbs⟩
           · have := hz67.mem (List.mem_of_mem_take hx)
             rw [hsl]; exact this
           · show bs.length = (z67.1.take w).length
             rw [List.length_take]; omega
     ·
      try simp at hc4
      replace F := F.add hc4
      obtain ⟨w, qw⟩ : ∃ w : Nat, w = m := ⟨_, rfl⟩
      have htk : z67.1.take w = z67.1 := List.take_of_length_le (by omega)
      have hwm : w ≤ m := by omega
      obtain ⟨g8, qg8⟩ : ∃ g8, g7 = g8 := ⟨_, rfl⟩
      have hg8 := qg8
      replace F := F.add htk |>.add hwm |>.add hg8
      refine W.skip ?_
      refine hK8 _ ?_
      clear hK8 K8
      refine W.seqk fun K12 hK12 => ?_
      refine rK [0, 6, 7, 8, 11, 12, 13] ?_
      refine W.block ?_
      refine sno 96 0 3 9016 3 1 ?_
      refine lpa (α := List Int × Int × Nat) [0, 6, 7, 8, 11, 12] [84, 102, 103, 104, 106, 107, 108] [96, 9016, 10000] (fun x => [(13, I x.2.2)]) (fun x => [(96, .row false 54 4 [.agg [I y, I tok, .imm ((z67.1.take w).map I), .own 9016 0 x.1.length]]), (9016, .row true 3 1 (x.1.map I)), (10000, die x.2.1)]) (fun x => x.1.length = x.2.2 ∧ x.2.2 ≤ w ∧ ∀ b ∈ x.1, 0 ≤ b ∧ b ≤ 1000000) (fun x => w - x.2.2) ([], g8, 0) v0 ?_
      ·
       intro ⟨bs, g9, k⟩ hI2
       simp only [List.cons_append, List.nil_append]
       try dsimp only at hI2
       obtain ⟨hbl, hkw, kbs⟩ := hI2
       replace F := F.add hbl |>.add hkw
       refine W.seqk fun K13 hK13 => ?_
       refine rK [0, 6, 7, 8, 11, 12, 13, 85] ?_
       refine it (fun hc6 => ?_) (fun hc6 => ?_)
       ·
        try simp at hc6
        replace F := F.add hc6
        refine W.skip ?_
        refine hK13 _ ?_
        clear hK13 K13
        refine W.seqk fun K14 hK14 => ?_
        refine W.block ?_
        have hkm : k < m := by omega
        have hkz : k < z67.1.length := by omega
        have qmm := hz67.mem (List.getElem_mem hkz)
        obtain ⟨s, qs⟩ : ∃ s : Nat, z67.1[k] = (s : Int) := ⟨z67.1[k].toNat, by omega⟩
        have hs := qs
        have hsl2 : s < st.length := by omega
        have hsm : s < m := by omega
        have qsl := kst _ (List.getElem_mem hsl2)
        obtain ⟨g10, qg10⟩ : ∃ g10, castF g9 8 = g10 := ⟨_, rfl⟩
        obtain ⟨y3, qy3⟩ : ∃ y, castV g9 8 = y := ⟨_, rfl⟩
        obtain ⟨y4, qy4⟩ : ∃ v, oneV g10 [0, 1, -1, y3] = v := ⟨_, rfl⟩
        obtain ⟨g11, qg11⟩ : ∃ g11, oneF g10 [0, 1, -1, y3] = g11 := ⟨_, rfl⟩
        have hg10 := qg10
        have hy3 := qy3
        have hy4 := qy4
        have hg11 := qg11
        have qy5 : -1 ≤ y4 ∧ y4 ≤ 8 := by
          have h1 := oneV_mem g10 [0, 1, -1, y3] (by simp)
          have h2 := castV_lo g9 8
          have h3 := castV_hi g9 8 (by omega)
          rw [qy4] at h1
          simp only [List.mem_cons, List.not_mem_nil, or_false] at h1
          omega
        have hq1 : -1 ≤ y4 := qy5.1
        have hq2 : y4 ≤ 8 := qy5.2
        have hq3 : 0 ≤ st[s].least := qsl.1.least.1
        have hq4 : st[s].least ≤ 1000 := qsl.2
        obtain ⟨bid, qbid⟩ : ∃ bid, (if st[s].least + y4 > 0 then st[s].least + y4 else 0) = bid := ⟨_, rfl⟩
        have hbid := qbid
        replace F := F.add hkm |>.add hkz |>.add hs |>.add hsl2 |>.add hsm |>.add hg10 |>.add hy3 |>.add hy4 |>.add hg11 |>.add hq1 |>.add hq2 |>.add hq3 |>.add hq4 |>.add hbid
        refine wDe 20 [(14, [10000]), (16, [10000])] [[], [0], [], [2], [], [4], [], [6, 4, 5], [5, 4, 6, 7], [7, 6, 4, 5, 8, 2, 3], [3, 2, 8, 5, 4, 6, 7, 9], [9, 7, 6, 4, 5, 8, 2, 3, 10], [], [], [13], [13, 14], [14, 13, 15, 12], [12, 15, 13, 14, 16, 10, 3, 2, 8, 5, 4, 6, 7, 9, 11], [11, 9, 7, 6, 4, 5, 8, 2, 3, 10, 16, 14, 13, 15, 12, 17], [17, 12, 15, 13, 14, 16, 10, 3, 2, 8, 5, 4, 6, 7, 9, 11, 18], [18, 11, 9, 7, 6, 4, 5, 8, 2, 3, 10, 16, 14, 13, 15, 12, 17, 19, 0, 1], [20, 19, 18, 17, 16, 15, 14, 13, 12, 11, 10, 9, 8, 7, 6, 5, 4, 3, 2, 1, 0], [0, 1, 2, 3, 4, 5, 6, 7, 8, 9, 10, 11, 12, 13, 14, 15, 16, 17, 18, 19, 20, 21]] ?_
        refine dB [([90, 91, 92, 93, 94, 95, 96, 97, 98, 99, 100, 101, 102, 103, 104, 105, 106, 107], [], [10000, 10000]), ([90, 91, 92, 93, 94, 95, 96, 97, 98, 99, 100, 101, 102, 103, 104, 105, 106, 107], [true], [10000, 10000]), ([88, 89, 92, 93, 94, 95, 96, 100, 101, 102, 103, 104], [false, false], [10000, 10000]), ([88, 89, 92, 93, 94, 95, 96, 100, 101, 102, 103, 104], [false, false, true], [10000, 10000]), ([88, 89, 90, 91, 94, 100, 101, 102, 103, 104], [false, false, false, false], [10000, 10000]), ([88, 89, 90, 91, 94, 100, 101, 102, 103, 104], [false, false, false, false, true], [10000, 10000]), ([88, 89, 90, 91, 92, 93, 100, 101, 102, 103, 104], [false, false, false, false, false, false], [10000, 10000]), ([88, 89, 90, 91, 100, 101, 102, 103, 104], [false, false, false, false, true, true, true], [10000, 10000]), ([88, 89, 90, 91, 100, 101, 102, 103, 104], [false, false, false, false, true, true, true, true], [10000, 10000]), ([88, 89, 100, 101, 102, 103, 104], [false, false, true, true, true, true, true, true, true], [10000, 10000]), ([88, 89, 100, 101, 102, 103, 104], [false, false, true, true, true, true, true, true, true, true], [10000, 10000]), ([88, 89, 100, 101, 102, 103, 104], [false, false, true, true, true, true, true, true, true, true, true], [10000, 10000]), ([88, 89, 90, 91, 92, 93, 94, 95, 96, 97, 98, 99, 101, 102, 103], [false, false, false, false, false, false, false, false, false, false, false, false], [10000]), ([88, 89, 90, 91, 92, 93, 94, 95, 96, 97, 98, 99, 100], [false, false, false, false, false, false, false, false, false, false, false, false, false], [])] 6 14 ?_
        refine dC [88, 89, 90, 91, 92, 93, 94, 95, 96, 97, 98, 99, 100] [false, false, false, false, false, false, false, false, false, false, false, false, false, true] [] [(10000, 10000)] ?_
        refine cd (Cast_ok _ _ (by omega)) ?_
        refine dB [([88, 89, 90, 91, 92, 93, 94, 95, 96, 97, 98, 99, 100], [false, false, false, false, false, false, false, false, false, false, false, false, false, true, true], [])] 4 16 ?_
        refine dC [88, 89, 90, 91, 92, 93, 94, 95, 96, 97, 98, 99] [false, false, false, false, false, false, false, false, false, false, false, false, true, true, true, true] [] [(10000, 10000)] ?_
        refine cd (One_ok g10 [0, 1, -1, y3] (by simp)) ?_
        refine dBw [([88, 89], [false, false, true, true, true, true, true, true, true, true, true, true, true, true, true, true, true], []), ([88, 89], [false, false, true, true, true, true, true, true, true, true, true, true, true, true, true, true, true, true], []), ([88, 89], [false, false, true, true, true, true, true, true, true, true, true, true, true, true, true, true, true, true, true], [])] 0 20 ?_
        refine dD ?_
        refine oNw 3 ?_
        refine WOps.endK ?_
        refine hK14 _ ?_
        clear hK14 K14
        refine rEw ?_
        refine ⟨(bs ++ [bid], g11, k + 1), lf0, ?_, v0⟩
        ·
         refine ⟨by show (bs ++ [bid]).length = k + 1; rw [List.length_append]; simp only [List.length_singleton]; omega, by show k + 1 ≤ w; omega, fun b hb => ?_⟩
         rcases List.mem_append.1 hb with h | h
         · exact kbs b h
         · obtain rfl := List.mem_singleton.1 h
           rw [← qbid]
           split <;> omega
       ·
        try simp at hc6
        replace F := F.add hc6
        refine W.exit ?_
        refine hK12 _ ?_
        clear hK13 K13 hK12 K12
        refine W.region ?_
        refine oN 3 ?_
        refine fz 9016 ?_
        refine oNw 4 ?_
        refine WOps.endK ?_
        refine hK7 _ ?_
        clear hK7 K7
        refine rEw ?_
        refine ⟨(aps ++ [⟨y, tok, z67.1.take w, bs⟩], g9, j + 1), lf ?_ ?_, ?_, v0⟩
        ·
         exact v1
        ·
         try (simp [Fx.get F])
         all_goals (
          rw [List.take_of_length_le (by omega)]
         )
        ·
         refine ⟨fun x hx => ?_, by show (aps ++ [_]).length = j + 1; rw [List.length_append]; simp only [List.length_singleton]; omega, by show j + 1 ≤ c; omega⟩
         rcases List.mem_append.1 hx with h | h
         · exact kas x h
         · obtain rfl := List.mem_singleton.1 h
           refine ⟨qyy, qtt, fun x hx => ?_, (Order.nodup hz67).sublist (List.take_sublist _ _), ?_, kbs⟩
           · have := hz67.mem (List.mem_of_mem_take hx)
             rw [hsl]; exact this
           · show bs.length = (z67.1.take w).length
             rw [List.length_take]; omega
    ·
     try simp at hc3
     replace F := F.add hc3
     refine W.exit ?_
     refine hK5 _ ?_
     clear hK6 K6 hK5 K5
     refine rK [6] ?_
     refine W.ret ?_
     refine er false [] [(10000, 10000), (20000, 9000), (20001, 9008)] ?_
     have hjj : j = c := by omega
     have hac : aps.length = c := by omega
     refine ⟨(⟨st, aps⟩, g), by rw [← hsl, ← hal], rfl, ⟨⟨by show 0 < st.length; omega, by show st.length ≤ 8; omega, fun s hs => ?_, by show aps.length ≤ 8; omega, kas⟩, by show st.length ≤ p; omega, by show aps.length ≤ q; omega⟩⟩
     show StlOk aps.length s
     rw [hac]
     exact (kst s hs).1
end Go.Sim
