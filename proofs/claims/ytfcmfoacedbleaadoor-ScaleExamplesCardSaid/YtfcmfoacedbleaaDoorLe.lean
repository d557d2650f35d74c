/- Benches: what is known of masses and errors. -/
import Derived.Test.YtfcmfoacedbleaaDoorLd
namespace Go.Sim
open Go.Proofs
set_option maxRecDepth 100000
set_option linter.unusedSimpArgs false
set_option linter.unusedVariables false
attribute [-simp] List.map_set List.map_take List.map_drop
attribute [simp] D2_def
def offsT (t : Tab) (n : Nat) : List Spn := (List.range n).map fun i => ⟨(at2 t 0 (1 + i)).1, (at2 t 0 (1 + i)).2⟩
def errT (t : Tab) (b : Ben) (s d : Nat) : Spn := ⟨(turnD (at2 t 0 (dayN b s d))).1, (turnD (at2 t 0 (dayN b s d))).2⟩
def errsT (t : Tab) (b : Ben) (s n : Nat) : List Spn := (List.range n).map fun d => errT t b s d
theorem offsT_succ (t : Tab) (n : Nat) : offsT t (n + 1) = offsT t n ++ [⟨(at2 t 0 (1 + n)).1, (at2 t 0 (1 + n)).2⟩] := by rw [offsT, List.range_succ, List.map_append]; rfl
theorem errsT_succ (t : Tab) (b : Ben) (s n : Nat) : errsT t b s (n + 1) = errsT t b s n ++ [errT t b s n] := by rw [errsT, List.range_succ, List.map_append]; rfl
theorem offsT_len (t : Tab) (n : Nat) : (offsT t n).length = n := by simp [offsT]
theorem errsT_len (t : Tab) (b : Ben) (s n : Nat) : (errsT t b s n).length = n := by simp [errsT]
def knE (b : Ben) : Int := if knownT b = none then 9 else 0
def offsE (b : Ben) : Int := if checkB b ≠ 0 then checkB b else knE b
def offsL (b : Ben) : List Spn := if offsE b = 0 then offsT ((knownT b).getD []) b.mas.length else []
def chkSc (b : Ben) (s : Int) : Int := if checkB b ≠ 0 then checkB b else if inB s 0 ((b.scl.length : Int) - 1) = false then 3 else 0
def errsE (b : Ben) (s : Int) : Int := if chkSc b s ≠ 0 then chkSc b s else knE b
def errsL (b : Ben) (s : Int) : List Spn := if errsE b s = 0 then errsT ((knownT b).getD []) b s.toNat (dd b) else []
theorem known_sq {b : Ben} (hv : ValidB b) {t : Tab} (h : knownT b = some t) : Sq (sizeB b) t := (known_some hv h).1.sq
theorem chkSc_zero {b : Ben} {s : Int} : chkSc b s = 0 ↔ ValidB b ∧ 0 ≤ s ∧ s < b.scl.length := by
  unfold chkSc
  by_cases h : checkB b = 0
  · rw [if_neg (Classical.not_not.2 h)]
    have hv := checkB_zero.1 h
    by_cases h2 : inB s 0 ((b.scl.length : Int) - 1) = false
    · rw [if_pos h2]
      rw [inB_false] at h2
      constructor
      · intro q; cases q
      · intro q; exfalso; omega
    · rw [if_neg h2]
      rw [inB_false] at h2
      exact ⟨fun _ => ⟨hv, by omega, by omega⟩, fun _ => rfl⟩
  · rw [if_pos h]
    exact ⟨fun q => absurd q h, fun q => absurd (checkB_zero.2 q.1) h⟩
set_option maxHeartbeats 4000000 in
theorem error_ok (b : Ben) (hv : ValidB b) (t : Tab) (hs : Sq (sizeB b) t) (s d : Nat) (hsl : s < b.scl.length) (hd : d < dd b) : ACalls Tryd.prog 63 [benV b, tabV t, I s, I d] [] (fun r o => r = spnV (errT t b s d) ∧ o = []) := by
 have F := Fx.nil
 refine ent Tryd.func63 Tryd.ntmps63 Tryd.results63 ?_
 have qd := hv.days
 have h3 := hv.s3
 have hm5 := hv.m5
 have qz := sizeB_le hv
 have q9 := dd_le hv
 have qdc := day_ok b (by omega) qd s d (by omega) (by omega)
 have qlt := dayN_lt hsl hd
 obtain ⟨v, qv⟩ : ∃ v, dayN b s d = v := ⟨_, rfl⟩
 rw [qv] at qdc qlt
 have htl : t.length = sizeB b := hs.1
 have hn0 : 0 < sizeB b := by omega
 have hr0 : (t[0]'(by omega)).length = sizeB b := hs.row (by omega)
 have hvn : v < sizeB b := qlt
 obtain ⟨x, qx⟩ : ∃ x, at2 t 0 v = x := ⟨_, rfl⟩
 have hx : (t[0]'(by omega))[v]'(by omega) = x := by rw [← at2_get]; exact qx
 replace F := F.add h3 |>.add hm5 |>.add htl |>.add hn0 |>.add hr0 |>.add hvn |>.add hx
 refine rK [1, 2, 3, 4, 8] ?_
 refine wD 11 [] [[], [0], [0, 1], [], [], [], [5, 4, 3], [3, 4, 5, 6, 1, 0, 2], [2, 0, 1, 6, 5, 4, 3, 7], [7, 3, 4, 5, 6, 1, 0, 2, 8], [], [8, 2, 0, 1, 6, 5, 4, 3, 7, 9, 10]] ?_
 refine dB [([13, 14, 15, 16, 9], [], []), ([13, 14, 15, 16, 9], [true], []), ([13, 14, 15, 16, 9], [true, true], []), ([10, 11, 12, 14, 15, 9], [false, false, false], []), ([10, 11, 12, 13, 15, 9], [false, false, false, false], []), ([10, 11, 12, 13, 14, 9], [false, false, false, false, false], [])] 5 6 ?_
 refine dC [10, 11, 12, 9] [false, false, false, true, true, true] [] [] ?_
 refine cd (qdc) ?_
 refine dB [([9], [true, true, true, true, true, true, true], []), ([9], [true, true, true, true, true, true, true, true], [])] 2 9 ?_
 refine dC [9] [true, true, true, true, true, true, true, true, true] [] [] ?_
 refine cd (turned_ok x) ?_
 refine dB [([10, 11, 12, 13, 14, 15, 16, 17, 18, 19], [false, false, false, false, false, false, false, false, false, false], [])] 0 11 ?_
 refine dD ?_
 refine oN 1 ?_
 refine oK [8, 9] ?_
 refine rK [8] ?_
 refine W.ret ?_
 refine er false [] [] ?_
 refine ⟨?_, rfl⟩
 rw [errT, qv, qx]
set_option maxHeartbeats 4000000 in
theorem checkScale_ok (b : Ben) (hLb : LenB b) (s : Int) : ACalls Tryd.prog 62 [benV b, I s] [] (fun r o => r = I (chkSc b s) ∧ o = []) := by
 have F := Fx.nil
 refine ent Tryd.func62 Tryd.ntmps62 Tryd.results62 ?_
 have hls : b.scl.length ≤ 1000 := hLb.scl
 replace F := F.add hls
 refine rK [1, 2] ?_
 refine W.seqk fun K1 hK1 => ?_
 refine W.seqR ?_
 refine oN 1 ?_
 refine oC [] ?_
 refine ct (Check_ok b hLb) ?_
 refine oN 1 ?_
 refine oK [1, 2, 5] ?_
 refine rK [1, 2, 5, 9] ?_
 refine it (fun hc1 => ?_) (fun hc1 => ?_)
 ·
  try simp at hc1
  replace F := F.add hc1
  refine rK [4] ?_
  refine W.ret ?_
  refine tr ?_
  clear hK1 K1
  refine er false [] [] ?_
  simp_all [chkSc]
 ·
  try simp at hc1
  replace F := F.add hc1
  refine W.skip ?_
  refine hK1 _ ?_
  clear hK1 K1
  refine W.seqk fun K2 hK2 => ?_
  by_cases hs1 : inB s 0 ((b.scl.length : Int) - 1) = true
  ·
   replace F := F.add hs1
   refine W.seqR ?_
   refine oNw 5 ?_
   refine oC [] ?_
   refine ct (in_ok _ _ _) ?_
   refine oN 1 ?_
   refine oK [17] ?_
   refine cF ?_
   refine W.skip ?_
   refine hK2 _ ?_
   clear hK2 K2
   refine rK [4] ?_
   refine W.ret ?_
   refine er false [] [] ?_
   simp_all [chkSc]
  ·
   replace F := F.add hs1
   refine W.seqR ?_
   refine oNw 5 ?_
   refine oC [] ?_
   refine ct (in_ok _ _ _) ?_
   refine oN 1 ?_
   refine oK [17] ?_
   refine cT ?_
   refine rK [4] ?_
   refine W.ret ?_
   refine tr ?_
   clear hK2 K2
   refine er false [] [] ?_
   simp_all [chkSc]
set_option maxHeartbeats 4000000 in
theorem Offs_ok (b : Ben) (hLb : LenB b) : ACalls Tryd.prog 7 [benV b] [] (fun r o => r = .tup [spansV (offsL b), I (offsE b)] ∧ o = []) := by
 have F := Fx.nil
 refine ent Tryd.func7 Tryd.ntmps7 Tryd.results7 ?_
 refine rK [1] ?_
 refine W.seqk fun K1 hK1 => ?_
 refine W.seqR ?_
 refine oN 1 ?_
 refine oC [] ?_
 refine ct (Check_ok b hLb) ?_
 refine oN 1 ?_
 refine oK [1, 4] ?_
 refine rK [1, 4, 14] ?_
 refine it (fun hc1 => ?_) (fun hc1 => ?_)
 ·
  try simp at hc1
  replace F := F.add hc1
  refine rK [2, 3] ?_
  refine W.ret ?_
  refine tr ?_
  clear hK1 K1
  refine er true [] [] ?_
  refine ⟨?_, rfl⟩
  have e : offsE b = checkB b := by rw [offsE, if_pos (by simpa using hc1)]
  rw [offsL, e, if_neg (by simpa using hc1)]; rfl
 ·
  try simp at hc1
  replace F := F.add hc1
  refine W.skip ?_
  refine hK1 _ ?_
  clear hK1 K1
  have qv : ValidB b := checkB_zero.1 (by simpa using hc1)
  refine rK [1, 5] ?_
  by_cases hk : knownT b = none
  ·
   replace F := F.add hk
   refine W.seqR ?_
   refine oN 1 ?_
   refine oC [] ?_
   refine ct (known_ok b qv) ?_
   refine oN 5 ?_
   refine oK [1, 5, 6, 7] ?_
   refine W.seqk fun K2 hK2 => ?_
   refine rK [1, 5, 6, 24] ?_
   refine cT ?_
   refine rK [2, 3] ?_
   refine W.ret ?_
   refine tr ?_
   clear hK2 K2
   refine er true [] [] ?_
   refine ⟨?_, rfl⟩
   have e : offsE b = 9 := by rw [offsE, if_neg (by simpa using hc1), knE, if_pos hk]
   rw [offsL, e, if_neg (by decide)]; rfl
  ·
   replace F := F.add hk
   obtain ⟨t, qt⟩ := Option.ne_none_iff_exists'.1 hk
   have hqt := qt
   have qz := sizeB_le qv
   have qs := known_sq qv qt
   have htl : t.length = sizeB b := qs.1
   have hn0 : 0 < sizeB b := by omega
   have hr0 : (t[0]'(by omega)).length = sizeB b := qs.row (by omega)
   have hm5 : b.mas.length ≤ 5 := qv.m5
   replace F := F.add hqt |>.add htl |>.add hn0 |>.add hr0 |>.add hm5
   refine W.seqR ?_
   refine oN 1 ?_
   refine oC [] ?_
   refine ct (known_ok b qv) ?_
   refine oN 5 ?_
   refine oK [1, 5, 6, 7] ?_
   refine W.seqk fun K3 hK3 => ?_
   refine rK [1, 5, 6, 24] ?_
   refine cF ?_
   refine W.skip ?_
   refine hK3 _ ?_
   clear hK3 K3
   refine rK [1, 5, 6, 8] ?_
   refine W.seqk fun K4 hK4 => ?_
   refine rK [5, 6, 8, 27, 28] ?_
   refine W.block ?_
   refine sn 8 9000 30 2 ?_
   refine lp (α := Nat) [5, 6, 27] [10, 36, 45, 46] [9000] (fun i => [(28, I i), (8, .own 9000 0 i)]) (fun i => [(9000, .row true 30 2 ((offsT t i).map S2))]) (fun i => i ≤ b.mas.length) (fun i => b.mas.length - i) 0 ?_ ?_ v0 ?_
   ·
    exact v1
   ·
    try (simp [Fx.get F])
    all_goals (
     rfl
    )
   ·
    intro i hI0
    simp only [List.cons_append, List.nil_append]
    try dsimp only at hI0
    replace F := F.add hI0
    refine rK [5, 6, 8, 27, 28, 29] ?_
    refine W.seqk fun K5 hK5 => ?_
    refine it (fun hc4 => ?_) (fun hc4 => ?_)
    ·
     try simp at hc4
     replace F := F.add hc4
     refine W.skip ?_
     refine hK5 _ ?_
     clear hK5 K5
     refine W.seqk fun K6 hK6 => ?_
     refine W.block ?_
     have him : i < b.mas.length := by omega
     have qmc := mass_ok b i (by omega)
     have qvn : 1 + i < sizeB b := by unfold sizeB; omega
     have qsc := offsT_succ t i
     obtain ⟨v, qv2⟩ : ∃ v, 1 + i = v := ⟨_, rfl⟩
     rw [qv2] at qmc qvn qsc
     have hvn : v < sizeB b := qvn
     obtain ⟨x, qx⟩ : ∃ x, at2 t 0 v = x := ⟨_, rfl⟩
     rw [qx] at qsc
     have hsc := qsc
     have hx : (t[0]'(by omega))[v]'(by omega) = x := by rw [← at2_get]; exact qx
     have hol : (offsT t i).length = i := offsT_len t i
     replace F := F.add him |>.add hvn |>.add hsc |>.add hx |>.add hol
     refine rK [5, 6, 8, 9, 27, 28] ?_
     refine wD 9 [] [[], [0], [0, 1], [], [], [4, 3], [3, 4, 5, 1, 0, 2], [2, 0, 1, 5, 4, 3, 6], [], [6, 3, 4, 5, 1, 0, 2, 7, 8]] ?_
     refine dB [([34, 35, 36, 10], [], []), ([34, 35, 36, 10], [true], []), ([34, 35, 36, 10], [true, true], []), ([31, 32, 33, 35, 10], [false, false, false], []), ([31, 32, 33, 34, 10], [false, false, false, false], [])] 4 5 ?_
     refine dC [31, 32, 33, 10] [false, false, false, true, true] [] [] ?_
     refine cd (qmc) ?_
     refine dB [([10], [true, true, true, true, true, true], []), ([10], [true, true, true, true, true, true, true], []), ([31, 32, 33, 34, 35, 36, 37, 38], [false, false, false, false, false, false, false, false], [])] 0 9 ?_
     refine dD ?_
     refine oN 1 ?_
     refine oK [5, 6, 8, 10, 27, 28] ?_
     refine rEw ?_
     refine hK6 _ ?_
     clear hK6 K6
     refine rEw ?_
     refine ⟨i + 1, lf0, v0, v0⟩
    ·
     try simp at hc4
     replace F := F.add hc4
     refine W.exit ?_
     refine hK4 _ ?_
     clear hK5 K5 hK4 K4
     have hol2 : (offsT t i).length = i := offsT_len t i
     replace F := F.add hol2
     refine rK [2, 3] ?_
     refine W.ret ?_
     refine er true [9000] [] ?_
     refine ⟨?_, rfl⟩
     have hie : i = b.mas.length := by omega
     have e : offsE b = 0 := by rw [offsE, if_neg (by simpa using hc1), knE, if_neg hk]
     rw [offsL, e, if_pos rfl, qt, List.take_of_length_le (by omega), hie]; rfl
theorem knE_some {b : Ben} (h : knownT b ≠ none) : knE b = 0 := by rw [knE, if_neg h]
theorem knE_none {b : Ben} (h : knownT b = none) : knE b = 9 := by rw [knE, if_pos h]
set_option maxHeartbeats 4000000 in
theorem Errors_ok (b : Ben) (hLb : LenB b) (s : Int) : ACalls Tryd.prog 18 [benV b, I s] [] (fun r o => r = .tup [spansV (errsL b s), I (errsE b s)] ∧ o = []) := by
 have F := Fx.nil
 refine ent Tryd.func18 Tryd.ntmps18 Tryd.results18 ?_
 refine rK [1, 2] ?_
 refine W.seqk fun K1 hK1 => ?_
 refine W.seqR ?_
 refine oN 2 ?_
 refine oC [] ?_
 refine ct (checkScale_ok b hLb s) ?_
 refine oN 1 ?_
 refine oK [1, 2, 6] ?_
 refine rK [1, 2, 6, 16] ?_
 refine it (fun hc1 => ?_) (fun hc1 => ?_)
 ·
  try simp at hc1
  replace F := F.add hc1
  refine rK [4, 5] ?_
  refine W.ret ?_
  refine tr ?_
  clear hK1 K1
  refine er true [] [] ?_
  refine ⟨?_, rfl⟩
  have e : errsE b s = chkSc b s := by rw [errsE, if_pos (by simpa using hc1)]
  rw [errsL, e, if_neg (by simpa using hc1)]; rfl
 ·
  try simp at hc1
  replace F := F.add hc1
  refine W.skip ?_
  refine hK1 _ ?_
  clear hK1 K1
  obtain ⟨qv, q1, q2⟩ := chkSc_zero.1 (show chkSc b s = 0 by simpa using hc1)
  obtain ⟨sk, qsn⟩ : ∃ n : Nat, s = (n : Int) := ⟨s.toNat, by omega⟩
  have hsn := qsn
  have qsl : sk < b.scl.length := by omega
  have qdy := qv.days
  have hd1 : 0 ≤ b.days := qdy.1
  have hd2 : b.days ≤ 8 := qdy.2
  replace F := F.add hsn |>.add hd1 |>.add hd2
  refine rK [1, 2, 7] ?_
  by_cases hk : knownT b = none
  ·
   replace F := F.add hk
   refine W.seqR ?_
   refine oN 1 ?_
   refine oC [] ?_
   refine ct (known_ok b qv) ?_
   refine oN 5 ?_
   refine oK [1, 2, 7, 8, 9] ?_
   refine W.seqk fun K2 hK2 => ?_
   refine rK [1, 2, 7, 8, 26] ?_
   refine cT ?_
   refine rK [4, 5] ?_
   refine W.ret ?_
   refine tr ?_
   clear hK2 K2
   refine er true [] [] ?_
   refine ⟨?_, rfl⟩
   have e : errsE b s = 9 := by rw [errsE, if_neg (by simpa using hc1), knE_none hk]
   rw [errsL, e, if_neg (by decide)]; rfl
  ·
   replace F := F.add hk
   obtain ⟨t, qt⟩ := Option.ne_none_iff_exists'.1 hk
   have hqt := qt
   have qs := known_sq qv qt
   replace F := F.add hqt
   refine W.seqR ?_
   refine oN 1 ?_
   refine oC [] ?_
   refine ct (known_ok b qv) ?_
   refine oN 5 ?_
   refine oK [1, 2, 7, 8, 9] ?_
   refine W.seqk fun K3 hK3 => ?_
   refine rK [1, 2, 7, 8, 26] ?_
   refine cF ?_
   refine W.skip ?_
   refine hK3 _ ?_
   clear hK3 K3
   refine rK [1, 2, 7, 8, 10] ?_
   refine W.seqk fun K4 hK4 => ?_
   refine rKw [1, 7, 8, 10, 29, 30] ?_
   refine W.block ?_
   refine sn 10 9000 30 2 ?_
   refine lp (α := Nat) [1, 7, 8, 29] [38, 39, 40] [9000] (fun d => [(30, I d), (10, .own 9000 0 d)]) (fun d => [(9000, .row true 30 2 ((errsT t b sk d).map S2))]) (fun d => (d : Int) ≤ b.days + 1) (fun d => (b.days + 1).toNat - d) 0 ?_ ?_ v0 ?_
   ·
    exact v1
   ·
    try (simp [Fx.get F])
    all_goals (
     rfl
    )
   ·
    intro d hI0
    simp only [List.cons_append, List.nil_append]
    try dsimp only at hI0
    replace F := F.add hI0
    refine rK [1, 7, 8, 10, 29, 30, 31] ?_
    refine W.seqk fun K5 hK5 => ?_
    refine it (fun hc4 => ?_) (fun hc4 => ?_)
    ·
     try simp at hc4
     replace F := F.add hc4
     refine W.skip ?_
     refine hK5 _ ?_
     clear hK5 K5
     refine W.seqk fun K6 hK6 => ?_
     refine W.block ?_
     have hdl : (d : Int) < b.days + 1 := by omega
     have qsc := errsT_succ t b sk d
     obtain ⟨x, qx⟩ : ∃ x, errT t b sk d = x := ⟨_, rfl⟩
     have qec := error_ok b qv t qs sk d qsl (by unfold dd; omega)
     rw [qx] at qsc qec
     have hsc := qsc
     have hol : (errsT t b sk d).length = d := errsT_len t b sk d
     replace F := F.add hdl |>.add hsc |>.add hol
     refine rK [1, 7, 8, 10, 11, 29, 30] ?_
     refine W.region ?_
     refine oN 5 ?_
     refine oC [] ?_
     refine ct (qec) ?_
     refine oNw 3 ?_
     refine WOps.endK ?_
     refine hK6 _ ?_
     clear hK6 K6
     refine rEw ?_
     refine ⟨d + 1, lf0, v0, v0⟩
    ·
     try simp at hc4
     replace F := F.add hc4
     refine W.exit ?_
     refine hK4 _ ?_
     clear hK5 K5 hK4 K4
     have hol2 : (errsT t b sk d).length = d := errsT_len t b sk d
     replace F := F.add hol2
     refine rK [4, 5] ?_
     refine W.ret ?_
     refine er true [9000] [] ?_
     refine ⟨?_, rfl⟩
     have hie : d = dd b := by unfold dd; omega
     have e : errsE b s = 0 := by rw [errsE, if_neg (by simpa using hc1), knE_some hk]
     rw [errsL, e, if_pos rfl, qt, List.take_of_length_le (by omega), hie, qsn, Int.toNat_natCast]; rfl
def onE (b : Ben) (s day o most : Int) : Int := if chkSc b s ≠ 0 then chkSc b s else if (!inB day 0 b.days || !inB o 0 most) = true then 1 else knE b
def onX (b : Ben) (s day o most : Int) : Spn := if onE b s day o most = 0 then errT ((knownT b).getD []) b s.toNat day.toNat else ⟨0, 0⟩
set_option maxHeartbeats 4000000 in
theorem on_ok (b : Ben) (hLb : LenB b) (s day o most : Int) : ACalls Tryd.prog 46 [benV b, I s, I day, I o, I most] [] (fun r o' => r = .tup [spnV (onX b s day o most), I (onE b s day o most)] ∧ o' = []) := by
 have F := Fx.nil
 refine ent Tryd.func46 Tryd.ntmps46 Tryd.results46 ?_
 refine rK [1, 2, 3, 4, 5, 10] ?_
 refine W.seqk fun K1 hK1 => ?_
 refine W.seqR ?_
 refine oN 2 ?_
 refine oC [] ?_
 refine ct (checkScale_ok b hLb s) ?_
 refine oN 1 ?_
 refine oK [1, 2, 3, 4, 5, 10, 12] ?_
 refine rK [1, 2, 3, 4, 5, 10, 12, 20] ?_
 refine it (fun hc1 => ?_) (fun hc1 => ?_)
 ·
  try simp at hc1
  replace F := F.add hc1
  refine rK [10, 11] ?_
  refine W.ret ?_
  refine tr ?_
  clear hK1 K1
  refine er false [] [] ?_
  refine ⟨?_, rfl⟩
  have e : onE b s day o most = chkSc b s := by rw [onE, if_pos (by simpa using hc1)]
  rw [onX, e, if_neg (by simpa using hc1)]
 ·
  try simp at hc1
  replace F := F.add hc1
  refine W.skip ?_
  refine hK1 _ ?_
  clear hK1 K1
  refine W.seqk fun K2 hK2 => ?_
  by_cases hs1 : inB day 0 b.days = true
  ·
   replace F := F.add hs1
   by_cases hs2 : inB o 0 most = true
   ·
    replace F := F.add hs2
    obtain ⟨qv, q1, q2⟩ := chkSc_zero.1 (show chkSc b s = 0 by simpa using hc1)
    refine W.seqR ?_
    refine oN 3 ?_
    refine oC [] ?_
    refine ct (in_ok _ _ _) ?_
    refine oN 2 ?_
    refine gT ?_
    refine gT ?_
    refine gC [] ?_
    refine ct (in_ok _ _ _) ?_
    refine gT ?_
    refine oN 1 ?_
    refine oK [1, 2, 5, 10, 33] ?_
    refine cF ?_
    refine W.skip ?_
    refine hK2 _ ?_
    clear hK2 K2
    obtain ⟨sk, qsn⟩ : ∃ n : Nat, s = (n : Int) := ⟨s.toNat, by omega⟩
    have qdr := inB_iff.1 hs1
    obtain ⟨dn, qdn⟩ : ∃ n : Nat, day = (n : Int) := ⟨day.toNat, by omega⟩
    have hsn := qsn
    have hdn := qdn
    have qsl : sk < b.scl.length := by omega
    have qdl : dn < dd b := by unfold dd; omega
    replace F := F.add hsn |>.add hdn
    refine rK [1, 2, 10, 13] ?_
    by_cases hk : knownT b = none
    ·
     replace F := F.add hk
     refine W.seqR ?_
     refine oN 1 ?_
     refine oC [] ?_
     refine ct (known_ok b qv) ?_
     refine oN 5 ?_
     refine oK [1, 2, 10, 13, 14, 15] ?_
     refine W.seqk fun K3 hK3 => ?_
     refine rK [1, 2, 10, 13, 14, 43] ?_
     refine cT ?_
     refine rK [10, 11] ?_
     refine W.ret ?_
     refine tr ?_
     clear hK3 K3
     refine er false [] [] ?_
     refine ⟨?_, rfl⟩
     have e : onE b s day o most = 9 := by rw [onE, if_neg (by simpa using hc1), if_neg (by simp [hs1, hs2]), knE_none hk]
     rw [onX, e, if_neg (by decide)]
    ·
     replace F := F.add hk
     obtain ⟨t, qt⟩ := Option.ne_none_iff_exists'.1 hk
     have hqt := qt
     have qs := known_sq qv qt
     replace F := F.add hqt
     refine W.seqR ?_
     refine oN 1 ?_
     refine oC [] ?_
     refine ct (known_ok b qv) ?_
     refine oN 5 ?_
     refine oK [1, 2, 10, 13, 14, 15] ?_
     refine W.seqk fun K4 hK4 => ?_
     refine rK [1, 2, 10, 13, 14, 43] ?_
     refine cF ?_
     refine W.skip ?_
     refine hK4 _ ?_
     clear hK4 K4
     refine W.seqR ?_
     refine oN 4 ?_
     refine oC [] ?_
     refine ct (error_ok b qv t qs sk dn qsl qdl) ?_
     refine oN 2 ?_
     refine oK [10, 11] ?_
     refine W.ret ?_
     refine er false [] [] ?_
     refine ⟨?_, rfl⟩
     have e : onE b s day o most = 0 := by rw [onE, if_neg (by simpa using hc1), if_neg (by simp [hs1, hs2]), knE_some hk]
     rw [onX, e, if_pos rfl, qt, qsn, qdn, Int.toNat_natCast, Int.toNat_natCast]; rfl
   ·
    replace F := F.add hs2
    obtain ⟨qv, q1, q2⟩ := chkSc_zero.1 (show chkSc b s = 0 by simpa using hc1)
    refine W.seqR ?_
    refine oN 3 ?_
    refine oC [] ?_
    refine ct (in_ok _ _ _) ?_
    refine oN 2 ?_
    refine gT ?_
    refine gT ?_
    refine gC [] ?_
    refine ct (in_ok _ _ _) ?_
    refine gT ?_
    refine oN 1 ?_
    refine oK [1, 2, 5, 10, 33] ?_
    refine cT ?_
    refine rK [10, 11] ?_
    refine W.ret ?_
    refine tr ?_
    clear hK2 K2
    refine er false [] [] ?_
    refine ⟨?_, rfl⟩
    have e : onE b s day o most = 1 := by rw [onE, if_neg (by simpa using hc1), if_pos (by simp [hs1, hs2])]
    rw [onX, e, if_neg (by decide)]
  ·
   replace F := F.add hs1
   obtain ⟨qv, q1, q2⟩ := chkSc_zero.1 (show chkSc b s = 0 by simpa using hc1)
   refine W.seqR ?_
   refine oN 3 ?_
   refine oC [] ?_
   refine ct (in_ok _ _ _) ?_
   refine oN 2 ?_
   refine gF ?_
   refine gF ?_
   refine gF ?_
   refine gF ?_
   refine oN 1 ?_
   refine oK [1, 2, 5, 10, 33] ?_
   refine cT ?_
   refine rK [10, 11] ?_
   refine W.ret ?_
   refine tr ?_
   clear hK2 K2
   refine er false [] [] ?_
   refine ⟨?_, rfl⟩
   have e : onE b s day o most = 1 := by rw [onE, if_neg (by simpa using hc1), if_pos (by simp [hs1])]
   rw [onX, e, if_neg (by decide)]
def weiE (b : Ben) (s day sh : Int) : Int := onE b s day sh 2000000
def weiX (b : Ben) (s day sh : Int) : Spn := if weiE b s day sh = 0 then ⟨IntKind.i64.wrap (sh - (onX b s day sh 2000000).hi), IntKind.i64.wrap (sh - (onX b s day sh 2000000).lo)⟩ else ⟨0, 0⟩
set_option maxHeartbeats 4000000 in
theorem Weight_ok (b : Ben) (hLb : LenB b) (s day sh : Int) : ACalls Tryd.prog 8 [benV b, I s, I day, I sh] [] (fun r o' => r = .tup [spnV (weiX b s day sh), I (weiE b s day sh)] ∧ o' = []) := by
 have F := Fx.nil
 refine ent Tryd.func8 Tryd.ntmps8 Tryd.results8 ?_
 refine rK [1, 2, 3, 4, 8] ?_
 refine W.seqR ?_
 refine oN 4 ?_
 refine oC [] ?_
 refine ct (on_ok b hLb s day sh 2000000) ?_
 refine oN 6 ?_
 refine oK [3, 8, 10, 11] ?_
 refine W.seqk fun K1 hK1 => ?_
 refine rK [3, 8, 10, 11, 21] ?_
 refine it (fun hc1 => ?_) (fun hc1 => ?_)
 ·
  try simp at hc1
  replace F := F.add hc1
  refine rK [8, 9] ?_
  refine W.ret ?_
  refine tr ?_
  clear hK1 K1
  refine er false [] [] ?_
  first | trivial | simp_all [weiE, weiX]
 ·
  try simp at hc1
  replace F := F.add hc1
  refine W.skip ?_
  refine hK1 _ ?_
  clear hK1 K1
  refine rK [8, 9] ?_
  refine W.ret ?_
  refine er false [] [] ?_
  first | trivial | simp_all [weiE, weiX]
def verdX (x : Spn) (limit : Int) : Int := if -limit ≤ x.lo ∧ x.hi ≤ limit then 1 else if limit < x.lo ∨ x.hi < -limit then 2 else 3
def keeE (b : Ben) (s day l : Int) : Int := onE b s day l 10000
def keeV (b : Ben) (s day l : Int) : Int := if keeE b s day l = 0 then verdX (onX b s day l 10000) l else 0
theorem onE_zero {b : Ben} {s day o most : Int} (h : onE b s day o most = 0) : (ValidB b ∧ 0 ≤ s ∧ s < b.scl.length) ∧ (0 ≤ day ∧ day ≤ b.days) ∧ (0 ≤ o ∧ o ≤ most) ∧ knownT b ≠ none := by
  unfold onE at h
  by_cases h1 : chkSc b s = 0
  · rw [if_neg (Classical.not_not.2 h1)] at h
    by_cases h2 : (!inB day 0 b.days || !inB o 0 most) = true
    · rw [if_pos h2] at h; cases h
    · rw [if_neg h2] at h
      rw [or_inB] at h2
      refine ⟨chkSc_zero.1 h1, by omega, by omega, fun hk => ?_⟩
      rw [knE_none hk] at h; cases h
  · rw [if_pos h1] at h; exact absurd h h1
set_option maxHeartbeats 4000000 in
theorem Keeps_ok (b : Ben) (hLb : LenB b) (s day l : Int) : ACalls Tryd.prog 12 [benV b, I s, I day, I l] [] (fun r o' => r = .tup [I (keeV b s day l), I (keeE b s day l)] ∧ o' = []) := by
 have F := Fx.nil
 refine ent Tryd.func12 Tryd.ntmps12 Tryd.results12 ?_
 refine rK [1, 2, 3, 4] ?_
 refine W.seqR ?_
 refine oN 4 ?_
 refine oC [] ?_
 refine ct (on_ok b hLb s day l 10000) ?_
 refine oN 6 ?_
 refine oK [3, 10, 11] ?_
 refine W.seqk fun K1 hK1 => ?_
 refine W.block ?_
 refine rK [3, 10, 11, 20] ?_
 refine it (fun hc1 => ?_) (fun hc1 => ?_)
 ·
  try simp at hc1
  replace F := F.add hc1
  refine rK [8, 9] ?_
  refine W.ret ?_
  refine br (tr ?_)
  clear hK1 K1
  refine er false [] [] ?_
  refine ⟨?_, rfl⟩
  rw [keeV, if_neg (show ¬ keeE b s day l = 0 from hc1)]; rfl
 ·
  try simp at hc1
  replace F := F.add hc1
  have qz := onE_zero (show onE b s day l 10000 = 0 by simpa using hc1)
  have hl1 : 0 ≤ l := by omega
  have hl2 : l ≤ 10000 := by omega
  obtain ⟨x, qx⟩ : ∃ x, onX b s day l 10000 = x := ⟨_, rfl⟩
  have hx := qx
  replace F := F.add hl1 |>.add hl2 |>.add hx
  by_cases h1 : -l ≤ x.lo
  ·
   replace F := F.add h1
   by_cases h2 : x.hi ≤ l
   ·
    replace F := F.add h2
    refine W.seqR ?_
    refine oNw 6 ?_
    refine gT ?_
    refine gT ?_
    refine gT ?_
    refine gT ?_
    refine oN 2 ?_
    refine oK [3, 10, 24] ?_
    refine cT ?_
    refine rK [8, 9] ?_
    refine W.ret ?_
    refine br (tr ?_)
    clear hK1 K1
    refine er false [] [] ?_
    refine ⟨?_, rfl⟩
    have e : keeE b s day l = 0 := hc1
    rw [keeV, e, if_pos rfl, qx, verdX, if_pos (by omega)]
   ·
    replace F := F.add h2
    refine W.seqR ?_
    refine oNw 6 ?_
    refine gT ?_
    refine gT ?_
    refine gT ?_
    refine gT ?_
    refine oN 2 ?_
    refine oK [3, 10, 24] ?_
    refine cF ?_
    by_cases h3 : l < x.lo
    ·
     replace F := F.add h3
     refine W.seqR ?_
     refine oN 5 ?_
     refine gF ?_
     refine gF ?_
     refine gF ?_
     refine gF ?_
     refine gF ?_
     refine oN 2 ?_
     refine oK [36] ?_
     refine cT ?_
     refine rK [8, 9] ?_
     refine W.ret ?_
     refine br (tr ?_)
     clear hK1 K1
     refine er false [] [] ?_
     refine ⟨?_, rfl⟩
     have e : keeE b s day l = 0 := hc1
     rw [keeV, e, if_pos rfl, qx, verdX, if_neg (by omega), if_pos (by omega)]
    ·
     replace F := F.add h3
     by_cases h4 : x.hi < -l
     ·
      replace F := F.add h4
      refine W.seqR ?_
      refine oN 5 ?_
      refine gT ?_
      refine gT ?_
      refine gT ?_
      refine gTw ?_
      refine gT ?_
      refine oN 2 ?_
      refine oK [36] ?_
      refine cT ?_
      refine rK [8, 9] ?_
      refine W.ret ?_
      refine br (tr ?_)
      clear hK1 K1
      refine er false [] [] ?_
      refine ⟨?_, rfl⟩
      have e : keeE b s day l = 0 := hc1
      rw [keeV, e, if_pos rfl, qx, verdX, if_neg (by omega), if_pos (by omega)]
     ·
      replace F := F.add h4
      refine W.seqR ?_
      refine oN 5 ?_
      refine gT ?_
      refine gT ?_
      refine gT ?_
      refine gTw ?_
      refine gT ?_
      refine oN 2 ?_
      refine oK [36] ?_
      refine cF ?_
      refine W.skip ?_
      refine hK1 _ ?_
      clear hK1 K1
      refine rK [8, 9] ?_
      refine W.ret ?_
      refine er false [] [] ?_
      refine ⟨?_, rfl⟩
      have e : keeE b s day l = 0 := hc1
      rw [keeV, e, if_pos rfl, qx, verdX, if_neg (by omega), if_neg (by omega)]
  ·
   replace F := F.add h1
   refine W.seqR ?_
   refine oNw 6 ?_
   refine gF ?_
   refine gF ?_
   refine gF ?_
   refine gF ?_
   refine oN 2 ?_
   refine oK [3, 10, 24] ?_
   refine cF ?_
   by_cases h3 : l < x.lo
   ·
    replace F := F.add h3
    refine W.seqR ?_
    refine oN 5 ?_
    refine gF ?_
    refine gF ?_
    refine gF ?_
    refine gF ?_
    refine gF ?_
    refine oN 2 ?_
    refine oK [36] ?_
    refine cT ?_
    refine rK [8, 9] ?_
    refine W.ret ?_
    refine br (tr ?_)
    clear hK1 K1
    refine er false [] [] ?_
    refine ⟨?_, rfl⟩
    have e : keeE b s day l = 0 := hc1
    rw [keeV, e, if_pos rfl, qx, verdX, if_neg (by omega), if_pos (by omega)]
   ·
    replace F := F.add h3
    by_cases h4 : x.hi < -l
    ·
     replace F := F.add h4
     refine W.seqR ?_
     refine oN 5 ?_
     refine gT ?_
     refine gT ?_
     refine gT ?_
     refine gTw ?_
     refine gT ?_
     refine oN 2 ?_
     refine oK [36] ?_
     refine cT ?_
     refine rK [8, 9] ?_
     refine W.ret ?_
     refine br (tr ?_)
     clear hK1 K1
     refine er false [] [] ?_
     refine ⟨?_, rfl⟩
     have e : keeE b s day l = 0 := hc1
     rw [keeV, e, if_pos rfl, qx, verdX, if_neg (by omega), if_pos (by omega)]
    ·
     replace F := F.add h4
     refine W.seqR ?_
     refine oN 5 ?_
     refine gT ?_
     refine gT ?_
     refine gT ?_
     refine gTw ?_
     refine gT ?_
     refine oN 2 ?_
     refine oK [36] ?_
     refine cF ?_
     refine W.skip ?_
     refine hK1 _ ?_
     clear hK1 K1
     refine rK [8, 9] ?_
     refine W.ret ?_
     refine er false [] [] ?_
     refine ⟨?_, rfl⟩
     have e : keeE b s day l = 0 := hc1
     rw [keeV, e, if_pos rfl, qx, verdX, if_neg (by omega), if_neg (by omega)]
end Go.Sim
