/- Benches: the fewest results that contradict each other. -/
import Derived.Test.YtfcmfoacedbleaaDoorQf
import Derived.Test.YtfcmfoacedbleaaDoorLe
namespace Go.Sim
open Go.Proofs
set_option maxRecDepth 100000
set_option linter.unusedSimpArgs false
set_option linter.unusedVariables false
attribute [-simp] List.map_set List.map_take List.map_drop
attribute [simp] spn_eta
set_option maxHeartbeats 4000000 in
theorem CloneI_nil  : ACalls Tryd.prog 49 [ints []] [] (fun r o => r = .own 20000 0 0 ∧ o = [(20000, .row true 3 1 [])]) := by
 have F := Fx.nil
 refine ent Tryd.func49 Tryd.ntmps49 Tryd.results49 ?_
 refine rK [0] ?_
 refine W.seqk fun K1 hK1 => ?_
 refine W.seqR ?_
 refine oN 1 ?_
 refine WOps.nilU hΓ rfl rfl rfl rfl rfl (by first | rfl | (simp; done)) (by first | rfl | (simp; done)) fun b => ?_
 refine WOps.norm (by simp; rfl) ?_
 refine oK [0, 4] ?_
 refine it (fun hc1 => ?_) (fun hc1 => ?_)
 ·
  try simp at hc1
  replace F := F.add hc1
  refine rK [2] ?_
  refine W.weaken (Le.ownNil (t := 2) (id := 9000) (ty := 3) (sz := 1) rfl (by simp [hc1])) ?_
  refine W.norm (by simp [hc1, St.ownNil]; rfl) ?_
  refine W.ret ?_
  refine tr ?_
  clear hK1 K1
  refine er false [] [(20000, 9000)] ?_
  exact ⟨rfl, rfl⟩
 ·
  try simp at hc1
  replace F := F.add hc1
  refine W.skip ?_
  refine hK1 _ ?_
  clear hK1 K1
  refine rKw [2] ?_
  refine W.ret ?_
  refine er false [] [(20000, 40)] ?_
  exact ⟨rfl, rfl⟩
set_option maxHeartbeats 4000000 in
theorem CloneI_cons (y : Int) (r : List Int) (h8 : r.length ≤ 100000) : ACalls Tryd.prog 49 [ints (y :: r)] [] (fun z o => z = .own 20000 0 (r.length + 1) ∧ o = [(20000, .row true 3 1 ((y :: r).map I))]) := by
 have F := Fx.nil
 replace F := F.add h8
 refine ent Tryd.func49 Tryd.ntmps49 Tryd.results49 ?_
 refine rK [0] ?_
 refine W.seqk fun K1 hK1 => ?_
 refine rK [0, 4] ?_
 refine cF ?_
 refine W.skip ?_
 refine hK1 _ ?_
 clear hK1 K1
 refine rKw [2] ?_
 refine W.ret ?_
 exact er0 false [] [(20000, 40)]
theorem CloneI_ok (xs : List Int) (h8 : xs.length ≤ 100000) : ACalls Tryd.prog 49 [ints xs] [] (fun z o => z = .own 20000 0 xs.length ∧ o = [(20000, .row true 3 1 (xs.map I))]) := by
  cases xs with
  | nil => exact CloneI_nil
  | cons y r => exact CloneI_cons y r (by simp at h8; omega)
abbrev factsO (fs : List Fct) : Obj := .row false 93 1 [.imm (fs.map F4)]
abbrev srchO : Obj := .row false 99 1 [.clo 48 [.ptr 10000 0 0, .ptr 10001 0 0]]
abbrev sobs (fs : List Fct) : List (Nat × Obj) := [(10000, factsO fs), (10001, srchO)]
set_option maxHeartbeats 4000000 in
theorem Srch_step (fs : List Fct) (n : Nat) (hn1 : 1 ≤ n) (hn2 : n ≤ 1000) (hfs : ∀ f ∈ fs, FctOk n f) (hfl : fs.length ≤ 1000) (m : Nat) (hmb : m ≤ 1000) (t : Tab) (hs : Sq n t) (ch : List Int) (hch : ch.length ≤ 1000) (i0 : Nat) (hi0 : i0 ≤ fs.length) (ih : 0 < m → ∀ u, Sq n u → ∀ i : Nat, i < fs.length → ACalls Tryd.prog 48 [tabV u, ints (ch ++ [(i : Int)]), I ((i : Int) + 1), I m, .ptr 10000 0 0, .ptr 10001 0 0] (sobs fs) (fun r o => r = optV (srchT fs m u (ch ++ [(i : Int)]) (i + 1)) ∧ o = sobs fs)) : ACalls Tryd.prog 48 [tabV t, ints ch, I i0, I ((m : Int) + 1), .ptr 10000 0 0, .ptr 10001 0 0] (sobs fs) (fun r o => r = optV (srchT fs (m + 1) t ch i0) ∧ o = sobs fs) := by
 have F := Fx.nil
 replace F := F.add hfl |>.add hmb |>.add hch |>.add hi0
 refine ent Tryd.func48 Tryd.ntmps48 Tryd.results48 ?_
 refine rK [0, 1, 2, 3, 4, 5] ?_
 refine W.seqk fun K1 hK1 => ?_
 refine rK [0, 1, 3, 4, 5, 11] ?_
 refine W.block ?_
 refine lpa (α := Nat) [0, 1, 3, 4, 5] [21, 26, 28, 29, 36, 60] [] (fun i => [(11, I i)]) (fun i => []) (fun i => i ≤ fs.length ∧ srchT fs (m + 1) t ch i0 = firstI (srchG fs (srchT fs m) m t ch) i (fs.length - m - i)) (fun i => fs.length - i) i0 ?_ ?_
 ·
  exact ⟨hi0, rfl⟩
 ·
  intro i hI0
  simp only [List.cons_append, List.nil_append]
  try dsimp only at hI0
  obtain ⟨hil, kf⟩ := hI0
  replace F := F.add hil
  refine W.seqk fun K2 hK2 => ?_
  refine rKw [0, 1, 3, 4, 5, 11, 22] ?_
  refine it (fun hc1 => ?_) (fun hc1 => ?_)
  ·
   try simp at hc1
   replace F := F.add hc1
   refine W.skip ?_
   refine hK2 _ ?_
   clear hK2 K2
   refine W.seqk fun K3 hK3 => ?_
   refine W.block ?_
   have hif : i < fs.length := by omega
   have htk : List.take (ch.length + 1) (ch.map I ++ [I i]) = ch.map I ++ [I i] := List.take_of_length_le (by simp)
   obtain ⟨p, q, d, qf⟩ : ∃ p q d, fs[i] = (p, q, d) := ⟨fs[i].1, fs[i].2.1, fs[i].2.2, rfl⟩
   have hfi := qf
   have qfo := hfs _ (List.getElem_mem hif)
   rw [qf] at qfo
   have qfn : nth fs i = (p, q, d) := by rw [nth_get hif, qf]
   obtain ⟨w, qw⟩ : ∃ w, withT t p q d = w := ⟨_, rfl⟩
   have qwo := with_ok t n hn1 hn2 hs p q qfo.1 qfo.2.1 d
   rw [qw] at qwo
   have qwf : withF t (nth fs i) = w := by rw [qfn]; exact qw
   obtain ⟨T, qT⟩ : ∃ T, fs.length - m - i = T + 1 := ⟨fs.length - m - i - 1, by omega⟩
   have qT2 : fs.length - m - (i + 1) = T := by omega
   replace F := F.add hif |>.add htk |>.add hfi
   refine W.seqR ?_
   refine oN 1 ?_
   refine oC [] ?_
   refine ct (CloneI_ok ch (by omega)) ?_
   refine oNw 3 ?_
   refine fz 208 ?_
   refine oN 1 ?_
   refine oK [0, 1, 3, 4, 5, 11, 12] ?_
   by_cases hwn : w = none
   ·
    replace F := F.add hwn
    have qwo2 := qwo
    rw [hwn] at qwo2
    by_cases hmz : m = 0
    ·
     replace F := F.add hmz
     refine W.seqR ?_
     refine oN 5 ?_
     refine oC [] ?_
     refine ct (qwo2) ?_
     refine oN 5 ?_
     refine oK [0, 1, 3, 4, 5, 11, 12, 13, 14] ?_
     refine W.block ?_
     refine W.seqR ?_
     refine oN 3 ?_
     refine gT ?_
     refine gT ?_
     refine oN 2 ?_
     refine oK [0, 1, 3, 4, 5, 11, 12, 13, 14, 39] ?_
     refine cT ?_
     refine rK [10] ?_
     refine W.ret ?_
     refine br (br (tr (tr (br (tr ?_)))))
     clear hK3 K3 hK1 K1
     refine er false [] [(10000, 10000), (10001, 10001)] ?_
     have e : srchT fs (m + 1) t ch i0 = some (ch ++ [(i : Int)]) := kf.trans (by rw [qT]; exact firstI_some (by unfold srchG; rw [qwf, hwn]; exact if_pos hmz))
     rw [e]; exact ⟨by simp [optV], rfl⟩
    ·
     replace F := F.add hmz
     have hm1 : ¬ (m : Int) + 1 = 1 := by omega
     have hm4 : ((m : Int) + 1 == 1) = false := beq_false_of_ne hm1
     replace F := F.add hm1 |>.add hm4
     refine W.seqR ?_
     refine oN 5 ?_
     refine oC [] ?_
     refine ct (qwo2) ?_
     refine oN 5 ?_
     refine oK [0, 1, 3, 4, 5, 11, 12, 13, 14] ?_
     refine W.block ?_
     refine W.seqR ?_
     refine oN 3 ?_
     refine gF ?_
     refine gF ?_
     refine oN 2 ?_
     refine oK [0, 1, 3, 4, 5, 11, 12, 13, 14, 39] ?_
     refine cF ?_
     refine W.seqR ?_
     refine oN 3 ?_
     refine gX ?_
     refine oN 2 ?_
     refine oK [0, 1, 3, 4, 5, 11, 12, 13, 47] ?_
     refine cF ?_
     refine W.skip ?_
     refine hK3 _ ?_
     clear hK3 K3
     refine rEw ?_
     refine ⟨i + 1, lf0, ?_, v0⟩
     ·
      exact ⟨by omega, kf.trans (by rw [qT, qT2]; exact firstI_none (by unfold srchG; rw [qwf, hwn]; exact if_neg hmz))⟩
   ·
    replace F := F.add hwn
    obtain ⟨u, qu⟩ : ∃ u, w = some u := by
      cases hq : w with
      | none => exact absurd hq hwn
      | some u => exact ⟨u, rfl⟩
    have qwo2 := qwo
    rw [qu] at qwo2
    by_cases hmy : m = 0
    ·
     replace F := F.add hmy
     refine W.seqR ?_
     refine oN 5 ?_
     refine oC [] ?_
     refine ct (qwo2) ?_
     refine oN 5 ?_
     refine oK [0, 1, 3, 4, 5, 11, 12, 13, 14] ?_
     refine W.block ?_
     refine W.seqR ?_
     refine oN 3 ?_
     refine gT ?_
     refine gT ?_
     refine oN 2 ?_
     refine oK [0, 1, 3, 4, 5, 11, 12, 13, 14, 39] ?_
     refine cF ?_
     refine W.seqR ?_
     refine oN 3 ?_
     refine gF ?_
     refine oN 2 ?_
     refine oK [0, 1, 3, 4, 5, 11, 12, 13, 47] ?_
     refine cF ?_
     refine W.skip ?_
     refine hK3 _ ?_
     clear hK3 K3
     refine rEw ?_
     refine ⟨i + 1, lf0, ?_, v0⟩
     ·
      exact ⟨by omega, kf.trans (by rw [qT, qT2]; exact firstI_none (by unfold srchG; rw [qwf, qu]; subst hmy; rfl))⟩
    ·
     replace F := F.add hmy
     have hm1 : ¬ (m : Int) + 1 = 1 := by omega
     have hm4 : ((m : Int) + 1 == 1) = false := beq_false_of_ne hm1
     have hm2 : 1 < (m : Int) + 1 := by omega
     have hm3 : (m : Int) + 1 - 1 = m := by omega
     obtain ⟨o, qo⟩ : ∃ o, o = srchT fs m u (ch ++ [(i : Int)]) (i + 1) := ⟨_, rfl⟩
     have ihn := ih (by omega) u (withT_sq hs (by rw [qw]; exact qu)) i hif
     rw [← qo, show ints (ch ++ [(i : Int)]) = .imm (ch.map I ++ [I i]) from by simp] at ihn
     replace F := F.add hm1 |>.add hm4 |>.add hm2 |>.add hm3
     refine W.seqR ?_
     refine oN 5 ?_
     refine oC [] ?_
     refine ct (qwo2) ?_
     refine oN 5 ?_
     refine oK [0, 1, 3, 4, 5, 11, 12, 13, 14] ?_
     refine W.block ?_
     refine W.seqR ?_
     refine oN 3 ?_
     refine gF ?_
     refine gF ?_
     refine oN 2 ?_
     refine oK [0, 1, 3, 4, 5, 11, 12, 13, 14, 39] ?_
     refine cF ?_
     refine W.seqR ?_
     refine oN 3 ?_
     refine gT ?_
     refine oN 2 ?_
     refine oK [0, 1, 3, 4, 5, 11, 12, 13, 47] ?_
     refine cT ?_
     refine W.seqR ?_
     refine oNw 7 ?_
     refine oC [(10000, 10000), (10001, 10001)] ?_
     refine ct (ihn) ?_
     refine oN 1 ?_
     refine oK [0, 1, 3, 4, 5, 11, 15] ?_
     by_cases hon : o = none
     ·
      replace F := F.add hon
      have hov : optV o = .val (.slice none 0 0) := by rw [hon]; rfl
      replace F := F.add hov
      refine rK [0, 1, 3, 4, 5, 11, 15, 62] ?_
      refine cF ?_
      refine W.skip ?_
      refine hK3 _ ?_
      clear hK3 K3
      refine rEw ?_
      refine ⟨i + 1, lf0, ?_, v0⟩
      ·
       exact ⟨by omega, kf.trans (by rw [qT, qT2]; exact firstI_none (by unfold srchG; rw [qwf, qu]; exact qo.symm.trans hon))⟩
     ·
      replace F := F.add hon
      obtain ⟨x, xs, qx⟩ : ∃ x xs, o = some (x :: xs) := by
        cases hq : o with
        | none => exact absurd hq hon
        | some l =>
          have h1 := srchT_ne (qo.symm.trans hq)
          cases l with
          | nil => exact absurd rfl h1
          | cons x xs => exact ⟨x, xs, rfl⟩
      have hov : optV o = .imm (I x :: xs.map I) := by rw [qx]; rfl
      replace F := F.add hov
      refine rK [0, 1, 3, 4, 5, 11, 15, 62] ?_
      refine cT ?_
      refine rK [10] ?_
      refine W.ret ?_
      refine br (br (tr (tr (br (tr ?_)))))
      clear hK3 K3 hK1 K1
      refine er false [] [(10000, 10000), (10001, 10001)] ?_
      have e : srchT fs (m + 1) t ch i0 = some (x :: xs) := kf.trans (by rw [qT]; exact firstI_some (by unfold srchG; rw [qwf, qu]; exact qo.symm.trans qx))
      rw [e]; exact ⟨rfl, rfl⟩
  ·
   try simp at hc1
   replace F := F.add hc1
   refine W.exit ?_
   refine hK1 _ ?_
   clear hK2 K2 hK1 K1
   refine rK [10] ?_
   refine W.ret ?_
   refine er false [] [(10000, 10000), (10001, 10001)] ?_
   have e : srchT fs (m + 1) t ch i0 = none := kf.trans (by rw [show fs.length - m - i = 0 by omega]; rfl)
   rw [e]; exact ⟨rfl, rfl⟩
theorem Srch_ok (fs : List Fct) (n : Nat) (hn1 : 1 ≤ n) (hn2 : n ≤ 1000) (hfs : ∀ f ∈ fs, FctOk n f) (hfl : fs.length ≤ 1000) : ∀ (m : Nat) (t : Tab) (_ : Sq n t) (ch : List Int) (_ : ch.length + m ≤ 1000) (i0 : Nat) (_ : i0 ≤ fs.length),
    ACalls Tryd.prog 48 [tabV t, ints ch, I i0, I ((m : Int) + 1), .ptr 10000 0 0, .ptr 10001 0 0] (sobs fs) (fun r o => r = optV (srchT fs (m + 1) t ch i0) ∧ o = sobs fs)
  | 0, t, hs, ch, hch, i0, hi0 => Srch_step fs n hn1 hn2 hfs hfl 0 (by omega) t hs ch (by omega) i0 hi0 fun h => absurd h (by omega)
  | m + 1, t, hs, ch, hch, i0, hi0 => Srch_step fs n hn1 hn2 hfs hfl (m + 1) (by omega) t hs ch (by omega) i0 hi0 fun _ u hu i hi => by
      have h := Srch_ok fs n hn1 hn2 hfs hfl m u hu (ch ++ [(i : Int)]) (by rw [List.length_append, List.length_singleton]; omega) (i + 1) (by omega)
      simp only [Int.natCast_add, Int.cast_ofNat_Int] at h ⊢
      exact h
def factK (b : Ben) (k : Nat) : List AV := ((resF b).take k).map F4
theorem factK_next {b : Ben} {k : Nat} (hk : k < (resF b).length) : factK b (k + 1) = factK b k ++ [F4 (nth (resF b) k)] := by
  unfold factK
  rw [List.take_succ_eq_append_getElem hk, List.map_append, nth_get hk]; rfl
theorem factK_len {b : Ben} {k : Nat} (hk : k ≤ (resF b).length) : (factK b k).length = k := by
  unfold factK; rw [List.length_map, List.length_take]; omega
theorem factK_all (b : Ben) : factK b (resF b).length = (resF b).map F4 := by unfold factK; rw [List.take_length]
set_option maxHeartbeats 4000000 in
theorem Clash_ok (b : Ben) (hLb : LenB b) : ACalls Tryd.prog 9 [benV b] [] (fun r o => r = .tup [optV (clashL b), I (clashE b)] ∧ o = []) := by
 have F := Fx.nil
 refine ent (M := outMode) Tryd.func9 Tryd.ntmps9 Tryd.results9 ?_
 refine rK (M := outMode) [1, 2, 3, 8, 22] ?_
 refine W.seqk (M := outMode) fun K1 hK1 => ?_
 refine W.seqR (M := outMode) ?_
 refine oN 1 ?_
 refine oC [] ?_
 refine ct (Check_ok b hLb) ?_
 refine oN 1 ?_
 refine oK (M := outMode) [1, 2, 3, 4, 8, 22] ?_
 refine rK (M := outMode) [1, 2, 3, 4, 8, 15, 22] ?_
 refine it (M := outMode) (fun hc1 => ?_) (fun hc1 => ?_)
 ·
  try simp at hc1
  replace F := F.add hc1
  refine rK (M := outMode) [2, 3] ?_
  refine W.ret (M := outMode) ?_
  refine tr ?_
  clear hK1 K1
  refine er false [] [] ?_
  exact ⟨by unfold clashL clashE; rw [if_neg hc1, if_neg hc1]; rfl, rfl⟩
 ·
  try simp at hc1
  replace F := F.add hc1
  refine W.skip (M := outMode) ?_
  refine hK1 _ ?_
  clear hK1 K1
  have hv : ValidB b := checkB_zero.1 (show checkB b = 0 by simpa using hc1)
  have qsz := sizeB_le hv
  obtain ⟨n, qn⟩ : ∃ n, (resF b).length = n := ⟨_, rfl⟩
  have hn12 : n ≤ 12 := by
    have h1 := hv.w6
    have h2 := hv.t6
    rw [← qn]; unfold resF; rw [List.length_append, List.length_map, List.length_map]; omega
  replace F := F.add hv |>.add hn12
  refine rK (M := outMode) [2, 3, 5, 8, 22] ?_
  refine rK (M := outMode) [2, 3, 5, 6, 8, 22] ?_
  refine W.seqk (M := outMode) fun K2 hK2 => ?_
  refine W.seqR (M := outMode) ?_
  refine WOps.le (Le.ownNilO (id := 48) (k := 0) (j := 0) (nid := 9000) (ty := 98) (sz := 4) (by simp [hc1, hv, hn12]; rfl)) rfl rfl ?_
  refine oN 1 ?_
  refine oC [] ?_
  refine ct (results_ok b) ?_
  refine oK (M := outMode) [2, 3, 5, 6, 8, 20, 22] ?_
  refine W.block (M := outMode) ?_
  refine W.rangeS (by simp [hc1, hv, hn12]; all_goals first | rfl | exact ⟨rfl, rfl⟩ | exact ⟨rfl, rfl, rfl⟩) [(10000, 160)] [(10001, 48), (15000, 9000), (10003, 40), (10004, 8)] rfl rfl rfl (by simp [hc1, hv, hn12]; all_goals first | rfl | exact ⟨rfl, rfl⟩ | exact ⟨rfl, rfl, rfl⟩) rfl (by simp [hc1, hv, hn12]; all_goals first | rfl | exact ⟨rfl, rfl⟩ | exact ⟨rfl, rfl, rfl⟩) (by simp [hc1, hv, hn12]; all_goals first | rfl | exact ⟨rfl, rfl⟩ | exact ⟨rfl, rfl, rfl⟩) (by simp [hc1, hv, hn12]; all_goals first | rfl | exact ⟨rfl, rfl⟩ | exact ⟨rfl, rfl, rfl⟩) (fun k => [(10001, .row false 93 1 [.own 15000 0 k]), (15000, .row true 98 4 (factK b k)), (10003, bb b), (10004, .row false 27 5 [benV b])]) (by simp [hc1, hv, hn12]; all_goals first | rfl | exact ⟨rfl, rfl⟩ | exact ⟨rfl, rfl, rfl⟩) [2, 3, 5, 6] (by simp [hc1, hv, hn12]; all_goals first | rfl | exact ⟨rfl, rfl⟩ | exact ⟨rfl, rfl, rfl⟩) (by simp [hc1, hv, hn12]; all_goals first | rfl | exact ⟨rfl, rfl⟩ | exact ⟨rfl, rfl, rfl⟩) (by rfl) (List.range n) (fun k : Nat => [I k, F4 (nth (resF b) k)]) (fun _ => rfl) (fun _ => false) .ret rfl (fun _ (_ : Unit) => True) (fun _ _ => []) ?_ (fun lp J hy => by have := results1_ok b hv lp J (fun _ => false) (fun k hk => by have := hy k (by simpa [qn] using hk); simpa using this); simpa [qn] using this) 1000 (by decide) ?_ ?_
  ·
   intro k hk hbef
   replace F := F.add hk
   have hkn : k < (resF b).length := by simpa [qn] using hk
   have hfk : (factK b k).length = k := factK_len (by omega)
   have hfn : factK b (k + 1) = factK b k ++ [F4 (nth (resF b) k)] := factK_next hkn
   replace F := F.add hkn |>.add hfk |>.add hfn
   refine W.norm (M := anyMode) (by simp [hc1, hv, hn12, hk, hkn, hfk, hfn]; rfl) ?_
   refine rE (M := anyMode) ?_
   refine ⟨rfl, ?_⟩
   refine W.block (M := anyMode) ?_
   refine rEw (M := anyMode) ?_
   refine blockQ_n ?_
   refine RoundV.go ?_ (Le.fit (by simp [hc1, hv, hn12, hk, hkn, hfk, hfn]; rfl) (by rfl) (by rfl) (by rfl) (by trivial) ?_)
   ·
    exact v0
   ·
    exact v1
  ·
   intro hbef
   refine ⟨(by simp [hc1, hv, hn12]; all_goals first | rfl | exact ⟨rfl, rfl⟩ | exact ⟨rfl, rfl, rfl⟩), ?_⟩
   refine Qnorm (by simp [hc1, hv, hn12]; rfl) ?_
   refine hK2 _ ?_
   clear hK2 K2
   have hrl : (resF b).length = n := qn
   have hfa : factK b n = (resF b).map F4 := by rw [← qn]; exact factK_all b
   have htn : (resF b).take n = resF b := List.take_of_length_le (by omega)
   replace F := F.add hrl |>.add hfa |>.add htn
   refine W.seqR (M := outMode) ?_
   refine fz 9000 ?_
   refine oN 1 ?_
   refine oK (M := outMode) [5, 6, 9] ?_
   refine rK (M := outMode) [5, 6, 9] ?_
   refine W.seqk (M := outMode) fun K3 hK3 => ?_
   refine rK (M := outMode) [5, 6, 9, 10] ?_
   refine W.block (M := outMode) ?_
   refine lpa (M := outMode) (α := Nat) [5, 6, 9] [30, 36, 38] [] (fun j => [(10, I ((j : Int) + 1))]) (fun j => []) (fun j => j ≤ n ∧ clashN b 1 n = clashN b (j + 1) (n - j)) (fun j => n - j) 0 v0 ?_
   ·
    intro j hI1
    simp only [List.cons_append, List.nil_append]
    try dsimp only at hI1
    obtain ⟨hjn, kc⟩ := hI1
    replace F := F.add hjn
    refine W.seqk (M := outMode) fun K4 hK4 => ?_
    refine rK (M := outMode) [5, 6, 9, 10, 31] ?_
    refine it (M := outMode) (fun hc2 => ?_) (fun hc2 => ?_)
    ·
     try simp at hc2
     replace F := F.add hc2
     refine W.skip (M := outMode) ?_
     refine hK4 _ ?_
     clear hK4 K4
     refine W.seqk (M := outMode) fun K5 hK5 => ?_
     refine W.block (M := outMode) ?_
     have hj : j < n := by omega
     obtain ⟨o, qo⟩ : ∃ o, o = srchT (resF b) (j + 1) (startT b) [] 0 := ⟨_, rfl⟩
     have ihn := Srch_ok (resF b) (sizeB b) (by omega) (by omega) (resF_ok hv) (by omega) j (startT b) (startN_sq hv (by omega)) [] (by simp; omega) 0 (by omega)
     rw [← qo, show I ((0 : Nat) : Int) = .val (.int .i64 0) from rfl] at ihn
     obtain ⟨T, qT⟩ : ∃ T, n - j = T + 1 := ⟨n - j - 1, by omega⟩
     have qT2 : n - (j + 1) = T := by omega
     replace F := F.add hj
     refine wD (M := outMode) 4 [] [[], [], [1], [], [3, 1, 2, 0], [0, 2, 1, 3, 4]] ?_
     refine dB [([35, 36, 37], [], []), ([34, 37], [false], [])] 2 2 ?_
     refine dC [34, 37] [false, true] [] [] ?_
     refine cd (start_ok b hv) ?_
     refine dB [([34, 35, 36], [false, false, false], [])] 0 4 ?_
     refine dD ?_
     refine oC [(10000, 48), (10001, 72)] ?_
     refine ct (ihn) ?_
     refine oN 1 ?_
     refine oK (M := outMode) [5, 6, 9, 10, 11] ?_
     by_cases hon : o = none
     ·
      replace F := F.add hon
      have hov : optV o = .val (.slice none 0 0) := by rw [hon]; rfl
      replace F := F.add hov
      refine rK (M := outMode) [5, 6, 9, 10, 11, 40] ?_
      refine cF (M := outMode) ?_
      refine W.skip (M := outMode) ?_
      refine hK5 _ ?_
      clear hK5 K5
      refine rEw (M := outMode) ?_
      refine ⟨j + 1, lf0, ?_, v0⟩
      ·
       refine ⟨by omega, kc.trans ?_⟩
       rw [qT, qT2, clashN, ← qo, hon]
     ·
      replace F := F.add hon
      obtain ⟨x, xs, qx⟩ : ∃ x xs, o = some (x :: xs) := by
        cases hq : o with
        | none => exact absurd hq hon
        | some l =>
          have h1 := srchT_ne (qo.symm.trans hq)
          cases l with
          | nil => exact absurd rfl h1
          | cons x xs => exact ⟨x, xs, rfl⟩
      have hov : optV o = .imm (I x :: xs.map I) := by rw [qx]; rfl
      replace F := F.add hov
      refine rK (M := outMode) [5, 6, 9, 10, 11, 40] ?_
      refine cT (M := outMode) ?_
      refine rK (M := outMode) [2, 3] ?_
      refine W.ret (M := outMode) ?_
      refine br (tr (tr (br (tr ?_))))
      clear hK5 K5 hK3 K3
      refine er false [] [] ?_
      have e : clashN b 1 (resF b).length = some (x :: xs) := by rw [qn, kc, qT, clashN, ← qo, qx]
      exact ⟨by unfold clashL clashE; rw [if_pos hc1, if_pos hc1, e]; rfl, rfl⟩
    ·
     try simp at hc2
     replace F := F.add hc2
     refine W.exit (M := outMode) ?_
     refine hK3 _ ?_
     clear hK4 K4 hK3 K3
     refine rK (M := outMode) [2, 3] ?_
     refine W.ret (M := outMode) ?_
     refine er false [] [] ?_
     have e : clashN b 1 (resF b).length = none := by rw [qn, kc, show n - j = 0 by omega]; rfl
     exact ⟨by unfold clashL clashE; rw [if_pos hc1, if_pos hc1, e]; rfl, rfl⟩
  ·
   intro k hk hstop
   simp at hstop
end Go.Sim
