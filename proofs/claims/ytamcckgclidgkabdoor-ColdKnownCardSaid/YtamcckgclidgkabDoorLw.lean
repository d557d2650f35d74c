/- Sales, by program and reference; lots made of numbers, copies. -/
import Derived.Test.YtamcckgclidgkabDoorLp
import Derived.Test.YtamcckgclidgkabDoorLj
import Derived.Test.YtamcckgclidgkabDoorLo
import Derived.Test.YtamcckgclidgkabDoorQe
namespace Go.Sim
open Go.Proofs
set_option maxRecDepth 100000
set_option linter.unusedSimpArgs false
set_option linter.unusedVariables false
attribute [-simp] List.map_set List.map_take List.map_drop
structure Sld where
  lot : Int
  hour : Int
  deriving DecidableEq
instance : NthD Sld := ⟨⟨0, 0⟩⟩
def D2 (s : Sld) : AV := .agg [I s.lot, I s.hour]
theorem D2_def (s : Sld) : D2 s = .agg [I s.lot, I s.hour] := rfl
attribute [simp] D2_def
theorem sld_eta (s : Sld) : (⟨s.lot, s.hour⟩ : Sld) = s := rfl
attribute [simp] sld_eta
abbrev soldsV (l : List Sld) : AV := .imm (l.map D2)
/-- the error of a cellar and lots -/
def lotsErr (c : Cel) (ls : List CLot) : Int := if checkC c ≠ 0 then checkC c else if 20 < ls.length then 6 else firstNZ (lotErr c.boxes.length) ls
theorem lotsErr_c {c : Cel} {ls : List CLot} (h : ¬ checkC c = 0) : lotsErr c ls = checkC c := by rw [lotsErr, if_pos h]
theorem lotsErr_6 {c : Cel} {ls : List CLot} (h : checkC c = 0) (h6 : 20 < ls.length) : lotsErr c ls = 6 := by rw [lotsErr, if_neg (fun k => k h), if_pos h6]
theorem lotsErr_hit {c : Cel} {ls : List CLot} {i : Nat} (h : checkC c = 0) (h6 : ls.length ≤ 20) (hi : i < ls.length) (he : firstNZ (lotErr c.boxes.length) ls = firstNZ (lotErr c.boxes.length) (ls.drop i)) (hz : ¬ lotErr c.boxes.length ls[i] = 0) : lotsErr c ls = lotErr c.boxes.length ls[i] := by
  rw [lotsErr, if_neg (fun k => k h), if_neg (by omega), he, firstNZ_hit hi hz]
theorem lotsErr_done {c : Cel} {ls : List CLot} {i : Nat} (h : checkC c = 0) (h6 : ls.length ≤ 20) (hi : ls.length ≤ i) (he : firstNZ (lotErr c.boxes.length) ls = firstNZ (lotErr c.boxes.length) (ls.drop i)) : lotsErr c ls = 0 := by
  rw [lotsErr, if_neg (fun k => k h), if_neg (by omega), he, firstNZ_done hi]
theorem lotsErr_zero {c : Cel} {ls : List CLot} : lotsErr c ls = 0 ↔ ValidC c ∧ ls.length ≤ 20 ∧ ∀ l ∈ ls, LotOk c.boxes.length l := by
  unfold lotsErr
  by_cases h : checkC c = 0
  · rw [if_neg (fun k => k h)]
    by_cases h6 : 20 < ls.length
    · rw [if_pos h6]
      exact ⟨fun k => (by cases k), fun k => (by omega)⟩
    · rw [if_neg h6, firstNZ_zero]
      exact ⟨fun k => ⟨checkC_zero.1 h, by omega, fun l hl => lotErr_zero.1 (k l hl)⟩, fun k l hl => lotErr_zero.2 (k.2.2 l hl)⟩
  · rw [if_pos h]
    exact ⟨fun k => absurd k h, fun k => absurd (checkC_zero.2 k.1) h⟩
/-- the error of a sale of lots that may be -/
def saleC (c : Cel) (ls : List CLot) (s : Sld) : Int := if ¬ (0 ≤ s.lot ∧ s.lot ≤ (ls.length : Int) - 1) then 3 else if ¬ (0 ≤ s.hour ∧ s.hour ≤ 240) then 1
  else if lotE c (nth ls s.lot.toNat) s.hour = 0 ∧ freshV c (nth ls s.lot.toNat) s.hour = 1 then 0 else 12
def sellE (c : Cel) (ls : List CLot) (ss : List Sld) : Int := if lotsErr c ls ≠ 0 then lotsErr c ls else if 40 < ss.length then 6 else 0
def sellX (c : Cel) (ls : List CLot) (ss : List Sld) : Option (List Int) := if sellE c ls ss = 0 then some (ss.map (saleC c ls)) else none
def optW : Option (List Int) → AV
  | none => .val (.slice none 0 0)
  | some l => ints l
theorem sell_err {c : Cel} {ls : List CLot} {ss : List Sld} {e : Int} (h : sellE c ls ss = e) (h0 : e ≠ 0) : AV.tup [.val (.slice none 0 0), I e] = AV.tup [optW (sellX c ls ss), I (sellE c ls ss)] := by
  rw [sellX, if_neg (by rw [h]; exact h0), h]; rfl
theorem sell_fine {c : Cel} {ls : List CLot} {ss : List Sld} {out : List Int} (h : sellE c ls ss = 0) (ho : out = ss.map (saleC c ls)) : AV.tup [ints out, I 0] = AV.tup [optW (sellX c ls ss), I (sellE c ls ss)] := by
  rw [sellX, if_pos h, h, ho]; rfl
theorem sale_snoc {f : Sld → Int} {ss : List Sld} {i : Nat} {out : List Int} {k : Int} (h : out = (ss.take i).map f) (hi : i < ss.length) (hk : f ss[i] = k) : out ++ [k] = (ss.take (i + 1)).map f := by
  rw [List.take_succ_eq_append_getElem hi, List.map_append, h, ← hk]; rfl
theorem sale_lot {c : Cel} {ls : List CLot} {s : Sld} {k : Nat} (hv : ∀ l ∈ ls, LotOk c.boxes.length l) (hc : ValidC c) (hk : s.lot = (k : Int)) (hl : k < ls.length) (hh : 0 ≤ s.hour ∧ s.hour ≤ 240) :
    saleC c ls s = (if lotE c ls[k] s.hour = 0 ∧ freshV c ls[k] s.hour = 1 then 0 else 12) ∧ (lotE c ls[k] s.hour = 0 ∨ lotE c ls[k] s.hour = 12) := by
  refine ⟨by rw [saleC, if_neg (by omega), if_neg (by omega), hk, Int.toNat_natCast, nth_get hl], ?_⟩
  rw [lotE, if_neg (fun q => q (checkLotC_zero.2 ⟨hc, hv _ (List.getElem_mem hl)⟩)), if_neg (by omega)]
  split
  · exact .inr rfl
  · exact .inl rfl
set_option maxHeartbeats 4000000 in
theorem checkLots_ok (c : Cel) (ls : List CLot) : ACalls Tryd.prog 42 [celV c, lotsV ls] [] (fun r o => r = I (lotsErr c ls) ∧ o = []) := by
 refine ACalls.len (l := ls.map L3) (by simp) ⟨_, Tryd.func42, by kernel_rfl, by kernel_rfl⟩ fun hl => ?_
 simp [maxLen_val] at hl
 have F := Fx.nil
 refine ent Tryd.func42 Tryd.ntmps42 Tryd.results42 ?_
 refine rK [1, 2] ?_
 refine W.seqk fun K1 hK1 => ?_
 refine W.seqR ?_
 refine oN 1 ?_
 refine oC [] ?_
 refine ct (Check_ok ⟨⟨_, _⟩, _, _, _⟩) ?_
 refine oN 1 ?_
 refine oK [1, 2, 5] ?_
 refine rK [1, 2, 5, 12] ?_
 refine it (fun hc1 => ?_) (fun hc1 => ?_)
 ·
  try simp at hc1
  replace F := F.add hc1
  refine rK [4] ?_
  refine W.ret ?_
  refine tr ?_
  clear hK1 K1
  refine er false [] [] ?_
  first
  | exact ⟨congrArg I (lotsErr_c hc1).symm, rfl⟩
  | exact ⟨congrArg I (lotsErr_6 hc1 (by omega)).symm, rfl⟩
  | exact ⟨congrArg I (lotsErr_hit hc1 (by omega) hil hm1 (by assumption)).symm, rfl⟩
  | exact ⟨congrArg I (lotsErr_done hc1 (by omega) (by omega) hm1).symm, rfl⟩
 ·
  try simp at hc1
  replace F := F.add hc1
  refine W.skip ?_
  refine hK1 _ ?_
  clear hK1 K1
  refine W.seqk fun K2 hK2 => ?_
  refine rK [1, 2, 16] ?_
  refine it (fun hc2 => ?_) (fun hc2 => ?_)
  ·
   try simp at hc2
   replace F := F.add hc2
   refine rK [4] ?_
   refine W.ret ?_
   refine tr ?_
   clear hK2 K2
   refine er false [] [] ?_
   first
   | exact ⟨congrArg I (lotsErr_c hc1).symm, rfl⟩
   | exact ⟨congrArg I (lotsErr_6 hc1 (by omega)).symm, rfl⟩
   | exact ⟨congrArg I (lotsErr_hit hc1 (by omega) hil hm1 (by assumption)).symm, rfl⟩
   | exact ⟨congrArg I (lotsErr_done hc1 (by omega) (by omega) hm1).symm, rfl⟩
  ·
   try simp at hc2
   replace F := F.add hc2
   refine W.skip ?_
   refine hK2 _ ?_
   clear hK2 K2
   refine W.seqk fun K3 hK3 => ?_
   refine rK [2, 17, 18, 19] ?_
   refine W.block ?_
   refine lpa (α := Nat) [2, 17, 18] [7, 25] [] (fun i => [(19, I i)]) (fun i => []) (fun i => i ≤ ls.length ∧ firstNZ (lotErr c.boxes.length) ls = firstNZ (lotErr c.boxes.length) (ls.drop i)) (fun i => ls.length - i) 0 v0 ?_
   ·
    intro i hI0
    simp only [List.cons_append, List.nil_append]
    try dsimp only at hI0
    obtain ⟨hi, hm1⟩ := hI0
    replace F := F.add hi
    refine rK [2, 17, 18, 19, 20] ?_
    refine W.seqk fun K4 hK4 => ?_
    refine it (fun hc3 => ?_) (fun hc3 => ?_)
    ·
     try simp at hc3
     replace F := F.add hc3
     refine W.skip ?_
     refine hK4 _ ?_
     clear hK4 K4
     refine W.seqk fun K5 hK5 => ?_
     refine W.block ?_
     have hil : i < ls.length := by omega
     replace F := F.add hil
     refine rK [2, 7, 17, 18, 19] ?_
     refine W.seqR ?_
     refine oN 2 ?_
     refine oC [] ?_
     refine ct (checkStays_ok c ls[i]) ?_
     refine oN 1 ?_
     refine oK [2, 8, 17, 18, 19] ?_
     refine rK [2, 8, 17, 18, 19, 27] ?_
     refine it (fun hc4 => ?_) (fun hc4 => ?_)
     ·
      try simp at hc4
      replace F := F.add hc4
      refine rK [4] ?_
      refine W.ret ?_
      refine br (tr (tr (br (tr ?_))))
      clear hK5 K5 hK3 K3
      refine er false [] [] ?_
      first
      | exact ⟨congrArg I (lotsErr_c hc1).symm, rfl⟩
      | exact ⟨congrArg I (lotsErr_6 hc1 (by omega)).symm, rfl⟩
      | exact ⟨congrArg I (lotsErr_hit hc1 (by omega) hil hm1 (by assumption)).symm, rfl⟩
      | exact ⟨congrArg I (lotsErr_done hc1 (by omega) (by omega) hm1).symm, rfl⟩
     ·
      try simp at hc4
      replace F := F.add hc4
      refine W.skip ?_
      refine hK5 _ ?_
      clear hK5 K5
      refine rEw ?_
      refine ⟨i + 1, lf0, ?_, v0⟩
      ·
       exact ⟨by omega, by rw [hm1, firstNZ_skip hil (by assumption)]⟩
    ·
     try simp at hc3
     replace F := F.add hc3
     refine W.exit ?_
     refine hK3 _ ?_
     clear hK4 K4 hK3 K3
     refine rK [4] ?_
     refine W.ret ?_
     refine er false [] [] ?_
     first
     | exact ⟨congrArg I (lotsErr_c hc1).symm, rfl⟩
     | exact ⟨congrArg I (lotsErr_6 hc1 (by omega)).symm, rfl⟩
     | exact ⟨congrArg I (lotsErr_hit hc1 (by omega) hil hm1 (by assumption)).symm, rfl⟩
     | exact ⟨congrArg I (lotsErr_done hc1 (by omega) (by omega) hm1).symm, rfl⟩
set_option maxHeartbeats 4000000 in
theorem Sell_ok (c : Cel) (ls : List CLot) (ss : List Sld) : ACalls Tryd.prog 28 [celV c, lotsV ls, soldsV ss] [] (fun r o => r = .tup [optW (sellX c ls ss), I (sellE c ls ss)] ∧ o = []) := by
 refine ACalls.len (l := ls.map L3) (by simp) ⟨_, Tryd.func28, by kernel_rfl, by kernel_rfl⟩ fun hl => ?_
 simp [maxLen_val] at hl
 have F := Fx.nil
 refine ent Tryd.func28 Tryd.ntmps28 Tryd.results28 ?_
 refine rK [1, 2, 3] ?_
 refine W.seqk fun K1 hK1 => ?_
 refine W.seqR ?_
 refine oN 2 ?_
 refine oC [] ?_
 refine ct (checkLots_ok ⟨⟨_, _⟩, _, _, _⟩ _) ?_
 refine oN 1 ?_
 refine oK [1, 2, 3, 8] ?_
 refine rK [1, 2, 3, 8, 19] ?_
 refine it (fun hc1 => ?_) (fun hc1 => ?_)
 ·
  try simp at hc1
  replace F := F.add hc1
  refine rK [6, 7] ?_
  refine W.ret ?_
  refine tr ?_
  clear hK1 K1
  refine er false [] [] ?_
  first
  | (rw [show List.take i out = out from List.take_of_length_le (by omega)]
     exact ⟨sell_fine qse (by rw [qout, List.take_of_length_le (by omega)]), rfl⟩)
  | exact ⟨sell_err (by rw [sellE, if_pos hc1]) hc1, rfl⟩
  | exact ⟨sell_err (by rw [sellE, if_neg (fun k => k hc1), if_pos (by omega)]) (by decide), rfl⟩
 ·
  try simp at hc1
  replace F := F.add hc1
  refine W.skip ?_
  refine hK1 _ ?_
  clear hK1 K1
  refine W.seqk fun K2 hK2 => ?_
  refine rK [1, 2, 3, 23] ?_
  refine it (fun hc2 => ?_) (fun hc2 => ?_)
  ·
   try simp at hc2
   replace F := F.add hc2
   refine rK [6, 7] ?_
   refine W.ret ?_
   refine tr ?_
   clear hK2 K2
   refine er false [] [] ?_
   first
   | (rw [show List.take i out = out from List.take_of_length_le (by omega)]
      exact ⟨sell_fine qse (by rw [qout, List.take_of_length_le (by omega)]), rfl⟩)
   | exact ⟨sell_err (by rw [sellE, if_pos hc1]) hc1, rfl⟩
   | exact ⟨sell_err (by rw [sellE, if_neg (fun k => k hc1), if_pos (by omega)]) (by decide), rfl⟩
  ·
   try simp at hc2
   replace F := F.add hc2
   refine W.skip ?_
   refine hK2 _ ?_
   clear hK2 K2
   obtain ⟨qv, ql20, qlo⟩ := lotsErr_zero.1 hc1
   have hss : ss.length ≤ 40 := by omega
   have qse : sellE c ls ss = 0 := by rw [sellE, if_neg (fun k => k hc1), if_neg (by omega)]
   replace F := F.add hss
   refine rK [1, 2, 3, 9] ?_
   refine W.seqk fun K3 hK3 => ?_
   refine rK [1, 3, 9, 24, 25, 26] ?_
   refine W.block ?_
   refine sn 9 9000 36 1 ?_
   refine lpa (α := Nat × List Int) [1, 3, 24, 25] [11, 39, 52, 54, 59, 63, 64] [9000] (fun x => [(26, I x.1), (9, .own 9000 0 x.2.length)]) (fun x => [(9000, .row true 36 1 (x.2.map I))]) (fun x => x.1 ≤ ss.length ∧ x.2.length = x.1 ∧ x.2 = (ss.take x.1).map (saleC c ls)) (fun x => ss.length - x.1) (0, []) ?_ ?_
   ·
    exact ⟨Nat.zero_le _, rfl, rfl⟩
   ·
    intro ⟨i, out⟩ hI0
    simp only [List.cons_append, List.nil_append]
    try dsimp only at hI0
    obtain ⟨hi, hol, qout⟩ := hI0
    replace F := F.add hi |>.add hol
    refine rK [1, 3, 9, 24, 25, 26, 27] ?_
    refine W.seqk fun K4 hK4 => ?_
    refine it (fun hc3 => ?_) (fun hc3 => ?_)
    ·
     try simp at hc3
     replace F := F.add hc3
     refine W.skip ?_
     refine hK4 _ ?_
     clear hK4 K4
     refine W.seqk fun K5 hK5 => ?_
     refine W.block ?_
     have his : i < ss.length := by omega
     obtain ⟨S, qS⟩ : ∃ S, S = ss[i] := ⟨_, rfl⟩
     have hS := qS.symm
     replace F := F.add his |>.add hS
     refine rK [1, 3, 9, 11, 24, 25, 26] ?_
     refine rK [1, 3, 9, 11, 12, 24, 25, 26] ?_
     refine W.seqk fun K6 hK6 => ?_
     refine W.block ?_
     refine W.seqR ?_
     refine oNw 5 ?_
     refine oC [] ?_
     refine ct (in_ok _ _ _) ?_
     refine oN 2 ?_
     refine oK [1, 3, 9, 11, 12, 24, 25, 26, 48] ?_
     refine it (fun hc4 => ?_) (fun hc4 => ?_)
     ·
      try simp at hc4
      replace F := F.add hc4
      refine rE ?_
      refine hK6 _ ?_
      clear hK6 K6
      refine rEw ?_
      refine hK5 _ ?_
      clear hK5 K5
      refine rEw ?_
      refine ⟨(i + 1, out ++ [3]), lf0, ?_, v0⟩
      ·
       first
       | (refine ⟨by show i + 1 ≤ _; omega, by simp [hol], sale_snoc (k := 3) qout his ?_⟩
          rw [← qS, saleC, if_pos (by omega)])
       | (refine ⟨by show i + 1 ≤ _; omega, by simp [hol], sale_snoc (k := 1) qout his ?_⟩
          rw [← qS, saleC, if_neg (by omega), if_pos (by omega)])
       | (refine ⟨by show i + 1 ≤ _; omega, by simp [hol], sale_snoc (k := 12) qout his ?_⟩
          rw [← qS, qsl, if_neg (by rintro ⟨e1, e2⟩; simp_all)])
       | (refine ⟨by show i + 1 ≤ _; omega, by simp [hol], sale_snoc (k := 0) qout his ?_⟩
          rw [← qS, qsl, if_pos (by simp_all)])
     ·
      try simp at hc4
      replace F := F.add hc4
      refine W.seqR ?_
      refine oN 2 ?_
      refine oC [] ?_
      refine ct (in_ok _ _ _) ?_
      refine oN 2 ?_
      refine oK [1, 3, 9, 11, 12, 24, 25, 26, 56] ?_
      refine it (fun hc5 => ?_) (fun hc5 => ?_)
      ·
       try simp at hc5
       replace F := F.add hc5
       refine rE ?_
       refine hK6 _ ?_
       clear hK6 K6
       refine rEw ?_
       refine hK5 _ ?_
       clear hK5 K5
       refine rEw ?_
       refine ⟨(i + 1, out ++ [1]), lf0, ?_, v0⟩
       ·
        first
        | (refine ⟨by show i + 1 ≤ _; omega, by simp [hol], sale_snoc (k := 3) qout his ?_⟩
           rw [← qS, saleC, if_pos (by omega)])
        | (refine ⟨by show i + 1 ≤ _; omega, by simp [hol], sale_snoc (k := 1) qout his ?_⟩
           rw [← qS, saleC, if_neg (by omega), if_pos (by omega)])
        | (refine ⟨by show i + 1 ≤ _; omega, by simp [hol], sale_snoc (k := 12) qout his ?_⟩
           rw [← qS, qsl, if_neg (by rintro ⟨e1, e2⟩; simp_all)])
        | (refine ⟨by show i + 1 ≤ _; omega, by simp [hol], sale_snoc (k := 0) qout his ?_⟩
           rw [← qS, qsl, if_pos (by simp_all)])
      ·
       try simp at hc5
       replace F := F.add hc5
       obtain ⟨k, qk⟩ : ∃ k : Nat, S.lot = (k : Int) := ⟨S.lot.toNat, by omega⟩
       have hk := qk
       have hkl : k < ls.length := by omega
       have hkh : 0 ≤ S.hour ∧ S.hour ≤ 240 := by omega
       obtain ⟨qsl, qe⟩ := sale_lot qlo qv qk hkl hkh
       replace F := F.add hk |>.add hkl |>.add hkh
       refine wD 13 [] [[], [], [], [2], [2, 3, 1], [1, 3, 2, 4], [], [6], [6, 7, 4, 2, 3, 1, 5, 0], [0, 5, 1, 3, 2, 4, 7, 6, 8], [8, 6, 7, 4, 2, 3, 1, 5, 0, 9], [8, 6, 7, 4, 2, 3, 1, 5, 0, 9], [9, 0, 5, 1, 3, 2, 4, 7, 6, 8, 10], [10, 12, 9, 0, 5, 1, 3, 2, 4, 7, 6, 8, 11]] ?_
       refine dB [([32, 33, 34, 35, 36, 37, 38], [], []), ([31, 33, 34, 37, 38], [false], []), ([31, 32, 37, 38], [false, false], []), ([31, 32, 37, 38], [false, false, true], []), ([31, 37, 38], [false, true, true, true], []), ([31, 37, 38], [false, true, true, true, true], []), ([31, 32, 33, 34, 35, 36], [false, false, false, false, false, false], []), ([31, 32, 33, 34, 35, 36], [false, false, false, false, false, false, true], [])] 5 8 ?_
       refine dC [] [true, true, true, true, true, true, true, true] [] [] ?_
       refine cd (Fresh_ok c ls[k] S.hour) ?_
       refine dB [([], [true, true, true, true, true, true, true, true, true], []), ([41], [true, true, true, true, true, true, true, true, true, true], []), ([40, 13], [true, true, true, true, true, true, true, true, true, true, false], []), ([41], [true, true, true, true, true, true, true, true, true, true, true, false], [])] 0 13 ?_
       refine dD ?_
       refine oN 1 ?_
       refine oK [1, 3, 9, 12, 13, 14, 24, 25, 26] ?_
       refine W.seqR ?_
       refine oN 3 ?_
       refine gX ?_
       refine gX ?_
       refine oN 1 ?_
       refine oK [1, 3, 9, 12, 24, 25, 26, 47] ?_
       refine it (fun hc6 => ?_) (fun hc6 => ?_)
       ·
        try simp at hc6
        replace F := F.add hc6
        refine rE ?_
        refine hK6 _ ?_
        clear hK6 K6
        refine rEw ?_
        refine hK5 _ ?_
        clear hK5 K5
        refine rEw ?_
        refine ⟨(i + 1, out ++ [12]), lf0, ?_, v0⟩
        ·
         first
         | (refine ⟨by show i + 1 ≤ _; omega, by simp [hol], sale_snoc (k := 3) qout his ?_⟩
            rw [← qS, saleC, if_pos (by omega)])
         | (refine ⟨by show i + 1 ≤ _; omega, by simp [hol], sale_snoc (k := 1) qout his ?_⟩
            rw [← qS, saleC, if_neg (by omega), if_pos (by omega)])
         | (refine ⟨by show i + 1 ≤ _; omega, by simp [hol], sale_snoc (k := 12) qout his ?_⟩
            rw [← qS, qsl, if_neg (by rintro ⟨e1, e2⟩; simp_all)])
         | (refine ⟨by show i + 1 ≤ _; omega, by simp [hol], sale_snoc (k := 0) qout his ?_⟩
            rw [← qS, qsl, if_pos (by simp_all)])
       ·
        try simp at hc6
        replace F := F.add hc6
        refine W.skip ?_
        refine hK6 _ ?_
        clear hK6 K6
        refine rEw ?_
        refine hK5 _ ?_
        clear hK5 K5
        refine rEw ?_
        refine ⟨(i + 1, out ++ [0]), lf0, ?_, v0⟩
        ·
         first
         | (refine ⟨by show i + 1 ≤ _; omega, by simp [hol], sale_snoc (k := 3) qout his ?_⟩
            rw [← qS, saleC, if_pos (by omega)])
         | (refine ⟨by show i + 1 ≤ _; omega, by simp [hol], sale_snoc (k := 1) qout his ?_⟩
            rw [← qS, saleC, if_neg (by omega), if_pos (by omega)])
         | (refine ⟨by show i + 1 ≤ _; omega, by simp [hol], sale_snoc (k := 12) qout his ?_⟩
            rw [← qS, qsl, if_neg (by rintro ⟨e1, e2⟩; simp_all)])
         | (refine ⟨by show i + 1 ≤ _; omega, by simp [hol], sale_snoc (k := 0) qout his ?_⟩
            rw [← qS, qsl, if_pos (by simp_all)])
    ·
     try simp at hc3
     replace F := F.add hc3
     refine W.exit ?_
     refine hK3 _ ?_
     clear hK4 K4 hK3 K3
     refine rK [6, 7] ?_
     refine W.ret ?_
     refine er false [9000] [] ?_
     first
     | (rw [show List.take i out = out from List.take_of_length_le (by omega)]
        exact ⟨sell_fine qse (by rw [qout, List.take_of_length_le (by omega)]), rfl⟩)
     | exact ⟨sell_err (by rw [sellE, if_pos hc1]) hc1, rfl⟩
     | exact ⟨sell_err (by rw [sellE, if_neg (fun k => k hc1), if_pos (by omega)]) (by decide), rfl⟩
set_option maxHeartbeats 4000000 in
theorem SameErrors_ok (a : List Int) (h1 : a.length ≤ 1000) : ACalls Tryd.prog 30 [ints a, ints a] [] (fun r o => r = B true ∧ o = []) := by
 have F := Fx.nil
 replace F := F.add h1
 refine ent Tryd.func30 Tryd.ntmps30 Tryd.results30 ?_
 refine rK [0, 1] ?_
 refine rK [0, 1, 5] ?_
 refine W.seqk fun K1 hK1 => ?_
 refine rK [0, 1, 5, 6] ?_
 refine W.block ?_
 refine lpa (α := Nat) [0, 1] [16] [] (fun i => [(5, B true), (6, I i)]) (fun i => []) (fun i => i ≤ a.length) (fun i => a.length - i) 0 v0 ?_
 ·
  intro i hI0
  simp only [List.cons_append, List.nil_append]
  try dsimp only at hI0
  replace F := F.add hI0
  refine W.seqk fun K2 hK2 => ?_
  refine W.seqR ?_
  refine oN 2 ?_
  refine gT ?_
  refine gT ?_
  refine gT ?_
  refine gT ?_
  refine oN 1 ?_
  refine oK [0, 1, 5, 6, 18] ?_
  refine it (fun hc1 => ?_) (fun hc1 => ?_)
  ·
   try simp at hc1
   replace F := F.add hc1
   refine W.skip ?_
   refine hK2 _ ?_
   clear hK2 K2
   refine W.seqk fun K3 hK3 => ?_
   refine W.block ?_
   refine wDe 8 [] [[], [], [1, 0], [0, 1, 2], [], [], [5, 4], [4, 5, 6], [6, 5, 4, 7, 2, 1, 0, 3], [3, 0, 1, 2, 7, 4, 5, 6, 8]] ?_
   refine dB [([22, 25, 26, 27, 28], [], []), ([21, 25, 26, 27, 28], [false], []), ([25, 26, 27, 28], [true, true], []), ([25, 26, 27, 28], [true, true, true], []), ([21, 22, 23, 24, 26], [false, false, false, false], []), ([21, 22, 23, 24, 25], [false, false, false, false, false], []), ([21, 22, 23, 24], [false, false, false, false, true, true], []), ([21, 22, 23, 24], [false, false, false, false, true, true, true], [])] 0 8 ?_
   refine dD ?_
   refine oN 2 ?_
   refine WOps.endK ?_
   refine hK3 _ ?_
   clear hK3 K3
   refine rEw ?_
   refine ⟨i + 1, lf0, v0, v0⟩
  ·
   try simp at hc1
   replace F := F.add hc1
   refine W.exit ?_
   refine hK1 _ ?_
   clear hK2 K2 hK1 K1
   refine rK [4] ?_
   refine W.ret ?_
   exact er0 false [] []
end Go.Sim
