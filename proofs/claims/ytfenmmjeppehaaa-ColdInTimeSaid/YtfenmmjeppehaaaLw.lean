/- Sales, by program and reference; lots made of numbers, copies. -/
import Derived.Test.YtfenmmjeppehaaaLp
import Derived.Test.YtfenmmjeppehaaaLj
import Derived.Test.YtfenmmjeppehaaaLo
import Derived.Test.YtfenmmjeppehaaaQe
namespace Go.Sim
open Go.Proofs
set_option maxRecDepth 100000
set_option linter.unusedSimpArgs false
set_option linter.unusedVariables false
attribute [-simp] List.map_set List.map_take List.map_drop
structure Sld where
  lot : Int
  hour : Int
  deriving DecidableEq
instance : NthD Sld := ⟨⟨0, 0⟩⟩
def D2 (s : Sld) : AV := .agg [I s.lot, I s.hour]
theorem D2_def (s : Sld) : D2 s = .agg [I s.lot, I s.hour] := rfl
attribute [simp] D2_def
theorem sld_eta (s : Sld) : (⟨s.lot, s.hour⟩ : Sld) = s := rfl
attribute [simp] sld_eta
abbrev soldV (s : Sld) : AV := .agg [I s.lot, I s.hour]
abbrev soldsV (l : List Sld) : AV := .imm (l.map D2)
theorem L3_lotV (l : CLot) : L3 l = lotV l := rfl
/-- the error of a cellar and lots -/
def lotsErr (c : Cel) (ls : List CLot) : Int := if checkC c ≠ 0 then checkC c else if 20 < ls.length then 6 else firstNZ (lotErr c.boxes.length) ls
theorem lotsErr_c {c : Cel} {ls : List CLot} (h : ¬ checkC c = 0) : lotsErr c ls = checkC c := by rw [lotsErr, if_pos h]
theorem lotsErr_6 {c : Cel} {ls : List CLot} (h : checkC c = 0) (h6 : 20 < ls.length) : lotsErr c ls = 6 := by rw [lotsErr, if_neg (fun k => k h), if_pos h6]
theorem lotsErr_hit {c : Cel} {ls : List CLot} {i : Nat} (h : checkC c = 0) (h6 : ls.length ≤ 20) (hi : i < ls.length) (he : firstNZ (lotErr c.boxes.length) ls = firstNZ (lotErr c.boxes.length) (ls.drop i)) (hz : ¬ lotErr c.boxes.length ls[i] = 0) : lotsErr c ls = lotErr c.boxes.length ls[i] := by
  rw [lotsErr, if_neg (fun k => k h), if_neg (by omega), he, firstNZ_hit hi hz]
theorem lotsErr_done {c : Cel} {ls : List CLot} {i : Nat} (h : checkC c = 0) (h6 : ls.length ≤ 20) (hi : ls.length ≤ i) (he : firstNZ (lotErr c.boxes.length) ls = firstNZ (lotErr c.boxes.length) (ls.drop i)) : lotsErr c ls = 0 := by
  rw [lotsErr, if_neg (fun k => k h), if_neg (by omega), he, firstNZ_done hi]
theorem lotsErr_zero {c : Cel} {ls : List CLot} : lotsErr c ls = 0 ↔ ValidC c ∧ ls.length ≤ 20 ∧ ∀ l ∈ ls, LotOk c.boxes.length l := by
  unfold lotsErr
  by_cases h : checkC c = 0
  · rw [if_neg (fun k => k h)]
    by_cases h6 : 20 < ls.length
    · rw [if_pos h6]
      exact ⟨fun k => (by cases k), fun k => (by omega)⟩
    · rw [if_neg h6, firstNZ_zero]
      exact ⟨fun k => ⟨checkC_zero.1 h, by omega, fun l hl => lotErr_zero.1 (k l hl)⟩, fun k l hl => lotErr_zero.2 (k.2.2 l hl)⟩
  · rw [if_pos h]
    exact ⟨fun k => absurd k h, fun k => absurd (checkC_zero.2 k.1) h⟩
/-- the error of a sale of lots that may be -/
def saleC (c : Cel) (ls : List CLot) (s : Sld) : Int := if ¬ (0 ≤ s.lot ∧ s.lot ≤ (ls.length : Int) - 1) then 3 else if ¬ (0 ≤ s.hour ∧ s.hour ≤ 240) then 1
  else if lotE c (nth ls s.lot.toNat) s.hour = 0 ∧ freshV c (nth ls s.lot.toNat) s.hour = 1 then 0 else 12
def sellE (c : Cel) (ls : List CLot) (ss : List Sld) : Int := if lotsErr c ls ≠ 0 then lotsErr c ls else if 40 < ss.length then 6 else 0
def sellX (c : Cel) (ls : List CLot) (ss : List Sld) : Option (List Int) := if sellE c ls ss = 0 then some (ss.map (saleC c ls)) else none
def optW : Option (List Int) → AV
  | none => .val (.slice none 0 0)
  | some l => ints l
theorem sell_err {c : Cel} {ls : List CLot} {ss : List Sld} {e : Int} (h : sellE c ls ss = e) (h0 : e ≠ 0) : AV.tup [.val (.slice none 0 0), I e] = AV.tup [optW (sellX c ls ss), I (sellE c ls ss)] := by
  rw [sellX, if_neg (by rw [h]; exact h0), h]; rfl
theorem sell_fine {c : Cel} {ls : List CLot} {ss : List Sld} {out : List Int} (h : sellE c ls ss = 0) (ho : out = ss.map (saleC c ls)) : AV.tup [ints out, I 0] = AV.tup [optW (sellX c ls ss), I (sellE c ls ss)] := by
  rw [sellX, if_pos h, h, ho]; rfl
theorem sale_snoc {f : Sld → Int} {ss : List Sld} {i : Nat} {out : List Int} {k : Int} (h : out = (ss.take i).map f) (hi : i < ss.length) (hk : f ss[i] = k) : out ++ [k] = (ss.take (i + 1)).map f := by
  rw [List.take_succ_eq_append_getElem hi, List.map_append, h, ← hk]; rfl
theorem sale_lot {c : Cel} {ls : List CLot} {s : Sld} {k : Nat} (hv : ∀ l ∈ ls, LotOk c.boxes.length l) (hc : ValidC c) (hk : s.lot = (k : Int)) (hl : k < ls.length) (hh : 0 ≤ s.hour ∧ s.hour ≤ 240) :
    saleC c ls s = (if lotE c ls[k] s.hour = 0 ∧ freshV c ls[k] s.hour = 1 then 0 else 12) ∧ (lotE c ls[k] s.hour = 0 ∨ lotE c ls[k] s.hour = 12) := by
  refine ⟨by rw [saleC, if_neg (by omega), if_neg (by omega), hk, Int.toNat_natCast, nth_get hl], ?_⟩
  rw [lotE, if_neg (fun q => q (checkLotC_zero.2 ⟨hc, hv _ (List.getElem_mem hl)⟩)), if_neg (by omega)]
  split
  · exact .inr rfl
  · exact .inl rfl
set_option maxHeartbeats 4000000 in
theorem checkLots_ok (c : Cel) (ls : List CLot) : ACalls Try.prog 96 [celV c, lotsV ls] [] (fun r o => r = I (lotsErr c ls) ∧ o = []) := by
 refine ACalls.len (l := ls.map L3) (by simp) ⟨_, Try.func96, by kernel_rfl, by kernel_rfl⟩ fun hl => ?_
 simp [maxLen_val] at hl
 have F := Fx.nil
 refine ent Try.func96 Try.ntmps96 Try.results96 ?_
 refine rK [1, 2] ?_
 refine W.seqk fun K1 hK1 => ?_
 refine W.seqR ?_
 refine oN 1 ?_
 refine oC [] ?_
 refine ct (Check_ok ⟨⟨_, _⟩, _, _, _⟩) ?_
 refine oN 1 ?_
 refine oK [1, 2, 5] ?_
 refine rK [1, 2, 5, 12] ?_
 refine it (fun hc1 => ?_) (fun hc1 => ?_)
 ·
  try simp at hc1
  replace F := F.add hc1
  refine rK [4] ?_
  refine W.ret ?_
  refine tr ?_
  clear hK1 K1
  refine er false [] [] ?_
  first
  | exact ⟨congrArg I (lotsErr_c hc1).symm, rfl⟩
  | exact ⟨congrArg I (lotsErr_6 hc1 (by omega)).symm, rfl⟩
  | exact ⟨congrArg I (lotsErr_hit hc1 (by omega) hil hm1 (by assumption)).symm, rfl⟩
  | exact ⟨congrArg I (lotsErr_done hc1 (by omega) (by omega) hm1).symm, rfl⟩
 ·
  try simp at hc1
  replace F := F.add hc1
  refine W.skip ?_
  refine hK1 _ ?_
  clear hK1 K1
  refine W.seqk fun K2 hK2 => ?_
  refine rK [1, 2, 16] ?_
  refine it (fun hc2 => ?_) (fun hc2 => ?_)
  ·
   try simp at hc2
   replace F := F.add hc2
   refine rK [4] ?_
   refine W.ret ?_
   refine tr ?_
   clear hK2 K2
   refine er false [] [] ?_
   first
   | exact ⟨congrArg I (lotsErr_c hc1).symm, rfl⟩
   | exact ⟨congrArg I (lotsErr_6 hc1 (by omega)).symm, rfl⟩
   | exact ⟨congrArg I (lotsErr_hit hc1 (by omega) hil hm1 (by assumption)).symm, rfl⟩
   | exact ⟨congrArg I (lotsErr_done hc1 (by omega) (by omega) hm1).symm, rfl⟩
  ·
   try simp at hc2
   replace F := F.add hc2
   refine W.skip ?_
   refine hK2 _ ?_
   clear hK2 K2
   refine W.seqk fun K3 hK3 => ?_
   refine rK [2, 17, 18, 19] ?_
   refine W.block ?_
   refine lpa (α := Nat) [2, 17, 18] [7, 25] [] (fun i => [(19, I i)]) (fun i => []) (fun i => i ≤ ls.length ∧ firstNZ (lotErr c.boxes.length) ls = firstNZ (lotErr c.boxes.length) (ls.drop i)) (fun i => ls.length - i) 0 v0 ?_
   ·
    intro i hI0
    simp only [List.cons_append, List.nil_append]
    try dsimp only at hI0
    obtain ⟨hi, hm1⟩ := hI0
    replace F := F.add hi
    refine rK [2, 17, 18, 19, 20] ?_
    refine W.seqk fun K4 hK4 => ?_
    refine it (fun hc3 => ?_) (fun hc3 => ?_)
    ·
     try simp at hc3
     replace F := F.add hc3
     refine W.skip ?_
     refine hK4 _ ?_
     clear hK4 K4
     refine W.seqk fun K5 hK5 => ?_
     refine W.block ?_
     have hil : i < ls.length := by omega
     replace F := F.add hil
     refine rK [2, 7, 17, 18, 19] ?_
     refine W.seqR ?_
     refine oN 2 ?_
     refine oC [] ?_
     refine ct (checkStays_ok c ls[i]) ?_
     refine oN 1 ?_
     refine oK [2, 8, 17, 18, 19] ?_
     refine rK [2, 8, 17, 18, 19, 27] ?_
     refine it (fun hc4 => ?_) (fun hc4 => ?_)
     ·
      try simp at hc4
      replace F := F.add hc4
      refine rK [4] ?_
      refine W.ret ?_
      refine br (tr (tr (br (tr ?_))))
      clear hK5 K5 hK3 K3
      refine er false [] [] ?_
      first
      | exact ⟨congrArg I (lotsErr_c hc1).symm, rfl⟩
      | exact ⟨congrArg I (lotsErr_6 hc1 (by omega)).symm, rfl⟩
      | exact ⟨congrArg I (lotsErr_hit hc1 (by omega) hil hm1 (by assumption)).symm, rfl⟩
      | exact ⟨congrArg I (lotsErr_done hc1 (by omega) (by omega) hm1).symm, rfl⟩
     ·
      try simp at hc4
      replace F := F.add hc4
      refine W.skip ?_
      refine hK5 _ ?_
      clear hK5 K5
      refine rEw ?_
      refine ⟨i + 1, lf0, ?_, v0⟩
      ·
       exact ⟨by omega, by rw [hm1, firstNZ_skip hil (by assumption)]⟩
    ·
     try simp at hc3
     replace F := F.add hc3
     refine W.exit ?_
     refine hK3 _ ?_
     clear hK4 K4 hK3 K3
     refine rK [4] ?_
     refine W.ret ?_
     refine er false [] [] ?_
     first
     | exact ⟨congrArg I (lotsErr_c hc1).symm, rfl⟩
     | exact ⟨congrArg I (lotsErr_6 hc1 (by omega)).symm, rfl⟩
     | exact ⟨congrArg I (lotsErr_hit hc1 (by omega) hil hm1 (by assumption)).symm, rfl⟩
     | exact ⟨congrArg I (lotsErr_done hc1 (by omega) (by omega) hm1).symm, rfl⟩
set_option maxHeartbeats 4000000 in
theorem rcheckLots_ok (c : Cel) (ls : List CLot) : ACalls Try.prog 97 [celV c, lotsV ls] [] (fun r o => r = I (lotsErr c ls) ∧ o = []) := by
 refine ACalls.len (l := ls.map L3) (by simp) ⟨_, Try.func97, by kernel_rfl, by kernel_rfl⟩ fun hl => ?_
 simp [maxLen_val] at hl
 have F := Fx.nil
 refine ent Try.func97 Try.ntmps97 Try.results97 ?_
 refine rK [1, 2] ?_
 refine W.seqk fun K1 hK1 => ?_
 refine W.seqR ?_
 refine oN 1 ?_
 refine oC [] ?_
 refine ct (rCheck_ok ⟨⟨_, _⟩, _, _, _⟩) ?_
 refine oN 1 ?_
 refine oK [1, 2, 5] ?_
 refine rK [1, 2, 5, 11] ?_
 refine it (fun hc1 => ?_) (fun hc1 => ?_)
 ·
  try simp at hc1
  replace F := F.add hc1
  refine rK [4] ?_
  refine W.ret ?_
  refine tr ?_
  clear hK1 K1
  refine er false [] [] ?_
  first
  | exact ⟨congrArg I (lotsErr_c hc1).symm, rfl⟩
  | exact ⟨congrArg I (lotsErr_6 hc1 (by omega)).symm, rfl⟩
  | exact ⟨congrArg I (lotsErr_hit hc1 (by omega) hil hm1 (by assumption)).symm, rfl⟩
  | exact ⟨congrArg I (lotsErr_done hc1 (by omega) (by omega) hm1).symm, rfl⟩
 ·
  try simp at hc1
  replace F := F.add hc1
  refine W.skip ?_
  refine hK1 _ ?_
  clear hK1 K1
  refine W.seqk fun K2 hK2 => ?_
  refine rK [1, 2, 15] ?_
  refine it (fun hc2 => ?_) (fun hc2 => ?_)
  ·
   try simp at hc2
   replace F := F.add hc2
   refine rK [4] ?_
   refine W.ret ?_
   refine tr ?_
   clear hK2 K2
   refine er false [] [] ?_
   first
   | exact ⟨congrArg I (lotsErr_c hc1).symm, rfl⟩
   | exact ⟨congrArg I (lotsErr_6 hc1 (by omega)).symm, rfl⟩
   | exact ⟨congrArg I (lotsErr_hit hc1 (by omega) hil hm1 (by assumption)).symm, rfl⟩
   | exact ⟨congrArg I (lotsErr_done hc1 (by omega) (by omega) hm1).symm, rfl⟩
  ·
   try simp at hc2
   replace F := F.add hc2
   refine W.skip ?_
   refine hK2 _ ?_
   clear hK2 K2
   refine W.seqk fun K3 hK3 => ?_
   refine rK [1, 2, 6] ?_
   refine W.block ?_
   refine lpa (α := Nat) [1, 2] [18, 27] [] (fun i => [(6, I i)]) (fun i => []) (fun i => i ≤ ls.length ∧ firstNZ (lotErr c.boxes.length) ls = firstNZ (lotErr c.boxes.length) (ls.drop i)) (fun i => ls.length - i) 0 v0 ?_
   ·
    intro i hI0
    simp only [List.cons_append, List.nil_append]
    try dsimp only at hI0
    obtain ⟨hi, hm1⟩ := hI0
    replace F := F.add hi
    refine W.seqk fun K4 hK4 => ?_
    refine rK [1, 2, 6, 19] ?_
    refine it (fun hc3 => ?_) (fun hc3 => ?_)
    ·
     try simp at hc3
     replace F := F.add hc3
     refine W.skip ?_
     refine hK4 _ ?_
     clear hK4 K4
     refine W.seqk fun K5 hK5 => ?_
     refine W.block ?_
     have hil : i < ls.length := by omega
     have hcl : checkLotC c ls[i] = lotErr c.boxes.length ls[i] := by rw [checkLotC, if_neg (fun k => k hc1)]
     replace F := F.add hil |>.add hcl
     refine wD 5 [] [[], [], [], [2, 1], [1, 2, 3], [3, 2, 1, 4, 0], [0, 4, 1, 2, 3, 5]] ?_
     refine dB [([23, 24, 25, 26], [], []), ([22, 24], [false], []), ([22, 23], [false, false], []), ([22], [false, true, true], []), ([22], [false, true, true, true], [])] 0 5 ?_
     refine dD ?_
     refine oC [] ?_
     refine ct (rCheckLot_ok c ls[i]) ?_
     refine oN 1 ?_
     refine oK [1, 2, 6, 7] ?_
     refine rK [1, 2, 6, 7, 29] ?_
     refine it (fun hc4 => ?_) (fun hc4 => ?_)
     ·
      try simp at hc4
      replace F := F.add hc4
      refine rK [4] ?_
      refine W.ret ?_
      refine br (tr (tr (br (tr ?_))))
      clear hK5 K5 hK3 K3
      refine er false [] [] ?_
      first
      | exact ⟨congrArg I (lotsErr_c hc1).symm, rfl⟩
      | exact ⟨congrArg I (lotsErr_6 hc1 (by omega)).symm, rfl⟩
      | exact ⟨congrArg I (lotsErr_hit hc1 (by omega) hil hm1 (by assumption)).symm, rfl⟩
      | exact ⟨congrArg I (lotsErr_done hc1 (by omega) (by omega) hm1).symm, rfl⟩
     ·
      try simp at hc4
      replace F := F.add hc4
      refine W.skip ?_
      refine hK5 _ ?_
      clear hK5 K5
      refine rEw ?_
      refine ⟨i + 1, lf0, ?_, v0⟩
      ·
       exact ⟨by omega, by rw [hm1, firstNZ_skip hil (by assumption)]⟩
    ·
     try simp at hc3
     replace F := F.add hc3
     refine W.exit ?_
     refine hK3 _ ?_
     clear hK4 K4 hK3 K3
     refine rK [4] ?_
     refine W.ret ?_
     refine er false [] [] ?_
     first
     | exact ⟨congrArg I (lotsErr_c hc1).symm, rfl⟩
     | exact ⟨congrArg I (lotsErr_6 hc1 (by omega)).symm, rfl⟩
     | exact ⟨congrArg I (lotsErr_hit hc1 (by omega) hil hm1 (by assumption)).symm, rfl⟩
     | exact ⟨congrArg I (lotsErr_done hc1 (by omega) (by omega) hm1).symm, rfl⟩
set_option maxHeartbeats 4000000 in
theorem Sell_ok (c : Cel) (ls : List CLot) (ss : List Sld) : ACalls Try.prog 60 [celV c, lotsV ls, soldsV ss] [] (fun r o => r = .tup [optW (sellX c ls ss), I (sellE c ls ss)] ∧ o = []) := by
 refine ACalls.len (l := ls.map L3) (by simp) ⟨_, Try.func60, by kernel_rfl, by kernel_rfl⟩ fun hl => ?_
 simp [maxLen_val] at hl
 have F := Fx.nil
 refine ent Try.func60 Try.ntmps60 Try.results60 ?_
 refine rK [1, 2, 3] ?_
 refine W.seqk fun K1 hK1 => ?_
 refine W.seqR ?_
 refine oN 2 ?_
 refine oC [] ?_
 refine ct (checkLots_ok ⟨⟨_, _⟩, _, _, _⟩ _) ?_
 refine oN 1 ?_
 refine oK [1, 2, 3, 8] ?_
 refine rK [1, 2, 3, 8, 19] ?_
 refine it (fun hc1 => ?_) (fun hc1 => ?_)
 ·
  try simp at hc1
  replace F := F.add hc1
  refine rK [6, 7] ?_
  refine W.ret ?_
  refine tr ?_
  clear hK1 K1
  refine er false [] [] ?_
  first
  | (rw [show List.take i out = out from List.take_of_length_le (by omega)]
     exact ⟨sell_fine qse (by rw [qout, List.take_of_length_le (by omega)]), rfl⟩)
  | exact ⟨sell_err (by rw [sellE, if_pos hc1]) hc1, rfl⟩
  | exact ⟨sell_err (by rw [sellE, if_neg (fun k => k hc1), if_pos (by omega)]) (by decide), rfl⟩
 ·
  try simp at hc1
  replace F := F.add hc1
  refine W.skip ?_
  refine hK1 _ ?_
  clear hK1 K1
  refine W.seqk fun K2 hK2 => ?_
  refine rK [1, 2, 3, 23] ?_
  refine it (fun hc2 => ?_) (fun hc2 => ?_)
  ·
   try simp at hc2
   replace F := F.add hc2
   refine rK [6, 7] ?_
   refine W.ret ?_
   refine tr ?_
   clear hK2 K2
   refine er false [] [] ?_
   first
   | (rw [show List.take i out = out from List.take_of_length_le (by omega)]
      exact ⟨sell_fine qse (by rw [qout, List.take_of_length_le (by omega)]), rfl⟩)
   | exact ⟨sell_err (by rw [sellE, if_pos hc1]) hc1, rfl⟩
   | exact ⟨sell_err (by rw [sellE, if_neg (fun k => k hc1), if_pos (by omega)]) (by decide), rfl⟩
  ·
   try simp at hc2
   replace F := F.add hc2
   refine W.skip ?_
   refine hK2 _ ?_
   clear hK2 K2
   obtain ⟨qv, ql20, qlo⟩ := lotsErr_zero.1 hc1
   have hss : ss.length ≤ 40 := by omega
   have qse : sellE c ls ss = 0 := by rw [sellE, if_neg (fun k => k hc1), if_neg (by omega)]
   replace F := F.add hss
   refine rK [1, 2, 3, 9] ?_
   refine W.seqk fun K3 hK3 => ?_
   refine rK [1, 3, 9, 24, 25, 26] ?_
   refine W.block ?_
   refine sn 9 9000 43 1 ?_
   refine lpa (α := Nat × List Int) [1, 3, 24, 25] [11, 39, 52, 54, 59, 63, 64] [9000] (fun x => [(26, I x.1), (9, .own 9000 0 x.2.length)]) (fun x => [(9000, .row true 43 1 (x.2.map I))]) (fun x => x.1 ≤ ss.length ∧ x.2.length = x.1 ∧ x.2 = (ss.take x.1).map (saleC c ls)) (fun x => ss.length - x.1) (0, []) ?_ ?_
   ·
    exact ⟨Nat.zero_le _, rfl, rfl⟩
   ·
    intro ⟨i, out⟩ hI0
    simp only [List.cons_append, List.nil_append]
    try dsimp only at hI0
    obtain ⟨hi, hol, qout⟩ := hI0
    replace F := F.add hi |>.add hol
    refine rK [1, 3, 9, 24, 25, 26, 27] ?_
    refine W.seqk fun K4 hK4 => ?_
    refine it (fun hc3 => ?_) (fun hc3 => ?_)
    ·
     try simp at hc3
     replace F := F.add hc3
     refine W.skip ?_
     refine hK4 _ ?_
     clear hK4 K4
     refine W.seqk fun K5 hK5 => ?_
     refine W.block ?_
     have his : i < ss.length := by omega
     obtain ⟨S, qS⟩ : ∃ S, S = ss[i] := ⟨_, rfl⟩
     have hS := qS.symm
     replace F := F.add his |>.add hS
     refine rK [1, 3, 9, 11, 24, 25, 26] ?_
     refine rK [1, 3, 9, 11, 12, 24, 25, 26] ?_
     refine W.seqk fun K6 hK6 => ?_
     refine W.block ?_
     refine W.seqR ?_
     refine oNw 5 ?_
     refine oC [] ?_
     refine ct (in_ok _ _ _) ?_
     refine oN 2 ?_
     refine oK [1, 3, 9, 11, 12, 24, 25, 26, 48] ?_
     refine it (fun hc4 => ?_) (fun hc4 => ?_)
     ·
      try simp at hc4
      replace F := F.add hc4
      refine rE ?_
      refine hK6 _ ?_
      clear hK6 K6
      refine rEw ?_
      refine hK5 _ ?_
      clear hK5 K5
      refine rEw ?_
      refine ⟨(i + 1, out ++ [3]), lf0, ?_, v0⟩
      ·
       first
       | (refine ⟨by show i + 1 ≤ _; omega, by simp [hol], sale_snoc (k := 3) qout his ?_⟩
          rw [← qS, saleC, if_pos (by omega)])
       | (refine ⟨by show i + 1 ≤ _; omega, by simp [hol], sale_snoc (k := 1) qout his ?_⟩
          rw [← qS, saleC, if_neg (by omega), if_pos (by omega)])
       | (refine ⟨by show i + 1 ≤ _; omega, by simp [hol], sale_snoc (k := 12) qout his ?_⟩
          rw [← qS, qsl, if_neg (by rintro ⟨e1, e2⟩; simp_all)])
       | (refine ⟨by show i + 1 ≤ _; omega, by simp [hol], sale_snoc (k := 0) qout his ?_⟩
          rw [← qS, qsl, if_pos (by simp_all)])
     ·
      try simp at hc4
      replace F := F.add hc4
      refine W.seqR ?_
      refine oN 2 ?_
      refine oC [] ?_
      refine ct (in_ok _ _ _) ?_
      refine oN 2 ?_
      refine oK [1, 3, 9, 11, 12, 24, 25, 26, 56] ?_
      refine it (fun hc5 => ?_) (fun hc5 => ?_)
      ·
       try simp at hc5
       replace F := F.add hc5
       refine rE ?_
       refine hK6 _ ?_
       clear hK6 K6
       refine rEw ?_
       refine hK5 _ ?_
       clear hK5 K5
       refine rEw ?_
       refine ⟨(i + 1, out ++ [1]), lf0, ?_, v0⟩
       ·
        first
        | (refine ⟨by show i + 1 ≤ _; omega, by simp [hol], sale_snoc (k := 3) qout his ?_⟩
           rw [← qS, saleC, if_pos (by omega)])
        | (refine ⟨by show i + 1 ≤ _; omega, by simp [hol], sale_snoc (k := 1) qout his ?_⟩
           rw [← qS, saleC, if_neg (by omega), if_pos (by omega)])
        | (refine ⟨by show i + 1 ≤ _; omega, by simp [hol], sale_snoc (k := 12) qout his ?_⟩
           rw [← qS, qsl, if_neg (by rintro ⟨e1, e2⟩; simp_all)])
        | (refine ⟨by show i + 1 ≤ _; omega, by simp [hol], sale_snoc (k := 0) qout his ?_⟩
           rw [← qS, qsl, if_pos (by simp_all)])
      ·
       try simp at hc5
       replace F := F.add hc5
       obtain ⟨k, qk⟩ : ∃ k : Nat, S.lot = (k : Int) := ⟨S.lot.toNat, by omega⟩
       have hk := qk
       have hkl : k < ls.length := by omega
       have hkh : 0 ≤ S.hour ∧ S.hour ≤ 240 := by omega
       obtain ⟨qsl, qe⟩ := sale_lot qlo qv qk hkl hkh
       replace F := F.add hk |>.add hkl |>.add hkh
       refine wD 13 [] [[], [], [], [2], [2, 3, 1], [1, 3, 2, 4], [], [6], [6, 7, 4, 2, 3, 1, 5, 0], [0, 5, 1, 3, 2, 4, 7, 6, 8], [8, 6, 7, 4, 2, 3, 1, 5, 0, 9], [8, 6, 7, 4, 2, 3, 1, 5, 0, 9], [9, 0, 5, 1, 3, 2, 4, 7, 6, 8, 10], [10, 12, 9, 0, 5, 1, 3, 2, 4, 7, 6, 8, 11]] ?_
       refine dB [([32, 33, 34, 35, 36, 37, 38], [], []), ([31, 33, 34, 37, 38], [false], []), ([31, 32, 37, 38], [false, false], []), ([31, 32, 37, 38], [false, false, true], []), ([31, 37, 38], [false, true, true, true], []), ([31, 37, 38], [false, true, true, true, true], []), ([31, 32, 33, 34, 35, 36], [false, false, false, false, false, false], []), ([31, 32, 33, 34, 35, 36], [false, false, false, false, false, false, true], [])] 5 8 ?_
       refine dC [] [true, true, true, true, true, true, true, true] [] [] ?_
       refine cd (Fresh_ok c ls[k] S.hour) ?_
       refine dB [([], [true, true, true, true, true, true, true, true, true], []), ([41], [true, true, true, true, true, true, true, true, true, true], []), ([40, 13], [true, true, true, true, true, true, true, true, true, true, false], []), ([41], [true, true, true, true, true, true, true, true, true, true, true, false], [])] 0 13 ?_
       refine dD ?_
       refine oN 1 ?_
       refine oK [1, 3, 9, 12, 13, 14, 24, 25, 26] ?_
       refine W.seqR ?_
       refine oN 3 ?_
       refine gX ?_
       refine gX ?_
       refine oN 1 ?_
       refine oK [1, 3, 9, 12, 24, 25, 26, 47] ?_
       refine it (fun hc6 => ?_) (fun hc6 => ?_)
       ·
        try simp at hc6
        replace F := F.add hc6
        refine rE ?_
        refine hK6 _ ?_
        clear hK6 K6
        refine rEw ?_
        refine hK5 _ ?_
        clear hK5 K5
        refine rEw ?_
        refine ⟨(i + 1, out ++ [12]), lf0, ?_, v0⟩
        ·
         first
         | (refine ⟨by show i + 1 ≤ _; omega, by simp [hol], sale_snoc (k := 3) qout his ?_⟩
            rw [← qS, saleC, if_pos (by omega)])
         | (refine ⟨by show i + 1 ≤ _; omega, by simp [hol], sale_snoc (k := 1) qout his ?_⟩
            rw [← qS, saleC, if_neg (by omega), if_pos (by omega)])
         | (refine ⟨by show i + 1 ≤ _; omega, by simp [hol], sale_snoc (k := 12) qout his ?_⟩
            rw [← qS, qsl, if_neg (by rintro ⟨e1, e2⟩; simp_all)])
         | (refine ⟨by show i + 1 ≤ _; omega, by simp [hol], sale_snoc (k := 0) qout his ?_⟩
            rw [← qS, qsl, if_pos (by simp_all)])
       ·
        try simp at hc6
        replace F := F.add hc6
        refine W.skip ?_
        refine hK6 _ ?_
        clear hK6 K6
        refine rEw ?_
        refine hK5 _ ?_
        clear hK5 K5
        refine rEw ?_
        refine ⟨(i + 1, out ++ [0]), lf0, ?_, v0⟩
        ·
         first
         | (refine ⟨by show i + 1 ≤ _; omega, by simp [hol], sale_snoc (k := 3) qout his ?_⟩
            rw [← qS, saleC, if_pos (by omega)])
         | (refine ⟨by show i + 1 ≤ _; omega, by simp [hol], sale_snoc (k := 1) qout his ?_⟩
            rw [← qS, saleC, if_neg (by omega), if_pos (by omega)])
         | (refine ⟨by show i + 1 ≤ _; omega, by simp [hol], sale_snoc (k := 12) qout his ?_⟩
            rw [← qS, qsl, if_neg (by rintro ⟨e1, e2⟩; simp_all)])
         | (refine ⟨by show i + 1 ≤ _; omega, by simp [hol], sale_snoc (k := 0) qout his ?_⟩
            rw [← qS, qsl, if_pos (by simp_all)])
    ·
     try simp at hc3
     replace F := F.add hc3
     refine W.exit ?_
     refine hK3 _ ?_
     clear hK4 K4 hK3 K3
     refine rK [6, 7] ?_
     refine W.ret ?_
     refine er false [9000] [] ?_
     first
     | (rw [show List.take i out = out from List.take_of_length_le (by omega)]
        exact ⟨sell_fine qse (by rw [qout, List.take_of_length_le (by omega)]), rfl⟩)
     | exact ⟨sell_err (by rw [sellE, if_pos hc1]) hc1, rfl⟩
     | exact ⟨sell_err (by rw [sellE, if_neg (fun k => k hc1), if_pos (by omega)]) (by decide), rfl⟩
set_option maxHeartbeats 4000000 in
theorem rsale_ok (c : Cel) (hv : ValidC c) (ls : List CLot) (hlo : ∀ l ∈ ls, LotOk c.boxes.length l) (h20 : ls.length ≤ 20) (s : Sld) : ACalls Try.prog 98 [celV c, lotsV ls, soldV s] [] (fun r o => r = I (saleC c ls s) ∧ o = []) := by
 have F := Fx.nil
 replace F := F.add h20
 refine ent Try.func98 Try.ntmps98 Try.results98 ?_
 refine rK [1, 3, 5] ?_
 refine W.seqk fun K1 hK1 => ?_
 refine W.seqR ?_
 refine oNw 5 ?_
 refine oC [] ?_
 refine ct (within_ok _ _ _) ?_
 refine oN 1 ?_
 refine oK [1, 3, 5, 15] ?_
 refine it (fun hc1 => ?_) (fun hc1 => ?_)
 ·
  try simp at hc1
  replace F := F.add hc1
  refine rK [6] ?_
  refine W.ret ?_
  refine tr ?_
  clear hK1 K1
  refine er false [] [] ?_
  (try simp only [inB_t, inB_f] at *)
  first
  | exact ⟨congrArg I (by rw [saleC, if_pos (by omega)]), by trivial⟩
  | (have qh : 0 ≤ s.hour ∧ s.hour ≤ 240 := by
       by_cases q : 0 ≤ s.hour ∧ s.hour ≤ 240
       · exact q
       · exfalso
         have : lotE c ls[k] s.hour = 1 := by rw [lotE, if_neg (fun q => q (checkLotC_zero.2 ⟨hv, qlk⟩)), if_pos q]
         simp_all
     obtain ⟨qsl, qe⟩ := sale_lot hlo hv qk hkl qh
     exact ⟨congrArg I (by rw [qsl, if_neg (by rintro ⟨e1, e2⟩; simp_all)]), by trivial⟩)
  | (by_cases qh : 0 ≤ s.hour ∧ s.hour ≤ 240
     · obtain ⟨qsl, qe⟩ := sale_lot hlo hv qk hkl qh
       rcases qe with e | e
       · exact ⟨congrArg I (by rw [qsl, e, if_pos (by simp_all)]), by trivial⟩
       · exact ⟨congrArg I (by rw [qsl, e, if_neg (by rintro ⟨e1, e2⟩; simp_all)]), by trivial⟩
     · have e : lotE c ls[k] s.hour = 1 := by rw [lotE, if_neg (fun q => q (checkLotC_zero.2 ⟨hv, qlk⟩)), if_pos qh]
       exact ⟨congrArg I (by rw [e, saleC, if_neg (by omega), if_pos (by omega)]), by trivial⟩)
 ·
  try simp at hc1
  replace F := F.add hc1
  refine W.skip ?_
  refine hK1 _ ?_
  clear hK1 K1
  (try simp only [inB_t, inB_f] at *)
  obtain ⟨k, qk⟩ : ∃ k : Nat, s.lot = (k : Int) := ⟨s.lot.toNat, by omega⟩
  have hk := qk
  have hkl : k < ls.length := by omega
  have qlk := hlo _ (List.getElem_mem hkl)
  replace F := F.add hk |>.add hkl
  refine wD 13 [] [[], [], [], [2], [2, 3, 1], [1, 3, 2, 4], [], [6], [6, 7, 4, 2, 3, 1, 5, 0], [0, 5, 1, 3, 2, 4, 7, 6, 8], [8, 6, 7, 4, 2, 3, 1, 5, 0, 9], [8, 6, 7, 4, 2, 3, 1, 5, 0, 9], [9, 0, 5, 1, 3, 2, 4, 7, 6, 8, 10], [10, 12, 9, 0, 5, 1, 3, 2, 4, 7, 6, 8, 11]] ?_
  refine dB [([18, 19, 20, 21, 22, 23, 24], [], []), ([17, 19, 20, 23, 24], [false], []), ([17, 18, 23, 24], [false, false], []), ([17, 18, 23, 24], [false, false, true], []), ([17, 23, 24], [false, true, true, true], []), ([17, 23, 24], [false, true, true, true, true], []), ([17, 18, 19, 20, 21, 22], [false, false, false, false, false, false], []), ([17, 18, 19, 20, 21, 22], [false, false, false, false, false, false, true], [])] 5 8 ?_
  refine dC [] [true, true, true, true, true, true, true, true] [] [] ?_
  refine cd (rFresh_ok c ls[k] s.hour) ?_
  refine dB [([], [true, true, true, true, true, true, true, true, true], []), ([27], [true, true, true, true, true, true, true, true, true, true], []), ([26, 7], [true, true, true, true, true, true, true, true, true, true, false], []), ([27], [true, true, true, true, true, true, true, true, true, true, true, false], [])] 0 13 ?_
  refine dD ?_
  refine oN 1 ?_
  refine oK [7, 8] ?_
  refine W.seqk fun K2 hK2 => ?_
  refine W.seqR ?_
  refine oN 3 ?_
  refine gX ?_
  refine gX ?_
  refine oN 1 ?_
  refine oK [8, 33] ?_
  refine it (fun hc2 => ?_) (fun hc2 => ?_)
  ·
   try simp at hc2
   replace F := F.add hc2
   refine rK [6] ?_
   refine W.ret ?_
   refine tr ?_
   clear hK2 K2
   refine er false [] [] ?_
   (try simp only [inB_t, inB_f] at *)
   first
   | exact ⟨congrArg I (by rw [saleC, if_pos (by omega)]), by trivial⟩
   | (have qh : 0 ≤ s.hour ∧ s.hour ≤ 240 := by
        by_cases q : 0 ≤ s.hour ∧ s.hour ≤ 240
        · exact q
        · exfalso
          have : lotE c ls[k] s.hour = 1 := by rw [lotE, if_neg (fun q => q (checkLotC_zero.2 ⟨hv, qlk⟩)), if_pos q]
          simp_all
      obtain ⟨qsl, qe⟩ := sale_lot hlo hv qk hkl qh
      exact ⟨congrArg I (by rw [qsl, if_neg (by rintro ⟨e1, e2⟩; simp_all)]), by trivial⟩)
   | (by_cases qh : 0 ≤ s.hour ∧ s.hour ≤ 240
      · obtain ⟨qsl, qe⟩ := sale_lot hlo hv qk hkl qh
        rcases qe with e | e
        · exact ⟨congrArg I (by rw [qsl, e, if_pos (by simp_all)]), by trivial⟩
        · exact ⟨congrArg I (by rw [qsl, e, if_neg (by rintro ⟨e1, e2⟩; simp_all)]), by trivial⟩
      · have e : lotE c ls[k] s.hour = 1 := by rw [lotE, if_neg (fun q => q (checkLotC_zero.2 ⟨hv, qlk⟩)), if_pos qh]
        exact ⟨congrArg I (by rw [e, saleC, if_neg (by omega), if_pos (by omega)]), by trivial⟩)
  ·
   try simp at hc2
   replace F := F.add hc2
   refine W.skip ?_
   refine hK2 _ ?_
   clear hK2 K2
   refine rK [6] ?_
   refine W.ret ?_
   refine er false [] [] ?_
   (try simp only [inB_t, inB_f] at *)
   first
   | exact ⟨congrArg I (by rw [saleC, if_pos (by omega)]), by trivial⟩
   | (have qh : 0 ≤ s.hour ∧ s.hour ≤ 240 := by
        by_cases q : 0 ≤ s.hour ∧ s.hour ≤ 240
        · exact q
        · exfalso
          have : lotE c ls[k] s.hour = 1 := by rw [lotE, if_neg (fun q => q (checkLotC_zero.2 ⟨hv, qlk⟩)), if_pos q]
          simp_all
      obtain ⟨qsl, qe⟩ := sale_lot hlo hv qk hkl qh
      exact ⟨congrArg I (by rw [qsl, if_neg (by rintro ⟨e1, e2⟩; simp_all)]), by trivial⟩)
   | (by_cases qh : 0 ≤ s.hour ∧ s.hour ≤ 240
      · obtain ⟨qsl, qe⟩ := sale_lot hlo hv qk hkl qh
        rcases qe with e | e
        · exact ⟨congrArg I (by rw [qsl, e, if_pos (by simp_all)]), by trivial⟩
        · exact ⟨congrArg I (by rw [qsl, e, if_neg (by rintro ⟨e1, e2⟩; simp_all)]), by trivial⟩
      · have e : lotE c ls[k] s.hour = 1 := by rw [lotE, if_neg (fun q => q (checkLotC_zero.2 ⟨hv, qlk⟩)), if_pos qh]
        exact ⟨congrArg I (by rw [e, saleC, if_neg (by omega), if_pos (by omega)]), by trivial⟩)
set_option maxHeartbeats 4000000 in
theorem rSell_ok (c : Cel) (ls : List CLot) (ss : List Sld) : ACalls Try.prog 61 [celV c, lotsV ls, soldsV ss] [] (fun r o => r = .tup [optW (sellX c ls ss), I (sellE c ls ss)] ∧ o = []) := by
 refine ACalls.len (l := ls.map L3) (by simp) ⟨_, Try.func61, by kernel_rfl, by kernel_rfl⟩ fun hl => ?_
 simp [maxLen_val] at hl
 have F := Fx.nil
 refine ent Try.func61 Try.ntmps61 Try.results61 ?_
 refine rK [1, 2, 3] ?_
 refine W.seqk fun K1 hK1 => ?_
 refine W.seqR ?_
 refine oN 2 ?_
 refine oC [] ?_
 refine ct (rcheckLots_ok ⟨⟨_, _⟩, _, _, _⟩ _) ?_
 refine oN 1 ?_
 refine oK [1, 2, 3, 8] ?_
 refine rK [1, 2, 3, 8, 15] ?_
 refine it (fun hc1 => ?_) (fun hc1 => ?_)
 ·
  try simp at hc1
  replace F := F.add hc1
  refine rK [6, 7] ?_
  refine W.ret ?_
  refine tr ?_
  clear hK1 K1
  refine er false [] [] ?_
  first
  | (rw [show List.take i out = out from List.take_of_length_le (by omega)]
     exact ⟨sell_fine qse (by rw [qout, List.take_of_length_le (by omega)]), rfl⟩)
  | exact ⟨sell_err (by rw [sellE, if_pos hc1]) hc1, rfl⟩
  | exact ⟨sell_err (by rw [sellE, if_neg (fun k => k hc1), if_pos (by omega)]) (by decide), rfl⟩
 ·
  try simp at hc1
  replace F := F.add hc1
  refine W.skip ?_
  refine hK1 _ ?_
  clear hK1 K1
  refine W.seqk fun K2 hK2 => ?_
  refine rK [1, 2, 3, 19] ?_
  refine it (fun hc2 => ?_) (fun hc2 => ?_)
  ·
   try simp at hc2
   replace F := F.add hc2
   refine rK [6, 7] ?_
   refine W.ret ?_
   refine tr ?_
   clear hK2 K2
   refine er false [] [] ?_
   first
   | (rw [show List.take i out = out from List.take_of_length_le (by omega)]
      exact ⟨sell_fine qse (by rw [qout, List.take_of_length_le (by omega)]), rfl⟩)
   | exact ⟨sell_err (by rw [sellE, if_pos hc1]) hc1, rfl⟩
   | exact ⟨sell_err (by rw [sellE, if_neg (fun k => k hc1), if_pos (by omega)]) (by decide), rfl⟩
  ·
   try simp at hc2
   replace F := F.add hc2
   refine W.skip ?_
   refine hK2 _ ?_
   clear hK2 K2
   obtain ⟨qv, ql20, qlo⟩ := lotsErr_zero.1 hc1
   have hss : ss.length ≤ 40 := by omega
   have qse : sellE c ls ss = 0 := by rw [sellE, if_neg (fun k => k hc1), if_neg (by omega)]
   replace F := F.add hss
   refine rK [1, 2, 3, 9] ?_
   refine W.seqk fun K3 hK3 => ?_
   refine rK [1, 2, 3, 9, 10] ?_
   refine W.block ?_
   refine sn 9 9000 43 1 ?_
   refine lpa (α := Nat × List Int) [1, 2, 3] [22, 33, 34, 35] [9000] (fun x => [(10, I x.1), (9, .own 9000 0 x.2.length)]) (fun x => [(9000, .row true 43 1 (x.2.map I))]) (fun x => x.1 ≤ ss.length ∧ x.2.length = x.1 ∧ x.2 = (ss.take x.1).map (saleC c ls)) (fun x => ss.length - x.1) (0, []) ?_ ?_
   ·
    exact ⟨Nat.zero_le _, rfl, rfl⟩
   ·
    intro ⟨i, out⟩ hI0
    simp only [List.cons_append, List.nil_append]
    try dsimp only at hI0
    obtain ⟨hi, hol, qout⟩ := hI0
    replace F := F.add hi |>.add hol
    refine W.seqk fun K4 hK4 => ?_
    refine rK [1, 2, 3, 9, 10, 23] ?_
    refine it (fun hc3 => ?_) (fun hc3 => ?_)
    ·
     try simp at hc3
     replace F := F.add hc3
     refine W.skip ?_
     refine hK4 _ ?_
     clear hK4 K4
     refine W.seqk fun K5 hK5 => ?_
     refine W.block ?_
     have his : i < ss.length := by omega
     obtain ⟨S, qS⟩ : ∃ S, S = ss[i] := ⟨_, rfl⟩
     have hS := qS.symm
     replace F := F.add his |>.add hS
     refine wDe 9 [] [[], [], [], [], [], [4, 3], [3, 4, 5], [5, 4, 3, 6, 2, 1], [1, 2, 6, 3, 4, 5, 7], [7, 5, 4, 3, 6, 2, 1, 8, 0], [0, 8, 1, 2, 6, 3, 4, 5, 7, 9]] ?_
     refine dB [([27, 28, 29, 30, 31, 32, 33, 34], [], []), ([26, 28, 29, 30, 31, 32], [false], []), ([26, 27, 29, 30, 31, 32], [false, false], []), ([26, 27, 28, 30], [false, false, false], []), ([26, 27, 28, 29], [false, false, false, false], []), ([26, 27, 28], [false, false, false, true, true], []), ([26, 27, 28], [false, false, false, true, true, true], [])] 2 7 ?_
     refine dC [26] [false, true, true, true, true, true, true] [] [] ?_
     refine cd (rsale_ok c qv ls qlo ql20 S) ?_
     refine dB [([26], [false, true, true, true, true, true, true, true], [])] 0 9 ?_
     refine dD ?_
     refine oNw 2 ?_
     refine WOps.endK ?_
     refine hK5 _ ?_
     clear hK5 K5
     refine rEw ?_
     refine ⟨(i + 1, out ++ [saleC c ls S]), lf0, ?_, v0⟩
     ·
      exact ⟨by show i + 1 ≤ _; omega, by simp [hol], sale_snoc qout his (by rw [← qS])⟩
    ·
     try simp at hc3
     replace F := F.add hc3
     refine W.exit ?_
     refine hK3 _ ?_
     clear hK4 K4 hK3 K3
     refine rK [6, 7] ?_
     refine W.ret ?_
     refine er false [9000] [] ?_
     first
     | (rw [show List.take i out = out from List.take_of_length_le (by omega)]
        exact ⟨sell_fine qse (by rw [qout, List.take_of_length_le (by omega)]), rfl⟩)
     | exact ⟨sell_err (by rw [sellE, if_pos hc1]) hc1, rfl⟩
     | exact ⟨sell_err (by rw [sellE, if_neg (fun k => k hc1), if_pos (by omega)]) (by decide), rfl⟩
set_option maxHeartbeats 4000000 in
theorem LotsOf_ok (f : Int) (c : Cel) (hbl : c.boxes.length ≤ 1000) (p : Nat) (hp : p ≤ 20) : ACalls Try.prog 58 [.ptr 10000 0 0, celV c, I p] [(10000, die f)] (fun r o => ∃ z : List CLot × Int, r = lotsV z.1 ∧ o = [(10000, die z.2)] ∧ (z.1.length ≤ p ∧ ∀ l ∈ z.1, MadeT c l)) := by
 have F := Fx.nil
 replace F := F.add hp
 refine ent Try.func58 Try.ntmps58 Try.results58 ?_
 refine rK [0, 2, 4] ?_
 refine rK [0, 2, 4, 7] ?_
 refine W.seqk fun K1 hK1 => ?_
 refine W.seqR ?_
 refine oNw 3 ?_
 refine oC [(10000, 10000)] ?_
 refine CallT.mkE (Cast_E f ((p : Int) + 1) (by omega) (by omega)) (fun z12 hz12 => ⟨(by simp [hp]), ?_⟩)
 obtain ⟨m, qm⟩ : ∃ m : Nat, z12.1 = (m : Int) := ⟨z12.1.toNat, by omega⟩
 have hmq := qm
 have hmp : m ≤ p := by omega
 replace F := F.add hmq |>.add hmp
 refine WOps.norm (by simp [hp, hmq, hmp]; rfl) ?_
 refine oN 1 ?_
 refine oK [0, 4, 7, 8] ?_
 refine W.block ?_
 refine sn 7 9000 51 3 ?_
 refine lpa (α := List CLot × Int × Nat) [0, 4] [20, 21, 22] [9000, 10000] (fun x => [(7, .own 9000 0 x.1.length), (8, I x.2.2)]) (fun x => [(9000, .row true 51 3 (x.1.map L3)), (10000, die x.2.1)]) (fun x => (∀ l ∈ x.1, MadeT c l) ∧ x.1.length + x.2.2 = m) (fun x => x.2.2) ([], z12.2, m) ?_ ?_
 ·
  exact ⟨fun b hb => (by cases hb), by show 0 + m = m; omega⟩
 ·
  intro ⟨ls, g, i⟩ hI0
  simp only [List.cons_append, List.nil_append]
  try dsimp only at hI0
  obtain ⟨kls, hlen⟩ := hI0
  replace F := F.add hlen
  refine W.seqk fun K2 hK2 => ?_
  refine rK [0, 4, 7, 8, 14] ?_
  refine it (fun hc1 => ?_) (fun hc1 => ?_)
  ·
   try simp at hc1
   replace F := F.add hc1
   refine W.skip ?_
   refine hK2 _ ?_
   clear hK2 K2
   refine W.seqk fun K3 hK3 => ?_
   refine W.block ?_
   have him : ((i : Nat) : Int) - 1 = ((i - 1 : Nat) : Int) := by omega
   have hi0 : 0 < i := by omega
   replace F := F.add him |>.add hi0
   refine W.region ?_
   refine oN 3 ?_
   refine oC [(10000, 10000)] ?_
   refine CallT.mkE (LotOf_ok g c hbl 3 (by omega)) (fun z20 hz20 => ⟨(by simp [hp, hmq, hmp, hlen, hc1, him, hi0]), ?_⟩)
   obtain ⟨l, g2⟩ := z20
   have qml : MadeT c l := hz20
   refine WOps.norm (by simp [hp, hmq, hmp, hlen, hc1, him, hi0]; rfl) ?_
   refine oNw 3 ?_
   refine WOps.endK ?_
   refine hK3 _ ?_
   clear hK3 K3
   refine rEw ?_
   refine ⟨(ls ++ [l], g2, i - 1), lf0, ?_, ?_⟩
   ·
    refine ⟨fun b hb => ?_, by show (ls ++ [l]).length + (i - 1) = m; rw [len_snoc]; omega⟩
    rcases List.mem_append.1 hb with h | h
    · exact kls b h
    · obtain rfl := List.mem_singleton.1 h; exact qml
   ·
    show i - 1 < i
    omega
  ·
   try simp at hc1
   replace F := F.add hc1
   refine W.exit ?_
   refine hK1 _ ?_
   clear hK2 K2 hK1 K1
   refine rK [6] ?_
   refine W.ret ?_
   refine er false [9000] [(10000, 10000)] ?_
   exact ⟨(ls, g), rfl, rfl, by show ls.length ≤ p; omega, kls⟩
set_option maxHeartbeats 4000000 in
theorem CopyLots_imm (ls : List CLot) (h1 : ls.length ≤ 1000) (h2 : ∀ l ∈ ls, l.stays.length ≤ 1000) : ACalls Try.prog 59 [lotsV ls] [] (fun r o => r = lotsV ls ∧ o = []) := by
 have F := Fx.nil
 replace F := F.add h1
 refine ent Try.func59 Try.ntmps59 Try.results59 ?_
 refine rK [0] ?_
 refine rK [0, 3] ?_
 refine W.seqk fun K1 hK1 => ?_
 refine rK [0, 3, 4] ?_
 refine W.block ?_
 refine sn 3 9000 51 3 ?_
 refine lpa (α := Nat) [0] [7, 16, 17, 18] [9000] (fun i => [(3, .own 9000 0 i), (4, I i)]) (fun i => [(9000, .row true 51 3 ((ls.take i).map L3))]) (fun i => i ≤ ls.length) (fun i => ls.length - i) 0 v0 ?_
 ·
  intro i hI0
  simp only [List.cons_append, List.nil_append]
  try dsimp only at hI0
  replace F := F.add hI0
  refine W.seqk fun K2 hK2 => ?_
  refine rK [0, 3, 4, 8] ?_
  refine it (fun hc1 => ?_) (fun hc1 => ?_)
  ·
   try simp at hc1
   replace F := F.add hc1
   refine W.skip ?_
   refine hK2 _ ?_
   clear hK2 K2
   refine W.seqk fun K3 hK3 => ?_
   refine W.block ?_
   have hil : i < ls.length := by omega
   have qst := h2 _ (List.getElem_mem hil)
   replace F := F.add hil
   refine W.region ?_
   refine oN 5 ?_
   refine oC [] ?_
   refine ct (CopyLot_imm ls[i] qst) ?_
   refine oNw 3 ?_
   refine WOps.endK ?_
   refine hK3 _ ?_
   clear hK3 K3
   refine rEw ?_
   refine ⟨i + 1, lf ?_ ?_, v0, v0⟩
   ·
    exact v1
   ·
    try (simp [Fx.get F])
    all_goals (
     rw [List.take_succ_eq_append_getElem hil, List.map_append]; rfl
    )
  ·
   try simp at hc1
   replace F := F.add hc1
   refine W.exit ?_
   refine hK1 _ ?_
   clear hK2 K2 hK1 K1
   refine rK [2] ?_
   refine W.ret ?_
   refine er false [9000] [] ?_
   have e : i = ls.length := by omega
   subst e
   rw [List.take_length, List.take_length]
   exact ⟨rfl, rfl⟩
set_option maxHeartbeats 4000000 in
theorem SameErrors_ok (a : List Int) (h1 : a.length ≤ 1000) : ACalls Try.prog 62 [ints a, ints a] [] (fun r o => r = B true ∧ o = []) := by
 have F := Fx.nil
 replace F := F.add h1
 refine ent Try.func62 Try.ntmps62 Try.results62 ?_
 refine rK [0, 1] ?_
 refine rK [0, 1, 5] ?_
 refine W.seqk fun K1 hK1 => ?_
 refine rK [0, 1, 5, 6] ?_
 refine W.block ?_
 refine lpa (α := Nat) [0, 1] [16] [] (fun i => [(5, B true), (6, I i)]) (fun i => []) (fun i => i ≤ a.length) (fun i => a.length - i) 0 v0 ?_
 ·
  intro i hI0
  simp only [List.cons_append, List.nil_append]
  try dsimp only at hI0
  replace F := F.add hI0
  refine W.seqk fun K2 hK2 => ?_
  refine W.seqR ?_
  refine oN 2 ?_
  refine gT ?_
  refine gT ?_
  refine gT ?_
  refine gT ?_
  refine oN 1 ?_
  refine oK [0, 1, 5, 6, 18] ?_
  refine it (fun hc1 => ?_) (fun hc1 => ?_)
  ·
   try simp at hc1
   replace F := F.add hc1
   refine W.skip ?_
   refine hK2 _ ?_
   clear hK2 K2
   refine W.seqk fun K3 hK3 => ?_
   refine W.block ?_
   refine wDe 8 [] [[], [], [1, 0], [0, 1, 2], [], [], [5, 4], [4, 5, 6], [6, 5, 4, 7, 2, 1, 0, 3], [3, 0, 1, 2, 7, 4, 5, 6, 8]] ?_
   refine dB [([22, 25, 26, 27, 28], [], []), ([21, 25, 26, 27, 28], [false], []), ([25, 26, 27, 28], [true, true], []), ([25, 26, 27, 28], [true, true, true], []), ([21, 22, 23, 24, 26], [false, false, false, false], []), ([21, 22, 23, 24, 25], [false, false, false, false, false], []), ([21, 22, 23, 24], [false, false, false, false, true, true], []), ([21, 22, 23, 24], [false, false, false, false, true, true, true], [])] 0 8 ?_
   refine dD ?_
   refine oN 2 ?_
   refine WOps.endK ?_
   refine hK3 _ ?_
   clear hK3 K3
   refine rEw ?_
   refine ⟨i + 1, lf0, v0, v0⟩
  ·
   try simp at hc1
   replace F := F.add hc1
   refine W.exit ?_
   refine hK1 _ ?_
   clear hK2 K2 hK1 K1
   refine rK [4] ?_
   refine W.ret ?_
   exact er0 false [] []
theorem optW_ren (f : Nat → Nat) (o : Option (List Int)) : AV.ren f (optW o) = optW o := by cases o <;> rfl
theorem optW_kill (i : Nat) (o : Option (List Int)) : AV.mapTop (AV.kill i) (optW o) = optW o := by cases o <;> rfl
theorem optW_kill1 (i : Nat) (o : Option (List Int)) : AV.kill i (optW o) = optW o := by cases o <;> rfl
theorem optW_men (i : Nat) (o : Option (List Int)) : AV.men i (optW o) = false := by cases o <;> rfl
theorem optW_data (o : Option (List Int)) : AV.isData (optW o) = true := by cases o <;> rfl
theorem optW_named (l : List Nat) (o : Option (List Int)) : AV.named l (optW o) = true := by cases o <;> rfl
theorem optW_snap (st : St) (ps : List (Nat × Nat)) (o : Option (List Int)) : St.snap st ps (optW o) = some (ints (o.getD []), false) := by cases o <;> rfl
theorem optW_snap1 (st : St) (ps : List (Nat × Nat)) (o : Option (List Int)) : St.snap1 st ps (optW o) = some (ints (o.getD []), false) := by cases o <;> rfl
theorem optW_frz (i : Nat) (l : List AV) (o : Option (List Int)) : AV.frz i l (optW o) = optW o := by cases o <;> rfl
end Go.Sim
