/- What a lot may have lost, whether it is fresh, until when. -/
import Derived.Test.YtamcckgclidgkabDoorLf
namespace Go.Sim
open Go.Proofs
set_option maxRecDepth 100000
set_option linter.unusedSimpArgs false
set_option linter.unusedVariables false
attribute [-simp] List.map_set List.map_take List.map_drop
theorem checkLotC_zero {c : Cel} {l : CLot} : checkLotC c l = 0 ↔ ValidC c ∧ LotOk c.boxes.length l := by
  unfold checkLotC
  by_cases h : checkC c = 0
  · rw [if_neg (fun k => k h), lotErr_zero]
    exact ⟨fun k => ⟨checkC_zero.1 h, k⟩, fun k => k.2⟩
  · rw [if_pos h]
    exact ⟨fun k => absurd k h, fun k => absurd (checkC_zero.2 k.1) h⟩
def lotE (c : Cel) (l : CLot) (h : Int) : Int := if checkLotC c l ≠ 0 then checkLotC c l else if ¬ (0 ≤ h ∧ h ≤ 240) then 1 else if h < l.born then 12 else 0
def lotS (c : Cel) (l : CLot) (h : Int) : Spn := if lotE c l h = 0 then lostS c l (h - l.born).toNat else ⟨0, 0⟩
theorem lotS_no {c : Cel} {l : CLot} {h : Int} (e : ¬ lotE c l h = 0) : lotS c l h = ⟨0, 0⟩ := by rw [lotS, if_neg e]
theorem lotE_ok {c : Cel} {l : CLot} {h : Int} (e : lotE c l h = 0) : ValidC c ∧ LotOk c.boxes.length l ∧ ∃ d : Nat, h = l.born + d ∧ h ≤ 240 ∧ lotS c l h = lostS c l d := by
  have e0 := e
  unfold lotE at e
  split at e
  · contradiction
  split at e
  · cases e
  split at e
  · cases e
  rename_i h1 h2 h3
  obtain ⟨k1, k2⟩ := checkLotC_zero.1 (Classical.not_not.1 h1)
  refine ⟨k1, k2, (h - l.born).toNat, by omega, by omega, by rw [lotS, if_pos e0]⟩
theorem lostL_len {c : Cel} {l : CLot} : (lostL c l).length = 241 - l.born.toNat := by simp [lostL]
theorem lostL_get {c : Cel} {l : CLot} {d : Nat} (h : d < (lostL c l).length) : (lostL c l)[d] = lostS c l d := by simp [lostL]
theorem lastK_step {f : Nat → Int} {b : Int} {i : Nat} (h0 : f 0 ≤ b) : lastK f b i = if f i ≤ b then i else lastK f b (i - 1) := by
  cases i with
  | zero => rw [if_pos h0]; rfl
  | succ i => rfl
set_option maxHeartbeats 4000000 in
theorem Lost_ok (c : Cel) (l : CLot) (h : Int) : ACalls Tryd.prog 11 [celV c, lotV l, I h] [] (fun r o => r = .tup [spnV (lotS c l h), I (lotE c l h)] ∧ o = []) := by
 have F := Fx.nil
 refine ent Tryd.func11 Tryd.ntmps11 Tryd.results11 ?_
 refine rK [2, 3, 4, 6] ?_
 refine W.seqk fun K1 hK1 => ?_
 refine W.seqR ?_
 refine oN 2 ?_
 refine oC [] ?_
 refine ct (CheckLot_ok ⟨⟨_, _⟩, _, _, _⟩ ⟨_, _, _⟩) ?_
 refine oN 1 ?_
 refine oK [2, 3, 4, 6, 8] ?_
 refine rK [2, 3, 4, 6, 8, 13] ?_
 refine it (fun hc1 => ?_) (fun hc1 => ?_)
 ·
  try simp at hc1
  replace F := F.add hc1
  refine rK [6, 7] ?_
  refine W.ret ?_
  refine tr ?_
  clear hK1 K1
  refine er false [] [] ?_
  first
  | exact ⟨by rw [qs, qe], rfl⟩
  | exact ⟨by rw [lotS_no (by rw [lotE, if_pos hc1]; exact hc1), lotE, if_pos hc1], rfl⟩
  | exact ⟨by rw [lotS_no (by rw [lotE, if_neg (fun k => k hc1), if_pos (by omega)]; decide), lotE, if_neg (fun k => k hc1), if_pos (by omega)], rfl⟩
  | exact ⟨by rw [lotS_no (by rw [lotE, if_neg (fun k => k hc1), if_neg (by omega), if_pos (by omega)]; decide), lotE, if_neg (fun k => k hc1), if_neg (by omega), if_pos (by omega)], rfl⟩
 ·
  try simp at hc1
  replace F := F.add hc1
  refine W.skip ?_
  refine hK1 _ ?_
  clear hK1 K1
  refine W.seqk fun K2 hK2 => ?_
  refine W.block ?_
  refine W.seqR ?_
  refine oN 1 ?_
  refine oC [] ?_
  refine ct (in_ok _ _ _) ?_
  refine oN 2 ?_
  refine oK [2, 3, 4, 6, 16] ?_
  refine it (fun hc2 => ?_) (fun hc2 => ?_)
  ·
   try simp at hc2
   replace F := F.add hc2
   refine rK [6, 7] ?_
   refine W.ret ?_
   refine br (tr ?_)
   clear hK2 K2
   refine er false [] [] ?_
   first
   | exact ⟨by rw [qs, qe], rfl⟩
   | exact ⟨by rw [lotS_no (by rw [lotE, if_pos hc1]; exact hc1), lotE, if_pos hc1], rfl⟩
   | exact ⟨by rw [lotS_no (by rw [lotE, if_neg (fun k => k hc1), if_pos (by omega)]; decide), lotE, if_neg (fun k => k hc1), if_pos (by omega)], rfl⟩
   | exact ⟨by rw [lotS_no (by rw [lotE, if_neg (fun k => k hc1), if_neg (by omega), if_pos (by omega)]; decide), lotE, if_neg (fun k => k hc1), if_neg (by omega), if_pos (by omega)], rfl⟩
  ·
   try simp at hc2
   replace F := F.add hc2
   refine rK [2, 3, 4, 6, 21] ?_
   refine it (fun hc3 => ?_) (fun hc3 => ?_)
   ·
    try simp at hc3
    replace F := F.add hc3
    refine rK [6, 7] ?_
    refine W.ret ?_
    refine br (tr ?_)
    clear hK2 K2
    refine er false [] [] ?_
    first
    | exact ⟨by rw [qs, qe], rfl⟩
    | exact ⟨by rw [lotS_no (by rw [lotE, if_pos hc1]; exact hc1), lotE, if_pos hc1], rfl⟩
    | exact ⟨by rw [lotS_no (by rw [lotE, if_neg (fun k => k hc1), if_pos (by omega)]; decide), lotE, if_neg (fun k => k hc1), if_pos (by omega)], rfl⟩
    | exact ⟨by rw [lotS_no (by rw [lotE, if_neg (fun k => k hc1), if_neg (by omega), if_pos (by omega)]; decide), lotE, if_neg (fun k => k hc1), if_neg (by omega), if_pos (by omega)], rfl⟩
   ·
    try simp at hc3
    replace F := F.add hc3
    refine W.skip ?_
    refine hK2 _ ?_
    clear hK2 K2
    have qe : lotE c l h = 0 := by rw [lotE, if_neg (fun k => k hc1), if_neg (by omega), if_neg (by omega)]
    obtain ⟨qv, ql, d, qd, qd2, qs⟩ := lotE_ok qe
    have hd : h - l.born = (d : Int) := by omega
    have hbn := ql.born
    have hdl : d < (lostL c l).length := by rw [lostL_len]; omega
    have hdi : (d : Int) < ((lostL c l).length : Int) := by omega
    have hdg : (lostL c l)[d] = lostS c l d := lostL_get hdl
    replace F := F.add hd |>.add hbn |>.add hdl |>.add hdi |>.add hdg
    refine wD 7 [] [[], [], [1, 0], [], [], [4], [4, 5, 3], [3, 5, 4, 6, 0, 1, 2], [2, 1, 0, 6, 4, 5, 3, 7], [7, 3, 5, 4, 6, 0, 1, 2, 8], [8, 2, 1, 0, 6, 4, 5, 3, 7, 9]] ?_
    refine dB [([28, 30, 31, 32, 33], [], []), ([27, 30, 31, 32, 33], [false], [])] 5 2 ?_
    refine dC [30, 31, 32, 33] [true, true] [] [] ?_
    refine cd (lost_ok c qv l ql) ?_
    refine dBw [([27, 28, 29, 31, 32], [false, false, false], []), ([27, 28, 29, 30], [false, false, false, false], []), ([27, 28, 29, 30], [false, false, false, false, true], []), ([27, 28, 29], [false, false, false, true, true, true], [])] 0 7 ?_
    refine dD ?_
    refine oN 4 ?_
    refine oK [6, 7] ?_
    refine W.ret ?_
    refine er false [] [] ?_
    first
    | exact ⟨by rw [qs, qe], rfl⟩
    | exact ⟨by rw [lotS_no (by rw [lotE, if_pos hc1]; exact hc1), lotE, if_pos hc1], rfl⟩
    | exact ⟨by rw [lotS_no (by rw [lotE, if_neg (fun k => k hc1), if_pos (by omega)]; decide), lotE, if_neg (fun k => k hc1), if_pos (by omega)], rfl⟩
    | exact ⟨by rw [lotS_no (by rw [lotE, if_neg (fun k => k hc1), if_neg (by omega), if_pos (by omega)]; decide), lotE, if_neg (fun k => k hc1), if_neg (by omega), if_pos (by omega)], rfl⟩
def freshV (c : Cel) (l : CLot) (h : Int) : Int := if lotE c l h = 0 then verd (decide ((lotS c l h).hi ≤ l.keeps)) (decide ((lotS c l h).lo ≤ l.keeps)) else 0
set_option maxHeartbeats 4000000 in
theorem Fresh_ok (c : Cel) (l : CLot) (h : Int) : ACalls Tryd.prog 13 [celV c, lotV l, I h] [] (fun r o => r = .tup [I (freshV c l h), I (lotE c l h)] ∧ o = []) := by
 have F := Fx.nil
 refine ent Tryd.func13 Tryd.ntmps13 Tryd.results13 ?_
 refine rK [2, 3, 4] ?_
 refine W.seqR ?_
 refine oN 3 ?_
 refine oC [] ?_
 refine ct (Lost_ok ⟨⟨_, _⟩, _, _, _⟩ ⟨_, _, _⟩ _) ?_
 refine oN 6 ?_
 refine oK [4, 8, 9] ?_
 refine W.seqk fun K1 hK1 => ?_
 refine rK [4, 8, 9, 18] ?_
 refine it (fun hc1 => ?_) (fun hc1 => ?_)
 ·
  try simp at hc1
  replace F := F.add hc1
  refine rK [6, 7] ?_
  refine W.ret ?_
  refine tr ?_
  clear hK1 K1
  refine er false [] [] ?_
  first
  | exact ⟨by rw [freshV, if_neg hc1], rfl⟩
  | exact ⟨by rw [freshV, if_pos hc1, hc1], rfl⟩
 ·
  try simp at hc1
  replace F := F.add hc1
  refine W.skip ?_
  refine hK1 _ ?_
  clear hK1 K1
  refine W.seqR ?_
  refine oN 10 ?_
  refine oC [] ?_
  refine ct (verdict_ok _ _) ?_
  refine oN 2 ?_
  refine oK [6, 7] ?_
  refine W.ret ?_
  refine er false [] [] ?_
  first
  | exact ⟨by rw [freshV, if_neg hc1], rfl⟩
  | exact ⟨by rw [freshV, if_pos hc1, hc1], rfl⟩
def lastV (c : Cel) (l : CLot) : Int := if checkLotC c l = 0 then lastC c l else 0
set_option maxHeartbeats 4000000 in
theorem Last_ok (c : Cel) (l : CLot) : ACalls Tryd.prog 14 [celV c, lotV l] [] (fun r o => r = .tup [I (lastV c l), I (checkLotC c l)] ∧ o = []) := by
 have F := Fx.nil
 refine ent Tryd.func14 Tryd.ntmps14 Tryd.results14 ?_
 refine rK [2, 3] ?_
 refine W.seqk fun K1 hK1 => ?_
 refine W.seqR ?_
 refine oN 2 ?_
 refine oC [] ?_
 refine ct (CheckLot_ok ⟨⟨_, _⟩, _, _, _⟩ ⟨_, _, _⟩) ?_
 refine oN 1 ?_
 refine oK [2, 3, 6] ?_
 refine rK [2, 3, 6, 14] ?_
 refine it (fun hc1 => ?_) (fun hc1 => ?_)
 ·
  try simp at hc1
  replace F := F.add hc1
  refine rK [4, 5] ?_
  refine W.ret ?_
  refine tr ?_
  clear hK1 K1
  refine er false [] [] ?_
  first
  | exact ⟨by rw [lastV, if_neg hc1], rfl⟩
  | (have e : i - 1 = (240 - l.born).toNat := by omega
     rw [e] at hm1
     exact ⟨by rw [lastV, if_pos hc1, hc1, lastC, ← hm1], rfl⟩)
 ·
  try simp at hc1
  replace F := F.add hc1
  refine W.skip ?_
  refine hK1 _ ?_
  clear hK1 K1
  obtain ⟨qv, ql⟩ := checkLotC_zero.1 hc1
  have hbn := ql.born
  have hkp := ql.keeps
  have hll : (lostL c l).length = 241 - l.born.toNat := lostL_len
  have hln : (lostL c l).length ≤ 241 := by omega
  replace F := F.add hbn |>.add hkp |>.add hll |>.add hln
  refine rK [2, 3, 7] ?_
  refine W.seqk fun K2 hK2 => ?_
  refine W.seqR ?_
  refine oN 2 ?_
  refine oC [] ?_
  refine ct (lost_ok c qv l ql) ?_
  refine oN 2 ?_
  refine oK [3, 7, 20, 21, 22] ?_
  refine W.block ?_
  refine lpa (α := Nat × Nat) [3, 20, 21] [9] [] (fun x => [(22, I x.1), (7, I (l.born + x.2))]) (fun x => []) (fun x => x.1 ≤ (lostL c l).length ∧ x.2 = lastK (fun k => (lostS c l k).hi) l.keeps (x.1 - 1) ∧ x.2 ≤ 241) (fun x => (lostL c l).length - x.1) (0, 0) ?_ ?_
  ·
   exact ⟨Nat.zero_le _, rfl, by show 0 ≤ 241; omega⟩
  ·
   intro ⟨i, m⟩ hI0
   simp only [List.cons_append, List.nil_append]
   try dsimp only at hI0
   obtain ⟨hi, hm1, hm2⟩ := hI0
   replace F := F.add hi |>.add hm2
   refine rK [3, 7, 20, 21, 22, 23] ?_
   refine W.seqk fun K3 hK3 => ?_
   refine it (fun hc2 => ?_) (fun hc2 => ?_)
   ·
    try simp at hc2
    replace F := F.add hc2
    refine W.skip ?_
    refine hK3 _ ?_
    clear hK3 K3
    refine W.seqk fun K4 hK4 => ?_
    refine W.block ?_
    have hil : i < (lostL c l).length := by omega
    have hig : (lostL c l)[i] = lostS c l i := lostL_get hil
    replace F := F.add hil |>.add hig
    refine rK [3, 7, 8, 9, 20, 21, 22] ?_
    refine rK [3, 7, 8, 20, 21, 22, 31] ?_
    refine it (fun hc3 => ?_) (fun hc3 => ?_)
    ·
     try simp at hc3
     replace F := F.add hc3
     refine rEw ?_
     refine hK4 _ ?_
     clear hK4 K4
     refine rEw ?_
     refine ⟨(i + 1, i), lf0, ?_, v0⟩
     ·
      refine ⟨by show i + 1 ≤ _; omega, ?_, by show (_ : Nat) ≤ 241; omega⟩
      show _ = lastK (fun k => (lostS c l k).hi) l.keeps i
      rw [lastK_step (by show (0 : Int) ≤ _; omega)]
      first
        | (rw [if_pos (by assumption)]; done)
        | (rw [if_neg (by omega)]; exact hm1)
    ·
     try simp at hc3
     replace F := F.add hc3
     refine W.skip ?_
     refine hK4 _ ?_
     clear hK4 K4
     refine rEw ?_
     refine ⟨(i + 1, m), lf0, ?_, v0⟩
     ·
      refine ⟨by show i + 1 ≤ _; omega, ?_, by show (_ : Nat) ≤ 241; omega⟩
      show _ = lastK (fun k => (lostS c l k).hi) l.keeps i
      rw [lastK_step (by show (0 : Int) ≤ _; omega)]
      first
        | (rw [if_pos (by assumption)]; done)
        | (rw [if_neg (by omega)]; exact hm1)
   ·
    try simp at hc2
    replace F := F.add hc2
    refine W.exit ?_
    refine hK2 _ ?_
    clear hK3 K3 hK2 K2
    refine rK [4, 5] ?_
    refine W.ret ?_
    refine er false [] [] ?_
    first
    | exact ⟨by rw [lastV, if_neg hc1], rfl⟩
    | (have e : i - 1 = (240 - l.born).toNat := by omega
       rw [e] at hm1
       exact ⟨by rw [lastV, if_pos hc1, hc1, lastC, ← hm1], rfl⟩)
end Go.Sim
