/- Who is ahead of whom, by the reference. -/
import Derived.Test.YticllllmgpjbcaaLi
namespace Go.Sim
open Go.Proofs
set_option maxRecDepth 100000
set_option linter.unusedSimpArgs false
set_option linter.unusedVariables false
attribute [-simp] List.map_set List.map_take List.map_drop
theorem aheadB_eq {l : Lett} {s a b : Nat} (hs : s < l.stalls.length) (ha : a < l.apps.length) (hb : b < l.apps.length) : aheadB l s a b =
  if l.stalls[s].heir = a ∨ l.stalls[s].heir = b then decide (l.stalls[s].heir = a)
  else if l.stalls[s].rule = 3 ∧ bidA l.apps[b] s ≠ bidA l.apps[a] s then decide (bidA l.apps[b] s < bidA l.apps[a] s)
  else if l.stalls[s].rule ≠ 1 ∧ l.apps[a].years ≠ l.apps[b].years then decide (l.apps[b].years < l.apps[a].years)
  else decide (posD l a < posD l b) := by rw [aheadB, nth_get hs, nth_get ha, nth_get hb]
theorem posD_at {l : Lett} {i : Nat} (h : i < (drawL l.apps).length) : posD l (drawL l.apps)[i] = i := idxOf_nodup (drawL_nodup _) h
theorem posD_get {l : Lett} {x : Nat} (h : x < l.apps.length) : ∃ h' : posD l x < (drawL l.apps).length, (drawL l.apps)[posD l x] = x := by
  have h1 : ((x : Nat) : Int) ∈ drawL l.apps := mem_drawL.2 (by omega)
  exact ⟨List.idxOf_lt_length_iff.2 h1, List.getElem_idxOf _⟩
theorem posD_ne {l : Lett} {x i : Nat} (hx : x < l.apps.length) (hi : i < (drawL l.apps).length) (h : ¬ (drawL l.apps)[i] = (x : Int)) : i ≠ posD l x := by
  rintro rfl; exact h (posD_get hx).2
set_option maxHeartbeats 4000000 in
theorem Ahead_ok (l : Lett) (hv : ValidL l) (s a b : Nat) (hs : s < l.stalls.length) (ha : a < l.apps.length) (hb : b < l.apps.length) (hcan : l.stalls[s].rule = 3 → (s : Int) ∈ l.apps[a].wishes ∧ (s : Int) ∈ l.apps[b].wishes) : ACalls Try.prog 59 [letV l, I s, I a, I b] [] (fun r o => r = B (aheadB l s a b) ∧ o = []) := by
 have F := Fx.nil
 replace F := F.add hs |>.add ha |>.add hb
 refine ent Try.func59 Try.ntmps59 Try.results59 ?_
 have h8 := hv.a8
 have hdl := drawL_len l.apps
 have hpa := posD_lt l ha
 have hpb := posD_lt l hb
 replace F := F.add h8 |>.add hdl |>.add hpa |>.add hpb
 refine rK [1, 2, 3, 4] ?_
 refine wD 20 [(18, [72]), (19, [80])] [[], [0], [], [2, 0, 1], [1, 0, 2, 3], [], [5], [], [7, 5, 6], [6, 5, 7, 8], [], [10], [], [12, 10, 11], [11, 10, 12, 13], [], [], [], [17, 16, 3, 2, 0, 1, 4, 15], [15, 4, 1, 0, 2, 3, 17, 18, 8, 7, 5, 6, 9, 16], [16, 9, 6, 5, 7, 8, 18, 3, 2, 0, 1, 4, 15, 19, 13, 12, 10, 11, 14, 17]] ?_
 refine dB [([18, 21, 22, 23, 24, 25, 26, 27, 28, 29, 30, 9, 10, 11], [], []), ([18, 21, 22, 23, 24, 25, 26, 27, 28, 29, 30, 9, 10, 11], [true], []), ([16, 17, 21, 22, 23, 24, 25, 26, 27, 28, 29, 30, 9, 10, 11], [false, false], []), ([21, 22, 23, 24, 25, 26, 27, 28, 29, 30, 9, 10, 11], [true, true, true], []), ([21, 22, 23, 24, 25, 26, 27, 28, 29, 30, 9, 10, 11], [true, true, true, true], []), ([16, 17, 18, 19, 20, 23, 26, 27, 28, 29, 30, 9, 10, 11], [false, false, false, false, false], [72]), ([16, 17, 18, 19, 20, 23, 26, 27, 28, 29, 30, 9, 10, 11], [false, false, false, false, false, true], [72]), ([16, 17, 18, 19, 20, 21, 22, 26, 27, 28, 29, 30, 9, 10, 11], [false, false, false, false, false, false, false], [72]), ([16, 17, 18, 19, 20, 26, 27, 28, 29, 30, 9, 10, 11], [false, false, false, false, false, true, true, true], [72]), ([16, 17, 18, 19, 20, 26, 27, 28, 29, 30, 9, 10, 11], [false, false, false, false, false, true, true, true, true], [72]), ([16, 17, 18, 19, 20, 21, 22, 23, 24, 25, 28, 9, 10, 11], [false, false, false, false, false, false, false, false, false, false], [72, 80]), ([16, 17, 18, 19, 20, 21, 22, 23, 24, 25, 28, 9, 10, 11], [false, false, false, false, false, false, false, false, false, false, true], [72, 80]), ([16, 17, 18, 19, 20, 21, 22, 23, 24, 25, 26, 27, 9, 10, 11], [false, false, false, false, false, false, false, false, false, false, false, false], [72, 80]), ([16, 17, 18, 19, 20, 21, 22, 23, 24, 25, 9, 10, 11], [false, false, false, false, false, false, false, false, false, false, true, true, true], [72, 80]), ([16, 17, 18, 19, 20, 21, 22, 23, 24, 25, 9, 10, 11], [false, false, false, false, false, false, false, false, false, false, true, true, true, true], [72, 80]), ([16, 17, 18, 19, 20, 21, 22, 23, 24, 25, 26, 27, 28, 29, 30, 10, 11], [false, false, false, false, false, false, false, false, false, false, false, false, false, false, false], []), ([16, 17, 18, 19, 20, 21, 22, 23, 24, 25, 26, 27, 28, 29, 30, 9, 11], [false, false, false, false, false, false, false, false, false, false, false, false, false, false, false, false], []), ([16, 17, 18, 19, 20, 21, 22, 23, 24, 25, 26, 27, 28, 29, 30, 9, 10], [false, false, false, false, false, false, false, false, false, false, false, false, false, false, false, false, false], [])] 2 18 ?_
 refine WDraw.upd hΓ [72] (viewB_eq (L := [21, 22, 23, 24, 25, 26, 27, 28, 29, 30]) (S := [true, true, true, true, true, false, false, false, false, false, false, false, false, false, false, true, true, true]) (O := []) (by kernel_rfl) (by kernel_rfl) (by simp [hs, ha, hb, h8, hdl, hpa, hpb]; rfl)) (by first | rfl | simp) (by simp [hs, ha, hb, h8, hdl, hpa, hpb]; first | rfl | exact ⟨rfl, rfl⟩) (by simp [hs, ha, hb, h8, hdl, hpa, hpb]; first | done | rfl) (.inr (by simp)) (by simp [hs, ha, hb, h8, hdl, hpa, hpb]; rfl) ?_
 refine WDraw.upd hΓ [80] (viewB_eq (L := [26, 27, 28, 29, 30]) (S := [true, true, true, true, true, true, true, true, true, true, false, false, false, false, false, true, true, true, true]) (O := []) (by kernel_rfl) (by kernel_rfl) (by simp [hs, ha, hb, h8, hdl, hpa, hpb]; rfl)) (by first | rfl | simp) (by simp [hs, ha, hb, h8, hdl, hpa, hpb]; first | rfl | exact ⟨rfl, rfl⟩) (by simp [hs, ha, hb, h8, hdl, hpa, hpb]; first | done | rfl) (.inr (by simp)) (by simp [hs, ha, hb, h8, hdl, hpa, hpb]; rfl) ?_
 refine dD ?_
 refine WOps.le Le.dedup rfl rfl ?_
 refine WOps.norm (by simp [hs, ha, hb, h8, hdl, hpa, hpb]; rfl) ?_
 refine oN 1 ?_
 refine oK [1, 2, 3, 4, 9, 10, 11] ?_
 refine W.seqk fun K1 hK1 => ?_
 by_cases hha : l.stalls[s].heir = a
 ·
  replace F := F.add hha
  have hq1 : (l.stalls[s].heir == (a : Int)) = true := by simp [hha]
  replace F := F.add hq1
  refine W.seqR ?_
  refine oN 5 ?_
  refine gF ?_
  refine gF ?_
  refine gF ?_
  refine gF ?_
  refine oN 1 ?_
  refine oK [1, 2, 3, 4, 9, 10, 11, 40] ?_
  refine cT ?_
  refine rK [8] ?_
  refine W.ret ?_
  refine tr ?_
  clear hK1 K1
  refine er false [] [] ?_
  refine ⟨congrArg (fun b => AV.val (Value.bool b)) ?_, rfl⟩
  rw [aheadB_eq hs ha hb]
  try (have e1 : bidA l.apps[a] (s : Int) = _ := (by rw [bidA, nth_get hka]); have e2 : bidA l.apps[b] (s : Int) = _ := (by rw [bidA, nth_get hkb]))
  try (have e3 : l.apps[a].years = l.apps[b].years := (by simpa using hye))
  try (have e3 : l.apps[a].years = l.apps[b].years := (by simpa using hyf))
  try (have e3 : l.apps[a].years ≠ l.apps[b].years := (by simpa using hye))
  try (have e3 : l.apps[a].years ≠ l.apps[b].years := (by simpa using hyf))
  try (have e4 := qa1 (by assumption))
  try (have e4 := qb1 (by assumption))
  try (have e5 := qb2 (by assumption))
  (repeat' split) <;> first
    | exact (decide_eq_true (by omega)).symm
    | exact (decide_eq_false (by omega)).symm
    | exact decide_eq_decide.2 (by omega)
    | (exfalso; omega)
    | (rw [Bool.eq_iff_iff]; simp; omega)
 ·
  replace F := F.add hha
  have hq1 : (l.stalls[s].heir == (a : Int)) = false := by simp [hha]
  replace F := F.add hq1
  by_cases hhb : l.stalls[s].heir = b
  ·
   replace F := F.add hhb
   have hq2 : (l.stalls[s].heir == (b : Int)) = true := by simp [hhb]
   replace F := F.add hq2
   refine W.seqR ?_
   refine oN 5 ?_
   refine gX ?_
   refine gX ?_
   refine gX ?_
   refine gX ?_
   refine oN 1 ?_
   refine oK [1, 2, 3, 4, 9, 10, 11, 40] ?_
   refine cT ?_
   refine rK [8] ?_
   refine W.ret ?_
   refine tr ?_
   clear hK1 K1
   refine er false [] [] ?_
   refine ⟨congrArg (fun b => AV.val (Value.bool b)) ?_, rfl⟩
   rw [aheadB_eq hs ha hb]
   try (have e1 : bidA l.apps[a] (s : Int) = _ := (by rw [bidA, nth_get hka]); have e2 : bidA l.apps[b] (s : Int) = _ := (by rw [bidA, nth_get hkb]))
   try (have e3 : l.apps[a].years = l.apps[b].years := (by simpa using hye))
   try (have e3 : l.apps[a].years = l.apps[b].years := (by simpa using hyf))
   try (have e3 : l.apps[a].years ≠ l.apps[b].years := (by simpa using hye))
   try (have e3 : l.apps[a].years ≠ l.apps[b].years := (by simpa using hyf))
   try (have e4 := qa1 (by assumption))
   try (have e4 := qb1 (by assumption))
   try (have e5 := qb2 (by assumption))
   (repeat' split) <;> first
     | exact (decide_eq_true (by omega)).symm
     | exact (decide_eq_false (by omega)).symm
     | exact decide_eq_decide.2 (by omega)
     | (exfalso; omega)
     | (rw [Bool.eq_iff_iff]; simp; omega)
  ·
   replace F := F.add hhb
   have hq2 : (l.stalls[s].heir == (b : Int)) = false := by simp [hhb]
   replace F := F.add hq2
   refine W.seqR ?_
   refine oN 5 ?_
   refine gT ?_
   refine gT ?_
   refine gT ?_
   refine gT ?_
   refine oN 1 ?_
   refine oK [1, 2, 3, 4, 9, 10, 11, 40] ?_
   refine cF ?_
   refine W.skip ?_
   refine hK1 _ ?_
   clear hK1 K1
   refine W.seqk fun K2 hK2 => ?_
   by_cases hr3 : l.stalls[s].rule = 3
   ·
    replace F := F.add hr3
    have hr1 : ¬ l.stalls[s].rule = 1 := by omega
    have hr2 : (l.stalls[s].rule != 1) = true := by simp [hr1]
    obtain ⟨qa, qb⟩ := hcan hr3
    have qap := hv.ap _ (List.getElem_mem ha)
    have qbp := hv.ap _ (List.getElem_mem hb)
    have hka : l.apps[a].wishes.idxOf (s : Int) < l.apps[a].bids.length := by rw [qap.len]; exact List.idxOf_lt_length_iff.2 qa
    have hkb : l.apps[b].wishes.idxOf (s : Int) < l.apps[b].bids.length := by rw [qbp.len]; exact List.idxOf_lt_length_iff.2 qb
    replace F := F.add hr1 |>.add hr2 |>.add hka |>.add hkb
    refine rK [1, 2, 3, 4, 9, 10, 11, 47] ?_
    refine cT ?_
    refine wD 15 [] [[], [0], [], [], [3, 2], [2, 3, 4, 0, 1], [1, 0, 4, 3, 2, 5], [], [7], [], [], [2, 3, 4, 10, 9], [9, 10, 4, 3, 2, 11, 7, 8], [8, 7, 11, 2, 3, 4, 10, 9, 12], [9, 10, 11, 5, 2, 3, 4, 0, 1, 6], [6, 1, 0, 5, 14, 12, 9, 10, 4, 3, 2, 11, 7, 8, 13]] ?_
    refine dB [([50, 51, 52, 55, 56, 57, 58, 59, 60, 61], [], []), ([50, 51, 52, 55, 56, 57, 58, 59, 60, 61], [true], []), ([48, 49, 51, 55, 56, 57, 58], [false, false], []), ([48, 49, 50, 55, 56, 57, 58], [false, false, false], [])] 11 4 ?_
    refine dC [48, 49, 55, 56, 57, 58] [false, false, true, true] [] [] ?_
    refine cd (Wish_ok _ _) ?_
    refine dB [([55, 56, 57, 58, 59, 60, 61], [true, true, true, true, true], []), ([55, 56, 57, 58, 59, 60, 61], [true, true, true, true, true, true], []), ([48, 49, 50, 51, 52, 53, 54, 57, 58, 59, 12], [false, false, false, false, false, false, false], []), ([48, 49, 50, 51, 52, 53, 54, 57, 58, 59, 12], [false, false, false, false, false, false, false, true], []), ([48, 49, 50, 51, 52, 53, 54, 55, 56, 58], [false, false, false, false, false, false, false, false, false], []), ([48, 49, 50, 51, 52, 53, 54, 55, 56, 57], [false, false, false, false, false, false, false, false, false, false], [])] 4 11 ?_
    refine dC [48, 49, 53, 54, 55, 56] [false, false, true, true, true, false, false, false, false, true, true] [] [] ?_
    refine cd (Wish_ok _ _) ?_
    refine dB [([48, 49, 53, 54, 12], [false, false, true, true, true, false, false, true, true, true, true, true], []), ([48, 49, 53, 54, 12], [false, false, true, true, true, false, false, true, true, true, true, true, true], []), ([55, 56, 60, 61], [true, true, true, true, true, true, true, false, false, true, true, true, false, false], [])] 0 15 ?_
    refine dD ?_
    refine oN 1 ?_
    refine oK [2, 3, 4, 9, 10, 11, 12, 13] ?_
    refine rK [2, 3, 4, 9, 10, 11, 12, 13, 64] ?_
    refine it (fun hc5 => ?_) (fun hc5 => ?_)
    ·
     try simp at hc5
     replace F := F.add hc5
     refine rK [8] ?_
     refine W.ret ?_
     refine tr ?_
     clear hK2 K2
     refine er false [] [] ?_
     refine ⟨congrArg (fun b => AV.val (Value.bool b)) ?_, rfl⟩
     rw [aheadB_eq hs ha hb]
     try (have e1 : bidA l.apps[a] (s : Int) = _ := (by rw [bidA, nth_get hka]); have e2 : bidA l.apps[b] (s : Int) = _ := (by rw [bidA, nth_get hkb]))
     try (have e3 : l.apps[a].years = l.apps[b].years := (by simpa using hye))
     try (have e3 : l.apps[a].years = l.apps[b].years := (by simpa using hyf))
     try (have e3 : l.apps[a].years ≠ l.apps[b].years := (by simpa using hye))
     try (have e3 : l.apps[a].years ≠ l.apps[b].years := (by simpa using hyf))
     try (have e4 := qa1 (by assumption))
     try (have e4 := qb1 (by assumption))
     try (have e5 := qb2 (by assumption))
     (repeat' split) <;> first
       | exact (decide_eq_true (by omega)).symm
       | exact (decide_eq_false (by omega)).symm
       | exact decide_eq_decide.2 (by omega)
       | (exfalso; omega)
       | (rw [Bool.eq_iff_iff]; simp; omega)
    ·
     try simp at hc5
     replace F := F.add hc5
     refine W.skip ?_
     refine hK2 _ ?_
     clear hK2 K2
     refine W.seqk fun K3 hK3 => ?_
     by_cases hyf : (l.apps[a].years != l.apps[b].years) = false
     ·
      replace F := F.add hyf
      refine W.seqR ?_
      refine oN 4 ?_
      refine gT ?_
      refine gT ?_
      refine gT ?_
      refine gT ?_
      refine gT ?_
      refine oN 1 ?_
      refine oK [2, 3, 4, 10, 11, 77] ?_
      refine cF ?_
      refine W.skip ?_
      refine hK3 _ ?_
      clear hK3 K3
      refine W.seqR ?_
      refine oN 1 ?_
      refine oC [] ?_
      refine ct (rdraw_imm _ hv) ?_
      refine oN 1 ?_
      refine oK [2, 3, 14] ?_
      refine W.seqk fun K4 hK4 => ?_
      refine rK [2, 3, 14, 15] ?_
      refine W.block ?_
      refine lpa (α := Nat) [2, 3, 14] [] [] (fun i => [(15, I i)]) (fun i => []) (fun i => i ≤ posD l a ∧ i ≤ posD l b) (fun i => posD l b - i) 0 ?_ ?_
      ·
       exact ⟨Nat.zero_le _, Nat.zero_le _⟩
      ·
       intro i hI0
       simp only [List.cons_append, List.nil_append]
       try dsimp only at hI0
       obtain ⟨hia, hib⟩ := hI0
       replace F := F.add hia |>.add hib
       refine W.seqk fun K5 hK5 => ?_
       have hid : i < (drawL l.apps).length := by omega
       have hil : i < l.apps.length := by omega
       have qp := posD_at hid
       have qa1 : (drawL l.apps)[i] = (a : Int) → posD l a = i := fun e => by rw [← e]; exact qp
       have qb1 : (drawL l.apps)[i] = (b : Int) → posD l b = i := fun e => by rw [← e]; exact qp
       have qa2 : ¬ (drawL l.apps)[i] = (a : Int) → i ≠ posD l a := posD_ne ha hid
       have qb2 : ¬ (drawL l.apps)[i] = (b : Int) → i ≠ posD l b := posD_ne hb hid
       replace F := F.add hid |>.add hil
       refine rK [2, 3, 14, 15, 90] ?_
       refine it (fun hc7 => ?_) (fun hc7 => ?_)
       ·
        try simp at hc7
        replace F := F.add hc7
        refine W.skip ?_
        refine hK5 _ ?_
        clear hK5 K5
        refine W.seqk fun K6 hK6 => ?_
        refine W.block ?_
        refine rK [2, 3, 14, 15, 98] ?_
        refine it (fun hc8 => ?_) (fun hc8 => ?_)
        ·
         try simp at hc8
         replace F := F.add hc8
         refine rK [8] ?_
         refine W.ret ?_
         refine br (tr (tr (br (tr ?_))))
         clear hK6 K6 hK4 K4
         refine er false [] [] ?_
         refine ⟨congrArg (fun b => AV.val (Value.bool b)) ?_, rfl⟩
         rw [aheadB_eq hs ha hb]
         try (have e1 : bidA l.apps[a] (s : Int) = _ := (by rw [bidA, nth_get hka]); have e2 : bidA l.apps[b] (s : Int) = _ := (by rw [bidA, nth_get hkb]))
         try (have e3 : l.apps[a].years = l.apps[b].years := (by simpa using hye))
         try (have e3 : l.apps[a].years = l.apps[b].years := (by simpa using hyf))
         try (have e3 : l.apps[a].years ≠ l.apps[b].years := (by simpa using hye))
         try (have e3 : l.apps[a].years ≠ l.apps[b].years := (by simpa using hyf))
         try (have e4 := qa1 (by assumption))
         try (have e4 := qb1 (by assumption))
         try (have e5 := qb2 (by assumption))
         (repeat' split) <;> first
           | exact (decide_eq_true (by omega)).symm
           | exact (decide_eq_false (by omega)).symm
           | exact decide_eq_decide.2 (by omega)
           | (exfalso; omega)
           | (rw [Bool.eq_iff_iff]; simp; omega)
        ·
         try simp at hc8
         replace F := F.add hc8
         refine W.skip ?_
         refine hK6 _ ?_
         clear hK6 K6
         refine rEw ?_
         refine ⟨i + 1, lf0, ?_, ?_⟩
         ·
          have e1 := qa2 (by assumption)
          have e2 := qb2 (by assumption)
          exact ⟨by omega, by omega⟩
         ·
          have e1 := qa2 (by assumption)
          have e2 := qb2 (by assumption)
          omega
       ·
        try simp at hc7
        replace F := F.add hc7
        refine W.exit ?_
        refine hK4 _ ?_
        clear hK5 K5 hK4 K4
        refine rK [8] ?_
        refine W.ret ?_
        refine er false [] [] ?_
        refine ⟨congrArg (fun b => AV.val (Value.bool b)) ?_, rfl⟩
        rw [aheadB_eq hs ha hb]
        try (have e1 : bidA l.apps[a] (s : Int) = _ := (by rw [bidA, nth_get hka]); have e2 : bidA l.apps[b] (s : Int) = _ := (by rw [bidA, nth_get hkb]))
        try (have e3 : l.apps[a].years = l.apps[b].years := (by simpa using hye))
        try (have e3 : l.apps[a].years = l.apps[b].years := (by simpa using hyf))
        try (have e3 : l.apps[a].years ≠ l.apps[b].years := (by simpa using hye))
        try (have e3 : l.apps[a].years ≠ l.apps[b].years := (by simpa using hyf))
        try (have e4 := qa1 (by assumption))
        try (have e4 := qb1 (by assumption))
        try (have e5 := qb2 (by assumption))
        (repeat' split) <;> first
          | exact (decide_eq_true (by omega)).symm
          | exact (decide_eq_false (by omega)).symm
          | exact decide_eq_decide.2 (by omega)
          | (exfalso; omega)
          | (rw [Bool.eq_iff_iff]; simp; omega)
     ·
      replace F := F.add hyf
      have hy1 : (l.apps[a].years != l.apps[b].years) = true := by simpa using hyf
      replace F := F.add hy1
      refine W.seqR ?_
      refine oN 4 ?_
      refine gT ?_
      refine gT ?_
      refine gT ?_
      refine gT ?_
      refine gT ?_
      refine oN 1 ?_
      refine oK [2, 3, 4, 10, 11, 77] ?_
      refine cT ?_
      refine rK [8] ?_
      refine W.ret ?_
      refine tr ?_
      clear hK3 K3
      refine er false [] [] ?_
      refine ⟨congrArg (fun b => AV.val (Value.bool b)) ?_, rfl⟩
      rw [aheadB_eq hs ha hb]
      try (have e1 : bidA l.apps[a] (s : Int) = _ := (by rw [bidA, nth_get hka]); have e2 : bidA l.apps[b] (s : Int) = _ := (by rw [bidA, nth_get hkb]))
      try (have e3 : l.apps[a].years = l.apps[b].years := (by simpa using hye))
      try (have e3 : l.apps[a].years = l.apps[b].years := (by simpa using hyf))
      try (have e3 : l.apps[a].years ≠ l.apps[b].years := (by simpa using hye))
      try (have e3 : l.apps[a].years ≠ l.apps[b].years := (by simpa using hyf))
      try (have e4 := qa1 (by assumption))
      try (have e4 := qb1 (by assumption))
      try (have e5 := qb2 (by assumption))
      (repeat' split) <;> first
        | exact (decide_eq_true (by omega)).symm
        | exact (decide_eq_false (by omega)).symm
        | exact decide_eq_decide.2 (by omega)
        | (exfalso; omega)
        | (rw [Bool.eq_iff_iff]; simp; omega)
   ·
    replace F := F.add hr3
    refine rK [1, 2, 3, 4, 9, 10, 11, 47] ?_
    refine cF ?_
    refine W.skip ?_
    refine hK2 _ ?_
    clear hK2 K2
    refine W.seqk fun K7 hK7 => ?_
    by_cases hru : l.stalls[s].rule = 1
    ·
     replace F := F.add hru
     have hr2 : (l.stalls[s].rule != 1) = false := by simp [hru]
     replace F := F.add hr2
     refine W.seqR ?_
     refine oN 4 ?_
     refine gF ?_
     refine gF ?_
     refine gF ?_
     refine gF ?_
     refine gF ?_
     refine oN 1 ?_
     refine oK [2, 3, 4, 10, 11, 77] ?_
     refine cF ?_
     refine W.skip ?_
     refine hK7 _ ?_
     clear hK7 K7
     refine W.seqR ?_
     refine oN 1 ?_
     refine oC [] ?_
     refine ct (rdraw_imm _ hv) ?_
     refine oN 1 ?_
     refine oK [2, 3, 14] ?_
     refine W.seqk fun K8 hK8 => ?_
     refine rK [2, 3, 14, 15] ?_
     refine W.block ?_
     refine lpa (α := Nat) [2, 3, 14] [] [] (fun i => [(15, I i)]) (fun i => []) (fun i => i ≤ posD l a ∧ i ≤ posD l b) (fun i => posD l b - i) 0 ?_ ?_
     ·
      exact ⟨Nat.zero_le _, Nat.zero_le _⟩
     ·
      intro i hI0
      simp only [List.cons_append, List.nil_append]
      try dsimp only at hI0
      obtain ⟨hia, hib⟩ := hI0
      replace F := F.add hia |>.add hib
      refine W.seqk fun K9 hK9 => ?_
      have hid : i < (drawL l.apps).length := by omega
      have hil : i < l.apps.length := by omega
      have qp := posD_at hid
      have qa1 : (drawL l.apps)[i] = (a : Int) → posD l a = i := fun e => by rw [← e]; exact qp
      have qb1 : (drawL l.apps)[i] = (b : Int) → posD l b = i := fun e => by rw [← e]; exact qp
      have qa2 : ¬ (drawL l.apps)[i] = (a : Int) → i ≠ posD l a := posD_ne ha hid
      have qb2 : ¬ (drawL l.apps)[i] = (b : Int) → i ≠ posD l b := posD_ne hb hid
      replace F := F.add hid |>.add hil
      refine rK [2, 3, 14, 15, 90] ?_
      refine it (fun hc12 => ?_) (fun hc12 => ?_)
      ·
       try simp at hc12
       replace F := F.add hc12
       refine W.skip ?_
       refine hK9 _ ?_
       clear hK9 K9
       refine W.seqk fun K10 hK10 => ?_
       refine W.block ?_
       refine rK [2, 3, 14, 15, 98] ?_
       refine it (fun hc13 => ?_) (fun hc13 => ?_)
       ·
        try simp at hc13
        replace F := F.add hc13
        refine rK [8] ?_
        refine W.ret ?_
        refine br (tr (tr (br (tr ?_))))
        clear hK10 K10 hK8 K8
        refine er false [] [] ?_
        refine ⟨congrArg (fun b => AV.val (Value.bool b)) ?_, rfl⟩
        rw [aheadB_eq hs ha hb]
        try (have e1 : bidA l.apps[a] (s : Int) = _ := (by rw [bidA, nth_get hka]); have e2 : bidA l.apps[b] (s : Int) = _ := (by rw [bidA, nth_get hkb]))
        try (have e3 : l.apps[a].years = l.apps[b].years := (by simpa using hye))
        try (have e3 : l.apps[a].years = l.apps[b].years := (by simpa using hyf))
        try (have e3 : l.apps[a].years ≠ l.apps[b].years := (by simpa using hye))
        try (have e3 : l.apps[a].years ≠ l.apps[b].years := (by simpa using hyf))
        try (have e4 := qa1 (by assumption))
        try (have e4 := qb1 (by assumption))
        try (have e5 := qb2 (by assumption))
        (repeat' split) <;> first
          | exact (decide_eq_true (by omega)).symm
          | exact (decide_eq_false (by omega)).symm
          | exact decide_eq_decide.2 (by omega)
          | (exfalso; omega)
          | (rw [Bool.eq_iff_iff]; simp; omega)
       ·
        try simp at hc13
        replace F := F.add hc13
        refine W.skip ?_
        refine hK10 _ ?_
        clear hK10 K10
        refine rEw ?_
        refine ⟨i + 1, lf0, ?_, ?_⟩
        ·
         have e1 := qa2 (by assumption)
         have e2 := qb2 (by assumption)
         exact ⟨by omega, by omega⟩
        ·
         have e1 := qa2 (by assumption)
         have e2 := qb2 (by assumption)
         omega
      ·
       try simp at hc12
       replace F := F.add hc12
       refine W.exit ?_
       refine hK8 _ ?_
       clear hK9 K9 hK8 K8
       refine rK [8] ?_
       refine W.ret ?_
       refine er false [] [] ?_
       refine ⟨congrArg (fun b => AV.val (Value.bool b)) ?_, rfl⟩
       rw [aheadB_eq hs ha hb]
       try (have e1 : bidA l.apps[a] (s : Int) = _ := (by rw [bidA, nth_get hka]); have e2 : bidA l.apps[b] (s : Int) = _ := (by rw [bidA, nth_get hkb]))
       try (have e3 : l.apps[a].years = l.apps[b].years := (by simpa using hye))
       try (have e3 : l.apps[a].years = l.apps[b].years := (by simpa using hyf))
       try (have e3 : l.apps[a].years ≠ l.apps[b].years := (by simpa using hye))
       try (have e3 : l.apps[a].years ≠ l.apps[b].years := (by simpa using hyf))
       try (have e4 := qa1 (by assumption))
       try (have e4 := qb1 (by assumption))
       try (have e5 := qb2 (by assumption))
       (repeat' split) <;> first
         | exact (decide_eq_true (by omega)).symm
         | exact (decide_eq_false (by omega)).symm
         | exact decide_eq_decide.2 (by omega)
         | (exfalso; omega)
         | (rw [Bool.eq_iff_iff]; simp; omega)
    ·
     replace F := F.add hru
     have hr2 : (l.stalls[s].rule != 1) = true := by simp [hru]
     replace F := F.add hr2
     by_cases hye : (l.apps[a].years != l.apps[b].years) = false
     ·
      replace F := F.add hye
      refine W.seqR ?_
      refine oN 4 ?_
      refine gT ?_
      refine gT ?_
      refine gT ?_
      refine gT ?_
      refine gT ?_
      refine oN 1 ?_
      refine oK [2, 3, 4, 10, 11, 77] ?_
      refine cF ?_
      refine W.skip ?_
      refine hK7 _ ?_
      clear hK7 K7
      refine W.seqR ?_
      refine oN 1 ?_
      refine oC [] ?_
      refine ct (rdraw_imm _ hv) ?_
      refine oN 1 ?_
      refine oK [2, 3, 14] ?_
      refine W.seqk fun K11 hK11 => ?_
      refine rK [2, 3, 14, 15] ?_
      refine W.block ?_
      refine lpa (α := Nat) [2, 3, 14] [] [] (fun i => [(15, I i)]) (fun i => []) (fun i => i ≤ posD l a ∧ i ≤ posD l b) (fun i => posD l b - i) 0 ?_ ?_
      ·
       exact ⟨Nat.zero_le _, Nat.zero_le _⟩
      ·
       intro i hI0
       simp only [List.cons_append, List.nil_append]
       try dsimp only at hI0
       obtain ⟨hia, hib⟩ := hI0
       replace F := F.add hia |>.add hib
       refine W.seqk fun K12 hK12 => ?_
       have hid : i < (drawL l.apps).length := by omega
       have hil : i < l.apps.length := by omega
       have qp := posD_at hid
       have qa1 : (drawL l.apps)[i] = (a : Int) → posD l a = i := fun e => by rw [← e]; exact qp
       have qb1 : (drawL l.apps)[i] = (b : Int) → posD l b = i := fun e => by rw [← e]; exact qp
       have qa2 : ¬ (drawL l.apps)[i] = (a : Int) → i ≠ posD l a := posD_ne ha hid
       have qb2 : ¬ (drawL l.apps)[i] = (b : Int) → i ≠ posD l b := posD_ne hb hid
       replace F := F.add hid |>.add hil
       refine rK [2, 3, 14, 15, 90] ?_
       refine it (fun hc15 => ?_) (fun hc15 => ?_)
       ·
        try simp at hc15
        replace F := F.add hc15
        refine W.skip ?_
        refine hK12 _ ?_
        clear hK12 K12
        refine W.seqk fun K13 hK13 => ?_
        refine W.block ?_
        refine rK [2, 3, 14, 15, 98] ?_
        refine it (fun hc16 => ?_) (fun hc16 => ?_)
        ·
         try simp at hc16
         replace F := F.add hc16
         refine rK [8] ?_
         refine W.ret ?_
         refine br (tr (tr (br (tr ?_))))
         clear hK13 K13 hK11 K11
         refine er false [] [] ?_
         refine ⟨congrArg (fun b => AV.val (Value.bool b)) ?_, rfl⟩
         rw [aheadB_eq hs ha hb]
         try (have e1 : bidA l.apps[a] (s : Int) = _ := (by rw [bidA, nth_get hka]); have e2 : bidA l.apps[b] (s : Int) = _ := (by rw [bidA, nth_get hkb]))
         try (have e3 : l.apps[a].years = l.apps[b].years := (by simpa using hye))
         try (have e3 : l.apps[a].years = l.apps[b].years := (by simpa using hyf))
         try (have e3 : l.apps[a].years ≠ l.apps[b].years := (by simpa using hye))
         try (have e3 : l.apps[a].years ≠ l.apps[b].years := (by simpa using hyf))
         try (have e4 := qa1 (by assumption))
         try (have e4 := qb1 (by assumption))
         try (have e5 := qb2 (by assumption))
         (repeat' split) <;> first
           | exact (decide_eq_true (by omega)).symm
           | exact (decide_eq_false (by omega)).symm
           | exact decide_eq_decide.2 (by omega)
           | (exfalso; omega)
           | (rw [Bool.eq_iff_iff]; simp; omega)
        ·
         try simp at hc16
         replace F := F.add hc16
         refine W.skip ?_
         refine hK13 _ ?_
         clear hK13 K13
         refine rEw ?_
         refine ⟨i + 1, lf0, ?_, ?_⟩
         ·
          have e1 := qa2 (by assumption)
          have e2 := qb2 (by assumption)
          exact ⟨by omega, by omega⟩
         ·
          have e1 := qa2 (by assumption)
          have e2 := qb2 (by assumption)
          omega
       ·
        try simp at hc15
        replace F := F.add hc15
        refine W.exit ?_
        refine hK11 _ ?_
        clear hK12 K12 hK11 K11
        refine rK [8] ?_
        refine W.ret ?_
        refine er false [] [] ?_
        refine ⟨congrArg (fun b => AV.val (Value.bool b)) ?_, rfl⟩
        rw [aheadB_eq hs ha hb]
        try (have e1 : bidA l.apps[a] (s : Int) = _ := (by rw [bidA, nth_get hka]); have e2 : bidA l.apps[b] (s : Int) = _ := (by rw [bidA, nth_get hkb]))
        try (have e3 : l.apps[a].years = l.apps[b].years := (by simpa using hye))
        try (have e3 : l.apps[a].years = l.apps[b].years := (by simpa using hyf))
        try (have e3 : l.apps[a].years ≠ l.apps[b].years := (by simpa using hye))
        try (have e3 : l.apps[a].years ≠ l.apps[b].years := (by simpa using hyf))
        try (have e4 := qa1 (by assumption))
        try (have e4 := qb1 (by assumption))
        try (have e5 := qb2 (by assumption))
        (repeat' split) <;> first
          | exact (decide_eq_true (by omega)).symm
          | exact (decide_eq_false (by omega)).symm
          | exact decide_eq_decide.2 (by omega)
          | (exfalso; omega)
          | (rw [Bool.eq_iff_iff]; simp; omega)
     ·
      replace F := F.add hye
      have hy1 : (l.apps[a].years != l.apps[b].years) = true := by simpa using hye
      replace F := F.add hy1
      refine W.seqR ?_
      refine oN 4 ?_
      refine gT ?_
      refine gT ?_
      refine gT ?_
      refine gT ?_
      refine gT ?_
      refine oN 1 ?_
      refine oK [2, 3, 4, 10, 11, 77] ?_
      refine cT ?_
      refine rK [8] ?_
      refine W.ret ?_
      refine tr ?_
      clear hK7 K7
      refine er false [] [] ?_
      refine ⟨congrArg (fun b => AV.val (Value.bool b)) ?_, rfl⟩
      rw [aheadB_eq hs ha hb]
      try (have e1 : bidA l.apps[a] (s : Int) = _ := (by rw [bidA, nth_get hka]); have e2 : bidA l.apps[b] (s : Int) = _ := (by rw [bidA, nth_get hkb]))
      try (have e3 : l.apps[a].years = l.apps[b].years := (by simpa using hye))
      try (have e3 : l.apps[a].years = l.apps[b].years := (by simpa using hyf))
      try (have e3 : l.apps[a].years ≠ l.apps[b].years := (by simpa using hye))
      try (have e3 : l.apps[a].years ≠ l.apps[b].years := (by simpa using hyf))
      try (have e4 := qa1 (by assumption))
      try (have e4 := qb1 (by assumption))
      try (have e5 := qb2 (by assumption))
      (repeat' split) <;> first
        | exact (decide_eq_true (by omega)).symm
        | exact (decide_eq_false (by omega)).symm
        | exact decide_eq_decide.2 (by omega)
        | (exfalso; omega)
        | (rw [Bool.eq_iff_iff]; simp; omega)
end Go.Sim
