/- Cellars: what Check says. -/
import Derived.Test.YtamcckgclidgkabDoorQa
namespace Go.Sim
open Go.Proofs
set_option maxRecDepth 100000
set_option linter.unusedSimpArgs false
set_option linter.unusedVariables false
attribute [-simp] List.map_set List.map_take List.map_drop
theorem spn_eta (x : Spn) : (⟨x.lo, x.hi⟩ : Spn) = x := rfl
attribute [simp] spn_eta
theorem firstNZ_app {α : Type} {f : α → Int} {B : List α} : ∀ {A : List α}, (∀ x ∈ A, f x = 0) → firstNZ f (A ++ B) = firstNZ f B
  | [], _ => rfl
  | x :: A, h => by
    rw [List.cons_append, firstNZ, if_pos (h x (by simp))]
    exact firstNZ_app fun y hy => h y (by simp [hy])
theorem firstNZ_range_hit {f : Nat → Int} {n i : Nat} (hi : i < n) (hm : ∀ j, j < i → f j = 0) (h0 : f i ≠ 0) : firstNZ f (List.range n) = f i := by
  have h1 : List.range n = List.range i ++ List.range' i (n - i) := by
    rw [List.range_eq_range', List.range_eq_range', show n = i + (n - i) by omega, ← List.range'_append_1]; simp
  have h2 : List.range' i (n - i) = i :: List.range' (i + 1) (n - i - 1) := by
    rw [show n - i = (n - i - 1) + 1 by omega, List.range'_succ]; simp
  rw [h1, firstNZ_app (fun x hx => hm x (List.mem_range.1 hx)), h2, firstNZ, if_neg h0]
theorem firstNZ_range_done {f : Nat → Int} {n : Nat} (hm : ∀ j, j < n → f j = 0) : firstNZ f (List.range n) = 0 := range_zero.2 hm
theorem zero_snoc {f : Nat → Int} {i : Nat} (hm : ∀ j, j < i → f j = 0) (h : f i = 0) : ∀ j, j < i + 1 → f j = 0 := fun j hj => by
  by_cases e : j = i
  · rw [e]; exact h
  · exact hm j (by omega)
theorem filErr_get {n : Nat} {l : List Fil} {i : Nat} (hi : i < l.length) (hb : i - 1 < l.length) : filErr n l i = if ¬ (0 ≤ l[i].box ∧ l[i].box ≤ (n : Int) - 1) then 3
    else if ¬ ((0 ≤ l[i].hour ∧ l[i].hour ≤ 239) ∧ (0 ≤ l[i].grams ∧ l[i].grams ≤ 100000)) then 1 else if 0 < i ∧ l[i].hour < l[i - 1].hour then 5 else 0 := by
  rw [filErr, nth_get hi, nth_get hb]
theorem ratErr_get {l : List Rat} {i : Nat} (hi : i < l.length) (hb : i - 1 < l.length) : ratErr l i = if ¬ ((-300 ≤ l[i].above ∧ l[i].above ≤ 400) ∧ (0 ≤ l[i].loss ∧ l[i].loss ≤ 1000)) then 1
    else if 0 < i ∧ (l[i].above ≤ l[i - 1].above ∨ l[i].loss < l[i - 1].loss) then 5 else 0 := by
  rw [ratErr, nth_get hi, nth_get hb]
theorem filsErr_hit {n : Nat} {l : List Fil} {i : Nat} {e : Int} (h20 : l.length ≤ 20) (hi : i < l.length) (hm : ∀ j, j < i → filErr n l j = 0) (he : filErr n l i = e) (h0 : e ≠ 0) : filsErr n l = e := by
  rw [filsErr, if_neg (by omega), firstNZ_range_hit hi hm (by rw [he]; exact h0), he]
theorem filsErr_done {n : Nat} {l : List Fil} {i : Nat} (h20 : l.length ≤ 20) (hi : l.length ≤ i) (hm : ∀ j, j < i → filErr n l j = 0) : filsErr n l = 0 := by
  rw [filsErr, if_neg (by omega), firstNZ_range_done fun j hj => hm j (by omega)]
theorem ratsErr_hit {l : List Rat} {i : Nat} {e : Int} (h6 : l.length ≤ 6) (hi : i < l.length) (hm : ∀ j, j < i → ratErr l j = 0) (he : ratErr l i = e) (h0 : e ≠ 0) : ratsErr l = e := by
  have h1 : l ≠ [] := fun h => by rw [h] at hi; cases hi
  rw [ratsErr, if_neg h1, if_neg (by omega), firstNZ_range_hit hi hm (by rw [he]; exact h0), he]
theorem ratsErr_done {l : List Rat} {i : Nat} (h0 : l ≠ []) (h6 : l.length ≤ 6) (hi : l.length ≤ i) (hm : ∀ j, j < i → ratErr l j = 0) : ratsErr l = 0 := by
  rw [ratsErr, if_neg h0, if_neg (by omega), firstNZ_range_done fun j hj => hm j (by omega)]
def boxEs (b : CBox) : List Int := [spanErr b.ice 0 b.room, spanErr b.melt 0 100000, spanErr b.cld (-300) 400, spanErr b.wrm (-300) 400]
theorem boxErr_es {b : CBox} : boxErr b = if ¬ (0 ≤ b.room ∧ b.room ≤ 100000) then 1 else if firstNZ id (boxEs b) ≠ 0 then firstNZ id (boxEs b) else if b.wrm.lo < b.cld.hi then 9 else 0 := by
  unfold boxErr boxEs firstNZ firstNZ firstNZ firstNZ firstNZ
  by_cases h0 : 0 ≤ b.room ∧ b.room ≤ 100000 <;> by_cases h1 : spanErr b.ice 0 b.room = 0 <;> by_cases h2 : spanErr b.melt 0 100000 = 0 <;> by_cases h3 : spanErr b.cld (-300) 400 = 0 <;> by_cases h4 : spanErr b.wrm (-300) 400 = 0 <;> simp [h0, h1, h2, h3, h4]
theorem boxErr_hit {b : CBox} {es : List Int} (qes : es = boxEs b) {i : Nat} (h0 : 0 ≤ b.room ∧ b.room ≤ 100000) (hi : i < es.length) (hm : firstNZ id es = firstNZ id (es.drop i)) (hz : ¬ es[i] = 0) : boxErr b = es[i] := by
  have e := firstNZ_hit (f := id) hi hz
  rw [boxErr_es, if_neg (by simpa using h0), ← qes, hm, e, if_pos (show id es[i] ≠ 0 from hz)]; rfl
theorem boxErr_done {b : CBox} {es : List Int} (qes : es = boxEs b) {i : Nat} (h0 : 0 ≤ b.room ∧ b.room ≤ 100000) (hi : es.length ≤ i) (hm : firstNZ id es = firstNZ id (es.drop i)) : boxErr b = if b.wrm.lo < b.cld.hi then 9 else 0 := by
  rw [boxErr_es, if_neg (by simpa using h0), ← qes, hm, firstNZ_done hi, if_neg (by simp)]
theorem checkC_h {c : Cel} (h : ¬ spanErr c.hall (-300) 400 = 0) : checkC c = spanErr c.hall (-300) 400 := by rw [checkC, if_pos h]
theorem checkC_6 {c : Cel} (h : spanErr c.hall (-300) 400 = 0) (h6 : 6 < c.boxes.length) : checkC c = 6 := by rw [checkC, if_neg (by simpa using h), if_pos h6]
theorem checkC_b {c : Cel} {i : Nat} (h : spanErr c.hall (-300) 400 = 0) (h6 : c.boxes.length ≤ 6) (hi : i < c.boxes.length) (he : firstNZ boxErr c.boxes = firstNZ boxErr (c.boxes.drop i)) (hz : ¬ boxErr c.boxes[i] = 0) : checkC c = boxErr c.boxes[i] := by
  have e := firstNZ_hit (f := boxErr) hi hz
  rw [checkC, if_neg (by simpa using h), if_neg (by omega), he, e, if_pos hz]
theorem checkC_f {c : Cel} {i : Nat} (h : spanErr c.hall (-300) 400 = 0) (h6 : c.boxes.length ≤ 6) (hi : c.boxes.length ≤ i) (he : firstNZ boxErr c.boxes = firstNZ boxErr (c.boxes.drop i)) :
    checkC c = if filsErr c.boxes.length c.fils ≠ 0 then filsErr c.boxes.length c.fils else ratsErr c.rats := by
  rw [checkC, if_neg (by simpa using h), if_neg (by omega), he, firstNZ_done hi, if_neg (by simp)]
theorem staysErr_get {n : Nat} {l : List Sty} {fr : Int} {i : Nat} (hi : i < l.length) : staysErr n fr (l.drop i) = if ¬ (0 ≤ l[i].box ∧ l[i].box ≤ (n : Int) - 1) then 3 else if ¬ ((0 ≤ l[i].frm ∧ l[i].frm ≤ 240) ∧ (0 ≤ l[i].til ∧ l[i].til ≤ 240)) then 1
    else if l[i].til ≤ l[i].frm ∨ l[i].frm < fr then 5 else staysErr n l[i].til (l.drop (i + 1)) := by
  rw [List.drop_eq_getElem_cons hi, staysErr]
theorem staysErr_done {n : Nat} {l : List Sty} {fr : Int} {i : Nat} (hi : l.length ≤ i) : staysErr n fr (l.drop i) = 0 := by
  rw [List.drop_of_length_le hi, staysErr]
set_option maxHeartbeats 4000000 in
theorem in_ok (n a b : Int) : ACalls Tryd.prog 25 [I n, I a, I b] [] (fun r o => r = B (decide (a ≤ n ∧ n ≤ b)) ∧ o = []) := by
 have F := Fx.nil
 refine ent Tryd.func25 Tryd.ntmps25 Tryd.results25 ?_
 refine rK [0, 1, 2] ?_
 refine W.seqR ?_
 refine oN 4 ?_
 refine gX ?_
 refine gX ?_
 refine gX ?_
 refine oN 2 ?_
 refine oK [6] ?_
 refine W.ret ?_
 refine er false [] [] ?_
 refine ⟨?_, rfl⟩
 by_cases h1 : a ≤ n <;> by_cases h2 : n ≤ b <;> simp [h1, h2]
set_option maxHeartbeats 4000000 in
theorem checkSpan_ok (x : Spn) (a b : Int) : ACalls Tryd.prog 35 [spnV x, I a, I b] [] (fun r o => r = I (spanErr x a b) ∧ o = []) := by
 have F := Fx.nil
 refine ent Tryd.func35 Tryd.ntmps35 Tryd.results35 ?_
 refine rK [1, 2, 3] ?_
 refine W.seqk fun K1 hK1 => ?_
 refine W.block ?_
 refine W.seqk fun K2 hK2 => ?_
 refine W.seqR ?_
 refine oN 4 ?_
 refine oC [] ?_
 refine ct (in_ok _ _ _) ?_
 refine oN 2 ?_
 refine oK [1, 2, 3, 7] ?_
 refine it (fun hc1 => ?_) (fun hc1 => ?_)
 ·
  try simp at hc1
  replace F := F.add hc1
  refine W.skip ?_
  refine hK2 _ ?_
  clear hK2 K2
  refine it (fun hc2 => ?_) (fun hc2 => ?_)
  ·
   try simp at hc2
   replace F := F.add hc2
   refine rK [6] ?_
   refine W.ret ?_
   refine br (tr ?_)
   clear hK1 K1
   refine er false [] [] ?_
   exact ⟨congrArg I (by unfold spanErr; (repeat' split) <;> first | rfl | omega), rfl⟩
  ·
   try simp at hc2
   replace F := F.add hc2
   refine rK [20] ?_
   refine it (fun hc3 => ?_) (fun hc3 => ?_)
   ·
    try simp at hc3
    replace F := F.add hc3
    refine rK [6] ?_
    refine W.ret ?_
    refine br (tr ?_)
    clear hK1 K1
    refine er false [] [] ?_
    exact ⟨congrArg I (by unfold spanErr; (repeat' split) <;> first | rfl | omega), rfl⟩
   ·
    try simp at hc3
    replace F := F.add hc3
    refine W.skip ?_
    refine hK1 _ ?_
    clear hK1 K1
    refine rK [6] ?_
    refine W.ret ?_
    refine er false [] [] ?_
    exact ⟨congrArg I (by unfold spanErr; (repeat' split) <;> first | rfl | omega), rfl⟩
 ·
  try simp at hc1
  replace F := F.add hc1
  refine W.region ?_
  refine oN 4 ?_
  refine oC [] ?_
  refine ct (in_ok _ _ _) ?_
  refine oN 2 ?_
  refine WOps.endK ?_
  refine hK2 _ ?_
  clear hK2 K2
  refine it (fun hc4 => ?_) (fun hc4 => ?_)
  ·
   try simp at hc4
   replace F := F.add hc4
   refine rK [6] ?_
   refine W.ret ?_
   refine br (tr ?_)
   clear hK1 K1
   refine er false [] [] ?_
   exact ⟨congrArg I (by unfold spanErr; (repeat' split) <;> first | rfl | omega), rfl⟩
  ·
   try simp at hc4
   replace F := F.add hc4
   refine rK [20] ?_
   refine it (fun hc5 => ?_) (fun hc5 => ?_)
   ·
    try simp at hc5
    replace F := F.add hc5
    refine rK [6] ?_
    refine W.ret ?_
    refine br (tr ?_)
    clear hK1 K1
    refine er false [] [] ?_
    exact ⟨congrArg I (by unfold spanErr; (repeat' split) <;> first | rfl | omega), rfl⟩
   ·
    try simp at hc5
    replace F := F.add hc5
    refine W.skip ?_
    refine hK1 _ ?_
    clear hK1 K1
    refine rK [6] ?_
    refine W.ret ?_
    refine er false [] [] ?_
    exact ⟨congrArg I (by unfold spanErr; (repeat' split) <;> first | rfl | omega), rfl⟩
set_option maxHeartbeats 4000000 in
theorem warmth_ok (x : Spn) : ACalls Tryd.prog 18 [spnV x] [] (fun r o => r = I (spanErr x (-300) 400) ∧ o = []) := by
 have F := Fx.nil
 refine ent Tryd.func18 Tryd.ntmps18 Tryd.results18 ?_
 refine rK [1] ?_
 refine W.seqR ?_
 refine oN 1 ?_
 refine oC [] ?_
 refine ct (checkSpan_ok ⟨_, _⟩ _ _) ?_
 refine oN 1 ?_
 refine oK [2] ?_
 refine W.ret ?_
 exact er0 false [] []
set_option maxHeartbeats 4000000 in
theorem checkBox_ok (b : CBox) : ACalls Tryd.prog 19 [B9 b] [] (fun r o => r = I (boxErr b) ∧ o = []) := by
 have F := Fx.nil
 refine ent Tryd.func19 Tryd.ntmps19 Tryd.results19 ?_
 refine rK [1] ?_
 refine W.seqk fun K1 hK1 => ?_
 refine W.seqR ?_
 refine oN 2 ?_
 refine oC [] ?_
 refine ct (in_ok _ _ _) ?_
 refine oN 1 ?_
 refine oK [1, 8] ?_
 refine it (fun hc1 => ?_) (fun hc1 => ?_)
 ·
  try simp at hc1
  replace F := F.add hc1
  refine rK [2] ?_
  refine W.ret ?_
  refine tr ?_
  clear hK1 K1
  refine er false [] [] ?_
  exact ⟨congrArg I (by rw [boxErr, if_pos (by omega)]), rfl⟩
 ·
  try simp at hc1
  replace F := F.add hc1
  refine W.skip ?_
  refine hK1 _ ?_
  clear hK1 K1
  refine W.seqk fun K2 hK2 => ?_
  refine wD 16 [] [[], [0], [], [2], [2, 3, 0, 1], [], [5], [1, 0, 3, 2, 4, 5, 6], [], [8], [6, 5, 4, 2, 3, 0, 1, 7, 8, 9], [], [11], [9, 8, 7, 1, 0, 3, 2, 4, 5, 6, 10, 11, 12], [12, 11, 13, 9, 8, 10, 6, 5, 7, 1, 0, 3, 2, 4], []] ?_
  refine dB [([11, 12, 14, 15, 17, 18, 20, 21, 24], [], []), ([11, 12, 14, 15, 17, 18, 20, 21, 24], [true], []), ([9, 10, 14, 15, 17, 18, 20, 21, 24], [false, false], []), ([9, 10, 14, 15, 17, 18, 20, 21, 24], [false, false, true], [])] 12 4 ?_
  refine dC [14, 15, 17, 18, 20, 21, 24] [true, true, true, true] [] [] ?_
  refine cd (checkSpan_ok ⟨_, _⟩ _ _) ?_
  refine dB [([9, 10, 11, 12, 13, 17, 18, 20, 21, 24], [false, false, false, false, false], []), ([9, 10, 11, 12, 13, 17, 18, 20, 21, 24], [false, false, false, false, false, true], [])] 9 7 ?_
  refine dC [17, 18, 20, 21, 24] [true, true, true, true, true, true, true] [] [] ?_
  refine cd (checkSpan_ok ⟨_, _⟩ _ _) ?_
  refine dB [([9, 10, 11, 12, 13, 14, 15, 16, 20, 21, 24], [false, false, false, false, false, false, false, false], []), ([9, 10, 11, 12, 13, 14, 15, 16, 20, 21, 24], [false, false, false, false, false, false, false, false, true], [])] 6 10 ?_
  refine dC [20, 21, 24] [true, true, true, true, true, true, true, true, true, true] [] [] ?_
  refine cd (warmth_ok ⟨_, _⟩) ?_
  refine dB [([9, 10, 11, 12, 13, 14, 15, 16, 17, 18, 19, 24], [false, false, false, false, false, false, false, false, false, false, false], []), ([9, 10, 11, 12, 13, 14, 15, 16, 17, 18, 19, 24], [false, false, false, false, false, false, false, false, false, false, false, true], [])] 3 13 ?_
  refine dC [24] [true, true, true, true, true, true, true, true, true, true, true, true, true] [] [] ?_
  refine cd (warmth_ok ⟨_, _⟩) ?_
  refine dB [([24], [true, true, true, true, true, true, true, true, true, true, true, true, true, true], []), ([9, 10, 11, 12, 13, 14, 15, 16, 17, 18, 19, 20, 21, 22, 23], [false, false, false, false, false, false, false, false, false, false, false, false, false, false, false], [])] 0 16 ?_
  refine dD ?_
  refine oK [1, 23, 24] ?_
  refine W.block ?_
  obtain ⟨es, qes⟩ : ∃ es, es = boxEs b := ⟨_, rfl⟩
  have hes : [I (spanErr b.ice 0 b.room), I (spanErr b.melt 0 100000), I (spanErr b.cld (-300) 400), I (spanErr b.wrm (-300) 400)] = es.map I := by rw [qes]; rfl
  have hel : es.length = 4 := by rw [qes]; rfl
  replace F := F.add hes |>.add hel
  refine lpa (α := Nat) [1, 23] [] [] (fun i => [(24, I i)]) (fun i => []) (fun i => i ≤ 4 ∧ firstNZ id es = firstNZ id (es.drop i)) (fun i => 4 - i) 0 v0 ?_
  ·
   intro i hI0
   simp only [List.cons_append, List.nil_append]
   try dsimp only at hI0
   obtain ⟨hi, hm1⟩ := hI0
   replace F := F.add hi
   refine rK [1, 23, 24, 25] ?_
   refine W.seqk fun K3 hK3 => ?_
   refine it (fun hc2 => ?_) (fun hc2 => ?_)
   ·
    try simp at hc2
    replace F := F.add hc2
    refine W.skip ?_
    refine hK3 _ ?_
    clear hK3 K3
    refine W.seqk fun K4 hK4 => ?_
    refine W.block ?_
    have hi4 : i < 4 := by omega
    replace F := F.add hi4
    refine rK [1, 4, 23, 24] ?_
    refine rK [1, 4, 23, 24, 28] ?_
    refine it (fun hc3 => ?_) (fun hc3 => ?_)
    ·
     try simp at hc3
     replace F := F.add hc3
     refine rK [2] ?_
     refine W.ret ?_
     refine br (tr (tr (br (tr ?_))))
     clear hK4 K4 hK2 K2
     refine er false [] [] ?_
     exact ⟨congrArg I (boxErr_hit qes hc1 (by omega) hm1 (by assumption)).symm, rfl⟩
    ·
     try simp at hc3
     replace F := F.add hc3
     refine W.skip ?_
     refine hK4 _ ?_
     clear hK4 K4
     refine rEw ?_
     refine ⟨i + 1, lf0, ?_, v0⟩
     ·
      exact ⟨by omega, by rw [hm1, firstNZ_skip (f := id) (by omega) (by assumption)]⟩
   ·
    try simp at hc2
    replace F := F.add hc2
    refine W.exit ?_
    refine hK2 _ ?_
    clear hK3 K3 hK2 K2
    refine W.seqk fun K5 hK5 => ?_
    refine rK [37] ?_
    refine it (fun hc4 => ?_) (fun hc4 => ?_)
    ·
     try simp at hc4
     replace F := F.add hc4
     refine rK [2] ?_
     refine W.ret ?_
     refine tr ?_
     clear hK5 K5
     refine er false [] [] ?_
     exact ⟨congrArg I (by rw [boxErr_done qes hc1 (by omega) hm1, if_pos (by omega)]), rfl⟩
    ·
     try simp at hc4
     replace F := F.add hc4
     refine W.skip ?_
     refine hK5 _ ?_
     clear hK5 K5
     refine rK [2] ?_
     refine W.ret ?_
     refine er false [] [] ?_
     exact ⟨congrArg I (by rw [boxErr_done qes hc1 (by omega) hm1, if_neg (by omega)]), rfl⟩
set_option maxHeartbeats 4000000 in
theorem checkFillings_ok (c : Cel) : ACalls Tryd.prog 20 [celV c] [] (fun r o => r = I (filsErr c.boxes.length c.fils) ∧ o = []) := by
 refine ACalls.lenA (xs := [I c.hall.lo, I c.hall.hi, boxesV c.boxes, filsV c.fils, ratsV c.rats]) (l := c.boxes.map B9) (by simp) (by simp) ⟨_, Tryd.func20, by kernel_rfl, by kernel_rfl⟩ fun hl1 => ?_
 simp [maxLen_val] at hl1
 refine ACalls.lenA (xs := [I c.hall.lo, I c.hall.hi, boxesV c.boxes, filsV c.fils, ratsV c.rats]) (l := c.fils.map F3) (by simp) (by simp) ⟨_, Tryd.func20, by kernel_rfl, by kernel_rfl⟩ fun hl2 => ?_
 simp [maxLen_val] at hl2
 have F := Fx.nil
 refine ent Tryd.func20 Tryd.ntmps20 Tryd.results20 ?_
 refine rK [1] ?_
 refine W.seqk fun K1 hK1 => ?_
 refine rK [1, 8] ?_
 refine it (fun hc1 => ?_) (fun hc1 => ?_)
 ·
  try simp at hc1
  replace F := F.add hc1
  refine rK [2] ?_
  refine W.ret ?_
  refine tr ?_
  clear hK1 K1
  refine er false [] [] ?_
  exact ⟨congrArg I (by rw [filsErr, if_pos (by omega)]), rfl⟩
 ·
  try simp at hc1
  replace F := F.add hc1
  refine W.skip ?_
  refine hK1 _ ?_
  clear hK1 K1
  refine W.seqk fun K2 hK2 => ?_
  refine rK [1, 10, 11, 12] ?_
  refine W.block ?_
  refine lpa (α := Nat) [1, 10, 11] [4, 22, 24, 29, 33] [] (fun i => [(12, I i)]) (fun i => []) (fun i => i ≤ c.fils.length ∧ ∀ j, j < i → filErr c.boxes.length c.fils j = 0) (fun i => c.fils.length - i) 0 v0 ?_
  ·
   intro i hI0
   simp only [List.cons_append, List.nil_append]
   try dsimp only at hI0
   obtain ⟨hi, hm1⟩ := hI0
   replace F := F.add hi
   refine rK [1, 10, 11, 12, 13] ?_
   refine W.seqk fun K3 hK3 => ?_
   refine it (fun hc2 => ?_) (fun hc2 => ?_)
   ·
    try simp at hc2
    replace F := F.add hc2
    refine W.skip ?_
    refine hK3 _ ?_
    clear hK3 K3
    refine W.seqk fun K4 hK4 => ?_
    refine W.block ?_
    have hil : i < c.fils.length := by omega
    have hib : i - 1 < c.fils.length := by omega
    have qe := filErr_get (n := c.boxes.length) hil hib
    replace F := F.add hil |>.add hib
    refine rK [1, 3, 4, 10, 11, 12] ?_
    refine W.block ?_
    refine W.seqR ?_
    refine oNw 6 ?_
    refine oC [] ?_
    refine ct (in_ok _ _ _) ?_
    refine oN 2 ?_
    refine oK [1, 3, 4, 10, 11, 12, 17] ?_
    refine it (fun hc3 => ?_) (fun hc3 => ?_)
    ·
     try simp at hc3
     replace F := F.add hc3
     refine rK [2] ?_
     refine W.ret ?_
     refine br (br (tr (tr (br (tr ?_)))))
     clear hK4 K4 hK2 K2
     refine er false [] [] ?_
     exact ⟨congrArg I (filsErr_hit (by omega) hil hm1 (by rw [qe]; (repeat' split) <;> first | rfl | omega) (by decide)).symm, rfl⟩
    ·
     try simp at hc3
     replace F := F.add hc3
     refine W.seqk fun K5 hK5 => ?_
     refine W.seqR ?_
     refine oN 2 ?_
     refine oC [] ?_
     refine ct (in_ok _ _ _) ?_
     refine oN 2 ?_
     refine oK [1, 3, 4, 10, 11, 12, 26] ?_
     refine it (fun hc4 => ?_) (fun hc4 => ?_)
     ·
      try simp at hc4
      replace F := F.add hc4
      refine W.skip ?_
      refine hK5 _ ?_
      clear hK5 K5
      refine it (fun hc5 => ?_) (fun hc5 => ?_)
      ·
       try simp at hc5
       replace F := F.add hc5
       refine rK [2] ?_
       refine W.ret ?_
       refine br (br (tr (tr (br (tr ?_)))))
       clear hK4 K4 hK2 K2
       refine er false [] [] ?_
       exact ⟨congrArg I (filsErr_hit (by omega) hil hm1 (by rw [qe]; (repeat' split) <;> first | rfl | omega) (by decide)).symm, rfl⟩
      ·
       try simp at hc5
       replace F := F.add hc5
       by_cases h0 : 0 < i
       ·
        replace F := F.add h0
        have him : (i : Int) - 1 = ((i - 1 : Nat) : Int) := by omega
        replace F := F.add him
        refine wD 12 [] [[], [0], [0, 1], [1, 0, 2], [2, 0, 1, 3], [1, 0, 2], [2, 0, 1, 5], [1, 0, 2], [2, 0, 1, 7], [7, 8, 5, 1, 0, 2, 6], [6, 2, 0, 1, 5, 8, 7, 9], [9, 7, 8, 5, 1, 0, 2, 6, 10], [10, 6, 5, 8, 7, 9, 11, 3, 1, 0, 2, 4], [4, 3, 11, 9, 7, 8, 5, 6, 10, 12, 1, 0, 2], [2, 0, 1, 12, 10, 6, 5, 8, 7, 9, 11, 3, 4, 13]] ?_
        refine dB [([], [], []), ([], [true], []), ([], [true, true], [])] 9 3 ?_
        refine dT [41, 42, 43, 44, 45, 46, 47] [true, true, true] [] ?_
        refine dT [41, 42, 43, 44, 45, 46, 47] [true, true, true, true] [] ?_
        refine dT [39, 40, 43, 44] [true, true, true, false, false] [] ?_
        refine dT [39, 40, 43, 44] [true, true, true, false, false, true] [] ?_
        refine dT [39, 40, 41, 42] [true, true, true, false, false, false, false] [] ?_
        refine dTw [39, 40, 41, 42] [true, true, true, false, false, false, false, true] [] ?_
        refine dT [39, 40] [true, true, true, false, false, true, true, true, true] [] ?_
        refine dT [39, 40] [true, true, true, false, false, true, true, true, true, true] [] ?_
        refine dT [39, 40] [true, true, true, false, false, true, true, true, true, true, true] [] ?_
        refine dD ?_
        refine gT ?_
        refine oN 2 ?_
        refine oK [1, 10, 11, 12, 35] ?_
        refine it (fun hc6 => ?_) (fun hc6 => ?_)
        ·
         try simp at hc6
         replace F := F.add hc6
         refine rK [2] ?_
         refine W.ret ?_
         refine br (br (tr (tr (br (tr ?_)))))
         clear hK4 K4 hK2 K2
         refine er false [] [] ?_
         (exfalso; omega)
        ·
         try simp at hc6
         replace F := F.add hc6
         refine W.skip ?_
         refine hK4 _ ?_
         clear hK4 K4
         refine rEw ?_
         refine ⟨i + 1, lf0, ?_, v0⟩
         ·
          first | (exfalso; omega) | exact ⟨by omega, zero_snoc hm1 (by rw [qe]; (repeat' split) <;> first | rfl | omega)⟩
       ·
        replace F := F.add h0
        refine wD 12 [] [[], [0], [0, 1], [1, 0, 2], [2, 0, 1, 3], [1, 0, 2], [2, 0, 1, 5], [1, 0, 2], [2, 0, 1, 7], [7, 8, 5, 1, 0, 2, 6], [6, 2, 0, 1, 5, 8, 7, 9], [9, 7, 8, 5, 1, 0, 2, 6, 10], [10, 6, 5, 8, 7, 9, 11, 3, 1, 0, 2, 4], [4, 3, 11, 9, 7, 8, 5, 6, 10, 12, 1, 0, 2], [2, 0, 1, 12, 10, 6, 5, 8, 7, 9, 11, 3, 4, 13]] ?_
        refine dB [([], [], []), ([], [true], []), ([], [true, true], [])] 9 3 ?_
        refine dF [some 39, some 40, some 41, some 42, some 43, some 44, some 45, some 46, some 47] 2 38 true 0 ?_
        refine dD ?_
        refine gF ?_
        refine oN 2 ?_
        refine oK [1, 10, 11, 12, 35] ?_
        refine cF ?_
        refine W.skip ?_
        refine hK4 _ ?_
        clear hK4 K4
        refine rEw ?_
        refine ⟨i + 1, lf0, ?_, v0⟩
        ·
         first | (exfalso; omega) | exact ⟨by omega, zero_snoc hm1 (by rw [qe]; (repeat' split) <;> first | rfl | omega)⟩
     ·
      try simp at hc4
      replace F := F.add hc4
      refine W.region ?_
      refine oN 2 ?_
      refine oC [] ?_
      refine ct (in_ok _ _ _) ?_
      refine oN 2 ?_
      refine WOps.endK ?_
      refine hK5 _ ?_
      clear hK5 K5
      refine it (fun hc8 => ?_) (fun hc8 => ?_)
      ·
       try simp at hc8
       replace F := F.add hc8
       refine rK [2] ?_
       refine W.ret ?_
       refine br (br (tr (tr (br (tr ?_)))))
       clear hK4 K4 hK2 K2
       refine er false [] [] ?_
       exact ⟨congrArg I (filsErr_hit (by omega) hil hm1 (by rw [qe]; (repeat' split) <;> first | rfl | omega) (by decide)).symm, rfl⟩
      ·
       try simp at hc8
       replace F := F.add hc8
       by_cases h0 : 0 < i
       ·
        replace F := F.add h0
        have him : (i : Int) - 1 = ((i - 1 : Nat) : Int) := by omega
        replace F := F.add him
        refine wD 12 [] [[], [0], [0, 1], [1, 0, 2], [2, 0, 1, 3], [1, 0, 2], [2, 0, 1, 5], [1, 0, 2], [2, 0, 1, 7], [7, 8, 5, 1, 0, 2, 6], [6, 2, 0, 1, 5, 8, 7, 9], [9, 7, 8, 5, 1, 0, 2, 6, 10], [10, 6, 5, 8, 7, 9, 11, 3, 1, 0, 2, 4], [4, 3, 11, 9, 7, 8, 5, 6, 10, 12, 1, 0, 2], [2, 0, 1, 12, 10, 6, 5, 8, 7, 9, 11, 3, 4, 13]] ?_
        refine dB [([], [], []), ([], [true], []), ([], [true, true], [])] 9 3 ?_
        refine dT [41, 42, 43, 44, 45, 46, 47] [true, true, true] [] ?_
        refine dT [41, 42, 43, 44, 45, 46, 47] [true, true, true, true] [] ?_
        refine dT [39, 40, 43, 44] [true, true, true, false, false] [] ?_
        refine dT [39, 40, 43, 44] [true, true, true, false, false, true] [] ?_
        refine dT [39, 40, 41, 42] [true, true, true, false, false, false, false] [] ?_
        refine dTw [39, 40, 41, 42] [true, true, true, false, false, false, false, true] [] ?_
        refine dT [39, 40] [true, true, true, false, false, true, true, true, true] [] ?_
        refine dT [39, 40] [true, true, true, false, false, true, true, true, true, true] [] ?_
        refine dT [39, 40] [true, true, true, false, false, true, true, true, true, true, true] [] ?_
        refine dD ?_
        refine gT ?_
        refine oN 2 ?_
        refine oK [1, 10, 11, 12, 35] ?_
        refine it (fun hc9 => ?_) (fun hc9 => ?_)
        ·
         try simp at hc9
         replace F := F.add hc9
         refine rK [2] ?_
         refine W.ret ?_
         refine br (br (tr (tr (br (tr ?_)))))
         clear hK4 K4 hK2 K2
         refine er false [] [] ?_
         exact ⟨congrArg I (filsErr_hit (by omega) hil hm1 (by rw [qe]; (repeat' split) <;> first | rfl | omega) (by decide)).symm, rfl⟩
        ·
         try simp at hc9
         replace F := F.add hc9
         refine W.skip ?_
         refine hK4 _ ?_
         clear hK4 K4
         refine rEw ?_
         refine ⟨i + 1, lf0, ?_, v0⟩
         ·
          first | (exfalso; omega) | exact ⟨by omega, zero_snoc hm1 (by rw [qe]; (repeat' split) <;> first | rfl | omega)⟩
       ·
        replace F := F.add h0
        refine wD 12 [] [[], [0], [0, 1], [1, 0, 2], [2, 0, 1, 3], [1, 0, 2], [2, 0, 1, 5], [1, 0, 2], [2, 0, 1, 7], [7, 8, 5, 1, 0, 2, 6], [6, 2, 0, 1, 5, 8, 7, 9], [9, 7, 8, 5, 1, 0, 2, 6, 10], [10, 6, 5, 8, 7, 9, 11, 3, 1, 0, 2, 4], [4, 3, 11, 9, 7, 8, 5, 6, 10, 12, 1, 0, 2], [2, 0, 1, 12, 10, 6, 5, 8, 7, 9, 11, 3, 4, 13]] ?_
        refine dB [([], [], []), ([], [true], []), ([], [true, true], [])] 9 3 ?_
        refine dF [some 39, some 40, some 41, some 42, some 43, some 44, some 45, some 46, some 47] 2 38 true 0 ?_
        refine dD ?_
        refine gF ?_
        refine oN 2 ?_
        refine oK [1, 10, 11, 12, 35] ?_
        refine cF ?_
        refine W.skip ?_
        refine hK4 _ ?_
        clear hK4 K4
        refine rEw ?_
        refine ⟨i + 1, lf0, ?_, v0⟩
        ·
         first | (exfalso; omega) | exact ⟨by omega, zero_snoc hm1 (by rw [qe]; (repeat' split) <;> first | rfl | omega)⟩
   ·
    try simp at hc2
    replace F := F.add hc2
    refine W.exit ?_
    refine hK2 _ ?_
    clear hK3 K3 hK2 K2
    refine rK [2] ?_
    refine W.ret ?_
    refine er false [] [] ?_
    exact ⟨congrArg I (filsErr_done (by omega) (by omega) hm1).symm, rfl⟩
set_option maxHeartbeats 4000000 in
theorem checkRates_ok (l : List Rat) : ACalls Tryd.prog 21 [ratsV l] [] (fun r o => r = I (ratsErr l) ∧ o = []) := by
 refine ACalls.len (l := l.map R2) (by simp) ⟨_, Tryd.func21, by kernel_rfl, by kernel_rfl⟩ fun hl => ?_
 simp [maxLen_val] at hl
 have F := Fx.nil
 refine ent Tryd.func21 Tryd.ntmps21 Tryd.results21 ?_
 refine rK [0] ?_
 refine W.seqk fun K1 hK1 => ?_
 refine W.block ?_
 refine rK [0, 5] ?_
 refine it (fun hc1 => ?_) (fun hc1 => ?_)
 ·
  try simp at hc1
  replace F := F.add hc1
  refine rK [2] ?_
  refine W.ret ?_
  refine br (tr ?_)
  clear hK1 K1
  refine er false [] [] ?_
  exact ⟨congrArg I (by rw [ratsErr, if_pos (by simpa using hc1)]), rfl⟩
 ·
  try simp at hc1
  replace F := F.add hc1
  refine rK [0, 9] ?_
  refine it (fun hc2 => ?_) (fun hc2 => ?_)
  ·
   try simp at hc2
   replace F := F.add hc2
   refine rK [2] ?_
   refine W.ret ?_
   refine br (tr ?_)
   clear hK1 K1
   refine er false [] [] ?_
   exact ⟨congrArg I (by rw [ratsErr, if_neg (by simpa using hc1), if_pos (by omega)]), rfl⟩
  ·
   try simp at hc2
   replace F := F.add hc2
   refine W.skip ?_
   refine hK1 _ ?_
   clear hK1 K1
   refine W.seqk fun K2 hK2 => ?_
   refine rK [0, 13, 14, 15] ?_
   refine W.block ?_
   refine lpa (α := Nat) [0, 13, 14] [4, 23, 27] [] (fun i => [(15, I i)]) (fun i => []) (fun i => i ≤ l.length ∧ ∀ j, j < i → ratErr l j = 0) (fun i => l.length - i) 0 v0 ?_
   ·
    intro i hI0
    simp only [List.cons_append, List.nil_append]
    try dsimp only at hI0
    obtain ⟨hi, hm1⟩ := hI0
    replace F := F.add hi
    refine rK [0, 13, 14, 15, 16] ?_
    refine W.seqk fun K3 hK3 => ?_
    refine it (fun hc3 => ?_) (fun hc3 => ?_)
    ·
     try simp at hc3
     replace F := F.add hc3
     refine W.skip ?_
     refine hK3 _ ?_
     clear hK3 K3
     refine W.seqk fun K4 hK4 => ?_
     refine W.block ?_
     have hil : i < l.length := by omega
     have hib : i - 1 < l.length := by omega
     have qe := ratErr_get hil hib
     replace F := F.add hil |>.add hib
     refine rK [0, 3, 4, 13, 14, 15] ?_
     refine W.block ?_
     refine W.seqk fun K5 hK5 => ?_
     refine W.seqR ?_
     refine oN 2 ?_
     refine oC [] ?_
     refine ct (in_ok _ _ _) ?_
     refine oN 2 ?_
     refine oK [0, 3, 4, 13, 14, 15, 20] ?_
     refine it (fun hc4 => ?_) (fun hc4 => ?_)
     ·
      try simp at hc4
      replace F := F.add hc4
      refine W.skip ?_
      refine hK5 _ ?_
      clear hK5 K5
      refine it (fun hc5 => ?_) (fun hc5 => ?_)
      ·
       try simp at hc5
       replace F := F.add hc5
       refine rK [2] ?_
       refine W.ret ?_
       refine br (br (tr (tr (br (tr ?_)))))
       clear hK4 K4 hK2 K2
       refine er false [] [] ?_
       exact ⟨congrArg I (ratsErr_hit (by omega) hil hm1 (by rw [qe]; (repeat' split) <;> first | rfl | omega) (by decide)).symm, rfl⟩
      ·
       try simp at hc5
       replace F := F.add hc5
       by_cases h0 : 0 < i
       ·
        replace F := F.add h0
        have him : (i : Int) - 1 = ((i - 1 : Nat) : Int) := by omega
        replace F := F.add him
        by_cases hle : l[i].above ≤ l[i - 1].above
        ·
         replace F := F.add hle
         refine wD 21 [] [[], [0], [0, 1], [1, 0, 2], [2, 0, 1, 3], [1, 0, 2], [1, 0, 2], [2, 0, 1, 6], [6, 7, 2, 0, 1, 5], [5, 1, 0, 2, 7, 6, 8], [8, 6, 7, 2, 0, 1, 5, 9], [9, 5, 7, 6, 8, 10, 3, 1, 0, 2, 4], [4, 2, 0, 1, 3, 10, 8, 6, 7, 5, 9, 11], [11, 9, 5, 7, 6, 8, 10, 3, 1, 0, 2, 4, 12], [12, 4, 2, 0, 1, 3, 10, 8, 6, 7, 5, 9, 11, 13], [11, 9, 5, 7, 6, 8, 10, 3, 1, 0, 2, 4, 12], [11, 9, 5, 7, 6, 8, 10, 3, 1, 0, 2, 4, 12], [12, 4, 2, 0, 1, 3, 10, 8, 6, 7, 5, 9, 11, 16], [16, 17, 12, 4, 2, 0, 1, 3, 10, 8, 6, 7, 5, 9, 11, 15], [15, 11, 9, 5, 7, 6, 8, 10, 3, 1, 0, 2, 4, 12, 17, 16, 18], [18, 16, 17, 12, 4, 2, 0, 1, 3, 10, 8, 6, 7, 5, 9, 11, 15, 19], [19, 15, 17, 16, 18, 20, 13, 11, 9, 5, 7, 6, 8, 10, 3, 1, 0, 2, 4, 12, 14], [14, 13, 20, 18, 16, 17, 15, 19, 21, 11, 9, 5, 7, 6, 8, 10, 3, 1, 0, 2, 4, 12], [12, 4, 3, 10, 8, 6, 7, 5, 9, 11, 21, 19, 15, 17, 16, 18, 20, 13, 14, 22, 1, 0, 2], [2, 0, 1, 22, 14, 13, 20, 18, 16, 17, 15, 19, 21, 11, 9, 5, 7, 6, 8, 10, 3, 4, 12, 23]] ?_
         refine dB [([], [], []), ([], [true], []), ([], [true, true], [])] 18 3 ?_
         refine dT [35, 36, 37, 38, 39, 40] [true, true, true] [] ?_
         refine dT [35, 36, 37, 38, 39, 40] [true, true, true, true] [] ?_
         refine dT [33, 34, 36, 37] [true, true, true, false, false] [] ?_
         refine dT [33, 34, 35] [true, true, true, false, false, false] [] ?_
         refine dTw [33, 34, 35] [true, true, true, false, false, false, true] [] ?_
         refine dT [33, 34] [true, true, true, false, false, true, true, true] [] ?_
         refine dT [33, 34] [true, true, true, false, false, true, true, true, true] [] ?_
         refine dT [33, 34] [true, true, true, false, false, true, true, true, true, true] [] ?_
         refine dT [] [true, true, true, true, true, true, true, true, true, true, true] [] ?_
         refine dT [] [true, true, true, true, true, true, true, true, true, true, true, true] [] ?_
         refine dF [some 43, some 44, some 45, some 46, some 47, some 48, some 49, some 50] 12 42 false 0 ?_
         refine dD ?_
         refine gF ?_
         refine gT ?_
         refine oN 2 ?_
         refine oK [0, 13, 14, 15, 29] ?_
         refine cT ?_
         refine rK [2] ?_
         refine W.ret ?_
         refine br (br (tr (tr (br (tr ?_)))))
         clear hK4 K4 hK2 K2
         refine er false [] [] ?_
         (exfalso; omega)
        ·
         replace F := F.add hle
         refine wD 21 [] [[], [0], [0, 1], [1, 0, 2], [2, 0, 1, 3], [1, 0, 2], [1, 0, 2], [2, 0, 1, 6], [6, 7, 2, 0, 1, 5], [5, 1, 0, 2, 7, 6, 8], [8, 6, 7, 2, 0, 1, 5, 9], [9, 5, 7, 6, 8, 10, 3, 1, 0, 2, 4], [4, 2, 0, 1, 3, 10, 8, 6, 7, 5, 9, 11], [11, 9, 5, 7, 6, 8, 10, 3, 1, 0, 2, 4, 12], [12, 4, 2, 0, 1, 3, 10, 8, 6, 7, 5, 9, 11, 13], [11, 9, 5, 7, 6, 8, 10, 3, 1, 0, 2, 4, 12], [11, 9, 5, 7, 6, 8, 10, 3, 1, 0, 2, 4, 12], [12, 4, 2, 0, 1, 3, 10, 8, 6, 7, 5, 9, 11, 16], [16, 17, 12, 4, 2, 0, 1, 3, 10, 8, 6, 7, 5, 9, 11, 15], [15, 11, 9, 5, 7, 6, 8, 10, 3, 1, 0, 2, 4, 12, 17, 16, 18], [18, 16, 17, 12, 4, 2, 0, 1, 3, 10, 8, 6, 7, 5, 9, 11, 15, 19], [19, 15, 17, 16, 18, 20, 13, 11, 9, 5, 7, 6, 8, 10, 3, 1, 0, 2, 4, 12, 14], [14, 13, 20, 18, 16, 17, 15, 19, 21, 11, 9, 5, 7, 6, 8, 10, 3, 1, 0, 2, 4, 12], [12, 4, 3, 10, 8, 6, 7, 5, 9, 11, 21, 19, 15, 17, 16, 18, 20, 13, 14, 22, 1, 0, 2], [2, 0, 1, 22, 14, 13, 20, 18, 16, 17, 15, 19, 21, 11, 9, 5, 7, 6, 8, 10, 3, 4, 12, 23]] ?_
         refine dB [([], [], []), ([], [true], []), ([], [true, true], [])] 18 3 ?_
         refine dT [35, 36, 37, 38, 39, 40] [true, true, true] [] ?_
         refine dT [35, 36, 37, 38, 39, 40] [true, true, true, true] [] ?_
         refine dT [33, 34, 36, 37] [true, true, true, false, false] [] ?_
         refine dT [33, 34, 35] [true, true, true, false, false, false] [] ?_
         refine dTw [33, 34, 35] [true, true, true, false, false, false, true] [] ?_
         refine dT [33, 34] [true, true, true, false, false, true, true, true] [] ?_
         refine dT [33, 34] [true, true, true, false, false, true, true, true, true] [] ?_
         refine dT [33, 34] [true, true, true, false, false, true, true, true, true, true] [] ?_
         refine dT [] [true, true, true, true, true, true, true, true, true, true, true] [] ?_
         refine dT [] [true, true, true, true, true, true, true, true, true, true, true, true] [] ?_
         refine dT [45, 46, 47, 48, 49, 50] [true, true, true, true, true, true, true, true, true, true, true, true, true] [] ?_
         refine dT [45, 46, 47, 48, 49, 50] [true, true, true, true, true, true, true, true, true, true, true, true, true, true] [] ?_
         refine dT [43, 44, 46, 47] [true, true, true, true, true, true, true, true, true, true, true, true, true, false, false] [] ?_
         refine dT [43, 44, 45] [true, true, true, true, true, true, true, true, true, true, true, true, true, false, false, false] [] ?_
         refine dTw [43, 44, 45] [true, true, true, true, true, true, true, true, true, true, true, true, true, false, false, false, true] [] ?_
         refine dT [43, 44] [true, true, true, true, true, true, true, true, true, true, true, true, true, false, false, true, true, true] [] ?_
         refine dT [43, 44] [true, true, true, true, true, true, true, true, true, true, true, true, true, false, false, true, true, true, true] [] ?_
         refine dT [43, 44] [true, true, true, true, true, true, true, true, true, true, true, true, true, false, false, true, true, true, true, true] [] ?_
         refine dD ?_
         refine gT ?_
         refine gT ?_
         refine oN 2 ?_
         refine oK [0, 13, 14, 15, 29] ?_
         refine it (fun hc7 => ?_) (fun hc7 => ?_)
         ·
          try simp at hc7
          replace F := F.add hc7
          refine rK [2] ?_
          refine W.ret ?_
          refine br (br (tr (tr (br (tr ?_)))))
          clear hK4 K4 hK2 K2
          refine er false [] [] ?_
          (exfalso; omega)
         ·
          try simp at hc7
          replace F := F.add hc7
          refine W.skip ?_
          refine hK4 _ ?_
          clear hK4 K4
          refine rEw ?_
          refine ⟨i + 1, lf0, ?_, v0⟩
          ·
           first | (exfalso; omega) | exact ⟨by omega, zero_snoc hm1 (by rw [qe]; (repeat' split) <;> first | rfl | omega)⟩
       ·
        replace F := F.add h0
        refine wD 21 [] [[], [0], [0, 1], [1, 0, 2], [2, 0, 1, 3], [1, 0, 2], [1, 0, 2], [2, 0, 1, 6], [6, 7, 2, 0, 1, 5], [5, 1, 0, 2, 7, 6, 8], [8, 6, 7, 2, 0, 1, 5, 9], [9, 5, 7, 6, 8, 10, 3, 1, 0, 2, 4], [4, 2, 0, 1, 3, 10, 8, 6, 7, 5, 9, 11], [11, 9, 5, 7, 6, 8, 10, 3, 1, 0, 2, 4, 12], [12, 4, 2, 0, 1, 3, 10, 8, 6, 7, 5, 9, 11, 13], [11, 9, 5, 7, 6, 8, 10, 3, 1, 0, 2, 4, 12], [11, 9, 5, 7, 6, 8, 10, 3, 1, 0, 2, 4, 12], [12, 4, 2, 0, 1, 3, 10, 8, 6, 7, 5, 9, 11, 16], [16, 17, 12, 4, 2, 0, 1, 3, 10, 8, 6, 7, 5, 9, 11, 15], [15, 11, 9, 5, 7, 6, 8, 10, 3, 1, 0, 2, 4, 12, 17, 16, 18], [18, 16, 17, 12, 4, 2, 0, 1, 3, 10, 8, 6, 7, 5, 9, 11, 15, 19], [19, 15, 17, 16, 18, 20, 13, 11, 9, 5, 7, 6, 8, 10, 3, 1, 0, 2, 4, 12, 14], [14, 13, 20, 18, 16, 17, 15, 19, 21, 11, 9, 5, 7, 6, 8, 10, 3, 1, 0, 2, 4, 12], [12, 4, 3, 10, 8, 6, 7, 5, 9, 11, 21, 19, 15, 17, 16, 18, 20, 13, 14, 22, 1, 0, 2], [2, 0, 1, 22, 14, 13, 20, 18, 16, 17, 15, 19, 21, 11, 9, 5, 7, 6, 8, 10, 3, 4, 12, 23]] ?_
        refine dB [([], [], []), ([], [true], []), ([], [true, true], [])] 18 3 ?_
        refine dF [some 33, some 34, some 35, some 36, some 37, some 38, some 39, some 40, some 41, some 42] 2 32 true 8 ?_
        refine dF [some 43, some 44, some 45, some 46, some 47, some 48, some 49, some 50] 12 42 false 0 ?_
        refine dD ?_
        refine gF ?_
        refine gF ?_
        refine oN 2 ?_
        refine oK [0, 13, 14, 15, 29] ?_
        refine cF ?_
        refine W.skip ?_
        refine hK4 _ ?_
        clear hK4 K4
        refine rEw ?_
        refine ⟨i + 1, lf0, ?_, v0⟩
        ·
         first | (exfalso; omega) | exact ⟨by omega, zero_snoc hm1 (by rw [qe]; (repeat' split) <;> first | rfl | omega)⟩
     ·
      try simp at hc4
      replace F := F.add hc4
      refine W.region ?_
      refine oN 2 ?_
      refine oC [] ?_
      refine ct (in_ok _ _ _) ?_
      refine oN 2 ?_
      refine WOps.endK ?_
      refine hK5 _ ?_
      clear hK5 K5
      refine it (fun hc9 => ?_) (fun hc9 => ?_)
      ·
       try simp at hc9
       replace F := F.add hc9
       refine rK [2] ?_
       refine W.ret ?_
       refine br (br (tr (tr (br (tr ?_)))))
       clear hK4 K4 hK2 K2
       refine er false [] [] ?_
       exact ⟨congrArg I (ratsErr_hit (by omega) hil hm1 (by rw [qe]; (repeat' split) <;> first | rfl | omega) (by decide)).symm, rfl⟩
      ·
       try simp at hc9
       replace F := F.add hc9
       by_cases h0 : 0 < i
       ·
        replace F := F.add h0
        have him : (i : Int) - 1 = ((i - 1 : Nat) : Int) := by omega
        replace F := F.add him
        by_cases hle : l[i].above ≤ l[i - 1].above
        ·
         replace F := F.add hle
         refine wD 21 [] [[], [0], [0, 1], [1, 0, 2], [2, 0, 1, 3], [1, 0, 2], [1, 0, 2], [2, 0, 1, 6], [6, 7, 2, 0, 1, 5], [5, 1, 0, 2, 7, 6, 8], [8, 6, 7, 2, 0, 1, 5, 9], [9, 5, 7, 6, 8, 10, 3, 1, 0, 2, 4], [4, 2, 0, 1, 3, 10, 8, 6, 7, 5, 9, 11], [11, 9, 5, 7, 6, 8, 10, 3, 1, 0, 2, 4, 12], [12, 4, 2, 0, 1, 3, 10, 8, 6, 7, 5, 9, 11, 13], [11, 9, 5, 7, 6, 8, 10, 3, 1, 0, 2, 4, 12], [11, 9, 5, 7, 6, 8, 10, 3, 1, 0, 2, 4, 12], [12, 4, 2, 0, 1, 3, 10, 8, 6, 7, 5, 9, 11, 16], [16, 17, 12, 4, 2, 0, 1, 3, 10, 8, 6, 7, 5, 9, 11, 15], [15, 11, 9, 5, 7, 6, 8, 10, 3, 1, 0, 2, 4, 12, 17, 16, 18], [18, 16, 17, 12, 4, 2, 0, 1, 3, 10, 8, 6, 7, 5, 9, 11, 15, 19], [19, 15, 17, 16, 18, 20, 13, 11, 9, 5, 7, 6, 8, 10, 3, 1, 0, 2, 4, 12, 14], [14, 13, 20, 18, 16, 17, 15, 19, 21, 11, 9, 5, 7, 6, 8, 10, 3, 1, 0, 2, 4, 12], [12, 4, 3, 10, 8, 6, 7, 5, 9, 11, 21, 19, 15, 17, 16, 18, 20, 13, 14, 22, 1, 0, 2], [2, 0, 1, 22, 14, 13, 20, 18, 16, 17, 15, 19, 21, 11, 9, 5, 7, 6, 8, 10, 3, 4, 12, 23]] ?_
         refine dB [([], [], []), ([], [true], []), ([], [true, true], [])] 18 3 ?_
         refine dT [35, 36, 37, 38, 39, 40] [true, true, true] [] ?_
         refine dT [35, 36, 37, 38, 39, 40] [true, true, true, true] [] ?_
         refine dT [33, 34, 36, 37] [true, true, true, false, false] [] ?_
         refine dT [33, 34, 35] [true, true, true, false, false, false] [] ?_
         refine dTw [33, 34, 35] [true, true, true, false, false, false, true] [] ?_
         refine dT [33, 34] [true, true, true, false, false, true, true, true] [] ?_
         refine dT [33, 34] [true, true, true, false, false, true, true, true, true] [] ?_
         refine dT [33, 34] [true, true, true, false, false, true, true, true, true, true] [] ?_
         refine dT [] [true, true, true, true, true, true, true, true, true, true, true] [] ?_
         refine dT [] [true, true, true, true, true, true, true, true, true, true, true, true] [] ?_
         refine dF [some 43, some 44, some 45, some 46, some 47, some 48, some 49, some 50] 12 42 false 0 ?_
         refine dD ?_
         refine gF ?_
         refine gT ?_
         refine oN 2 ?_
         refine oK [0, 13, 14, 15, 29] ?_
         refine cT ?_
         refine rK [2] ?_
         refine W.ret ?_
         refine br (br (tr (tr (br (tr ?_)))))
         clear hK4 K4 hK2 K2
         refine er false [] [] ?_
         exact ⟨congrArg I (ratsErr_hit (by omega) hil hm1 (by rw [qe]; (repeat' split) <;> first | rfl | omega) (by decide)).symm, rfl⟩
        ·
         replace F := F.add hle
         refine wD 21 [] [[], [0], [0, 1], [1, 0, 2], [2, 0, 1, 3], [1, 0, 2], [1, 0, 2], [2, 0, 1, 6], [6, 7, 2, 0, 1, 5], [5, 1, 0, 2, 7, 6, 8], [8, 6, 7, 2, 0, 1, 5, 9], [9, 5, 7, 6, 8, 10, 3, 1, 0, 2, 4], [4, 2, 0, 1, 3, 10, 8, 6, 7, 5, 9, 11], [11, 9, 5, 7, 6, 8, 10, 3, 1, 0, 2, 4, 12], [12, 4, 2, 0, 1, 3, 10, 8, 6, 7, 5, 9, 11, 13], [11, 9, 5, 7, 6, 8, 10, 3, 1, 0, 2, 4, 12], [11, 9, 5, 7, 6, 8, 10, 3, 1, 0, 2, 4, 12], [12, 4, 2, 0, 1, 3, 10, 8, 6, 7, 5, 9, 11, 16], [16, 17, 12, 4, 2, 0, 1, 3, 10, 8, 6, 7, 5, 9, 11, 15], [15, 11, 9, 5, 7, 6, 8, 10, 3, 1, 0, 2, 4, 12, 17, 16, 18], [18, 16, 17, 12, 4, 2, 0, 1, 3, 10, 8, 6, 7, 5, 9, 11, 15, 19], [19, 15, 17, 16, 18, 20, 13, 11, 9, 5, 7, 6, 8, 10, 3, 1, 0, 2, 4, 12, 14], [14, 13, 20, 18, 16, 17, 15, 19, 21, 11, 9, 5, 7, 6, 8, 10, 3, 1, 0, 2, 4, 12], [12, 4, 3, 10, 8, 6, 7, 5, 9, 11, 21, 19, 15, 17, 16, 18, 20, 13, 14, 22, 1, 0, 2], [2, 0, 1, 22, 14, 13, 20, 18, 16, 17, 15, 19, 21, 11, 9, 5, 7, 6, 8, 10, 3, 4, 12, 23]] ?_
         refine dB [([], [], []), ([], [true], []), ([], [true, true], [])] 18 3 ?_
         refine dT [35, 36, 37, 38, 39, 40] [true, true, true] [] ?_
         refine dT [35, 36, 37, 38, 39, 40] [true, true, true, true] [] ?_
         refine dT [33, 34, 36, 37] [true, true, true, false, false] [] ?_
         refine dT [33, 34, 35] [true, true, true, false, false, false] [] ?_
         refine dTw [33, 34, 35] [true, true, true, false, false, false, true] [] ?_
         refine dT [33, 34] [true, true, true, false, false, true, true, true] [] ?_
         refine dT [33, 34] [true, true, true, false, false, true, true, true, true] [] ?_
         refine dT [33, 34] [true, true, true, false, false, true, true, true, true, true] [] ?_
         refine dT [] [true, true, true, true, true, true, true, true, true, true, true] [] ?_
         refine dT [] [true, true, true, true, true, true, true, true, true, true, true, true] [] ?_
         refine dT [45, 46, 47, 48, 49, 50] [true, true, true, true, true, true, true, true, true, true, true, true, true] [] ?_
         refine dT [45, 46, 47, 48, 49, 50] [true, true, true, true, true, true, true, true, true, true, true, true, true, true] [] ?_
         refine dT [43, 44, 46, 47] [true, true, true, true, true, true, true, true, true, true, true, true, true, false, false] [] ?_
         refine dT [43, 44, 45] [true, true, true, true, true, true, true, true, true, true, true, true, true, false, false, false] [] ?_
         refine dTw [43, 44, 45] [true, true, true, true, true, true, true, true, true, true, true, true, true, false, false, false, true] [] ?_
         refine dT [43, 44] [true, true, true, true, true, true, true, true, true, true, true, true, true, false, false, true, true, true] [] ?_
         refine dT [43, 44] [true, true, true, true, true, true, true, true, true, true, true, true, true, false, false, true, true, true, true] [] ?_
         refine dT [43, 44] [true, true, true, true, true, true, true, true, true, true, true, true, true, false, false, true, true, true, true, true] [] ?_
         refine dD ?_
         refine gT ?_
         refine gT ?_
         refine oN 2 ?_
         refine oK [0, 13, 14, 15, 29] ?_
         refine it (fun hc11 => ?_) (fun hc11 => ?_)
         ·
          try simp at hc11
          replace F := F.add hc11
          refine rK [2] ?_
          refine W.ret ?_
          refine br (br (tr (tr (br (tr ?_)))))
          clear hK4 K4 hK2 K2
          refine er false [] [] ?_
          exact ⟨congrArg I (ratsErr_hit (by omega) hil hm1 (by rw [qe]; (repeat' split) <;> first | rfl | omega) (by decide)).symm, rfl⟩
         ·
          try simp at hc11
          replace F := F.add hc11
          refine W.skip ?_
          refine hK4 _ ?_
          clear hK4 K4
          refine rEw ?_
          refine ⟨i + 1, lf0, ?_, v0⟩
          ·
           first | (exfalso; omega) | exact ⟨by omega, zero_snoc hm1 (by rw [qe]; (repeat' split) <;> first | rfl | omega)⟩
       ·
        replace F := F.add h0
        refine wD 21 [] [[], [0], [0, 1], [1, 0, 2], [2, 0, 1, 3], [1, 0, 2], [1, 0, 2], [2, 0, 1, 6], [6, 7, 2, 0, 1, 5], [5, 1, 0, 2, 7, 6, 8], [8, 6, 7, 2, 0, 1, 5, 9], [9, 5, 7, 6, 8, 10, 3, 1, 0, 2, 4], [4, 2, 0, 1, 3, 10, 8, 6, 7, 5, 9, 11], [11, 9, 5, 7, 6, 8, 10, 3, 1, 0, 2, 4, 12], [12, 4, 2, 0, 1, 3, 10, 8, 6, 7, 5, 9, 11, 13], [11, 9, 5, 7, 6, 8, 10, 3, 1, 0, 2, 4, 12], [11, 9, 5, 7, 6, 8, 10, 3, 1, 0, 2, 4, 12], [12, 4, 2, 0, 1, 3, 10, 8, 6, 7, 5, 9, 11, 16], [16, 17, 12, 4, 2, 0, 1, 3, 10, 8, 6, 7, 5, 9, 11, 15], [15, 11, 9, 5, 7, 6, 8, 10, 3, 1, 0, 2, 4, 12, 17, 16, 18], [18, 16, 17, 12, 4, 2, 0, 1, 3, 10, 8, 6, 7, 5, 9, 11, 15, 19], [19, 15, 17, 16, 18, 20, 13, 11, 9, 5, 7, 6, 8, 10, 3, 1, 0, 2, 4, 12, 14], [14, 13, 20, 18, 16, 17, 15, 19, 21, 11, 9, 5, 7, 6, 8, 10, 3, 1, 0, 2, 4, 12], [12, 4, 3, 10, 8, 6, 7, 5, 9, 11, 21, 19, 15, 17, 16, 18, 20, 13, 14, 22, 1, 0, 2], [2, 0, 1, 22, 14, 13, 20, 18, 16, 17, 15, 19, 21, 11, 9, 5, 7, 6, 8, 10, 3, 4, 12, 23]] ?_
        refine dB [([], [], []), ([], [true], []), ([], [true, true], [])] 18 3 ?_
        refine dF [some 33, some 34, some 35, some 36, some 37, some 38, some 39, some 40, some 41, some 42] 2 32 true 8 ?_
        refine dF [some 43, some 44, some 45, some 46, some 47, some 48, some 49, some 50] 12 42 false 0 ?_
        refine dD ?_
        refine gF ?_
        refine gF ?_
        refine oN 2 ?_
        refine oK [0, 13, 14, 15, 29] ?_
        refine cF ?_
        refine W.skip ?_
        refine hK4 _ ?_
        clear hK4 K4
        refine rEw ?_
        refine ⟨i + 1, lf0, ?_, v0⟩
        ·
         first | (exfalso; omega) | exact ⟨by omega, zero_snoc hm1 (by rw [qe]; (repeat' split) <;> first | rfl | omega)⟩
    ·
     try simp at hc3
     replace F := F.add hc3
     refine W.exit ?_
     refine hK2 _ ?_
     clear hK3 K3 hK2 K2
     refine rK [2] ?_
     refine W.ret ?_
     refine er false [] [] ?_
     exact ⟨congrArg I (ratsErr_done (by simpa using hc1) (by omega) (by omega) hm1).symm, rfl⟩
set_option maxHeartbeats 4000000 in
theorem Check_ok (c : Cel) : ACalls Tryd.prog 7 [celV c] [] (fun r o => r = I (checkC c) ∧ o = []) := by
 refine ACalls.lenA (xs := [I c.hall.lo, I c.hall.hi, boxesV c.boxes, filsV c.fils, ratsV c.rats]) (l := c.boxes.map B9) (by simp) (by simp) ⟨_, Tryd.func7, by kernel_rfl, by kernel_rfl⟩ fun hl1 => ?_
 simp [maxLen_val] at hl1
 have F := Fx.nil
 refine ent Tryd.func7 Tryd.ntmps7 Tryd.results7 ?_
 refine rK [1] ?_
 refine W.seqk fun K1 hK1 => ?_
 refine W.seqR ?_
 refine oN 2 ?_
 refine oC [] ?_
 refine ct (warmth_ok ⟨_, _⟩) ?_
 refine oN 1 ?_
 refine oK [1, 3] ?_
 refine rK [1, 3, 12] ?_
 refine it (fun hc1 => ?_) (fun hc1 => ?_)
 ·
  try simp at hc1
  replace F := F.add hc1
  refine rK [2] ?_
  refine W.ret ?_
  refine tr ?_
  clear hK1 K1
  refine er false [] [] ?_
  exact ⟨congrArg I (checkC_h hc1).symm, rfl⟩
 ·
  try simp at hc1
  replace F := F.add hc1
  refine W.skip ?_
  refine hK1 _ ?_
  clear hK1 K1
  refine W.seqk fun K2 hK2 => ?_
  refine rK [1, 17] ?_
  refine it (fun hc2 => ?_) (fun hc2 => ?_)
  ·
   try simp at hc2
   replace F := F.add hc2
   refine rK [2] ?_
   refine W.ret ?_
   refine tr ?_
   clear hK2 K2
   refine er false [] [] ?_
   exact ⟨congrArg I (checkC_6 hc1 (by omega)).symm, rfl⟩
  ·
   try simp at hc2
   replace F := F.add hc2
   refine W.skip ?_
   refine hK2 _ ?_
   clear hK2 K2
   refine W.seqk fun K3 hK3 => ?_
   refine rK [1, 19, 20, 21] ?_
   refine W.block ?_
   refine lpa (α := Nat) [1, 19, 20] [5, 26] [] (fun i => [(21, I i)]) (fun i => []) (fun i => i ≤ c.boxes.length ∧ firstNZ boxErr c.boxes = firstNZ boxErr (c.boxes.drop i)) (fun i => c.boxes.length - i) 0 v0 ?_
   ·
    intro i hI0
    simp only [List.cons_append, List.nil_append]
    try dsimp only at hI0
    obtain ⟨hi, hm1⟩ := hI0
    replace F := F.add hi
    refine rK [1, 19, 20, 21, 22] ?_
    refine W.seqk fun K4 hK4 => ?_
    refine it (fun hc3 => ?_) (fun hc3 => ?_)
    ·
     try simp at hc3
     replace F := F.add hc3
     refine W.skip ?_
     refine hK4 _ ?_
     clear hK4 K4
     refine W.seqk fun K5 hK5 => ?_
     refine W.block ?_
     refine rK [1, 5, 19, 20, 21] ?_
     refine W.seqR ?_
     refine oN 1 ?_
     refine oC [] ?_
     refine ct (checkBox_ok ⟨_, ⟨_, _⟩, ⟨_, _⟩, ⟨_, _⟩, ⟨_, _⟩⟩) ?_
     refine oN 1 ?_
     refine oK [1, 6, 19, 20, 21] ?_
     refine rK [1, 6, 19, 20, 21, 28] ?_
     refine it (fun hc4 => ?_) (fun hc4 => ?_)
     ·
      try simp at hc4
      replace F := F.add hc4
      refine rK [2] ?_
      refine W.ret ?_
      refine br (tr (tr (br (tr ?_))))
      clear hK5 K5 hK3 K3
      refine er false [] [] ?_
      exact ⟨congrArg I (checkC_b hc1 (by omega) (by omega) hm1 (by assumption)).symm, rfl⟩
     ·
      try simp at hc4
      replace F := F.add hc4
      refine W.skip ?_
      refine hK5 _ ?_
      clear hK5 K5
      refine rEw ?_
      refine ⟨i + 1, lf0, ?_, v0⟩
      ·
       exact ⟨by omega, by rw [hm1, firstNZ_skip (by omega) (by assumption)]⟩
    ·
     try simp at hc3
     replace F := F.add hc3
     refine W.exit ?_
     refine hK3 _ ?_
     clear hK4 K4 hK3 K3
     refine W.seqk fun K6 hK6 => ?_
     refine W.seqR ?_
     refine oN 1 ?_
     refine oC [] ?_
     refine ct (checkFillings_ok ⟨⟨_, _⟩, _, _, _⟩) ?_
     refine oN 1 ?_
     refine oK [1, 7] ?_
     refine rK [1, 7, 34] ?_
     refine it (fun hc5 => ?_) (fun hc5 => ?_)
     ·
      try simp at hc5
      replace F := F.add hc5
      refine rK [2] ?_
      refine W.ret ?_
      refine tr ?_
      clear hK6 K6
      refine er false [] [] ?_
      exact ⟨congrArg I (by rw [checkC_f hc1 (by omega) (by omega) hm1, if_pos (by assumption)]), rfl⟩
     ·
      try simp at hc5
      replace F := F.add hc5
      refine W.skip ?_
      refine hK6 _ ?_
      clear hK6 K6
      refine W.seqR ?_
      refine oN 2 ?_
      refine oC [] ?_
      refine ct (checkRates_ok _) ?_
      refine oN 1 ?_
      refine oK [2] ?_
      refine W.ret ?_
      refine er false [] [] ?_
      exact ⟨congrArg I (by rw [checkC_f hc1 (by omega) (by omega) hm1, if_neg (fun h => h (by assumption))]), rfl⟩
set_option maxHeartbeats 4000000 in
theorem checkStays_ok (c : Cel) (l : CLot) : ACalls Tryd.prog 37 [celV c, lotV l] [] (fun r o => r = I (lotErr c.boxes.length l) ∧ o = []) := by
 refine ACalls.lenA (xs := [I c.hall.lo, I c.hall.hi, boxesV c.boxes, filsV c.fils, ratsV c.rats]) (l := c.boxes.map B9) (by simp) (by simp) ⟨_, Tryd.func37, by kernel_rfl, by kernel_rfl⟩ fun hl1 => ?_
 simp [maxLen_val] at hl1
 refine ACalls.lenA (xs := [I l.born, I l.keeps, staysV l.stays]) (l := l.stays.map T3) (by simp) (by simp) ⟨_, Tryd.func37, by kernel_rfl, by kernel_rfl⟩ fun hl2 => ?_
 simp [maxLen_val] at hl2
 have F := Fx.nil
 refine ent Tryd.func37 Tryd.ntmps37 Tryd.results37 ?_
 refine rK [2, 3] ?_
 refine W.seqk fun K1 hK1 => ?_
 refine W.block ?_
 refine W.seqk fun K2 hK2 => ?_
 refine W.seqR ?_
 refine oN 2 ?_
 refine oC [] ?_
 refine ct (in_ok _ _ _) ?_
 refine oN 2 ?_
 refine oK [2, 3, 8] ?_
 refine it (fun hc1 => ?_) (fun hc1 => ?_)
 ·
  try simp at hc1
  replace F := F.add hc1
  refine W.skip ?_
  refine hK2 _ ?_
  clear hK2 K2
  refine it (fun hc2 => ?_) (fun hc2 => ?_)
  ·
   try simp at hc2
   replace F := F.add hc2
   refine rK [4] ?_
   refine W.ret ?_
   refine br (tr ?_)
   clear hK1 K1
   refine er false [] [] ?_
   exact ⟨congrArg I (by rw [lotErr, if_pos (by omega)]), rfl⟩
  ·
   try simp at hc2
   replace F := F.add hc2
   refine rK [2, 3, 17] ?_
   refine it (fun hc3 => ?_) (fun hc3 => ?_)
   ·
    try simp at hc3
    replace F := F.add hc3
    refine rK [4] ?_
    refine W.ret ?_
    refine br (tr ?_)
    clear hK1 K1
    refine er false [] [] ?_
    (exfalso; omega)
   ·
    try simp at hc3
    replace F := F.add hc3
    refine W.skip ?_
    refine hK1 _ ?_
    clear hK1 K1
    refine rK [2, 3, 5] ?_
    refine W.seqk fun K3 hK3 => ?_
    refine rK [2, 5, 25, 26, 27] ?_
    refine W.block ?_
    refine lpa (α := Nat × Int) [2, 25, 26] [7, 36, 38, 43, 47] [] (fun x => [(27, I x.1), (5, I x.2)]) (fun x => []) (fun x => x.1 ≤ l.stays.length ∧ staysErr c.boxes.length l.born l.stays = staysErr c.boxes.length x.2 (l.stays.drop x.1)) (fun x => l.stays.length - x.1) (0, l.born) v0 ?_
    ·
     intro ⟨i, fr⟩ hI0
     simp only [List.cons_append, List.nil_append]
     try dsimp only at hI0
     obtain ⟨hi, hm1⟩ := hI0
     replace F := F.add hi
     refine rK [2, 5, 25, 26, 27, 28] ?_
     refine W.seqk fun K4 hK4 => ?_
     refine it (fun hc4 => ?_) (fun hc4 => ?_)
     ·
      try simp at hc4
      replace F := F.add hc4
      refine W.skip ?_
      refine hK4 _ ?_
      clear hK4 K4
      refine W.seqk fun K5 hK5 => ?_
      refine W.block ?_
      have hil : i < l.stays.length := by omega
      have qe := staysErr_get (n := c.boxes.length) (fr := fr) hil
      replace F := F.add hil
      refine rK [2, 5, 7, 25, 26, 27] ?_
      refine W.seqk fun K6 hK6 => ?_
      refine W.block ?_
      refine W.seqR ?_
      refine oNw 6 ?_
      refine oC [] ?_
      refine ct (in_ok _ _ _) ?_
      refine oN 2 ?_
      refine oK [2, 5, 7, 25, 26, 27, 31] ?_
      refine it (fun hc5 => ?_) (fun hc5 => ?_)
      ·
       try simp at hc5
       replace F := F.add hc5
       refine rK [4] ?_
       refine W.ret ?_
       refine br (tr (br (tr (tr (br (tr ?_))))))
       clear hK6 K6 hK5 K5 hK3 K3
       refine er false [] [] ?_
       (exfalso; omega)
      ·
       try simp at hc5
       replace F := F.add hc5
       refine W.seqk fun K7 hK7 => ?_
       refine W.seqR ?_
       refine oN 2 ?_
       refine oC [] ?_
       refine ct (in_ok _ _ _) ?_
       refine oN 2 ?_
       refine oK [2, 5, 7, 25, 26, 27, 40] ?_
       refine it (fun hc6 => ?_) (fun hc6 => ?_)
       ·
        try simp at hc6
        replace F := F.add hc6
        refine W.skip ?_
        refine hK7 _ ?_
        clear hK7 K7
        refine it (fun hc7 => ?_) (fun hc7 => ?_)
        ·
         try simp at hc7
         replace F := F.add hc7
         refine rK [4] ?_
         refine W.ret ?_
         refine br (tr (br (tr (tr (br (tr ?_))))))
         clear hK6 K6 hK5 K5 hK3 K3
         refine er false [] [] ?_
         (exfalso; omega)
        ·
         try simp at hc7
         replace F := F.add hc7
         refine W.seqk fun K8 hK8 => ?_
         refine rK [2, 5, 7, 25, 26, 27, 49] ?_
         refine it (fun hc8 => ?_) (fun hc8 => ?_)
         ·
          try simp at hc8
          replace F := F.add hc8
          refine W.skip ?_
          refine hK8 _ ?_
          clear hK8 K8
          refine cT ?_
          refine rK [4] ?_
          refine W.ret ?_
          refine br (tr (br (tr (tr (br (tr ?_))))))
          clear hK6 K6 hK5 K5 hK3 K3
          refine er false [] [] ?_
          (exfalso; omega)
         ·
          try simp at hc8
          replace F := F.add hc8
          refine rE ?_
          refine hK8 _ ?_
          clear hK8 K8
          refine it (fun hc10 => ?_) (fun hc10 => ?_)
          ·
           try simp at hc10
           replace F := F.add hc10
           refine rK [4] ?_
           refine W.ret ?_
           refine br (tr (br (tr (tr (br (tr ?_))))))
           clear hK6 K6 hK5 K5 hK3 K3
           refine er false [] [] ?_
           (exfalso; omega)
          ·
           try simp at hc10
           replace F := F.add hc10
           refine W.skip ?_
           refine hK6 _ ?_
           clear hK6 K6
           refine rE ?_
           refine hK5 _ ?_
           clear hK5 K5
           refine rEw ?_
           refine ⟨(i + 1, l.stays[i].til), lf0, ?_, v0⟩
           ·
            exact ⟨by omega, by rw [hm1, qe, if_neg (by omega), if_neg (by omega), if_neg (by omega)]⟩
       ·
        try simp at hc6
        replace F := F.add hc6
        refine W.region ?_
        refine oN 2 ?_
        refine oC [] ?_
        refine ct (in_ok _ _ _) ?_
        refine oN 2 ?_
        refine WOps.endK ?_
        refine hK7 _ ?_
        clear hK7 K7
        refine it (fun hc11 => ?_) (fun hc11 => ?_)
        ·
         try simp at hc11
         replace F := F.add hc11
         refine rK [4] ?_
         refine W.ret ?_
         refine br (tr (br (tr (tr (br (tr ?_))))))
         clear hK6 K6 hK5 K5 hK3 K3
         refine er false [] [] ?_
         (exfalso; omega)
        ·
         try simp at hc11
         replace F := F.add hc11
         refine W.seqk fun K9 hK9 => ?_
         refine rK [2, 5, 7, 25, 26, 27, 49] ?_
         refine it (fun hc12 => ?_) (fun hc12 => ?_)
         ·
          try simp at hc12
          replace F := F.add hc12
          refine W.skip ?_
          refine hK9 _ ?_
          clear hK9 K9
          refine cT ?_
          refine rK [4] ?_
          refine W.ret ?_
          refine br (tr (br (tr (tr (br (tr ?_))))))
          clear hK6 K6 hK5 K5 hK3 K3
          refine er false [] [] ?_
          (exfalso; omega)
         ·
          try simp at hc12
          replace F := F.add hc12
          refine rE ?_
          refine hK9 _ ?_
          clear hK9 K9
          refine it (fun hc14 => ?_) (fun hc14 => ?_)
          ·
           try simp at hc14
           replace F := F.add hc14
           refine rK [4] ?_
           refine W.ret ?_
           refine br (tr (br (tr (tr (br (tr ?_))))))
           clear hK6 K6 hK5 K5 hK3 K3
           refine er false [] [] ?_
           (exfalso; omega)
          ·
           try simp at hc14
           replace F := F.add hc14
           refine W.skip ?_
           refine hK6 _ ?_
           clear hK6 K6
           refine rE ?_
           refine hK5 _ ?_
           clear hK5 K5
           refine rEw ?_
           refine ⟨(i + 1, l.stays[i].til), lf0, ?_, v0⟩
           ·
            exact ⟨by omega, by rw [hm1, qe, if_neg (by omega), if_neg (by omega), if_neg (by omega)]⟩
     ·
      try simp at hc4
      replace F := F.add hc4
      refine W.exit ?_
      refine hK3 _ ?_
      clear hK4 K4 hK3 K3
      refine rK [4] ?_
      refine W.ret ?_
      refine er false [] [] ?_
      (exfalso; omega)
 ·
  try simp at hc1
  replace F := F.add hc1
  refine W.region ?_
  refine oN 2 ?_
  refine oC [] ?_
  refine ct (in_ok _ _ _) ?_
  refine oN 2 ?_
  refine WOps.endK ?_
  refine hK2 _ ?_
  clear hK2 K2
  refine it (fun hc15 => ?_) (fun hc15 => ?_)
  ·
   try simp at hc15
   replace F := F.add hc15
   refine rK [4] ?_
   refine W.ret ?_
   refine br (tr ?_)
   clear hK1 K1
   refine er false [] [] ?_
   exact ⟨congrArg I (by rw [lotErr, if_pos (by omega)]), rfl⟩
  ·
   try simp at hc15
   replace F := F.add hc15
   refine rK [2, 3, 17] ?_
   refine it (fun hc16 => ?_) (fun hc16 => ?_)
   ·
    try simp at hc16
    replace F := F.add hc16
    refine rK [4] ?_
    refine W.ret ?_
    refine br (tr ?_)
    clear hK1 K1
    refine er false [] [] ?_
    exact ⟨congrArg I (by rw [lotErr, if_neg (by omega), if_pos (by omega)]), rfl⟩
   ·
    try simp at hc16
    replace F := F.add hc16
    refine W.skip ?_
    refine hK1 _ ?_
    clear hK1 K1
    refine rK [2, 3, 5] ?_
    refine W.seqk fun K10 hK10 => ?_
    refine rK [2, 5, 25, 26, 27] ?_
    refine W.block ?_
    refine lpa (α := Nat × Int) [2, 25, 26] [7, 36, 38, 43, 47] [] (fun x => [(27, I x.1), (5, I x.2)]) (fun x => []) (fun x => x.1 ≤ l.stays.length ∧ staysErr c.boxes.length l.born l.stays = staysErr c.boxes.length x.2 (l.stays.drop x.1)) (fun x => l.stays.length - x.1) (0, l.born) v0 ?_
    ·
     intro ⟨i, fr⟩ hI0
     simp only [List.cons_append, List.nil_append]
     try dsimp only at hI0
     obtain ⟨hi, hm1⟩ := hI0
     replace F := F.add hi
     refine rK [2, 5, 25, 26, 27, 28] ?_
     refine W.seqk fun K11 hK11 => ?_
     refine it (fun hc17 => ?_) (fun hc17 => ?_)
     ·
      try simp at hc17
      replace F := F.add hc17
      refine W.skip ?_
      refine hK11 _ ?_
      clear hK11 K11
      refine W.seqk fun K12 hK12 => ?_
      refine W.block ?_
      have hil : i < l.stays.length := by omega
      have qe := staysErr_get (n := c.boxes.length) (fr := fr) hil
      replace F := F.add hil
      refine rK [2, 5, 7, 25, 26, 27] ?_
      refine W.seqk fun K13 hK13 => ?_
      refine W.block ?_
      refine W.seqR ?_
      refine oNw 6 ?_
      refine oC [] ?_
      refine ct (in_ok _ _ _) ?_
      refine oN 2 ?_
      refine oK [2, 5, 7, 25, 26, 27, 31] ?_
      refine it (fun hc18 => ?_) (fun hc18 => ?_)
      ·
       try simp at hc18
       replace F := F.add hc18
       refine rK [4] ?_
       refine W.ret ?_
       refine br (tr (br (tr (tr (br (tr ?_))))))
       clear hK13 K13 hK12 K12 hK10 K10
       refine er false [] [] ?_
       exact ⟨congrArg I (by rw [lotErr, if_neg (by omega), if_neg (by omega), hm1, qe]; (repeat' split) <;> first | rfl | omega), rfl⟩
      ·
       try simp at hc18
       replace F := F.add hc18
       refine W.seqk fun K14 hK14 => ?_
       refine W.seqR ?_
       refine oN 2 ?_
       refine oC [] ?_
       refine ct (in_ok _ _ _) ?_
       refine oN 2 ?_
       refine oK [2, 5, 7, 25, 26, 27, 40] ?_
       refine it (fun hc19 => ?_) (fun hc19 => ?_)
       ·
        try simp at hc19
        replace F := F.add hc19
        refine W.skip ?_
        refine hK14 _ ?_
        clear hK14 K14
        refine it (fun hc20 => ?_) (fun hc20 => ?_)
        ·
         try simp at hc20
         replace F := F.add hc20
         refine rK [4] ?_
         refine W.ret ?_
         refine br (tr (br (tr (tr (br (tr ?_))))))
         clear hK13 K13 hK12 K12 hK10 K10
         refine er false [] [] ?_
         exact ⟨congrArg I (by rw [lotErr, if_neg (by omega), if_neg (by omega), hm1, qe]; (repeat' split) <;> first | rfl | omega), rfl⟩
        ·
         try simp at hc20
         replace F := F.add hc20
         refine W.seqk fun K15 hK15 => ?_
         refine rK [2, 5, 7, 25, 26, 27, 49] ?_
         refine it (fun hc21 => ?_) (fun hc21 => ?_)
         ·
          try simp at hc21
          replace F := F.add hc21
          refine W.skip ?_
          refine hK15 _ ?_
          clear hK15 K15
          refine cT ?_
          refine rK [4] ?_
          refine W.ret ?_
          refine br (tr (br (tr (tr (br (tr ?_))))))
          clear hK13 K13 hK12 K12 hK10 K10
          refine er false [] [] ?_
          (exfalso; omega)
         ·
          try simp at hc21
          replace F := F.add hc21
          refine rE ?_
          refine hK15 _ ?_
          clear hK15 K15
          refine it (fun hc23 => ?_) (fun hc23 => ?_)
          ·
           try simp at hc23
           replace F := F.add hc23
           refine rK [4] ?_
           refine W.ret ?_
           refine br (tr (br (tr (tr (br (tr ?_))))))
           clear hK13 K13 hK12 K12 hK10 K10
           refine er false [] [] ?_
           (exfalso; omega)
          ·
           try simp at hc23
           replace F := F.add hc23
           refine W.skip ?_
           refine hK13 _ ?_
           clear hK13 K13
           refine rE ?_
           refine hK12 _ ?_
           clear hK12 K12
           refine rEw ?_
           refine ⟨(i + 1, l.stays[i].til), lf0, ?_, v0⟩
           ·
            exact ⟨by omega, by rw [hm1, qe, if_neg (by omega), if_neg (by omega), if_neg (by omega)]⟩
       ·
        try simp at hc19
        replace F := F.add hc19
        refine W.region ?_
        refine oN 2 ?_
        refine oC [] ?_
        refine ct (in_ok _ _ _) ?_
        refine oN 2 ?_
        refine WOps.endK ?_
        refine hK14 _ ?_
        clear hK14 K14
        refine it (fun hc24 => ?_) (fun hc24 => ?_)
        ·
         try simp at hc24
         replace F := F.add hc24
         refine rK [4] ?_
         refine W.ret ?_
         refine br (tr (br (tr (tr (br (tr ?_))))))
         clear hK13 K13 hK12 K12 hK10 K10
         refine er false [] [] ?_
         exact ⟨congrArg I (by rw [lotErr, if_neg (by omega), if_neg (by omega), hm1, qe]; (repeat' split) <;> first | rfl | omega), rfl⟩
        ·
         try simp at hc24
         replace F := F.add hc24
         refine W.seqk fun K16 hK16 => ?_
         refine rK [2, 5, 7, 25, 26, 27, 49] ?_
         refine it (fun hc25 => ?_) (fun hc25 => ?_)
         ·
          try simp at hc25
          replace F := F.add hc25
          refine W.skip ?_
          refine hK16 _ ?_
          clear hK16 K16
          refine cT ?_
          refine rK [4] ?_
          refine W.ret ?_
          refine br (tr (br (tr (tr (br (tr ?_))))))
          clear hK13 K13 hK12 K12 hK10 K10
          refine er false [] [] ?_
          exact ⟨congrArg I (by rw [lotErr, if_neg (by omega), if_neg (by omega), hm1, qe]; (repeat' split) <;> first | rfl | omega), rfl⟩
         ·
          try simp at hc25
          replace F := F.add hc25
          refine rE ?_
          refine hK16 _ ?_
          clear hK16 K16
          refine it (fun hc27 => ?_) (fun hc27 => ?_)
          ·
           try simp at hc27
           replace F := F.add hc27
           refine rK [4] ?_
           refine W.ret ?_
           refine br (tr (br (tr (tr (br (tr ?_))))))
           clear hK13 K13 hK12 K12 hK10 K10
           refine er false [] [] ?_
           exact ⟨congrArg I (by rw [lotErr, if_neg (by omega), if_neg (by omega), hm1, qe]; (repeat' split) <;> first | rfl | omega), rfl⟩
          ·
           try simp at hc27
           replace F := F.add hc27
           refine W.skip ?_
           refine hK13 _ ?_
           clear hK13 K13
           refine rE ?_
           refine hK12 _ ?_
           clear hK12 K12
           refine rEw ?_
           refine ⟨(i + 1, l.stays[i].til), lf0, ?_, v0⟩
           ·
            exact ⟨by omega, by rw [hm1, qe, if_neg (by omega), if_neg (by omega), if_neg (by omega)]⟩
     ·
      try simp at hc17
      replace F := F.add hc17
      refine W.exit ?_
      refine hK10 _ ?_
      clear hK11 K11 hK10 K10
      refine rK [4] ?_
      refine W.ret ?_
      refine er false [] [] ?_
      exact ⟨congrArg I (by rw [lotErr, if_neg (by omega), if_neg (by omega), hm1, staysErr_done (by omega)]), rfl⟩
set_option maxHeartbeats 4000000 in
theorem CheckLot_ok (c : Cel) (l : CLot) : ACalls Tryd.prog 24 [celV c, lotV l] [] (fun r o => r = I (checkLotC c l) ∧ o = []) := by
 have F := Fx.nil
 refine ent Tryd.func24 Tryd.ntmps24 Tryd.results24 ?_
 refine rK [2, 3] ?_
 refine W.seqk fun K1 hK1 => ?_
 refine W.seqR ?_
 refine oN 1 ?_
 refine oC [] ?_
 refine ct (Check_ok ⟨⟨_, _⟩, _, _, _⟩) ?_
 refine oN 1 ?_
 refine oK [2, 3, 5] ?_
 refine rK [2, 3, 5, 9] ?_
 refine it (fun hc1 => ?_) (fun hc1 => ?_)
 ·
  try simp at hc1
  replace F := F.add hc1
  refine rK [4] ?_
  refine W.ret ?_
  refine tr ?_
  clear hK1 K1
  refine er false [] [] ?_
  exact ⟨congrArg I (by rw [checkLotC, if_pos hc1]), rfl⟩
 ·
  try simp at hc1
  replace F := F.add hc1
  refine W.skip ?_
  refine hK1 _ ?_
  clear hK1 K1
  refine W.seqR ?_
  refine oN 2 ?_
  refine oC [] ?_
  refine ct (checkStays_ok ⟨⟨_, _⟩, _, _, _⟩ ⟨_, _, _⟩) ?_
  refine oN 1 ?_
  refine oK [4] ?_
  refine W.ret ?_
  refine er false [] [] ?_
  exact ⟨congrArg I (by rw [checkLotC, if_neg (fun h => h hc1)]), rfl⟩
end Go.Sim
