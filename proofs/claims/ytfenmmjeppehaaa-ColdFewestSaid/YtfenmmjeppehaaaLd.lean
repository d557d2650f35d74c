/- Ice in a box, by the reference. -/
import Derived.Test.YtfenmmjeppehaaaLb
import Derived.Test.YtfenmmjeppehaaaLc
import Derived.Test.YtfenmmjeppehaaaQc
namespace Go.Sim
open Go.Proofs
set_option maxRecDepth 100000
set_option linter.unusedSimpArgs false
set_option linter.unusedVariables false
attribute [-simp] List.map_set List.map_take List.map_drop
def same240 (n : Int) : List Int := List.replicate 240 n
theorem same240_len (n : Int) : (same240 n).length = 240 := by simp [same240]
theorem same240_mem {n y : Int} (h : y ∈ same240 n) : y = n := (List.mem_replicate.1 h).2
theorem same240_nth {n : Int} {k : Nat} (h : k < 240) : nth (same240 n) k = n := by
  rw [nth_get (by rw [same240_len]; exact h)]; exact same240_mem (List.getElem_mem _)
set_option maxHeartbeats 4000000 in
theorem same_ok (n : Int) : ACalls Try.prog 107 [I n] [] (fun r o => r = .own 20000 0 240 ∧ o = [(20000, .row true 3 1 ((same240 n).map I))]) := by
 have F := Fx.nil
 refine ent Try.func107 Try.ntmps107 Try.results107 ?_
 refine rK [0] ?_
 refine rK [0, 3] ?_
 refine W.seqk fun K1 hK1 => ?_
 refine rK [0, 3, 4] ?_
 refine W.block ?_
 refine lpa (α := Nat × List Int) [0, 3] [8] [40] (fun x => [(4, I x.1)]) (fun x => [(40, .row true 3 1 (x.2.map I))]) (fun x => x.1 ≤ 240 ∧ x.2.length = 240 ∧ x.2.take x.1 = List.replicate x.1 n) (fun x => 240 - x.1) (0, List.replicate 240 0) ?_ ?_
 ·
  exact ⟨Nat.zero_le _, rfl, rfl⟩
 ·
  intro ⟨i, z⟩ hI0
  simp only [List.cons_append, List.nil_append]
  try dsimp only at hI0
  obtain ⟨hi, hzl, hzt⟩ := hI0
  replace F := F.add hi |>.add hzl
  refine W.seqk fun K2 hK2 => ?_
  refine rK [0, 3, 4, 9] ?_
  refine it (fun hc1 => ?_) (fun hc1 => ?_)
  ·
   try simp at hc1
   replace F := F.add hc1
   refine W.skip ?_
   refine hK2 _ ?_
   clear hK2 K2
   refine W.seqk fun K3 hK3 => ?_
   refine W.block ?_
   have hi4 : i < 240 := by omega
   replace F := F.add hi4
   refine rE ?_
   refine hK3 _ ?_
   clear hK3 K3
   refine rEw ?_
   refine ⟨(i + 1, z.set i n), lf0, ?_, v0⟩
   ·
    refine ⟨by show i + 1 ≤ 240; omega, by simpa using hzl, ?_⟩
    show (z.set i n).take (i + 1) = List.replicate (i + 1) n
    rw [List.take_succ_eq_append_getElem (by rw [List.length_set, hzl]; omega), List.take_set, List.set_eq_of_length_le (by rw [List.length_take]; omega), hzt, List.getElem_set_self, List.replicate_succ']
  ·
   try simp at hc1
   replace F := F.add hc1
   refine W.exit ?_
   refine hK1 _ ?_
   clear hK2 K2 hK1 K1
   refine rK [2] ?_
   refine W.ret ?_
   refine er false [] [(20000, 40)] ?_
   have e : z = same240 n := by
     have q : i = 240 := by omega
     rw [q, List.take_of_length_le (by omega)] at hzt
     exact hzt
   rw [e]; exact ⟨rfl, rfl⟩
theorem same_imm (n : Int) : ACalls Try.prog 107 [I n] [] (fun r o => r = ints (same240 n) ∧ o = []) := ACalls.frzs [20000] (same_ok n) (by simp; rfl) (by simp; rfl)
set_option maxHeartbeats 4000000 in
theorem Fall_ok (c : Cel) (hv : IceC c) (b : Nat) (hb : b < c.boxes.length) (x0 : Int) (hx : 0 ≤ x0 ∧ x0 ≤ 100000) (m : List Int) (hmm : ∀ y ∈ m, 0 ≤ y ∧ y ≤ 100000) (h : Nat) (hh : h < m.length) (hm9 : m.length ≤ 1000) : ACalls Try.prog 53 [celV c, I b, I x0, ints m, I h] [] (fun r o => r = I (fallN (nth c.boxes b).room b c.fils (fun k => nth m k) x0 h) ∧ o = []) := by
 refine ACalls.lenA (xs := [I c.hall.lo, I c.hall.hi, boxesV c.boxes, filsV c.fils, ratsV c.rats]) (l := c.boxes.map B9) (by simp) (by simp) ⟨_, Try.func53, by kernel_rfl, by kernel_rfl⟩ fun hl1 => ?_
 simp [maxLen_val] at hl1
 have F := Fx.nil
 replace F := F.add hb |>.add hx |>.add hh |>.add hm9
 refine ent Try.func53 Try.ntmps53 Try.results53 ?_
 obtain ⟨B, qB⟩ : ∃ B, B = nth c.boxes b := ⟨_, rfl⟩
 have hB : c.boxes[b] = B := by rw [qB, nth_get hb]
 have qk : BoxOk B := by rw [← hB]; exact hv.bx _ (List.getElem_mem hb)
 have qr := qk.room
 have qn := hv.n
 replace F := F.add hB
 refine rK [1, 2, 3, 4, 5] ?_
 refine rK [1, 2, 3, 4, 5, 11] ?_
 refine rK [1, 2, 3, 4, 5, 11, 12] ?_
 refine W.block ?_
 refine lpa (α := Nat × Int) [1, 3, 4, 5, 11] [14, 26, 50, 61] [] (fun x => [(12, I x.1), (2, I x.2)]) (fun x => []) (fun x => x.1 ≤ h ∧ x.2 = preL B.room b c.fils (fun k => nth m k) x0 x.1 ∧ 0 ≤ x.2 ∧ x.2 ≤ 100000) (fun x => h - x.1) (0, x0) ?_ ?_
 ·
  exact ⟨Nat.zero_le _, rfl, hx⟩
 ·
  intro ⟨k, u0⟩ hI0
  simp only [List.cons_append, List.nil_append]
  try dsimp only at hI0
  obtain ⟨hkh, qpre, hu0, hu1⟩ := hI0
  replace F := F.add hkh |>.add hu0 |>.add hu1
  refine W.seqk fun K1 hK1 => ?_
  refine W.block ?_
  refine W.seqk fun K2 hK2 => ?_
  refine rK [1, 2, 3, 4, 5, 11, 12, 13] ?_
  refine W.block ?_
  refine lpa (α := Nat × Int) [1, 3, 4, 5, 11, 12] [14, 26, 50] [] (fun x => [(13, I x.1), (2, I x.2)]) (fun x => []) (fun x => x.1 ≤ c.fils.length ∧ x.2 = putAll B.room b k (c.fils.take x.1) u0 ∧ 0 ≤ x.2 ∧ x.2 ≤ 100000) (fun x => c.fils.length - x.1) (0, u0) ?_ ?_
  ·
   exact ⟨Nat.zero_le _, rfl, hu0, hu1⟩
  ·
   intro ⟨i, u⟩ hI1
   simp only [List.cons_append, List.nil_append]
   try dsimp only at hI1
   obtain ⟨hi, qpa, hv0, hv1⟩ := hI1
   replace F := F.add hi |>.add hv0 |>.add hv1
   refine W.seqk fun K3 hK3 => ?_
   refine rK [1, 2, 3, 4, 5, 11, 12, 13, 27] ?_
   refine it (fun hc1 => ?_) (fun hc1 => ?_)
   ·
    try simp at hc1
    replace F := F.add hc1
    refine W.skip ?_
    refine hK3 _ ?_
    clear hK3 K3
    refine W.seqk fun K4 hK4 => ?_
    refine W.block ?_
    have hil : i < c.fils.length := by omega
    have qg := hv.gr _ (List.getElem_mem hil)
    replace F := F.add hil
    refine rK [1, 2, 3, 4, 5, 11, 12, 13, 14] ?_
    refine W.seqR ?_
    refine oN 5 ?_
    refine gX ?_
    refine gX ?_
    refine gX ?_
    refine gX ?_
    refine oN 1 ?_
    refine oK [1, 2, 3, 4, 5, 11, 12, 13, 14, 44] ?_
    refine it (fun hc2 => ?_) (fun hc2 => ?_)
    ·
     try simp at hc2
     replace F := F.add hc2
     refine rEw ?_
     refine hK4 _ ?_
     clear hK4 K4
     refine rEw ?_
     refine ⟨(i + 1, min B.room (u + c.fils[i].grams)), lf0, ?_, v0⟩
     ·
      refine ⟨by show i + 1 ≤ _; omega, ?_, by show 0 ≤ min B.room (u + c.fils[i].grams); omega, by show min B.room (u + c.fils[i].grams) ≤ 100000; omega⟩
      show _ = putAll _ _ _ (c.fils.take (i + 1)) _
      rw [putAll_snoc hil, if_pos (by simp_all), ← qpa]
    ·
     try simp at hc2
     replace F := F.add hc2
     refine W.skip ?_
     refine hK4 _ ?_
     clear hK4 K4
     refine rEw ?_
     refine ⟨(i + 1, u), lf0, ?_, v0⟩
     ·
      refine ⟨by show i + 1 ≤ _; omega, ?_, hv0, hv1⟩
      show _ = putAll _ _ _ (c.fils.take (i + 1)) _
      rw [putAll_snoc hil, if_neg (by simp_all), ← qpa]
   ·
    try simp at hc1
    replace F := F.add hc1
    refine W.exit ?_
    refine hK2 _ ?_
    clear hK3 K3 hK2 K2
    refine W.seqk fun K5 hK5 => ?_
    have qe : c.fils.take i = c.fils := List.take_of_length_le (by omega)
    have quf : u = fallN B.room b c.fils (fun k => nth m k) x0 k := by rw [fallN_pre, ← qpre, qpa, qe]
    refine rK [1, 2, 3, 4, 5, 11, 12, 53] ?_
    refine it (fun hc3 => ?_) (fun hc3 => ?_)
    ·
     try simp at hc3
     replace F := F.add hc3
     refine rK [10] ?_
     refine W.ret ?_
     refine tr (br (tr (tr (br ?_))))
     clear hK5 K5 hK1 K1
     refine er false [] [] ?_
     have e : k = h := by omega
     subst e
     exact ⟨by rw [quf, qB], rfl⟩
    ·
     try simp at hc3
     replace F := F.add hc3
     refine W.skip ?_
     refine hK5 _ ?_
     clear hK5 K5
     have hkm : k < m.length := by omega
     have qmk := hmm _ (List.getElem_mem hkm)
     replace F := F.add hkm
     refine rEw ?_
     refine hK1 _ ?_
     clear hK1 K1
     refine rEw ?_
     refine ⟨(k + 1, max 0 (u - m[k])), lf0, ?_, v0⟩
     ·
      refine ⟨by show k + 1 ≤ h; omega, ?_, by show 0 ≤ max 0 (u - m[k]); omega, by show max 0 (u - m[k]) ≤ 100000; omega⟩
      show _ = max 0 (fallN B.room b c.fils (fun k => nth m k) x0 k - nth m k)
      rw [← quf, nth_get hkm]
set_option maxHeartbeats 4000000 in
theorem rice_ok (c : Cel) (hv : ValidC c) (b : Nat) (hb : b < c.boxes.length) (h : Nat) (hh : h < 240) : ACalls Try.prog 83 [celV c, I b, I h] [] (fun r o => r = spnV (iceS c b h) ∧ o = []) := by
 refine ACalls.lenA (xs := [I c.hall.lo, I c.hall.hi, boxesV c.boxes, filsV c.fils, ratsV c.rats]) (l := c.boxes.map B9) (by simp) (by simp) ⟨_, Try.func83, by kernel_rfl, by kernel_rfl⟩ fun hl1 => ?_
 simp [maxLen_val] at hl1
 have F := Fx.nil
 replace F := F.add hb |>.add hh
 refine ent Try.func83 Try.ntmps83 Try.results83 ?_
 have qk : BoxOk c.boxes[b] := hv.bx _ (List.getElem_mem hb)
 have qi := qk.ice
 have qm := qk.melt
 have qr := qk.room
 refine rK [1, 2, 3, 6] ?_
 refine rK [1, 2, 3, 6, 7] ?_
 refine wD 21 [] [[], [], [], [2], [2, 3], [], [5], [5, 6], [6, 5, 7], [], [9, 7, 5, 6, 8, 3, 2, 4, 1, 0], [], [], [], [13], [13, 14], [], [16], [16, 17], [0, 1, 4, 2, 3, 8, 6, 5, 7, 9, 10, 17, 16, 18], [], [20, 18, 16, 17, 10, 9, 7, 5, 6, 8, 3, 2, 4, 1, 0, 19, 14, 13, 15, 12, 11], [11, 12, 15, 13, 14, 19, 17, 16, 18, 20, 21, 0, 1, 4, 2, 3, 8, 6, 5, 7, 9, 10], [10, 9, 7, 5, 6, 8, 3, 2, 4, 1, 0, 21, 20, 18, 16, 17, 19, 14, 13, 15, 12, 11, 22]] ?_
 refine dB [([14, 15, 16, 17, 18, 19, 20, 21, 22, 24, 25, 26, 27, 28, 29, 30, 31, 33], [], []), ([13, 15, 16, 17, 18, 19, 20, 21, 22, 24, 25, 26, 27, 28, 29, 30, 31, 33], [false], []), ([13, 14, 18, 19, 20, 21, 22, 24, 25, 26, 27, 28, 29, 30, 31, 33], [false, false], []), ([13, 14, 18, 19, 20, 21, 22, 24, 25, 26, 27, 28, 29, 30, 31, 33], [false, false, true], []), ([13, 14, 18, 19, 20, 21, 22, 24, 25, 26, 27, 28, 29, 30, 31, 33], [false, false, true, true], []), ([13, 14, 15, 16, 17, 22, 24, 25, 26, 27, 28, 29, 30, 31, 33], [false, false, false, false, false], []), ([13, 14, 15, 16, 17, 22, 24, 25, 26, 27, 28, 29, 30, 31, 33], [false, false, false, false, false, true], []), ([13, 14, 15, 16, 17, 22, 24, 25, 26, 27, 28, 29, 30, 31, 33], [false, false, false, false, false, true, true], [])] 13 8 ?_
 refine dC [13, 14, 15, 16, 17, 22, 24, 25, 26, 27, 28, 29, 30, 31, 33] [false, false, false, false, false, true, true, true] [] [] ?_
 refine cd (same_imm _) ?_
 refine dB [([13, 14, 15, 16, 17, 18, 19, 20, 21, 24, 25, 26, 27, 28, 29, 30, 31, 33], [false, false, false, false, false, false, false, false, false], [])] 11 10 ?_
 refine dC [24, 25, 26, 27, 28, 29, 30, 31, 33] [true, true, true, true, true, true, true, true, true, true] [] [] ?_
 refine cd (Fall_ok c hv.iceC b hb c.boxes[b].ice.lo (by omega) (same240 c.boxes[b].melt.hi) (fun y hy => by rw [same240_mem hy]; omega) h (by rw [same240_len]; exact hh) (by rw [same240_len]; omega)) ?_
 refine dB [([13, 14, 15, 16, 17, 18, 19, 20, 21, 22, 23, 25, 26, 27, 28, 29, 30, 31, 32, 33], [false, false, false, false, false, false, false, false, false, false, false], []), ([13, 14, 15, 16, 17, 18, 19, 20, 21, 22, 23, 24, 26, 27, 28, 29, 30, 31, 32, 33], [false, false, false, false, false, false, false, false, false, false, false, false], []), ([13, 14, 15, 16, 17, 18, 19, 20, 21, 22, 23, 24, 25, 29, 30, 31, 32, 33], [false, false, false, false, false, false, false, false, false, false, false, false, false], []), ([13, 14, 15, 16, 17, 18, 19, 20, 21, 22, 23, 24, 25, 29, 30, 31, 32, 33], [false, false, false, false, false, false, false, false, false, false, false, false, false, true], []), ([13, 14, 15, 16, 17, 18, 19, 20, 21, 22, 23, 24, 25, 29, 30, 31, 32, 33], [false, false, false, false, false, false, false, false, false, false, false, false, false, true, true], []), ([13, 14, 15, 16, 17, 18, 19, 20, 21, 22, 23, 24, 25, 26, 27, 28, 33], [false, false, false, false, false, false, false, false, false, false, false, false, false, false, false, false], []), ([13, 14, 15, 16, 17, 18, 19, 20, 21, 22, 23, 24, 25, 26, 27, 28, 33], [false, false, false, false, false, false, false, false, false, false, false, false, false, false, false, false, true], []), ([13, 14, 15, 16, 17, 18, 19, 20, 21, 22, 23, 24, 25, 26, 27, 28, 33], [false, false, false, false, false, false, false, false, false, false, false, false, false, false, false, false, true, true], [])] 2 19 ?_
 refine dC [24, 25, 26, 27, 28, 33] [true, true, true, true, true, true, true, true, true, true, true, false, false, false, false, false, true, true, true] [] [] ?_
 refine cd (same_imm _) ?_
 refine dB [([13, 14, 15, 16, 17, 18, 19, 20, 21, 22, 23, 24, 25, 26, 27, 28, 29, 30, 31, 32], [false, false, false, false, false, false, false, false, false, false, false, false, false, false, false, false, false, false, false, false], [])] 0 21 ?_
 refine dD ?_
 refine oC [] ?_
 refine ct (Fall_ok c hv.iceC b hb c.boxes[b].ice.hi (by omega) (same240 c.boxes[b].melt.lo) (fun y hy => by rw [same240_mem hy]; omega) h (by rw [same240_len]; exact hh) (by rw [same240_len]; omega)) ?_
 refine oN 2 ?_
 refine oK [6] ?_
 refine W.ret ?_
 refine er false [] [] ?_
 have e1 : fallN (nth c.boxes b).room b c.fils (fun k => nth (same240 c.boxes[b].melt.hi) k) c.boxes[b].ice.lo h = iceLo c b h := by
   rw [iceLo, nth_get hb]; exact fallN_congr fun k hk => same240_nth (by omega)
 have e2 : fallN (nth c.boxes b).room b c.fils (fun k => nth (same240 c.boxes[b].melt.lo) k) c.boxes[b].ice.hi h = iceHi c b h := by
   rw [iceHi, nth_get hb]; exact fallN_congr fun k hk => same240_nth (by omega)
 rw [e1, e2]
 exact ⟨rfl, rfl⟩
set_option maxHeartbeats 4000000 in
theorem asked_ok (c : Cel) (b h : Int) : ACalls Try.prog 82 [celV c, I b, I h] [] (fun r o => r = I (atE c b h) ∧ o = []) := by
 refine ACalls.lenA (xs := [I c.hall.lo, I c.hall.hi, boxesV c.boxes, filsV c.fils, ratsV c.rats]) (l := c.boxes.map B9) (by simp) (by simp) ⟨_, Try.func82, by kernel_rfl, by kernel_rfl⟩ fun hl1 => ?_
 simp [maxLen_val] at hl1
 have F := Fx.nil
 refine ent Try.func82 Try.ntmps82 Try.results82 ?_
 refine rK [1, 2, 3] ?_
 refine W.seqk fun K1 hK1 => ?_
 refine W.seqR ?_
 refine oN 1 ?_
 refine oC [] ?_
 refine ct (rCheck_ok ⟨⟨_, _⟩, _, _, _⟩) ?_
 refine oN 1 ?_
 refine oK [1, 2, 3, 7] ?_
 refine rK [1, 2, 3, 7, 11] ?_
 refine it (fun hc1 => ?_) (fun hc1 => ?_)
 ·
  try simp at hc1
  replace F := F.add hc1
  refine rK [6] ?_
  refine W.ret ?_
  refine tr ?_
  clear hK1 K1
  refine er false [] [] ?_
  (try simp only [inB_t, inB_f] at *)
  first
    | exact ⟨by rw [atE, if_pos (by assumption)], by trivial⟩
    | exact ⟨by rw [atE, if_neg (fun h => h (by assumption)), if_pos (by omega)], by trivial⟩
    | exact ⟨by rw [atE, if_neg (fun h => h (by assumption)), if_neg (by omega), if_pos (by omega)], by trivial⟩
    | exact ⟨by rw [atE, if_neg (fun h => h (by assumption)), if_neg (by omega), if_neg (by omega)], by trivial⟩
 ·
  try simp at hc1
  replace F := F.add hc1
  refine W.skip ?_
  refine hK1 _ ?_
  clear hK1 K1
  refine W.seqk fun K2 hK2 => ?_
  refine W.seqR ?_
  refine oNw 5 ?_
  refine oC [] ?_
  refine ct (within_ok _ _ _) ?_
  refine oN 1 ?_
  refine oK [2, 19] ?_
  refine it (fun hc2 => ?_) (fun hc2 => ?_)
  ·
   try simp at hc2
   replace F := F.add hc2
   refine rK [6] ?_
   refine W.ret ?_
   refine tr ?_
   clear hK2 K2
   refine er false [] [] ?_
   (try simp only [inB_t, inB_f] at *)
   first
     | exact ⟨by rw [atE, if_pos (by assumption)], by trivial⟩
     | exact ⟨by rw [atE, if_neg (fun h => h (by assumption)), if_pos (by omega)], by trivial⟩
     | exact ⟨by rw [atE, if_neg (fun h => h (by assumption)), if_neg (by omega), if_pos (by omega)], by trivial⟩
     | exact ⟨by rw [atE, if_neg (fun h => h (by assumption)), if_neg (by omega), if_neg (by omega)], by trivial⟩
  ·
   try simp at hc2
   replace F := F.add hc2
   refine W.skip ?_
   refine hK2 _ ?_
   clear hK2 K2
   refine W.seqk fun K3 hK3 => ?_
   refine W.seqR ?_
   refine oN 1 ?_
   refine oC [] ?_
   refine ct (within_ok _ _ _) ?_
   refine oN 1 ?_
   refine oK [22] ?_
   refine it (fun hc3 => ?_) (fun hc3 => ?_)
   ·
    try simp at hc3
    replace F := F.add hc3
    refine rK [6] ?_
    refine W.ret ?_
    refine tr ?_
    clear hK3 K3
    refine er false [] [] ?_
    (try simp only [inB_t, inB_f] at *)
    first
      | exact ⟨by rw [atE, if_pos (by assumption)], by trivial⟩
      | exact ⟨by rw [atE, if_neg (fun h => h (by assumption)), if_pos (by omega)], by trivial⟩
      | exact ⟨by rw [atE, if_neg (fun h => h (by assumption)), if_neg (by omega), if_pos (by omega)], by trivial⟩
      | exact ⟨by rw [atE, if_neg (fun h => h (by assumption)), if_neg (by omega), if_neg (by omega)], by trivial⟩
   ·
    try simp at hc3
    replace F := F.add hc3
    refine W.skip ?_
    refine hK3 _ ?_
    clear hK3 K3
    refine rK [6] ?_
    refine W.ret ?_
    refine er false [] [] ?_
    (try simp only [inB_t, inB_f] at *)
    first
      | exact ⟨by rw [atE, if_pos (by assumption)], by trivial⟩
      | exact ⟨by rw [atE, if_neg (fun h => h (by assumption)), if_pos (by omega)], by trivial⟩
      | exact ⟨by rw [atE, if_neg (fun h => h (by assumption)), if_neg (by omega), if_pos (by omega)], by trivial⟩
      | exact ⟨by rw [atE, if_neg (fun h => h (by assumption)), if_neg (by omega), if_neg (by omega)], by trivial⟩
theorem atE_ok {c : Cel} {b h : Int} (e : atE c b h = 0) : ValidC c ∧ (∃ bn : Nat, b = bn ∧ bn < c.boxes.length) ∧ ∃ hn : Nat, h = hn ∧ hn < 240 := by
  unfold atE at e
  split at e
  · contradiction
  split at e
  · cases e
  split at e
  · cases e
  rename_i h1 h2 h3
  exact ⟨checkC_zero.1 (Classical.not_not.1 h1), ⟨b.toNat, by omega, by omega⟩, h.toNat, by omega, by omega⟩
theorem atS_ok {c : Cel} {b h : Nat} (e : atE c b h = 0) : atS c b h = iceS c b h := by rw [atS, if_pos e]; simp
theorem atS_no {c : Cel} {b h : Int} (e : ¬ atE c b h = 0) : atS c b h = ⟨0, 0⟩ := by rw [atS, if_neg e]
set_option maxHeartbeats 4000000 in
theorem rIce_ok (c : Cel) (b h : Int) : ACalls Try.prog 40 [celV c, I b, I h] [] (fun r o => r = .tup [spnV (atS c b h), I (atE c b h)] ∧ o = []) := by
 have F := Fx.nil
 refine ent Try.func40 Try.ntmps40 Try.results40 ?_
 refine rK [1, 2, 3, 6] ?_
 refine W.seqk fun K1 hK1 => ?_
 refine W.seqR ?_
 refine oN 3 ?_
 refine oC [] ?_
 refine ct (asked_ok ⟨⟨_, _⟩, _, _, _⟩ _ _) ?_
 refine oN 1 ?_
 refine oK [1, 2, 3, 6, 8] ?_
 refine rK [1, 2, 3, 6, 8, 14] ?_
 refine it (fun hc1 => ?_) (fun hc1 => ?_)
 ·
  try simp at hc1
  replace F := F.add hc1
  refine rK [6, 7] ?_
  refine W.ret ?_
  refine tr ?_
  clear hK1 K1
  refine er false [] [] ?_
  first
  | exact ⟨by rw [atS_no hc1], rfl⟩
  | exact ⟨by rw [atS_ok hc1, hc1], rfl⟩
 ·
  try simp at hc1
  replace F := F.add hc1
  refine W.skip ?_
  refine hK1 _ ?_
  clear hK1 K1
  obtain ⟨qv, ⟨bn, rfl, hbn⟩, hn, rfl, hhn⟩ := atE_ok hc1
  refine W.seqR ?_
  refine oN 3 ?_
  refine oC [] ?_
  refine ct (rice_ok c qv bn hbn hn hhn) ?_
  refine oN 2 ?_
  refine oK [6, 7] ?_
  refine W.ret ?_
  refine er false [] [] ?_
  first
  | exact ⟨by rw [atS_no hc1], rfl⟩
  | exact ⟨by rw [atS_ok hc1, hc1], rfl⟩
set_option maxHeartbeats 4000000 in
theorem rCold_ok (c : Cel) (b h : Int) : ACalls Try.prog 42 [celV c, I b, I h] [] (fun r o => r = .tup [I (if atE c b h = 0 then coldV (atS c b h) else 0), I (atE c b h)] ∧ o = []) := by
 have F := Fx.nil
 refine ent Try.func42 Try.ntmps42 Try.results42 ?_
 refine rK [1, 2, 3] ?_
 refine W.seqk fun K1 hK1 => ?_
 refine W.seqR ?_
 refine oN 3 ?_
 refine oC [] ?_
 refine ct (asked_ok ⟨⟨_, _⟩, _, _, _⟩ _ _) ?_
 refine oN 1 ?_
 refine oK [1, 2, 3, 8] ?_
 refine rK [1, 2, 3, 8, 15] ?_
 refine it (fun hc1 => ?_) (fun hc1 => ?_)
 ·
  try simp at hc1
  replace F := F.add hc1
  refine rK [6, 7] ?_
  refine W.ret ?_
  refine tr ?_
  clear hK1 K1
  refine er false [] [] ?_
  first
  | exact ⟨by rw [if_neg hc1], rfl⟩
  | exact ⟨by rw [if_pos hc1, atS_ok hc1, hc1]; exact congrArg (fun x => AV.tup [I x, I 0]) (by unfold coldV verd iceS; unfold iceS at *; (repeat' split) <;> first | rfl | (exfalso; simp_all; done) | (exfalso; simp_all; omega)), rfl⟩
 ·
  try simp at hc1
  replace F := F.add hc1
  refine W.skip ?_
  refine hK1 _ ?_
  clear hK1 K1
  obtain ⟨qv, ⟨bn, rfl, hbn⟩, hn, rfl, hhn⟩ := atE_ok hc1
  have qin := iceIn qv.iceC hbn hn
  refine W.seqR ?_
  refine oN 3 ?_
  refine oC [] ?_
  refine ct (rice_ok c qv bn hbn hn hhn) ?_
  refine oN 2 ?_
  refine oK [9] ?_
  refine W.seqk fun K2 hK2 => ?_
  refine W.block ?_
  refine rK [9, 21] ?_
  refine it (fun hc2 => ?_) (fun hc2 => ?_)
  ·
   try simp at hc2
   replace F := F.add hc2
   refine rK [6, 7] ?_
   refine W.ret ?_
   refine br (tr ?_)
   clear hK2 K2
   refine er false [] [] ?_
   first
   | exact ⟨by rw [if_neg hc1], rfl⟩
   | exact ⟨by rw [if_pos hc1, atS_ok hc1, hc1]; exact congrArg (fun x => AV.tup [I x, I 0]) (by unfold coldV verd iceS; unfold iceS at *; (repeat' split) <;> first | rfl | (exfalso; simp_all; done) | (exfalso; simp_all; omega)), rfl⟩
  ·
   try simp at hc2
   replace F := F.add hc2
   refine rK [25] ?_
   refine it (fun hc3 => ?_) (fun hc3 => ?_)
   ·
    try simp at hc3
    replace F := F.add hc3
    refine rK [6, 7] ?_
    refine W.ret ?_
    refine br (tr ?_)
    clear hK2 K2
    refine er false [] [] ?_
    first
    | exact ⟨by rw [if_neg hc1], rfl⟩
    | exact ⟨by rw [if_pos hc1, atS_ok hc1, hc1]; exact congrArg (fun x => AV.tup [I x, I 0]) (by unfold coldV verd iceS; unfold iceS at *; (repeat' split) <;> first | rfl | (exfalso; simp_all; done) | (exfalso; simp_all; omega)), rfl⟩
   ·
    try simp at hc3
    replace F := F.add hc3
    refine W.skip ?_
    refine hK2 _ ?_
    clear hK2 K2
    refine rK [6, 7] ?_
    refine W.ret ?_
    refine er false [] [] ?_
    first
    | exact ⟨by rw [if_neg hc1], rfl⟩
    | exact ⟨by rw [if_pos hc1, atS_ok hc1, hc1]; exact congrArg (fun x => AV.tup [I x, I 0]) (by unfold coldV verd iceS; unfold iceS at *; (repeat' split) <;> first | rfl | (exfalso; simp_all; done) | (exfalso; simp_all; omega)), rfl⟩
end Go.Sim
