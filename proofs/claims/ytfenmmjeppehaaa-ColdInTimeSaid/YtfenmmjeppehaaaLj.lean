/- What a lot loses, by the reference. -/
import Derived.Test.YtfenmmjeppehaaaLd
import Derived.Test.YtfenmmjeppehaaaLm
namespace Go.Sim
open Go.Proofs
set_option maxRecDepth 100000
set_option linter.unusedSimpArgs false
set_option linter.unusedVariables false
attribute [-simp] List.map_set List.map_take List.map_drop
set_option maxHeartbeats 4000000 in
theorem rLoss_ok (c : Cel) (w : Int) : ACalls Try.prog 79 [celV c, I w] [] (fun r o => r = I (lossR c.rats w) ∧ o = []) := by
 refine ACalls.lenA (xs := [I c.hall.lo, I c.hall.hi, boxesV c.boxes, filsV c.fils, ratsV c.rats]) (l := c.rats.map R2) (by simp) (by simp) ⟨_, Try.func79, by kernel_rfl, by kernel_rfl⟩ fun hl1 => ?_
 simp [maxLen_val] at hl1
 have F := Fx.nil
 refine ent Try.func79 Try.ntmps79 Try.results79 ?_
 refine rK [1, 2] ?_
 refine rK [1, 2, 5] ?_
 refine W.seqk fun K1 hK1 => ?_
 refine rK [1, 2, 5, 6] ?_
 refine W.block ?_
 refine lpa (α := Nat × Int) [1, 2] [10] [] (fun x => [(6, I x.1), (5, I x.2)]) (fun x => []) (fun x => x.1 ≤ c.rats.length ∧ x.2 = lossR (c.rats.take x.1) w) (fun x => c.rats.length - x.1) (0, 0) ?_ ?_
 ·
  exact ⟨Nat.zero_le _, rfl⟩
 ·
  intro ⟨i, n⟩ hI0
  simp only [List.cons_append, List.nil_append]
  try dsimp only at hI0
  obtain ⟨hi, hn⟩ := hI0
  replace F := F.add hi
  refine W.seqk fun K2 hK2 => ?_
  refine rK [1, 2, 5, 6, 11] ?_
  refine it (fun hc1 => ?_) (fun hc1 => ?_)
  ·
   try simp at hc1
   replace F := F.add hc1
   refine W.skip ?_
   refine hK2 _ ?_
   clear hK2 K2
   refine W.seqk fun K3 hK3 => ?_
   refine W.block ?_
   have hil : i < c.rats.length := by omega
   replace F := F.add hil
   refine rK [1, 2, 5, 6, 21] ?_
   refine it (fun hc2 => ?_) (fun hc2 => ?_)
   ·
    try simp at hc2
    replace F := F.add hc2
    refine rE ?_
    refine hK3 _ ?_
    clear hK3 K3
    refine rEw ?_
    refine ⟨(i + 1, c.rats[i].loss), lf0, ?_, v0⟩
    ·
     refine ⟨by show i + 1 ≤ _; omega, ?_⟩
     show _ = lossR (c.rats.take (i + 1)) w
     rw [lossR_snoc hil]
     (rw [if_pos (by assumption)]; done)
   ·
    try simp at hc2
    replace F := F.add hc2
    refine W.skip ?_
    refine hK3 _ ?_
    clear hK3 K3
    refine rEw ?_
    refine ⟨(i + 1, n), lf0, ?_, v0⟩
    ·
     refine ⟨by show i + 1 ≤ _; omega, ?_⟩
     show _ = lossR (c.rats.take (i + 1)) w
     rw [lossR_snoc hil]
     (rw [if_neg (by omega)]; exact hn)
  ·
   try simp at hc1
   replace F := F.add hc1
   refine W.exit ?_
   refine hK1 _ ?_
   clear hK2 K2 hK1 K1
   refine rK [4] ?_
   refine W.ret ?_
   refine er false [] [] ?_
   exact ⟨congrArg I (by rw [hn, List.take_of_length_le (by omega)]), rfl⟩
def inV (l : CLot) (h : Int) : Int := match inBox l.stays h with
  | some b => b
  | none => -1
theorem StaysOk.til {n : Nat} {l : List Sty} {fr : Int} (h : StaysOk n fr l) : ∀ s ∈ l, s.til ≤ 240 ∧ (0 ≤ fr → 0 < s.til) := fun s hs => by
  obtain ⟨_, h2, h3, h4⟩ := h.mem s hs
  exact ⟨h4, fun h0 => by omega⟩
set_option maxHeartbeats 4000000 in
theorem rIn_ok (l : CLot) (n : Nat) (hl : LotOk n l) (h : Int) : ACalls Try.prog 94 [lotV l, I h] [] (fun r o => r = I (inV l h) ∧ o = []) := by
 refine ACalls.lenA (xs := [I l.born, I l.keeps, staysV l.stays]) (l := l.stays.map T3) (by simp) (by simp) ⟨_, Try.func94, by kernel_rfl, by kernel_rfl⟩ fun hl2 => ?_
 simp [maxLen_val] at hl2
 have F := Fx.nil
 refine ent Try.func94 Try.ntmps94 Try.results94 ?_
 refine rK [1, 2] ?_
 refine W.seqk fun K1 hK1 => ?_
 refine rK [1, 2, 5] ?_
 refine W.block ?_
 refine lpa (α := Nat) [1, 2] [9, 27] [] (fun i => [(5, I i)]) (fun i => []) (fun i => i ≤ l.stays.length ∧ inBox l.stays h = inBox (l.stays.drop i) h) (fun i => l.stays.length - i) 0 v0 ?_
 ·
  intro i hI0
  simp only [List.cons_append, List.nil_append]
  try dsimp only at hI0
  obtain ⟨hi, hm1⟩ := hI0
  replace F := F.add hi
  refine W.seqk fun K2 hK2 => ?_
  refine rK [1, 2, 5, 10] ?_
  refine it (fun hc1 => ?_) (fun hc1 => ?_)
  ·
   try simp at hc1
   replace F := F.add hc1
   refine W.skip ?_
   refine hK2 _ ?_
   clear hK2 K2
   refine W.seqk fun K3 hK3 => ?_
   refine W.block ?_
   have hil : i < l.stays.length := by omega
   have qt := hl.st.til _ (List.getElem_mem hil)
   have qb := hl.born
   have ht1 : 0 < l.stays[i].til ∧ l.stays[i].til ≤ 240 := ⟨qt.2 qb.1, qt.1⟩
   replace F := F.add hil |>.add ht1
   refine wD 14 [] [[], [], [1], [], [3, 1, 2], [2, 1, 3, 4], [4, 3, 1, 2, 5], [], [7], [], [9, 7, 8], [8, 7, 9, 10], [10, 9, 7, 8, 11], [11, 8, 7, 9, 10, 12], [12, 10, 9, 7, 8, 11, 13, 5, 2, 1, 3, 4, 6, 0]] ?_
   refine dBw [([14, 15, 16, 17, 18, 19, 20, 21, 22, 23, 24, 25, 26], [], []), ([13, 16, 20, 21, 22, 23, 24, 25, 26], [false], []), ([13, 16, 20, 21, 22, 23, 24, 25, 26], [false, true], []), ([13, 14, 15, 20, 21, 22, 23, 24, 25, 26], [false, false, false], []), ([13, 20, 21, 22, 23, 24, 25, 26], [false, true, true, true], []), ([13, 20, 21, 22, 23, 24, 25, 26], [false, true, true, true, true], []), ([13, 20, 21, 22, 23, 24, 25, 26], [false, true, true, true, true, true], []), ([13, 14, 15, 16, 17, 18, 19, 22], [false, false, false, false, false, false, false], []), ([13, 14, 15, 16, 17, 18, 19, 22], [false, false, false, false, false, false, false, true], []), ([13, 14, 15, 16, 17, 18, 19, 20, 21], [false, false, false, false, false, false, false, false, false], []), ([13, 14, 15, 16, 17, 18, 19], [false, false, false, false, false, false, false, true, true, true], []), ([13, 14, 15, 16, 17, 18, 19], [false, false, false, false, false, false, false, true, true, true, true], []), ([13, 14, 15, 16, 17, 18, 19], [false, false, false, false, false, false, false, true, true, true, true, true], []), ([13, 14, 15, 16, 17, 18, 19], [false, false, false, false, false, false, false, true, true, true, true, true, true], [])] 0 14 ?_
   refine dD ?_
   refine oC [] ?_
   refine ct (within_ok _ _ _) ?_
   refine oK [1, 2, 5, 27] ?_
   refine it (fun hc2 => ?_) (fun hc2 => ?_)
   ·
    try simp at hc2
    replace F := F.add hc2
    refine rK [4] ?_
    refine W.ret ?_
    refine br (tr (tr (br (tr ?_))))
    clear hK3 K3 hK1 K1
    refine er false [] [] ?_
    (have hc9 := inB_t.1 (show inB h l.stays[i].frm (l.stays[i].til - 1) = true by assumption)
     exact ⟨congrArg I (by rw [inV, inBox_hit hil hm1 ⟨hc9.1, by omega⟩]), rfl⟩)
   ·
    try simp at hc2
    replace F := F.add hc2
    refine W.skip ?_
    refine hK3 _ ?_
    clear hK3 K3
    refine rEw ?_
    refine ⟨i + 1, lf0, ?_, v0⟩
    ·
     have hc9 := inB_f.1 (show inB h l.stays[i].frm (l.stays[i].til - 1) = false by assumption)
     exact ⟨by omega, inBox_skip hil hm1 (fun q => hc9 ⟨q.1, by omega⟩)⟩
  ·
   try simp at hc1
   replace F := F.add hc1
   refine W.exit ?_
   refine hK1 _ ?_
   clear hK2 K2 hK1 K1
   refine rK [4] ?_
   refine W.ret ?_
   refine er false [] [] ?_
   exact ⟨congrArg I (by rw [inV, inBox_done (by omega) hm1]), rfl⟩
set_option maxHeartbeats 4000000 in
theorem rwarm_ok (c : Cel) (hv : ValidC c) (l : CLot) (hl : LotOk c.boxes.length l) (h : Nat) (hh : h < 240) : ACalls Try.prog 80 [celV c, lotV l, I h] [] (fun r o => r = spnV (airS c l h) ∧ o = []) := by
 refine ACalls.lenA (xs := [I c.hall.lo, I c.hall.hi, boxesV c.boxes, filsV c.fils, ratsV c.rats]) (l := c.boxes.map B9) (by simp) (by simp) ⟨_, Try.func80, by kernel_rfl, by kernel_rfl⟩ fun hl1 => ?_
 simp [maxLen_val] at hl1
 have F := Fx.nil
 replace F := F.add hh
 refine ent Try.func80 Try.ntmps80 Try.results80 ?_
 refine rK [2, 3, 4, 6] ?_
 by_cases hbx : (inBox l.stays h).isSome = true
 ·
  replace F := F.add hbx
  obtain ⟨bi, qbi⟩ := Option.isSome_iff_exists.1 hbx
  obtain ⟨q1, q2, q3, q4⟩ := hl.inBox qbi
  obtain ⟨b, qbb⟩ : ∃ b : Nat, bi = (b : Int) := ⟨bi.toNat, by omega⟩
  have hin : inV l h = (b : Int) := by rw [inV, qbi]; exact qbb
  have hbl : b < c.boxes.length := by omega
  have hbli : (b : Int) < c.boxes.length := by omega
  have qin := iceIn hv.iceC hbl h
  have qa : airS c l h = ⟨if 0 < iceHi c b h then c.boxes[b].cld.lo else c.boxes[b].wrm.lo, if 0 < iceLo c b h then c.boxes[b].cld.hi else c.boxes[b].wrm.hi⟩ := by
    rw [air_end hv hl qbi, qbb, Int.toNat_natCast, Int.toNat_natCast, nth_get hbl]
  replace F := F.add hin |>.add hbl |>.add hbli
  refine W.seqR ?_
  refine oN 2 ?_
  refine oC [] ?_
  refine ct (rIn_ok l c.boxes.length hl h) ?_
  refine oN 1 ?_
  refine oK [2, 3, 6, 7] ?_
  refine W.seqk fun K1 hK1 => ?_
  refine rK [2, 3, 6, 7, 15] ?_
  refine cF ?_
  refine W.skip ?_
  refine hK1 _ ?_
  clear hK1 K1
  refine wD 12 [(11, [64])] [[], [], [], [2, 1, 0], [], [4], [], [6, 4, 5], [5, 4, 6, 7], [], [], [10, 0, 1, 2, 3, 9], [9, 3, 2, 1, 0, 11, 7, 6, 4, 5, 8, 10]] ?_
  refine dB [([19, 20, 22, 23, 24, 25, 26, 8, 9], [], []), ([18, 20, 22, 23, 24, 25, 26, 8, 9], [false], []), ([18, 19, 22, 23, 24, 25, 26, 8, 9], [false, false], [])] 9 3 ?_
  refine dC [22, 23, 24, 25, 26, 8, 9] [true, true, true] [] [] ?_
  refine cd (rice_ok c hv b hbl h hh) ?_
  refine dB [([18, 19, 20, 21, 24, 8, 9], [false, false, false, false], [64]), ([18, 19, 20, 21, 24, 8, 9], [false, false, false, false, true], [64]), ([18, 19, 20, 21, 22, 23, 8, 9], [false, false, false, false, false, false], [64]), ([18, 19, 20, 21, 8, 9], [false, false, false, false, true, true, true], [64]), ([18, 19, 20, 21, 8, 9], [false, false, false, false, true, true, true, true], [64]), ([18, 19, 20, 21, 22, 23, 24, 25, 26, 9], [false, false, false, false, false, false, false, false, false], []), ([18, 19, 20, 21, 22, 23, 24, 25, 26, 8], [false, false, false, false, false, false, false, false, false, false], [])] 1 11 ?_
  refine WDraw.upd hΓ [64] (viewB_eq (L := [22, 23, 24, 25, 26]) (S := [true, true, true, true, false, false, false, false, false, true, true]) (O := []) (by kernel_rfl) (by kernel_rfl) (by simp [hh, hbx, hin, hbl, hbli]; rfl)) (by first | rfl | simp) (by simp [hh, hbx, hin, hbl, hbli]; first | rfl | exact ⟨rfl, rfl⟩) (by simp [hh, hbx, hin, hbl, hbli]; first | done | rfl) (.inr (by simp)) (by simp [hh, hbx, hin, hbl, hbli]; rfl) ?_
  refine dD ?_
  refine WOps.le Le.dedup rfl rfl ?_
  refine WOps.norm (by simp [hh, hbx, hin, hbl, hbli]; rfl) ?_
  refine oN 1 ?_
  refine oK [6, 8, 9] ?_
  refine rK [6, 8, 9, 10] ?_
  refine W.seqk fun K2 hK2 => ?_
  have k1 : 0 < iceHi c b h ↔ ¬ (iceS c b h).hi = 0 := by
    show 0 < iceHi c b h ↔ ¬ iceHi c b h = 0
    omega
  have k2 : 0 < iceLo c b h ↔ ¬ (iceS c b h).lo = 0 := by
    show 0 < iceLo c b h ↔ ¬ iceLo c b h = 0
    omega
  refine rK [6, 8, 9, 10, 31] ?_
  refine it (fun hc2 => ?_) (fun hc2 => ?_)
  ·
   try simp at hc2
   replace F := F.add hc2
   refine rE ?_
   refine hK2 _ ?_
   clear hK2 K2
   refine W.seqk fun K3 hK3 => ?_
   refine rK [6, 9, 10, 38] ?_
   refine it (fun hc3 => ?_) (fun hc3 => ?_)
   ·
    try simp at hc3
    replace F := F.add hc3
    refine rE ?_
    refine hK3 _ ?_
    clear hK3 K3
    refine rK [6] ?_
    refine W.ret ?_
    refine er false [] [] ?_
    exact ⟨by rw [qa, if_neg (fun k => k1.1 k (by assumption)), if_neg (fun k => k2.1 k (by assumption))], rfl⟩
   ·
    try simp at hc3
    replace F := F.add hc3
    refine W.skip ?_
    refine hK3 _ ?_
    clear hK3 K3
    refine rK [6] ?_
    refine W.ret ?_
    refine er false [] [] ?_
    exact ⟨by rw [qa, if_neg (fun k => k1.1 k (by assumption)), if_pos (k2.2 (by assumption))], rfl⟩
  ·
   try simp at hc2
   replace F := F.add hc2
   refine W.skip ?_
   refine hK2 _ ?_
   clear hK2 K2
   refine W.seqk fun K4 hK4 => ?_
   refine rK [6, 9, 10, 38] ?_
   refine it (fun hc4 => ?_) (fun hc4 => ?_)
   ·
    try simp at hc4
    replace F := F.add hc4
    refine rE ?_
    refine hK4 _ ?_
    clear hK4 K4
    refine rK [6] ?_
    refine W.ret ?_
    refine er false [] [] ?_
    exact ⟨by rw [qa, if_pos (k1.2 (by assumption)), if_neg (fun k => k2.1 k (by assumption))], rfl⟩
   ·
    try simp at hc4
    replace F := F.add hc4
    refine W.skip ?_
    refine hK4 _ ?_
    clear hK4 K4
    refine rK [6] ?_
    refine W.ret ?_
    refine er false [] [] ?_
    exact ⟨by rw [qa, if_pos (k1.2 (by assumption)), if_pos (k2.2 (by assumption))], rfl⟩
 ·
  replace F := F.add hbx
  have qno : inBox l.stays h = none := by simpa using hbx
  have hin : inV l h = -1 := by rw [inV, qno]
  replace F := F.add hin
  refine W.seqR ?_
  refine oN 2 ?_
  refine oC [] ?_
  refine ct (rIn_ok l c.boxes.length hl h) ?_
  refine oN 1 ?_
  refine oK [2, 3, 6, 7] ?_
  refine W.seqk fun K5 hK5 => ?_
  refine rK [2, 3, 6, 7, 15] ?_
  refine cT ?_
  refine rK [6] ?_
  refine W.ret ?_
  refine tr ?_
  clear hK5 K5
  refine er false [] [] ?_
  exact ⟨by rw [airS_out qno], rfl⟩
set_option maxHeartbeats 4000000 in
theorem rlost_ok (c : Cel) (hv : ValidC c) (l : CLot) (hl : LotOk c.boxes.length l) (d : Nat) (hd : l.born + d ≤ 240) : ACalls Try.prog 77 [celV c, lotV l, I (l.born + d)] [] (fun r o => r = spnV (lostS c l d) ∧ o = []) := by
 have F := Fx.nil
 replace F := F.add hd
 refine ent Try.func77 Try.ntmps77 Try.results77 ?_
 obtain ⟨bo, qbo⟩ : ∃ bo : Nat, l.born = (bo : Int) := ⟨l.born.toNat, by have := hl.born; omega⟩
 have hbr := hl.born
 replace F := F.add hbr
 refine rK [2, 3, 4, 6] ?_
 refine rK [2, 3, 4, 6, 7] ?_
 refine W.seqk fun K1 hK1 => ?_
 refine rK [2, 3, 4, 6, 7, 8] ?_
 refine W.block ?_
 refine lp (α := Nat) [2, 3, 4, 6, 7] [9, 20, 26, 33] [56] (fun k => [(8, I (l.born + k))]) (fun k => [(56, .row false 23 2 [.agg [I (lostS c l k).lo, I (lostS c l k).hi]])]) (fun k => k ≤ d) (fun k => d - k) 0 ?_ ?_ v0 ?_
 ·
  exact v1
 ·
  try (simp [Fx.get F])
  all_goals (
   exact ⟨rfl, rfl⟩
  )
 ·
  intro k hI0
  simp only [List.cons_append, List.nil_append]
  try dsimp only at hI0
  replace F := F.add hI0
  refine W.seqk fun K2 hK2 => ?_
  refine rK [2, 3, 4, 6, 7, 8, 14] ?_
  refine it (fun hc1 => ?_) (fun hc1 => ?_)
  ·
   try simp at hc1
   replace F := F.add hc1
   refine W.skip ?_
   refine hK2 _ ?_
   clear hK2 K2
   refine W.seqk fun K3 hK3 => ?_
   refine W.block ?_
   have hkd : k < d := by omega
   obtain ⟨h, qh⟩ : ∃ h : Nat, h = bo + k := ⟨_, rfl⟩
   have hh : l.born + (k : Int) = (h : Int) := by omega
   have hh40 : h < 240 := by omega
   have qlo := lossR_in hv.rt (airS c l h).lo
   have qhi := lossR_in hv.rt (airS c l h).hi
   have qls := lostS_in hv l k
   have hk9 : k < 240 := by omega
   have qst : lostS c l (k + 1) = ⟨(lostS c l k).lo + lossR c.rats (airS c l h).lo, (lostS c l k).hi + lossR c.rats (airS c l h).hi⟩ := by rw [← hh]; rfl
   replace F := F.add hkd |>.add hh |>.add hh40 |>.add hk9
   refine W.seqR ?_
   refine oN 3 ?_
   refine oC [] ?_
   refine ct (rwarm_ok c hv l hl h hh40) ?_
   refine oN 2 ?_
   refine oK [2, 3, 4, 6, 7, 8, 9] ?_
   refine wDe 16 [(15, [56])] [[], [0], [], [], [3], [3, 4, 2], [2, 4, 3, 5, 0, 1], [], [7], [], [], [10], [2, 4, 3, 5, 10, 11, 9], [9, 11, 10, 5, 3, 4, 2, 12, 7, 8], [8, 7, 6, 5, 4, 3, 2, 1, 0], [9, 11, 10, 12, 0, 1, 2, 3, 4, 5, 6, 7, 8, 14], [15, 14, 13, 12, 11, 10, 9, 8, 7, 6, 5, 4, 3, 2, 1, 0], [0, 1, 2, 3, 4, 5, 6, 7, 8, 9, 10, 11, 12, 13, 14, 15, 16]] ?_
   refine dB [([23, 24, 25, 26, 28, 29, 30, 31, 32, 33, 34], [], []), ([23, 24, 25, 26, 28, 29, 30, 31, 32, 33, 34], [true], []), ([21, 22, 24, 25, 28, 29, 30, 31, 32], [false, false], []), ([21, 22, 23, 28, 29, 30, 31, 32], [false, false, false], []), ([21, 22, 23, 28, 29, 30, 31, 32], [false, false, false, true], [])] 11 5 ?_
   refine dC [21, 22, 28, 29, 30, 31, 32] [false, false, true, true, true] [] [] ?_
   refine cd (rLoss_ok ⟨⟨_, _⟩, _, _, _⟩ _) ?_
   refine dBw [([28, 29, 30, 31, 32, 33, 34], [true, true, true, true, true, true], []), ([21, 22, 23, 24, 25, 26, 27, 30, 31, 32, 33], [false, false, false, false, false, false, false], []), ([21, 22, 23, 24, 25, 26, 27, 30, 31, 32, 33], [false, false, false, false, false, false, false, true], []), ([21, 22, 23, 24, 25, 26, 27, 28, 29, 31, 32, 35], [false, false, false, false, false, false, false, false, false], []), ([21, 22, 23, 24, 25, 26, 27, 28, 29, 30, 35], [false, false, false, false, false, false, false, false, false, false], []), ([21, 22, 23, 24, 25, 26, 27, 28, 29, 30, 35], [false, false, false, false, false, false, false, false, false, false, true], [])] 4 12 ?_
   refine dC [21, 22, 27, 28, 29, 35] [false, false, true, true, true, true, false, false, false, true, true, true] [] [] ?_
   refine cd (rLoss_ok ⟨⟨_, _⟩, _, _, _⟩ _) ?_
   refine dBw [([21, 22, 27, 35], [false, false, true, true, true, true, false, true, true, true, true, true, true], [56]), ([30, 31, 32, 33, 34], [true, true, true, true, true, true, true, true, true, false, false, false, false, false], [])] 1 15 ?_
   refine WDraw.upd hΓ [56] (viewB_eq (L := [34]) (S := [true, true, true, true, true, true, true, true, true, true, true, true, true, false, true]) (O := []) (by kernel_rfl) (by kernel_rfl) (by simp [hd, hbr, hI0, hc1, hkd, hh, hh40, hk9]; rfl)) (by first | rfl | simp) (by simp [hd, hbr, hI0, hc1, hkd, hh, hh40, hk9]; first | rfl | exact ⟨rfl, rfl⟩) (by simp [hd, hbr, hI0, hc1, hkd, hh, hh40, hk9]; first | done | rfl) (.inr (by simp)) (by simp [hd, hbr, hI0, hc1, hkd, hh, hh40, hk9]; rfl) ?_
   refine dD ?_
   refine WOps.le Le.dedup rfl rfl ?_
   refine WOps.norm (by simp [hd, hbr, hI0, hc1, hkd, hh, hh40, hk9]; rfl) ?_
   refine oN 2 ?_
   refine WOps.endK ?_
   refine hK3 _ ?_
   clear hK3 K3
   refine rEw ?_
   refine ⟨k + 1, lf ?_ ?_, v0, v0⟩
   ·
    try (simp [Fx.get F])
    all_goals (
     omega
    )
   ·
    try (simp [Fx.get F])
    all_goals (
     rw [qst]; exact ⟨rfl, rfl⟩
    )
  ·
   try simp at hc1
   replace F := F.add hc1
   refine W.exit ?_
   refine hK1 _ ?_
   clear hK2 K2 hK1 K1
   refine rK [6] ?_
   refine W.ret ?_
   refine er false [] [] ?_
   have e : k = d := by omega
   subst e
   exact ⟨rfl, rfl⟩
set_option maxHeartbeats 4000000 in
theorem askedLot_ok (c : Cel) (l : CLot) (h : Int) : ACalls Try.prog 76 [celV c, lotV l, I h] [] (fun r o => r = I (lotE c l h) ∧ o = []) := by
 have F := Fx.nil
 refine ent Try.func76 Try.ntmps76 Try.results76 ?_
 refine rK [2, 3, 4] ?_
 refine W.seqk fun K1 hK1 => ?_
 refine W.seqR ?_
 refine oN 2 ?_
 refine oC [] ?_
 refine ct (rCheckLot_ok ⟨⟨_, _⟩, _, _, _⟩ ⟨_, _, _⟩) ?_
 refine oN 1 ?_
 refine oK [2, 4, 7] ?_
 refine rK [2, 4, 7, 12] ?_
 refine it (fun hc1 => ?_) (fun hc1 => ?_)
 ·
  try simp at hc1
  replace F := F.add hc1
  refine rK [6] ?_
  refine W.ret ?_
  refine tr ?_
  clear hK1 K1
  refine er false [] [] ?_
  (try simp only [inB_t, inB_f] at *)
  exact ⟨by rw [lotE, if_pos (by assumption)], by trivial⟩
 ·
  try simp at hc1
  replace F := F.add hc1
  refine W.skip ?_
  refine hK1 _ ?_
  clear hK1 K1
  refine W.seqk fun K2 hK2 => ?_
  refine W.seqR ?_
  refine oN 1 ?_
  refine oC [] ?_
  refine ct (within_ok _ _ _) ?_
  refine oN 1 ?_
  refine oK [2, 4, 16] ?_
  refine it (fun hc2 => ?_) (fun hc2 => ?_)
  ·
   try simp at hc2
   replace F := F.add hc2
   refine rK [6] ?_
   refine W.ret ?_
   refine tr ?_
   clear hK2 K2
   refine er false [] [] ?_
   (try simp only [inB_t, inB_f] at *)
   exact ⟨by rw [lotE, if_neg (fun h => h (by assumption)), if_pos (by omega)], by trivial⟩
  ·
   try simp at hc2
   replace F := F.add hc2
   refine W.skip ?_
   refine hK2 _ ?_
   clear hK2 K2
   refine W.seqk fun K3 hK3 => ?_
   refine rK [20] ?_
   refine it (fun hc3 => ?_) (fun hc3 => ?_)
   ·
    try simp at hc3
    replace F := F.add hc3
    refine rK [6] ?_
    refine W.ret ?_
    refine tr ?_
    clear hK3 K3
    refine er false [] [] ?_
    (try simp only [inB_t, inB_f] at *)
    exact ⟨by rw [lotE, if_neg (fun h => h (by assumption)), if_neg (by omega), if_pos (by omega)], by trivial⟩
   ·
    try simp at hc3
    replace F := F.add hc3
    refine W.skip ?_
    refine hK3 _ ?_
    clear hK3 K3
    refine rK [6] ?_
    refine W.ret ?_
    refine er false [] [] ?_
    (try simp only [inB_t, inB_f] at *)
    exact ⟨by rw [lotE, if_neg (fun h => h (by assumption)), if_neg (by omega), if_neg (by omega)], by trivial⟩
set_option maxHeartbeats 4000000 in
theorem rLost_ok (c : Cel) (l : CLot) (h : Int) : ACalls Try.prog 33 [celV c, lotV l, I h] [] (fun r o => r = .tup [spnV (lotS c l h), I (lotE c l h)] ∧ o = []) := by
 have F := Fx.nil
 refine ent Try.func33 Try.ntmps33 Try.results33 ?_
 refine rK [2, 3, 4, 6] ?_
 refine W.seqk fun K1 hK1 => ?_
 refine W.seqR ?_
 refine oN 3 ?_
 refine oC [] ?_
 refine ct (askedLot_ok ⟨⟨_, _⟩, _, _, _⟩ ⟨_, _, _⟩ _) ?_
 refine oN 1 ?_
 refine oK [2, 3, 4, 6, 8] ?_
 refine rK [2, 3, 4, 6, 8, 14] ?_
 refine it (fun hc1 => ?_) (fun hc1 => ?_)
 ·
  try simp at hc1
  replace F := F.add hc1
  refine rK [6, 7] ?_
  refine W.ret ?_
  refine tr ?_
  clear hK1 K1
  refine er false [] [] ?_
  exact ⟨by rw [lotS_no hc1], rfl⟩
 ·
  try simp at hc1
  replace F := F.add hc1
  refine W.skip ?_
  refine hK1 _ ?_
  clear hK1 K1
  obtain ⟨qv, ql, d, qd, qd2, qs⟩ := lotE_ok hc1
  have hdd : h = l.born + (d : Int) := qd
  replace F := F.add hdd
  refine W.seqR ?_
  refine oN 3 ?_
  refine oC [] ?_
  refine ct (rlost_ok c qv l ql d (by omega)) ?_
  refine oN 2 ?_
  refine oK [6, 7] ?_
  refine W.ret ?_
  refine er false [] [] ?_
  exact ⟨by rw [qs, hc1], rfl⟩
set_option maxHeartbeats 4000000 in
theorem rFresh_ok (c : Cel) (l : CLot) (h : Int) : ACalls Try.prog 35 [celV c, lotV l, I h] [] (fun r o => r = .tup [I (freshV c l h), I (lotE c l h)] ∧ o = []) := by
 have F := Fx.nil
 refine ent Try.func35 Try.ntmps35 Try.results35 ?_
 refine rK [2, 3, 4] ?_
 refine W.seqk fun K1 hK1 => ?_
 refine W.seqR ?_
 refine oN 3 ?_
 refine oC [] ?_
 refine ct (askedLot_ok ⟨⟨_, _⟩, _, _, _⟩ ⟨_, _, _⟩ _) ?_
 refine oN 1 ?_
 refine oK [2, 3, 4, 8] ?_
 refine rK [2, 3, 4, 8, 15] ?_
 refine it (fun hc1 => ?_) (fun hc1 => ?_)
 ·
  try simp at hc1
  replace F := F.add hc1
  refine rK [6, 7] ?_
  refine W.ret ?_
  refine tr ?_
  clear hK1 K1
  refine er false [] [] ?_
  exact ⟨by rw [freshV, if_neg hc1], rfl⟩
 ·
  try simp at hc1
  replace F := F.add hc1
  refine W.skip ?_
  refine hK1 _ ?_
  clear hK1 K1
  obtain ⟨qv, ql, d, qd, qd2, qs⟩ := lotE_ok hc1
  have hdd : h = l.born + (d : Int) := qd
  replace F := F.add hdd
  refine W.seqR ?_
  refine oN 3 ?_
  refine oC [] ?_
  refine ct (rlost_ok c qv l ql d (by omega)) ?_
  refine oN 2 ?_
  refine oK [4, 9] ?_
  refine W.seqk fun K2 hK2 => ?_
  refine W.block ?_
  refine rK [4, 9, 21] ?_
  refine it (fun hc2 => ?_) (fun hc2 => ?_)
  ·
   try simp at hc2
   replace F := F.add hc2
   refine rK [6, 7] ?_
   refine W.ret ?_
   refine br (tr ?_)
   clear hK2 K2
   refine er false [] [] ?_
   exact ⟨by rw [freshV, if_pos hc1, qs, show decide ((lostS c l d).hi ≤ l.keeps) = true from by simpa using (by assumption), hc1]; rfl, rfl⟩
  ·
   try simp at hc2
   replace F := F.add hc2
   refine rK [27] ?_
   refine it (fun hc3 => ?_) (fun hc3 => ?_)
   ·
    try simp at hc3
    replace F := F.add hc3
    refine rK [6, 7] ?_
    refine W.ret ?_
    refine br (tr ?_)
    clear hK2 K2
    refine er false [] [] ?_
    exact ⟨by rw [freshV, if_pos hc1, qs, show decide ((lostS c l d).hi ≤ l.keeps) = false from by simp; omega, show decide ((lostS c l d).lo ≤ l.keeps) = false from by simp; omega, hc1]; rfl, rfl⟩
   ·
    try simp at hc3
    replace F := F.add hc3
    refine W.skip ?_
    refine hK2 _ ?_
    clear hK2 K2
    refine rK [6, 7] ?_
    refine W.ret ?_
    refine er false [] [] ?_
    exact ⟨by rw [freshV, if_pos hc1, qs, show decide ((lostS c l d).hi ≤ l.keeps) = false from by simp; omega, show decide ((lostS c l d).lo ≤ l.keeps) = true from by simp; omega, hc1]; rfl, rfl⟩
set_option maxHeartbeats 4000000 in
theorem rLast_ok (c : Cel) (l : CLot) : ACalls Try.prog 36 [celV c, lotV l] [] (fun r o => r = .tup [I (lastV c l), I (checkLotC c l)] ∧ o = []) := by
 have F := Fx.nil
 refine ent Try.func36 Try.ntmps36 Try.results36 ?_
 refine rK [2, 3] ?_
 refine W.seqk fun K1 hK1 => ?_
 refine W.seqR ?_
 refine oN 2 ?_
 refine oC [] ?_
 refine ct (rCheckLot_ok ⟨⟨_, _⟩, _, _, _⟩ ⟨_, _, _⟩) ?_
 refine oN 1 ?_
 refine oK [2, 3, 6] ?_
 refine rK [2, 3, 6, 13] ?_
 refine it (fun hc1 => ?_) (fun hc1 => ?_)
 ·
  try simp at hc1
  replace F := F.add hc1
  refine rK [4, 5] ?_
  refine W.ret ?_
  refine tr ?_
  clear hK1 K1
  refine er false [] [] ?_
  exact ⟨by rw [lastV, if_neg hc1], rfl⟩
 ·
  try simp at hc1
  replace F := F.add hc1
  refine W.skip ?_
  refine hK1 _ ?_
  clear hK1 K1
  obtain ⟨qv, ql⟩ := checkLotC_zero.1 hc1
  have hbn := ql.born
  have hkp := ql.keeps
  obtain ⟨bo, qbo⟩ : ∃ bo : Nat, l.born = (bo : Int) := ⟨l.born.toNat, by omega⟩
  replace F := F.add hbn |>.add hkp
  refine rK [2, 3, 7, 8] ?_
  refine W.seqk fun K2 hK2 => ?_
  refine W.block ?_
  refine lp (α := Nat) [2, 3] [24, 26] [] (fun k => [(7, I (l.born + k)), (8, I (lostS c l k).hi)]) (fun k => []) (fun k => l.born + k ≤ 240 ∧ (lostS c l k).hi ≤ l.keeps) (fun k => 240 - bo - k) 0 ?_ ?_ ?_ ?_
  ·
   try (simp [Fx.get F])
   all_goals (
    rfl
   )
  ·
   exact v1
  ·
   exact ⟨by omega, by show (0 : Int) ≤ _; omega⟩
  ·
   intro k hI0
   simp only [List.cons_append, List.nil_append]
   try dsimp only at hI0
   obtain ⟨hi, hk1⟩ := hI0
   replace F := F.add hi |>.add hk1
   refine W.seqk fun K3 hK3 => ?_
   refine rK [2, 3, 7, 8, 18] ?_
   refine it (fun hc2 => ?_) (fun hc2 => ?_)
   ·
    try simp at hc2
    replace F := F.add hc2
    refine W.skip ?_
    refine hK3 _ ?_
    clear hK3 K3
    refine W.block ?_
    have hkd : l.born + (k : Int) < 240 := by omega
    obtain ⟨h, qh⟩ : ∃ h : Nat, h = bo + k := ⟨_, rfl⟩
    have hh : l.born + (k : Int) = (h : Int) := by omega
    have hh40 : h < 240 := by omega
    have qhi := lossR_in qv.rt (airS c l h).hi
    have qls := lostS_in qv l k
    have hk9 : k < 240 := by omega
    have qst : (lostS c l (k + 1)).hi = (lostS c l k).hi + lossR c.rats (airS c l h).hi := by rw [← hh]; rfl
    replace F := F.add hkd |>.add hh |>.add hh40 |>.add hk9
    refine wD 8 [] [[], [], [], [], [], [4, 3, 2], [2, 3, 4, 5], [5, 4, 3, 2, 6, 1], [1, 6, 2, 3, 4, 5, 7, 0], [0, 7, 5, 4, 3, 2, 6, 1, 8]] ?_
    refine dB [([20, 21, 22, 23, 24, 25, 26], [], []), ([19, 21, 22, 23, 24, 25], [false], []), ([19, 20, 22, 23], [false, false], []), ([19, 20, 21, 23], [false, false, false], []), ([19, 20, 21, 22], [false, false, false, false], [])] 3 5 ?_
    refine dC [19, 20] [false, false, true, true, true] [] [] ?_
    refine cd (rwarm_ok c qv l ql h hh40) ?_
    refine dB [([19, 20], [false, false, true, true, true, true], [])] 1 7 ?_
    refine dC [19] [false, true, true, true, true, true, true] [] [] ?_
    refine cd (rLoss_ok ⟨⟨_, _⟩, _, _, _⟩ _) ?_
    refine dD ?_
    refine oNw 2 ?_
    refine oK [2, 3, 7, 8] ?_
    refine W.seqk fun K4 hK4 => ?_
    refine rK [2, 3, 7, 8, 31] ?_
    refine it (fun hc3 => ?_) (fun hc3 => ?_)
    ·
     try simp at hc3
     replace F := F.add hc3
     refine W.exit ?_
     refine hK2 _ ?_
     clear hK4 K4 hK2 K2
     refine rK [4, 5] ?_
     refine W.ret ?_
     refine er false [] [] ?_
     exact ⟨by rw [← hh]; rw [lastV, if_pos hc1, hc1, lastC, lastK_stop (k := k) (fun i j hij => by have q9 := lostS_mono qv l (i := i) (d := j - i); rw [show i + (j - i) = j from by omega] at q9; exact q9.2) hk1 (by show _ < (lostS c l (k + 1)).hi; rw [qst]; omega) (by omega)], rfl⟩
    ·
     try simp at hc3
     replace F := F.add hc3
     refine W.skip ?_
     refine hK4 _ ?_
     clear hK4 K4
     refine rEw ?_
     refine bn ?_
     refine ⟨k + 1, lf ?_ ?_, ?_, v0⟩
     ·
      try (simp [Fx.get F])
      all_goals (
       first | omega | (rw [qst])
      )
     ·
      exact v1
     ·
      exact ⟨by omega, by rw [qst]; omega⟩
   ·
    try simp at hc2
    replace F := F.add hc2
    refine W.exit ?_
    refine hK2 _ ?_
    clear hK3 K3 hK2 K2
    refine rK [4, 5] ?_
    refine W.ret ?_
    refine er false [] [] ?_
    (have e : k = (240 - l.born).toNat := by omega
     exact ⟨by rw [lastV, if_pos hc1, hc1, lastC, lastK_all (fun _ => e ▸ hk1), ← e], rfl⟩)
end Go.Sim
