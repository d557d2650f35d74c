/- What a lot loses. -/
import Derived.Test.YtamcckgclidgkabDoorLc
namespace Go.Sim
open Go.Proofs
set_option maxRecDepth 100000
set_option linter.unusedSimpArgs false
set_option linter.unusedVariables false
attribute [-simp] List.map_set List.map_take List.map_drop
theorem Le.phantom {st : St} {id : Nat} (ty : TypeId) (sz : Nat) (hu : unp id = true) : Le st (st.renew id (.row true ty sz [])) := fun _ _ _ hc => let ⟨c1, f1⟩ := hc.phantom id hu ty sz; ⟨_, c1, f1⟩
theorem wfI {n : Int} (h1 : -9223372036854775808 ≤ n) (h2 : n < 9223372036854775808) : (Lit.int .i64 n).wf = true := by
  have e1 : IntKind.i64.min = -9223372036854775808 := by decide
  have e2 : IntKind.i64.max = 9223372036854775807 := by decide
  simp only [Lit.wf, e1, e2, Bool.and_eq_true, decide_eq_true_eq]; omega
theorem sameKey_int (a b : Int) : sameKey (.int .i64 a) (.int .i64 b) = decide (a = b) := by
  rw [Bool.eq_iff_iff]; simp [sameKey]
abbrev shI : Value := .int .i64 0
/-- the verdicts of a box, hour by hour -/
def colds (c : Cel) (b : Nat) : List Int := (List.range 240).map fun h => coldV (iceS c b h)
theorem colds_len {c : Cel} {b : Nat} : (colds c b).length = 240 := by simp [colds]
theorem colds_get {c : Cel} {b h : Nat} (hh : h < (colds c b).length) : (colds c b)[h] = coldV (iceS c b h) := by simp [colds]
/-- the verdicts of the first boxes, as a map -/
def stE (c : Cel) (n : Nat) : List (Value × AV) := (List.range n).map fun (b : Nat) => ((.int .i64 (b : Int) : Value), ints (colds c b))
theorem stE_succ (c : Cel) (n : Nat) : stE c (n + 1) = stE c n ++ [(.int .i64 (n : Int), ints (colds c n))] := by simp [stE, List.range_succ]
theorem stE_len (c : Cel) (n : Nat) : (stE c n).length = n := by simp [stE]
theorem getM_app {k : Value} : ∀ {l r : List (Value × AV)}, getM k (l ++ r) = match getM k l with | some v => some v | none => getM k r
  | [], r => by simp [getM]
  | (k', v) :: l, r => by
    simp only [List.cons_append, getM]
    split
    · rfl
    · exact getM_app
theorem setM_app {k : Value} {v : AV} : ∀ {l r : List (Value × AV)}, getM k l = none → setM k v (l ++ r) = l ++ setM k v r
  | [], r, _ => by simp
  | (k', v') :: l, r, h => by
    simp only [getM] at h
    split at h
    · cases h
    · rename_i hk
      simp only [List.cons_append, setM, if_neg hk, setM_app h]
theorem getM_stE {c : Cel} : ∀ {n : Nat} {b : Nat}, getM (.int .i64 (b : Int)) (stE c n) = if b < n then some (ints (colds c b)) else none
  | 0, b => by simp [stE, getM]
  | n + 1, b => by
    rw [stE_succ, getM_app, getM_stE]
    by_cases h : b < n
    · rw [if_pos h, if_pos (by omega)]
    · rw [if_neg h]
      simp only [getM, sameKey_int, decide_eq_true_eq]
      by_cases e : b = n
      · subst e; rw [if_pos rfl, if_pos (by omega)]
      · rw [if_neg (by omega), if_neg (by omega)]
def sumS (s : Spn) (l : List Spn) : Spn := l.foldl (fun a x => ⟨a.lo + x.lo, a.hi + x.hi⟩) s
theorem sumS_snoc {s : Spn} {l : List Spn} {i : Nat} (hi : i < l.length) : sumS s (l.take (i + 1)) = ⟨(sumS s (l.take i)).lo + l[i].lo, (sumS s (l.take i)).hi + l[i].hi⟩ := by
  rw [List.take_succ_eq_append_getElem hi, sumS, List.foldl_append]; rfl
set_option maxHeartbeats 4000000 in
theorem loss_ok (c : Cel) (hr : RatsOk c.rats) (w : Int) : ACalls Tryd.prog 40 [celV c, I w] [] (fun r o => r = I (lossR c.rats w) ∧ o = []) := by
 refine ACalls.lenA (xs := [I c.hall.lo, I c.hall.hi, boxesV c.boxes, filsV c.fils, ratsV c.rats]) (l := c.rats.map R2) (by simp) (by simp) ⟨_, Tryd.func40, by kernel_rfl, by kernel_rfl⟩ fun hl1 => ?_
 simp [maxLen_val] at hl1
 have F := Fx.nil
 refine ent Tryd.func40 Tryd.ntmps40 Tryd.results40 ?_
 refine rK [1, 2] ?_
 refine W.scope ?_
 refine rK [1, 2, 5] ?_
 refine W.seqk fun K1 hK1 => ?_
 refine W.label ?_
 refine hK1 _ ?_
 clear hK1 K1
 refine W.seqk fun K2 hK2 => ?_
 refine rK [1, 5, 9, 10, 11] ?_
 refine W.block ?_
 refine lpa (α := Nat × Int) [1, 9, 10] [7] [] (fun x => [(11, I x.1), (5, I x.2)]) (fun x => []) (fun x => x.1 ≤ c.rats.length ∧ x.2 = lossR (c.rats.take x.1) w) (fun x => c.rats.length - x.1) (0, 0) ?_ ?_
 ·
  exact ⟨Nat.zero_le _, rfl⟩
 ·
  intro ⟨i, n⟩ hI0
  simp only [List.cons_append, List.nil_append]
  try dsimp only at hI0
  obtain ⟨hi, hn⟩ := hI0
  replace F := F.add hi
  refine rK [1, 5, 9, 10, 11, 12] ?_
  refine W.seqk fun K3 hK3 => ?_
  refine it (fun hc1 => ?_) (fun hc1 => ?_)
  ·
   try simp at hc1
   replace F := F.add hc1
   refine W.skip ?_
   refine hK3 _ ?_
   clear hK3 K3
   refine W.seqk fun K4 hK4 => ?_
   refine W.block ?_
   refine rK [1, 5, 7, 9, 10, 11] ?_
   refine W.seqk fun K5 hK5 => ?_
   refine rK [1, 5, 7, 9, 10, 11, 18] ?_
   refine it (fun hc2 => ?_) (fun hc2 => ?_)
   ·
    try simp at hc2
    replace F := F.add hc2
    refine W.exit ?_
    refine hK2 _ ?_
    clear hK5 K5 hK4 K4 hK2 K2
    refine rK [4] ?_
    refine W.ret ?_
    refine ngr ?_
    refine er false [] [] ?_
    first
    | exact ⟨congrArg I (by rw [hn]; exact (lossR_cut hr hc1 hc2).symm), rfl⟩
    | exact ⟨congrArg I (by rw [hn, List.take_of_length_le (by omega)]), rfl⟩
   ·
    try simp at hc2
    replace F := F.add hc2
    refine W.skip ?_
    refine hK5 _ ?_
    clear hK5 K5
    refine rE ?_
    refine hK4 _ ?_
    clear hK4 K4
    refine rEw ?_
    refine ⟨(i + 1, c.rats[i].loss), lf0, ?_, v0⟩
    ·
     refine ⟨by show i + 1 ≤ _; omega, ?_⟩
     show _ = lossR (c.rats.take (i + 1)) w
     rw [lossR_snoc hc1, if_pos hc2]
  ·
   try simp at hc1
   replace F := F.add hc1
   refine W.exit ?_
   refine hK2 _ ?_
   clear hK3 K3 hK2 K2
   refine rK [4] ?_
   refine W.ret ?_
   refine ngr ?_
   refine er false [] [] ?_
   first
   | exact ⟨congrArg I (by rw [hn]; exact (lossR_cut hr hc1 hc2).symm), rfl⟩
   | exact ⟨congrArg I (by rw [hn, List.take_of_length_le (by omega)]), rfl⟩
set_option maxHeartbeats 4000000 in
theorem addS_ok (a x : Spn) (h1 : 0 ≤ a.lo ∧ a.lo ≤ 1000000000) (h2 : 0 ≤ a.hi ∧ a.hi ≤ 1000000000) (h3 : 0 ≤ x.lo ∧ x.lo ≤ 1000000000) (h4 : 0 ≤ x.hi ∧ x.hi ≤ 1000000000) : ACalls Tryd.prog 41 [spnV a, spnV x] [] (fun r o => r = .agg [I (a.lo + x.lo), I (a.hi + x.hi)] ∧ o = []) := by
 have F := Fx.nil
 replace F := F.add h1 |>.add h2 |>.add h3 |>.add h4
 refine ent Tryd.func41 Tryd.ntmps41 Tryd.results41 ?_
 refine rK [2, 3, 4] ?_
 refine rKw [4] ?_
 refine W.ret ?_
 exact er0 false [] []
set_option maxHeartbeats 4000000 in
theorem joined_ok (l : List Spn) (s : Spn) (hl9 : l.length ≤ 1000) (h1 : 0 ≤ s.lo ∧ s.lo ≤ 1000000) (h2 : 0 ≤ s.hi ∧ s.hi ≤ 1000000) (hx : ∀ x ∈ l, (0 ≤ x.lo ∧ x.lo ≤ 1000) ∧ (0 ≤ x.hi ∧ x.hi ≤ 1000)) : ACalls Tryd.prog 39 [.imm (l.map spnV), spnV s, .clo 41 []] [] (fun r o => r = spnV (sumS s l) ∧ o = []) := by
 have F := Fx.nil
 replace F := F.add hl9 |>.add h1 |>.add h2
 refine ent Tryd.func39 Tryd.ntmps39 Tryd.results39 ?_
 refine rK [0, 2, 4, 6] ?_
 refine W.seqk fun K1 hK1 => ?_
 refine rK [2, 4, 6, 9, 10, 11] ?_
 refine W.block ?_
 refine lpa (α := Nat × Spn) [2, 4, 6, 9, 10] [8, 18] [32] (fun x => [(11, I x.1)]) (fun x => [(32, .row false 23 2 [spnV x.2])]) (fun x => x.1 ≤ l.length ∧ x.2 = sumS s (l.take x.1) ∧ (0 ≤ x.2.lo ∧ x.2.lo ≤ 1000000 + 1000 * (x.1 : Int)) ∧ (0 ≤ x.2.hi ∧ x.2.hi ≤ 1000000 + 1000 * (x.1 : Int))) (fun x => l.length - x.1) (0, s) ?_ ?_
 ·
  exact ⟨Nat.zero_le _, rfl, by show 0 ≤ s.lo ∧ s.lo ≤ 1000000 + 1000 * ((0 : Nat) : Int); omega, by show 0 ≤ s.hi ∧ s.hi ≤ 1000000 + 1000 * ((0 : Nat) : Int); omega⟩
 ·
  intro ⟨i, a⟩ hI0
  simp only [List.cons_append, List.nil_append]
  try dsimp only at hI0
  obtain ⟨hi, ha, hlo, hhi⟩ := hI0
  replace F := F.add hi |>.add hlo |>.add hhi
  refine rK [2, 4, 6, 9, 10, 11, 12] ?_
  refine W.seqk fun K2 hK2 => ?_
  refine it (fun hc1 => ?_) (fun hc1 => ?_)
  ·
   try simp at hc1
   replace F := F.add hc1
   refine W.skip ?_
   refine hK2 _ ?_
   clear hK2 K2
   refine W.seqk fun K3 hK3 => ?_
   refine W.block ?_
   have hil : i < l.length := by omega
   have qx := hx _ (List.getElem_mem hil)
   replace F := F.add hil
   refine rK [2, 4, 6, 8, 9, 10, 11] ?_
   refine W.region ?_
   refine oN 3 ?_
   refine oC [] ?_
   refine ct (addS_ok a l[i] (by omega) (by omega) (by omega) (by omega)) ?_
   refine oN 1 ?_
   refine WOps.endK ?_
   refine hK3 _ ?_
   clear hK3 K3
   refine rEw ?_
   refine ⟨(i + 1, ⟨a.lo + l[i].lo, a.hi + l[i].hi⟩), lf0, ?_, v0⟩
   ·
    refine ⟨by show i + 1 ≤ _; omega, ?_, ?_, ?_⟩
    · show _ = sumS s (l.take (i + 1))
      rw [sumS_snoc hil, ← ha]
    · show 0 ≤ a.lo + l[i].lo ∧ a.lo + l[i].lo ≤ 1000000 + 1000 * ((i + 1 : Nat) : Int); omega
    · show 0 ≤ a.hi + l[i].hi ∧ a.hi + l[i].hi ≤ 1000000 + 1000 * ((i + 1 : Nat) : Int); omega
  ·
   try simp at hc1
   replace F := F.add hc1
   refine W.exit ?_
   refine hK1 _ ?_
   clear hK2 K2 hK1 K1
   refine rK [6] ?_
   refine W.ret ?_
   refine er false [] [] ?_
   rw [List.take_of_length_le (by omega)] at ha
   subst ha
   exact ⟨rfl, rfl⟩
set_option maxHeartbeats 4000000 in
theorem air_ok (c : Cel) (l : CLot) (hl : LotOk c.boxes.length l) (h : Nat) (hh : h < 240) : ACalls Tryd.prog 38 [celV c, lotV l, .map 10000, I h] [(10000, .mp true shI (stE c c.boxes.length))] (fun r o => r = spnV (airS c l h) ∧ o = [(10000, .mp true shI (stE c c.boxes.length))]) := by
 refine ACalls.lenA (xs := [I c.hall.lo, I c.hall.hi, boxesV c.boxes, filsV c.fils, ratsV c.rats]) (l := c.boxes.map B9) (by simp) (by simp) ⟨_, Tryd.func38, by kernel_rfl, by kernel_rfl⟩ fun hl1 => ?_
 simp [maxLen_val] at hl1
 refine ACalls.lenA (xs := [I l.born, I l.keeps, staysV l.stays]) (l := l.stays.map T3) (by simp) (by simp) ⟨_, Tryd.func38, by kernel_rfl, by kernel_rfl⟩ fun hl2 => ?_
 simp [maxLen_val] at hl2
 have F := Fx.nil
 replace F := F.add hh
 refine ent Tryd.func38 Tryd.ntmps38 Tryd.results38 ?_
 refine rK [2, 3, 4, 5, 8] ?_
 refine W.seqk fun K1 hK1 => ?_
 refine rK [2, 3, 4, 8, 13, 14, 15] ?_
 refine W.block ?_
 refine lpa (α := Nat) [2, 3, 4, 8, 13, 14] [10, 11] [] (fun i => [(15, I i)]) (fun i => []) (fun i => i ≤ l.stays.length ∧ inBox l.stays h = inBox (l.stays.drop i) h) (fun i => l.stays.length - i) 0 v0 ?_
 ·
  intro i hI0
  simp only [List.cons_append, List.nil_append]
  try dsimp only at hI0
  obtain ⟨hi, hm1⟩ := hI0
  replace F := F.add hi
  refine rK [2, 3, 4, 8, 13, 14, 15, 16] ?_
  refine W.seqk fun K2 hK2 => ?_
  refine it (fun hc1 => ?_) (fun hc1 => ?_)
  ·
   try simp at hc1
   replace F := F.add hc1
   refine W.skip ?_
   refine hK2 _ ?_
   clear hK2 K2
   refine W.seqk fun K3 hK3 => ?_
   refine W.block ?_
   refine rK [2, 3, 4, 8, 10, 13, 14, 15] ?_
   refine W.seqR ?_
   refine oN 5 ?_
   refine gX ?_
   refine gX ?_
   refine gX ?_
   refine gX ?_
   refine oN 1 ?_
   refine oK [2, 3, 4, 8, 10, 13, 14, 15, 28] ?_
   refine it (fun hc2 => ?_) (fun hc2 => ?_)
   ·
    try simp at hc2
    replace F := F.add hc2
    have hil : i < l.stays.length := by omega
    have qb := inBox_hit hil hm1 (by omega)
    obtain ⟨q1, q2, q3, q4⟩ := hl.inBox qb
    obtain ⟨b, qbb⟩ : ∃ b : Nat, l.stays[i].box = (b : Int) := ⟨l.stays[i].box.toNat, by omega⟩
    have hbb := qbb
    have hb : b < c.boxes.length := by omega
    have hbi : (b : Int) < c.boxes.length := by omega
    have hh40 : (h : Int) < 240 := by omega
    have hw1 : (Lit.int .i64 (b : Int)).wf = true := wfI (by omega) (by omega)
    have hg : getM (.int .i64 (b : Int)) (stE c c.boxes.length) = some (ints (colds c b)) := by rw [getM_stE, if_pos hb]
    have hcl : (colds c b).length = 240 := colds_len
    obtain ⟨v, qv⟩ : ∃ v, v = coldV (iceS c b h) := ⟨_, rfl⟩
    have hhc : h < (colds c b).length := by rw [colds_len]; exact hh
    have hcg : (colds c b)[h] = v := by rw [colds_get hhc, qv]
    have qa : airS c l h = if v = 1 then c.boxes[b].cld else if v = 2 then c.boxes[b].wrm else ⟨c.boxes[b].cld.lo, c.boxes[b].wrm.hi⟩ := by
      rw [airS, qb, qbb]; simp only [Int.toNat_natCast, ← qv, nth_get hb]
    replace F := F.add hil |>.add hbb |>.add hb |>.add hbi |>.add hh40 |>.add hw1 |>.add hg |>.add hcl |>.add hhc |>.add hcg
    refine rK [2, 3, 8, 10, 11] ?_
    refine W.seqk fun K4 hK4 => ?_
    refine rK [8, 11, 41] ?_
    refine W.block ?_
    refine rK [8, 11, 41, 42] ?_
    refine it (fun hc3 => ?_) (fun hc3 => ?_)
    ·
     try simp at hc3
     replace F := F.add hc3
     refine rK [8] ?_
     refine W.ret ?_
     refine br (tr (br (tr (tr (br (tr ?_))))))
     clear hK4 K4 hK3 K3 hK1 K1
     refine er false [] [(10000, 10000)] ?_
     first
     | exact ⟨by rw [airS_out (inBox_done (by omega) hm1)], rfl⟩
     | exact ⟨by rw [qa, if_pos (by assumption)], rfl⟩
     | exact ⟨by rw [qa, if_neg (by assumption), if_pos (by assumption)], rfl⟩
     | exact ⟨by rw [qa, if_neg (by assumption), if_neg (by assumption)], rfl⟩
    ·
     try simp at hc3
     replace F := F.add hc3
     refine rK [8, 11, 46] ?_
     refine it (fun hc4 => ?_) (fun hc4 => ?_)
     ·
      try simp at hc4
      replace F := F.add hc4
      refine rK [8] ?_
      refine W.ret ?_
      refine br (tr (br (tr (tr (br (tr ?_))))))
      clear hK4 K4 hK3 K3 hK1 K1
      refine er false [] [(10000, 10000)] ?_
      first
      | exact ⟨by rw [airS_out (inBox_done (by omega) hm1)], rfl⟩
      | exact ⟨by rw [qa, if_pos (by assumption)], rfl⟩
      | exact ⟨by rw [qa, if_neg (by assumption), if_pos (by assumption)], rfl⟩
      | exact ⟨by rw [qa, if_neg (by assumption), if_neg (by assumption)], rfl⟩
     ·
      try simp at hc4
      replace F := F.add hc4
      refine W.skip ?_
      refine hK4 _ ?_
      clear hK4 K4
      refine rK [8] ?_
      refine W.ret ?_
      refine br (tr (tr (br (tr ?_))))
      clear hK3 K3 hK1 K1
      refine er false [] [(10000, 10000)] ?_
      first
      | exact ⟨by rw [airS_out (inBox_done (by omega) hm1)], rfl⟩
      | exact ⟨by rw [qa, if_pos (by assumption)], rfl⟩
      | exact ⟨by rw [qa, if_neg (by assumption), if_pos (by assumption)], rfl⟩
      | exact ⟨by rw [qa, if_neg (by assumption), if_neg (by assumption)], rfl⟩
   ·
    try simp at hc2
    replace F := F.add hc2
    refine W.skip ?_
    refine hK3 _ ?_
    clear hK3 K3
    refine rEw ?_
    refine ⟨i + 1, lf0, ?_, v0⟩
    ·
     exact ⟨by omega, inBox_skip hc1 hm1 (fun q => by have := hc2 q.1; omega)⟩
  ·
   try simp at hc1
   replace F := F.add hc1
   refine W.exit ?_
   refine hK1 _ ?_
   clear hK2 K2 hK1 K1
   refine rK [8] ?_
   refine W.ret ?_
   refine er false [] [(10000, 10000)] ?_
   first
   | exact ⟨by rw [airS_out (inBox_done (by omega) hm1)], rfl⟩
   | exact ⟨by rw [qa, if_pos (by assumption)], rfl⟩
   | exact ⟨by rw [qa, if_neg (by assumption), if_pos (by assumption)], rfl⟩
   | exact ⟨by rw [qa, if_neg (by assumption), if_neg (by assumption)], rfl⟩
end Go.Sim
