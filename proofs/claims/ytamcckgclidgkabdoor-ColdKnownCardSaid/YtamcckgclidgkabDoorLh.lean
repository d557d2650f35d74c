/- The fewest scoops: the search. -/
import Derived.Test.YtamcckgclidgkabDoorLg
namespace Go.Sim
open Go.Proofs
set_option maxRecDepth 100000
set_option linter.unusedSimpArgs false
set_option linter.unusedVariables false
attribute [-simp] List.map_set List.map_take List.map_drop
theorem firstN_cons_none {f : Int → Option (List Int)} {i : Int} {n : Nat} (h : f i = none) : firstN f i (n + 1) = firstN f (i + 1) n := by simp only [firstN, h]
theorem firstN_cons_some {f : Int → Option (List Int)} {i : Int} {n : Nat} {x : List Int} (h : f i = some x) : firstN f i (n + 1) = some x := by simp only [firstN, h]
def optV : Option (List Int) → AV
  | none => .val (.slice none 0 0)
  | some l => ints l
theorem tryF_len {ok pr : List Int → Bool} : ∀ {r : Nat} {pre : List Int} {more : Int} {l : List Int}, tryF ok pr r pre more = some l → l.length = pre.length + r
  | 0, pre, more, l, h => by
    simp only [tryF] at h
    split at h
    · cases h; rfl
    · cases h
  | r + 1, pre, more, l, h => by
    simp only [tryF] at h
    split at h
    · obtain ⟨k, _, h1, _⟩ := firstN_some.1 h
      have := tryF_len h1
      simp at this; omega
    · cases h
abbrev okF (c : Cel) (b : Nat) (vs : List Int) (g : Int) (un : Nat) : List Int → Bool := fun sc => keepsB c b g vs sc un
abbrev prF (c : Cel) (b : Nat) (vs : List Int) (g : Int) (un : Nat) : List Int → Bool := fun pre => keepsB c b g vs pre (min (un : Int) (nth vs pre.length))
abbrev fcap : List AV := [.ptr 10000 0 0, .ptr 10001 0 0, .ptr 10002 0 0, .ptr 10003 0 0, .ptr 10004 0 0, .ptr 10005 0 0]
abbrev fobs (c : Cel) (b : Nat) (vs : List Int) (g : Int) (un : Nat) : List (Nat × Obj) := [(10000, .row false 38 1 [ints vs]), (10001, .row false 28 5 [celV c]), (10002, .row false 3 1 [I b]), (10003, .row false 3 1 [I g]), (10004, .row false 3 1 [I un]),
  (10005, .row false 82 1 [.clo 32 fcap])]
set_option maxHeartbeats 4000000 in
theorem Fill1_zero (c : Cel) (hv : ValidC c) (b : Nat) (hb : b < c.boxes.length) (vs : List Int) (h6 : vs.length ≤ 6) (g : Int) (hgr : 0 ≤ g ∧ g ≤ 100000) (un : Nat) (hu : un ≤ 240) (pre : List Int) (hp : pre.length = vs.length) (hs : ∀ n ∈ pre, 0 ≤ n ∧ n ≤ 5) (more : Int) : ACalls Tryd.prog 32 [ints pre, I more, .ptr 10000 0 0, .ptr 10001 0 0, .ptr 10002 0 0, .ptr 10003 0 0, .ptr 10004 0 0, .ptr 10005 0 0] (fobs c b vs g un) (fun r o => r = optV (tryF (okF c b vs g un) (prF c b vs g un) 0 pre more) ∧ o = fobs c b vs g un) := by
 have F := Fx.nil
 refine ent Tryd.func32 Tryd.ntmps32 Tryd.results32 ?_
 have hp2 : (pre.length : Int) = vs.length := by omega
 replace F := F.add hp2
 refine rK [0, 1, 2, 3, 4, 5, 6, 7] ?_
 refine rK [0, 1, 2, 3, 4, 5, 6, 7, 11] ?_
 refine W.seqk fun K1 hK1 => ?_
 refine rK [0, 1, 2, 3, 4, 5, 6, 7, 11, 19] ?_
 refine cT ?_
 refine W.seqk fun K2 hK2 => ?_
 by_cases hmz : more = 0
 ·
  replace F := F.add hmz
  refine W.seqR ?_
  refine oN 3 ?_
  refine gT ?_
  refine gT ?_
  refine gT ?_
  refine gT ?_
  refine gT ?_
  refine gT ?_
  refine gC [] ?_
  refine ct (keeps_ok c hv b hb vs pre (by omega) h6 hs g hgr un hu) ?_
  refine oN 1 ?_
  refine oK [0, 30] ?_
  refine it (fun hc2 => ?_) (fun hc2 => ?_)
  ·
   try simp at hc2
   replace F := F.add hc2
   refine rK [10] ?_
   refine W.ret ?_
   refine tr (tr ?_)
   clear hK2 K2 hK1 K1
   refine er false [] [(10000, 10000), (10001, 10001), (10002, 10002), (10003, 10003), (10004, 10004), (10005, 10005)] ?_
   exact ⟨by rw [tryF, if_pos ⟨by assumption, by assumption⟩]; rfl, rfl⟩
  ·
   try simp at hc2
   replace F := F.add hc2
   refine W.skip ?_
   refine hK2 _ ?_
   clear hK2 K2
   refine rK [10] ?_
   refine W.ret ?_
   refine tr ?_
   clear hK1 K1
   refine er false [] [(10000, 10000), (10001, 10001), (10002, 10002), (10003, 10003), (10004, 10004), (10005, 10005)] ?_
   exact ⟨by rw [tryF, if_neg (fun k => by simp_all)]; rfl, rfl⟩
 ·
  replace F := F.add hmz
  have hmb : (more == 0) = false := by simpa using hmz
  have hmd : decide (more = 0) = false := decide_eq_false hmz
  replace F := F.add hmb |>.add hmd
  refine W.seqR ?_
  refine oN 3 ?_
  refine gF ?_
  refine gF ?_
  refine gF ?_
  refine gF ?_
  refine gF ?_
  refine gF ?_
  refine gF ?_
  refine oN 1 ?_
  refine oK [0, 30] ?_
  refine cF ?_
  refine W.skip ?_
  refine hK2 _ ?_
  clear hK2 K2
  refine rK [10] ?_
  refine W.ret ?_
  refine tr ?_
  clear hK1 K1
  refine er false [] [(10000, 10000), (10001, 10001), (10002, 10002), (10003, 10003), (10004, 10004), (10005, 10005)] ?_
  exact ⟨by rw [tryF, if_neg (fun k => absurd k.1 (by assumption))]; rfl, rfl⟩
set_option maxHeartbeats 4000000 in
theorem Fill1_step (c : Cel) (hv : ValidC c) (b : Nat) (hb : b < c.boxes.length) (vs : List Int) (h6 : vs.length ≤ 6) (hvv : ∀ v ∈ vs, 0 ≤ v ∧ v ≤ 239) (g : Int) (hgr : 0 ≤ g ∧ g ≤ 100000) (un : Nat) (hu : un ≤ 240) (r : Nat) (pre : List Int) (hp : pre.length + (r + 1) = vs.length) (hs : ∀ n ∈ pre, 0 ≤ n ∧ n ≤ 5) (more : Int) (hmo : 0 ≤ more ∧ more ≤ 30) (ih : ∀ n : Int, 0 ≤ n → n ≤ 5 → ∀ m : Int, 0 ≤ m → m ≤ 30 → ACalls Tryd.prog 32 [ints (pre ++ [n]), I m, .ptr 10000 0 0, .ptr 10001 0 0, .ptr 10002 0 0, .ptr 10003 0 0, .ptr 10004 0 0, .ptr 10005 0 0] (fobs c b vs g un) (fun r' o => r' = optV (tryF (okF c b vs g un) (prF c b vs g un) r (pre ++ [n]) m) ∧ o = fobs c b vs g un)) : ACalls Tryd.prog 32 [ints pre, I more, .ptr 10000 0 0, .ptr 10001 0 0, .ptr 10002 0 0, .ptr 10003 0 0, .ptr 10004 0 0, .ptr 10005 0 0] (fobs c b vs g un) (fun r' o => r' = optV (tryF (okF c b vs g un) (prF c b vs g un) (r + 1) pre more) ∧ o = fobs c b vs g un) := by
 have F := Fx.nil
 replace F := F.add h6 |>.add hgr |>.add hu |>.add hmo
 refine ent Tryd.func32 Tryd.ntmps32 Tryd.results32 ?_
 have hp2 : ¬ (pre.length : Int) = vs.length := by omega
 have hpl : pre.length < vs.length := by omega
 have hpi : (pre.length : Int) < vs.length := by omega
 obtain ⟨w, qw⟩ : ∃ w : Nat, vs[pre.length] = (w : Int) := ⟨vs[pre.length].toNat, by have := hvv _ (List.getElem_mem hpl); omega⟩
 have hw := qw
 have hw9 : w ≤ 239 := by have := hvv _ (List.getElem_mem hpl); omega
 obtain ⟨um, qum⟩ : ∃ um : Nat, um = min un w := ⟨_, rfl⟩
 have hum1 : (if (w : Int) < (un : Int) then (w : Int) else (un : Int)) = (um : Int) := by split <;> omega
 have hum2 : (if w < un then (w : Int) else (un : Int)) = (um : Int) := by split <;> omega
 have hum9 : um ≤ 240 := by omega
 have qmin : min (un : Int) (nth vs pre.length) = (um : Int) := by rw [nth_get hpl, qw, qum]; omega
 have hpr : (pre.length : Int) + ((r : Int) + 1) = vs.length := by omega
 have qpr : tryF (okF c b vs g un) (prF c b vs g un) (r + 1) pre more = if keepsB c b g vs pre um = true then firstN (fun n => tryF (okF c b vs g un) (prF c b vs g un) r (pre ++ [n]) (more - n)) (max 0 (more - 5 * (r : Int))) (min more 5 + 1 - max 0 (more - 5 * (r : Int))).toNat else none := by
   rw [tryF, show prF c b vs g un pre = keepsB c b g vs pre um from by show keepsB c b g vs pre (min (un : Int) (nth vs pre.length)) = _; rw [qmin]]
 replace F := F.add hp2 |>.add hpl |>.add hpi |>.add hw |>.add hw9 |>.add hum1 |>.add hum2 |>.add hum9 |>.add hpr
 refine rK [0, 1, 2, 3, 4, 5, 6, 7] ?_
 refine rK [0, 1, 2, 3, 4, 5, 6, 7, 11] ?_
 refine W.seqk fun K1 hK1 => ?_
 refine rK [0, 1, 2, 3, 4, 5, 6, 7, 11, 19] ?_
 refine cF ?_
 refine W.skip ?_
 refine hK1 _ ?_
 clear hK1 K1
 refine W.seqk fun K2 hK2 => ?_
 refine wD 11 [] [[], [], [], [], [], [], [], [], [7, 6], [6, 7, 8], [8, 7, 6, 9, 5], [5, 9, 6, 7, 8, 10, 4, 3, 2, 1, 0], [0, 1, 2, 3, 4, 10, 8, 7, 6, 9, 5, 11]] ?_
 refine dB [([33, 34, 35, 36, 37, 38, 39, 40, 41, 42], [], []), ([32, 34, 35, 36, 37, 38, 39, 40, 41, 42], [false], []), ([32, 33, 35, 36, 37, 38, 39, 40, 41, 42], [false, false], []), ([32, 33, 34, 36, 37, 38, 39, 40, 41, 42], [false, false, false], []), ([32, 33, 34, 35, 37, 38, 39, 40, 41, 42], [false, false, false, false], []), ([32, 33, 34, 35, 36, 38, 39, 40, 41], [false, false, false, false, false], []), ([32, 33, 34, 35, 36, 37, 39], [false, false, false, false, false, false], []), ([32, 33, 34, 35, 36, 37, 38], [false, false, false, false, false, false, false], []), ([32, 33, 34, 35, 36, 37], [false, false, false, false, false, false, true, true], []), ([32, 33, 34, 35, 36, 37], [false, false, false, false, false, false, true, true, true], []), ([32, 33, 34, 35, 36], [false, false, false, false, false, true, true, true, true, true], [])] 0 11 ?_
 refine dD ?_
 refine oC [] ?_
 refine ct (keeps_ok c hv b hb vs pre (by omega) h6 hs g hgr um hum9) ?_
 refine oN 1 ?_
 refine oK [0, 1, 2, 7, 11, 44] ?_
 refine it (fun hc2 => ?_) (fun hc2 => ?_)
 ·
  try simp at hc2
  replace F := F.add hc2
  refine rK [10] ?_
  refine W.ret ?_
  refine tr ?_
  clear hK2 K2
  refine er false [] [(10000, 10000), (10001, 10001), (10002, 10002), (10003, 10003), (10004, 10004), (10005, 10005)] ?_
  exact ⟨by rw [qpr, if_neg (by rw [hc2]; decide)]; rfl, rfl⟩
 ·
  try simp at hc2
  replace F := F.add hc2
  refine W.skip ?_
  refine hK2 _ ?_
  clear hK2 K2
  refine W.seqk fun K3 hK3 => ?_
  refine rKw [0, 1, 7, 12] ?_
  refine W.block ?_
  refine lpa (α := Int) [0, 1, 7] [56, 62, 64, 65, 69] [] (fun n => [(12, I n)]) (fun n => []) (fun n => 0 ≤ n ∧ n ≤ 31 ∧ firstN (fun n => tryF (okF c b vs g un) (prF c b vs g un) r (pre ++ [n]) (more - n)) (max 0 (more - 5 * (r : Int))) (min more 5 + 1 - max 0 (more - 5 * (r : Int))).toNat = firstN (fun n => tryF (okF c b vs g un) (prF c b vs g un) r (pre ++ [n]) (more - n)) n (min more 5 + 1 - n).toNat) (fun n => (31 - n).toNat) (max 0 (more - 5 * (r : Int))) v0 ?_
  ·
   intro n hI0
   simp only [List.cons_append, List.nil_append]
   try dsimp only at hI0
   obtain ⟨hn0, hn9, hfn⟩ := hI0
   replace F := F.add hn0 |>.add hn9
   refine W.seqk fun K4 hK4 => ?_
   refine rK [0, 1, 7, 12, 57] ?_
   refine it (fun hc3 => ?_) (fun hc3 => ?_)
   ·
    try simp at hc3
    replace F := F.add hc3
    refine W.skip ?_
    refine hK4 _ ?_
    clear hK4 K4
    refine W.seqk fun K5 hK5 => ?_
    refine W.block ?_
    have hn5 : n ≤ more ∧ n ≤ 5 := by omega
    obtain ⟨o, qo⟩ : ∃ o, o = tryF (okF c b vs g un) (prF c b vs g un) r (pre ++ [n]) (more - n) := ⟨_, rfl⟩
    have ihn := ih n hn0 hn5.2 (more - n) (by omega) (by omega)
    rw [← qo, show ints (pre ++ [n]) = .imm (pre.map I ++ [I n]) from by simp] at ihn
    have htk : List.take (pre.length + 1) (pre.map I ++ [I n]) = pre.map I ++ [I n] := List.take_of_length_le (by simp)
    obtain ⟨T, qT⟩ : ∃ T, T = (min more 5 + 1 - (n + 1)).toNat := ⟨_, rfl⟩
    have qT1 : (min more 5 + 1 - n).toNat = T + 1 := by omega
    replace F := F.add hn5 |>.add htk
    refine wD 9 [(5, [496])] [[], [], [1], [], [3], [3, 4, 1, 2], [], [], [7, 6], [6, 7, 8, 2, 1, 4, 3, 5, 0], [0, 5, 3, 4, 1, 2, 8, 7, 6, 9]] ?_
    refine dB [([61, 62, 63, 64, 65, 66, 67, 68], [], [496]), ([60, 63, 64, 66, 67, 68], [false], [])] 7 2 ?_
    refine dC [60, 63, 64, 66, 67, 68] [false, true] [] [] ?_
    refine cd (CloneI_ok pre (by omega)) ?_
    refine dB [([60, 61, 62, 66, 67, 68], [false, false, false], []), ([60, 61, 62, 66, 67, 68], [false, false, false, true], [])] 4 5 ?_
    refine dAw [60, 66, 67, 68] [false, true, true, true, true] [] [496] ?_
    refine dBw [([60, 61, 62, 63, 64, 65, 67], [false, false, false, false, false, false], [496]), ([60, 61, 62, 63, 64, 65, 66], [false, false, false, false, false, false, false], [496]), ([60, 61, 62, 63, 64, 65], [false, false, false, false, false, false, true, true], [496])] 0 9 ?_
    refine dD ?_
    refine fz 520 ?_
    refine oC [(10000, 10000), (10001, 10001), (10002, 10002), (10003, 10003), (10004, 10004), (10005, 10005)] ?_
    refine ct (ihn) ?_
    refine oN 1 ?_
    refine oK [0, 1, 7, 12, 13] ?_
    by_cases hon : o = none
    ·
     replace F := F.add hon
     have hov : optV o = .val (.slice none 0 0) := by rw [hon]; rfl
     replace F := F.add hov
     refine rK [0, 1, 7, 12, 13, 71] ?_
     refine cF ?_
     refine W.skip ?_
     refine hK5 _ ?_
     clear hK5 K5
     refine rEw ?_
     refine ⟨n + 1, lf0, ?_, v0⟩
     ·
      refine ⟨by omega, by omega, ?_⟩
      rw [hfn, ← qT, qT1]
      exact firstN_cons_none (qo.symm.trans hon)
    ·
     replace F := F.add hon
     obtain ⟨x, xs, qx⟩ : ∃ x xs, o = some (x :: xs) := by
       cases hq : o with
       | none => exact absurd hq hon
       | some l =>
         have h1 := tryF_len (qo.symm.trans hq)
         cases l with
         | nil =>
           rw [List.length_append] at h1
           simp only [List.length_nil, List.length_cons] at h1
           omega
         | cons x xs => exact ⟨x, xs, rfl⟩
     have hov : optV o = .imm (I x :: xs.map I) := by rw [qx]; rfl
     replace F := F.add hov
     refine rK [0, 1, 7, 12, 13, 71] ?_
     refine cT ?_
     refine rK [10] ?_
     refine W.ret ?_
     refine br (tr (tr (br (tr ?_))))
     clear hK5 K5 hK3 K3
     refine er false [] [(10000, 10000), (10001, 10001), (10002, 10002), (10003, 10003), (10004, 10004), (10005, 10005)] ?_
     have e : tryF (okF c b vs g un) (prF c b vs g un) (r + 1) pre more = some (x :: xs) := by
       rw [qpr, if_pos hc2, hfn, qT1]
       exact firstN_cons_some (qo.symm.trans qx)
     rw [e]
     exact ⟨rfl, rfl⟩
   ·
    try simp at hc3
    replace F := F.add hc3
    refine W.exit ?_
    refine hK3 _ ?_
    clear hK4 K4 hK3 K3
    refine rK [10] ?_
    refine W.ret ?_
    refine er false [] [(10000, 10000), (10001, 10001), (10002, 10002), (10003, 10003), (10004, 10004), (10005, 10005)] ?_
    refine ⟨?_, rfl⟩
    rw [qpr, if_pos hc2, hfn, show (min more 5 + 1 - n).toNat = 0 by (split at hc3 <;> omega)]; rfl
theorem Fill1_ok (c : Cel) (hv : ValidC c) (b : Nat) (hb : b < c.boxes.length) (vs : List Int) (h6 : vs.length ≤ 6) (hvv : ∀ v ∈ vs, 0 ≤ v ∧ v ≤ 239) (g : Int) (hgr : 0 ≤ g ∧ g ≤ 100000) (un : Nat) (hu : un ≤ 240) : ∀ (r : Nat) (pre : List Int), pre.length + r = vs.length → (∀ n ∈ pre, 0 ≤ n ∧ n ≤ 5) → ∀ more : Int, 0 ≤ more ∧ more ≤ 30 →
    ACalls Tryd.prog 32 [ints pre, I more, .ptr 10000 0 0, .ptr 10001 0 0, .ptr 10002 0 0, .ptr 10003 0 0, .ptr 10004 0 0, .ptr 10005 0 0] (fobs c b vs g un) (fun r' o => r' = optV (tryF (okF c b vs g un) (prF c b vs g un) r pre more) ∧ o = fobs c b vs g un)
  | 0, pre, hp, hs, more, _ => Fill1_zero c hv b hb vs h6 g hgr un hu pre (by omega) hs more
  | r + 1, pre, hp, hs, more, hmo => Fill1_step c hv b hb vs h6 hvv g hgr un hu r pre hp hs more hmo fun n h0 h5 m hm0 hm3 =>
      Fill1_ok c hv b hb vs h6 hvv g hgr un hu r (pre ++ [n]) (by rw [List.length_append]; simp only [List.length_cons, List.length_nil]; omega) (fun k hk => by
        rcases List.mem_append.1 hk with h | h
        · exact hs k h
        · obtain rfl := List.mem_singleton.1 h; exact ⟨h0, h5⟩) m ⟨hm0, hm3⟩
def visG (l : List Int) (i : Nat) : Int := if ¬ (0 ≤ nth l i ∧ nth l i ≤ 239) then 1 else if 0 < i ∧ nth l i ≤ nth l (i - 1) then 5 else 0
def visErr (l : List Int) : Int := if l = [] then 7 else if 6 < l.length then 6 else firstNZ (visG l) (List.range l.length)
theorem visG_get {l : List Int} {i : Nat} (hi : i < l.length) (hb : i - 1 < l.length) : visG l i = if ¬ (0 ≤ l[i] ∧ l[i] ≤ 239) then 1 else if 0 < i ∧ l[i] ≤ l[i - 1] then 5 else 0 := by rw [visG, nth_get hi, nth_get hb]
theorem visErr_hit {l : List Int} {i : Nat} {e : Int} (h6 : l.length ≤ 6) (hi : i < l.length) (hm : ∀ j, j < i → visG l j = 0) (he : visG l i = e) (h0 : e ≠ 0) : visErr l = e := by
  have h1 : l ≠ [] := fun h => by rw [h] at hi; cases hi
  rw [visErr, if_neg h1, if_neg (by omega), firstNZ_range_hit hi hm (by rw [he]; exact h0), he]
theorem visErr_done {l : List Int} {i : Nat} (h0 : l ≠ []) (h6 : l.length ≤ 6) (hi : l.length ≤ i) (hm : ∀ j, j < i → visG l j = 0) : visErr l = 0 := by
  rw [visErr, if_neg h0, if_neg (by omega), firstNZ_range_done fun j hj => hm j (by omega)]
theorem visErr_ok {l : List Int} (h : visErr l = 0) : 0 < l.length ∧ l.length ≤ 6 ∧ VisitsOk l := by
  unfold visErr at h
  split at h
  · cases h
  split at h
  · cases h
  rename_i h1 h2
  have k := fun i hi => range_zero.1 h i hi
  have k1 : ∀ i, (hi : i < l.length) → (0 ≤ l[i] ∧ l[i] ≤ 239) ∧ (0 < i → nth l (i - 1) < l[i]) := fun i hi => by
    have := k i hi
    rw [visG, nth_get hi] at this
    split at this
    · cases this
    split at this
    · cases this
    rename_i h3 h4
    exact ⟨by omega, fun h0 => by omega⟩
  refine ⟨List.length_pos_iff.2 h1, by omega, fun v hv => ?_, ?_⟩
  · obtain ⟨i, hi, rfl⟩ := List.getElem_of_mem hv
    exact (k1 i hi).1
  · have step : ∀ i d, (h : i + (d + 1) < l.length) → l[i] < l[i + (d + 1)] := by
      intro i d
      induction d with
      | zero => intro h; have := (k1 (i + 1) h).2 (by omega); rwa [Nat.add_sub_cancel, nth_get (show i < l.length by omega)] at this
      | succ d ih =>
        intro h
        have h1 := ih (by omega)
        have h2 := (k1 (i + (d + 1) + 1) h).2 (by omega)
        rw [Nat.add_sub_cancel, nth_get (show i + (d + 1) < l.length by omega)] at h2
        exact Int.lt_trans h1 h2
    rw [List.pairwise_iff_getElem]
    intro i j hi hj hij
    obtain ⟨d, rfl⟩ : ∃ d, j = i + (d + 1) := ⟨j - i - 1, by omega⟩
    exact step i d hj
set_option maxHeartbeats 4000000 in
theorem checkVisits_ok (l : List Int) : ACalls Tryd.prog 31 [ints l] [] (fun r o => r = I (visErr l) ∧ o = []) := by
 refine ACalls.len (l := l.map I) (by simp) ⟨_, Tryd.func31, by kernel_rfl, by kernel_rfl⟩ fun hl => ?_
 simp [maxLen_val] at hl
 have F := Fx.nil
 refine ent Tryd.func31 Tryd.ntmps31 Tryd.results31 ?_
 refine rK [0] ?_
 refine W.seqk fun K1 hK1 => ?_
 refine W.block ?_
 refine rK [0, 5] ?_
 refine it (fun hc1 => ?_) (fun hc1 => ?_)
 ·
  try simp at hc1
  replace F := F.add hc1
  refine rK [2] ?_
  refine W.ret ?_
  refine br (tr ?_)
  clear hK1 K1
  refine er false [] [] ?_
  exact ⟨congrArg I (by rw [visErr, if_pos (by simpa using hc1)]), rfl⟩
 ·
  try simp at hc1
  replace F := F.add hc1
  refine rK [0, 9] ?_
  refine it (fun hc2 => ?_) (fun hc2 => ?_)
  ·
   try simp at hc2
   replace F := F.add hc2
   refine rK [2] ?_
   refine W.ret ?_
   refine br (tr ?_)
   clear hK1 K1
   refine er false [] [] ?_
   exact ⟨congrArg I (by rw [visErr, if_neg (by simpa using hc1), if_pos (by omega)]), rfl⟩
  ·
   try simp at hc2
   replace F := F.add hc2
   refine W.skip ?_
   refine hK1 _ ?_
   clear hK1 K1
   refine W.seqk fun K2 hK2 => ?_
   refine rK [0, 13, 14, 15] ?_
   refine W.block ?_
   refine lpa (α := Nat) [0, 13, 14] [22] [] (fun i => [(15, I i)]) (fun i => []) (fun i => i ≤ l.length ∧ ∀ j, j < i → visG l j = 0) (fun i => l.length - i) 0 v0 ?_
   ·
    intro i hI0
    simp only [List.cons_append, List.nil_append]
    try dsimp only at hI0
    obtain ⟨hi, hm1⟩ := hI0
    replace F := F.add hi
    refine rK [0, 13, 14, 15, 16] ?_
    refine W.seqk fun K3 hK3 => ?_
    refine it (fun hc3 => ?_) (fun hc3 => ?_)
    ·
     try simp at hc3
     replace F := F.add hc3
     refine W.skip ?_
     refine hK3 _ ?_
     clear hK3 K3
     refine W.seqk fun K4 hK4 => ?_
     refine W.block ?_
     have hil : i < l.length := by omega
     have hib : i - 1 < l.length := by omega
     have qe := visG_get hil hib
     replace F := F.add hil |>.add hib
     refine rK [0, 3, 4, 13, 14, 15] ?_
     refine W.block ?_
     refine W.seqR ?_
     refine oN 1 ?_
     refine oC [] ?_
     refine ct (in_ok _ _ _) ?_
     refine oN 2 ?_
     refine oK [0, 3, 4, 13, 14, 15, 20] ?_
     refine it (fun hc4 => ?_) (fun hc4 => ?_)
     ·
      try simp at hc4
      replace F := F.add hc4
      refine rK [2] ?_
      refine W.ret ?_
      refine br (br (tr (tr (br (tr ?_)))))
      clear hK4 K4 hK2 K2
      refine er false [] [] ?_
      exact ⟨congrArg I (visErr_hit (by omega) hil hm1 (by rw [qe]; (repeat' split) <;> first | rfl | omega) (by decide)).symm, rfl⟩
     ·
      try simp at hc4
      replace F := F.add hc4
      by_cases h0 : 0 < i
      ·
       replace F := F.add h0
       have him : (i : Int) - 1 = ((i - 1 : Nat) : Int) := by omega
       replace F := F.add him
       refine W.seqR ?_
       refine oN 3 ?_
       refine gT ?_
       refine gT ?_
       refine gT ?_
       refine gTw ?_
       refine gT ?_
       refine gT ?_
       refine gT ?_
       refine oN 2 ?_
       refine oK [0, 13, 14, 15, 24] ?_
       refine it (fun hc5 => ?_) (fun hc5 => ?_)
       ·
        try simp at hc5
        replace F := F.add hc5
        refine rK [2] ?_
        refine W.ret ?_
        refine br (br (tr (tr (br (tr ?_)))))
        clear hK4 K4 hK2 K2
        refine er false [] [] ?_
        exact ⟨congrArg I (visErr_hit (by omega) hil hm1 (by rw [qe]; (repeat' split) <;> first | rfl | omega) (by decide)).symm, rfl⟩
       ·
        try simp at hc5
        replace F := F.add hc5
        refine W.skip ?_
        refine hK4 _ ?_
        clear hK4 K4
        refine rEw ?_
        refine ⟨i + 1, lf0, ?_, v0⟩
        ·
         exact ⟨by omega, zero_snoc hm1 (by rw [qe]; (repeat' split) <;> first | rfl | omega)⟩
      ·
       replace F := F.add h0
       refine W.seqR ?_
       refine oN 3 ?_
       refine gF ?_
       refine gF ?_
       refine gF ?_
       refine gF ?_
       refine gF ?_
       refine gF ?_
       refine gF ?_
       refine oN 2 ?_
       refine oK [0, 13, 14, 15, 24] ?_
       refine cF ?_
       refine W.skip ?_
       refine hK4 _ ?_
       clear hK4 K4
       refine rEw ?_
       refine ⟨i + 1, lf0, ?_, v0⟩
       ·
        exact ⟨by omega, zero_snoc hm1 (by rw [qe]; (repeat' split) <;> first | rfl | omega)⟩
    ·
     try simp at hc3
     replace F := F.add hc3
     refine W.exit ?_
     refine hK2 _ ?_
     clear hK3 K3 hK2 K2
     refine rK [2] ?_
     refine W.ret ?_
     refine er false [] [] ?_
     exact ⟨congrArg I (visErr_done (by simpa using hc1) (by omega) (by omega) hm1).symm, rfl⟩
def fillPE (c : Cel) (b : Int) (vs : List Int) (g u : Int) : Int := if checkC c ≠ 0 then checkC c else if ¬ (0 ≤ b ∧ b ≤ (c.boxes.length : Int) - 1) then 3 else if visErr vs ≠ 0 then visErr vs else if ¬ ((1 ≤ g ∧ g ≤ 100000) ∧ (1 ≤ u ∧ u ≤ 240)) then 1 else 0
def fillX (c : Cel) (b : Int) (vs : List Int) (g u : Int) : Option (List Int) := if fillPE c b vs g u = 0 then fillC c b.toNat vs g u else none
def fillE (c : Cel) (b : Int) (vs : List Int) (g u : Int) : Int := if fillPE c b vs g u ≠ 0 then fillPE c b vs g u else if fillC c b.toNat vs g u = none then 3 else 0
theorem fillX_no {c : Cel} {b : Int} {vs : List Int} {g u : Int} (h : ¬ fillPE c b vs g u = 0) : fillX c b vs g u = none ∧ fillE c b vs g u = fillPE c b vs g u := by rw [fillX, fillE, if_neg h, if_pos h]; exact ⟨rfl, rfl⟩
theorem fillX_yes {c : Cel} {b : Int} {vs : List Int} {g u : Int} (h : fillPE c b vs g u = 0) : fillX c b vs g u = fillC c b.toNat vs g u ∧ fillE c b vs g u = if fillC c b.toNat vs g u = none then 3 else 0 := by rw [fillX, fillE, if_pos h, if_neg (fun k => k h)]; exact ⟨rfl, rfl⟩
theorem fillPE_ok {c : Cel} {b : Int} {vs : List Int} {g u : Int} (h : fillPE c b vs g u = 0) : ValidC c ∧ (∃ bn : Nat, b = bn ∧ bn < c.boxes.length) ∧ (0 < vs.length ∧ vs.length ≤ 6 ∧ VisitsOk vs) ∧ (1 ≤ g ∧ g ≤ 100000) ∧ ∃ un : Nat, u = un ∧ 1 ≤ un ∧ un ≤ 240 := by
  unfold fillPE at h
  split at h
  · contradiction
  split at h
  · cases h
  split at h
  · contradiction
  split at h
  · cases h
  rename_i h1 h2 h3 h4
  exact ⟨checkC_zero.1 (Classical.not_not.1 h1), ⟨b.toNat, by omega, by omega⟩, visErr_ok (Classical.not_not.1 h3), by omega, u.toNat, by omega, by omega, by omega⟩
theorem fill_err {c : Cel} {b : Int} {vs : List Int} {g u e : Int} (h : fillPE c b vs g u = e) (h0 : e ≠ 0) : AV.tup [.val (.slice none 0 0), I e] = AV.tup [optV (fillX c b vs g u), I (fillE c b vs g u)] := by
  obtain ⟨k1, k2⟩ := fillX_no (by rw [h]; exact h0)
  rw [k1, k2, h]; rfl
set_option maxHeartbeats 4000000 in
theorem Fill_ok (c : Cel) (b : Int) (vs : List Int) (g u : Int) : ACalls Tryd.prog 16 [celV c, I b, ints vs, I g, I u] [] (fun r o => r = .tup [optV (fillX c b vs g u), I (fillE c b vs g u)] ∧ o = []) := by
 refine ACalls.lenA (xs := [I c.hall.lo, I c.hall.hi, boxesV c.boxes, filsV c.fils, ratsV c.rats]) (l := c.boxes.map B9) (by simp) (by simp) ⟨_, Tryd.func16, by kernel_rfl, by kernel_rfl⟩ fun hl1 => ?_
 simp [maxLen_val] at hl1
 have F := Fx.nil
 refine ent Tryd.func16 Tryd.ntmps16 Tryd.results16 ?_
 refine rK [5, 6, 7, 8, 9] ?_
 refine W.seqk fun K1 hK1 => ?_
 refine W.seqR ?_
 refine oN 1 ?_
 refine oC [] ?_
 refine ct (Check_ok ⟨⟨_, _⟩, _, _, _⟩) ?_
 refine oN 1 ?_
 refine oK [5, 6, 7, 8, 9, 12] ?_
 refine rK [5, 6, 7, 8, 9, 12, 20] ?_
 refine it (fun hc1 => ?_) (fun hc1 => ?_)
 ·
  try simp at hc1
  replace F := F.add hc1
  refine rK [10, 11] ?_
  refine W.ret ?_
  refine tr ?_
  clear hK1 K1
  refine er false [] [] ?_
  exact ⟨fill_err (by rw [fillPE, if_pos hc1]) hc1, rfl⟩
 ·
  try simp at hc1
  replace F := F.add hc1
  refine W.skip ?_
  refine hK1 _ ?_
  clear hK1 K1
  refine W.seqk fun K2 hK2 => ?_
  refine W.seqR ?_
  refine oNw 5 ?_
  refine oC [] ?_
  refine ct (in_ok _ _ _) ?_
  refine oN 1 ?_
  refine oK [5, 6, 7, 8, 9, 28] ?_
  refine it (fun hc2 => ?_) (fun hc2 => ?_)
  ·
   try simp at hc2
   replace F := F.add hc2
   refine rK [10, 11] ?_
   refine W.ret ?_
   refine tr ?_
   clear hK2 K2
   refine er false [] [] ?_
   exact ⟨fill_err (by rw [fillPE, if_neg (fun k => k hc1), if_pos (by omega)]) (by decide), rfl⟩
  ·
   try simp at hc2
   replace F := F.add hc2
   refine W.skip ?_
   refine hK2 _ ?_
   clear hK2 K2
   refine W.seqk fun K3 hK3 => ?_
   refine W.seqR ?_
   refine oN 1 ?_
   refine oC [] ?_
   refine ct (checkVisits_ok _) ?_
   refine oN 1 ?_
   refine oK [5, 6, 7, 8, 9, 13] ?_
   refine rK [5, 6, 7, 8, 9, 13, 32] ?_
   refine it (fun hc3 => ?_) (fun hc3 => ?_)
   ·
    try simp at hc3
    replace F := F.add hc3
    refine rK [10, 11] ?_
    refine W.ret ?_
    refine tr ?_
    clear hK3 K3
    refine er false [] [] ?_
    exact ⟨fill_err (by rw [fillPE, if_neg (fun k => k hc1), if_neg (by omega), if_pos hc3]) hc3, rfl⟩
   ·
    try simp at hc3
    replace F := F.add hc3
    refine W.skip ?_
    refine hK3 _ ?_
    clear hK3 K3
    refine W.seqk fun K4 hK4 => ?_
    by_cases hgg : 1 ≤ g ∧ g ≤ 100000
    ·
     replace F := F.add hgg
     refine W.seqR ?_
     refine oN 1 ?_
     refine oC [] ?_
     refine ct (in_ok _ _ _) ?_
     refine oN 2 ?_
     refine gT ?_
     refine gC [] ?_
     refine ct (in_ok _ _ _) ?_
     refine gT ?_
     refine oN 1 ?_
     refine oK [5, 6, 7, 8, 9, 41] ?_
     refine it (fun hc4 => ?_) (fun hc4 => ?_)
     ·
      try simp at hc4
      replace F := F.add hc4
      refine rK [10, 11] ?_
      refine W.ret ?_
      refine tr ?_
      clear hK4 K4
      refine er false [] [] ?_
      exact ⟨fill_err (by rw [fillPE, if_neg (fun k => k hc1), if_neg (by omega), if_neg (fun k => k hc3), if_pos (by omega)]) (by decide), rfl⟩
     ·
      try simp at hc4
      replace F := F.add hc4
      refine W.skip ?_
      refine hK4 _ ?_
      clear hK4 K4
      have qe : fillPE c b vs g u = 0 := by rw [fillPE, if_neg (fun k => k hc1), if_neg (by omega), if_neg (fun k => k hc3), if_neg (by omega)]
      obtain ⟨qv, ⟨bn, qbn, qbl⟩, ⟨q0, q6, qvs⟩, qg, un, qun, qu1, qu2⟩ := fillPE_ok qe
      have hbn := qbn
      have hun := qun
      have h6 : vs.length ≤ 6 := q6
      obtain ⟨qX, qE⟩ := fillX_yes qe
      have qF := try_fill (c := c) (b := bn) (grams := g) (til := (un : Int)) qvs
      have qb : b.toNat = bn := by omega
      replace F := F.add hbn |>.add hun |>.add h6
      refine rK [5, 6, 7, 8, 9, 14] ?_
      refine rK [7, 14] ?_
      refine W.seqk fun K5 hK5 => ?_
      refine rKw [14, 46, 47] ?_
      refine W.block ?_
      refine lpa (α := Nat) [14, 46] [52] [] (fun n => [(47, I n)]) (fun n => []) (fun n => n ≤ 5 * vs.length + 1 ∧ firstN (fun m => tryF (okF c bn vs g un) (prF c bn vs g un) vs.length [] m) 0 (5 * vs.length + 1) = firstN (fun m => tryF (okF c bn vs g un) (prF c bn vs g un) vs.length [] m) n (5 * vs.length + 1 - n)) (fun n => 5 * vs.length + 1 - n) 0 v0 ?_
      ·
       intro n hI0
       simp only [List.cons_append, List.nil_append]
       try dsimp only at hI0
       obtain ⟨hn, hfn⟩ := hI0
       replace F := F.add hn
       refine rK [14, 46, 47, 48] ?_
       refine W.seqk fun K6 hK6 => ?_
       refine it (fun hc5 => ?_) (fun hc5 => ?_)
       ·
        try simp at hc5
        replace F := F.add hc5
        refine W.skip ?_
        refine hK6 _ ?_
        clear hK6 K6
        refine W.seqk fun K7 hK7 => ?_
        refine W.block ?_
        refine rK [14, 15, 46, 47] ?_
        obtain ⟨o, qo⟩ : ∃ o, o = tryF (okF c bn vs g un) (prF c bn vs g un) vs.length [] (n : Int) := ⟨_, rfl⟩
        have ihn := Fill1_ok c qv bn qbl vs q6 qvs.1 g (by omega) un qu2 vs.length [] (by simp) (fun k hk => by cases hk) (n : Int) (by omega)
        rw [← qo] at ihn
        have qT1 : 5 * vs.length + 1 - n = (5 * vs.length + 1 - (n + 1)) + 1 := by omega
        refine W.seqR ?_
        refine oN 2 ?_
        refine oC [(10000, 56), (10001, 40), (10002, 48), (10003, 64), (10004, 72), (10005, 112)] ?_
        refine ct (ihn) ?_
        refine oN 1 ?_
        refine oK [14, 16, 46, 47] ?_
        by_cases hon : o = none
        ·
         replace F := F.add hon
         have hov : optV o = .val (.slice none 0 0) := by rw [hon]; rfl
         replace F := F.add hov
         refine rK [14, 16, 46, 47, 54] ?_
         refine cF ?_
         refine W.skip ?_
         refine hK7 _ ?_
         clear hK7 K7
         refine rEw ?_
         refine ⟨n + 1, lf0, ?_, v0⟩
         ·
          refine ⟨by omega, ?_⟩
          rw [hfn, qT1, firstN_cons_none (qo.symm.trans hon), Int.natCast_add]; rfl
        ·
         replace F := F.add hon
         obtain ⟨x, xs, qx⟩ : ∃ x xs, o = some (x :: xs) := by
           cases hq : o with
           | none => exact absurd hq hon
           | some l =>
             have h1 := tryF_len (qo.symm.trans hq)
             cases l with
             | nil =>
               simp only [List.length_nil] at h1
               omega
             | cons x xs => exact ⟨x, xs, rfl⟩
         have hov : optV o = .imm (I x :: xs.map I) := by rw [qx]; rfl
         replace F := F.add hov
         refine rK [14, 16, 46, 47, 54] ?_
         refine cT ?_
         refine rK [10, 11] ?_
         refine W.ret ?_
         refine br (tr (tr (br (tr ?_))))
         clear hK7 K7 hK5 K5
         refine er false [] [] ?_
         have e : fillC c bn vs g un = some (x :: xs) := by rw [← qF]; exact hfn.trans (by rw [qT1]; exact firstN_cons_some (qo.symm.trans qx))
         exact ⟨by rw [qX, qE, qb, qun, e]; rfl, rfl⟩
       ·
        try simp at hc5
        replace F := F.add hc5
        refine W.exit ?_
        refine hK5 _ ?_
        clear hK6 K6 hK5 K5
        refine rK [10, 11] ?_
        refine W.ret ?_
        refine er false [] [] ?_
        have e : fillC c bn vs g un = none := by rw [← qF, hfn, show 5 * vs.length + 1 - n = 0 by omega]; rfl
        exact ⟨by rw [qX, qE, qb, qun, e]; rfl, rfl⟩
    ·
     replace F := F.add hgg
     refine W.seqR ?_
     refine oN 1 ?_
     refine oC [] ?_
     refine ct (in_ok _ _ _) ?_
     refine oN 2 ?_
     refine gF ?_
     refine gF ?_
     refine gF ?_
     refine oN 1 ?_
     refine oK [5, 6, 7, 8, 9, 41] ?_
     refine cT ?_
     refine rK [10, 11] ?_
     refine W.ret ?_
     refine tr ?_
     clear hK4 K4
     refine er false [] [] ?_
     exact ⟨fill_err (by rw [fillPE, if_neg (fun k => k hc1), if_neg (by omega), if_neg (fun k => k hc3), if_pos (by omega)]) (by decide), rfl⟩
end Go.Sim
