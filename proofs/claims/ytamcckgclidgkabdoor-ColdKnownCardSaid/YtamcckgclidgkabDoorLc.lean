/- Ice in a box, hour by hour. -/
import Derived.Test.YtamcckgclidgkabDoorLa
import Derived.Test.YtamcckgclidgkabDoorQb
namespace Go.Sim
open Go.Proofs
set_option maxRecDepth 100000
set_option linter.unusedSimpArgs false
set_option linter.unusedVariables false
attribute [-simp] List.map_set List.map_take List.map_drop
/-- a box with its ice -/
abbrev storeC (b : CBox) (lo hi : Int) : List AV := [I b.room, I b.ice.lo, I b.ice.hi, I b.melt.lo, I b.melt.hi, I b.cld.lo, I b.cld.hi, I b.wrm.lo, I b.wrm.hi, I lo, I hi]
set_option maxHeartbeats 4000000 in
theorem put_ok (b : CBox) (lo hi g : Int) (h1 : 0 ≤ lo ∧ lo ≤ 100000) (h2 : 0 ≤ hi ∧ hi ≤ 100000) (h3 : 0 ≤ g ∧ g ≤ 100000) : ACalls Tryd.prog 50 [.agg (storeC b lo hi), I g] [] (fun r o => r = .agg [I (min b.room (lo + g)), I (min b.room (hi + g))] ∧ o = []) := by
 have F := Fx.nil
 replace F := F.add h1 |>.add h2 |>.add h3
 refine ent Tryd.func50 Tryd.ntmps50 Tryd.results50 ?_
 refine rK [1, 2, 4] ?_
 refine W.seqk fun K1 hK1 => ?_
 refine rK [1, 2, 4, 6] ?_
 refine W.block ?_
 refine lpa (α := Nat × Int × Int) [1, 2, 4] [19] [16] (fun x => [(6, I x.1)]) (fun x => [(16, .row false 110 11 [.agg (storeC b x.2.1 x.2.2)])]) (fun x => (x.1 = 0 ∧ x.2.1 = lo ∧ x.2.2 = hi) ∨ (x.1 = 1 ∧ x.2.1 = min b.room (lo + g) ∧ x.2.2 = hi) ∨ (x.1 = 2 ∧ x.2.1 = min b.room (lo + g) ∧ x.2.2 = min b.room (hi + g))) (fun x => 2 - x.1) (0, lo, hi) v0 ?_
 ·
  intro ⟨i, u, v⟩ hI0
  simp only [List.cons_append, List.nil_append]
  try dsimp only at hI0
  replace F := F.add hI0
  refine rK [1, 2, 4, 6, 7] ?_
  refine W.seqk fun K2 hK2 => ?_
  refine it (fun hc1 => ?_) (fun hc1 => ?_)
  ·
   try simp at hc1
   replace F := F.add hc1
   refine W.skip ?_
   refine hK2 _ ?_
   clear hK2 K2
   refine W.seqk fun K3 hK3 => ?_
   refine W.block ?_
   by_cases he : i = 0
   ·
    replace F := F.add he
    refine rK [1, 2, 4, 5, 6] ?_
    refine wDe 12 [] [[], [], [1], [1, 2], [], [], [4, 5], [5, 4, 6], [], [8, 6, 4, 5, 7], [7, 5, 4, 6, 8, 9, 2, 1, 3], [], [10, 9, 8, 7, 6, 5, 4, 3, 2, 1, 0, 11], [11, 0, 1, 2, 3, 4, 5, 6, 7, 8, 9, 10, 12]] ?_
    refine dBw [([10, 11, 12, 13, 14, 15, 16, 17, 18, 19, 20], [], []), ([9, 13, 14, 15, 16, 17, 18, 20], [false], []), ([9, 13, 14, 15, 16, 17, 18, 20], [false, true], []), ([9, 13, 14, 15, 16, 17, 18, 20], [false, true, true], []), ([9, 10, 11, 12, 14, 17, 20], [false, false, false, false], []), ([9, 10, 11, 12, 13, 17, 20], [false, false, false, false, false], []), ([9, 10, 11, 12, 17, 20], [false, false, false, false, true, true], []), ([9, 10, 11, 12, 17, 20], [false, false, false, false, true, true, true], []), ([9, 10, 11, 12, 13, 14, 15, 16, 20], [false, false, false, false, false, false, false, false], []), ([9, 10, 11, 12, 20], [false, false, false, false, true, true, true, true, true], []), ([9, 20], [false, true, true, true, true, true, true, true, true, true], []), ([9, 10, 11, 12, 13, 14, 15, 16, 17, 18, 19], [false, false, false, false, false, false, false, false, false, false, false], [])] 0 12 ?_
    refine dD ?_
    refine oN 2 ?_
    refine WOps.endK ?_
    refine hK3 _ ?_
    clear hK3 K3
    refine rEw ?_
    refine ⟨(1, min b.room (lo + g), v), lf0, v0, v0⟩
   ·
    replace F := F.add he
    have hi1 : i = 1 := by omega
    replace F := F.add hi1
    refine rK [1, 2, 4, 5, 6] ?_
    refine wDe 12 [] [[], [], [1], [1, 2], [], [], [4, 5], [5, 4, 6], [], [8, 6, 4, 5, 7], [7, 5, 4, 6, 8, 9, 2, 1, 3], [], [10, 9, 8, 7, 6, 5, 4, 3, 2, 1, 0, 11], [11, 0, 1, 2, 3, 4, 5, 6, 7, 8, 9, 10, 12]] ?_
    refine dBw [([10, 11, 12, 13, 14, 15, 16, 17, 18, 19, 20], [], []), ([9, 13, 14, 15, 16, 17, 18, 20], [false], []), ([9, 13, 14, 15, 16, 17, 18, 20], [false, true], []), ([9, 13, 14, 15, 16, 17, 18, 20], [false, true, true], []), ([9, 10, 11, 12, 14, 17, 20], [false, false, false, false], []), ([9, 10, 11, 12, 13, 17, 20], [false, false, false, false, false], []), ([9, 10, 11, 12, 17, 20], [false, false, false, false, true, true], []), ([9, 10, 11, 12, 17, 20], [false, false, false, false, true, true, true], []), ([9, 10, 11, 12, 13, 14, 15, 16, 20], [false, false, false, false, false, false, false, false], []), ([9, 10, 11, 12, 20], [false, false, false, false, true, true, true, true, true], []), ([9, 20], [false, true, true, true, true, true, true, true, true, true], []), ([9, 10, 11, 12, 13, 14, 15, 16, 17, 18, 19], [false, false, false, false, false, false, false, false, false, false, false], [])] 0 12 ?_
    refine dD ?_
    refine oN 2 ?_
    refine WOps.endK ?_
    refine hK3 _ ?_
    clear hK3 K3
    refine rEw ?_
    refine ⟨(2, u, min b.room (hi + g)), lf0, v0, v0⟩
  ·
   try simp at hc1
   replace F := F.add hc1
   refine W.exit ?_
   refine hK1 _ ?_
   clear hK2 K2 hK1 K1
   refine rK [4] ?_
   refine W.ret ?_
   exact er0 false [] []
set_option maxHeartbeats 4000000 in
theorem melted_ok (b : CBox) (lo hi : Int) (h1 : 0 ≤ lo ∧ lo ≤ 100000) (h2 : 0 ≤ hi ∧ hi ≤ 100000) (h3 : 0 ≤ b.melt.lo ∧ b.melt.lo ≤ 100000) (h4 : 0 ≤ b.melt.hi ∧ b.melt.hi ≤ 100000) : ACalls Tryd.prog 51 [.agg (storeC b lo hi)] [] (fun r o => r = .agg [I (max 0 (lo - b.melt.hi)), I (max 0 (hi - b.melt.lo))] ∧ o = []) := by
 have F := Fx.nil
 replace F := F.add h1 |>.add h2 |>.add h3 |>.add h4
 refine ent Tryd.func51 Tryd.ntmps51 Tryd.results51 ?_
 refine rK [1, 2] ?_
 refine rKw [2] ?_
 refine W.ret ?_
 exact er0 false [] []
set_option maxHeartbeats 4000000 in
theorem verdict_ok (a b : Bool) : ACalls Tryd.prog 27 [B a, B b] [] (fun r o => r = I (verd a b) ∧ o = []) := by
 have F := Fx.nil
 refine ent Tryd.func27 Tryd.ntmps27 Tryd.results27 ?_
 refine rK [0, 1] ?_
 refine W.seqk fun K1 hK1 => ?_
 refine W.block ?_
 refine rK [1, 5] ?_
 refine it (fun hc1 => ?_) (fun hc1 => ?_)
 ·
  try simp at hc1
  replace F := F.add hc1
  refine rK [4] ?_
  refine W.ret ?_
  refine br (tr ?_)
  clear hK1 K1
  refine er false [] [] ?_
  subst_vars
  exact ⟨rfl, rfl⟩
 ·
  try simp at hc1
  replace F := F.add hc1
  refine rK [7] ?_
  refine it (fun hc2 => ?_) (fun hc2 => ?_)
  ·
   try simp at hc2
   replace F := F.add hc2
   refine rK [4] ?_
   refine W.ret ?_
   refine br (tr ?_)
   clear hK1 K1
   refine er false [] [] ?_
   subst_vars
   exact ⟨rfl, rfl⟩
  ·
   try simp at hc2
   replace F := F.add hc2
   refine W.skip ?_
   refine hK1 _ ?_
   clear hK1 K1
   refine rK [4] ?_
   refine W.ret ?_
   refine er false [] [] ?_
   subst_vars
   exact ⟨rfl, rfl⟩
set_option maxHeartbeats 4000000 in
theorem cold_ok (x : Spn) : ACalls Tryd.prog 23 [spnV x] [] (fun r o => r = I (coldV x) ∧ o = []) := by
 have F := Fx.nil
 refine ent Tryd.func23 Tryd.ntmps23 Tryd.results23 ?_
 refine rK [1] ?_
 refine W.seqR ?_
 refine oN 6 ?_
 refine oC [] ?_
 refine ct (verdict_ok _ _) ?_
 refine oN 1 ?_
 refine oK [2] ?_
 refine W.ret ?_
 refine er false [] [] ?_
 exact ⟨rfl, rfl⟩
set_option maxHeartbeats 4000000 in
theorem hours_ok (c : Cel) (b : Int) : ACalls Tryd.prog 36 [celV c, I b] [] (fun r o => r = .clo 49 [.ptr 20000 0 0, .ptr 20001 0 0] ∧ o = [(20000, .row false 28 5 [celV c]), (20001, .row false 3 1 [I b])]) := by
 have F := Fx.nil
 refine ent Tryd.func36 Tryd.ntmps36 Tryd.results36 ?_
 refine rK [2, 3] ?_
 refine rK [4] ?_
 refine W.ret ?_
 exact er0 false [] [(20000, 16), (20001, 24)]
def preL (room b : Int) (l : List Fil) (m : Nat → Int) (x : Int) : Nat → Int
  | 0 => x
  | h + 1 => max 0 (fallN room b l m x h - m h)
theorem fallN_pre {room b : Int} {l : List Fil} {m : Nat → Int} {x : Int} : ∀ h : Nat, fallN room b l m x h = putAll room b h l (preL room b l m x h)
  | 0 => rfl
  | h + 1 => rfl
/-- enough to reckon the ice -/
structure IceC (c : Cel) : Prop where
  bx : ∀ b ∈ c.boxes, BoxOk b
  gr : ∀ f ∈ c.fils, 0 ≤ f.grams ∧ f.grams ≤ 100000
  n : c.fils.length ≤ 1000000
theorem ValidC.iceC {c : Cel} (h : ValidC c) : IceC c := ⟨h.bx, fun f hf => (h.fl f hf).grams, by have := h.f20; omega⟩
def preLo (c : Cel) (b h : Nat) : Int := preL (nth c.boxes b).room b c.fils (fun _ => (nth c.boxes b).melt.hi) (nth c.boxes b).ice.lo h
def preHi (c : Cel) (b h : Nat) : Int := preL (nth c.boxes b).room b c.fils (fun _ => (nth c.boxes b).melt.lo) (nth c.boxes b).ice.hi h
theorem iceLo_pre {c : Cel} {b : Nat} (h : Nat) : iceLo c b h = putAll (nth c.boxes b).room b h c.fils (preLo c b h) := fallN_pre h
theorem iceHi_pre {c : Cel} {b : Nat} (h : Nat) : iceHi c b h = putAll (nth c.boxes b).room b h c.fils (preHi c b h) := fallN_pre h
theorem preLo_succ {c : Cel} {b : Nat} (h : Nat) : preLo c b (h + 1) = max 0 (iceLo c b h - (nth c.boxes b).melt.hi) := rfl
theorem preHi_succ {c : Cel} {b : Nat} (h : Nat) : preHi c b (h + 1) = max 0 (iceHi c b h - (nth c.boxes b).melt.lo) := rfl
theorem iceIn {c : Cel} (h : IceC c) {b : Nat} (hb : b < c.boxes.length) (t : Nat) : (0 ≤ iceLo c b t ∧ iceLo c b t ≤ (nth c.boxes b).room) ∧ (0 ≤ iceHi c b t ∧ iceHi c b t ≤ (nth c.boxes b).room) := by
  have hk : BoxOk (nth c.boxes b) := by rw [nth_get hb]; exact h.bx _ (List.getElem_mem hb)
  have h1 := hk.ice
  have h2 := hk.melt
  exact ⟨fallN_in hk.room.1 (fun f hf => (h.gr f hf).1) (by omega) (by omega) (fun _ => by omega) t, fallN_in hk.room.1 (fun f hf => (h.gr f hf).1) (by omega) (by omega) (fun _ => by omega) t⟩
set_option maxHeartbeats 4000000 in
theorem hours1_ok (c : Cel) (hv : IceC c) (b : Nat) (hb : b < c.boxes.length) (lp : Nat) (J : Nat → Fgn) (stop : Nat → Bool) (hy : ∀ (k : Nat), k < 240 → (∀ j, j < k → stop j = false) → YieldV Tryd.prog lp (J k) [I k, .agg [I (iceLo c b k), I (iceHi c b k)]] (fun t J' => t = !stop k ∧ J' = J (k + 1))) : ACalls Tryd.prog 49 [.yld 19999, .ptr 10000 0 0, .ptr 10001 0 0] [(19999, .ext lp (J 0)), (10000, .row false 28 5 [celV c]), (10001, .row false 3 1 [I b])] (fun _ o => o = [(19999, .ext lp (J (rounds stop 240))), (10000, .row false 28 5 [celV c]), (10001, .row false 3 1 [I b])]) := by
 have F := Fx.nil
 replace F := F.add hb
 refine ent Tryd.func49 Tryd.ntmps49 Tryd.results49 ?_
 obtain ⟨B, qB⟩ : ∃ B, B = nth c.boxes b := ⟨_, rfl⟩
 have hB : c.boxes[b] = B := by rw [qB, nth_get hb]
 have qk : BoxOk B := by rw [← hB]; exact hv.bx _ (List.getElem_mem hb)
 have qr := qk.room
 have qi := qk.ice
 have qm := qk.melt
 have qn := hv.n
 have qin := fun t => iceIn hv hb t
 replace F := F.add hB
 refine rK [0, 1, 2, 4] ?_
 refine rK [0, 1, 2, 5] ?_
 refine rK [0, 1, 2, 5, 23] ?_
 refine W.block ?_
 refine lpa (α := Nat × Int × Int) [0, 1, 2, 5] [8, 28, 46, 53, 56] [40, 19999] (fun x => [(23, I x.1)]) (fun x => [(40, .row false 110 11 [.agg (storeC B x.2.1 x.2.2)]), (19999, .ext lp (J x.1))]) (fun x => x.1 ≤ 240 ∧ (x.2.1 = preLo c b x.1 ∧ x.2.2 = preHi c b x.1) ∧ (0 ≤ x.2.1 ∧ x.2.1 ≤ 100000) ∧ (0 ≤ x.2.2 ∧ x.2.2 ≤ 100000) ∧ ∀ j, j < x.1 → stop j = false) (fun x => 240 - x.1) (0, B.ice.lo, B.ice.hi) ?_ ?_
 ·
  exact ⟨Nat.zero_le _, ⟨by rw [qB]; rfl, by rw [qB]; rfl⟩, by show 0 ≤ B.ice.lo ∧ B.ice.lo ≤ 100000; omega, by show 0 ≤ B.ice.hi ∧ B.ice.hi ≤ 100000; omega, fun j hj => absurd hj (Nat.not_lt_zero _)⟩
 ·
  intro ⟨h, u0, v0'⟩ hI0
  simp only [List.cons_append, List.nil_append]
  try dsimp only at hI0
  obtain ⟨hh, qpre, hu0, hv0, hbef⟩ := hI0
  replace F := F.add hh |>.add hu0 |>.add hv0
  refine rK [0, 1, 2, 5, 23, 24] ?_
  refine W.seqk fun K1 hK1 => ?_
  refine it (fun hc1 => ?_) (fun hc1 => ?_)
  ·
   try simp at hc1
   replace F := F.add hc1
   refine W.skip ?_
   refine hK1 _ ?_
   clear hK1 K1
   refine W.seqk fun K2 hK2 => ?_
   refine W.block ?_
   refine rK [0, 1, 2, 5, 6, 23] ?_
   refine W.seqk fun K3 hK3 => ?_
   refine rK [0, 1, 2, 5, 6, 23, 27, 28, 29] ?_
   refine W.block ?_
   refine lpa (α := Nat × Int × Int) [0, 1, 2, 5, 6, 23, 27, 28] [8, 46] [40] (fun x => [(29, I x.1)]) (fun x => [(40, .row false 110 11 [.agg (storeC B x.2.1 x.2.2)])]) (fun x => x.1 ≤ c.fils.length ∧ (x.2.1 = putAll B.room b h (c.fils.take x.1) u0 ∧ x.2.2 = putAll B.room b h (c.fils.take x.1) v0') ∧ (0 ≤ x.2.1 ∧ x.2.1 ≤ 100000) ∧ (0 ≤ x.2.2 ∧ x.2.2 ≤ 100000)) (fun x => c.fils.length - x.1) (0, u0, v0') ?_ ?_
   ·
    exact ⟨Nat.zero_le _, ⟨rfl, rfl⟩, hu0, hv0⟩
   ·
    intro ⟨i, u, v⟩ hI1
    simp only [List.cons_append, List.nil_append]
    try dsimp only at hI1
    obtain ⟨hi, qpa, hu, hv1⟩ := hI1
    replace F := F.add hi |>.add hu |>.add hv1
    refine rK [0, 1, 2, 5, 6, 23, 27, 28, 29, 30] ?_
    refine W.seqk fun K4 hK4 => ?_
    refine it (fun hc2 => ?_) (fun hc2 => ?_)
    ·
     try simp at hc2
     replace F := F.add hc2
     refine W.skip ?_
     refine hK4 _ ?_
     clear hK4 K4
     refine W.seqk fun K5 hK5 => ?_
     refine W.block ?_
     have hil : i < c.fils.length := by omega
     have qg := hv.gr _ (List.getElem_mem hil)
     replace F := F.add hil
     refine rK [0, 1, 2, 5, 6, 8, 23, 27, 28, 29] ?_
     refine W.seqR ?_
     refine oN 5 ?_
     refine gX ?_
     refine gX ?_
     refine gX ?_
     refine gX ?_
     refine oN 1 ?_
     refine oK [0, 1, 2, 5, 6, 8, 23, 27, 28, 29, 42] ?_
     refine it (fun hc3 => ?_) (fun hc3 => ?_)
     ·
      try simp at hc3
      replace F := F.add hc3
      refine W.region ?_
      refine oN 3 ?_
      refine oC [] ?_
      refine ct (put_ok B u v c.fils[i].grams hu hv1 qg) ?_
      refine oN 2 ?_
      refine WOps.endK ?_
      refine hK5 _ ?_
      clear hK5 K5
      refine rEw ?_
      refine ⟨(i + 1, min B.room (u + c.fils[i].grams), min B.room (v + c.fils[i].grams)), lf0, ?_, v0⟩
      ·
       refine ⟨by show i + 1 ≤ _; omega, ⟨?_, ?_⟩, ⟨by show 0 ≤ min B.room (u + c.fils[i].grams); omega, by show min B.room (u + c.fils[i].grams) ≤ 100000; omega⟩, ⟨by show 0 ≤ min B.room (v + c.fils[i].grams); omega, by show min B.room (v + c.fils[i].grams) ≤ 100000; omega⟩⟩
       · show _ = putAll _ _ _ (c.fils.take (i + 1)) _
         rw [putAll_snoc hil, if_pos (by simp_all), ← qpa.1]
       · show _ = putAll _ _ _ (c.fils.take (i + 1)) _
         rw [putAll_snoc hil, if_pos (by simp_all), ← qpa.2]
     ·
      try simp at hc3
      replace F := F.add hc3
      refine W.skip ?_
      refine hK5 _ ?_
      clear hK5 K5
      refine rEw ?_
      refine ⟨(i + 1, u, v), lf0, ?_, v0⟩
      ·
       refine ⟨by show i + 1 ≤ _; omega, ⟨?_, ?_⟩, hu, hv1⟩
       · show _ = putAll _ _ _ (c.fils.take (i + 1)) _
         rw [putAll_snoc hil, if_neg (by simp_all), ← qpa.1]
       · show _ = putAll _ _ _ (c.fils.take (i + 1)) _
         rw [putAll_snoc hil, if_neg (by simp_all), ← qpa.2]
    ·
     try simp at hc2
     replace F := F.add hc2
     refine W.exit ?_
     refine hK3 _ ?_
     clear hK4 K4 hK3 K3
     refine W.seqk fun K6 hK6 => ?_
     have qe : c.fils.take i = c.fils := List.take_of_length_le (by omega)
     have qul : u = iceLo c b h := by rw [iceLo_pre, ← qpre.1, ← qB, qpa.1, qe]
     have qvl : v = iceHi c b h := by rw [iceHi_pre, ← qpre.2, ← qB, qpa.2, qe]
     have qy := hy h (by omega) hbef
     rw [← qul, ← qvl] at qy
     refine W.seqR ?_
     refine oN 4 ?_
     refine WOps.yieldV rfl rfl rfl (by simp [hb, hB, hh, hu0, hv0, hc1, hi, hu, hv1, hc2]; all_goals first | rfl | exact ⟨rfl, rfl⟩ | exact ⟨rfl, rfl, rfl⟩) (by simp [hb, hB, hh, hu0, hv0, hc1, hi, hu, hv1, hc2]; all_goals first | rfl | exact ⟨rfl, rfl⟩ | exact ⟨rfl, rfl, rfl⟩) (by simp [hb, hB, hh, hu0, hv0, hc1, hi, hu, hv1, hc2]; all_goals first | rfl | exact ⟨rfl, rfl⟩ | exact ⟨rfl, rfl, rfl⟩) (by rfl) (qy) ?_
     refine WOps.norm (by simp [hb, hB, hh, hu0, hv0, hc1, hi, hu, hv1, hc2]; rfl) ?_
     refine oN 1 ?_
     refine oK [0, 1, 2, 5, 23, 54] ?_
     refine it (fun hc4 => ?_) (fun hc4 => ?_)
     ·
      try simp at hc4
      replace F := F.add hc4
      refine W.ret ?_
      refine tr (br (tr (tr (br ?_))))
      clear hK6 K6 hK2 K2
      refine er false [] [(19999, 19999), (10000, 10000), (10001, 10001)] ?_
      rw [rounds_at (by omega) (by assumption) hbef]
     ·
      try simp at hc4
      replace F := F.add hc4
      refine W.skip ?_
      refine hK6 _ ?_
      clear hK6 K6
      refine W.region ?_
      refine oN 1 ?_
      refine oC [] ?_
      refine ct (melted_ok B u v hu hv1 (by omega) (by omega)) ?_
      refine oN 2 ?_
      refine WOps.endK ?_
      refine hK2 _ ?_
      clear hK2 K2
      refine rEw ?_
      refine ⟨(h + 1, max 0 (u - B.melt.hi), max 0 (v - B.melt.lo)), lf0, ?_, v0⟩
      ·
       refine ⟨by show h + 1 ≤ 240; omega, ⟨?_, ?_⟩, ⟨by show 0 ≤ max 0 (u - B.melt.hi); omega, by show max 0 (u - B.melt.hi) ≤ 100000; omega⟩, ⟨by show 0 ≤ max 0 (v - B.melt.lo); omega, by show max 0 (v - B.melt.lo) ≤ 100000; omega⟩, fun j hj => ?_⟩
       · show _ = preLo c b (h + 1)
         rw [preLo_succ, ← qul, ← qB]
       · show _ = preHi c b (h + 1)
         rw [preHi_succ, ← qvl, ← qB]
       · have hj' : j < h + 1 := hj
         by_cases hjk : j = h
         · subst hjk; assumption
         · exact hbef j (by omega)
  ·
   try simp at hc1
   replace F := F.add hc1
   refine W.exit ?_
   refine te (te (bs ?_))
   clear hK1 K1
   refine en false [] [(19999, 19999), (10000, 10000), (10001, 10001)] ?_
   have e : h = 240 := by omega
   subst e
   rw [rounds_all hbef]
def atE (c : Cel) (b h : Int) : Int := if checkC c ≠ 0 then checkC c else if ¬ (0 ≤ b ∧ b ≤ (c.boxes.length : Int) - 1) then 3 else if ¬ (0 ≤ h ∧ h ≤ 239) then 1 else 0
def atS (c : Cel) (b h : Int) : Spn := if atE c b h = 0 then iceS c b.toNat h.toNat else ⟨0, 0⟩
set_option maxHeartbeats 4000000 in
theorem at_ok (c : Cel) (b h : Int) : ACalls Tryd.prog 22 [celV c, I b, I h] [] (fun r o => r = .tup [spnV (atS c b h), I (atE c b h)] ∧ o = []) := by
 refine ACalls.lenA (xs := [I c.hall.lo, I c.hall.hi, boxesV c.boxes, filsV c.fils, ratsV c.rats]) (l := c.boxes.map B9) (by simp) (by simp) ⟨_, Tryd.func22, by kernel_rfl, by kernel_rfl⟩ fun hl1 => ?_
 simp [maxLen_val] at hl1
 have F := Fx.nil
 refine ent (M := outMode) Tryd.func22 Tryd.ntmps22 Tryd.results22 ?_
 refine rK (M := outMode) [1, 3, 5, 6, 7, 10, 11, 35, 36] ?_
 refine W.seqk (M := outMode) fun K1 hK1 => ?_
 refine W.seqR (M := outMode) ?_
 refine oN 1 ?_
 refine oC [] ?_
 refine ct (Check_ok ⟨⟨_, _⟩, _, _, _⟩) ?_
 refine oN 1 ?_
 refine oK (M := outMode) [1, 3, 5, 6, 7, 8, 10, 11, 35, 36] ?_
 refine rK (M := outMode) [1, 3, 5, 6, 7, 8, 10, 11, 15, 35, 36] ?_
 refine it (M := outMode) (fun hc1 => ?_) (fun hc1 => ?_)
 ·
  try simp at hc1
  replace F := F.add hc1
  refine rK (M := outMode) [6, 7] ?_
  refine W.ret (M := outMode) ?_
  refine tr ?_
  clear hK1 K1
  refine er false [] [] ?_
  first
  | (exfalso; have := hbef hn hh9; simp at this; done)
  | (exfalso; have := hn0 hn hh9; simp at this; done)
  | exact ⟨by rw [qs, qe, ← of_decide_eq_true hstop]; rfl, rfl⟩
  | exact ⟨by rw [atS, if_neg (by rw [atE, if_pos (by assumption)]; assumption), atE, if_pos (by assumption)], rfl⟩
  | exact ⟨by rw [atS, if_neg (by rw [atE, if_neg (fun h => h hc1), if_pos (by omega)]; decide), atE, if_neg (fun h => h hc1), if_pos (by omega)], rfl⟩
  | exact ⟨by rw [atS, if_neg (by rw [atE, if_neg (fun h => h hc1), if_neg (by omega), if_pos (by omega)]; decide), atE, if_neg (fun h => h hc1), if_neg (by omega), if_pos (by omega)], rfl⟩
 ·
  try simp at hc1
  replace F := F.add hc1
  refine W.skip (M := outMode) ?_
  refine hK1 _ ?_
  clear hK1 K1
  refine W.seqk (M := outMode) fun K2 hK2 => ?_
  refine W.block (M := outMode) ?_
  refine W.seqR (M := outMode) ?_
  refine oNw 5 ?_
  refine oC [] ?_
  refine ct (in_ok _ _ _) ?_
  refine oN 2 ?_
  refine oK (M := outMode) [1, 3, 5, 6, 7, 10, 11, 18, 35, 36] ?_
  refine it (M := outMode) (fun hc2 => ?_) (fun hc2 => ?_)
  ·
   try simp at hc2
   replace F := F.add hc2
   refine rK (M := outMode) [6, 7] ?_
   refine W.ret (M := outMode) ?_
   refine br (tr ?_)
   clear hK2 K2
   refine er false [] [] ?_
   first
   | (exfalso; have := hbef hn hh9; simp at this; done)
   | (exfalso; have := hn0 hn hh9; simp at this; done)
   | exact ⟨by rw [qs, qe, ← of_decide_eq_true hstop]; rfl, rfl⟩
   | exact ⟨by rw [atS, if_neg (by rw [atE, if_pos (by assumption)]; assumption), atE, if_pos (by assumption)], rfl⟩
   | exact ⟨by rw [atS, if_neg (by rw [atE, if_neg (fun h => h hc1), if_pos (by omega)]; decide), atE, if_neg (fun h => h hc1), if_pos (by omega)], rfl⟩
   | exact ⟨by rw [atS, if_neg (by rw [atE, if_neg (fun h => h hc1), if_neg (by omega), if_pos (by omega)]; decide), atE, if_neg (fun h => h hc1), if_neg (by omega), if_pos (by omega)], rfl⟩
  ·
   try simp at hc2
   replace F := F.add hc2
   refine W.seqR (M := outMode) ?_
   refine oN 1 ?_
   refine oC [] ?_
   refine ct (in_ok _ _ _) ?_
   refine oN 2 ?_
   refine oK (M := outMode) [1, 3, 5, 6, 7, 10, 11, 27, 35, 36] ?_
   refine it (M := outMode) (fun hc3 => ?_) (fun hc3 => ?_)
   ·
    try simp at hc3
    replace F := F.add hc3
    refine rK (M := outMode) [6, 7] ?_
    refine W.ret (M := outMode) ?_
    refine br (tr ?_)
    clear hK2 K2
    refine er false [] [] ?_
    first
    | (exfalso; have := hbef hn hh9; simp at this; done)
    | (exfalso; have := hn0 hn hh9; simp at this; done)
    | exact ⟨by rw [qs, qe, ← of_decide_eq_true hstop]; rfl, rfl⟩
    | exact ⟨by rw [atS, if_neg (by rw [atE, if_pos (by assumption)]; assumption), atE, if_pos (by assumption)], rfl⟩
    | exact ⟨by rw [atS, if_neg (by rw [atE, if_neg (fun h => h hc1), if_pos (by omega)]; decide), atE, if_neg (fun h => h hc1), if_pos (by omega)], rfl⟩
    | exact ⟨by rw [atS, if_neg (by rw [atE, if_neg (fun h => h hc1), if_neg (by omega), if_pos (by omega)]; decide), atE, if_neg (fun h => h hc1), if_neg (by omega), if_pos (by omega)], rfl⟩
   ·
    try simp at hc3
    replace F := F.add hc3
    refine W.skip (M := outMode) ?_
    refine hK2 _ ?_
    clear hK2 K2
    obtain ⟨bn, qbn⟩ : ∃ bn : Nat, b = (bn : Int) := ⟨b.toNat, by omega⟩
    obtain ⟨hn, qhn⟩ : ∃ hn : Nat, h = (hn : Int) := ⟨h.toNat, by omega⟩
    have hbn := qbn
    have hhn := qhn
    have hh9 : hn < 240 := by omega
    have hbl : bn < c.boxes.length := by omega
    have qv : ValidC c := checkC_zero.1 (by simpa using hc1)
    have qe : atE c b h = 0 := by rw [atE, if_neg (by simpa using hc1), if_neg (by omega), if_neg (by omega)]
    have qs : atS c b h = iceS c bn hn := by rw [atS, if_pos qe, qbn, qhn]; simp
    replace F := F.add hbn |>.add hhn |>.add hh9 |>.add hbl
    refine rK (M := outMode) [1, 3, 5, 6, 7, 9, 10, 11, 35, 36] ?_
    refine W.seqk (M := outMode) fun K3 hK3 => ?_
    refine W.seqR (M := outMode) ?_
    refine oN 2 ?_
    refine oC [] ?_
    refine ct (hours_ok c bn) ?_
    refine oK (M := outMode) [5, 6, 7, 9, 10, 11, 34, 35, 36] ?_
    refine W.block (M := outMode) ?_
    refine W.rangeS (by simp [hc1, hc2, hc3, hbn, hhn, hh9, hbl]; all_goals first | rfl | exact ⟨rfl, rfl⟩ | exact ⟨rfl, rfl, rfl⟩) [(10000, 272), (10001, 273)] [(10002, 24), (10003, 40), (10004, 48), (10005, 72)] rfl rfl rfl (by simp [hc1, hc2, hc3, hbn, hhn, hh9, hbl]; all_goals first | rfl | exact ⟨rfl, rfl⟩ | exact ⟨rfl, rfl, rfl⟩) rfl (by simp [hc1, hc2, hc3, hbn, hhn, hh9, hbl]; all_goals first | rfl | exact ⟨rfl, rfl⟩ | exact ⟨rfl, rfl, rfl⟩) (by simp [hc1, hc2, hc3, hbn, hhn, hh9, hbl]; all_goals first | rfl | exact ⟨rfl, rfl⟩ | exact ⟨rfl, rfl, rfl⟩) (by simp [hc1, hc2, hc3, hbn, hhn, hh9, hbl]; all_goals first | rfl | exact ⟨rfl, rfl⟩ | exact ⟨rfl, rfl, rfl⟩) (fun _ => [(10002, .row false 28 5 [celV c]), (10003, .row false 3 1 [I hn]), (10004, .row false 61 2 [.agg [I 0, I 0]]), (10005, .row false 61 2 [.agg [I 0, I 0]])]) (by simp [hc1, hc2, hc3, hbn, hhn, hh9, hbl]; all_goals first | rfl | exact ⟨rfl, rfl⟩ | exact ⟨rfl, rfl, rfl⟩) [5, 6, 9] (by simp [hc1, hc2, hc3, hbn, hhn, hh9, hbl]; all_goals first | rfl | exact ⟨rfl, rfl⟩ | exact ⟨rfl, rfl, rfl⟩) (by simp [hc1, hc2, hc3, hbn, hhn, hh9, hbl]; all_goals first | rfl | exact ⟨rfl, rfl⟩ | exact ⟨rfl, rfl, rfl⟩) (by rfl) (List.range 240) (fun k : Nat => [I k, .agg [I (iceLo c bn k), I (iceHi c bn k)]]) (fun _ => rfl) (fun k => decide (k = hn)) (.exit 1) rfl (fun _ (_ : Unit) => True) (fun k _ => [(10002, .row false 28 5 [celV c]), (10003, .row false 3 1 [I hn]), (10004, .row false 61 2 [.agg [I 0, I 0]]), (10005, .row false 61 2 [.agg [I (iceLo c bn k), I (iceHi c bn k)]])]) ?_ (fun lp J hy => by have := hours1_ok c qv.iceC bn hbl lp J (fun k => decide (k = hn)) (fun k hk => by have := hy k (by simpa using hk); simpa using this); simpa using this) 1000 (by decide) ?_ ?_
    ·
     intro k hk hbef
     replace F := F.add hk
     refine W.norm (M := anyMode) (by simp [hc1, hc2, hc3, hbn, hhn, hh9, hbl, hk]; rfl) ?_
     refine rK (M := anyMode) [5, 6, 7, 9, 10, 35, 36] ?_
     refine rE (M := anyMode) ?_
     refine ⟨rfl, ?_⟩
     refine W.block (M := anyMode) ?_
     refine rK (M := anyMode) [5, 6, 7, 9, 10, 11, 35, 36, 39] ?_
     refine it (M := anyMode) (fun hc4 => ?_) (fun hc4 => ?_)
     ·
      try simp at hc4
      replace F := F.add hc4
      refine rK (M := anyMode) [6, 9] ?_
      refine W.exit (M := anyMode) ?_
      refine blockQ_d rfl ?_
      refine RoundV.out (()) ?_ ?_ rfl (Le.fit (by simp [hc1, hc2, hc3, hbn, hhn, hh9, hbl, hk, hc4]; rfl) (by rfl) (by rfl) (by rfl) (by trivial) ?_)
      ·
       exact v0
      ·
       trivial
      ·
       exact v1
     ·
      try simp at hc4
      replace F := F.add hc4
      refine W.skip (M := anyMode) ?_
      refine blockQ_n ?_
      refine RoundV.go ?_ (Le.fit (by simp [hc1, hc2, hc3, hbn, hhn, hh9, hbl, hk, hc4]; rfl) (by rfl) (by rfl) (by rfl) (by trivial) ?_)
      ·
       exact v0
      ·
       exact v1
    ·
     intro hbef
     refine ⟨(by simp [hc1, hc2, hc3, hbn, hhn, hh9, hbl]; all_goals first | rfl | exact ⟨rfl, rfl⟩ | exact ⟨rfl, rfl, rfl⟩), ?_⟩
     refine Qnorm (by simp [hc1, hc2, hc3, hbn, hhn, hh9, hbl]; rfl) ?_
     refine hK3 _ ?_
     clear hK3 K3
     refine rK (M := outMode) [6, 7] ?_
     refine W.ret (M := outMode) ?_
     refine er false [] [] ?_
     first
     | (exfalso; have := hbef hn hh9; simp at this; done)
     | (exfalso; have := hn0 hn hh9; simp at this; done)
     | exact ⟨by rw [qs, qe, ← of_decide_eq_true hstop]; rfl, rfl⟩
     | exact ⟨by rw [atS, if_neg (by rw [atE, if_pos (by assumption)]; assumption), atE, if_pos (by assumption)], rfl⟩
     | exact ⟨by rw [atS, if_neg (by rw [atE, if_neg (fun h => h hc1), if_pos (by omega)]; decide), atE, if_neg (fun h => h hc1), if_pos (by omega)], rfl⟩
     | exact ⟨by rw [atS, if_neg (by rw [atE, if_neg (fun h => h hc1), if_neg (by omega), if_pos (by omega)]; decide), atE, if_neg (fun h => h hc1), if_neg (by omega), if_pos (by omega)], rfl⟩
    ·
     intro k hk hstop hbef _ hbx
     replace F := F.add hk
     refine ⟨(by simp [hc1, hc2, hc3, hbn, hhn, hh9, hbl, hk]; all_goals first | rfl | exact ⟨rfl, rfl⟩ | exact ⟨rfl, rfl, rfl⟩), ?_⟩
     refine Qnorm (by simp [hc1, hc2, hc3, hbn, hhn, hh9, hbl, hk]; rfl) ?_
     refine hK3 _ ?_
     clear hK3 K3
     refine rK (M := outMode) [6, 7] ?_
     refine W.ret (M := outMode) ?_
     refine er false [] [] ?_
     first
     | (exfalso; have := hbef hn hh9; simp at this; done)
     | (exfalso; have := hn0 hn hh9; simp at this; done)
     | exact ⟨by rw [qs, qe, ← of_decide_eq_true hstop]; rfl, rfl⟩
     | exact ⟨by rw [atS, if_neg (by rw [atE, if_pos (by assumption)]; assumption), atE, if_pos (by assumption)], rfl⟩
     | exact ⟨by rw [atS, if_neg (by rw [atE, if_neg (fun h => h hc1), if_pos (by omega)]; decide), atE, if_neg (fun h => h hc1), if_pos (by omega)], rfl⟩
     | exact ⟨by rw [atS, if_neg (by rw [atE, if_neg (fun h => h hc1), if_neg (by omega), if_pos (by omega)]; decide), atE, if_neg (fun h => h hc1), if_neg (by omega), if_pos (by omega)], rfl⟩
set_option maxHeartbeats 4000000 in
theorem Ice_ok (c : Cel) (b h : Int) : ACalls Tryd.prog 9 [celV c, I b, I h] [] (fun r o => r = .tup [spnV (atS c b h), I (atE c b h)] ∧ o = []) := by
 have F := Fx.nil
 refine ent Tryd.func9 Tryd.ntmps9 Tryd.results9 ?_
 refine rK [1, 2, 3, 6] ?_
 refine W.seqR ?_
 refine oN 3 ?_
 refine oC [] ?_
 refine ct (at_ok ⟨⟨_, _⟩, _, _, _⟩ _ _) ?_
 refine oN 6 ?_
 refine oK [6, 8, 9] ?_
 refine rK [6, 7] ?_
 refine W.ret ?_
 exact er0 false [] []
set_option maxHeartbeats 4000000 in
theorem Cold_ok (c : Cel) (b h : Int) : ACalls Tryd.prog 10 [celV c, I b, I h] [] (fun r o => r = .tup [I (if atE c b h = 0 then coldV (atS c b h) else 0), I (atE c b h)] ∧ o = []) := by
 have F := Fx.nil
 refine ent Tryd.func10 Tryd.ntmps10 Tryd.results10 ?_
 refine rK [1, 2, 3] ?_
 refine W.seqR ?_
 refine oN 3 ?_
 refine oC [] ?_
 refine ct (at_ok ⟨⟨_, _⟩, _, _, _⟩ _ _) ?_
 refine oN 6 ?_
 refine oK [8, 9] ?_
 refine W.seqk fun K1 hK1 => ?_
 refine rK [8, 9, 19] ?_
 refine it (fun hc1 => ?_) (fun hc1 => ?_)
 ·
  try simp at hc1
  replace F := F.add hc1
  refine rK [6, 7] ?_
  refine W.ret ?_
  refine tr ?_
  clear hK1 K1
  exact er0 false [] []
 ·
  try simp at hc1
  replace F := F.add hc1
  refine W.skip ?_
  refine hK1 _ ?_
  clear hK1 K1
  refine rK [10] ?_
  refine W.seqR ?_
  refine oN 1 ?_
  refine oC [] ?_
  refine ct (cold_ok (atS c b h)) ?_
  refine oN 2 ?_
  refine oK [6, 7] ?_
  refine W.ret ?_
  exact er0 false [] []
end Go.Sim
