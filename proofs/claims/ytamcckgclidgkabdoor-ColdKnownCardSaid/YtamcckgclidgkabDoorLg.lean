/- The fewest scoops. -/
import Derived.Test.YtamcckgclidgkabDoorLc
import Derived.Test.YtamcckgclidgkabDoorQh
namespace Go.Sim
open Go.Proofs
set_option maxRecDepth 100000
set_option linter.unusedSimpArgs false
set_option linter.unusedVariables false
attribute [-simp] List.map_set List.map_take List.map_drop
set_option maxHeartbeats 4000000 in
theorem CloneI_nil  : ACalls Tryd.prog 34 [ints []] [] (fun r o => r = .own 20000 0 0 ∧ o = [(20000, .row true 3 1 [])]) := by
 have F := Fx.nil
 refine ent Tryd.func34 Tryd.ntmps34 Tryd.results34 ?_
 refine rK [0] ?_
 refine W.seqk fun K1 hK1 => ?_
 refine W.seqR ?_
 refine oN 1 ?_
 refine WOps.nilU hΓ rfl rfl rfl rfl rfl (by first | rfl | (simp; done)) (by first | rfl | (simp; done)) fun b => ?_
 refine WOps.norm (by simp; rfl) ?_
 refine oK [0, 4] ?_
 refine it (fun hc1 => ?_) (fun hc1 => ?_)
 ·
  try simp at hc1
  replace F := F.add hc1
  refine rK [2] ?_
  refine W.weaken (Le.ownNil (t := 2) (id := 9000) (ty := 3) (sz := 1) rfl (by simp [hc1])) ?_
  refine W.norm (by simp [hc1, St.ownNil]; rfl) ?_
  refine W.ret ?_
  refine tr ?_
  clear hK1 K1
  refine er false [] [(20000, 9000)] ?_
  exact ⟨rfl, rfl⟩
 ·
  try simp at hc1
  replace F := F.add hc1
  refine W.skip ?_
  refine hK1 _ ?_
  clear hK1 K1
  refine rKw [2] ?_
  refine W.ret ?_
  refine er false [] [(20000, 40)] ?_
  exact ⟨rfl, rfl⟩
set_option maxHeartbeats 4000000 in
theorem CloneI_cons (y : Int) (r : List Int) (h8 : r.length ≤ 100000) : ACalls Tryd.prog 34 [ints (y :: r)] [] (fun z o => z = .own 20000 0 (r.length + 1) ∧ o = [(20000, .row true 3 1 ((y :: r).map I))]) := by
 have F := Fx.nil
 replace F := F.add h8
 refine ent Tryd.func34 Tryd.ntmps34 Tryd.results34 ?_
 refine rK [0] ?_
 refine W.seqk fun K1 hK1 => ?_
 refine rK [0, 4] ?_
 refine cF ?_
 refine W.skip ?_
 refine hK1 _ ?_
 clear hK1 K1
 refine rKw [2] ?_
 refine W.ret ?_
 exact er0 false [] [(20000, 40)]
theorem CloneI_ok (xs : List Int) (h8 : xs.length ≤ 100000) : ACalls Tryd.prog 34 [ints xs] [] (fun z o => z = .own 20000 0 xs.length ∧ o = [(20000, .row true 3 1 (xs.map I))]) := by
  cases xs with
  | nil => exact CloneI_nil
  | cons y r => exact CloneI_cons y r (by simp at h8; omega)
set_option maxHeartbeats 4000000 in
theorem CloneF_nil  : ACalls Tryd.prog 48 [filsV []] [] (fun r o => r = .own 20000 0 0 ∧ o = [(20000, .row true 53 3 [])]) := by
 have F := Fx.nil
 refine ent Tryd.func48 Tryd.ntmps48 Tryd.results48 ?_
 refine rK [0] ?_
 refine W.seqk fun K1 hK1 => ?_
 refine W.seqR ?_
 refine oN 1 ?_
 refine WOps.nilU hΓ rfl rfl rfl rfl rfl (by first | rfl | (simp; done)) (by first | rfl | (simp; done)) fun b => ?_
 refine WOps.norm (by simp; rfl) ?_
 refine oK [0, 4] ?_
 refine it (fun hc1 => ?_) (fun hc1 => ?_)
 ·
  try simp at hc1
  replace F := F.add hc1
  refine rK [2] ?_
  refine W.weaken (Le.ownNil (t := 2) (id := 9000) (ty := 53) (sz := 3) rfl (by simp [hc1])) ?_
  refine W.norm (by simp [hc1, St.ownNil]; rfl) ?_
  refine W.ret ?_
  refine tr ?_
  clear hK1 K1
  refine er false [] [(20000, 9000)] ?_
  exact ⟨rfl, rfl⟩
 ·
  try simp at hc1
  replace F := F.add hc1
  refine W.skip ?_
  refine hK1 _ ?_
  clear hK1 K1
  refine rKw [2] ?_
  refine W.ret ?_
  refine er false [] [(20000, 40)] ?_
  exact ⟨rfl, rfl⟩
set_option maxHeartbeats 4000000 in
theorem CloneF_cons (y : Fil) (r : List Fil) (h8 : r.length ≤ 100000) : ACalls Tryd.prog 48 [filsV (y :: r)] [] (fun z o => z = .own 20000 0 (r.length + 1) ∧ o = [(20000, .row true 53 3 ((y :: r).map F3))]) := by
 have F := Fx.nil
 replace F := F.add h8
 refine ent Tryd.func48 Tryd.ntmps48 Tryd.results48 ?_
 refine rK [0] ?_
 refine W.seqk fun K1 hK1 => ?_
 refine rK [0, 4] ?_
 refine cF ?_
 refine W.skip ?_
 refine hK1 _ ?_
 clear hK1 K1
 refine rKw [2] ?_
 refine W.ret ?_
 exact er0 false [] [(20000, 40)]
theorem CloneF_ok (xs : List Fil) (h8 : xs.length ≤ 100000) : ACalls Tryd.prog 48 [filsV xs] [] (fun z o => z = .own 20000 0 xs.length ∧ o = [(20000, .row true 53 3 (xs.map F3))]) := by
  cases xs with
  | nil => exact CloneF_nil
  | cons y r => exact CloneF_cons y r (by simp at h8; omega)
theorem scoopF_len {b g : Int} : ∀ {vs sc : List Int}, (∀ n ∈ sc, n ≤ 5) → (scoopF b g vs sc).length ≤ 5 * sc.length
  | [], sc, _ => by simp [scoopF]
  | v :: vs, [], _ => by simp [scoopF]
  | v :: vs, n :: sc, h => by
    have ih := scoopF_len (b := b) (g := g) (vs := vs) (sc := sc) fun m hm => h m (by simp [hm])
    have := h n (by simp)
    simp only [scoopF, List.length_append, List.length_replicate, List.length_cons]; omega
theorem withS_ice {c : Cel} (hv : ValidC c) {b g : Int} {vs sc : List Int} (hg : 0 ≤ g ∧ g ≤ 100000) (hs : ∀ n ∈ sc, n ≤ 5) (hl : sc.length ≤ 6) : IceC (withS c b g vs sc) := by
  refine ⟨hv.bx, fun f hf => ?_, ?_⟩
  · rcases List.mem_append.1 hf with h | h
    · exact (hv.fl f h).grams
    · have := (scoopF_hour f h).2.1; rw [this]; exact hg
  · have h1 := scoopF_len (b := b) (g := g) (vs := vs) hs
    have h2 := hv.f20
    show (c.fils ++ scoopF b g vs sc).length ≤ _
    rw [List.length_append]; omega
theorem coldTo_true {c : Cel} {b un : Nat} : coldTo c b un = true ↔ ∀ h, h < un → 0 < iceLo c b h := by simp [coldTo]
theorem coldV_one {x : Spn} : coldV x = 1 ↔ 0 < x.lo := by simp [coldV, verd_one]
set_option maxHeartbeats 4000000 in
theorem keeps_ok (c : Cel) (hv : ValidC c) (b : Nat) (hb : b < c.boxes.length) (vs sc : List Int) (hsl : sc.length ≤ vs.length) (h6 : vs.length ≤ 6) (hs : ∀ n ∈ sc, 0 ≤ n ∧ n ≤ 5) (g : Int) (hg : 0 ≤ g ∧ g ≤ 100000) (un : Nat) (hu : un ≤ 240) : ACalls Tryd.prog 33 [celV c, I b, ints vs, ints sc, I g, I un] [] (fun r o => r = B (keepsB c b g vs sc un) ∧ o = []) := by
 have F := Fx.nil
 replace F := F.add hsl |>.add h6 |>.add hg |>.add hu
 refine ent (M := outMode) Tryd.func33 Tryd.ntmps33 Tryd.results33 ?_
 have qf := hv.f20
 have hf9 : c.fils.length ≤ 100000 := by omega
 obtain ⟨WC, qW⟩ : ∃ WC, WC = withS c b g vs sc := ⟨_, rfl⟩
 have qwi : IceC WC := by rw [qW]; exact withS_ice hv hg (fun n hn => (hs n hn).2) (by omega)
 replace F := F.add hf9
 refine rK (M := outMode) [1, 2, 3, 4, 6, 11, 12, 16, 17, 50, 51] ?_
 refine rK (M := outMode) [1, 2, 3, 4, 6, 11, 12, 13, 16, 17, 50, 51] ?_
 refine W.seqR (M := outMode) ?_
 refine oN 2 ?_
 refine oC [] ?_
 refine ct (CloneF_ok c.fils hf9) ?_
 refine oN 2 ?_
 refine oK (M := outMode) [1, 2, 3, 4, 11, 12, 13, 16, 17, 50, 51] ?_
 refine W.seqk (M := outMode) fun K1 hK1 => ?_
 refine rK (M := outMode) [1, 2, 4, 11, 12, 13, 16, 17, 23, 24, 25, 50, 51] ?_
 refine W.block (M := outMode) ?_
 refine lpa (M := outMode) (α := Nat × List Fil) [1, 2, 4, 11, 12, 13, 16, 17, 23, 24, 50, 51] [42, 43] [104, 168] (fun x => [(25, I x.1)]) (fun x => [(104, .row false 28 5 [.agg [I c.hall.lo, I c.hall.hi, boxesV c.boxes, .own 168 0 x.2.length, ratsV c.rats]]), (168, .row true 53 3 (x.2.map F3))]) (fun x => x.1 ≤ sc.length ∧ x.2 = c.fils ++ scoopF b g vs (sc.take x.1) ∧ x.2.length ≤ 20 + 5 * x.1) (fun x => sc.length - x.1) (0, c.fils) ?_ ?_
 ·
  exact ⟨Nat.zero_le _, by show c.fils = c.fils ++ scoopF b g vs []; cases vs <;> simp [scoopF], by show c.fils.length ≤ 20 + 5 * 0; omega⟩
 ·
  intro ⟨i, L0⟩ hI0
  simp only [List.cons_append, List.nil_append]
  try dsimp only at hI0
  obtain ⟨hi, qL, hLl⟩ := hI0
  replace F := F.add hi |>.add hLl
  refine rK (M := outMode) [1, 2, 4, 11, 12, 13, 16, 17, 23, 24, 25, 26, 50, 51] ?_
  refine W.seqk (M := outMode) fun K2 hK2 => ?_
  refine it (M := outMode) (fun hc1 => ?_) (fun hc1 => ?_)
  ·
   try simp at hc1
   replace F := F.add hc1
   refine W.skip (M := outMode) ?_
   refine hK2 _ ?_
   clear hK2 K2
   refine W.seqk (M := outMode) fun K3 hK3 => ?_
   refine W.block (M := outMode) ?_
   have hil : i < sc.length := by omega
   have hiv : i < vs.length := by omega
   obtain ⟨m, qm⟩ : ∃ m : Nat, sc[i] = (m : Int) := ⟨sc[i].toNat, by have := (hs _ (List.getElem_mem hil)).1; omega⟩
   have hsm := qm
   obtain ⟨w, qw⟩ : ∃ w, w = vs[i] := ⟨_, rfl⟩
   have hvw : vs[i] = w := qw.symm
   have hm5 : m ≤ 5 := by have := (hs _ (List.getElem_mem hil)).2; omega
   replace F := F.add hil |>.add hiv |>.add hsm |>.add hvw |>.add hm5
   refine rK (M := outMode) [1, 2, 4, 11, 12, 13, 14, 15, 16, 17, 23, 24, 25, 50, 51] ?_
   refine rK (M := outMode) [1, 2, 4, 11, 12, 13, 14, 16, 17, 23, 24, 25, 30, 31, 50, 51] ?_
   refine W.block (M := outMode) ?_
   refine lpa (M := outMode) (α := Nat × List Fil) [1, 2, 4, 11, 12, 13, 14, 16, 17, 23, 24, 25, 30, 50, 51] [42, 43] [104, 168] (fun x => [(31, I x.1)]) (fun x => [(104, .row false 28 5 [.agg [I c.hall.lo, I c.hall.hi, boxesV c.boxes, .own 168 0 x.2.length, ratsV c.rats]]), (168, .row true 53 3 (x.2.map F3))]) (fun x => x.1 ≤ m ∧ x.2 = L0 ++ List.replicate x.1 ⟨b, w, g⟩ ∧ x.2.length = L0.length + x.1) (fun x => m - x.1) (0, L0) v0 ?_
   ·
    intro ⟨j, L⟩ hI1
    simp only [List.cons_append, List.nil_append]
    try dsimp only at hI1
    obtain ⟨hj, qLj, hLj⟩ := hI1
    replace F := F.add hj |>.add hLj
    refine rK (M := outMode) [1, 2, 4, 11, 12, 13, 14, 16, 17, 23, 24, 25, 30, 31, 32, 50, 51] ?_
    refine W.seqk (M := outMode) fun K4 hK4 => ?_
    refine it (M := outMode) (fun hc2 => ?_) (fun hc2 => ?_)
    ·
     try simp at hc2
     replace F := F.add hc2
     refine W.skip (M := outMode) ?_
     refine hK4 _ ?_
     clear hK4 K4
     refine W.seqk (M := outMode) fun K5 hK5 => ?_
     refine W.block (M := outMode) ?_
     refine wDe (M := outMode) 10 [] [[], [0], [], [], [], [4, 3], [3, 4, 5], [], [7, 5, 4, 3, 6, 2], [2, 6, 3, 4, 5, 7, 8], [8, 7, 5, 4, 3, 6, 2, 9, 0, 1], [10, 9, 8, 7, 6, 5, 4, 3, 2, 1, 0], [0, 1, 2, 3, 4, 5, 6, 7, 8, 9, 10, 11]] ?_
     refine dB [([35, 36, 37, 38, 39, 40, 41, 42], [], []), ([35, 36, 37, 38, 39, 40, 41, 42], [true], []), ([33, 34, 36, 37, 38, 39, 40], [false, false], []), ([33, 34, 35, 37, 40], [false, false, false], []), ([33, 34, 35, 36, 40], [false, false, false, false], []), ([33, 34, 35, 40], [false, false, false, true, true], []), ([33, 34, 35, 40], [false, false, false, true, true, true], []), ([33, 34, 35, 36, 37, 38, 39], [false, false, false, false, false, false, false], []), ([33, 34], [false, false, true, true, true, true, true, true], []), ([33, 34], [false, false, true, true, true, true, true, true, true], [])] 0 10 ?_
     refine dD ?_
     refine oNw 3 ?_
     refine WOps.endK ?_
     refine hK5 _ ?_
     clear hK5 K5
     refine rEw (M := outMode) ?_
     refine ⟨(j + 1, L ++ [⟨b, w, g⟩]), lf0, ?_, v0⟩
     ·
      exact ⟨by show j + 1 ≤ m; omega, by show L ++ [_] = L0 ++ List.replicate (j + 1) _; rw [qLj, List.replicate_succ', List.append_assoc], by show (L ++ [_]).length = L0.length + (j + 1); rw [List.length_append, hLj]; rfl⟩
    ·
     try simp at hc2
     replace F := F.add hc2
     refine W.exit (M := outMode) ?_
     refine hK3 _ ?_
     clear hK4 K4 hK3 K3
     refine rEw (M := outMode) ?_
     refine ⟨(i + 1, L), lf0, ?_, v0⟩
     ·
      refine ⟨by show i + 1 ≤ _; omega, ?_, by show L.length ≤ 20 + 5 * (i + 1); omega⟩
      show L = c.fils ++ scoopF b g vs (sc.take (i + 1))
      rw [scoopF_snoc hsl hil hiv, qLj, qL, List.append_assoc, show j = sc[i].toNat by omega, hvw]
  ·
   try simp at hc1
   replace F := F.add hc1
   refine W.exit (M := outMode) ?_
   refine hK1 _ ?_
   clear hK2 K2 hK1 K1
   refine W.seqk (M := outMode) fun K6 hK6 => ?_
   have qLe : L0 = (withS c b g vs sc).fils := by
     have e : i = sc.length := by omega
     rw [qL, e, List.take_length]; rfl
   obtain ⟨stp, qst⟩ : ∃ stp : Nat → Bool, stp = fun k => decide (k = un) || !(decide (0 < iceLo WC b k)) := ⟨_, rfl⟩
   have qst' : ∀ k, stp k = true ↔ (k = un ∨ ¬ 0 < iceLo WC b k) := fun k => by rw [qst]; simp
   have kt : (∀ k, k < un → stp k = false) → keepsB c b g vs sc un = true := fun h => by
     rw [keepsB, ← qW]
     refine coldTo_true.2 fun k hk => ?_
     have h1 := h k hk
     rw [← Bool.not_eq_true, qst'] at h1
     exact Classical.not_not.1 fun h2 => h1 (.inr h2)
   have kf : ∀ k, stp k = true → ¬ k = un → (∀ j, j < k → stp j = false) → keepsB c b g vs sc un = false := fun k h1 h2 h3 => by
     have h4 := ((qst' k).1 h1).resolve_left h2
     have h5 : k < un := by
       rcases Nat.lt_or_ge k un with h | h
       · exact h
       · have := h3 un (by omega)
         rw [(qst' un).2 (.inl rfl)] at this; cases this
     rw [← Bool.not_eq_true, keepsB, ← qW, coldTo_true]
     exact fun h => h4 (h k h5)
   have hLe : celV WC = .agg [I c.hall.lo, I c.hall.hi, boxesV c.boxes, filsV L0, ratsV c.rats] := by rw [qW, qLe]; rfl
   replace F := F.add hLe
   refine W.seqR (M := outMode) ?_
   refine fz 168 ?_
   refine oN 2 ?_
   refine oC [] ?_
   refine ct (hours_ok ⟨⟨_, _⟩, _, L0, _⟩ b) ?_
   refine oK (M := outMode) [11, 12, 16, 17, 49, 50, 51] ?_
   refine W.block (M := outMode) ?_
   refine W.rangeT (by simp [hsl, h6, hg, hu, hf9, hi, hLl, hc1, hLe]; all_goals first | rfl | exact ⟨rfl, rfl⟩ | exact ⟨rfl, rfl, rfl⟩) [(10000, 392), (10001, 393)] [(10002, 48), (10003, 88), (10004, 96), (10005, 104)] rfl rfl rfl (by simp [hsl, h6, hg, hu, hf9, hi, hLl, hc1, hLe]; all_goals first | rfl | exact ⟨rfl, rfl⟩ | exact ⟨rfl, rfl, rfl⟩) rfl (by simp [hsl, h6, hg, hu, hf9, hi, hLl, hc1, hLe]; all_goals first | rfl | exact ⟨rfl, rfl⟩ | exact ⟨rfl, rfl, rfl⟩) (by simp [hsl, h6, hg, hu, hf9, hi, hLl, hc1, hLe]; all_goals first | rfl | exact ⟨rfl, rfl⟩ | exact ⟨rfl, rfl, rfl⟩) (by simp [hsl, h6, hg, hu, hf9, hi, hLl, hc1, hLe]; all_goals first | rfl | exact ⟨rfl, rfl⟩ | exact ⟨rfl, rfl, rfl⟩) (fun _ => [(10002, .row false 28 5 [celV c]), (10003, .row false 3 1 [I un]), (10004, .row false 4 1 [B false]), (10005, .row false 28 5 [celV WC])]) (by simp [hsl, h6, hg, hu, hf9, hi, hLl, hc1, hLe]; all_goals first | rfl | exact ⟨rfl, rfl⟩ | exact ⟨rfl, rfl, rfl⟩) [11, 12] (by simp [hsl, h6, hg, hu, hf9, hi, hLl, hc1, hLe]; all_goals first | rfl | exact ⟨rfl, rfl⟩ | exact ⟨rfl, rfl, rfl⟩) (by simp [hsl, h6, hg, hu, hf9, hi, hLl, hc1, hLe]; all_goals first | rfl | exact ⟨rfl, rfl⟩ | exact ⟨rfl, rfl, rfl⟩) (by rfl) (List.range 240) (fun k : Nat => [I k, .agg [I (iceLo WC b k), I (iceHi WC b k)]]) (fun _ => rfl) (stp) (fun k => if k = un then (.exit 4) else .ret) (fun k => by (try dsimp only); split <;> rfl) (fun _ (_ : Unit) => True) (fun _ _ => [(10002, .row false 28 5 [celV c]), (10003, .row false 3 1 [I un]), (10004, .row false 4 1 [B false]), (10005, .row false 28 5 [celV WC])]) ?_ (fun lp J hy => by have := hours1_ok WC qwi b (by rw [qW]; exact hb) lp J stp (fun k hk hb' => by have := hy k (by simpa using hk) hb'; simpa using this); rw [hLe] at this; simpa using this) 1000 (by decide) ?_ ?_
   ·
    intro k hk hbef
    replace F := F.add hk
    refine W.norm (M := anyMode) (by simp [hsl, h6, hg, hu, hf9, hi, hLl, hc1, hLe, hk]; rfl) ?_
    refine rK (M := anyMode) [11, 12, 16, 50, 51] ?_
    refine rE (M := anyMode) ?_
    refine ⟨rfl, ?_⟩
    refine W.block (M := anyMode) ?_
    refine W.seqk (M := anyMode) fun K7 hK7 => ?_
    refine rK (M := anyMode) [11, 12, 16, 17, 50, 51, 54] ?_
    refine it (M := anyMode) (fun hc3 => ?_) (fun hc3 => ?_)
    ·
     try simp at hc3
     replace F := F.add hc3
     refine W.exit (M := anyMode) ?_
     refine thenQ_e ?_
     clear hK7 K7
     refine blockQ_d rfl ?_
     refine RoundV.outT (()) ?_ ?_ ?_ rfl (Le.fit (by simp [hsl, h6, hg, hu, hf9, hi, hLl, hc1, hLe, hk, hc3]; rfl) (by rfl) (by rfl) (by rfl) (by trivial) ?_)
     ·
      exact v0
     ·
      refine (qst' k).2 ?_
      first
        | exact .inl (by omega)
        | exact .inr (fun h => hc4 (coldV_one.2 h))
     ·
      trivial
     ·
      exact v1
    ·
     try simp at hc3
     replace F := F.add hc3
     refine W.skip (M := anyMode) ?_
     refine hK7 _ ?_
     clear hK7 K7
     refine W.seqR (M := anyMode) ?_
     refine oN 1 ?_
     refine oC [] ?_
     refine ct (cold_ok ⟨iceLo WC b k, iceHi WC b k⟩) ?_
     refine oN 1 ?_
     refine oK (M := anyMode) [11, 12, 16, 17, 50, 51, 57] ?_
     refine it (M := anyMode) (fun hc4 => ?_) (fun hc4 => ?_)
     ·
      try simp at hc4
      replace F := F.add hc4
      refine rK (M := anyMode) [12] ?_
      refine W.ret (M := anyMode) ?_
      refine blockQ_r ?_
      refine RoundV.outT (()) ?_ ?_ ?_ rfl (Le.fit (by simp [hsl, h6, hg, hu, hf9, hi, hLl, hc1, hLe, hk, hc3, hc4]; rfl) (by rfl) (by rfl) (by rfl) (by trivial) ?_)
      ·
       exact v0
      ·
       refine (qst' k).2 ?_
       first
         | exact .inl (by omega)
         | exact .inr (fun h => hc4 (coldV_one.2 h))
      ·
       trivial
      ·
       exact v1
     ·
      try simp at hc4
      replace F := F.add hc4
      refine W.skip (M := anyMode) ?_
      refine blockQ_n ?_
      refine RoundV.go ?_ (Le.fit (by simp [hsl, h6, hg, hu, hf9, hi, hLl, hc1, hLe, hk, hc3, hc4]; rfl) (by rfl) (by rfl) (by rfl) (by trivial) ?_)
      ·
       refine Bool.eq_false_iff.2 (fun h0 => ?_)
       rcases (qst' k).1 h0 with h | h
       · omega
       · exact h (coldV_one.1 (show coldV ⟨iceLo WC b k, iceHi WC b k⟩ = 1 by assumption))
      ·
       exact v1
   ·
    intro hbef
    refine ⟨(by simp [hsl, h6, hg, hu, hf9, hi, hLl, hc1, hLe]; all_goals first | rfl | exact ⟨rfl, rfl⟩ | exact ⟨rfl, rfl, rfl⟩), ?_⟩
    refine Qnorm (by simp [hsl, h6, hg, hu, hf9, hi, hLl, hc1, hLe]; rfl) ?_
    refine hK6 _ ?_
    clear hK6 K6
    refine rK (M := outMode) [12] ?_
    refine W.ret (M := outMode) ?_
    refine er false [] [] ?_
    first
    | exact ⟨congrArg B (kt fun j hj => hbef j (by simp; omega)).symm, rfl⟩
    | exact ⟨congrArg B (kt fun j hj => hbef j (by omega)).symm, rfl⟩
    | exact ⟨congrArg B (kf k hstop hy hbef).symm, rfl⟩
   ·
    intro k hk hstop hbef _ hbx
    replace F := F.add hk
    by_cases hy : k = un
    ·
     rw [if_pos hy]
     replace F := F.add hy
     refine ⟨(by simp [hsl, h6, hg, hu, hf9, hi, hLl, hc1, hLe, hk, hy]; all_goals first | rfl | exact ⟨rfl, rfl⟩ | exact ⟨rfl, rfl, rfl⟩), ?_⟩
     refine Qnorm (by simp [hsl, h6, hg, hu, hf9, hi, hLl, hc1, hLe, hk, hy]; rfl) ?_
     refine hK6 _ ?_
     clear hK6 K6
     refine rK (M := outMode) [12] ?_
     refine W.ret (M := outMode) ?_
     refine er false [] [] ?_
     first
     | exact ⟨congrArg B (kt fun j hj => hbef j (by simp; omega)).symm, rfl⟩
     | exact ⟨congrArg B (kt fun j hj => hbef j (by omega)).symm, rfl⟩
     | exact ⟨congrArg B (kf k hstop hy hbef).symm, rfl⟩
    ·
     rw [if_neg hy]
     replace F := F.add hy
     refine ⟨(by simp [hsl, h6, hg, hu, hf9, hi, hLl, hc1, hLe, hk, hy]; all_goals first | rfl | exact ⟨rfl, rfl⟩ | exact ⟨rfl, rfl, rfl⟩), ?_⟩
     refine Qnorm (by simp [hsl, h6, hg, hu, hf9, hi, hLl, hc1, hLe, hk, hy]; rfl) ?_
     refine br (tr ?_)
     clear hK6 K6
     refine er false [] [] ?_
     first
     | exact ⟨congrArg B (kt fun j hj => hbef j (by simp; omega)).symm, rfl⟩
     | exact ⟨congrArg B (kt fun j hj => hbef j (by omega)).symm, rfl⟩
     | exact ⟨congrArg B (kf k hstop hy hbef).symm, rfl⟩
end Go.Sim
