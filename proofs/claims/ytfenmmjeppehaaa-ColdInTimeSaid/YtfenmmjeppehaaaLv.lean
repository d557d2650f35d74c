/- What is truly lost. -/
import Derived.Test.YtfenmmjeppehaaaLu
namespace Go.Sim
open Go.Proofs
set_option maxRecDepth 100000
set_option linter.unusedSimpArgs false
set_option linter.unusedVariables false
attribute [-simp] List.map_set List.map_take List.map_drop
/-- the ice that truly is in a box -/
def iceT (c : Cel) (t : Tru) (b h : Nat) : Int := fallN (nth c.boxes b).room b c.fils (fun k => nth (nth t.melts b) k) (nth t.ice b) h
/-- the warmth that truly is around a lot -/
def trueW (c : Cel) (l : CLot) (t : Tru) (h : Int) : Int := match inBox l.stays h with
  | none => nth t.hall h.toNat
  | some b => if 0 < iceT c t b.toNat h.toNat then nth (nth t.cld b.toNat) h.toNat else nth (nth t.wrm b.toNat) h.toNat
/-- what is truly lost -/
def trulyV (c : Cel) (l : CLot) (t : Tru) (d : Nat) : Int := lostT c.rats (fun j => trueW c l t (l.born + j)) d
theorem trulyV_succ (c : Cel) (l : CLot) (t : Tru) (d : Nat) : trulyV c l t (d + 1) = trulyV c l t d + lossR c.rats (trueW c l t (l.born + d)) := rfl
theorem trulyV_in {c : Cel} (hv : ValidC c) (l : CLot) (t : Tru) : ∀ d : Nat, 0 ≤ trulyV c l t d ∧ trulyV c l t d ≤ 1000 * (d : Int)
  | 0 => ⟨Int.le_refl _, by show (0 : Int) ≤ 1000 * 0; omega⟩
  | d + 1 => by
    have h1 := trulyV_in hv l t d
    have h2 := lossR_in hv.rt (trueW c l t (l.born + d))
    rw [trulyV_succ]; omega
theorem Fall_true {c : Cel} (hv : ValidC c) {n : Nat} (hn : n ≤ 1000) {t : Tru} (ht : TruOk c n t) {b : Nat} (hb : b < c.boxes.length) (h : Nat) (hh : h < n) : ACalls Try.prog 53 [celV c, I b, I (nth t.ice b), ints (nth t.melts b), I h] [] (fun r o => r = I (iceT c t b h) ∧ o = []) := by
  obtain ⟨q1, q2, q3, q4⟩ := ht.bx.2 b (by rw [ht.len]; exact hb)
  have k := hv.box hb
  have k1 := k.ice; have k2 := k.melt; have k3 := k.room
  exact Fall_ok c hv.iceC b hb (nth t.ice b) (by omega) (nth t.melts b) (fun y hy => by have := q2.2 y hy; omega) h (by rw [q2.1]; exact hh) (by rw [q2.1]; exact hn)
set_option maxHeartbeats 4000000 in
theorem truly_ok (c : Cel) (hv : ValidC c) (l : CLot) (hl : LotOk c.boxes.length l) (n : Nat) (hn : n ≤ 1000) (t : Tru) (ht : TruOk c n t) (d : Nat) (hd : l.born + d ≤ n) : ACalls Try.prog 51 [celV c, lotV l, trueV t, I (l.born + d)] [] (fun r o => r = I (trulyV c l t d) ∧ o = []) := by
 have F := Fx.nil
 replace F := F.add hd |>.add hn
 refine ent Try.func51 Try.ntmps51 Try.results51 ?_
 obtain ⟨bo, qbo⟩ : ∃ bo : Nat, l.born = (bo : Int) := ⟨l.born.toNat, by have := hl.born; omega⟩
 have hbr := hl.born
 have hhl : t.hall.length = n := ht.hall.1
 have hil : t.ice.length = c.boxes.length := ht.len
 have hml : t.melts.length = c.boxes.length := by rw [ht.bx.1.1, hil]
 have hcl : t.cld.length = c.boxes.length := by rw [ht.bx.1.2.1, hil]
 have hwl : t.wrm.length = c.boxes.length := by rw [ht.bx.1.2.2, hil]
 replace F := F.add hbr |>.add hhl |>.add hil |>.add hml |>.add hcl |>.add hwl
 refine rK [3, 4, 5, 6] ?_
 refine rK [3, 4, 5, 6, 9] ?_
 refine W.seqk fun K1 hK1 => ?_
 refine rK [3, 4, 5, 6, 9, 10] ?_
 refine W.block ?_
 refine lp (α := Nat) [3, 4, 5, 6] [22, 51, 64] [] (fun k => [(10, I (l.born + k)), (9, I (trulyV c l t k))]) (fun k => []) (fun k => k ≤ d) (fun k => d - k) 0 ?_ ?_ v0 ?_
 ·
  try (simp [Fx.get F])
  all_goals (
   first | exact ⟨rfl, rfl⟩ | rfl | simp [trulyV, lostT]
  )
 ·
  exact v1
 ·
  intro k hI0
  simp only [List.cons_append, List.nil_append]
  try dsimp only at hI0
  replace F := F.add hI0
  refine W.seqk fun K2 hK2 => ?_
  refine rK [3, 4, 5, 6, 9, 10, 17] ?_
  refine it (fun hc1 => ?_) (fun hc1 => ?_)
  ·
   try simp at hc1
   replace F := F.add hc1
   refine W.skip ?_
   refine hK2 _ ?_
   clear hK2 K2
   refine W.seqk fun K3 hK3 => ?_
   refine W.block ?_
   have hkd : k < d := by omega
   obtain ⟨h, qh⟩ : ∃ h : Nat, h = bo + k := ⟨_, rfl⟩
   have hh : l.born + (k : Int) = (h : Int) := by omega
   have hhn : h < n := by omega
   have qtl := trulyV_in hv l t k
   have hk9 : k ≤ 1000 := by omega
   obtain ⟨tk, qtk⟩ : ∃ x, trulyV c l t k = x := ⟨_, rfl⟩
   have htk := qtk
   rw [qtk] at qtl
   obtain ⟨hw, qhw⟩ : ∃ x, t.hall[h] = x := ⟨_, rfl⟩
   have hhw := qhw
   replace F := F.add hkd |>.add hh |>.add hhn |>.add hk9 |>.add htk |>.add hhw
   by_cases hbx : (inBox l.stays h).isSome = true
   ·
    replace F := F.add hbx
    obtain ⟨bi, qbi⟩ := Option.isSome_iff_exists.1 hbx
    obtain ⟨q1, q2, q3, q4⟩ := hl.inBox qbi
    obtain ⟨b, qbb⟩ : ∃ b : Nat, bi = (b : Int) := ⟨bi.toNat, by omega⟩
    have hin : inV l h = (b : Int) := by rw [inV, qbi]; exact qbb
    have hbl : b < c.boxes.length := by omega
    have hbi : b < t.ice.length := by omega
    have hbm : b < t.melts.length := by omega
    have hbc : b < t.cld.length := by omega
    have hbw : b < t.wrm.length := by omega
    obtain ⟨k1, k2, k3, k4⟩ := ht.bx.2 b hbi
    obtain ⟨x0, qx0⟩ : ∃ x, t.ice[b] = x := ⟨_, rfl⟩
    obtain ⟨M, qM⟩ : ∃ x, t.melts[b] = x := ⟨_, rfl⟩
    obtain ⟨CC, qCC⟩ : ∃ x, t.cld[b] = x := ⟨_, rfl⟩
    obtain ⟨WW, qWW⟩ : ∃ x, t.wrm[b] = x := ⟨_, rfl⟩
    rw [nth_get hbc, qCC] at k3
    rw [nth_get hbw, qWW] at k4
    have hx0 := qx0
    have hM := qM
    have hCC := qCC
    have hWW := qWW
    have hCl : CC.length = n := k3.1
    have hWl : WW.length = n := k4.1
    have hCh : h < CC.length := by omega
    have hWh : h < WW.length := by omega
    obtain ⟨cv, qcv⟩ : ∃ x, CC[h] = x := ⟨_, rfl⟩
    obtain ⟨wv, qwv⟩ : ∃ x, WW[h] = x := ⟨_, rfl⟩
    have hcv := qcv
    have hwv := qwv
    obtain ⟨y, qy⟩ : ∃ y, iceT c t b h = y := ⟨_, rfl⟩
    have qF := Fall_true hv hn ht hbl h hhn
    rw [qy, nth_get hbi, qx0, nth_get hbm, qM] at qF
    have qW : trueW c l t (h : Int) = if 0 < y then cv else wv := by
      rw [trueW, qbi]
      show (if 0 < iceT c t bi.toNat (h : Int).toNat then _ else _) = _
      rw [qbb, Int.toNat_natCast, Int.toNat_natCast, qy, nth_get hbc, nth_get hbw, qCC, qWW, nth_get hCh, nth_get hWh, qcv, qwv]
    replace F := F.add hin |>.add hbl |>.add hbi |>.add hbm |>.add hbc |>.add hbw |>.add hx0 |>.add hM |>.add hCC |>.add hWW |>.add hCl |>.add hWl |>.add hCh |>.add hWh |>.add hcv |>.add hwv
    refine W.seqR ?_
    refine oN 2 ?_
    refine oC [] ?_
    refine ct (rIn_ok l c.boxes.length hl h) ?_
    refine oN 1 ?_
    refine oK [3, 4, 5, 6, 9, 10, 11] ?_
    refine rK [3, 4, 5, 6, 9, 10, 11, 12] ?_
    refine W.seqk fun K4 hK4 => ?_
    refine rK [3, 4, 5, 6, 9, 10, 11, 12, 29] ?_
    refine cT ?_
    refine rK [3, 4, 5, 6, 9, 10, 11, 12] ?_
    refine wD 13 [] [[], [], [], [2], [], [4, 2, 3], [3, 2, 4, 5], [], [7], [], [9, 7, 8], [8, 7, 9, 10], [], [12, 10, 9, 7, 8, 11, 5, 4, 2, 3, 6, 1, 0], [0, 1, 6, 3, 2, 4, 5, 11, 8, 7, 9, 10, 12, 13]] ?_
    refine dB [([39, 40, 41, 42, 43, 44, 45, 46, 47, 48, 49, 50], [], []), ([38, 40, 41, 42, 43, 44, 45, 46, 47, 48, 49, 50], [false], []), ([38, 39, 42, 45, 46, 47, 48, 49, 50], [false, false], []), ([38, 39, 42, 45, 46, 47, 48, 49, 50], [false, false, true], []), ([38, 39, 40, 41, 45, 46, 47, 48, 49, 50], [false, false, false, false], []), ([38, 39, 45, 46, 47, 48, 49, 50], [false, false, true, true, true], []), ([38, 39, 45, 46, 47, 48, 49, 50], [false, false, true, true, true, true], []), ([38, 39, 40, 41, 42, 43, 44, 47, 50], [false, false, false, false, false, false, false], []), ([38, 39, 40, 41, 42, 43, 44, 47, 50], [false, false, false, false, false, false, false, true], []), ([38, 39, 40, 41, 42, 43, 44, 45, 46, 50], [false, false, false, false, false, false, false, false, false], []), ([38, 39, 40, 41, 42, 43, 44, 50], [false, false, false, false, false, false, false, true, true, true], []), ([38, 39, 40, 41, 42, 43, 44, 50], [false, false, false, false, false, false, false, true, true, true, true], []), ([38, 39, 40, 41, 42, 43, 44, 45, 46, 47, 48, 49], [false, false, false, false, false, false, false, false, false, false, false, false], [])] 0 13 ?_
    refine dD ?_
    refine oC [] ?_
    refine ct (qF) ?_
    refine oN 1 ?_
    refine oK [3, 4, 5, 6, 9, 10, 11, 12, 52] ?_
    refine it (fun hc3 => ?_) (fun hc3 => ?_)
    ·
     try simp at hc3
     replace F := F.add hc3
     refine rE ?_
     refine hK4 _ ?_
     clear hK4 K4
     have qst : trulyV c l t (k + 1) = tk + lossR c.rats (trueW c l t h) := by rw [trulyV_succ, qtk, hh]
     have qlw := lossR_in hv.rt (trueW c l t h)
     rw [qW] at qlw qst
     refine W.region ?_
     refine oN 3 ?_
     refine oC [] ?_
     refine ct (rLoss_ok ⟨⟨_, _⟩, _, _, _⟩ _) ?_
     refine oN 2 ?_
     refine WOps.endK ?_
     refine hK3 _ ?_
     clear hK3 K3
     refine rEw ?_
     refine ⟨k + 1, lf ?_ ?_, v0, v0⟩
     ·
      try (simp [Fx.get F])
      all_goals (
       first
       | (rw [if_pos (by assumption)] at qlw qst
          exact ⟨by omega, by (try simp (disch := omega) only [wrap_i64]); rw [qst]⟩)
       | (rw [if_neg (by omega)] at qlw qst
          exact ⟨by omega, by (try simp (disch := omega) only [wrap_i64]); rw [qst]⟩)
       | exact ⟨by omega, by rw [qst]⟩
      )
     ·
      exact v1
    ·
     try simp at hc3
     replace F := F.add hc3
     refine W.skip ?_
     refine hK4 _ ?_
     clear hK4 K4
     have qst : trulyV c l t (k + 1) = tk + lossR c.rats (trueW c l t h) := by rw [trulyV_succ, qtk, hh]
     have qlw := lossR_in hv.rt (trueW c l t h)
     rw [qW] at qlw qst
     refine W.region ?_
     refine oN 3 ?_
     refine oC [] ?_
     refine ct (rLoss_ok ⟨⟨_, _⟩, _, _, _⟩ _) ?_
     refine oN 2 ?_
     refine WOps.endK ?_
     refine hK3 _ ?_
     clear hK3 K3
     refine rEw ?_
     refine ⟨k + 1, lf ?_ ?_, v0, v0⟩
     ·
      try (simp [Fx.get F])
      all_goals (
       first
       | (rw [if_pos (by assumption)] at qlw qst
          exact ⟨by omega, by (try simp (disch := omega) only [wrap_i64]); rw [qst]⟩)
       | (rw [if_neg (by omega)] at qlw qst
          exact ⟨by omega, by (try simp (disch := omega) only [wrap_i64]); rw [qst]⟩)
       | exact ⟨by omega, by rw [qst]⟩
      )
     ·
      exact v1
   ·
    replace F := F.add hbx
    have qno : inBox l.stays h = none := by simpa using hbx
    have hin : inV l h = -1 := by rw [inV, qno]
    have qW : trueW c l t (h : Int) = hw := by
      rw [trueW, qno]
      show nth t.hall (h : Int).toNat = hw
      rw [Int.toNat_natCast, nth_get (by omega), qhw]
    replace F := F.add hin
    refine W.seqR ?_
    refine oN 2 ?_
    refine oC [] ?_
    refine ct (rIn_ok l c.boxes.length hl h) ?_
    refine oN 1 ?_
    refine oK [3, 4, 5, 6, 9, 10, 11] ?_
    refine rK [3, 4, 5, 6, 9, 10, 11, 12] ?_
    refine W.seqk fun K5 hK5 => ?_
    refine rK [3, 4, 5, 6, 9, 10, 11, 12, 29] ?_
    refine cF ?_
    refine W.skip ?_
    refine hK5 _ ?_
    clear hK5 K5
    have qst : trulyV c l t (k + 1) = tk + lossR c.rats (trueW c l t h) := by rw [trulyV_succ, qtk, hh]
    have qlw := lossR_in hv.rt (trueW c l t h)
    rw [qW] at qlw qst
    refine W.region ?_
    refine oN 3 ?_
    refine oC [] ?_
    refine ct (rLoss_ok ⟨⟨_, _⟩, _, _, _⟩ _) ?_
    refine oNw 2 ?_
    refine WOps.endK ?_
    refine hK3 _ ?_
    clear hK3 K3
    refine rEw ?_
    refine ⟨k + 1, lf ?_ ?_, v0, v0⟩
    ·
     try (simp [Fx.get F])
     all_goals (
      first
      | (rw [if_pos (by assumption)] at qlw qst
         exact ⟨by omega, by (try simp (disch := omega) only [wrap_i64]); rw [qst]⟩)
      | (rw [if_neg (by omega)] at qlw qst
         exact ⟨by omega, by (try simp (disch := omega) only [wrap_i64]); rw [qst]⟩)
      | exact ⟨by omega, by rw [qst]⟩
     )
    ·
     exact v1
  ·
   try simp at hc1
   replace F := F.add hc1
   refine W.exit ?_
   refine hK1 _ ?_
   clear hK2 K2 hK1 K1
   refine rK [8] ?_
   refine W.ret ?_
   refine er false [] [] ?_
   have e : k = d := by omega
   subst e
   exact ⟨rfl, rfl⟩
theorem trueW_in {c : Cel} (hv : ValidC c) {l : CLot} (hl : LotOk c.boxes.length l) {n : Nat} {t : Tru} (ht : TruOk c n t) {h : Nat} (hh : h < n) : (airS c l h).lo ≤ trueW c l t h ∧ trueW c l t h ≤ (airS c l h).hi := by
  unfold trueW
  cases e : inBox l.stays h with
  | none =>
    rw [airS_out e]
    exact ht.hall.nth (by rw [Int.toNat_natCast]; exact hh)
  | some b =>
    have hb := (hl.inBox e).2.1
    obtain ⟨q1, q2, q3, q4⟩ := ht.bx.2 b.toNat (by rw [ht.len]; exact hb)
    have hi := ice_true (c := c) (b := b.toNat) q1 (t := (h : Int).toNat) (m := fun k => nth (nth t.melts b.toNat) k) (fun k hk => q2.nth (by rw [Int.toNat_natCast] at hk; omega))
    exact air_true hv hl e hi (q3.nth (by rw [Int.toNat_natCast]; exact hh)) (q4.nth (by rw [Int.toNat_natCast]; exact hh))
/-- What is truly lost lies within what is said. -/
theorem truly_in {c : Cel} (hv : ValidC c) {l : CLot} (hl : LotOk c.boxes.length l) {n : Nat} {t : Tru} (ht : TruOk c n t) {d : Nat} (hd : l.born + d ≤ n) : (lostS c l d).lo ≤ trulyV c l t d ∧ trulyV c l t d ≤ (lostS c l d).hi :=
  lostT_within hv l fun j hj => by
    have hb := hl.born
    obtain ⟨h, qh⟩ : ∃ h : Nat, l.born + (j : Int) = h := ⟨(l.born + j).toNat, by omega⟩
    have := trueW_in hv hl ht (h := h) (by omega)
    rwa [← qh] at this
theorem iceT_in {c : Cel} {n : Nat} {t : Tru} (ht : TruOk c n t) {b : Nat} (hb : b < c.boxes.length) {h : Nat} (hh : h < n) : iceLo c b h ≤ iceT c t b h ∧ iceT c t b h ≤ iceHi c b h := by
  obtain ⟨q1, q2, q3, q4⟩ := ht.bx.2 b (by rw [ht.len]; exact hb)
  exact ice_true q1 (fun k hk => q2.nth (by omega))
theorem lostT_congr {r : List Rat} {w w' : Nat → Int} : ∀ {k : Nat}, (∀ j, j < k → w j = w' j) → lostT r w k = lostT r w' k
  | 0, _ => rfl
  | k + 1, h => by rw [lostT, lostT, lostT_congr (k := k) fun j hj => h j (by omega), h k (by omega)]
theorem rep_nth {n i : Nat} {v : Int} (h : i < n) : nth (List.replicate n v) i = v := by
  rw [nth_get (by rw [List.length_replicate]; exact h)]; exact List.getElem_replicate _
theorem edge_ice {c : Cel} {n : Nat} {k : Bool} {b : Nat} (hb : b < c.boxes.length) {h : Nat} (hh : h < n) : iceT c (edgeT c n k) b h = if k = true then iceHi c b h else iceLo c b h := by
  have e : ∀ {α : Type} [NthD α] (f : CBox → α), nth (c.boxes.map f) b = f (nth c.boxes b) := fun f => by rw [nth_get (by simpa using hb), List.getElem_map, nth_get hb]
  unfold iceT edgeT
  simp only [e]
  cases k with
  | true => exact fallN_congr fun j hj => rep_nth (by omega)
  | false => exact fallN_congr fun j hj => rep_nth (by omega)
theorem edge_W {c : Cel} (hv : ValidC c) {l : CLot} (hl : LotOk c.boxes.length l) {n : Nat} {k : Bool} {h : Nat} (hh : h < n) : trueW c l (edgeT c n k) h = if k = true then (airS c l h).lo else (airS c l h).hi := by
  unfold trueW
  cases e : inBox l.stays h with
  | none =>
    rw [airS_out e]
    show nth (List.replicate n (endV c.hall k)) _ = _
    rw [rep_nth (by rw [Int.toNat_natCast]; exact hh)]; rfl
  | some b =>
    have hb := (hl.inBox e).2.1
    have e2 : ∀ {α : Type} [NthD α] (f : CBox → α), nth (c.boxes.map f) b.toNat = f (nth c.boxes b.toNat) := fun f => by rw [nth_get (by simpa using hb), List.getElem_map, nth_get hb]
    show (if 0 < iceT c (edgeT c n k) b.toNat (h : Int).toNat then _ else _) = _
    rw [air_end hv hl e, edge_ice hb (by rw [Int.toNat_natCast]; exact hh)]
    unfold edgeT
    simp only [e2]
    rw [rep_nth (by rw [Int.toNat_natCast]; exact hh), rep_nth (by rw [Int.toNat_natCast]; exact hh)]
    cases k <;> rfl
/-- Both ends are reached. -/
theorem edge_lost {c : Cel} (hv : ValidC c) {l : CLot} (hl : LotOk c.boxes.length l) {n : Nat} {d : Nat} (hd : l.born + d ≤ n) : trulyV c l (edgeT c n true) d = (lostS c l d).lo ∧ trulyV c l (edgeT c n false) d = (lostS c l d).hi := by
  have hb := hl.born
  have key : ∀ (k : Bool) (j : Nat), j < d → trueW c l (edgeT c n k) (l.born + j) = if k = true then (airS c l (l.born + j)).lo else (airS c l (l.born + j)).hi := fun k j hj => by
    obtain ⟨h, qh⟩ : ∃ h : Nat, l.born + (j : Int) = h := ⟨(l.born + j).toNat, by omega⟩
    rw [qh]; exact edge_W hv hl (by omega)
  rw [lostT_lo, lostT_hi]
  exact ⟨lostT_congr fun j hj => key true j hj, lostT_congr fun j hj => key false j hj⟩
set_option maxHeartbeats 4000000 in
theorem told_ok (a b : Bool) : ACalls Try.prog 55 [B a, B b] [] (fun r o => r = I (verd a b) ∧ o = []) := by
 have F := Fx.nil
 refine ent Try.func55 Try.ntmps55 Try.results55 ?_
 refine rK [0, 1] ?_
 refine W.seqk fun K1 hK1 => ?_
 refine W.block ?_
 refine rK [1, 5] ?_
 refine it (fun hc1 => ?_) (fun hc1 => ?_)
 ·
  try simp at hc1
  replace F := F.add hc1
  refine rK [4] ?_
  refine W.ret ?_
  refine br (tr ?_)
  clear hK1 K1
  refine er false [] [] ?_
  (subst_vars; first | exact ⟨rfl, rfl⟩ | (simp_all; done))
 ·
  try simp at hc1
  replace F := F.add hc1
  refine rK [7] ?_
  refine it (fun hc2 => ?_) (fun hc2 => ?_)
  ·
   try simp at hc2
   replace F := F.add hc2
   refine rK [4] ?_
   refine W.ret ?_
   refine br (tr ?_)
   clear hK1 K1
   refine er false [] [] ?_
   (subst_vars; first | exact ⟨rfl, rfl⟩ | (simp_all; done))
  ·
   try simp at hc2
   replace F := F.add hc2
   refine W.skip ?_
   refine hK1 _ ?_
   clear hK1 K1
   refine rK [4] ?_
   refine W.ret ?_
   refine er false [] [] ?_
   (subst_vars; first | exact ⟨rfl, rfl⟩ | (simp_all; done))
set_option maxHeartbeats 4000000 in
theorem Holds_ok (x : Spn) (n : Int) : ACalls Try.prog 52 [spnV x, I n] [] (fun r o => r = B (decide (x.lo ≤ n ∧ n ≤ x.hi)) ∧ o = []) := by
 have F := Fx.nil
 refine ent Try.func52 Try.ntmps52 Try.results52 ?_
 refine rK [1, 2] ?_
 refine W.seqR ?_
 refine oN 5 ?_
 refine gX ?_
 refine gX ?_
 refine gX ?_
 refine gX ?_
 refine oN 2 ?_
 refine oK [4] ?_
 refine W.ret ?_
 refine er false [] [] ?_
 refine ⟨?_, rfl⟩
 by_cases h1 : x.lo ≤ n <;> by_cases h2 : n ≤ x.hi <;> simp [h1, h2]
end Go.Sim
