/- Rents: what is paid, and the law. -/
import Derived.Test.YtmkclhnokelicaaLu
import Derived.Test.YtmkclhnokelicaaLw
namespace Go.Sim
open Go.Proofs
set_option maxRecDepth 100000
set_option linter.unusedSimpArgs false
set_option linter.unusedVariables false
attribute [-simp] List.map_set List.map_take List.map_drop
/-- the rent of a stall -/
def rentL (l : Lett) (h : List Int) (s : Nat) : Int := if nth h s < 0 then 0 else if (nth l.stalls s).rule = 3 then bidA (nth l.apps (nth h s).toNat) s else (nth l.stalls s).least
def rentsL (l : Lett) (h : List Int) (k : Nat) : List Int := (List.range k).map (rentL l h)
theorem rentsL_len (l : Lett) (h : List Int) (k : Nat) : (rentsL l h k).length = k := by simp [rentsL]
theorem rentsL_succ (l : Lett) (h : List Int) (k : Nat) : rentsL l h (k + 1) = rentsL l h k ++ [rentL l h k] := by simp [rentsL, List.range_succ]
theorem rentL_none {l : Lett} {h : List Int} {s : Nat} (hs : s < h.length) (h0 : h[s] < 0) : rentL l h s = 0 := by rw [rentL, nth_get hs, if_pos h0]
theorem rentL_bid {l : Lett} {h : List Int} {s b : Nat} (hs : s < h.length) (hl : s < l.stalls.length) (hb : h[s] = (b : Int)) (hbl : b < l.apps.length) (hr : l.stalls[s].rule = 3) : rentL l h s = bidA l.apps[b] s := by
  rw [rentL, nth_get hs, hb, if_neg (by omega), nth_get hl, if_pos hr, Int.toNat_natCast, nth_get hbl]
theorem rentL_least {l : Lett} {h : List Int} {s b : Nat} (hs : s < h.length) (hl : s < l.stalls.length) (hb : h[s] = (b : Int)) (hr : ¬ l.stalls[s].rule = 3) : rentL l h s = l.stalls[s].least := by
  rw [rentL, nth_get hs, hb, if_neg (by omega), nth_get hl, if_neg hr]
theorem can_least {l : Lett} {b s : Nat} (hl : s < l.stalls.length) (hbl : b < l.apps.length) (hc : canS l.stalls (nth l.apps b) s = true) (hr : l.stalls[s].rule = 3) : l.stalls[s].least ≤ bidA l.apps[b] s := by
  rw [canS_eq hl, nth_get hbl, decide_eq_true hr] at hc
  simp only [Bool.and_eq_true, decide_eq_true_eq, Bool.not_true, Bool.false_or] at hc
  exact hc.2
theorem rentsL_zero (l : Lett) (h : List Int) : rentsL l h 0 = [] := rfl
attribute [local simp] rentsL_len rentsL_zero
set_option maxHeartbeats 4000000 in
theorem Rents_ok (l : Lett) (hv : ValidL l) (h : List Int) (hk : HoldOk l h) : ACalls Try.prog 36 [letV l, ints h] [] (fun r o => r = .tup [ints (rentsL l h h.length), I 0] ∧ o = []) := by
 refine ACalls.len (l := h.map I) (by simp) ⟨_, Try.func36, by kernel_rfl, by kernel_rfl⟩ fun hlh => ?_
 simp [maxLen_val] at hlh
 have F := Fx.nil
 refine ent Try.func36 Try.ntmps36 Try.results36 ?_
 have hch : checkH l h = 0 := checkH_zero.2 ⟨hv, hk⟩
 have h8 := hv.a8
 have hs8 := hv.s8
 have hhl := hk.len
 replace F := F.add hch |>.add h8 |>.add hs8 |>.add hhl
 refine rK [1, 2] ?_
 refine W.seqk fun K1 hK1 => ?_
 refine W.seqR ?_
 refine oN 2 ?_
 refine oC [] ?_
 refine ct (CheckHolders_ok _ _) ?_
 refine oN 1 ?_
 refine oK [1, 2, 6] ?_
 refine rK [1, 2, 6, 16] ?_
 refine cF ?_
 refine W.skip ?_
 refine hK1 _ ?_
 clear hK1 K1
 refine rK [1, 2, 7] ?_
 refine W.seqk fun K2 hK2 => ?_
 refine rK [2, 7, 18, 19, 20] ?_
 refine W.block ?_
 refine sn 7 9000 3 1 ?_
 refine lpa (α := Nat) [2, 18, 19] [11, 48, 53, 54] [9000] (fun s => [(20, I s), (7, .own 9000 0 s)]) (fun s => [(9000, .row true 3 1 ((rentsL l h s).map I))]) (fun s => s ≤ h.length) (fun s => h.length - s) 0 v0 ?_
 ·
  intro s hI0
  simp only [List.cons_append, List.nil_append]
  try dsimp only at hI0
  replace F := F.add hI0
  refine rK [2, 7, 18, 19, 20, 21] ?_
  refine W.seqk fun K3 hK3 => ?_
  refine it (fun hc2 => ?_) (fun hc2 => ?_)
  ·
   try simp at hc2
   replace F := F.add hc2
   refine W.skip ?_
   refine hK3 _ ?_
   clear hK3 K3
   refine W.seqk fun K4 hK4 => ?_
   refine W.block ?_
   have hsl : s < h.length := by omega
   have hs : s < l.stalls.length := by omega
   have hrl := rentsL_len l h s
   replace F := F.add hsl |>.add hs |>.add hrl
   refine rK [2, 7, 8, 9, 18, 19, 20] ?_
   refine rK [2, 7, 8, 9, 10, 18, 19, 20] ?_
   refine W.seqk fun K5 hK5 => ?_
   by_cases hneg : h[s] < 0
   ·
    replace F := F.add hneg
    refine rK [2, 7, 8, 9, 10, 11, 18, 19, 20] ?_
    refine W.block ?_
    refine rK [2, 7, 8, 9, 10, 11, 18, 19, 20, 32] ?_
    refine cT ?_
    refine W.skip ?_
    refine hK5 _ ?_
    clear hK5 K5
    refine rEw ?_
    refine hK4 _ ?_
    clear hK4 K4
    refine rEw ?_
    refine ⟨s + 1, lf ?_ ?_, v0, v0⟩
    ·
     exact v1
    ·
     try (simp [Fx.get F])
     all_goals (
      rw [rentsL_succ, List.map_append]
      first
      | (rw [rentL_none hsl hneg]; rfl)
      | (rw [rentL_bid hsl hs hb hbl hr3, bidA, nth_get hix]; rfl)
      | (rw [rentL_least hsl hs hb hr3]; rfl)
     )
   ·
    replace F := F.add hneg
    obtain ⟨b, qb⟩ : ∃ b : Nat, h[s] = (b : Int) := ⟨h[s].toNat, by omega⟩
    have hb := qb
    obtain ⟨hbl, qbc⟩ : b < l.apps.length ∧ canS l.stalls (nth l.apps b) s = true := by
      rcases hk.ok s hsl with q | ⟨c, q1, q2, q3⟩
      · omega
      · have : c = b := by omega
        subst this; exact ⟨q2, q3⟩
    have hbl2 := hbl
    have hbc : canS l.stalls l.apps[b] s = true := by rw [← nth_get hbl]; exact qbc
    have hwp := wishP_can hbc
    have qap := hv.ap _ (List.getElem_mem hbl)
    have hix : l.apps[b].wishes.idxOf (s : Int) < l.apps[b].bids.length := by rw [qap.len]; exact canS_lt hbc
    replace F := F.add hb |>.add hbl2 |>.add hbc |>.add hwp |>.add hix
    by_cases hr3 : l.stalls[s].rule = 3
    ·
     replace F := F.add hr3
     refine rK [2, 7, 8, 9, 10, 11, 18, 19, 20] ?_
     refine W.block ?_
     refine rK [2, 7, 8, 9, 10, 11, 18, 19, 20, 32] ?_
     refine cF ?_
     refine rK [2, 7, 8, 9, 11, 18, 19, 20, 35] ?_
     refine cT ?_
     refine wDe 10 [] [[], [0], [], [2, 0, 1], [1, 0, 2, 3], [3, 2, 0, 1, 4], [], [], [], [8, 7, 6], [6, 7, 8, 9, 4, 1, 0, 2, 3, 5], [5, 3, 2, 0, 1, 4, 9, 8, 7, 6, 10], [10, 6, 7, 8, 9, 4, 1, 0, 2, 3, 5, 11]] ?_
     refine dN 9 1 ?_
     refine dC [] ?_
     refine cd (wish_ok l hv b hbl s) ?_
     refine dD ?_
     refine oN 3 ?_
     refine WOps.endK ?_
     refine hK5 _ ?_
     clear hK5 K5
     refine rEw ?_
     refine hK4 _ ?_
     clear hK4 K4
     refine rEw ?_
     refine ⟨s + 1, lf ?_ ?_, v0, v0⟩
     ·
      exact v1
     ·
      try (simp [Fx.get F])
      all_goals (
       rw [rentsL_succ, List.map_append]
       first
       | (rw [rentL_none hsl hneg]; rfl)
       | (rw [rentL_bid hsl hs hb hbl hr3, bidA, nth_get hix]; rfl)
       | (rw [rentL_least hsl hs hb hr3]; rfl)
      )
    ·
     replace F := F.add hr3
     refine rK [2, 7, 8, 9, 10, 11, 18, 19, 20] ?_
     refine W.block ?_
     refine rK [2, 7, 8, 9, 10, 11, 18, 19, 20, 32] ?_
     refine cF ?_
     refine rK [2, 7, 8, 9, 11, 18, 19, 20, 35] ?_
     refine cF ?_
     refine rE ?_
     refine hK5 _ ?_
     clear hK5 K5
     refine rEw ?_
     refine hK4 _ ?_
     clear hK4 K4
     refine rEw ?_
     refine ⟨s + 1, lf ?_ ?_, v0, v0⟩
     ·
      exact v1
     ·
      try (simp [Fx.get F])
      all_goals (
       rw [rentsL_succ, List.map_append]
       first
       | (rw [rentL_none hsl hneg]; rfl)
       | (rw [rentL_bid hsl hs hb hbl hr3, bidA, nth_get hix]; rfl)
       | (rw [rentL_least hsl hs hb hr3]; rfl)
      )
  ·
   try simp at hc2
   replace F := F.add hc2
   refine W.exit ?_
   refine hK2 _ ?_
   clear hK3 K3 hK2 K2
   refine rK [4, 5] ?_
   refine W.ret ?_
   refine er false [9000] [] ?_
   have e : s = h.length := by omega
   subst e
   rw [List.take_of_length_le (by rw [rentsL_len]; exact Nat.le_refl _)]
   exact ⟨rfl, rfl⟩
set_option maxHeartbeats 4000000 in
theorem Rents_err (l : Lett) (h : List Int) (hn : ¬ checkH l h = 0) : ACalls Try.prog 36 [letV l, ints h] [] (fun r o => r = .tup [.val (.slice none 0 0), I (checkH l h)] ∧ o = []) := by
 have F := Fx.nil
 replace F := F.add hn
 refine ent Try.func36 Try.ntmps36 Try.results36 ?_
 refine rK [1, 2] ?_
 refine W.seqk fun K1 hK1 => ?_
 refine W.seqR ?_
 refine oN 2 ?_
 refine oC [] ?_
 refine ct (CheckHolders_ok _ _) ?_
 refine oN 1 ?_
 refine oK [1, 2, 6] ?_
 refine rK [1, 2, 6, 16] ?_
 refine cT ?_
 refine rK [4, 5] ?_
 refine W.ret ?_
 refine tr ?_
 clear hK1 K1
 exact er0 false [] []
/-- what is due so far -/
def dueK (st : Stl) (a : App) (s k : Nat) : Int := if st.rule = 3 ∧ (s : Int) ∈ a.wishes.take k then bidA a s else st.least
theorem dueK_zero (st : Stl) (a : App) (s : Nat) : dueK st a s 0 = st.least := by simp [dueK]
theorem dueK_no {st : Stl} {a : App} {s k : Nat} (h : ¬ st.rule = 3) : dueK st a s k = st.least := by rw [dueK, if_neg fun q => h q.1]
theorem dueK_miss {st : Stl} {a : App} {s k : Nat} (hk : k < a.wishes.length) (h : ¬ a.wishes[k] = (s : Int)) : dueK st a s (k + 1) = dueK st a s k := by
  rw [dueK, dueK, List.take_succ_eq_append_getElem hk]
  simp only [List.mem_append, List.mem_singleton]
  have : ¬ (s : Int) = a.wishes[k] := fun e => h e.symm
  simp only [this, or_false]
theorem dueK_hit {st : Stl} {a : App} {s k : Nat} (hd : a.wishes.Nodup) (hk : k < a.wishes.length) (hkb : k < a.bids.length) (h : a.wishes[k] = (s : Int)) (hr : st.rule = 3) : dueK st a s (k + 1) = a.bids[k] := by
  rw [dueK, if_pos ⟨hr, by rw [← h]; exact List.mem_take_iff_getElem.2 ⟨k, by omega, rfl⟩⟩, bidA, ← h, hd.idxOf_getElem k hk, nth_get hkb]
theorem dueK_end {l : Lett} {h : List Int} {s b : Nat} (hs : s < h.length) (hl : s < l.stalls.length) (hb : h[s] = (b : Int)) (hbl : b < l.apps.length) (hc : canS l.stalls (nth l.apps b) s = true) : dueK l.stalls[s] l.apps[b] s l.apps[b].wishes.length = rentL l h s ∧ l.stalls[s].least ≤ rentL l h s := by
  have hm := canS_mem hc
  rw [nth_get hbl] at hm
  by_cases hr : l.stalls[s].rule = 3
  · rw [rentL_bid hs hl hb hbl hr, dueK, List.take_length, if_pos ⟨hr, hm⟩]
    exact ⟨rfl, can_least hl hbl hc hr⟩
  · rw [rentL_least hs hl hb hr, dueK, if_neg fun q => hr q.1]
    exact ⟨rfl, Int.le_refl _⟩
attribute [local simp] dueK_zero
set_option maxHeartbeats 4000000 in
theorem StallRents_ok (nums : List Int) : ACalls Try.prog 9 [ints nums] [] (fun r o => r = B true ∧ o = []) := by
 have F := Fx.nil
 refine ent Try.func9 Try.ntmps9 Try.results9 ?_
 refine rK [0] ?_
 refine W.seqR ?_
 refine oN 1 ?_
 refine oC [] ?_
 refine ct (DieOf_ok _) ?_
 refine oN 1 ?_
 refine oK [3] ?_
 refine W.seqR ?_
 refine oN 1 ?_
 refine oC [(10000, 128)] ?_
 refine CallT.mkE (LettingOf_ok _ 4 4 (by omega) (by omega) (by omega)) (fun z18 hz18 => ⟨(by simp), ?_⟩)
 obtain ⟨l, fd⟩ := z18
 have qmade : MadeL l 4 4 := hz18
 have hv : ValidL l := qmade.ok
 have h8 := hv.a8
 have hs8 := hv.s8
 replace F := F.add hv |>.add h8 |>.add hs8
 refine WOps.norm (by simp [hv, h8, hs8]; rfl) ?_
 refine oN 2 ?_
 refine oK [3, 4] ?_
 refine W.seqR ?_
 refine fz 144 ?_
 refine fz 145 ?_
 refine oN 1 ?_
 refine oC [] ?_
 refine CallT.mkE (Let_ok l hv) (fun z21 hz21 => ⟨(by simp [hv, h8, hs8]), ?_⟩)
 refine WOps.norm (by simp [hv, h8, hs8]; rfl) ?_
 refine oN 5 ?_
 refine oK [3, 4, 5, 6] ?_
 refine W.seqk fun K1 hK1 => ?_
 refine W.seqR ?_
 refine oN 1 ?_
 refine oC [] ?_
 refine CallT.mk (All_ok l hv l.stalls.length [] (by simp)) (by simp [hv, h8, hs8]) ?_
 obtain ⟨A, qA⟩ : ∃ A, A = allL l l.stalls.length [] := ⟨_, rfl⟩
 have hA := qA.symm
 have qmem : ∀ h, h ∈ A ↔ HoldOk l h := fun h => by rw [qA]; exact mem_all
 have qlen : A.length ≤ 43046721 := by rw [qA]; exact Nat.le_trans (allL_many h8 _ _) (Nat.pow_le_pow_right (n := 9) (by omega) hs8)
 have hA0 : 0 < A.length := List.length_pos_of_mem ((qmem z21).2 hz21.hold)
 obtain ⟨g2, qg2⟩ : ∃ g, castF fd 2 = g := ⟨_, rfl⟩
 have hg2 := qg2
 replace F := F.add hA |>.add hA0 |>.add hg2
 refine WOps.norm (by simp [hv, h8, hs8, hA, hA0, hg2]; rfl) ?_
 refine oN 1 ?_
 refine oK [3, 4, 5, 6, 7] ?_
 refine W.seqR ?_
 refine oN 1 ?_
 refine oC [(10000, 128)] ?_
 refine ct (Once_ok _ _ (by omega)) ?_
 refine oK [3, 4, 5, 6, 7, 27] ?_
 refine it (fun hc1 => ?_) (fun hc1 => ?_)
 ·
  try simp at hc1
  replace F := F.add hc1
  obtain ⟨c, qc⟩ : ∃ c : Nat, castV g2 (A.length : Int) = (c : Int) := ⟨(castV g2 (A.length : Int)).toNat, by have := castV_lo g2 (A.length : Int); omega⟩
  have hcv := qc
  have hcA : c < A.length := by have := castV_hi g2 (A.length : Int) (by omega); omega
  obtain ⟨X, qX⟩ : ∃ X, X = A[c] := ⟨_, rfl⟩
  have hX := qX.symm
  have hk : HoldOk l X := by rw [qX]; exact (qmem _).1 (List.getElem_mem hcA)
  replace F := F.add hcv |>.add hcA |>.add hX |>.add hk
  refine W.region ?_
  refine oN 4 ?_
  refine oC [(10000, 128)] ?_
  refine ct (Cast_ok _ _ (by omega)) ?_
  refine oN 3 ?_
  refine WOps.endK ?_
  refine hK1 _ ?_
  clear hK1 K1
  have hXl : X.length = l.stalls.length := hk.len
  obtain ⟨R, qR⟩ : ∃ R, R = rentsL l X l.stalls.length := ⟨_, rfl⟩
  have hR := qR.symm
  have hRl : R.length = l.stalls.length := by rw [qR]; exact rentsL_len _ _ _
  have qRe : ∀ s (hs : s < R.length), R[s] = rentL l X s := fun s hs => by subst qR; simp [rentsL]
  replace F := F.add hXl |>.add hR |>.add hRl
  refine W.seqR ?_
  refine oN 2 ?_
  refine oC [] ?_
  refine ct (Rents_ok l hv X hk) ?_
  refine oN 5 ?_
  refine oK [4, 5, 6, 8, 9] ?_
  refine W.seqk fun K2 hK2 => ?_
  refine W.seqR ?_
  refine oN 3 ?_
  refine gT ?_
  refine gT ?_
  refine oN 2 ?_
  refine gT ?_
  refine gT ?_
  refine gT ?_
  refine gT ?_
  refine gT ?_
  refine gT ?_
  refine oN 2 ?_
  refine gT ?_
  refine gT ?_
  refine gT ?_
  refine gT ?_
  refine gT ?_
  refine oN 1 ?_
  refine oK [4, 5, 8, 61] ?_
  refine cF ?_
  refine W.skip ?_
  refine hK2 _ ?_
  clear hK2 K2
  refine W.seqk fun K3 hK3 => ?_
  refine rK [4, 5, 8, 10] ?_
  refine W.block ?_
  refine lpa (α := Nat) [4, 5, 8] [11, 12, 64, 89, 104] [] (fun i => [(10, I i)]) (fun i => []) (fun i => i ≤ R.length) (fun i => R.length - i) 0 v0 ?_
  ·
   intro i hI0
   simp only [List.cons_append, List.nil_append]
   try dsimp only at hI0
   replace F := F.add hI0
   refine W.seqk fun K4 hK4 => ?_
   refine rK [4, 5, 8, 10, 65] ?_
   refine it (fun hc3 => ?_) (fun hc3 => ?_)
   ·
    try simp at hc3
    replace F := F.add hc3
    refine W.skip ?_
    refine hK4 _ ?_
    clear hK4 K4
    refine W.seqk fun K5 hK5 => ?_
    refine W.block ?_
    have his : i < l.stalls.length := by omega
    have hiR : i < R.length := by omega
    have hiX : i < X.length := by omega
    have qRi := qRe i hiR
    replace F := F.add his |>.add hiR |>.add hiX
    refine rK [4, 5, 8, 10, 11] ?_
    refine W.seqk fun K6 hK6 => ?_
    by_cases hneg : X[i] < 0
    ·
     replace F := F.add hneg
     have hR0 : R[i] = 0 := by rw [qRi]; exact rentL_none hiX hneg
     replace F := F.add hR0
     refine rK [4, 5, 8, 10, 11, 77] ?_
     refine cT ?_
     refine W.seqk fun K7 hK7 => ?_
     refine rK [4, 5, 8, 10, 82] ?_
     refine cF ?_
     refine W.skip ?_
     refine hK7 _ ?_
     clear hK7 K7
     refine W.exit ?_
     refine hK5 _ ?_
     clear hK6 K6 hK5 K5
     refine rEw ?_
     refine ⟨i + 1, lf0, v0, v0⟩
    ·
     replace F := F.add hneg
     obtain ⟨b, qb⟩ : ∃ b : Nat, X[i] = (b : Int) := ⟨X[i].toNat, by omega⟩
     have hb := qb
     obtain ⟨hbl, qbc⟩ : b < l.apps.length ∧ canS l.stalls (nth l.apps b) i = true := by
       rcases hk.ok i hiX with q | ⟨c, q1, q2, q3⟩
       · omega
       · have : c = b := by omega
         subst this; exact ⟨q2, q3⟩
     have hbl2 := hbl
     have qap := hv.ap _ (List.getElem_mem hbl)
     have hwb : l.apps[b].bids.length = l.apps[b].wishes.length := qap.len
     have hw8 : l.apps[b].wishes.length ≤ 8 := by have := qap.wlen; omega
     have qend := dueK_end hiX his qb hbl qbc
     replace F := F.add hb |>.add hbl2 |>.add hwb |>.add hw8
     refine rK [4, 5, 8, 10, 11, 77] ?_
     refine cF ?_
     refine W.skip ?_
     refine hK6 _ ?_
     clear hK6 K6
     refine W.seqk fun K8 hK8 => ?_
     refine wD 7 [] [[], [], [1, 0], [0, 1, 2], [], [4], [4, 5], [5, 4, 6, 2, 1, 0, 3]] ?_
     refine dN 7 0 ?_
     refine dD ?_
     refine oN 1 ?_
     refine oK [4, 5, 8, 10, 11, 90] ?_
     refine cF ?_
     refine W.skip ?_
     refine hK8 _ ?_
     clear hK8 K8
     refine wD 9 [] [[], [0], [], [], [3, 2], [2, 3, 4], [4, 3, 2, 5, 0, 1], [1, 0, 5, 2, 3, 4, 6], [], [6, 4, 3, 2, 5, 0, 1, 7, 8]] ?_
     refine dN 9 0 ?_
     refine dD ?_
     refine oN 1 ?_
     refine oK [4, 5, 8, 10, 11, 12] ?_
     refine rK [4, 5, 8, 10, 11, 12, 13] ?_
     refine W.seqk fun K9 hK9 => ?_
     refine rK [4, 5, 8, 10, 11, 12, 13, 14] ?_
     refine W.block ?_
     refine lpa (α := Nat) [4, 5, 8, 10, 11, 12] [104] [] (fun k => [(14, I k), (13, I (dueK l.stalls[i] l.apps[b] i k))]) (fun k => []) (fun k => k ≤ l.apps[b].wishes.length) (fun k => l.apps[b].wishes.length - k) 0 v0 ?_
     ·
      intro k hI1
      simp only [List.cons_append, List.nil_append]
      try dsimp only at hI1
      replace F := F.add hI1
      refine W.seqk fun K10 hK10 => ?_
      refine rK [4, 5, 8, 10, 11, 12, 13, 14, 105] ?_
      refine it (fun hc8 => ?_) (fun hc8 => ?_)
      ·
       try simp at hc8
       replace F := F.add hc8
       refine W.skip ?_
       refine hK10 _ ?_
       clear hK10 K10
       refine W.seqk fun K11 hK11 => ?_
       refine W.block ?_
       by_cases hr3 : l.stalls[i].rule = 3
       ·
        replace F := F.add hr3
        have hkw : k < l.apps[b].wishes.length := by omega
        have hkb : k < l.apps[b].bids.length := by omega
        have hr2 : (l.stalls[i].rule == 3) = true := by simp [hr3]
        replace F := F.add hkw |>.add hkb |>.add hr2
        by_cases hwk : l.apps[b].wishes[k] = (i : Int)
        ·
         replace F := F.add hwk
         have hdue : dueK l.stalls[i] l.apps[b] i (k + 1) = l.apps[b].bids[k] := dueK_hit qap.nodup hkw hkb hwk hr3
         replace F := F.add hdue
         refine W.seqR ?_
         refine oN 4 ?_
         refine gT ?_
         refine gT ?_
         refine gT ?_
         refine gT ?_
         refine gT ?_
         refine gT ?_
         refine gT ?_
         refine oN 1 ?_
         refine oK [4, 5, 8, 10, 11, 12, 13, 14, 119] ?_
         refine cT ?_
         refine rE ?_
         refine hK11 _ ?_
         clear hK11 K11
         refine rEw ?_
         refine ⟨k + 1, lf0, v0, v0⟩
        ·
         replace F := F.add hwk
         have hw2 : (l.apps[b].wishes[k] == (i : Int)) = false := by simp [hwk]
         have hdue : dueK l.stalls[i] l.apps[b] i (k + 1) = dueK l.stalls[i] l.apps[b] i k := dueK_miss hkw hwk
         replace F := F.add hw2 |>.add hdue
         refine W.seqR ?_
         refine oN 4 ?_
         refine gT ?_
         refine gT ?_
         refine gT ?_
         refine gT ?_
         refine gT ?_
         refine gT ?_
         refine gT ?_
         refine oN 1 ?_
         refine oK [4, 5, 8, 10, 11, 12, 13, 14, 119] ?_
         refine cF ?_
         refine W.skip ?_
         refine hK11 _ ?_
         clear hK11 K11
         refine rEw ?_
         refine ⟨k + 1, lf0, v0, v0⟩
       ·
        replace F := F.add hr3
        have hkw : k < l.apps[b].wishes.length := by omega
        have hkb : k < l.apps[b].bids.length := by omega
        have hr2 : (l.stalls[i].rule == 3) = false := by simp [hr3]
        have hdue : dueK l.stalls[i] l.apps[b] i (k + 1) = dueK l.stalls[i] l.apps[b] i k := by rw [dueK_no hr3, dueK_no hr3]
        replace F := F.add hkw |>.add hkb |>.add hr2 |>.add hdue
        refine W.seqR ?_
        refine oN 4 ?_
        refine gF ?_
        refine gF ?_
        refine gF ?_
        refine gF ?_
        refine gF ?_
        refine gF ?_
        refine gF ?_
        refine oN 1 ?_
        refine oK [4, 5, 8, 10, 11, 12, 13, 14, 119] ?_
        refine cF ?_
        refine W.skip ?_
        refine hK11 _ ?_
        clear hK11 K11
        refine rEw ?_
        refine ⟨k + 1, lf0, v0, v0⟩
      ·
       try simp at hc8
       replace F := F.add hc8
       refine W.exit ?_
       refine hK9 _ ?_
       clear hK10 K10 hK9 K9
       have hke : k = l.apps[b].wishes.length := by omega
       have hre : dueK l.stalls[i] l.apps[b] i l.apps[b].wishes.length = R[i] := by rw [qRi]; exact qend.1
       have hrl : ¬ R[i] < l.stalls[i].least := by have := qend.2; rw [← qRi] at this; omega
       replace F := F.add hke |>.add hre |>.add hrl
       refine wD 13 [] [[], [], [1, 0], [0, 1, 2], [], [4, 2, 1, 0, 3], [3, 0, 1, 2, 4, 5], [5, 4, 2, 1, 0, 3, 6], [5, 4, 2, 1, 0, 3, 6], [8, 6, 3, 0, 1, 2, 4, 5, 7], [7, 5, 4, 2, 1, 0, 3, 6, 8, 9], [5, 4, 2, 1, 0, 3, 6], [6, 3, 0, 1, 2, 4, 5, 11], [11, 12, 9, 8, 6, 3, 0, 1, 2, 4, 5, 7, 10], [10, 7, 8, 9, 12, 11, 13, 5, 4, 2, 1, 0, 3, 6]] ?_
       refine dN 7 6 ?_
       refine dT ?_
       refine dT ?_
       refine dT ?_
       refine dT ?_
       refine dT ?_
       refine dT ?_
       refine dD ?_
       refine gT ?_
       refine oN 1 ?_
       refine oK [4, 5, 8, 10, 139] ?_
       refine cF ?_
       refine W.skip ?_
       refine hK5 _ ?_
       clear hK5 K5
       refine rEw ?_
       refine ⟨i + 1, lf0, v0, v0⟩
   ·
    try simp at hc3
    replace F := F.add hc3
    refine W.exit ?_
    refine hK3 _ ?_
    clear hK4 K4 hK3 K3
    refine W.seqR ?_
    refine oC [] ?_
    refine ct (awake_ok) ?_
    refine oN 1 ?_
    refine oK [2] ?_
    refine W.ret ?_
    refine er false [] [] ?_
    exact ⟨rfl, rfl⟩
 ·
  try simp at hc1
  replace F := F.add hc1
  obtain ⟨X, qX⟩ : ∃ X, X = z21 := ⟨_, rfl⟩
  have hX := qX.symm
  have hk : HoldOk l X := by rw [qX]; exact hz21.hold
  replace F := F.add hX |>.add hk
  refine W.skip ?_
  refine hK1 _ ?_
  clear hK1 K1
  have hXl : X.length = l.stalls.length := hk.len
  obtain ⟨R, qR⟩ : ∃ R, R = rentsL l X l.stalls.length := ⟨_, rfl⟩
  have hR := qR.symm
  have hRl : R.length = l.stalls.length := by rw [qR]; exact rentsL_len _ _ _
  have qRe : ∀ s (hs : s < R.length), R[s] = rentL l X s := fun s hs => by subst qR; simp [rentsL]
  replace F := F.add hXl |>.add hR |>.add hRl
  refine W.seqR ?_
  refine oN 2 ?_
  refine oC [] ?_
  refine ct (Rents_ok l hv X hk) ?_
  refine oN 5 ?_
  refine oK [4, 5, 6, 8, 9] ?_
  refine W.seqk fun K12 hK12 => ?_
  refine W.seqR ?_
  refine oN 3 ?_
  refine gT ?_
  refine gT ?_
  refine oN 2 ?_
  refine gT ?_
  refine gT ?_
  refine gT ?_
  refine gT ?_
  refine gT ?_
  refine gT ?_
  refine oN 2 ?_
  refine gT ?_
  refine gT ?_
  refine gT ?_
  refine gT ?_
  refine gT ?_
  refine oN 1 ?_
  refine oK [4, 5, 8, 61] ?_
  refine cF ?_
  refine W.skip ?_
  refine hK12 _ ?_
  clear hK12 K12
  refine W.seqk fun K13 hK13 => ?_
  refine rK [4, 5, 8, 10] ?_
  refine W.block ?_
  refine lpa (α := Nat) [4, 5, 8] [11, 12, 64, 89, 104] [] (fun i => [(10, I i)]) (fun i => []) (fun i => i ≤ R.length) (fun i => R.length - i) 0 v0 ?_
  ·
   intro i hI0
   simp only [List.cons_append, List.nil_append]
   try dsimp only at hI0
   replace F := F.add hI0
   refine W.seqk fun K14 hK14 => ?_
   refine rK [4, 5, 8, 10, 65] ?_
   refine it (fun hc14 => ?_) (fun hc14 => ?_)
   ·
    try simp at hc14
    replace F := F.add hc14
    refine W.skip ?_
    refine hK14 _ ?_
    clear hK14 K14
    refine W.seqk fun K15 hK15 => ?_
    refine W.block ?_
    have his : i < l.stalls.length := by omega
    have hiR : i < R.length := by omega
    have hiX : i < X.length := by omega
    have qRi := qRe i hiR
    replace F := F.add his |>.add hiR |>.add hiX
    refine rK [4, 5, 8, 10, 11] ?_
    refine W.seqk fun K16 hK16 => ?_
    by_cases hneg : X[i] < 0
    ·
     replace F := F.add hneg
     have hR0 : R[i] = 0 := by rw [qRi]; exact rentL_none hiX hneg
     replace F := F.add hR0
     refine rK [4, 5, 8, 10, 11, 77] ?_
     refine cT ?_
     refine W.seqk fun K17 hK17 => ?_
     refine rK [4, 5, 8, 10, 82] ?_
     refine cF ?_
     refine W.skip ?_
     refine hK17 _ ?_
     clear hK17 K17
     refine W.exit ?_
     refine hK15 _ ?_
     clear hK16 K16 hK15 K15
     refine rEw ?_
     refine ⟨i + 1, lf0, v0, v0⟩
    ·
     replace F := F.add hneg
     obtain ⟨b, qb⟩ : ∃ b : Nat, X[i] = (b : Int) := ⟨X[i].toNat, by omega⟩
     have hb := qb
     obtain ⟨hbl, qbc⟩ : b < l.apps.length ∧ canS l.stalls (nth l.apps b) i = true := by
       rcases hk.ok i hiX with q | ⟨c, q1, q2, q3⟩
       · omega
       · have : c = b := by omega
         subst this; exact ⟨q2, q3⟩
     have hbl2 := hbl
     have qap := hv.ap _ (List.getElem_mem hbl)
     have hwb : l.apps[b].bids.length = l.apps[b].wishes.length := qap.len
     have hw8 : l.apps[b].wishes.length ≤ 8 := by have := qap.wlen; omega
     have qend := dueK_end hiX his qb hbl qbc
     replace F := F.add hb |>.add hbl2 |>.add hwb |>.add hw8
     refine rK [4, 5, 8, 10, 11, 77] ?_
     refine cF ?_
     refine W.skip ?_
     refine hK16 _ ?_
     clear hK16 K16
     refine W.seqk fun K18 hK18 => ?_
     refine wD 7 [] [[], [], [1, 0], [0, 1, 2], [], [4], [4, 5], [5, 4, 6, 2, 1, 0, 3]] ?_
     refine dN 7 0 ?_
     refine dD ?_
     refine oN 1 ?_
     refine oK [4, 5, 8, 10, 11, 90] ?_
     refine cF ?_
     refine W.skip ?_
     refine hK18 _ ?_
     clear hK18 K18
     refine wD 9 [] [[], [0], [], [], [3, 2], [2, 3, 4], [4, 3, 2, 5, 0, 1], [1, 0, 5, 2, 3, 4, 6], [], [6, 4, 3, 2, 5, 0, 1, 7, 8]] ?_
     refine dN 9 0 ?_
     refine dD ?_
     refine oN 1 ?_
     refine oK [4, 5, 8, 10, 11, 12] ?_
     refine rK [4, 5, 8, 10, 11, 12, 13] ?_
     refine W.seqk fun K19 hK19 => ?_
     refine rK [4, 5, 8, 10, 11, 12, 13, 14] ?_
     refine W.block ?_
     refine lpa (α := Nat) [4, 5, 8, 10, 11, 12] [104] [] (fun k => [(14, I k), (13, I (dueK l.stalls[i] l.apps[b] i k))]) (fun k => []) (fun k => k ≤ l.apps[b].wishes.length) (fun k => l.apps[b].wishes.length - k) 0 v0 ?_
     ·
      intro k hI1
      simp only [List.cons_append, List.nil_append]
      try dsimp only at hI1
      replace F := F.add hI1
      refine W.seqk fun K20 hK20 => ?_
      refine rK [4, 5, 8, 10, 11, 12, 13, 14, 105] ?_
      refine it (fun hc19 => ?_) (fun hc19 => ?_)
      ·
       try simp at hc19
       replace F := F.add hc19
       refine W.skip ?_
       refine hK20 _ ?_
       clear hK20 K20
       refine W.seqk fun K21 hK21 => ?_
       refine W.block ?_
       by_cases hr3 : l.stalls[i].rule = 3
       ·
        replace F := F.add hr3
        have hkw : k < l.apps[b].wishes.length := by omega
        have hkb : k < l.apps[b].bids.length := by omega
        have hr2 : (l.stalls[i].rule == 3) = true := by simp [hr3]
        replace F := F.add hkw |>.add hkb |>.add hr2
        by_cases hwk : l.apps[b].wishes[k] = (i : Int)
        ·
         replace F := F.add hwk
         have hdue : dueK l.stalls[i] l.apps[b] i (k + 1) = l.apps[b].bids[k] := dueK_hit qap.nodup hkw hkb hwk hr3
         replace F := F.add hdue
         refine W.seqR ?_
         refine oN 4 ?_
         refine gT ?_
         refine gT ?_
         refine gT ?_
         refine gT ?_
         refine gT ?_
         refine gT ?_
         refine gT ?_
         refine oN 1 ?_
         refine oK [4, 5, 8, 10, 11, 12, 13, 14, 119] ?_
         refine cT ?_
         refine rE ?_
         refine hK21 _ ?_
         clear hK21 K21
         refine rEw ?_
         refine ⟨k + 1, lf0, v0, v0⟩
        ·
         replace F := F.add hwk
         have hw2 : (l.apps[b].wishes[k] == (i : Int)) = false := by simp [hwk]
         have hdue : dueK l.stalls[i] l.apps[b] i (k + 1) = dueK l.stalls[i] l.apps[b] i k := dueK_miss hkw hwk
         replace F := F.add hw2 |>.add hdue
         refine W.seqR ?_
         refine oN 4 ?_
         refine gT ?_
         refine gT ?_
         refine gT ?_
         refine gT ?_
         refine gT ?_
         refine gT ?_
         refine gT ?_
         refine oN 1 ?_
         refine oK [4, 5, 8, 10, 11, 12, 13, 14, 119] ?_
         refine cF ?_
         refine W.skip ?_
         refine hK21 _ ?_
         clear hK21 K21
         refine rEw ?_
         refine ⟨k + 1, lf0, v0, v0⟩
       ·
        replace F := F.add hr3
        have hkw : k < l.apps[b].wishes.length := by omega
        have hkb : k < l.apps[b].bids.length := by omega
        have hr2 : (l.stalls[i].rule == 3) = false := by simp [hr3]
        have hdue : dueK l.stalls[i] l.apps[b] i (k + 1) = dueK l.stalls[i] l.apps[b] i k := by rw [dueK_no hr3, dueK_no hr3]
        replace F := F.add hkw |>.add hkb |>.add hr2 |>.add hdue
        refine W.seqR ?_
        refine oN 4 ?_
        refine gF ?_
        refine gF ?_
        refine gF ?_
        refine gF ?_
        refine gF ?_
        refine gF ?_
        refine gF ?_
        refine oN 1 ?_
        refine oK [4, 5, 8, 10, 11, 12, 13, 14, 119] ?_
        refine cF ?_
        refine W.skip ?_
        refine hK21 _ ?_
        clear hK21 K21
        refine rEw ?_
        refine ⟨k + 1, lf0, v0, v0⟩
      ·
       try simp at hc19
       replace F := F.add hc19
       refine W.exit ?_
       refine hK19 _ ?_
       clear hK20 K20 hK19 K19
       have hke : k = l.apps[b].wishes.length := by omega
       have hre : dueK l.stalls[i] l.apps[b] i l.apps[b].wishes.length = R[i] := by rw [qRi]; exact qend.1
       have hrl : ¬ R[i] < l.stalls[i].least := by have := qend.2; rw [← qRi] at this; omega
       replace F := F.add hke |>.add hre |>.add hrl
       refine wD 13 [] [[], [], [1, 0], [0, 1, 2], [], [4, 2, 1, 0, 3], [3, 0, 1, 2, 4, 5], [5, 4, 2, 1, 0, 3, 6], [5, 4, 2, 1, 0, 3, 6], [8, 6, 3, 0, 1, 2, 4, 5, 7], [7, 5, 4, 2, 1, 0, 3, 6, 8, 9], [5, 4, 2, 1, 0, 3, 6], [6, 3, 0, 1, 2, 4, 5, 11], [11, 12, 9, 8, 6, 3, 0, 1, 2, 4, 5, 7, 10], [10, 7, 8, 9, 12, 11, 13, 5, 4, 2, 1, 0, 3, 6]] ?_
       refine dN 7 6 ?_
       refine dT ?_
       refine dT ?_
       refine dT ?_
       refine dT ?_
       refine dT ?_
       refine dT ?_
       refine dD ?_
       refine gT ?_
       refine oN 1 ?_
       refine oK [4, 5, 8, 10, 139] ?_
       refine cF ?_
       refine W.skip ?_
       refine hK15 _ ?_
       clear hK15 K15
       refine rEw ?_
       refine ⟨i + 1, lf0, v0, v0⟩
   ·
    try simp at hc14
    replace F := F.add hc14
    refine W.exit ?_
    refine hK13 _ ?_
    clear hK14 K14 hK13 K13
    refine W.seqR ?_
    refine oC [] ?_
    refine ct (awake_ok) ?_
    refine oN 1 ?_
    refine oK [2] ?_
    refine W.ret ?_
    refine er false [] [] ?_
    exact ⟨rfl, rfl⟩
end Go.Sim
