/- The trade of stalls that were let, by program and reference. -/
import Derived.Test.YtamcckgclidgkaaDoorLo
import Derived.Test.YtamcckgclidgkaaDoorPf
import Derived.Test.YtamcckgclidgkaaDoorVb
namespace Go.Sim
open Go.Proofs
set_option maxRecDepth 100000
set_option linter.unusedSimpArgs false
set_option linter.unusedVariables false
attribute [-simp] List.map_set List.map_take List.map_drop
/-- the wishes that can be had, as turns of a day -/
def likesN (l : Lett) (a : App) (d : Int) : Nat → List W6.Turn
  | 0 => []
  | k + 1 => if canAt l.stalls a k = true then likesN l a d k ++ [(nth a.wishes k, d)] else likesN l a d k
/-- turns owned, likes, and whose they are -/
abbrev Fr3 := List W6.Turn × List (List W6.Turn) × List Int
def stepF (l : Lett) (h : List Int) (d : Int) (a : Nat) (s : Fr3) : Fr3 := (s.1 ++ [(((h.idxOf (a : Int) : Nat) : Int), d)], s.2.1 ++ [likesN l (nth l.apps a) d (nth l.apps a).wishes.length], s.2.2 ++ [(a : Int)])
def frN (l : Lett) (h : List Int) (d : Int) : Nat → Fr3
  | 0 => ([], [], [])
  | a + 1 => if (a : Int) ∈ h then stepF l h d a (frN l h d a) else frN l h d a
def frL (l : Lett) (h : List Int) (d : Int) : Fr3 := frN l h d l.apps.length
abbrev frV (s : Fr3) : AV := .tup [W6.trade s.1 s.2.1, ints s.2.2, I 0]
/-- as many turns as likes and names -/
def Eq3 (n : Nat) (s : Fr3) : Prop := (s.1.length = s.2.2.length ∧ s.2.1.length = s.2.2.length) ∧ s.2.2.length ≤ n
theorem Eq3.step {l : Lett} {h : List Int} {d : Int} {a n : Nat} {s : Fr3} (k : Eq3 n s) : Eq3 (n + 1) (stepF l h d a s) := by
  obtain ⟨⟨k1, k2⟩, k3⟩ := k
  unfold Eq3 stepF
  simp only [List.length_append, List.length_cons, List.length_nil]
  omega
theorem canAt_get {l : Lett} {a : App} {k w : Nat} (hk : k < a.wishes.length) (hb : k < a.bids.length) (hw : a.wishes[k] = (w : Int)) (hs : w < l.stalls.length) : canAt l.stalls a k = !(decide (l.stalls[w].rule = 3) && decide (a.bids[k] < l.stalls[w].least)) := by
  rw [canAt, nth_get hk, hw, Int.toNat_natCast, nth_get hs, nth_get hb]
set_option maxHeartbeats 4000000 in
theorem From_fine (l : Lett) (hv : ValidL l) (h : List Int) (hk : HoldOk l h) (d : Int) (hd : 0 ≤ d ∧ d ≤ 6) : ACalls Tryd.prog 12 [letV l, ints h, I d] [] (fun r o => r = frV (frL l h d) ∧ o = []) := by
 have F := Fx.nil
 replace F := F.add hd
 refine ent Tryd.func12 Tryd.ntmps12 Tryd.results12 ?_
 have h8 := hv.a8
 have hs8 := hv.s8
 have hhl := hk.len
 have hch : checkH l h = 0 := checkH_zero.2 ⟨hv, hk⟩
 replace F := F.add h8 |>.add hs8 |>.add hhl |>.add hch
 refine rK [1, 2, 3, 6, 7] ?_
 refine W.seqk fun K1 hK1 => ?_
 refine W.seqR ?_
 refine oN 2 ?_
 refine oC [] ?_
 refine ct (CheckHolders_ok l h) ?_
 refine oN 1 ?_
 refine oK [1, 2, 3, 6, 7, 9] ?_
 refine rK [1, 2, 3, 6, 7, 9, 21] ?_
 refine cF ?_
 refine W.skip ?_
 refine hK1 _ ?_
 clear hK1 K1
 refine W.seqk fun K2 hK2 => ?_
 refine W.seqR ?_
 refine oN 1 ?_
 refine oC [] ?_
 refine ct (W6.in_ok _ _ _) ?_
 refine oN 1 ?_
 refine oK [1, 2, 3, 6, 7, 26] ?_
 refine cF ?_
 refine W.skip ?_
 refine hK2 _ ?_
 clear hK2 K2
 refine W.seqk fun K3 hK3 => ?_
 refine rK [1, 2, 3, 6, 7, 29, 30, 31] ?_
 refine W.block ?_
 refine sn 7 9016 3 1 ?_
 refine sno 48 0 0 9000 28 2 ?_
 refine sno 48 0 1 9008 22 1 ?_
 refine lpa (α := Nat × Fr3) [1, 2, 3, 6, 29, 30] [11, 16, 38, 43, 71, 72, 79, 80, 84, 85, 88, 89] [48, 9000, 9008, 9016] (fun x => [(31, I x.1), (7, .own 9016 0 x.2.2.2.length)]) (fun x => [(48, .row false 25 2 [.agg [.own 9000 0 x.2.1.length, .own 9008 0 x.2.2.1.length]]), (9000, .row true 28 2 (x.2.1.map W6.T)), (9008, .row true 22 1 (x.2.2.1.map W6.turns)), (9016, .row true 3 1 (x.2.2.2.map I))]) (fun x => x.1 ≤ l.apps.length ∧ (x.2.1.length = x.2.2.2.length ∧ x.2.2.1.length = x.2.2.2.length ∧ x.2.2.2.length ≤ x.1) ∧ x.2 = frN l h d x.1) (fun x => l.apps.length - x.1) (0, [], [], []) ?_ ?_
 ·
  first
  | exact ⟨Nat.zero_le _, ⟨rfl, rfl, Nat.le_refl _⟩, rfl⟩
  | exact ⟨Nat.zero_le _, Nat.le_refl _, rfl⟩
 ·
  intro ⟨a, ow, lk, ap⟩ hI0
  simp only [List.cons_append, List.nil_append]
  try dsimp only at hI0
  obtain ⟨hal0, hln, qfr⟩ := hI0
  replace F := F.add hal0 |>.add hln
  refine rK [1, 2, 3, 6, 7, 29, 30, 31, 32] ?_
  refine W.seqk fun K4 hK4 => ?_
  refine it (fun hc3 => ?_) (fun hc3 => ?_)
  ·
   try simp at hc3
   replace F := F.add hc3
   refine W.skip ?_
   refine hK4 _ ?_
   clear hK4 K4
   refine W.seqk fun K5 hK5 => ?_
   refine W.block ?_
   have hal : a < l.apps.length := by omega
   obtain ⟨A, qA⟩ : ∃ A, A = l.apps[a] := ⟨_, rfl⟩
   have hA := qA.symm
   have qAn : nth l.apps a = A := by rw [nth_get hal]; exact qA.symm
   have qap : AppOk l.stalls.length A := by rw [qA]; exact hv.ap _ (List.getElem_mem hal)
   have hbl : A.bids.length = A.wishes.length := qap.len
   have hwl : A.wishes.length ≤ 8 := by have := qap.wlen; omega
   replace F := F.add hal |>.add hA |>.add hbl |>.add hwl
   refine rK [1, 2, 3, 6, 7, 10, 11, 29, 30, 31] ?_
   by_cases hin : (a : Int) ∈ h
   ·
    replace F := F.add hin
    have hix := List.idxOf_lt_length_iff.2 hin
    have hix2 : ¬ ((h.idxOf (a : Int) : Nat) : Int) < 0 := by omega
    replace F := F.add hix |>.add hix2
    refine W.seqR ?_
    refine oN 2 ?_
    refine oC [] ?_
    refine ct (IndexI_ok h (a : Int)) ?_
    refine oN 1 ?_
    refine oK [1, 2, 3, 6, 7, 10, 11, 12, 29, 30, 31] ?_
    refine W.seqk fun K6 hK6 => ?_
    refine rK [1, 2, 3, 6, 7, 10, 11, 12, 29, 30, 31, 40] ?_
    refine cF ?_
    refine W.skip ?_
    refine hK6 _ ?_
    clear hK6 K6
    refine rK [1, 2, 3, 6, 7, 10, 11, 12, 13, 29, 30, 31] ?_
    refine W.seqk fun K7 hK7 => ?_
    refine rK [1, 2, 3, 6, 7, 10, 11, 12, 13, 29, 30, 31, 42, 43, 44] ?_
    refine W.block ?_
    refine sn 13 9024 28 2 ?_
    refine lpa (α := Nat × List W6.Turn) [1, 2, 3, 6, 7, 10, 11, 12, 29, 30, 31, 42, 43] [16, 71, 72] [9024] (fun x => [(44, I x.1), (13, .own 9024 0 x.2.length)]) (fun x => [(9024, .row true 28 2 (x.2.map W6.T))]) (fun x => x.1 ≤ A.wishes.length ∧ x.2.length ≤ x.1 ∧ x.2 = likesN l A d x.1) (fun x => A.wishes.length - x.1) (0, []) ?_ ?_
    ·
     first
     | exact ⟨Nat.zero_le _, ⟨rfl, rfl, Nat.le_refl _⟩, rfl⟩
     | exact ⟨Nat.zero_le _, Nat.le_refl _, rfl⟩
    ·
     intro ⟨k, lks⟩ hI1
     simp only [List.cons_append, List.nil_append]
     try dsimp only at hI1
     obtain ⟨hk0, hlk, qlk⟩ := hI1
     replace F := F.add hk0 |>.add hlk
     refine rK [1, 2, 3, 6, 7, 10, 11, 12, 13, 29, 30, 31, 42, 43, 44, 45] ?_
     refine W.seqk fun K8 hK8 => ?_
     refine it (fun hc5 => ?_) (fun hc5 => ?_)
     ·
      try simp at hc5
      replace F := F.add hc5
      refine W.skip ?_
      refine hK8 _ ?_
      clear hK8 K8
      refine W.seqk fun K9 hK9 => ?_
      refine W.block ?_
      have hkl : k < A.wishes.length := by omega
      have hkb : k < A.bids.length := by omega
      obtain ⟨w, qw⟩ : ∃ w : Nat, A.wishes[k] = (w : Int) := ⟨A.wishes[k].toNat, by have := qap.wish _ (List.getElem_mem hkl); omega⟩
      have hw := qw
      have hwS : w < l.stalls.length := by have := qap.wish _ (List.getElem_mem hkl); omega
      have qcn := canAt_get (l := l) hkl hkb qw hwS
      obtain ⟨bk, qbk⟩ : ∃ x, A.bids[k] = x := ⟨_, rfl⟩
      have hbk := qbk
      have hbn : nth A.bids k = bk := by rw [nth_get hkb, qbk]
      rw [qbk] at qcn
      replace F := F.add hkl |>.add hkb |>.add hw |>.add hwS |>.add hbk |>.add hbn
      refine rK [1, 2, 3, 6, 7, 10, 11, 12, 13, 14, 15, 29, 30, 31, 42, 43, 44] ?_
      refine rK [1, 2, 3, 6, 7, 10, 11, 12, 13, 14, 15, 16, 29, 30, 31, 42, 43, 44] ?_
      refine wD 11 [] [[], [0], [0, 1], [1, 0, 2], [2, 0, 1, 3], [3, 1, 0, 2, 4], [2, 0, 1, 3], [6, 4, 2, 0, 1, 3, 5], [5, 3, 1, 0, 2, 4, 6, 7], [2, 0, 1, 3], [3, 1, 0, 2, 9], [9, 10, 7, 6, 4, 2, 0, 1, 3, 5, 8], [8, 5, 4, 6, 7, 10, 9, 11, 2, 0, 1, 3]] ?_
      refine dB [([], [], []), ([], [true], []), ([], [true, true], []), ([], [true, true, true], [])] 7 4 ?_
      refine dX [60, 63, 64] [true, true, true, true] [] ?_
      refine dX [60, 63, 64] [true, true, true, true, true] [] ?_
      refine dX [58, 59, 63, 64] [true, true, true, true, false, false] [] ?_
      refine dX [63, 64] [true, true, true, true, true, true, true] [] ?_
      refine dX [63, 64] [true, true, true, true, true, true, true, true] [] ?_
      refine dX [58, 59, 60, 61, 62] [true, true, true, true, false, false, false, false, false] [] ?_
      refine dX [58, 59, 60, 61, 62] [true, true, true, true, false, false, false, false, false, true] [] ?_
      refine dD ?_
      refine gX ?_
      refine oN 1 ?_
      refine oK [1, 2, 3, 6, 7, 10, 11, 12, 13, 15, 29, 30, 31, 42, 43, 44, 66] ?_
      refine it (fun hc6 => ?_) (fun hc6 => ?_)
      ·
       try simp at hc6
       replace F := F.add hc6
       refine rEw ?_
       refine hK9 _ ?_
       clear hK9 K9
       refine rEw ?_
       refine ⟨(k + 1, lks ++ [(A.wishes[k], d)]), lf0, ?_, v0⟩
       ·
        refine ⟨by show k + 1 ≤ _; omega, by show (lks ++ [_]).length ≤ k + 1; rw [List.length_append, List.length_cons, List.length_nil]; omega, ?_⟩
        show lks ++ [(A.wishes[k], d)] = likesN l A d (k + 1)
        rw [likesN, if_pos (by rw [qcn]; simp_all), nth_get hkl, qlk]
      ·
       try simp at hc6
       replace F := F.add hc6
       refine W.skip ?_
       refine hK9 _ ?_
       clear hK9 K9
       refine rEw ?_
       refine ⟨(k + 1, lks), lf0, ?_, v0⟩
       ·
        refine ⟨by show k + 1 ≤ _; omega, by show lks.length ≤ k + 1; omega, ?_⟩
        show lks = likesN l A d (k + 1)
        rw [likesN, if_neg (by rw [qcn]; simp_all)]; exact qlk
     ·
      try simp at hc5
      replace F := F.add hc5
      refine W.exit ?_
      refine hK7 _ ?_
      clear hK8 K8 hK7 K7
      have hke : k = A.wishes.length := by omega
      have htk : List.take A.wishes.length lks = lks := List.take_of_length_le (by omega)
      replace F := F.add hke |>.add htk
      refine W.weaken (Le.freeze (id := 9024) (by simp [hd, h8, hs8, hhl, hch, hal0, hln, hc3, hal, hA, hbl, hwl, hin, hix, hix2, hk0, hlk, hc5, hke, htk]; rfl)) ?_
      refine wDe 17 [(6, [9000]), (11, [9008]), (15, [9016])] [[], [0], [], [], [3, 2], [2, 3, 4], [4, 3, 2, 5, 0, 1], [], [7], [], [9], [1, 0, 5, 2, 3, 4, 6, 9, 10, 7, 8], [], [], [13], [8, 7, 10, 9, 6, 4, 3, 2, 5, 0, 1, 11, 13, 14, 12], [8, 7, 6, 5, 4, 3, 2, 1, 0], [12, 14, 13, 11, 9, 10, 15, 0, 1, 2, 3, 4, 5, 6, 7, 8, 16], [15, 13, 14, 12, 17, 16, 11, 10, 9, 8, 7, 6, 5, 4, 3, 2, 1, 0], [0, 1, 2, 3, 4, 5, 6, 7, 8, 9, 10, 11, 16, 17, 12, 14, 13, 15, 18], [18, 17, 16, 19, 12, 14, 13, 11, 1, 0, 5, 2, 3, 4, 6, 9, 10, 7, 8, 15]] ?_
      refine dB [([76, 77, 78, 79, 81, 82, 83, 84, 86, 87, 88], [], []), ([76, 77, 78, 79, 81, 82, 83, 84, 86, 87, 88], [true], []), ([74, 75, 77, 81, 82, 83, 84, 86, 87, 88], [false, false], []), ([74, 75, 76, 81, 82, 83, 84, 86, 87, 88], [false, false, false], []), ([74, 75, 81, 82, 83, 84, 86, 87, 88], [false, false, true, true], []), ([74, 75, 81, 82, 83, 84, 86, 87, 88], [false, false, true, true, true], [])] 11 6 ?_
      refine dAw [81, 82, 83, 84, 86, 87, 88] [true, true, true, true, true, true] [] [9000] ?_
      refine dB [([74, 75, 76, 77, 78, 79, 80, 83, 84, 86, 87, 88], [false, false, false, false, false, false, false], [9000]), ([74, 75, 76, 77, 78, 79, 80, 83, 84, 86, 87, 88], [false, false, false, false, false, false, false, true], [9000]), ([74, 75, 76, 77, 78, 79, 80, 81, 82, 86, 87, 88, 90], [false, false, false, false, false, false, false, false, false], [9000]), ([74, 75, 76, 77, 78, 79, 80, 81, 82, 86, 87, 88, 90], [false, false, false, false, false, false, false, false, false, true], [9000])] 6 11 ?_
      refine dAw [86, 87, 88, 90] [true, true, true, true, true, true, true, true, true, true, true] [] [9008] ?_
      refine dB [([74, 75, 76, 77, 78, 79, 80, 81, 82, 83, 84, 85, 87, 88, 90], [false, false, false, false, false, false, false, false, false, false, false, false], [9000, 9008]), ([74, 75, 76, 77, 78, 79, 80, 81, 82, 83, 84, 85, 86, 90], [false, false, false, false, false, false, false, false, false, false, false, false, false], [9000, 9008]), ([74, 75, 76, 77, 78, 79, 80, 81, 82, 83, 84, 85, 86, 90], [false, false, false, false, false, false, false, false, false, false, false, false, false, true], [9000, 9008])] 2 15 ?_
      refine dAw [90] [true, true, true, true, true, true, true, true, true, true, true, true, true, true, true] [] [9016] ?_
      refine dB [([83, 84, 85, 86, 87, 88, 89], [true, true, true, true, true, true, true, true, true, false, false, false, false, false, false, false], [9008, 9016])] 0 17 ?_
      refine dD ?_
      refine WOps.le (Le.exch (x := 640) (y := 9000) (by simp [hd, h8, hs8, hhl, hch, hal0, hln, hc3, hal, hA, hbl, hwl, hin, hix, hix2, hk0, hlk, hc5, hke, htk]; rfl)) rfl rfl ?_
      refine WOps.le (Le.exch (x := 680) (y := 9008) (by simp [hd, h8, hs8, hhl, hch, hal0, hln, hc3, hal, hA, hbl, hwl, hin, hix, hix2, hk0, hlk, hc5, hke, htk]; rfl)) rfl rfl ?_
      refine WOps.le (Le.exch (x := 712) (y := 9016) (by simp [hd, h8, hs8, hhl, hch, hal0, hln, hc3, hal, hA, hbl, hwl, hin, hix, hix2, hk0, hlk, hc5, hke, htk]; rfl)) rfl rfl ?_
      refine oN 4 ?_
      refine WOps.endK ?_
      refine hK5 _ ?_
      clear hK5 K5
      refine rEw ?_
      refine ⟨(a + 1, ow ++ [(((h.idxOf (a : Int) : Nat) : Int), d)], lk ++ [lks], ap ++ [(a : Int)]), lf0, ?_, v0⟩
      ·
       refine ⟨by show a + 1 ≤ _; omega, by simp only [List.length_append, List.length_cons, List.length_nil]; omega, ?_⟩
       show (ow ++ _, lk ++ [lks], ap ++ [_]) = frN l h d (a + 1)
       rw [frN, if_pos hin, stepF, ← qfr, qAn, ← hke, ← qlk]
   ·
    replace F := F.add hin
    refine W.seqR ?_
    refine oN 2 ?_
    refine oC [] ?_
    refine ct (IndexI_ok h (a : Int)) ?_
    refine oN 1 ?_
    refine oK [1, 2, 3, 6, 7, 10, 11, 12, 29, 30, 31] ?_
    refine W.seqk fun K10 hK10 => ?_
    refine rK [1, 2, 3, 6, 7, 10, 11, 12, 29, 30, 31, 40] ?_
    refine cT ?_
    refine W.exit ?_
    refine hK5 _ ?_
    clear hK10 K10 hK5 K5
    refine rEw ?_
    refine ⟨(a + 1, ow, lk, ap), lf0, ?_, v0⟩
    ·
     refine ⟨by show a + 1 ≤ _; omega, by show ow.length = ap.length ∧ lk.length = ap.length ∧ ap.length ≤ a + 1; omega, ?_⟩
     show (ow, lk, ap) = frN l h d (a + 1)
     rw [frN, if_neg hin]; exact qfr
  ·
   try simp at hc3
   replace F := F.add hc3
   refine W.exit ?_
   refine hK3 _ ?_
   clear hK4 K4 hK3 K3
   have htk1 : List.take ap.length ow = ow := List.take_of_length_le (by omega)
   have htk2 : List.take ap.length lk = lk := List.take_of_length_le (by omega)
   replace F := F.add htk1 |>.add htk2
   refine W.weaken (Le.freeze (id := 9000) (by simp [hd, h8, hs8, hhl, hch, hal0, hln, hc3, htk1, htk2]; rfl)) ?_
   refine W.weaken (Le.freeze (id := 9008) (by simp [hd, h8, hs8, hhl, hch, hal0, hln, hc3, htk1, htk2]; rfl)) ?_
   refine W.weaken (Le.freeze (id := 9016) (by simp [hd, h8, hs8, hhl, hch, hal0, hln, hc3, htk1, htk2]; rfl)) ?_
   refine rK [6, 7, 8] ?_
   refine W.ret ?_
   refine er false [] [] ?_
   have e : a = l.apps.length := by omega
   obtain ⟨q1, q2, q3⟩ := hln
   try rw [List.take_of_length_le (show ow.length ≤ ap.length by omega), List.take_of_length_le (show lk.length ≤ ap.length by omega)]
   rw [frL, ← e, ← qfr]
   exact ⟨rfl, rfl⟩
end Go.Sim
