/- The trade of stalls that were let, by program and reference. -/
import Derived.Test.YticllllmgpjbcaaLo
import Derived.Test.YticllllmgpjbcaaPf
import Derived.Test.YticllllmgpjbcaaVb
namespace Go.Sim
open Go.Proofs
set_option maxRecDepth 100000
set_option linter.unusedSimpArgs false
set_option linter.unusedVariables false
attribute [-simp] List.map_set List.map_take List.map_drop
/-- the wishes that can be had, as turns of a day -/
def likesN (l : Lett) (a : App) (d : Int) : Nat → List W6.Turn
  | 0 => []
  | k + 1 => if canAt l.stalls a k = true then likesN l a d k ++ [(nth a.wishes k, d)] else likesN l a d k
/-- turns owned, likes, and whose they are -/
abbrev Fr3 := List W6.Turn × List (List W6.Turn) × List Int
def stepF (l : Lett) (h : List Int) (d : Int) (a : Nat) (s : Fr3) : Fr3 := (s.1 ++ [(((h.idxOf (a : Int) : Nat) : Int), d)], s.2.1 ++ [likesN l (nth l.apps a) d (nth l.apps a).wishes.length], s.2.2 ++ [(a : Int)])
def frN (l : Lett) (h : List Int) (d : Int) : Nat → Fr3
  | 0 => ([], [], [])
  | a + 1 => if (a : Int) ∈ h then stepF l h d a (frN l h d a) else frN l h d a
def frL (l : Lett) (h : List Int) (d : Int) : Fr3 := frN l h d l.apps.length
def frE (l : Lett) (h : List Int) (d : Int) : Int := if checkH l h ≠ 0 then checkH l h else if ¬ (0 ≤ d ∧ d ≤ 6) then 1 else 0
abbrev frV (s : Fr3) : AV := .tup [W6.trade s.1 s.2.1, ints s.2.2, I 0]
abbrev frX (e : Int) : AV := .tup [.agg [.val (.slice none 0 0), .val (.slice none 0 0)], .val (.slice none 0 0), I e]
/-- as many turns as likes and names -/
def Eq3 (n : Nat) (s : Fr3) : Prop := (s.1.length = s.2.2.length ∧ s.2.1.length = s.2.2.length) ∧ s.2.2.length ≤ n
theorem Eq3.step {l : Lett} {h : List Int} {d : Int} {a n : Nat} {s : Fr3} (k : Eq3 n s) : Eq3 (n + 1) (stepF l h d a s) := by
  obtain ⟨⟨k1, k2⟩, k3⟩ := k
  unfold Eq3 stepF
  simp only [List.length_append, List.length_cons, List.length_nil]
  omega
theorem frN_eq3 (l : Lett) (h : List Int) (d : Int) : ∀ n, Eq3 n (frN l h d n)
  | 0 => ⟨⟨rfl, rfl⟩, Nat.le_refl _⟩
  | n + 1 => by
    rw [frN]; split
    · exact (frN_eq3 l h d n).step
    · obtain ⟨k1, k2⟩ := frN_eq3 l h d n; exact ⟨k1, by omega⟩
theorem canAt_get {l : Lett} {a : App} {k w : Nat} (hk : k < a.wishes.length) (hb : k < a.bids.length) (hw : a.wishes[k] = (w : Int)) (hs : w < l.stalls.length) : canAt l.stalls a k = !(decide (l.stalls[w].rule = 3) && decide (a.bids[k] < l.stalls[w].least)) := by
  rw [canAt, nth_get hk, hw, Int.toNat_natCast, nth_get hs, nth_get hb]
theorem canS_at {l : Lett} {a : App} {k w : Nat} (hn : a.wishes.Nodup) (hk : k < a.wishes.length) (hw : a.wishes[k] = (w : Int)) : canS l.stalls a w = canAt l.stalls a k := by
  have hm : (w : Int) ∈ a.wishes := by rw [← hw]; exact List.getElem_mem hk
  have hi : a.wishes.idxOf (w : Int) = k := by rw [← hw]; exact hn.idxOf_getElem k hk
  rw [canS, decide_eq_true hm, hi]; rfl
set_option maxHeartbeats 4000000 in
theorem From_fine (l : Lett) (hv : ValidL l) (h : List Int) (hk : HoldOk l h) (d : Int) (hd : 0 ≤ d ∧ d ≤ 6) : ACalls Try.prog 12 [letV l, ints h, I d] [] (fun r o => r = frV (frL l h d) ∧ o = []) := by
 have F := Fx.nil
 replace F := F.add hd
 refine ent Try.func12 Try.ntmps12 Try.results12 ?_
 have h8 := hv.a8
 have hs8 := hv.s8
 have hhl := hk.len
 have hch : checkH l h = 0 := checkH_zero.2 ⟨hv, hk⟩
 replace F := F.add h8 |>.add hs8 |>.add hhl |>.add hch
 refine rK [1, 2, 3, 6, 7] ?_
 refine W.seqk fun K1 hK1 => ?_
 refine W.seqR ?_
 refine oN 2 ?_
 refine oC [] ?_
 refine ct (CheckHolders_ok l h) ?_
 refine oN 1 ?_
 refine oK [1, 2, 3, 6, 7, 9] ?_
 refine rK [1, 2, 3, 6, 7, 9, 21] ?_
 refine cF ?_
 refine W.skip ?_
 refine hK1 _ ?_
 clear hK1 K1
 refine W.seqk fun K2 hK2 => ?_
 refine W.seqR ?_
 refine oN 1 ?_
 refine oC [] ?_
 refine ct (W6.in_ok _ _ _) ?_
 refine oN 1 ?_
 refine oK [1, 2, 3, 6, 7, 26] ?_
 refine cF ?_
 refine W.skip ?_
 refine hK2 _ ?_
 clear hK2 K2
 refine W.seqk fun K3 hK3 => ?_
 refine rK [1, 2, 3, 6, 7, 29, 30, 31] ?_
 refine W.block ?_
 refine sn 7 9016 3 1 ?_
 refine sno 48 0 0 9000 47 2 ?_
 refine sno 48 0 1 9008 27 1 ?_
 refine lpa (α := Nat × Fr3) [1, 2, 3, 6, 29, 30] [11, 16, 38, 43, 71, 72, 79, 80, 84, 85, 88, 89] [48, 9000, 9008, 9016] (fun x => [(31, I x.1), (7, .own 9016 0 x.2.2.2.length)]) (fun x => [(48, .row false 30 2 [.agg [.own 9000 0 x.2.1.length, .own 9008 0 x.2.2.1.length]]), (9000, .row true 47 2 (x.2.1.map W6.T)), (9008, .row true 27 1 (x.2.2.1.map W6.turns)), (9016, .row true 3 1 (x.2.2.2.map I))]) (fun x => x.1 ≤ l.apps.length ∧ (x.2.1.length = x.2.2.2.length ∧ x.2.2.1.length = x.2.2.2.length ∧ x.2.2.2.length ≤ x.1) ∧ x.2 = frN l h d x.1) (fun x => l.apps.length - x.1) (0, [], [], []) ?_ ?_
 ·
  first
  | exact ⟨Nat.zero_le _, ⟨rfl, rfl, Nat.le_refl _⟩, rfl⟩
  | exact ⟨Nat.zero_le _, Nat.le_refl _, rfl⟩
 ·
  intro ⟨a, ow, lk, ap⟩ hI0
  simp only [List.cons_append, List.nil_append]
  try dsimp only at hI0
  obtain ⟨hal0, hln, qfr⟩ := hI0
  replace F := F.add hal0 |>.add hln
  refine rK [1, 2, 3, 6, 7, 29, 30, 31, 32] ?_
  refine W.seqk fun K4 hK4 => ?_
  refine it (fun hc3 => ?_) (fun hc3 => ?_)
  ·
   try simp at hc3
   replace F := F.add hc3
   refine W.skip ?_
   refine hK4 _ ?_
   clear hK4 K4
   refine W.seqk fun K5 hK5 => ?_
   refine W.block ?_
   have hal : a < l.apps.length := by omega
   obtain ⟨A, qA⟩ : ∃ A, A = l.apps[a] := ⟨_, rfl⟩
   have hA := qA.symm
   have qAn : nth l.apps a = A := by rw [nth_get hal]; exact qA.symm
   have qap : AppOk l.stalls.length A := by rw [qA]; exact hv.ap _ (List.getElem_mem hal)
   have hbl : A.bids.length = A.wishes.length := qap.len
   have hwl : A.wishes.length ≤ 8 := by have := qap.wlen; omega
   replace F := F.add hal |>.add hA |>.add hbl |>.add hwl
   refine rK [1, 2, 3, 6, 7, 10, 11, 29, 30, 31] ?_
   by_cases hin : (a : Int) ∈ h
   ·
    replace F := F.add hin
    have hix := List.idxOf_lt_length_iff.2 hin
    have hix2 : ¬ ((h.idxOf (a : Int) : Nat) : Int) < 0 := by omega
    replace F := F.add hix |>.add hix2
    refine W.seqR ?_
    refine oN 2 ?_
    refine oC [] ?_
    refine ct (IndexI_ok h (a : Int)) ?_
    refine oN 1 ?_
    refine oK [1, 2, 3, 6, 7, 10, 11, 12, 29, 30, 31] ?_
    refine W.seqk fun K6 hK6 => ?_
    refine rK [1, 2, 3, 6, 7, 10, 11, 12, 29, 30, 31, 40] ?_
    refine cF ?_
    refine W.skip ?_
    refine hK6 _ ?_
    clear hK6 K6
    refine rK [1, 2, 3, 6, 7, 10, 11, 12, 13, 29, 30, 31] ?_
    refine W.seqk fun K7 hK7 => ?_
    refine rK [1, 2, 3, 6, 7, 10, 11, 12, 13, 29, 30, 31, 42, 43, 44] ?_
    refine W.block ?_
    refine sn 13 9024 47 2 ?_
    refine lpa (α := Nat × List W6.Turn) [1, 2, 3, 6, 7, 10, 11, 12, 29, 30, 31, 42, 43] [16, 71, 72] [9024] (fun x => [(44, I x.1), (13, .own 9024 0 x.2.length)]) (fun x => [(9024, .row true 47 2 (x.2.map W6.T))]) (fun x => x.1 ≤ A.wishes.length ∧ x.2.length ≤ x.1 ∧ x.2 = likesN l A d x.1) (fun x => A.wishes.length - x.1) (0, []) ?_ ?_
    ·
     first
     | exact ⟨Nat.zero_le _, ⟨rfl, rfl, Nat.le_refl _⟩, rfl⟩
     | exact ⟨Nat.zero_le _, Nat.le_refl _, rfl⟩
    ·
     intro ⟨k, lks⟩ hI1
     simp only [List.cons_append, List.nil_append]
     try dsimp only at hI1
     obtain ⟨hk0, hlk, qlk⟩ := hI1
     replace F := F.add hk0 |>.add hlk
     refine rK [1, 2, 3, 6, 7, 10, 11, 12, 13, 29, 30, 31, 42, 43, 44, 45] ?_
     refine W.seqk fun K8 hK8 => ?_
     refine it (fun hc5 => ?_) (fun hc5 => ?_)
     ·
      try simp at hc5
      replace F := F.add hc5
      refine W.skip ?_
      refine hK8 _ ?_
      clear hK8 K8
      refine W.seqk fun K9 hK9 => ?_
      refine W.block ?_
      have hkl : k < A.wishes.length := by omega
      have hkb : k < A.bids.length := by omega
      obtain ⟨w, qw⟩ : ∃ w : Nat, A.wishes[k] = (w : Int) := ⟨A.wishes[k].toNat, by have := qap.wish _ (List.getElem_mem hkl); omega⟩
      have hw := qw
      have hwS : w < l.stalls.length := by have := qap.wish _ (List.getElem_mem hkl); omega
      have qcn := canAt_get (l := l) hkl hkb qw hwS
      obtain ⟨bk, qbk⟩ : ∃ x, A.bids[k] = x := ⟨_, rfl⟩
      have hbk := qbk
      have hbn : nth A.bids k = bk := by rw [nth_get hkb, qbk]
      rw [qbk] at qcn
      replace F := F.add hkl |>.add hkb |>.add hw |>.add hwS |>.add hbk |>.add hbn
      refine rK [1, 2, 3, 6, 7, 10, 11, 12, 13, 14, 15, 29, 30, 31, 42, 43, 44] ?_
      refine rK [1, 2, 3, 6, 7, 10, 11, 12, 13, 14, 15, 16, 29, 30, 31, 42, 43, 44] ?_
      refine wD 11 [] [[], [0], [0, 1], [1, 0, 2], [2, 0, 1, 3], [3, 1, 0, 2, 4], [2, 0, 1, 3], [6, 4, 2, 0, 1, 3, 5], [5, 3, 1, 0, 2, 4, 6, 7], [2, 0, 1, 3], [3, 1, 0, 2, 9], [9, 10, 7, 6, 4, 2, 0, 1, 3, 5, 8], [8, 5, 4, 6, 7, 10, 9, 11, 2, 0, 1, 3]] ?_
      refine dB [([], [], []), ([], [true], []), ([], [true, true], []), ([], [true, true, true], [])] 7 4 ?_
      refine dX [60, 63, 64] [true, true, true, true] [] ?_
      refine dX [60, 63, 64] [true, true, true, true, true] [] ?_
      refine dX [58, 59, 63, 64] [true, true, true, true, false, false] [] ?_
      refine dX [63, 64] [true, true, true, true, true, true, true] [] ?_
      refine dX [63, 64] [true, true, true, true, true, true, true, true] [] ?_
      refine dX [58, 59, 60, 61, 62] [true, true, true, true, false, false, false, false, false] [] ?_
      refine dX [58, 59, 60, 61, 62] [true, true, true, true, false, false, false, false, false, true] [] ?_
      refine dD ?_
      refine gX ?_
      refine oN 1 ?_
      refine oK [1, 2, 3, 6, 7, 10, 11, 12, 13, 15, 29, 30, 31, 42, 43, 44, 66] ?_
      refine it (fun hc6 => ?_) (fun hc6 => ?_)
      ·
       try simp at hc6
       replace F := F.add hc6
       refine rEw ?_
       refine hK9 _ ?_
       clear hK9 K9
       refine rEw ?_
       refine ⟨(k + 1, lks ++ [(A.wishes[k], d)]), lf0, ?_, v0⟩
       ·
        refine ⟨by show k + 1 ≤ _; omega, by show (lks ++ [_]).length ≤ k + 1; rw [List.length_append, List.length_cons, List.length_nil]; omega, ?_⟩
        show lks ++ [(A.wishes[k], d)] = likesN l A d (k + 1)
        rw [likesN, if_pos (by rw [qcn]; simp_all), nth_get hkl, qlk]
      ·
       try simp at hc6
       replace F := F.add hc6
       refine W.skip ?_
       refine hK9 _ ?_
       clear hK9 K9
       refine rEw ?_
       refine ⟨(k + 1, lks), lf0, ?_, v0⟩
       ·
        refine ⟨by show k + 1 ≤ _; omega, by show lks.length ≤ k + 1; omega, ?_⟩
        show lks = likesN l A d (k + 1)
        rw [likesN, if_neg (by rw [qcn]; simp_all)]; exact qlk
     ·
      try simp at hc5
      replace F := F.add hc5
      refine W.exit ?_
      refine hK7 _ ?_
      clear hK8 K8 hK7 K7
      have hke : k = A.wishes.length := by omega
      have htk : List.take A.wishes.length lks = lks := List.take_of_length_le (by omega)
      replace F := F.add hke |>.add htk
      refine W.weaken (Le.freeze (id := 9024) (by simp [hd, h8, hs8, hhl, hch, hal0, hln, hc3, hal, hA, hbl, hwl, hin, hix, hix2, hk0, hlk, hc5, hke, htk]; rfl)) ?_
      refine wDe 17 [(6, [9000]), (11, [9008]), (15, [9016])] [[], [0], [], [], [3, 2], [2, 3, 4], [4, 3, 2, 5, 0, 1], [], [7], [], [9], [1, 0, 5, 2, 3, 4, 6, 9, 10, 7, 8], [], [], [13], [8, 7, 10, 9, 6, 4, 3, 2, 5, 0, 1, 11, 13, 14, 12], [8, 7, 6, 5, 4, 3, 2, 1, 0], [12, 14, 13, 11, 9, 10, 15, 0, 1, 2, 3, 4, 5, 6, 7, 8, 16], [15, 13, 14, 12, 17, 16, 11, 10, 9, 8, 7, 6, 5, 4, 3, 2, 1, 0], [0, 1, 2, 3, 4, 5, 6, 7, 8, 9, 10, 11, 16, 17, 12, 14, 13, 15, 18], [18, 17, 16, 19, 12, 14, 13, 11, 1, 0, 5, 2, 3, 4, 6, 9, 10, 7, 8, 15]] ?_
      refine dB [([76, 77, 78, 79, 81, 82, 83, 84, 86, 87, 88], [], []), ([76, 77, 78, 79, 81, 82, 83, 84, 86, 87, 88], [true], []), ([74, 75, 77, 81, 82, 83, 84, 86, 87, 88], [false, false], []), ([74, 75, 76, 81, 82, 83, 84, 86, 87, 88], [false, false, false], []), ([74, 75, 81, 82, 83, 84, 86, 87, 88], [false, false, true, true], []), ([74, 75, 81, 82, 83, 84, 86, 87, 88], [false, false, true, true, true], [])] 11 6 ?_
      refine dAw [81, 82, 83, 84, 86, 87, 88] [true, true, true, true, true, true] [] [9000] ?_
      refine dB [([74, 75, 76, 77, 78, 79, 80, 83, 84, 86, 87, 88], [false, false, false, false, false, false, false], [9000]), ([74, 75, 76, 77, 78, 79, 80, 83, 84, 86, 87, 88], [false, false, false, false, false, false, false, true], [9000]), ([74, 75, 76, 77, 78, 79, 80, 81, 82, 86, 87, 88, 90], [false, false, false, false, false, false, false, false, false], [9000]), ([74, 75, 76, 77, 78, 79, 80, 81, 82, 86, 87, 88, 90], [false, false, false, false, false, false, false, false, false, true], [9000])] 6 11 ?_
      refine dAw [86, 87, 88, 90] [true, true, true, true, true, true, true, true, true, true, true] [] [9008] ?_
      refine dB [([74, 75, 76, 77, 78, 79, 80, 81, 82, 83, 84, 85, 87, 88, 90], [false, false, false, false, false, false, false, false, false, false, false, false], [9000, 9008]), ([74, 75, 76, 77, 78, 79, 80, 81, 82, 83, 84, 85, 86, 90], [false, false, false, false, false, false, false, false, false, false, false, false, false], [9000, 9008]), ([74, 75, 76, 77, 78, 79, 80, 81, 82, 83, 84, 85, 86, 90], [false, false, false, false, false, false, false, false, false, false, false, false, false, true], [9000, 9008])] 2 15 ?_
      refine dAw [90] [true, true, true, true, true, true, true, true, true, true, true, true, true, true, true] [] [9016] ?_
      refine dB [([83, 84, 85, 86, 87, 88, 89], [true, true, true, true, true, true, true, true, true, false, false, false, false, false, false, false], [9008, 9016])] 0 17 ?_
      refine dD ?_
      refine WOps.le (Le.exch (x := 640) (y := 9000) (by simp [hd, h8, hs8, hhl, hch, hal0, hln, hc3, hal, hA, hbl, hwl, hin, hix, hix2, hk0, hlk, hc5, hke, htk]; rfl)) rfl rfl ?_
      refine WOps.le (Le.exch (x := 680) (y := 9008) (by simp [hd, h8, hs8, hhl, hch, hal0, hln, hc3, hal, hA, hbl, hwl, hin, hix, hix2, hk0, hlk, hc5, hke, htk]; rfl)) rfl rfl ?_
      refine WOps.le (Le.exch (x := 712) (y := 9016) (by simp [hd, h8, hs8, hhl, hch, hal0, hln, hc3, hal, hA, hbl, hwl, hin, hix, hix2, hk0, hlk, hc5, hke, htk]; rfl)) rfl rfl ?_
      refine oN 4 ?_
      refine WOps.endK ?_
      refine hK5 _ ?_
      clear hK5 K5
      refine rEw ?_
      refine ⟨(a + 1, ow ++ [(((h.idxOf (a : Int) : Nat) : Int), d)], lk ++ [lks], ap ++ [(a : Int)]), lf0, ?_, v0⟩
      ·
       refine ⟨by show a + 1 ≤ _; omega, by simp only [List.length_append, List.length_cons, List.length_nil]; omega, ?_⟩
       show (ow ++ _, lk ++ [lks], ap ++ [_]) = frN l h d (a + 1)
       rw [frN, if_pos hin, stepF, ← qfr, qAn, ← hke, ← qlk]
   ·
    replace F := F.add hin
    refine W.seqR ?_
    refine oN 2 ?_
    refine oC [] ?_
    refine ct (IndexI_ok h (a : Int)) ?_
    refine oN 1 ?_
    refine oK [1, 2, 3, 6, 7, 10, 11, 12, 29, 30, 31] ?_
    refine W.seqk fun K10 hK10 => ?_
    refine rK [1, 2, 3, 6, 7, 10, 11, 12, 29, 30, 31, 40] ?_
    refine cT ?_
    refine W.exit ?_
    refine hK5 _ ?_
    clear hK10 K10 hK5 K5
    refine rEw ?_
    refine ⟨(a + 1, ow, lk, ap), lf0, ?_, v0⟩
    ·
     refine ⟨by show a + 1 ≤ _; omega, by show ow.length = ap.length ∧ lk.length = ap.length ∧ ap.length ≤ a + 1; omega, ?_⟩
     show (ow, lk, ap) = frN l h d (a + 1)
     rw [frN, if_neg hin]; exact qfr
  ·
   try simp at hc3
   replace F := F.add hc3
   refine W.exit ?_
   refine hK3 _ ?_
   clear hK4 K4 hK3 K3
   have htk1 : List.take ap.length ow = ow := List.take_of_length_le (by omega)
   have htk2 : List.take ap.length lk = lk := List.take_of_length_le (by omega)
   replace F := F.add htk1 |>.add htk2
   refine W.weaken (Le.freeze (id := 9000) (by simp [hd, h8, hs8, hhl, hch, hal0, hln, hc3, htk1, htk2]; rfl)) ?_
   refine W.weaken (Le.freeze (id := 9008) (by simp [hd, h8, hs8, hhl, hch, hal0, hln, hc3, htk1, htk2]; rfl)) ?_
   refine W.weaken (Le.freeze (id := 9016) (by simp [hd, h8, hs8, hhl, hch, hal0, hln, hc3, htk1, htk2]; rfl)) ?_
   refine rK [6, 7, 8] ?_
   refine W.ret ?_
   refine er false [] [] ?_
   have e : a = l.apps.length := by omega
   obtain ⟨q1, q2, q3⟩ := hln
   try rw [List.take_of_length_le (show ow.length ≤ ap.length by omega), List.take_of_length_le (show lk.length ≤ ap.length by omega)]
   rw [frL, ← e, ← qfr]
   exact ⟨rfl, rfl⟩
def frS (l : Lett) (h : List Int) (d : Int) (a s : Nat) : Fr3 := if (a : Int) ∈ h.take s then stepF l h d a (frN l h d a) else frN l h d a
theorem frS_zero (l : Lett) (h : List Int) (d : Int) (a : Nat) : frS l h d a 0 = frN l h d a := by rw [frS, if_neg (by simp)]
theorem frS_miss {l : Lett} {h : List Int} {d : Int} {a s : Nat} (hs : s < h.length) (hn : ¬ h[s] = (a : Int)) : frS l h d a (s + 1) = frS l h d a s := by
  have e : (a : Int) ∈ h.take (s + 1) ↔ (a : Int) ∈ h.take s := by
    rw [List.take_succ_eq_append_getElem hs, List.mem_append, List.mem_singleton]
    exact ⟨fun q => q.elim id fun q => absurd q.symm hn, .inl⟩
  unfold frS
  by_cases q : (a : Int) ∈ h.take s
  · rw [if_pos (e.2 q), if_pos q]
  · rw [if_neg (fun z => q (e.1 z)), if_neg q]
theorem frS_hit {l : Lett} {h : List Int} (hk : HoldOk l h) {d : Int} {a s : Nat} (hs : s < h.length) (hn : h[s] = (a : Int)) : (a : Int) ∉ h.take s ∧ ((h.idxOf (a : Int) : Nat) : Int) = s ∧ frS l h d a (s + 1) = stepF l h d a (frS l h d a s) := by
  have h1 : (a : Int) ∉ h.take s := fun q => by
    obtain ⟨t, ht, e⟩ := List.mem_take_iff_getElem.1 q
    have := hk.one t s a (by omega) hs e hn
    omega
  refine ⟨h1, by rw [idxOf_take h1 hs hn], ?_⟩
  unfold frS
  rw [if_pos (by rw [List.take_succ_eq_append_getElem hs, List.mem_append, List.mem_singleton]; exact .inr hn.symm), if_neg h1]
theorem frS_end {l : Lett} {h : List Int} {d : Int} {a s : Nat} (hs : h.length ≤ s) : frS l h d a s = frN l h d (a + 1) := by
  rw [frS, List.take_of_length_le hs, frN]
set_option maxHeartbeats 4000000 in
theorem rFrom_fine (l : Lett) (hv : ValidL l) (h : List Int) (hk : HoldOk l h) (d : Int) (hd : 0 ≤ d ∧ d ≤ 6) : ACalls Try.prog 24 [letV l, ints h, I d] [] (fun r o => r = frV (frL l h d) ∧ o = []) := by
 have F := Fx.nil
 replace F := F.add hd
 refine ent Try.func24 Try.ntmps24 Try.results24 ?_
 have h8 := hv.a8
 have hs8 := hv.s8
 have hhl := hk.len
 have hch : checkH l h = 0 := checkH_zero.2 ⟨hv, hk⟩
 replace F := F.add h8 |>.add hs8 |>.add hhl |>.add hch
 refine rK [1, 2, 3, 6] ?_
 refine W.seqk fun K1 hK1 => ?_
 refine W.seqR ?_
 refine oN 2 ?_
 refine oC [] ?_
 refine ct (rCheckHolders_ok l h) ?_
 refine oN 1 ?_
 refine oK [1, 2, 3, 6, 9] ?_
 refine rK [1, 2, 3, 6, 9, 21] ?_
 refine cF ?_
 refine W.skip ?_
 refine hK1 _ ?_
 clear hK1 K1
 refine W.seqk fun K2 hK2 => ?_
 refine W.seqR ?_
 refine oN 1 ?_
 refine oC [] ?_
 refine ct (W6.within_ok _ _ _) ?_
 refine oN 1 ?_
 refine oK [1, 2, 3, 6, 26] ?_
 refine cF ?_
 refine W.skip ?_
 refine hK2 _ ?_
 clear hK2 K2
 refine rK [1, 2, 3, 6, 10] ?_
 refine rK [1, 2, 3, 6, 10, 11] ?_
 refine W.seqk fun K3 hK3 => ?_
 refine rK [1, 2, 3, 6, 10, 11, 12] ?_
 refine W.block ?_
 refine sn 11 9016 3 1 ?_
 refine sno 80 0 0 9000 47 2 ?_
 refine sno 80 0 1 9008 27 1 ?_
 refine lpa (α := Nat × Fr3) [1, 2, 3, 6, 10] [31, 37, 54, 70, 75, 76, 82, 83, 87, 88, 91, 92] [80, 9000, 9008, 9016] (fun x => [(12, I x.1), (11, .own 9016 0 x.2.2.2.length)]) (fun x => [(80, .row false 30 2 [.agg [.own 9000 0 x.2.1.length, .own 9008 0 x.2.2.1.length]]), (9000, .row true 47 2 (x.2.1.map W6.T)), (9008, .row true 27 1 (x.2.2.1.map W6.turns)), (9016, .row true 3 1 (x.2.2.2.map I))]) (fun x => x.1 ≤ l.apps.length ∧ (x.2.1.length = x.2.2.2.length ∧ x.2.2.1.length = x.2.2.2.length ∧ x.2.2.2.length ≤ x.1) ∧ x.2 = frN l h d x.1) (fun x => l.apps.length - x.1) (0, [], [], []) ?_ ?_
 ·
  first
  | exact ⟨Nat.zero_le _, ⟨rfl, rfl, Nat.le_refl _⟩, rfl⟩
  | exact ⟨Nat.zero_le _, by show ow0.length = ap0.length ∧ lk0.length = ap0.length ∧ ap0.length ≤ a + 1; omega, by rw [frS_zero]; exact qfr⟩
  | exact ⟨Nat.zero_le _, Nat.le_refl _, rfl⟩
 ·
  intro ⟨a, ow0, lk0, ap0⟩ hI0
  simp only [List.cons_append, List.nil_append]
  try dsimp only at hI0
  obtain ⟨hal0, hln0, qfr⟩ := hI0
  replace F := F.add hal0 |>.add hln0
  refine W.seqk fun K4 hK4 => ?_
  refine rK [1, 2, 3, 6, 10, 11, 12, 32] ?_
  refine it (fun hc3 => ?_) (fun hc3 => ?_)
  ·
   try simp at hc3
   replace F := F.add hc3
   refine W.skip ?_
   refine hK4 _ ?_
   clear hK4 K4
   refine W.seqk fun K5 hK5 => ?_
   refine W.block ?_
   have hal : a < l.apps.length := by omega
   obtain ⟨A, qA⟩ : ∃ A, A = l.apps[a] := ⟨_, rfl⟩
   have hA := qA.symm
   have qAn : nth l.apps a = A := by rw [nth_get hal]; exact qA.symm
   have qap : AppOk l.stalls.length A := by rw [qA]; exact hv.ap _ (List.getElem_mem hal)
   have hbl : A.bids.length = A.wishes.length := qap.len
   have hwl : A.wishes.length ≤ 8 := by have := qap.wlen; omega
   have ha8 : a < 8 := by omega
   replace F := F.add hal |>.add hA |>.add hbl |>.add hwl |>.add ha8
   refine rK [1, 2, 3, 6, 10, 11, 12, 13] ?_
   refine W.block ?_
   refine lpa (α := Nat × Fr3) [1, 2, 3, 6, 10, 12] [37, 54, 70, 75, 76, 82, 83, 87, 88, 91, 92] [80, 9000, 9008, 9016] (fun x => [(13, I x.1), (11, .own 9016 0 x.2.2.2.length)]) (fun x => [(80, .row false 30 2 [.agg [.own 9000 0 x.2.1.length, .own 9008 0 x.2.2.1.length]]), (9000, .row true 47 2 (x.2.1.map W6.T)), (9008, .row true 27 1 (x.2.2.1.map W6.turns)), (9016, .row true 3 1 (x.2.2.2.map I))]) (fun x => x.1 ≤ h.length ∧ (x.2.1.length = x.2.2.2.length ∧ x.2.2.1.length = x.2.2.2.length ∧ x.2.2.2.length ≤ a + 1) ∧ x.2 = frS l h d a x.1) (fun x => h.length - x.1) (0, ow0, lk0, ap0) ?_ ?_
   ·
    first
    | exact ⟨Nat.zero_le _, ⟨rfl, rfl, Nat.le_refl _⟩, rfl⟩
    | exact ⟨Nat.zero_le _, by show ow0.length = ap0.length ∧ lk0.length = ap0.length ∧ ap0.length ≤ a + 1; omega, by rw [frS_zero]; exact qfr⟩
    | exact ⟨Nat.zero_le _, Nat.le_refl _, rfl⟩
   ·
    intro ⟨s, ow, lk, ap⟩ hI1
    simp only [List.cons_append, List.nil_append]
    try dsimp only at hI1
    obtain ⟨hsl0, hln, qfs⟩ := hI1
    replace F := F.add hsl0 |>.add hln
    refine W.seqk fun K6 hK6 => ?_
    refine rK [1, 2, 3, 6, 10, 11, 12, 13, 38] ?_
    refine it (fun hc4 => ?_) (fun hc4 => ?_)
    ·
     try simp at hc4
     replace F := F.add hc4
     refine W.skip ?_
     refine hK6 _ ?_
     clear hK6 K6
     refine W.seqk fun K7 hK7 => ?_
     refine W.block ?_
     refine W.seqk fun K8 hK8 => ?_
     have hsl : s < h.length := by omega
     replace F := F.add hsl
     refine rK [1, 2, 3, 6, 10, 11, 12, 13, 46] ?_
     refine it (fun hc5 => ?_) (fun hc5 => ?_)
     ·
      try simp at hc5
      replace F := F.add hc5
      refine W.exit ?_
      refine hK7 _ ?_
      clear hK8 K8 hK7 K7
      refine rEw ?_
      refine ⟨(s + 1, ow, lk, ap), lf0, ?_, v0⟩
      ·
       first
       | (refine ⟨by show s + 1 ≤ _; omega, hln, ?_⟩
          show (ow, lk, ap) = frS l h d a (s + 1)
          rw [frS_miss hsl (by assumption)]; exact qfs)
       | (refine ⟨by show k + 1 ≤ _; omega, by show (lks ++ [_]).length ≤ k + 1; rw [List.length_append, List.length_cons, List.length_nil]; omega, ?_⟩
          show lks ++ [(A.wishes[k], d)] = likesN l A d (k + 1)
          rw [likesN, if_pos (by assumption), nth_get hkl, qlk])
       | (refine ⟨by show k + 1 ≤ _; omega, by show lks.length ≤ k + 1; omega, ?_⟩
          show lks = likesN l A d (k + 1)
          rw [likesN, if_neg (by simp_all)]; exact qlk)
       | (refine ⟨by show s + 1 ≤ _; omega, by simp only [List.length_append, List.length_cons, List.length_nil]; omega, ?_⟩
          show (ow ++ [((s : Int), d)], lk ++ [lks], ap ++ [_]) = frS l h d a (s + 1)
          rw [q3, stepF, q2, ← qfs, qAn, ← hke, ← qlk])
       | (refine ⟨by show a + 1 ≤ _; omega, hln, ?_⟩
          show (ow, lk, ap) = frN l h d (a + 1)
          rw [qfs, frS_end (by omega)])
     ·
      try simp at hc5
      replace F := F.add hc5
      refine W.skip ?_
      refine hK8 _ ?_
      clear hK8 K8
      have heq : h[s] = (a : Int) := by first | assumption | omega
      obtain ⟨q1, q2, q3⟩ := frS_hit hk (d := d) hsl heq
      have hln2 : ap.length ≤ a := by
        have q4 : (ow, lk, ap) = frN l h d a := by rw [qfs, frS, if_neg q1]
        have := (frN_eq3 l h d a).2
        rw [← q4] at this
        exact this
      replace F := F.add heq |>.add hln2
      refine rK [1, 2, 3, 6, 10, 11, 12, 13, 14] ?_
      refine W.seqk fun K9 hK9 => ?_
      refine rK [1, 2, 3, 6, 10, 11, 12, 13, 14, 15] ?_
      refine W.block ?_
      refine sn 14 9024 47 2 ?_
      refine lpa (α := Nat × List W6.Turn) [1, 2, 3, 6, 10, 11, 12, 13] [54, 70, 75, 76] [9024] (fun x => [(15, I x.1), (14, .own 9024 0 x.2.length)]) (fun x => [(9024, .row true 47 2 (x.2.map W6.T))]) (fun x => x.1 ≤ A.wishes.length ∧ x.2.length ≤ x.1 ∧ x.2 = likesN l A d x.1) (fun x => A.wishes.length - x.1) (0, []) ?_ ?_
      ·
       first
       | exact ⟨Nat.zero_le _, ⟨rfl, rfl, Nat.le_refl _⟩, rfl⟩
       | exact ⟨Nat.zero_le _, by show ow0.length = ap0.length ∧ lk0.length = ap0.length ∧ ap0.length ≤ a + 1; omega, by rw [frS_zero]; exact qfr⟩
       | exact ⟨Nat.zero_le _, Nat.le_refl _, rfl⟩
      ·
       intro ⟨k, lks⟩ hI2
       simp only [List.cons_append, List.nil_append]
       try dsimp only at hI2
       obtain ⟨hk0, hlk, qlk⟩ := hI2
       replace F := F.add hk0 |>.add hlk
       refine W.seqk fun K10 hK10 => ?_
       refine rK [1, 2, 3, 6, 10, 11, 12, 13, 14, 15, 55] ?_
       refine it (fun hc6 => ?_) (fun hc6 => ?_)
       ·
        try simp at hc6
        replace F := F.add hc6
        refine W.skip ?_
        refine hK10 _ ?_
        clear hK10 K10
        refine W.seqk fun K11 hK11 => ?_
        refine W.block ?_
        have hkl : k < A.wishes.length := by omega
        have hkb : k < A.bids.length := by omega
        obtain ⟨w, qw⟩ : ∃ w : Nat, A.wishes[k] = (w : Int) := ⟨A.wishes[k].toNat, by have := qap.wish _ (List.getElem_mem hkl); omega⟩
        have hw := qw
        have hwS : w < l.stalls.length := by have := qap.wish _ (List.getElem_mem hkl); omega
        have hcs : canS l.stalls A (w : Int) = canAt l.stalls A k := canS_at qap.nodup hkl qw
        replace F := F.add hkl |>.add hkb |>.add hw |>.add hwS |>.add hcs
        refine rK [1, 2, 3, 6, 10, 11, 12, 13, 14, 15, 16] ?_
        refine W.seqR ?_
        refine oN 3 ?_
        refine oC [] ?_
        refine ct (Can_ok l hv a w hal hwS) ?_
        refine oK [1, 2, 3, 6, 10, 11, 12, 13, 14, 15, 16, 70] ?_
        refine it (fun hc7 => ?_) (fun hc7 => ?_)
        ·
         try simp at hc7
         replace F := F.add hc7
         refine rEw ?_
         refine hK11 _ ?_
         clear hK11 K11
         refine rEw ?_
         refine ⟨(k + 1, lks ++ [(A.wishes[k], d)]), lf0, ?_, v0⟩
         ·
          first
          | (refine ⟨by show s + 1 ≤ _; omega, hln, ?_⟩
             show (ow, lk, ap) = frS l h d a (s + 1)
             rw [frS_miss hsl (by assumption)]; exact qfs)
          | (refine ⟨by show k + 1 ≤ _; omega, by show (lks ++ [_]).length ≤ k + 1; rw [List.length_append, List.length_cons, List.length_nil]; omega, ?_⟩
             show lks ++ [(A.wishes[k], d)] = likesN l A d (k + 1)
             rw [likesN, if_pos (by assumption), nth_get hkl, qlk])
          | (refine ⟨by show k + 1 ≤ _; omega, by show lks.length ≤ k + 1; omega, ?_⟩
             show lks = likesN l A d (k + 1)
             rw [likesN, if_neg (by simp_all)]; exact qlk)
          | (refine ⟨by show s + 1 ≤ _; omega, by simp only [List.length_append, List.length_cons, List.length_nil]; omega, ?_⟩
             show (ow ++ [((s : Int), d)], lk ++ [lks], ap ++ [_]) = frS l h d a (s + 1)
             rw [q3, stepF, q2, ← qfs, qAn, ← hke, ← qlk])
          | (refine ⟨by show a + 1 ≤ _; omega, hln, ?_⟩
             show (ow, lk, ap) = frN l h d (a + 1)
             rw [qfs, frS_end (by omega)])
        ·
         try simp at hc7
         replace F := F.add hc7
         refine W.skip ?_
         refine hK11 _ ?_
         clear hK11 K11
         refine rEw ?_
         refine ⟨(k + 1, lks), lf0, ?_, v0⟩
         ·
          first
          | (refine ⟨by show s + 1 ≤ _; omega, hln, ?_⟩
             show (ow, lk, ap) = frS l h d a (s + 1)
             rw [frS_miss hsl (by assumption)]; exact qfs)
          | (refine ⟨by show k + 1 ≤ _; omega, by show (lks ++ [_]).length ≤ k + 1; rw [List.length_append, List.length_cons, List.length_nil]; omega, ?_⟩
             show lks ++ [(A.wishes[k], d)] = likesN l A d (k + 1)
             rw [likesN, if_pos (by assumption), nth_get hkl, qlk])
          | (refine ⟨by show k + 1 ≤ _; omega, by show lks.length ≤ k + 1; omega, ?_⟩
             show lks = likesN l A d (k + 1)
             rw [likesN, if_neg (by simp_all)]; exact qlk)
          | (refine ⟨by show s + 1 ≤ _; omega, by simp only [List.length_append, List.length_cons, List.length_nil]; omega, ?_⟩
             show (ow ++ [((s : Int), d)], lk ++ [lks], ap ++ [_]) = frS l h d a (s + 1)
             rw [q3, stepF, q2, ← qfs, qAn, ← hke, ← qlk])
          | (refine ⟨by show a + 1 ≤ _; omega, hln, ?_⟩
             show (ow, lk, ap) = frN l h d (a + 1)
             rw [qfs, frS_end (by omega)])
       ·
        try simp at hc6
        replace F := F.add hc6
        refine W.exit ?_
        refine hK9 _ ?_
        clear hK10 K10 hK9 K9
        have hke : k = A.wishes.length := by omega
        have htk : List.take A.wishes.length lks = lks := List.take_of_length_le (by omega)
        replace F := F.add hke |>.add htk
        refine W.weaken (Le.freeze (id := 9024) (by simp [hd, h8, hs8, hhl, hch, hal0, hln0, hc3, hal, hA, hbl, hwl, ha8, hsl0, hln, hc4, hsl, hc5, heq, hln2, hk0, hlk, hc6, hke, htk]; rfl)) ?_
        refine wDe 17 [(6, [9000]), (11, [9008]), (15, [9016])] [[], [0], [], [], [3, 2], [2, 3, 4], [4, 3, 2, 5, 0, 1], [], [7], [], [9], [1, 0, 5, 2, 3, 4, 6, 9, 10, 7, 8], [], [], [13], [8, 7, 10, 9, 6, 4, 3, 2, 5, 0, 1, 11, 13, 14, 12], [8, 7, 6, 5, 4, 3, 2, 1, 0], [12, 14, 13, 11, 9, 10, 15, 0, 1, 2, 3, 4, 5, 6, 7, 8, 16], [15, 13, 14, 12, 17, 16, 11, 10, 9, 8, 7, 6, 5, 4, 3, 2, 1, 0], [0, 1, 2, 3, 4, 5, 6, 7, 8, 9, 10, 11, 16, 17, 12, 14, 13, 15, 18], [18, 17, 16, 19, 12, 14, 13, 11, 1, 0, 5, 2, 3, 4, 6, 9, 10, 7, 8, 15]] ?_
        refine dB [([79, 80, 81, 82, 84, 85, 86, 87, 89, 90, 91], [], []), ([79, 80, 81, 82, 84, 85, 86, 87, 89, 90, 91], [true], []), ([77, 78, 80, 84, 85, 86, 87, 89, 90, 91], [false, false], []), ([77, 78, 79, 84, 85, 86, 87, 89, 90, 91], [false, false, false], []), ([77, 78, 84, 85, 86, 87, 89, 90, 91], [false, false, true, true], []), ([77, 78, 84, 85, 86, 87, 89, 90, 91], [false, false, true, true, true], [])] 11 6 ?_
        refine dAw [84, 85, 86, 87, 89, 90, 91] [true, true, true, true, true, true] [] [9000] ?_
        refine dB [([77, 78, 79, 80, 81, 82, 83, 86, 87, 89, 90, 91], [false, false, false, false, false, false, false], [9000]), ([77, 78, 79, 80, 81, 82, 83, 86, 87, 89, 90, 91], [false, false, false, false, false, false, false, true], [9000]), ([77, 78, 79, 80, 81, 82, 83, 84, 85, 89, 90, 91, 93], [false, false, false, false, false, false, false, false, false], [9000]), ([77, 78, 79, 80, 81, 82, 83, 84, 85, 89, 90, 91, 93], [false, false, false, false, false, false, false, false, false, true], [9000])] 6 11 ?_
        refine dAw [89, 90, 91, 93] [true, true, true, true, true, true, true, true, true, true, true] [] [9008] ?_
        refine dB [([77, 78, 79, 80, 81, 82, 83, 84, 85, 86, 87, 88, 90, 91, 93], [false, false, false, false, false, false, false, false, false, false, false, false], [9000, 9008]), ([77, 78, 79, 80, 81, 82, 83, 84, 85, 86, 87, 88, 89, 93], [false, false, false, false, false, false, false, false, false, false, false, false, false], [9000, 9008]), ([77, 78, 79, 80, 81, 82, 83, 84, 85, 86, 87, 88, 89, 93], [false, false, false, false, false, false, false, false, false, false, false, false, false, true], [9000, 9008])] 2 15 ?_
        refine dAw [93] [true, true, true, true, true, true, true, true, true, true, true, true, true, true, true] [] [9016] ?_
        refine dB [([86, 87, 88, 89, 90, 91, 92], [true, true, true, true, true, true, true, true, true, false, false, false, false, false, false, false], [9008, 9016])] 0 17 ?_
        refine dD ?_
        refine WOps.le (Le.exch (x := 664) (y := 9000) (by simp [hd, h8, hs8, hhl, hch, hal0, hln0, hc3, hal, hA, hbl, hwl, ha8, hsl0, hln, hc4, hsl, hc5, heq, hln2, hk0, hlk, hc6, hke, htk]; rfl)) rfl rfl ?_
        refine WOps.le (Le.exch (x := 704) (y := 9008) (by simp [hd, h8, hs8, hhl, hch, hal0, hln0, hc3, hal, hA, hbl, hwl, ha8, hsl0, hln, hc4, hsl, hc5, heq, hln2, hk0, hlk, hc6, hke, htk]; rfl)) rfl rfl ?_
        refine WOps.le (Le.exch (x := 736) (y := 9016) (by simp [hd, h8, hs8, hhl, hch, hal0, hln0, hc3, hal, hA, hbl, hwl, ha8, hsl0, hln, hc4, hsl, hc5, heq, hln2, hk0, hlk, hc6, hke, htk]; rfl)) rfl rfl ?_
        refine oN 4 ?_
        refine WOps.endK ?_
        refine hK7 _ ?_
        clear hK7 K7
        refine rEw ?_
        refine ⟨(s + 1, ow ++ [((s : Int), d)], lk ++ [lks], ap ++ [(a : Int)]), lf0, ?_, v0⟩
        ·
         first
         | (refine ⟨by show s + 1 ≤ _; omega, hln, ?_⟩
            show (ow, lk, ap) = frS l h d a (s + 1)
            rw [frS_miss hsl (by assumption)]; exact qfs)
         | (refine ⟨by show k + 1 ≤ _; omega, by show (lks ++ [_]).length ≤ k + 1; rw [List.length_append, List.length_cons, List.length_nil]; omega, ?_⟩
            show lks ++ [(A.wishes[k], d)] = likesN l A d (k + 1)
            rw [likesN, if_pos (by assumption), nth_get hkl, qlk])
         | (refine ⟨by show k + 1 ≤ _; omega, by show lks.length ≤ k + 1; omega, ?_⟩
            show lks = likesN l A d (k + 1)
            rw [likesN, if_neg (by simp_all)]; exact qlk)
         | (refine ⟨by show s + 1 ≤ _; omega, by simp only [List.length_append, List.length_cons, List.length_nil]; omega, ?_⟩
            show (ow ++ [((s : Int), d)], lk ++ [lks], ap ++ [_]) = frS l h d a (s + 1)
            rw [q3, stepF, q2, ← qfs, qAn, ← hke, ← qlk])
         | (refine ⟨by show a + 1 ≤ _; omega, hln, ?_⟩
            show (ow, lk, ap) = frN l h d (a + 1)
            rw [qfs, frS_end (by omega)])
    ·
     try simp at hc4
     replace F := F.add hc4
     refine W.exit ?_
     refine hK5 _ ?_
     clear hK6 K6 hK5 K5
     refine rEw ?_
     refine ⟨(a + 1, ow, lk, ap), lf0, ?_, v0⟩
     ·
      first
      | (refine ⟨by show s + 1 ≤ _; omega, hln, ?_⟩
         show (ow, lk, ap) = frS l h d a (s + 1)
         rw [frS_miss hsl (by assumption)]; exact qfs)
      | (refine ⟨by show k + 1 ≤ _; omega, by show (lks ++ [_]).length ≤ k + 1; rw [List.length_append, List.length_cons, List.length_nil]; omega, ?_⟩
         show lks ++ [(A.wishes[k], d)] = likesN l A d (k + 1)
         rw [likesN, if_pos (by assumption), nth_get hkl, qlk])
      | (refine ⟨by show k + 1 ≤ _; omega, by show lks.length ≤ k + 1; omega, ?_⟩
         show lks = likesN l A d (k + 1)
         rw [likesN, if_neg (by simp_all)]; exact qlk)
      | (refine ⟨by show s + 1 ≤ _; omega, by simp only [List.length_append, List.length_cons, List.length_nil]; omega, ?_⟩
         show (ow ++ [((s : Int), d)], lk ++ [lks], ap ++ [_]) = frS l h d a (s + 1)
         rw [q3, stepF, q2, ← qfs, qAn, ← hke, ← qlk])
      | (refine ⟨by show a + 1 ≤ _; omega, hln, ?_⟩
         show (ow, lk, ap) = frN l h d (a + 1)
         rw [qfs, frS_end (by omega)])
  ·
   try simp at hc3
   replace F := F.add hc3
   refine W.exit ?_
   refine hK3 _ ?_
   clear hK4 K4 hK3 K3
   have htk1 : List.take ap0.length ow0 = ow0 := List.take_of_length_le (by omega)
   have htk2 : List.take ap0.length lk0 = lk0 := List.take_of_length_le (by omega)
   replace F := F.add htk1 |>.add htk2
   refine W.weaken (Le.freeze (id := 9000) (by simp [hd, h8, hs8, hhl, hch, hal0, hln0, hc3, htk1, htk2]; rfl)) ?_
   refine W.weaken (Le.freeze (id := 9008) (by simp [hd, h8, hs8, hhl, hch, hal0, hln0, hc3, htk1, htk2]; rfl)) ?_
   refine W.weaken (Le.freeze (id := 9016) (by simp [hd, h8, hs8, hhl, hch, hal0, hln0, hc3, htk1, htk2]; rfl)) ?_
   refine rK [6, 7, 8] ?_
   refine W.ret ?_
   refine er false [] [] ?_
   have e : a = l.apps.length := by omega
   rw [frL, ← e, ← qfr]
   exact ⟨rfl, rfl⟩
set_option maxHeartbeats 4000000 in
theorem From_err (l : Lett) (h : List Int) (d : Int) (he : ¬ frE l h d = 0) : ACalls Try.prog 12 [letV l, ints h, I d] [] (fun r o => r = frX (frE l h d) ∧ o = []) := by
 have F := Fx.nil
 refine ent Try.func12 Try.ntmps12 Try.results12 ?_
 refine rK [1, 2, 3, 6, 7] ?_
 refine W.seqk fun K1 hK1 => ?_
 refine W.seqR ?_
 refine oN 2 ?_
 refine oC [] ?_
 refine ct (CheckHolders_ok l h) ?_
 refine oN 1 ?_
 refine oK [1, 2, 3, 6, 7, 9] ?_
 by_cases hce : checkH l h = 0
 ·
  replace F := F.add hce
  have qd : ¬ (0 ≤ d ∧ d ≤ 6) := fun q => he (by rw [frE, if_neg (fun z => z hce), if_neg (fun z => z q)])
  have hd9 : d < 0 ∨ 6 < d := by omega
  replace F := F.add hd9
  refine rK [1, 2, 3, 6, 7, 9, 21] ?_
  refine cF ?_
  refine W.skip ?_
  refine hK1 _ ?_
  clear hK1 K1
  refine W.seqk fun K2 hK2 => ?_
  refine W.seqR ?_
  refine oN 1 ?_
  refine oC [] ?_
  refine ct (W6.in_ok _ _ _) ?_
  refine oN 1 ?_
  refine oK [1, 2, 3, 6, 7, 26] ?_
  refine cT ?_
  refine rK [6, 7, 8] ?_
  refine W.ret ?_
  refine tr ?_
  clear hK2 K2
  refine er false [] [] ?_
  first
  | exact ⟨by rw [frE, if_pos hce], rfl⟩
  | exact ⟨by rw [frE, if_neg (fun z => z hce), if_pos qd], rfl⟩
 ·
  replace F := F.add hce
  refine rK [1, 2, 3, 6, 7, 9, 21] ?_
  refine cT ?_
  refine rK [6, 7, 8] ?_
  refine W.ret ?_
  refine tr ?_
  clear hK1 K1
  refine er false [] [] ?_
  first
  | exact ⟨by rw [frE, if_pos hce], rfl⟩
  | exact ⟨by rw [frE, if_neg (fun z => z hce), if_pos qd], rfl⟩
set_option maxHeartbeats 4000000 in
theorem rFrom_err (l : Lett) (h : List Int) (d : Int) (he : ¬ frE l h d = 0) : ACalls Try.prog 24 [letV l, ints h, I d] [] (fun r o => r = frX (frE l h d) ∧ o = []) := by
 have F := Fx.nil
 refine ent Try.func24 Try.ntmps24 Try.results24 ?_
 refine rK [1, 2, 3, 6] ?_
 refine W.seqk fun K1 hK1 => ?_
 refine W.seqR ?_
 refine oN 2 ?_
 refine oC [] ?_
 refine ct (rCheckHolders_ok l h) ?_
 refine oN 1 ?_
 refine oK [1, 2, 3, 6, 9] ?_
 by_cases hce : checkH l h = 0
 ·
  replace F := F.add hce
  have qd : ¬ (0 ≤ d ∧ d ≤ 6) := fun q => he (by rw [frE, if_neg (fun z => z hce), if_neg (fun z => z q)])
  have hd9 : d < 0 ∨ 6 < d := by omega
  replace F := F.add hd9
  refine rK [1, 2, 3, 6, 9, 21] ?_
  refine cF ?_
  refine W.skip ?_
  refine hK1 _ ?_
  clear hK1 K1
  refine W.seqk fun K2 hK2 => ?_
  refine W.seqR ?_
  refine oN 1 ?_
  refine oC [] ?_
  refine ct (W6.within_ok _ _ _) ?_
  refine oN 1 ?_
  refine oK [1, 2, 3, 6, 26] ?_
  refine cT ?_
  refine rK [6, 7, 8] ?_
  refine W.ret ?_
  refine tr ?_
  clear hK2 K2
  refine er false [] [] ?_
  first
  | exact ⟨by rw [frE, if_pos hce], rfl⟩
  | exact ⟨by rw [frE, if_neg (fun z => z hce), if_pos qd], rfl⟩
 ·
  replace F := F.add hce
  refine rK [1, 2, 3, 6, 9, 21] ?_
  refine cT ?_
  refine rK [6, 7, 8] ?_
  refine W.ret ?_
  refine tr ?_
  clear hK1 K1
  refine er false [] [] ?_
  first
  | exact ⟨by rw [frE, if_pos hce], rfl⟩
  | exact ⟨by rw [frE, if_neg (fun z => z hce), if_pos qd], rfl⟩
end Go.Sim
