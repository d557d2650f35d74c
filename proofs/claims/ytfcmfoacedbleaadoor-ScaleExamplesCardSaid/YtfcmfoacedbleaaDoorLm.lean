/- Seals: the program's plan. -/
import Derived.Test.YtfcmfoacedbleaaDoorLi
import Derived.Test.YtfcmfoacedbleaaDoorQm
namespace Go.Sim
open Go.Proofs
set_option maxRecDepth 100000
set_option linter.unusedSimpArgs false
set_option linter.unusedVariables false
attribute [-simp] List.map_set List.map_take List.map_drop
attribute [simp] spn_eta T2_def T2_isData plnV_def
attribute [-simp] AV.mapTop
theorem mapTop_val' {f : AV → AV} {v : Value} : AV.mapTop f (.val v) = f (.val v) := rfl
theorem mapTop_imm' {f : AV → AV} {l : List AV} : AV.mapTop f (.imm l) = f (.imm l) := rfl
theorem mapTop_own' {f : AV → AV} {i o n : Nat} : AV.mapTop f (.own i o n) = f (.own i o n) := rfl
theorem mapTop_ptr' {f : AV → AV} {i o n : Nat} : AV.mapTop f (.ptr i o n) = f (.ptr i o n) := rfl
theorem mapTop_map' {f : AV → AV} {i : Nat} : AV.mapTop f (.map i) = f (.map i) := rfl
theorem mapTop_clo' {f : AV → AV} {g : FuncId} {l : List AV} : AV.mapTop f (.clo g l) = f (.clo g l) := rfl
theorem mapTop_agg' {f : AV → AV} {l : List AV} : AV.mapTop f (.agg l) = .agg (l.map f) := rfl
theorem mapTop_tup' {f : AV → AV} {l : List AV} : AV.mapTop f (.tup l) = .tup (l.map f) := rfl
theorem mapTop_dead' {f : AV → AV} : AV.mapTop f .dead = f .dead := rfl
theorem mapTop_iptr' {f : AV → AV} {l : List AV} : AV.mapTop f (.iptr l) = f (.iptr l) := rfl
attribute [local simp] mapTop_val' mapTop_imm' mapTop_own' mapTop_ptr' mapTop_map' mapTop_clo' mapTop_agg' mapTop_tup' mapTop_dead' mapTop_iptr'
attribute [local simp] entE_kill entE_frz entE_ren entE_named entE_isData entE_men
attribute [-simp] keyV fitsKey setM getM
attribute [local simp] shM
theorem kill_I {id : Nat} : AV.kill id ∘ I = I := rfl
theorem frz_I {id : Nat} {els : List AV} : AV.frz id els ∘ I = I := rfl
theorem renL_I {ρ : Nat → Nat} : ∀ u : List Int, AV.renL ρ (u.map I) = u.map I
  | [] => rfl
  | x :: u => by rw [List.map_cons, AV.renL, renL_I u]; rfl
theorem menL_I {id : Nat} : ∀ u : List Int, AV.menL id (u.map I) = false
  | [] => rfl
  | x :: u => by rw [List.map_cons, AV.menL, menL_I u]; rfl
theorem namedL_I {l : List Nat} : ∀ u : List Int, AV.namedL l (u.map I) = true
  | [] => rfl
  | x :: u => by rw [List.map_cons, AV.namedL, namedL_I u]; rfl
theorem isDataL_I : ∀ u : List Int, AV.isDataL (u.map I) = true
  | [] => rfl
  | x :: u => by rw [List.map_cons, AV.isDataL, isDataL_I u]; rfl
theorem get_1 (x : AV) (l : List AV) (i : Nat) : (x :: l)[1 + i]? = l[i]? := by rw [Nat.add_comm]; rfl
theorem set_1 (x y : AV) (l : List AV) (i : Nat) : (x :: l).set (1 + i) y = x :: l.set i y := by rw [Nat.add_comm]; rfl
theorem take_1 (x : AV) (l : List AV) (i : Nat) : List.take (1 + i) (x :: l) = x :: List.take i l := by rw [Nat.add_comm]; rfl
theorem snapL_I {st : St} {ps : List (Nat × Nat)} : ∀ u : List Int, st.snapL ps (u.map I) = some (u.map I, false)
  | [] => rfl
  | x :: u => by
    have h : st.snap1 ps (I x) = some (I x, false) := rfl
    rw [List.map_cons, St.snapL, snapL_I u, h]; rfl
attribute [local simp] snapL_I
attribute [local simp] get_1 set_1 take_1
attribute [local simp] kill_I frz_I renL_I menL_I namedL_I isDataL_I
abbrev planO (s : Sls) (L : Memo) : List (Nat × Obj) := [(10000, .row false 51 4 [slsV s]), (10001, .row false 104 1 [.map 10003]), (10002, .row false 105 1 [.clo 53 [.ptr 10000 0 0, .ptr 10001 0 0, .ptr 10002 0 0]]), (10003, .mp true shM (entE L))]
set_option maxHeartbeats 4000000 in
theorem Plan_zero (s : Sls) (hv : ValidS s) (L : Memo) (day : Int) (u : List Int) (hul : u.length = 4) (hd : s.days < day) : ACalls Tryd.prog 53 [.agg (I day :: u.map I), .ptr 10000 0 0, .ptr 10001 0 0, .ptr 10002 0 0] (planO s L) (fun r o => ∃ L' : Memo, r = plnV ([], true) ∧ o = planO s L' ∧ L' = L) := by
 have F := Fx.nil
 replace F := F.add hul |>.add hd
 refine ent Tryd.func53 Tryd.ntmps53 Tryd.results53 ?_
 refine rK [1, 2, 3, 4, 5] ?_
 refine W.seqk fun K1 hK1 => ?_
 refine rK [1, 2, 3, 4, 5, 21] ?_
 refine cT ?_
 refine rK [5] ?_
 refine W.weaken (Le.immNilO (id := 40) (k := 0) (j := 0) (by simp; rfl)) ?_
 refine W.ret ?_
 refine tr ?_
 clear hK1 K1
 refine er false [] [(10000, 10000), (10001, 10001), (10002, 10002), (10003, 10003)] ?_
 exact ⟨L, rfl, rfl, rfl⟩
set_option maxHeartbeats 4000000 in
theorem Plan_step (s : Sls) (hv : ValidS s) (L : Memo) (qL : MemoOk s L) (day : Int) (u : List Int) (qu : Until u) (k : Nat) (hk : day + (k : Int) = s.days) (hd0 : 0 ≤ day) (ih : ∀ (L : Memo) (u : List Int), MemoOk s L → Until u → ACalls Tryd.prog 53 [.agg (I (day + 1) :: u.map I), .ptr 10000 0 0, .ptr 10001 0 0, .ptr 10002 0 0] (planO s L) (fun r o => ∃ L' : Memo, r = plnV (planF s k (day + 1) u) ∧ o = planO s L' ∧ MemoOk s L')) : ACalls Tryd.prog 53 [.agg (I day :: u.map I), .ptr 10000 0 0, .ptr 10001 0 0, .ptr 10002 0 0] (planO s L) (fun r o => ∃ L' : Memo, r = plnV (planF s (k + 1) day u) ∧ o = planO s L' ∧ MemoOk s L') := by
 have F := Fx.nil
 replace F := F.add hk |>.add hd0
 refine ent Tryd.func53 Tryd.ntmps53 Tryd.results53 ?_
 have hul : u.length = 4 := qu.l
 have hdl : day ≤ s.days := by omega
 have htu : List.take 4 u = u := List.take_of_length_le (by omega)
 have qd := hv.days
 have hd10 : s.days ≤ 10 := qd.2
 have hl1 : 1 ≤ s.lef.length := hv.l1
 have hl4 : s.lef.length ≤ 4 := hv.l4
 have hle : s.eve.length = s.lef.length := hv.le
 have hmo : 0 ≤ s.most := hv.most.1
 have hm4 : s.most ≤ 4 := hv.most.2
 have hkv : keyV (.agg (I day :: u.map I)) = some (keyM day u) := keyV_morn day u
 have hft : fitsKey (.agg #[.int .i64 0, .int .i64 0, .int .i64 0, .int .i64 0, .int .i64 0]) (keyM day u) = true := keyM_fits hd0 (by omega) qu
 have qkk : (s.days + 1 - day).toNat = k + 1 := by omega
 obtain ⟨P, qP⟩ : ∃ P, planF s (k + 1) day u = P := ⟨_, rfl⟩
 have qget := get_memo (d := day) hd10 ⟨hd0, by omega⟩ qu qL
 rw [qkk, qP] at qget
 have hsl : shlI .i64 1 (s.lef.length : Int) = ((2 ^ s.lef.length : Nat) : Int) := shl_one hl4
 obtain ⟨N, qN⟩ : ∃ N, 2 ^ s.lef.length = N := ⟨_, rfl⟩
 have hN16 : N ≤ 16 := by rw [← qN]; exact Nat.le_trans (Nat.pow_le_pow_right (by decide) hl4) (by decide)
 rw [qN] at hsl
 obtain ⟨A, qA⟩ : ∃ A : Nat → List Pln, A = allK s (planF s k (day + 1)) day u := ⟨_, rfl⟩
 have hA0 : A 0 = [] := by rw [qA]; rfl
 have hAl : ∀ j, (A j).length ≤ j := fun j => by rw [qA]; exact allK_len s _ day u j
 replace F := F.add hul |>.add hdl |>.add htu |>.add hd10 |>.add hl1 |>.add hl4 |>.add hle |>.add hmo |>.add hm4 |>.add hkv |>.add hft |>.add hsl |>.add hN16 |>.add hA0 |>.add hAl
 refine rK [1, 2, 3, 4, 5] ?_
 refine W.seqk fun K1 hK1 => ?_
 refine rK [1, 2, 3, 4, 5, 21] ?_
 refine cF ?_
 refine W.skip ?_
 refine hK1 _ ?_
 clear hK1 K1
 refine W.seqk fun K2 hK2 => ?_
 by_cases hg : getM (keyM day u) (entE L) = none
 ·
  replace F := F.add hg
  refine rK [1, 2, 3, 4, 5, 6, 7] ?_
  refine rK [1, 2, 3, 4, 5, 6, 29] ?_
  refine cF ?_
  refine W.skip ?_
  refine hK2 _ ?_
  clear hK2 K2
  refine rK [1, 2, 3, 4, 5, 8] ?_
  refine W.seqk fun K3 hK3 => ?_
  refine rK [1, 2, 3, 4, 5, 8, 34, 35] ?_
  refine W.block ?_
  refine sn 8 9000 110 2 ?_
  refine lpa (α := Memo × Nat) [1, 2, 3, 4, 5, 34] [10, 15, 46, 62, 63, 75, 76, 94, 101, 106, 110, 111] [9000, 10003] (fun x => [(35, I x.2), (8, .own 9000 0 (A x.2).length)]) (fun x => [(9000, .row true 110 2 ((A x.2).map plnV)), (10003, .mp true shM (entE x.1))]) (fun x => MemoOk s x.1 ∧ x.2 ≤ N) (fun x => N - x.2) (L, 0) v0 ?_
  ·
   intro ⟨L2, j⟩ hI0
   simp only [List.cons_append, List.nil_append]
   try dsimp only at hI0
   obtain ⟨kL2, hj⟩ := hI0
   replace F := F.add hj
   refine rK [1, 2, 3, 4, 5, 8, 34, 35, 36] ?_
   refine W.seqk fun K4 hK4 => ?_
   refine it (fun hc3 => ?_) (fun hc3 => ?_)
   ·
    try simp at hc3
    replace F := F.add hc3
    refine W.skip ?_
    refine hK4 _ ?_
    clear hK4 K4
    refine W.seqk fun K5 hK5 => ?_
    refine W.block ?_
    refine rK [1, 2, 3, 4, 5, 8, 9, 34, 35] ?_
    have hjN : j < N := by omega
    have hA1 : (A j).length ≤ j := hAl j
    obtain ⟨T, qT⟩ : ∃ T : Nat → List Tst, T = fun i => (setS s day u j i).1 := ⟨_, rfl⟩
    obtain ⟨V, qV⟩ : ∃ V : Nat → List Int, V = fun i => (setS s day u j i).2.1 := ⟨_, rfl⟩
    obtain ⟨Fq, qF⟩ : ∃ Fq : Nat → Bool, Fq = fun i => (setS s day u j i).2.2 := ⟨_, rfl⟩
    have qun := fun i hi => setS_until hv hd0 qu j i hi
    have hT0 : T 0 = [] := by rw [qT]; rfl
    have hV0 : V 0 = u := by rw [qV]; rfl
    have hF0 : Fq 0 = true := by rw [qF]; rfl
    replace F := F.add hjN |>.add hA1 |>.add hT0 |>.add hV0 |>.add hF0
    refine rKw [1, 2, 3, 4, 5, 8, 9, 10, 34, 35] ?_
    refine rK [1, 2, 3, 4, 5, 8, 9, 10, 11, 34, 35] ?_
    refine rK [1, 2, 3, 4, 5, 8, 9, 10, 11, 12, 34, 35] ?_
    refine W.seqk fun K6 hK6 => ?_
    refine rK [1, 2, 3, 4, 5, 8, 9, 10, 11, 12, 34, 35, 45, 46, 47] ?_
    refine W.block ?_
    refine sn 11 9001 61 2 ?_
    refine lpa (α := Nat) [1, 2, 3, 4, 5, 8, 9, 10, 34, 35, 45, 46] [62, 63, 75, 76] [9001, 80] (fun i => [(47, I i), (12, B (Fq i)), (11, .own 9001 0 (T i).length)]) (fun i => [(9001, .row true 61 2 ((T i).map T2)), (80, .row false 108 5 [.agg (I (day + 1) :: (V i).map I)])]) (fun i => i ≤ s.eve.length) (fun i => s.eve.length - i) 0 v0 ?_
    ·
     intro i hI1
     simp only [List.cons_append, List.nil_append]
     try dsimp only at hI1
     replace F := F.add hI1
     refine rK [1, 2, 3, 4, 5, 8, 9, 10, 11, 12, 34, 35, 45, 46, 47, 48] ?_
     refine W.seqk fun K7 hK7 => ?_
     refine it (fun hc4 => ?_) (fun hc4 => ?_)
     ·
      try simp at hc4
      replace F := F.add hc4
      refine W.skip ?_
      refine hK7 _ ?_
      clear hK7 K7
      refine W.seqk fun K8 hK8 => ?_
      refine W.block ?_
      refine rK [1, 2, 3, 4, 5, 8, 9, 10, 11, 12, 13, 14, 34, 35, 45, 46, 47] ?_
      refine W.seqk fun K9 hK9 => ?_
      have hil : i < s.eve.length := by omega
      have hi4 : (i : Int) < 4 := by omega
      have hVl : (V i).length = 4 := by rw [qV]; exact (qun i (by omega)).1.l
      have hTl : (T i).length ≤ i := by rw [qT]; exact (qun i (by omega)).2
      have hi4n : i < 4 := by omega
      have hi14 : 1 + i ≤ 4 := by omega
      obtain ⟨vi, qvi⟩ : ∃ vi, (V i)[i]'(by omega) = vi := ⟨_, rfl⟩
      have hvi := qvi
      have hgv : (V i)[i]? = some vi := by rw [← qvi]; exact List.getElem?_eq_getElem _
      obtain ⟨ei, qei⟩ : ∃ ei, s.eve[i] = ei := ⟨_, rfl⟩
      have hei := qei
      have qer : 0 ≤ ei ∧ ei ≤ 10 := by rw [← qei]; exact hv.eve _ (List.getElem_mem hil)
      have hwr : IntKind.i64.wrap (day + ei) = day + ei := wrap_i64 (by omega) (by omega)
      obtain ⟨mx, qmx⟩ : ∃ mx, (if vi < day + ei then day + ei else vi) = mx := ⟨_, rfl⟩
      have hmx := qmx
      obtain ⟨w, qw⟩ : ∃ w, (if mx < s.days then mx else s.days) = w := ⟨_, rfl⟩
      have hw2 := qw
      have qwe : w = min s.days (max vi (day + ei)) := by rw [← qw, ← qmx]; (repeat' split) <;> omega
      have qsk := setS_succ s day u j i
      have hcp : capOk ((T i).length + 1) 16 = true := capOk_of (by omega) (by decide)
      have hbt : andI .i64 (shrI .i64 (j : Int) (i : Int)) 1 = if j.testBit i then 1 else 0 := bit_ask (by omega) (by omega)
      replace F := F.add hil |>.add hi4 |>.add hVl |>.add hTl |>.add hi4n |>.add hi14 |>.add hvi |>.add hgv |>.add hei |>.add hwr |>.add hmx |>.add hw2 |>.add hcp |>.add hbt
      by_cases hb : j.testBit i = true
      ·
       replace F := F.add hb
       have qVe : V (i + 1) = (V i).set i w := by
         have h := congrArg (fun (x : List Tst × List Int × Bool) => x.2.1) qsk
         rw [qV]; refine h.trans ?_
         show (if _ then _ else _) = _
         rw [if_pos hb, qwe, ← qvi, ← qei, nth_get hil, nth_get (by have := hVl; rw [qV] at this; show i < (setS s day u j i).2.1.length; exact (show (setS s day u j i).2.1.length = 4 from this) ▸ hi4n)]
         simp only [qV]
       have hVs : List.map I (List.take i (V i)) ++ I w :: List.map I (List.drop (1 + i) (V i)) = List.map I (V (i + 1)) := by
         rw [qVe, Nat.add_comm 1 i, List.set_eq_take_append_cons_drop, if_pos (by omega), List.map_append, List.map_cons]
       have hVl1 : (V (i + 1)).length = 4 := by rw [qVe, List.length_set]; exact hVl
       have hvw : (V (i + 1))[i]'(by omega) = w := by simp [qVe]
       have hgw : (V (i + 1))[i]? = some w := by rw [← hvw]; exact List.getElem?_eq_getElem _
       have hTs : T (i + 1) = T i ++ [⟨day, (i : Int)⟩] := by
         have h := congrArg (fun (x : List Tst × List Int × Bool) => x.1) qsk
         rw [qT]; refine h.trans ?_
         show (if _ then _ else _) = _
         rw [if_pos hb]
       have hFs : Fq (i + 1) = (Fq i && decide (day ≤ w)) := by
         have h := congrArg (fun (x : List Tst × List Int × Bool) => x.2.2) qsk
         have e : nth (V (i + 1)) i = w := by rw [nth_get (by omega)]; exact hvw
         rw [← e, qF]; refine h.trans ?_
         simp only [qV, qsk]
       replace F := F.add hVs |>.add hVl1 |>.add hvw |>.add hgw |>.add hTs |>.add hFs
       refine rK [1, 2, 3, 4, 5, 8, 9, 10, 11, 12, 13, 14, 34, 35, 45, 46, 47, 56] ?_
       refine cT ?_
       refine rK [1, 2, 3, 4, 5, 8, 9, 10, 11, 12, 13, 14, 34, 35, 45, 46, 47] ?_
       refine wDe 14 [] [[], [], [1], [], [], [3, 4], [4, 3, 5], [], [7], [], [9, 7, 8], [8, 7, 9, 10, 5, 3, 4, 6], [6, 4, 3, 5, 10, 9, 7, 8, 11, 1, 2], [], [12, 11, 10, 9, 8, 7, 6, 5, 4, 3, 2, 1, 0, 13], [13, 0, 1, 2, 3, 4, 5, 6, 7, 8, 9, 10, 11, 12, 14]] ?_
       refine dB [([65, 66, 67, 68, 69, 70, 71, 72, 73, 74, 75, 76, 77], [], []), ([64, 67, 68, 69, 70, 71, 72, 73, 74, 75, 77], [false], []), ([64, 67, 68, 69, 70, 71, 72, 73, 74, 75, 77], [false, true], []), ([64, 65, 66, 68, 71, 72, 73, 74, 77], [false, false, false], []), ([64, 65, 66, 67, 71, 72, 73, 74, 77], [false, false, false, false], []), ([64, 65, 66, 71, 72, 73, 74, 77], [false, false, false, true, true], []), ([64, 65, 66, 71, 72, 73, 74, 77], [false, false, false, true, true, true], []), ([64, 65, 66, 67, 68, 69, 70, 73, 77], [false, false, false, false, false, false, false], []), ([64, 65, 66, 67, 68, 69, 70, 73, 77], [false, false, false, false, false, false, false, true], []), ([64, 65, 66, 67, 68, 69, 70, 71, 72, 77], [false, false, false, false, false, false, false, false, false], []), ([64, 65, 66, 67, 68, 69, 70, 77], [false, false, false, false, false, false, false, true, true, true], []), ([64, 65, 66, 77], [false, false, false, true, true, true, true, true, true, true, true], []), ([64, 77], [false, true, true, true, true, true, true, true, true, true, true, true], []), ([64, 65, 66, 67, 68, 69, 70, 71, 72, 73, 74, 75, 76], [false, false, false, false, false, false, false, false, false, false, false, false, false], [])] 0 14 ?_
       refine dD ?_
       refine oN 2 ?_
       refine WOps.endK ?_
       refine hK9 _ ?_
       clear hK9 K9
       by_cases hFi : Fq i = true
       ·
        replace F := F.add hFi
        refine wDe 8 [] [[], [0], [0, 1], [0, 1], [2, 1, 0, 3], [3, 0, 1, 2, 4], [0, 1], [1, 0, 6], [6, 7, 4, 2, 1, 0, 3, 5], [5, 3, 2, 4, 7, 6, 8, 0, 1], [1, 0, 8, 6, 7, 4, 2, 3, 5, 9]] ?_
        refine dB [([], [], []), ([], [true], [])] 6 2 ?_
        refine dT [82, 85, 86] [true, true] [] ?_
        refine dT [81, 85, 86] [true, true, false] [] ?_
        refine dT [85, 86] [true, true, true, true] [] ?_
        refine dT [85, 86] [true, true, true, true, true] [] ?_
        refine dT [81, 82, 83, 84] [true, true, false, false, false, false] [] ?_
        refine dT [81, 82, 83, 84] [true, true, false, false, false, false, true] [] ?_
        refine dD ?_
        refine gT ?_
        refine oN 2 ?_
        refine WOps.endK ?_
        refine hK8 _ ?_
        clear hK8 K8
        refine rEw ?_
        refine ⟨i + 1, lf0, v0, v0⟩
       ·
        replace F := F.add hFi
        refine wDe 8 [] [[], [0], [0, 1], [0, 1], [2, 1, 0, 3], [3, 0, 1, 2, 4], [0, 1], [1, 0, 6], [6, 7, 4, 2, 1, 0, 3, 5], [5, 3, 2, 4, 7, 6, 8, 0, 1], [1, 0, 8, 6, 7, 4, 2, 3, 5, 9]] ?_
        refine dB [([], [], []), ([], [true], [])] 6 2 ?_
        refine dF [some 81, some 82, some 83, some 84, some 85, some 86] 1 80 true 0 ?_
        refine dD ?_
        refine gF ?_
        refine oN 2 ?_
        refine WOps.endK ?_
        refine hK8 _ ?_
        clear hK8 K8
        refine rEw ?_
        refine ⟨i + 1, lf0, v0, v0⟩
      ·
       replace F := F.add hb
       have hV1 : V (i + 1) = V i := by
         have h := congrArg (fun (x : List Tst × List Int × Bool) => x.2.1) qsk
         rw [qV]; refine h.trans ?_
         show (if _ then _ else _) = _
         rw [if_neg hb]
       have hT1 : T (i + 1) = T i := by
         have h := congrArg (fun (x : List Tst × List Int × Bool) => x.1) qsk
         rw [qT]; refine h.trans ?_
         show (if _ then _ else _) = _
         rw [if_neg hb]
       have hFs : Fq (i + 1) = (Fq i && decide (day ≤ vi)) := by
         have h := congrArg (fun (x : List Tst × List Int × Bool) => x.2.2) qsk
         have e : nth (V (i + 1)) i = vi := by rw [hV1, nth_get (by omega)]; exact hvi
         rw [← e, qF]; refine h.trans ?_
         simp only [qV, qsk]
       replace F := F.add hV1 |>.add hT1 |>.add hFs
       refine rK [1, 2, 3, 4, 5, 8, 9, 10, 11, 12, 13, 14, 34, 35, 45, 46, 47, 56] ?_
       refine cF ?_
       refine W.skip ?_
       refine hK9 _ ?_
       clear hK9 K9
       by_cases hFi : Fq i = true
       ·
        replace F := F.add hFi
        refine wDe 8 [] [[], [0], [0, 1], [0, 1], [2, 1, 0, 3], [3, 0, 1, 2, 4], [0, 1], [1, 0, 6], [6, 7, 4, 2, 1, 0, 3, 5], [5, 3, 2, 4, 7, 6, 8, 0, 1], [1, 0, 8, 6, 7, 4, 2, 3, 5, 9]] ?_
        refine dB [([], [], []), ([], [true], [])] 6 2 ?_
        refine dT [82, 85, 86] [true, true] [] ?_
        refine dT [81, 85, 86] [true, true, false] [] ?_
        refine dT [85, 86] [true, true, true, true] [] ?_
        refine dT [85, 86] [true, true, true, true, true] [] ?_
        refine dT [81, 82, 83, 84] [true, true, false, false, false, false] [] ?_
        refine dT [81, 82, 83, 84] [true, true, false, false, false, false, true] [] ?_
        refine dD ?_
        refine gT ?_
        refine oN 2 ?_
        refine WOps.endK ?_
        refine hK8 _ ?_
        clear hK8 K8
        refine rEw ?_
        refine ⟨i + 1, lf0, v0, v0⟩
       ·
        replace F := F.add hFi
        refine wDe 8 [] [[], [0], [0, 1], [0, 1], [2, 1, 0, 3], [3, 0, 1, 2, 4], [0, 1], [1, 0, 6], [6, 7, 4, 2, 1, 0, 3, 5], [5, 3, 2, 4, 7, 6, 8, 0, 1], [1, 0, 8, 6, 7, 4, 2, 3, 5, 9]] ?_
        refine dB [([], [], []), ([], [true], [])] 6 2 ?_
        refine dF [some 81, some 82, some 83, some 84, some 85, some 86] 1 80 true 0 ?_
        refine dD ?_
        refine gF ?_
        refine oN 2 ?_
        refine WOps.endK ?_
        refine hK8 _ ?_
        clear hK8 K8
        refine rEw ?_
        refine ⟨i + 1, lf0, v0, v0⟩
     ·
      try simp at hc4
      replace F := F.add hc4
      refine W.exit ?_
      refine hK6 _ ?_
      clear hK7 K7 hK6 K6
      refine W.seqk fun K10 hK10 => ?_
      have hin : i = s.lef.length := by omega
      have hVn : (V s.lef.length).length = 4 := by rw [qV]; exact (qun s.lef.length (by omega)).1.l
      have htv : List.take 4 (V s.lef.length) = V s.lef.length := List.take_of_length_le (by omega)
      have hTn : (T s.lef.length).length ≤ s.lef.length := by rw [qT]; exact (qun s.lef.length (by omega)).2
      have qun2 : Until (V s.lef.length) := by rw [qV]; exact (qun s.lef.length (by omega)).1
      have ih1 := ih L2 (V s.lef.length) kL2 qun2
      replace F := F.add hin |>.add hVn |>.add htv |>.add hTn
      by_cases hFn : Fq s.lef.length = true
      ·
       replace F := F.add hFn
       by_cases hmn : s.most < ((T s.lef.length).length : Int)
       ·
        replace F := F.add hmn
        have hAs : A (j + 1) = A j := by
          have h := allK_succ s (planF s k (day + 1)) day u j
          rw [qA]; refine h.trans ?_
          rw [if_pos (.inr (by rw [hle]; simp only [qT] at hmn; exact hmn))]
        replace F := F.add hAs
        refine W.seqR ?_
        refine oN 3 ?_
        refine gT ?_
        refine gT ?_
        refine gT ?_
        refine gT ?_
        refine gT ?_
        refine oN 1 ?_
        refine oK [1, 2, 3, 4, 5, 8, 10, 11, 34, 35, 98] ?_
        refine cT ?_
        refine W.exit ?_
        refine hK5 _ ?_
        clear hK10 K10 hK5 K5
        refine rEw ?_
        refine ⟨(L2, j + 1), lf0, v0, v0⟩
       ·
        replace F := F.add hmn
        obtain ⟨R, qR⟩ : ∃ R, planF s k (day + 1) (V s.lef.length) = R := ⟨_, rfl⟩
        rw [qR] at ih1
        have qRl : R.1.length ≤ 4 * 11 := by rw [← qR]; exact Nat.le_trans (planF_len s k (day + 1) _) (Nat.mul_le_mul (by omega) (by omega))
        have hTR : capOk ((T s.lef.length).length + R.1.length) 16 = true := capOk_of (by omega) (by decide)
        have hAs : A (j + 1) = A j ++ [(T s.lef.length ++ R.1, R.2)] := by
          have h := allK_succ s (planF s k (day + 1)) day u j
          rw [qA]; refine h.trans ?_
          rw [if_neg (by rw [hle]; simp only [qF] at hFn; simp only [qT] at hmn; rintro (h | h); rw [hFn] at h; cases h; exact hmn h), hle, ← qR, qT, qV]
        replace F := F.add hTR |>.add hAs
        refine W.seqR ?_
        refine oN 3 ?_
        refine gT ?_
        refine gT ?_
        refine gT ?_
        refine gT ?_
        refine gT ?_
        refine oN 1 ?_
        refine oK [1, 2, 3, 4, 5, 8, 10, 11, 34, 35, 98] ?_
        refine cF ?_
        refine W.skip ?_
        refine hK10 _ ?_
        clear hK10 K10
        refine W.seqR ?_
        refine oN 2 ?_
        refine oC [(10000, 10000), (10001, 10001), (10002, 10002), (10003, 10003)] ?_
        refine CallT.mkE (ih1) (fun z101 hz101 => ⟨(by simp [hk, hd0, hul, hdl, htu, hd10, hl1, hl4, hle, hmo, hm4, hkv, hft, hsl, hN16, hA0, hAl, hg, hj, hc3, hjN, hA1, hT0, hV0, hF0, hI1, hc4, hin, hVn, htv, hTn, hFn, hmn, hTR, hAs]), ?_⟩)
        refine WOps.norm (by simp [hk, hd0, hul, hdl, htu, hd10, hl1, hl4, hle, hmo, hm4, hkv, hft, hsl, hN16, hA0, hAl, hg, hj, hc3, hjN, hA1, hT0, hV0, hF0, hI1, hc4, hin, hVn, htv, hTn, hFn, hmn, hTR, hAs]; rfl) ?_
        refine oN 2 ?_
        refine oK [1, 2, 3, 4, 5, 8, 11, 15, 34, 35] ?_
        refine wDe 9 [(4, [9001])] [[], [], [], [2], [2, 3, 1], [], [5], [5, 6, 1, 3, 2, 4], [4, 2, 3, 1, 6, 5, 7], [7, 5, 6, 1, 3, 2, 4, 8, 0], [0, 8, 4, 2, 3, 1, 6, 5, 7, 9]] ?_
        refine dB [([103, 104, 105, 106, 107, 108, 109, 110], [], [9001]), ([102, 104, 105, 107, 108], [false], []), ([102, 103, 107, 108], [false, false], []), ([102, 103, 107, 108], [false, false, true], [])] 5 4 ?_
        refine WDraw.appI hΓ [9001] (viewB_eq (L := [102, 107, 108]) (S := [false, true, true, true]) (O := []) (by kernel_rfl) (by kernel_rfl) (by simp [hk, hd0, hul, hdl, htu, hd10, hl1, hl4, hle, hmo, hm4, hkv, hft, hsl, hN16, hA0, hAl, hg, hj, hc3, hjN, hA1, hT0, hV0, hF0, hI1, hc4, hin, hVn, htv, hTn, hFn, hmn, hTR, hAs]; rfl)) (by first | rfl | simp) (by simp [hk, hd0, hul, hdl, htu, hd10, hl1, hl4, hle, hmo, hm4, hkv, hft, hsl, hN16, hA0, hAl, hg, hj, hc3, hjN, hA1, hT0, hV0, hF0, hI1, hc4, hin, hVn, htv, hTn, hFn, hmn, hTR, hAs]; first | rfl | exact ⟨rfl, rfl⟩) (by simp [hk, hd0, hul, hdl, htu, hd10, hl1, hl4, hle, hmo, hm4, hkv, hft, hsl, hN16, hA0, hAl, hg, hj, hc3, hjN, hA1, hT0, hV0, hF0, hI1, hc4, hin, hVn, htv, hTn, hFn, hmn, hTR, hAs, imD]; first | rfl | exact ⟨rfl, rfl⟩) (by first | rfl | simp) (by simp [hk, hd0, hul, hdl, htu, hd10, hl1, hl4, hle, hmo, hm4, hkv, hft, hsl, hN16, hA0, hAl, hg, hj, hc3, hjN, hA1, hT0, hV0, hF0, hI1, hc4, hin, hVn, htv, hTn, hFn, hmn, hTR, hAs]; first | done | rfl) (.inr (by simp)) (by simp [hk, hd0, hul, hdl, htu, hd10, hl1, hl4, hle, hmo, hm4, hkv, hft, hsl, hN16, hA0, hAl, hg, hj, hc3, hjN, hA1, hT0, hV0, hF0, hI1, hc4, hin, hVn, htv, hTn, hFn, hmn, hTR, hAs]; rfl) ?_
        refine dB [([102, 103, 104, 105, 106], [false, false, false, false, false], [9001]), ([102, 103, 104, 105, 106], [false, false, false, false, false, true], [9001]), ([102], [false, true, true, true, true, true, true], []), ([102], [false, true, true, true, true, true, true, true], [])] 0 9 ?_
        refine dD ?_
        refine oNw 2 ?_
        refine WOps.endK ?_
        refine hK5 _ ?_
        clear hK5 K5
        refine rEw ?_
        refine ⟨(z101, j + 1), lf0, v0, v0⟩
      ·
       replace F := F.add hFn
       have hAs : A (j + 1) = A j := by
         have h := allK_succ s (planF s k (day + 1)) day u j
         rw [qA]; refine h.trans ?_
         rw [if_pos (.inl (by rw [hle]; simp only [qF] at hFn; simpa using hFn))]
       replace F := F.add hAs
       refine W.seqR ?_
       refine oN 3 ?_
       refine gF ?_
       refine gF ?_
       refine gF ?_
       refine gF ?_
       refine gF ?_
       refine oN 1 ?_
       refine oK [1, 2, 3, 4, 5, 8, 10, 11, 34, 35, 98] ?_
       refine cT ?_
       refine W.exit ?_
       refine hK5 _ ?_
       clear hK10 K10 hK5 K5
       refine rEw ?_
       refine ⟨(L2, j + 1), lf0, v0, v0⟩
   ·
    try simp at hc3
    replace F := F.add hc3
    refine W.exit ?_
    refine hK3 _ ?_
    clear hK4 K4 hK3 K3
    have hjN : j = N := by omega
    have hbp : bestP (A N) = P := by rw [← qP, planF, qN, qA]
    replace F := F.add hjN |>.add hbp
    refine W.seqR ?_
    refine fz 9000 ?_
    refine oN 1 ?_
    refine oC [] ?_
    refine ct (best_ok (A N)) ?_
    refine oN 2 ?_
    refine oK [2, 4, 5, 16] ?_
    have hcm : capOk ((entE L2).length + 1) 1 = true := capOk_of (by rw [entE_len]; have := memo_len hd10 kL2; omega) (by decide)
    have hset : setM (keyM day u) (.agg [tstV P.1, B P.2]) (entE L2) = entE (setL (day, u) P L2) := set_memo (d := day) hd10 ⟨hd0, by omega⟩ qu P kL2
    have hP2 : MemoOk s (setL (day, u) P L2) := by
      have h := memo_set (d := day) ⟨hd0, hdl⟩ qu kL2
      rw [qkk, qP] at h; exact h
    replace F := F.add hcm |>.add hset |>.add hP2
    refine rK [5, 16] ?_
    refine rK [5] ?_
    refine W.ret ?_
    refine er false [] [(10000, 10000), (10001, 10001), (10002, 10002), (10003, 10003)] ?_
    exact ⟨setL (day, u) P L2, by rw [qP]; rfl, rfl, hP2⟩
 ·
  replace F := F.add hg
  have hgs : getM (keyM day u) (entE L) = some (plnV P) := by
    rcases qget with h | h
    · exact absurd h hg
    · exact h
  replace F := F.add hgs
  refine rK [1, 2, 3, 4, 5, 6, 7] ?_
  refine rK [1, 2, 3, 4, 5, 6, 29] ?_
  refine cT ?_
  refine rK [5] ?_
  refine W.ret ?_
  refine tr ?_
  clear hK2 K2
  refine er false [] [(10000, 10000), (10001, 10001), (10002, 10002), (10003, 10003)] ?_
  exact ⟨L, by rw [qP]; rfl, rfl, qL⟩
theorem From_ok' (s : Sls) (hv : ValidS s) : ∀ (k : Nat) (L : Memo) (day : Int) (u : List Int), MemoOk s L → Until u → 0 ≤ day → day + (k : Int) = s.days + 1 →
    ACalls Tryd.prog 53 [.agg (I day :: u.map I), .ptr 10000 0 0, .ptr 10001 0 0, .ptr 10002 0 0] (planO s L) (fun r o => ∃ L' : Memo, r = plnV (planF s k day u) ∧ o = planO s L' ∧ MemoOk s L')
  | 0, L, day, u, qL, qu, h0, hk => (Plan_zero s hv L day u qu.l (by omega)).mono fun _ _ ⟨L', h1, h2, h3⟩ => ⟨L', h1, h2, h3 ▸ qL⟩
  | k + 1, L, day, u, qL, qu, h0, hk => Plan_step s hv L qL day u qu k (by omega) h0 fun L' u' h1 h2 => From_ok' s hv k L' (day + 1) u' h1 h2 (by omega) (by omega)
theorem left0_until {s : Sls} (hv : ValidS s) : Until (left0 s) := by
  refine ⟨by simp [left0], fun x hx => ?_⟩
  obtain ⟨i, hi, rfl⟩ := List.mem_map.1 hx
  have hd := hv.days
  split
  · rename_i h
    have := hv.lef _ (List.getElem_mem h)
    rw [nth_get h]; omega
  · omega
def left1 (s : Sls) (n : Nat) : List Int := (List.range 4).map fun i => if i < n then min (nth s.lef i) s.days else 0
theorem left1_len (s : Sls) (n : Nat) : (left1 s n).length = 4 := by simp [left1]
theorem left1_all (s : Sls) : left1 s s.lef.length = left0 s := rfl
theorem left1_succ (s : Sls) {n : Nat} (hn : n < 4) : left1 s (n + 1) = (left1 s n).set n (min (nth s.lef n) s.days) := by
  apply List.ext_getElem
  · simp [left1]
  · intro i h1 h2
    rw [List.getElem_set]
    simp only [left1, List.getElem_map, List.getElem_range]
    by_cases e : n = i
    · subst e; rw [if_pos (by omega), if_pos rfl]
    · rw [if_neg e]
      by_cases h : i < n
      · rw [if_pos (by omega), if_pos h]
      · rw [if_neg (by omega), if_neg h]
set_option maxHeartbeats 4000000 in
theorem Plan_ok (s : Sls) (hl : s.lef.length ≤ 1000) (he : s.eve.length ≤ 1000) : ACalls Tryd.prog 14 [slsV s] [] (fun r o => r = .tup [tstV (planL s), I (planE s)] ∧ o = []) := by
 have F := Fx.nil
 refine ent Tryd.func14 Tryd.ntmps14 Tryd.results14 ?_
 refine rK [1] ?_
 refine W.seqk fun K1 hK1 => ?_
 refine W.seqR ?_
 refine oN 1 ?_
 refine oC [] ?_
 refine ct (seaC_ok s hl he) ?_
 refine oN 1 ?_
 refine oK [1, 4] ?_
 refine rK [1, 4, 14] ?_
 refine it (fun hc1 => ?_) (fun hc1 => ?_)
 ·
  try simp at hc1
  replace F := F.add hc1
  refine rK [2, 3] ?_
  refine W.ret ?_
  refine tr ?_
  clear hK1 K1
  refine er true [] [] ?_
  exact ⟨by unfold planL planE; rw [if_neg (fun n => hc1 n.1), if_pos hc1]; rfl, rfl⟩
 ·
  try simp at hc1
  replace F := F.add hc1
  refine W.skip ?_
  refine hK1 _ ?_
  clear hK1 K1
  have hv : ValidS s := seaC_zero.1 (by simpa using hc1)
  have qd := hv.days
  have hd10 : s.days ≤ 10 := qd.2
  have hl1 : 1 ≤ s.lef.length := hv.l1
  have hl4 : s.lef.length ≤ 4 := hv.l4
  replace F := F.add hv |>.add hd10 |>.add hl1 |>.add hl4
  refine rK [1, 5] ?_
  refine rK [1, 5, 6] ?_
  refine rK [1, 6] ?_
  refine rK [1, 6, 7] ?_
  refine W.seqk fun K2 hK2 => ?_
  refine rK [1, 6, 7, 19, 20, 21] ?_
  refine W.block ?_
  have hl0 : left1 s 0 = [0, 0, 0, 0] := rfl
  replace F := F.add hl0
  refine lpa (α := Nat) [1, 6, 7, 19, 20] [30] [56] (fun i => [(21, I i)]) (fun i => [(56, .row false 108 5 [.agg (I 0 :: (left1 s i).map I)])]) (fun i => i ≤ s.lef.length) (fun i => s.lef.length - i) 0 v0 ?_
  ·
   intro i hI0
   simp only [List.cons_append, List.nil_append]
   try dsimp only at hI0
   replace F := F.add hI0
   refine rK [1, 6, 7, 19, 20, 21, 22] ?_
   refine W.seqk fun K3 hK3 => ?_
   refine it (fun hc2 => ?_) (fun hc2 => ?_)
   ·
    try simp at hc2
    replace F := F.add hc2
    refine W.skip ?_
    refine hK3 _ ?_
    clear hK3 K3
    refine W.seqk fun K4 hK4 => ?_
    refine W.block ?_
    have hil : i < s.lef.length := by omega
    replace F := F.add hil
    refine rK [1, 6, 7, 8, 9, 19, 20, 21] ?_
    have hi4 : (i : Int) < 4 := by omega
    have hi4n : i < 4 := by omega
    have hi14 : 1 + i ≤ 4 := by omega
    have hVl : (left1 s i).length = 4 := left1_len s i
    obtain ⟨w, qw⟩ : ∃ w, (if s.days < s.lef[i] then s.days else s.lef[i]) = w := ⟨_, rfl⟩
    have hw1 := qw
    have hw2 : (if s.lef[i] < s.days then s.lef[i] else s.days) = w := by rw [← qw]; (repeat' split) <;> omega
    have hVs : List.map I (List.take i (left1 s i)) ++ I w :: List.map I (List.drop (1 + i) (left1 s i)) = List.map I (left1 s (i + 1)) := by
      have e : min (nth s.lef i) s.days = w := by rw [nth_get hil, ← qw]; split <;> omega
      rw [left1_succ s hi4n, e, Nat.add_comm 1 i, List.set_eq_take_append_cons_drop, if_pos (by omega), List.map_append, List.map_cons]
    replace F := F.add hi4 |>.add hi4n |>.add hi14 |>.add hVl |>.add hw1 |>.add hw2 |>.add hVs
    refine rE ?_
    refine hK4 _ ?_
    clear hK4 K4
    refine rEw ?_
    refine ⟨i + 1, lf0, v0, v0⟩
   ·
    try simp at hc2
    replace F := F.add hc2
    refine W.exit ?_
    refine hK2 _ ?_
    clear hK3 K3 hK2 K2
    have hin : i = s.lef.length := by omega
    have hla : left1 s s.lef.length = left0 s := left1_all s
    have qu := left0_until hv
    have htv : List.take 4 (left0 s) = left0 s := List.take_of_length_le (by rw [qu.l]; omega)
    obtain ⟨P, qP⟩ : ∃ P, planP s = P := ⟨_, rfl⟩
    have ihp := From_ok' s hv (s.days + 1).toNat [] 0 (left0 s) ⟨by simp, by simp⟩ qu (by omega) (by omega)
    rw [show planF s (s.days + 1).toNat 0 (left0 s) = P from qP] at ihp
    replace F := F.add hin |>.add hla |>.add htv
    refine W.seqR ?_
    refine oN 2 ?_
    refine oC [(10000, 8), (10001, 40), (10002, 48), (10003, 128)] ?_
    refine CallT.mkE (ihp) (fun z36 hz36 => ⟨(by simp [hc1, hv, hd10, hl1, hl4, hl0, hI0, hc2, hin, hla, htv]), ?_⟩)
    refine WOps.norm (by simp [hc1, hv, hd10, hl1, hl4, hl0, hI0, hc2, hin, hla, htv]; rfl) ?_
    refine oN 2 ?_
    refine oK [10] ?_
    refine W.seqk fun K5 hK5 => ?_
    by_cases hp2 : P.2 = true
    ·
     replace F := F.add hp2
     refine rK [10, 39] ?_
     refine cF ?_
     refine W.skip ?_
     refine hK5 _ ?_
     clear hK5 K5
     refine rK [2, 3] ?_
     refine W.ret ?_
     refine er true [] [] ?_
     exact ⟨by unfold planL planE; rw [qP, if_pos ⟨hc1, hp2⟩, if_neg (Classical.not_not.2 hc1), if_pos hp2], rfl⟩
    ·
     replace F := F.add hp2
     refine rK [10, 39] ?_
     refine cT ?_
     refine rK [2, 3] ?_
     refine W.ret ?_
     refine tr ?_
     clear hK5 K5
     refine er true [] [] ?_
     exact ⟨by unfold planL planE; rw [qP, if_neg (fun n => hp2 n.2), if_neg (Classical.not_not.2 hc1), if_neg hp2]; rfl, rfl⟩
end Go.Sim
