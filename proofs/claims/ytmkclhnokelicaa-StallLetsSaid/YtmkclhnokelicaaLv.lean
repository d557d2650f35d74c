/- Nobody can steer the draw: the law answers true. -/
import Derived.Test.YtmkclhnokelicaaLu
import Derived.Test.YtmkclhnokelicaaPh
namespace Go.Sim
open Go.Proofs
set_option maxRecDepth 100000
set_option linter.unusedSimpArgs false
set_option linter.unusedVariables false
attribute [-simp] List.map_set List.map_take List.map_drop
/-- the letting, one token changed -/
def tokL (l : Lett) (w : Nat) (t : Int) : Lett := ⟨l.stalls, l.apps.set w { nth l.apps w with token := t }⟩
theorem tokL_len {l : Lett} {w : Nat} {t : Int} : (tokL l w t).apps.length = l.apps.length := by simp [tokL]
theorem tokL_valid {l : Lett} (hv : ValidL l) {w : Nat} (hw : w < l.apps.length) {t : Int} (h0 : 0 ≤ t) (h1 : t ≤ 1000000000) : ValidL (tokL l w t) := by
  refine ⟨hv.s0, hv.s8, fun s hs => by rw [tokL_len]; exact hv.st s hs, by rw [tokL_len]; exact hv.a8, fun a ha => ?_⟩
  rcases List.mem_or_eq_of_mem_set ha with q | rfl
  · exact hv.ap a q
  · have k := hv.ap _ (List.getElem_mem hw)
    rw [nth_get hw]
    exact ⟨k.years, ⟨h0, h1⟩, k.wish, k.nodup, k.len, k.bid⟩
theorem tokL_draw {l : Lett} {w : Nat} (hw : w < l.apps.length) {g i j : Nat} (hi : i < facN l.apps.length) (hj : j < facN l.apps.length) (he : drawL (tokL l w ((g + i : Nat) : Int)).apps = drawL (tokL l w ((g + j : Nat) : Int)).apps) : i = j := by
  have e1 := tokS_set hw (t := ((g + i : Nat) : Int)) (by omega)
  have e2 := tokS_set hw (t := ((g + j : Nat) : Int)) (by omega)
  have hs : ∀ k : Nat, (tokL l w (k : Int)).apps = l.apps.set w { l.apps[w] with token := (k : Int) } := fun k => by rw [tokL, nth_get hw]
  rw [hs, hs] at he
  unfold drawL at he
  rw [List.length_set, List.length_set] at he
  have hnd : (idsI l.apps.length).Nodup := by
    rw [idsI, List.nodup_iff_pairwise_ne, List.pairwise_map]
    exact (List.nodup_iff_pairwise_ne.1 List.nodup_range).imp fun {a b} h (e : Int.ofNat a = Int.ofNat b) => h (Int.ofNat.inj e)
  have h := drawG_inj _ _ _ _ hnd (idsI_len _) he
  rw [Int.toNat_natCast] at e1 e2
  obtain ⟨A, hA⟩ : ∃ A : Nat, tokS l.apps + g = l.apps[w].token.toNat + A := ⟨tokS l.apps - l.apps[w].token.toNat + g, by have e0 := tokS_set hw (t := 0) (by omega); rw [show (0 : Int).toNat = 0 from rfl] at e0; omega⟩
  have f1 : tokS (l.apps.set w { l.apps[w] with token := ((g + i : Nat) : Int) }) = A + i := by omega
  have f2 : tokS (l.apps.set w { l.apps[w] with token := ((g + j : Nat) : Int) }) = A + j := by omega
  rw [f1, f2] at h
  exact tok_ne hi hj h
theorem tokL_self {l : Lett} {w : Nat} (hw : w < l.apps.length) : tokL l w (nth l.apps w).token = l := by
  rw [tokL, nth_get hw, show ({ l.apps[w] with token := l.apps[w].token } : App) = l.apps[w] from rfl, List.set_getElem_self]
def metD (l : Lett) (w g k : Nat) : List (List Int) := (List.range k).map fun i => drawL (tokL l w ((g + i : Nat) : Int)).apps
theorem metD_len {l : Lett} {w g k : Nat} : (metD l w g k).length = k := by simp [metD]
theorem metD_succ {l : Lett} {w g k : Nat} : metD l w g (k + 1) = metD l w g k ++ [drawL (tokL l w ((g + k : Nat) : Int)).apps] := by simp [metD, List.range_succ]
theorem metD_get {l : Lett} {w g k i : Nat} (h : i < (metD l w g k).length) : (metD l w g k)[i] = drawL (tokL l w ((g + i : Nat) : Int)).apps := by simp [metD]
theorem facN_le : ∀ {n : Nat}, n ≤ 4 → facN n ≤ 24
  | 0, _ => by decide
  | 1, _ => by decide
  | 2, _ => by decide
  | 3, _ => by decide
  | 4, _ => by decide
  | n + 5, h => by omega
set_option maxHeartbeats 4000000 in
theorem Draw_own (l : Lett) (hv : ValidL l) : ACalls Try.prog 15 [letV l] [] (fun r o => r = .tup [.own 20000 0 (drawL l.apps).length, I 0] ∧ o = [(20000, .row true 3 1 ((drawL l.apps).map I))]) := by
 have F := Fx.nil
 refine ent Try.func15 Try.ntmps15 Try.results15 ?_
 have hck : checkL l = 0 := checkL_zero.2 hv
 replace F := F.add hck
 refine rK [1] ?_
 refine W.seqk fun K1 hK1 => ?_
 refine W.seqR ?_
 refine oN 1 ?_
 refine oC [] ?_
 refine ct (Check_ok _) ?_
 refine oN 1 ?_
 refine oK [1, 4] ?_
 refine rK [1, 4, 8] ?_
 refine cF ?_
 refine W.skip ?_
 refine hK1 _ ?_
 clear hK1 K1
 refine W.seqR ?_
 refine oN 1 ?_
 refine oC [] ?_
 refine ct (draw_ok l hv) ?_
 refine oN 2 ?_
 refine oK [2, 3] ?_
 refine W.ret ?_
 exact er0 false [] [(20000, 88)]
set_option maxHeartbeats 4000000 in
theorem StallDrawn_ok (nums : List Int) : ACalls Try.prog 3 [ints nums] [] (fun r o => r = B true ∧ o = []) := by
 have F := Fx.nil
 refine ent Try.func3 Try.ntmps3 Try.results3 ?_
 refine rK [0] ?_
 refine W.seqR ?_
 refine oN 1 ?_
 refine oC [] ?_
 refine ct (DieOf_ok _) ?_
 refine oN 1 ?_
 refine oK [3] ?_
 refine W.seqR ?_
 refine oN 1 ?_
 refine oC [(10000, 152)] ?_
 refine CallT.mkE (LettingOf_ok _ 3 4 (by omega) (by omega) (by omega)) (fun z21 hz21 => ⟨(by simp), ?_⟩)
 obtain ⟨l, fd⟩ := z21
 have qmade : MadeL l 3 4 := hz21
 have hv : ValidL l := qmade.ok
 have h4 : l.apps.length ≤ 4 := qmade.ap
 have hs8 := hv.s8
 have hfl := facN_le h4
 replace F := F.add hv |>.add h4 |>.add hs8 |>.add hfl
 refine WOps.norm (by simp [hv, h4, hs8, hfl]; rfl) ?_
 refine oN 2 ?_
 refine oK [3, 4] ?_
 refine rK [3, 4, 5] ?_
 refine W.seqk fun K1 hK1 => ?_
 refine rK [3, 4, 5, 26] ?_
 refine it (fun hc1 => ?_) (fun hc1 => ?_)
 ·
  try simp at hc1
  replace F := F.add hc1
  have hdn : drawL ([] : List App) = [] := rfl
  have qn0 : l.apps = [] := by first | assumption | exact List.length_eq_zero_iff.1 (by omega)
  have qv0 : ValidL ⟨l.stalls, []⟩ := by
    have e : l = ⟨l.stalls, []⟩ := by cases l; simp only [Lett.mk.injEq, true_and]; exact qn0
    rw [← e]; exact hv
  replace F := F.add hdn
  refine W.seqR ?_
  refine fz 168 ?_
  refine fz 169 ?_
  refine oN 1 ?_
  refine oC [] ?_
  refine ct (Draw_ok ⟨l.stalls, []⟩ qv0) ?_
  refine oN 5 ?_
  refine oK [6, 7] ?_
  refine W.seqR ?_
  refine oN 3 ?_
  refine gT ?_
  refine gT ?_
  refine gT ?_
  refine oN 2 ?_
  refine gC [] ?_
  refine ct (awake_ok) ?_
  refine oN 2 ?_
  refine oK [2] ?_
  refine W.ret ?_
  refine tr ?_
  clear hK1 K1
  exact er0 false [] []
 ·
  try simp at hc1
  replace F := F.add hc1
  refine W.skip ?_
  refine hK1 _ ?_
  clear hK1 K1
  have hn1 : 0 < l.apps.length := by first | omega | exact List.length_pos_iff.2 (by assumption)
  replace F := F.add hn1
  refine rK [3, 4, 5, 8] ?_
  refine W.seqk fun K2 hK2 => ?_
  refine rK [3, 4, 5, 8, 9] ?_
  refine W.block ?_
  refine lp (α := Nat) [3, 4, 5] [] [] (fun i => [(9, I i), (8, I (facN (i - 1)))]) (fun i => []) (fun i => 2 ≤ i ∧ i ≤ l.apps.length + 1) (fun i => l.apps.length + 1 - i) 2 ?_ ?_ v0 ?_
  ·
   try (simp [Fx.get F])
   all_goals (
    rfl
   )
  ·
   exact v1
  ·
   intro i hI0
   simp only [List.cons_append, List.nil_append]
   try dsimp only at hI0
   obtain ⟨hi2, hin⟩ := hI0
   replace F := F.add hi2 |>.add hin
   refine W.seqk fun K3 hK3 => ?_
   refine rK [3, 4, 5, 8, 9, 44] ?_
   refine it (fun hc2 => ?_) (fun hc2 => ?_)
   ·
    try simp at hc2
    replace F := F.add hc2
    refine W.skip ?_
    refine hK3 _ ?_
    clear hK3 K3
    refine W.seqk fun K4 hK4 => ?_
    refine W.block ?_
    have hf8 : facN (i - 1) ≤ 24 := facN_le (by omega)
    have hfm : (facN (i - 1) : Int) * (i : Int) = (facN i : Nat) := by
      obtain ⟨j, rfl⟩ : ∃ j, i = j + 1 := ⟨i - 1, by omega⟩
      rw [facN, Nat.add_sub_cancel]; push_cast; rw [Int.mul_comm]
    have hf9 : facN i ≤ 24 := facN_le (by omega)
    replace F := F.add hf8 |>.add hfm |>.add hf9
    refine rEw ?_
    refine hK4 _ ?_
    clear hK4 K4
    refine rEw ?_
    refine ⟨i + 1, lf0, v0, v0⟩
   ·
    try simp at hc2
    replace F := F.add hc2
    refine W.exit ?_
    refine hK2 _ ?_
    clear hK3 K3 hK2 K2
    have hie : i = l.apps.length + 1 := by omega
    have hfe : facN (l.apps.length + 1 - 1) = facN l.apps.length := by rw [Nat.add_sub_cancel]
    obtain ⟨w, qw⟩ : ∃ w : Nat, castV fd (l.apps.length : Int) = (w : Int) := ⟨(castV fd (l.apps.length : Int)).toNat, by have := castV_lo fd (l.apps.length : Int); omega⟩
    have hw := qw
    have hwl : w < l.apps.length := by have := castV_hi fd (l.apps.length : Int) (by omega); omega
    have hwr : IntKind.i64.wrap (1000000000 - (facN l.apps.length : Int)) = 1000000000 - (facN l.apps.length : Int) := wrap_i64 (by omega) (by omega)
    obtain ⟨fe, qfe⟩ : ∃ fe, castF fd (l.apps.length : Int) = fe := ⟨_, rfl⟩
    have hfe2 := qfe
    obtain ⟨g, qg⟩ : ∃ g : Nat, castV fe (1000000000 - (facN l.apps.length : Int)) = (g : Int) := ⟨(castV fe (1000000000 - (facN l.apps.length : Int))).toNat, by have := castV_lo fe (1000000000 - (facN l.apps.length : Int)); omega⟩
    have hg := qg
    have hgl : (g : Int) < 1000000000 - (facN l.apps.length : Int) := by have := castV_hi fe (1000000000 - (facN l.apps.length : Int)) (by omega); omega
    have hself := tokL_self hwl
    replace F := F.add hie |>.add hfe |>.add hw |>.add hwl |>.add hwr |>.add hfe2 |>.add hg |>.add hgl |>.add hself
    refine W.seqR ?_
    refine oN 2 ?_
    refine oC [(10000, 152)] ?_
    refine ct (Cast_ok _ _ (by omega)) ?_
    refine oN 3 ?_
    refine oC [(10000, 152)] ?_
    refine ct (Cast_ok _ _ (by omega)) ?_
    refine oN 2 ?_
    refine oK [4, 5, 8, 10, 11] ?_
    refine rK [4, 5, 8, 10, 11, 12] ?_
    refine W.seqk fun K5 hK5 => ?_
    refine rK [4, 5, 8, 10, 11, 12, 13] ?_
    refine W.block ?_
    refine sn 12 9000 22 1 ?_
    refine lp (α := Nat × Int) [4, 5, 8, 10, 11] [72, 79, 90, 94, 103, 106, 107] [169, 9000] (fun x => [(13, I x.1), (12, .own 9000 0 (metD l w g x.1).length)]) (fun x => [(169, .row true 37 4 ((tokL l w x.2).apps.map A4)), (9000, .row true 22 1 ((metD l w g x.1).map ints))]) (fun x => x.1 ≤ facN l.apps.length) (fun x => facN l.apps.length - x.1) (0, (nth l.apps w).token) ?_ ?_ v0 ?_
    ·
     try (simp [Fx.get F])
     all_goals (
      simp [metD]
     )
    ·
     try (simp [Fx.get F])
     all_goals (
      simp [metD]
     )
    ·
     intro ⟨k, t⟩ hI1
     simp only [List.cons_append, List.nil_append]
     try dsimp only at hI1
     replace F := F.add hI1
     refine W.seqk fun K6 hK6 => ?_
     refine rK [4, 5, 8, 10, 11, 12, 13, 59] ?_
     refine it (fun hc3 => ?_) (fun hc3 => ?_)
     ·
      try simp at hc3
      replace F := F.add hc3
      refine W.skip ?_
      refine hK6 _ ?_
      clear hK6 K6
      refine W.seqk fun K7 hK7 => ?_
      refine W.block ?_
      have hkf : k < facN l.apps.length := by omega
      have htl : (tokL l w t).apps.length = l.apps.length := tokL_len
      have hwt : w < (tokL l w t).apps.length := by omega
      obtain ⟨tk, qtk⟩ : ∃ tk : Int, tk = ((g + k : Nat) : Int) := ⟨_, rfl⟩
      have hgk : IntKind.i64.wrap ((g : Int) + (k : Int)) = tk := by rw [qtk]; have := wrap_i64 (n := (g : Int) + (k : Int)) (by omega) (by omega); rw [this]; push_cast; rfl
      have hv2 : ValidL (tokL l w tk) := tokL_valid hv hwl (by omega) (by omega)
      have htl2 : (tokL l w tk).apps.length = l.apps.length := tokL_len
      have hml := metD_len (l := l) (w := w) (g := g) (k := k)
      have hset : ((tokL l w t).apps.map A4).set w (.agg [I (tokL l w t).apps[w].years, I tk, ints (tokL l w t).apps[w].wishes, ints (tokL l w t).apps[w].bids]) = (tokL l w tk).apps.map A4 := by
        have e : (tokL l w t).apps[w] = { nth l.apps w with token := t } := by simp [tokL]
        rw [e]
        simp only [tokL, List.map_set, List.set_set]
        rfl
      have htk : ((tokL l w tk).apps.map A4).take l.apps.length = (tokL l w tk).apps.map A4 := List.take_of_length_le (by rw [List.length_map, tokL_len]; exact Nat.le_refl _)
      have hdl := drawL_len (tokL l w tk).apps
      have htd : (drawL (tokL l w tk).apps).take l.apps.length = drawL (tokL l w tk).apps := List.take_of_length_le (by omega)
      replace F := F.add hkf |>.add htl |>.add hwt |>.add hgk |>.add hv2 |>.add htl2 |>.add hml |>.add hset |>.add htk |>.add hdl |>.add htd
      refine rK [4, 5, 8, 10, 11, 12, 13] ?_
      refine W.seqR ?_
      refine oN 1 ?_
      refine oC [] ?_
      refine ct (Draw_own (tokL l w tk) hv2) ?_
      refine oN 5 ?_
      refine oK [4, 5, 8, 10, 11, 12, 13, 14, 15] ?_
      refine W.seqk fun K8 hK8 => ?_
      refine W.seqR ?_
      refine fz 576 ?_
      refine oN 3 ?_
      refine gT ?_
      refine gT ?_
      refine gT ?_
      refine gT ?_
      refine oN 1 ?_
      refine oK [4, 5, 8, 10, 11, 12, 13, 14, 82] ?_
      refine cF ?_
      refine W.skip ?_
      refine hK8 _ ?_
      clear hK8 K8
      refine W.seqk fun K9 hK9 => ?_
      refine rK [4, 5, 8, 10, 11, 12, 13, 14, 16] ?_
      refine W.block ?_
      refine lpa (α := Nat) [4, 5, 8, 10, 11, 12, 13, 14] [90] [] (fun j => [(16, I j)]) (fun j => []) (fun j => j ≤ l.apps.length) (fun j => l.apps.length - j) 0 v0 ?_
      ·
       intro j hI2
       simp only [List.cons_append, List.nil_append]
       try dsimp only at hI2
       replace F := F.add hI2
       refine W.seqk fun K10 hK10 => ?_
       refine rK [4, 5, 8, 10, 11, 12, 13, 14, 16, 85] ?_
       refine it (fun hc5 => ?_) (fun hc5 => ?_)
       ·
        try simp at hc5
        replace F := F.add hc5
        refine W.skip ?_
        refine hK10 _ ?_
        clear hK10 K10
        refine W.seqk fun K11 hK11 => ?_
        refine W.block ?_
        have hjl : j < l.apps.length := by omega
        have hjm : ((j : Nat) : Int) ∈ drawL (tokL l w tk).apps := mem_drawL.2 (by rw [tokL_len]; omega)
        replace F := F.add hjl |>.add hjm
        refine W.seqR ?_
        refine oN 2 ?_
        refine oC [] ?_
        refine ct (Has_ok _ _) ?_
        refine oN 1 ?_
        refine oK [4, 5, 8, 10, 11, 12, 13, 14, 16, 91] ?_
        refine cF ?_
        refine W.skip ?_
        refine hK11 _ ?_
        clear hK11 K11
        refine rEw ?_
        refine ⟨j + 1, lf0, v0, v0⟩
       ·
        try simp at hc5
        replace F := F.add hc5
        refine W.exit ?_
        refine hK9 _ ?_
        clear hK10 K10 hK9 K9
        refine W.seqk fun K12 hK12 => ?_
        refine rK [4, 5, 8, 10, 11, 12, 13, 14, 17] ?_
        refine W.block ?_
        refine lpa (α := Nat) [4, 5, 8, 10, 11, 12, 13, 14] [94, 103] [] (fun j => [(17, I j)]) (fun j => []) (fun j => j ≤ k) (fun j => k - j) 0 v0 ?_
        ·
         intro j hI3
         simp only [List.cons_append, List.nil_append]
         try dsimp only at hI3
         replace F := F.add hI3
         refine W.seqk fun K13 hK13 => ?_
         refine rK [4, 5, 8, 10, 11, 12, 13, 14, 17, 95] ?_
         refine it (fun hc7 => ?_) (fun hc7 => ?_)
         ·
          try simp at hc7
          replace F := F.add hc7
          refine W.skip ?_
          refine hK13 _ ?_
          clear hK13 K13
          refine W.seqk fun K14 hK14 => ?_
          refine W.block ?_
          have hjk : j < k := by omega
          have hne : ¬ (metD l w g k)[j]'(by omega) = drawL (tokL l w tk).apps := fun e => by
            rw [metD_get, qtk] at e
            have := tokL_draw hwl (by omega) hkf e
            omega
          replace F := F.add hjk |>.add hne
          refine W.seqR ?_
          refine oN 5 ?_
          refine oC [] ?_
          refine ct (SameInts_ok _ _) ?_
          refine oK [4, 5, 8, 10, 11, 12, 13, 14, 17, 103] ?_
          refine cF ?_
          refine W.skip ?_
          refine hK14 _ ?_
          clear hK14 K14
          refine rEw ?_
          refine ⟨j + 1, lf0, v0, v0⟩
         ·
          try simp at hc7
          replace F := F.add hc7
          refine W.exit ?_
          refine hK12 _ ?_
          clear hK13 K13 hK12 K12
          refine rEw ?_
          refine hK7 _ ?_
          clear hK7 K7
          refine rEw ?_
          refine ⟨(k + 1, tk), lf ?_ ?_, v0, v0⟩
          ·
           try (simp [Fx.get F])
           all_goals (
            rw [metD_len]
           )
          ·
           try (simp [Fx.get F])
           all_goals (
            rw [metD_succ, List.map_append, qtk]; rfl
           )
     ·
      try simp at hc3
      replace F := F.add hc3
      refine W.exit ?_
      refine hK5 _ ?_
      clear hK6 K6 hK5 K5
      refine W.seqR ?_
      refine oC [] ?_
      refine ct (awake_ok) ?_
      refine oN 1 ?_
      refine oK [2] ?_
      refine W.ret ?_
      exact er0 false [] []
end Go.Sim
