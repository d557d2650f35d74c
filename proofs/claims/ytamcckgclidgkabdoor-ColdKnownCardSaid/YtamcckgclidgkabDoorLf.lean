/- What a lot may have lost, hour by hour; until when it is fresh. -/
import Derived.Test.YtamcckgclidgkabDoorLe
import Derived.Test.YtamcckgclidgkabDoorQf
namespace Go.Sim
open Go.Proofs
set_option maxRecDepth 100000
set_option linter.unusedSimpArgs false
set_option linter.unusedVariables false
attribute [-simp] List.map_set List.map_take List.map_drop
theorem stE_map {c : Cel} {n : Nat} {g : Value × AV → Value × AV} (h : ∀ (k : Value) (l : List AV), g (k, .imm l) = (k, .imm l)) : (stE c n).map g = stE c n := by
  unfold stE
  rw [List.map_map]
  exact List.map_congr_left fun b _ => h _ _
theorem stE_kill {c : Cel} {n id : Nat} : (stE c n).map (fun y => (y.1, AV.mapTop (AV.kill id) y.2)) = stE c n := stE_map fun _ _ => rfl
theorem stE_frz {c : Cel} {n id : Nat} {els : List AV} : (stE c n).map (fun y => (y.1, AV.mapTop (AV.frz id els) y.2)) = stE c n := stE_map fun _ _ => rfl
theorem stE_ren {c : Cel} {n : Nat} {ρ : Nat → Nat} : (stE c n).map (fun y => (y.1, AV.ren ρ y.2)) = stE c n := stE_map fun _ _ => rfl
theorem stE_all {c : Cel} {n : Nat} {p : Value × AV → Bool} (h : ∀ (k : Value) (l : List Int), p (k, ints l) = true) : (stE c n).all p = true := by
  rw [List.all_eq_true]
  intro x hx
  obtain ⟨b, _, rfl⟩ := List.mem_map.1 hx
  exact h _ _
theorem stE_named {c : Cel} {n : Nat} {l : List Nat} : (stE c n).all (fun x => AV.named l x.2) = true := stE_all fun _ _ => rfl
theorem stE_isData {c : Cel} {n : Nat} : (stE c n).all (fun x => AV.isData x.2) = true := stE_all fun _ _ => rfl
theorem stE_men {c : Cel} {n id : Nat} : AV.menL id ((stE c n).map (fun y => y.2)) = false := by
  unfold stE
  rw [List.map_map]
  refine AV.menL_of_isDataL id _ ?_
  induction List.range n with
  | nil => rfl
  | cons b L ih => simpa [AV.isDataL, AV.isData] using ih
theorem mapTop_val {f : AV → AV} {v : Value} : AV.mapTop f (.val v) = f (.val v) := rfl
theorem mapTop_imm {f : AV → AV} {l : List AV} : AV.mapTop f (.imm l) = f (.imm l) := rfl
theorem mapTop_own {f : AV → AV} {i o n : Nat} : AV.mapTop f (.own i o n) = f (.own i o n) := rfl
theorem mapTop_ptr {f : AV → AV} {i o n : Nat} : AV.mapTop f (.ptr i o n) = f (.ptr i o n) := rfl
theorem mapTop_map {f : AV → AV} {i : Nat} : AV.mapTop f (.map i) = f (.map i) := rfl
theorem mapTop_clo {f : AV → AV} {g : FuncId} {l : List AV} : AV.mapTop f (.clo g l) = f (.clo g l) := rfl
theorem mapTop_agg {f : AV → AV} {l : List AV} : AV.mapTop f (.agg l) = .agg (l.map f) := rfl
theorem mapTop_tup {f : AV → AV} {l : List AV} : AV.mapTop f (.tup l) = .tup (l.map f) := rfl
theorem mapTop_dead {f : AV → AV} : AV.mapTop f .dead = f .dead := rfl
theorem mapTop_iptr {f : AV → AV} {l : List AV} : AV.mapTop f (.iptr l) = f (.iptr l) := rfl
attribute [-simp] AV.mapTop
attribute [local simp] mapTop_val mapTop_imm mapTop_own mapTop_ptr mapTop_map mapTop_clo mapTop_agg mapTop_tup mapTop_dead mapTop_iptr
attribute [local simp] stE_kill stE_frz stE_ren stE_named stE_isData stE_men
def curE (i k : Nat) : List (Value × AV) := if k = 0 then [] else [((.int .i64 (i : Int) : Value), .own 15000 0 k)]
def lostL (c : Cel) (l : CLot) : List Spn := (List.range (241 - l.born.toNat)).map (lostS c l)
set_option maxHeartbeats 4000000 in
theorem lost_ok (c : Cel) (hv : ValidC c) (l : CLot) (hl : LotOk c.boxes.length l) : ACalls Tryd.prog 26 [celV c, lotV l] [] (fun r o => r = .imm ((lostL c l).map spnV) ∧ o = []) := by
 refine ACalls.lenA (xs := [I c.hall.lo, I c.hall.hi, boxesV c.boxes, filsV c.fils, ratsV c.rats]) (l := c.boxes.map B9) (by simp) (by simp) ⟨_, Tryd.func26, by kernel_rfl, by kernel_rfl⟩ fun hl1 => ?_
 simp [maxLen_val] at hl1
 have F := Fx.nil
 refine ent (M := outMode) Tryd.func26 Tryd.ntmps26 Tryd.results26 ?_
 have hb6 := hv.b6
 have qrt : RatsOk c.rats := hv.rats
 obtain ⟨bn, qbn⟩ : ∃ bn : Nat, l.born = (bn : Int) := ⟨l.born.toNat, by have := hl.born; omega⟩
 have hbnk := hl.keeps
 have hbn9 : bn ≤ 239 := by have := hl.born; omega
 have qL : l.born.toNat = bn := by omega
 replace F := F.add hb6 |>.add hbnk |>.add hbn9
 refine rK (M := outMode) [2, 3, 4, 8, 23] ?_
 refine rK (M := outMode) [2, 3, 4, 5, 8, 23] ?_
 refine W.seqk (M := outMode) fun K1 hK1 => ?_
 refine rK (M := outMode) [2, 3, 4, 5, 8, 15, 16, 23] ?_
 refine W.block (M := outMode) ?_
 refine lp (M := outMode) (α := Nat) [2, 3, 4, 5, 15, 23] [6, 8, 21, 30, 31, 32] [96] (fun i => [(16, I i)]) (fun i => [(96, .mp true shI (stE c i))]) (fun i => i ≤ c.boxes.length) (fun i => c.boxes.length - i) 0 ?_ ?_ v0 ?_
 ·
  exact v1
 ·
  try (simp [Fx.get F])
  all_goals (
   first | rfl | exact ⟨rfl, rfl⟩
  )
 ·
  intro i hI0
  simp only [List.cons_append, List.nil_append]
  try dsimp only at hI0
  replace F := F.add hI0
  refine rK (M := outMode) [2, 3, 4, 5, 8, 15, 16, 17, 23] ?_
  refine W.seqk (M := outMode) fun K2 hK2 => ?_
  refine it (M := outMode) (fun hc1 => ?_) (fun hc1 => ?_)
  ·
   try simp at hc1
   replace F := F.add hc1
   refine W.skip (M := outMode) ?_
   refine hK2 _ ?_
   clear hK2 K2
   refine W.seqk (M := outMode) fun K3 hK3 => ?_
   refine W.block (M := outMode) ?_
   have hil : i < c.boxes.length := by omega
   have hw1 : (Lit.int .i64 (i : Int)).wf = true := wfI (by omega) (by omega)
   have hci : (colds c i).length = 240 := colds_len
   have hci2 : (colds c i).take 240 = colds c i := List.take_of_length_le (by rw [hci]; omega)
   have hle : (stE c i).length = i := stE_len c i
   have hcur0 : curE i 0 = [] := rfl
   have hcur240 : curE i 240 = [((.int .i64 (i : Int) : Value), .own 15000 0 240)] := rfl
   have hgn : getM (.int .i64 (i : Int)) (stE c i) = none := by rw [getM_stE, if_neg (Nat.lt_irrefl _)]
   replace F := F.add hil |>.add hw1 |>.add hci |>.add hci2 |>.add hle |>.add hcur0 |>.add hcur240 |>.add hgn
   refine rK (M := outMode) [2, 3, 4, 5, 6, 8, 15, 16, 23] ?_
   refine W.weaken (M := outMode) (Le.phantom (id := 9000) 3 1 rfl) ?_
   refine W.norm (M := outMode) (by simp; rfl) ?_
   refine W.weaken (M := outMode) (Le.loose (id := 96) (by simp; rfl)) ?_
   refine W.seqR (M := outMode) ?_
   refine oN 2 ?_
   refine oC [] ?_
   refine ct (hours_ok c i) ?_
   refine oK (M := outMode) [2, 3, 4, 5, 6, 8, 15, 16, 21, 23] ?_
   refine W.block (M := outMode) ?_
   refine W.rangeS (by simp [hb6, hbnk, hbn9, hI0, hc1, hil, hw1, hci, hci2, hle, hcur0, hcur240, hgn]; all_goals first | rfl | exact ⟨rfl, rfl⟩ | exact ⟨rfl, rfl, rfl⟩) [(10000, 168), (10001, 169)] [(10002, 16), (10003, 24), (10004, 40), (10005, 48), (10006, 96), (15000, 9000)] rfl rfl rfl (by simp [hb6, hbnk, hbn9, hI0, hc1, hil, hw1, hci, hci2, hle, hcur0, hcur240, hgn]; all_goals first | rfl | exact ⟨rfl, rfl⟩ | exact ⟨rfl, rfl, rfl⟩) rfl (by simp [hb6, hbnk, hbn9, hI0, hc1, hil, hw1, hci, hci2, hle, hcur0, hcur240, hgn]; all_goals first | rfl | exact ⟨rfl, rfl⟩ | exact ⟨rfl, rfl, rfl⟩) (by simp [hb6, hbnk, hbn9, hI0, hc1, hil, hw1, hci, hci2, hle, hcur0, hcur240, hgn]; all_goals first | rfl | exact ⟨rfl, rfl⟩ | exact ⟨rfl, rfl, rfl⟩) (by simp [hb6, hbnk, hbn9, hI0, hc1, hil, hw1, hci, hci2, hle, hcur0, hcur240, hgn]; all_goals first | rfl | exact ⟨rfl, rfl⟩ | exact ⟨rfl, rfl, rfl⟩) (fun k => [(10002, .row false 28 5 [celV c]), (10003, .row false 48 3 [lotV l]), (10004, .row false 90 1 [.map 10006]), (10005, .row false 3 1 [I i]), (10006, .mp false shI (stE c i ++ curE i k)), (15000, .row true 3 1 (((colds c i).take k).map I))]) (by simp [hb6, hbnk, hbn9, hI0, hc1, hil, hw1, hci, hci2, hle, hcur0, hcur240, hgn]; all_goals first | rfl | exact ⟨rfl, rfl⟩ | exact ⟨rfl, rfl, rfl⟩) [2, 3, 5, 6, 15, 16] (by simp [hb6, hbnk, hbn9, hI0, hc1, hil, hw1, hci, hci2, hle, hcur0, hcur240, hgn]; all_goals first | rfl | exact ⟨rfl, rfl⟩ | exact ⟨rfl, rfl, rfl⟩) (by simp [hb6, hbnk, hbn9, hI0, hc1, hil, hw1, hci, hci2, hle, hcur0, hcur240, hgn]; all_goals first | rfl | exact ⟨rfl, rfl⟩ | exact ⟨rfl, rfl, rfl⟩) (by rfl) (List.range 240) (fun k : Nat => [I k, .agg [I (iceLo c i k), I (iceHi c i k)]]) (fun _ => rfl) (fun _ => false) .ret rfl (fun _ (_ : Unit) => True) (fun _ _ => []) ?_ (fun lp J hy => by have := hours1_ok c hv.iceC i hil lp J (fun _ => false) (fun k hk => by have := hy k (by simpa using hk); simpa using this); simpa using this) 1000 (by decide) ?_ ?_
   ·
    intro k hk hbef
    replace F := F.add hk
    refine W.norm (M := anyMode) (by simp [hb6, hbnk, hbn9, hI0, hc1, hil, hw1, hci, hci2, hle, hcur0, hcur240, hgn, hk]; rfl) ?_
    by_cases hk0 : (k == 0) = true
    ·
     replace F := F.add hk0
     have qk : k = 0 := by simpa using hk0
     have hcur : curE i k = [] := by rw [curE, if_pos qk]
     have hcur1 : curE i (k + 1) = [((.int .i64 (i : Int) : Value), .own 15000 0 (k + 1))] := by rw [curE, if_neg (by omega)]
     have htk : (colds c i).take k = [] := by rw [qk]; rfl
     have hset : ∀ v, setM (.int .i64 (i : Int)) v (stE c i) = stE c i ++ [((.int .i64 (i : Int) : Value), v)] := fun v => by have := setM_app (r := []) (v := v) hgn; simpa [setM] using this
     replace F := F.add hcur |>.add hcur1 |>.add htk |>.add hset
     refine rE (M := anyMode) ?_
     refine ⟨rfl, ?_⟩
     refine W.block (M := anyMode) ?_
     refine wDe (M := anyMode) 9 [] [[], [], [], [], [3, 2], [], [5], [5, 6], [6, 5, 7, 2, 3, 4], [4, 3, 2, 7, 5, 6, 8, 1, 0]] ?_
     refine dB [([25, 26, 27, 28, 29, 30, 31, 32], [], []), ([24, 26, 27, 28, 29, 30, 31, 32], [false], []), ([24, 25, 27, 29, 30, 31], [false, false], []), ([24, 25, 26, 29, 30, 31], [false, false, false], []), ([24, 25, 29, 30, 31], [false, false, true, true], []), ([24, 25, 26, 27, 28], [false, false, false, false, false], [])] 3 6 ?_
     refine dC [24, 25, 26, 27, 28] [false, false, false, false, false, true] [] [] ?_
     refine cd (cold_ok ⟨iceLo c i k, iceHi c i k⟩) ?_
     refine dB [([24, 25, 26, 27, 28], [false, false, false, false, false, true, true], [])] 1 8 ?_
     refine dAw [24, 25] [false, false, true, true, true, true, true, true] [] [] ?_
     refine dD ?_
     refine WOps.le (Le.exch (x := 256) (y := 15000) (by simp [hb6, hbnk, hbn9, hI0, hc1, hil, hw1, hci, hci2, hle, hcur0, hcur240, hgn, hk, hk0, hcur, hcur1, htk, hset]; rfl)) rfl rfl ?_
     refine oNw 1 ?_
     refine WOps.endK ?_
     refine blockQ_n ?_
     refine RoundV.go ?_ (Le.fit (by simp [hb6, hbnk, hbn9, hI0, hc1, hil, hw1, hci, hci2, hle, hcur0, hcur240, hgn, hk, hk0, hcur, hcur1, htk, hset]; rfl) (by rfl) (by rfl) (by rfl) (by trivial) ?_)
     ·
      exact v0
     ·
      try (simp [Fx.get F])
      all_goals (
       have hts : (colds c i).take (k + 1) = (colds c i).take k ++ [coldV (iceS c i k)] := by
         have h2 : k < (colds c i).length := by rw [hci]; simpa using hk
         rw [List.take_succ_eq_append_getElem h2, colds_get]
       first
         | exact ⟨qk, by rw [hts, htk]; rfl⟩
         | (rw [hts]; simp [iceS]; done)
         | (simp [hts, iceS]; done)
      )
    ·
     replace F := F.add hk0
     have qk : ¬ k = 0 := by simpa using hk0
     have hk24 : k < 240 := by simpa using hk
     have hcur : curE i k = [((.int .i64 (i : Int) : Value), .own 15000 0 k)] := by rw [curE, if_neg qk]
     have hcur1 : curE i (k + 1) = [((.int .i64 (i : Int) : Value), .own 15000 0 (k + 1))] := by rw [curE, if_neg (by omega)]
     have hmk : min k 240 = k := by omega
     have hgs : ∀ v, getM (.int .i64 (i : Int)) (stE c i ++ [((.int .i64 (i : Int) : Value), v)]) = some v := fun v => by rw [getM_app, hgn]; simp [getM, sameKey_int]
     have hset : ∀ v u, setM (.int .i64 (i : Int)) v (stE c i ++ [((.int .i64 (i : Int) : Value), u)]) = stE c i ++ [((.int .i64 (i : Int) : Value), v)] := fun v u => by rw [setM_app hgn]; simp [setM, sameKey_int]
     replace F := F.add hk24 |>.add hcur |>.add hcur1 |>.add hmk |>.add hgs |>.add hset
     refine rE (M := anyMode) ?_
     refine ⟨rfl, ?_⟩
     refine W.block (M := anyMode) ?_
     refine wDe (M := anyMode) 9 [(8, [15000])] [[], [], [], [], [3, 2], [], [5], [5, 6], [6, 5, 7, 2, 3, 4], [4, 3, 2, 7, 5, 6, 8, 1, 0]] ?_
     refine dB [([25, 26, 27, 28, 29, 30, 31, 32], [], [15000]), ([24, 26, 27, 28, 29, 30, 31, 32], [false], [15000]), ([24, 25, 27, 29, 30, 31], [false, false], []), ([24, 25, 26, 29, 30, 31], [false, false, false], []), ([24, 25, 29, 30, 31], [false, false, true, true], []), ([24, 25, 26, 27, 28], [false, false, false, false, false], [])] 3 6 ?_
     refine dC [24, 25, 26, 27, 28] [false, false, false, false, false, true] [] [] ?_
     refine cd (cold_ok ⟨iceLo c i k, iceHi c i k⟩) ?_
     refine dB [([24, 25, 26, 27, 28], [false, false, false, false, false, true, true], [])] 1 8 ?_
     refine dAw [24, 25] [false, false, true, true, true, true, true, true] [] [15000] ?_
     refine dD ?_
     refine WOps.le (Le.exch (x := 256) (y := 15000) (by simp [hb6, hbnk, hbn9, hI0, hc1, hil, hw1, hci, hci2, hle, hcur0, hcur240, hgn, hk, hk0, hk24, hcur, hcur1, hmk, hgs, hset]; rfl)) rfl rfl ?_
     refine oNw 1 ?_
     refine WOps.endK ?_
     refine blockQ_n ?_
     refine RoundV.go ?_ (Le.fit (by simp [hb6, hbnk, hbn9, hI0, hc1, hil, hw1, hci, hci2, hle, hcur0, hcur240, hgn, hk, hk0, hk24, hcur, hcur1, hmk, hgs, hset]; rfl) (by rfl) (by rfl) (by rfl) (by trivial) ?_)
     ·
      exact v0
     ·
      try (simp [Fx.get F])
      all_goals (
       have hts : (colds c i).take (k + 1) = (colds c i).take k ++ [coldV (iceS c i k)] := by
         have h2 : k < (colds c i).length := by rw [hci]; simpa using hk
         rw [List.take_succ_eq_append_getElem h2, colds_get]
       first
         | exact ⟨qk, by rw [hts, htk]; rfl⟩
         | (rw [hts]; simp [iceS]; done)
         | (simp [hts, iceS]; done)
      )
   ·
    intro hbef
    refine ⟨(by simp [hb6, hbnk, hbn9, hI0, hc1, hil, hw1, hci, hci2, hle, hcur0, hcur240, hgn]; all_goals first | rfl | exact ⟨rfl, rfl⟩ | exact ⟨rfl, rfl, rfl⟩), ?_⟩
    refine Qnorm (by simp [hb6, hbnk, hbn9, hI0, hc1, hil, hw1, hci, hci2, hle, hcur0, hcur240, hgn]; rfl) ?_
    refine hK3 _ ?_
    clear hK3 K3
    refine W.region (M := outMode) ?_
    refine fz 9000 ?_
    refine WOps.le (Le.tight (id := 96) (by simp [hb6, hbnk, hbn9, hI0, hc1, hil, hw1, hci, hci2, hle, hcur0, hcur240, hgn]; rfl)) rfl rfl ?_
    refine oNw 2 ?_
    refine WOps.endK ?_
    refine ⟨i + 1, lf ?_ ?_, v0, v0⟩
    ·
     exact v1
    ·
     try (simp [Fx.get F])
     all_goals (
      first | (rw [stE_succ]; done) | (rw [List.range_succ (n := n + 1), List.map_append]; rfl)
     )
   ·
    intro k hk hstop
    simp at hstop
  ·
   try simp at hc1
   replace F := F.add hc1
   refine W.exit (M := outMode) ?_
   refine hK1 _ ?_
   clear hK2 K2 hK1 K1
   refine rK (M := outMode) [2, 3, 5, 9] ?_
   refine W.seqk (M := outMode) fun K4 hK4 => ?_
   refine rK (M := outMode) [2, 3, 5, 9, 10] ?_
   refine W.block (M := outMode) ?_
   have hie : i = c.boxes.length := by omega
   replace F := F.add hie
   refine lp (M := outMode) (α := Nat) [2, 3, 5] [11, 46, 51, 55, 57, 60, 64, 65, 66] [280] (fun n => [(10, I ((bn : Int) + n)), (9, .own 280 0 (n + 1))]) (fun n => [(280, .row true 23 2 (((List.range (n + 1)).map (lostS c l)).map spnV))]) (fun n => n ≤ 240 - bn) (fun n => 240 - n) 0 ?_ ?_ v0 ?_
   ·
    exact v1
   ·
    try (simp [Fx.get F])
    all_goals (
     first | rfl | exact ⟨rfl, rfl⟩
    )
   ·
    intro n hI2
    simp only [List.cons_append, List.nil_append]
    try dsimp only at hI2
    replace F := F.add hI2
    refine W.seqk (M := outMode) fun K5 hK5 => ?_
    refine rK (M := outMode) [2, 3, 5, 9, 10, 39] ?_
    refine it (M := outMode) (fun hc2 => ?_) (fun hc2 => ?_)
    ·
     try simp at hc2
     replace F := F.add hc2
     refine W.skip (M := outMode) ?_
     refine hK5 _ ?_
     clear hK5 K5
     refine W.seqk (M := outMode) fun K6 hK6 => ?_
     refine W.block (M := outMode) ?_
     have hn40 : n < 240 - bn := by omega
     obtain ⟨h, qh⟩ : ∃ h : Nat, h = bn + n := ⟨_, rfl⟩
     have hh : (bn : Int) + n = (h : Int) := by omega
     have hh40 : h < 240 := by omega
     have qlo := lossR_in hv.rt (airS c l h).lo
     have qhi := lossR_in hv.rt (airS c l h).hi
     have qls := lostS_in hv l n
     have hn9 : n < 240 := by omega
     have hnn : (n : Int) < (n : Int) + 1 := by omega
     have hln : ((List.range (n + 1)).map (lostS c l)).length = n + 1 := by simp
     have hlg : (((List.range (n + 1)).map (lostS c l)))[n]'(by rw [hln]; omega) = lostS c l n := by simp
     have hsum : sumS (lostS c l n) [⟨lossR c.rats (airS c l h).lo, lossR c.rats (airS c l h).hi⟩] = lostS c l (n + 1) := by
       have e : l.born + (n : Int) = (h : Int) := by omega
       show _ = (⟨(lostS c l n).lo + lossR c.rats (airS c l (l.born + n)).lo, (lostS c l n).hi + lossR c.rats (airS c l (l.born + n)).hi⟩ : Spn)
       rw [e]; rfl
     replace F := F.add hn40 |>.add hh |>.add hh40 |>.add hn9 |>.add hnn |>.add hln |>.add hlg |>.add hsum
     refine W.seqR (M := outMode) ?_
     refine oN 4 ?_
     refine oC [(10000, 96)] ?_
     refine ct (air_ok c l hl h hh40) ?_
     refine oN 2 ?_
     refine oK (M := outMode) [2, 3, 5, 9, 10, 11] ?_
     refine wDe (M := outMode) 19 [] [[], [], [], [2], [2, 3, 1], [], [], [6], [1, 3, 2, 4, 6, 7, 5], [5, 7, 6, 8, 1, 3, 2, 4], [4, 2, 3, 1, 8, 6, 7, 5, 9], [], [], [12], [12, 13], [13, 12, 14, 11], [11, 14, 12, 13, 15], [15, 13, 12, 14, 11, 16, 9, 5, 7, 6, 8, 1, 3, 2, 4, 10], [10, 4, 2, 3, 1, 8, 6, 7, 5, 9, 16, 11, 14, 12, 13, 15, 17], [17, 15, 13, 12, 14, 11, 16, 9, 5, 7, 6, 8, 1, 3, 2, 4, 10, 18, 0], [0, 18, 10, 4, 2, 3, 1, 8, 6, 7, 5, 9, 16, 11, 14, 12, 13, 15, 17, 19]] ?_
     refine dB [([48, 49, 50, 51, 52, 53, 54, 55, 56, 57, 58, 59, 60, 61, 62, 63, 64, 65], [], []), ([47, 49, 50, 52, 53, 54, 58, 59, 60, 61, 62, 63], [false], []), ([47, 48, 52, 53, 54, 58, 59, 60, 61, 62, 63], [false, false], []), ([47, 48, 52, 53, 54, 58, 59, 60, 61, 62, 63], [false, false, true], [])] 15 4 ?_
     refine dC [47, 52, 53, 54, 58, 59, 60, 61, 62, 63] [false, true, true, true] [] [] ?_
     refine cd (loss_ok ⟨⟨_, _⟩, _, _, _⟩ qrt _) ?_
     refine dB [([47, 48, 49, 50, 51, 53, 54, 58, 59, 60, 61, 62, 63], [false, false, false, false, false], []), ([47, 48, 49, 50, 51, 52, 58, 59, 60, 61, 62, 63], [false, false, false, false, false, false], []), ([47, 48, 49, 50, 51, 52, 58, 59, 60, 61, 62, 63], [false, false, false, false, false, false, true], [])] 11 8 ?_
     refine dC [47, 58, 59, 60, 61, 62, 63] [false, true, true, true, true, true, true, true] [] [] ?_
     refine cd (loss_ok ⟨⟨_, _⟩, _, _, _⟩ qrt _) ?_
     refine dBw [([47, 58, 59, 60, 61, 62, 63], [false, true, true, true, true, true, true, true, true], []), ([47, 58, 59, 60, 61, 62, 63], [false, true, true, true, true, true, true, true, true, true], []), ([47, 48, 49, 50, 51, 52, 53, 54, 55, 56, 57, 59, 60, 61], [false, false, false, false, false, false, false, false, false, false, false], []), ([47, 48, 49, 50, 51, 52, 53, 54, 55, 56, 57, 58], [false, false, false, false, false, false, false, false, false, false, false, false], []), ([47, 48, 49, 50, 51, 52, 53, 54, 55, 56, 57, 58], [false, false, false, false, false, false, false, false, false, false, false, false, true], []), ([47, 48, 49, 50, 51, 52, 53, 54, 55, 56, 57, 58], [false, false, false, false, false, false, false, false, false, false, false, false, true, true], []), ([47, 48, 49, 50, 51, 52, 53, 54, 55, 56, 57], [false, false, false, false, false, false, false, false, false, false, false, true, true, true, true], []), ([47, 48, 49, 50, 51, 52, 53, 54, 55, 56, 57], [false, false, false, false, false, false, false, false, false, false, false, true, true, true, true, true], [])] 2 17 ?_
     refine dC [47] [false, true, true, true, true, true, true, true, true, true, true, true, true, true, true, true, true] [] [] ?_
     refine cd (joined_ok [⟨lossR c.rats (airS c l h).lo, lossR c.rats (airS c l h).hi⟩] (lostS c l n) (by simp) (by omega) (by omega) (by intro x hx; obtain rfl := List.mem_singleton.1 hx; exact ⟨qlo, qhi⟩)) ?_
     refine dB [([47], [false, true, true, true, true, true, true, true, true, true, true, true, true, true, true, true, true, true], [])] 0 19 ?_
     refine dD ?_
     refine oNw 2 ?_
     refine WOps.endK ?_
     refine hK6 _ ?_
     clear hK6 K6
     refine rEw (M := outMode) ?_
     refine ⟨n + 1, lf ?_ ?_, v0, v0⟩
     ·
      exact v1
     ·
      try (simp [Fx.get F])
      all_goals (
       first | (rw [stE_succ]; done) | (rw [List.range_succ (n := n + 1), List.map_append]; rfl)
      )
    ·
     try simp at hc2
     replace F := F.add hc2
     refine W.exit (M := outMode) ?_
     refine hK4 _ ?_
     clear hK5 K5 hK4 K4
     refine rK (M := outMode) [4] ?_
     refine W.ret (M := outMode) ?_
     refine er false [280] [] ?_
     rw [lostL, qL, show 241 - bn = n + 1 by omega, List.map_map]
     exact ⟨rfl, rfl⟩
end Go.Sim
