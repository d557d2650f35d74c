/- Who is ahead: the reference's list, and what order it has. -/
import Derived.Test.YtmkclhnokelicaaNc
namespace Go.Sim
open Go.Proofs
set_option maxRecDepth 100000
set_option linter.unusedSimpArgs false
set_option linter.unusedVariables false
attribute [-simp] List.map_set List.map_take List.map_drop
attribute [local simp] canL_zero
theorem ltQ_ahead {l : Lett} {s a b : Nat} (h : a ≠ b) : ltQ l s (a : Int) (b : Int) = aheadB l s a b := by
  rw [ltQ, Int.toNat_natCast, Int.toNat_natCast, cmpL_ahead h]
theorem bub_sorted {lt : Int → Int → Bool} (P : Int → Prop) (htot : ∀ x y, P x → P y → x ≠ y → lt x y = true ∨ lt y x = true) (htr : ∀ x y z, P x → P y → P z → lt x y = true → lt y z = true → lt x z = true) {x : Int} (hx : P x) :
    ∀ {r : List Int}, (∀ y ∈ r, P y) → x ∉ r → r.Pairwise (fun y z => lt z y = true) → (bubR lt x r).Pairwise fun y z => lt z y = true
  | [], _, _, _ => by simp [bubR]
  | y :: r, hr, hn, hs => by
    rw [List.pairwise_cons] at hs
    have hy := hr y (by simp)
    have hr' : ∀ z ∈ r, P z := fun z hz => hr z (List.mem_cons_of_mem _ hz)
    rw [bubR]
    split
    · rename_i h
      rw [List.pairwise_cons]
      refine ⟨fun z hz => ?_, bub_sorted P htot htr hx hr' (fun h => hn (List.mem_cons_of_mem _ h)) hs.2⟩
      rcases List.mem_cons.1 ((bubR_perm lt x r).mem_iff.1 hz) with rfl | hz
      · exact h
      · exact hs.1 z hz
    · rename_i h
      have hyx : lt y x = true := (htot x y hx hy fun e => hn (by simp [e])).resolve_left h
      rw [List.pairwise_cons, List.pairwise_cons]
      refine ⟨fun z hz => ?_, hs.1, hs.2⟩
      rcases List.mem_cons.1 hz with rfl | hz
      · exact hyx
      · exact htr z y x (hr' z hz) hy hx (hs.1 z hz) hyx
theorem sort_sorted {lt : Int → Int → Bool} (P : Int → Prop) (htot : ∀ x y, P x → P y → x ≠ y → lt x y = true ∨ lt y x = true) (htr : ∀ x y z, P x → P y → P z → lt x y = true → lt y z = true → lt x z = true) {l : List Int} (hl : ∀ y ∈ l, P y) (hd : l.Nodup) : (sortL lt l).Pairwise fun y z => lt y z = true := by
  rw [sortL, List.pairwise_reverse]
  have aux : ∀ n, n ≤ l.length → (sortR lt (l.take n)).Pairwise fun y z => lt z y = true := by
    intro n
    induction n with
    | zero => intro _; simp [sortR]
    | succ n ih =>
      intro hn
      have hnl : n < l.length := hn
      rw [List.take_succ_eq_append_getElem hnl, sortR_snoc]
      refine bub_sorted P htot htr (hl _ (List.getElem_mem hnl)) (fun y hy => hl y (List.mem_of_mem_take ((sortR_perm lt _).mem_iff.1 hy))) (fun hm => ?_) (ih (by omega))
      obtain ⟨j, hj, e⟩ := List.mem_take_iff_getElem.1 ((sortR_perm lt _).mem_iff.1 hm)
      have := hd.idxOf_getElem j (by omega)
      rw [e, hd.idxOf_getElem n hnl] at this
      omega
  have := aux l.length (Nat.le_refl _)
  rwa [List.take_length] at this
theorem canL_nodup (l : Lett) (s k : Nat) : (canL l s k).Nodup := by
  rw [canL, List.nodup_iff_pairwise_ne, List.pairwise_map]
  have h := List.nodup_iff_pairwise_ne.1 (List.nodup_range.sublist (List.filter_sublist (p := fun a => canS l.stalls (nth l.apps a) (s : Int)) (l := List.range k)))
  exact h.imp fun {a b} hne e => hne (by have : (a : Int) = (b : Int) := e; omega)
theorem ltQ_ne {l : Lett} {s a b : Nat} (h : ltQ l s (a : Int) (b : Int) = true) : a ≠ b := fun e => by
  subst e
  rw [ltQ, cmpL, if_pos rfl] at h
  exact absurd h (by decide)
theorem mem_rankL {l : Lett} {s : Nat} {x : Int} : x ∈ rankL l s ↔ ∃ a : Nat, x = (a : Int) ∧ a < l.apps.length ∧ canS l.stalls (nth l.apps a) s = true := by
  rw [rankL, (sortL_perm _ _).mem_iff, mem_canL]
theorem rankL_nodup (l : Lett) (s : Nat) : (rankL l s).Nodup := (sortL_perm _ _).nodup_iff.2 (canL_nodup _ _ _)
theorem rankL_sorted (l : Lett) (s : Nat) : (rankL l s).Pairwise fun y z => ltQ l s y z = true := by
  refine sort_sorted (fun x => ∃ a : Nat, x = (a : Int) ∧ a < l.apps.length) (fun x y hx hy hne => ?_) (fun x y z hx hy hz h1 h2 => ?_) (fun y hy => ?_) (canL_nodup _ _ _)
  · obtain ⟨a, rfl, ha⟩ := hx
    obtain ⟨b, rfl, hb⟩ := hy
    have hab : a ≠ b := fun e => hne (by rw [e])
    rw [ltQ_ahead hab, ltQ_ahead hab.symm]
    exact ahead_tot ha hb hab
  · obtain ⟨a, rfl, ha⟩ := hx
    obtain ⟨b, rfl, hb⟩ := hy
    obtain ⟨c, rfl, hc⟩ := hz
    have hab := ltQ_ne h1
    have hbc := ltQ_ne h2
    rw [ltQ_ahead hab] at h1
    rw [ltQ_ahead hbc] at h2
    obtain ⟨h3, h4⟩ := ahead_tr hab hbc h1 h2
    rw [ltQ_ahead h3]; exact h4
  · obtain ⟨a, rfl, ha, _⟩ := mem_canL.1 hy
    exact ⟨a, rfl, ha⟩
theorem rank_done {lt : Int → Int → Bool} {c : List Int} {x : Int} {j : Nat} (hj : j ≤ (sortL lt c).length) (h : BJ lt (sortL lt c) x j) (hl : j = 0 ∨ ∃ m, ∃ hm : m < (sortL lt c).length, j = m + 1 ∧ lt x (sortL lt c)[m] = false) : rowJ (sortL lt c) x [] j = sortL lt (c ++ [x]) := by
  rw [← h.done hj hl, sortL, sortL, sortR_snoc, List.reverse_reverse, List.append_nil]
set_option maxHeartbeats 4000000 in
theorem rRanks_ok (l : Lett) (hv : ValidL l) (s : Nat) (hs : s < l.stalls.length) : ACalls Try.prog 43 [letV l, I s] [] (fun r o => r = .tup [ints (rankL l s), I 0] ∧ o = []) := by
 have F := Fx.nil
 replace F := F.add hs
 refine ent Try.func43 Try.ntmps43 Try.results43 ?_
 have hck : checkL l = 0 := checkL_zero.2 hv
 have h8 := hv.a8
 have hs8 := hv.s8
 have hw1 : IntKind.i64.wrap ((l.stalls.length : Int) - 1) = (l.stalls.length : Int) - 1 := wrap_i64 (by omega) (by omega)
 have hin : (s : Int) ≤ (l.stalls.length : Int) - 1 := by omega
 have hnil : sortL (ltQ l s) [] = [] := rfl
 replace F := F.add hck |>.add h8 |>.add hs8 |>.add hw1 |>.add hin |>.add hnil
 refine rK [1, 2] ?_
 refine W.seqk fun K1 hK1 => ?_
 refine W.seqR ?_
 refine oN 1 ?_
 refine oC [] ?_
 refine ct (rCheck_ok _) ?_
 refine oN 1 ?_
 refine oK [1, 2, 6] ?_
 refine rK [1, 2, 6, 13] ?_
 refine cF ?_
 refine W.skip ?_
 refine hK1 _ ?_
 clear hK1 K1
 refine W.seqk fun K2 hK2 => ?_
 refine W.seqR ?_
 refine oN 5 ?_
 refine oC [] ?_
 refine ct (within_ok _ _ _) ?_
 refine oN 1 ?_
 refine oK [1, 2, 21] ?_
 refine cF ?_
 refine W.skip ?_
 refine hK2 _ ?_
 clear hK2 K2
 refine rK [1, 2, 7] ?_
 refine W.seqk fun K3 hK3 => ?_
 refine rK [1, 2, 7, 8] ?_
 refine W.block ?_
 refine sn 7 9000 3 1 ?_
 refine lpa (α := Nat) [1, 2] [25, 32, 36, 37, 39, 55] [9000] (fun a => [(8, I a), (7, .own 9000 0 (canL l s a).length)]) (fun a => [(9000, .row true 3 1 ((sortL (ltQ l s) (canL l s a)).map I))]) (fun a => a ≤ l.apps.length) (fun a => l.apps.length - a) 0 v0 ?_
 ·
  intro a hI0
  simp only [List.cons_append, List.nil_append]
  try dsimp only at hI0
  replace F := F.add hI0
  refine W.seqk fun K4 hK4 => ?_
  refine rK [1, 2, 7, 8, 26] ?_
  refine it (fun hc3 => ?_) (fun hc3 => ?_)
  ·
   try simp at hc3
   replace F := F.add hc3
   refine W.skip ?_
   refine hK4 _ ?_
   clear hK4 K4
   refine W.seqk fun K5 hK5 => ?_
   refine W.block ?_
   refine W.seqk fun K6 hK6 => ?_
   by_cases hcan : canS l.stalls (nth l.apps a) s = true
   ·
    replace F := F.add hcan
    have ha : a < l.apps.length := by omega
    have hcan2 : canS l.stalls l.apps[a] s = true := by rw [← nth_get ha]; exact hcan
    replace F := F.add ha |>.add hcan2
    have ha : a < l.apps.length := by omega
    have hcl := canL_len l s a
    replace F := F.add ha |>.add hcl
    refine W.seqR ?_
    refine oN 3 ?_
    refine oC [] ?_
    refine ct (Can_ok l hv a s ha hs) ?_
    refine oN 1 ?_
    refine oK [1, 2, 7, 8, 33] ?_
    refine cF ?_
    refine W.skip ?_
    refine hK6 _ ?_
    clear hK6 K6
    obtain ⟨P, qP⟩ : ∃ P, P = sortL (ltQ l s) (canL l s a) := ⟨_, rfl⟩
    have hP := qP.symm
    have hPl : P.length = (canL l s a).length := by rw [qP, sortL_len]
    have qPm : ∀ m, ∀ h : m < P.length, ∃ b : Nat, P[m] = (b : Int) ∧ b < a ∧ canS l.stalls (nth l.apps b) s = true := fun m h => mem_canL.1 ((sortL_perm (ltQ l s) (canL l s a)).mem_iff.1 (by rw [← qP]; exact List.getElem_mem h))
    replace F := F.add hP |>.add hPl
    refine rKw [1, 2, 7, 8] ?_
    refine rKw [1, 2, 7, 8, 9] ?_
    refine W.block ?_
    refine lp (α := Nat) [1, 2, 7, 8] [55] [9000] (fun j => [(9, I j)]) (fun j => [(9000, .row true 3 1 ((rowJ P (a : Int) [] j).map I))]) (fun j => j ≤ (canL l s a).length ∧ BJ (ltQ l s) P (a : Int) j) (fun j => j) (canL l s a).length ?_ ?_ ?_ ?_
    ·
     exact v1
    ·
     try (simp [Fx.get F])
     all_goals (
      rw [← hPl, rowJ_full, List.map_append]; rfl
     )
    ·
     exact ⟨Nat.le_refl _, by have := BJ.full (ltQ l s) P (a : Int); rwa [hPl] at this⟩
    ·
     intro j hI1
     simp only [List.cons_append, List.nil_append]
     try dsimp only at hI1
     obtain ⟨hji, hm1⟩ := hI1
     replace F := F.add hji
     obtain ⟨Y, qY⟩ : ∃ Y, Y = rowJ P (a : Int) [] j := ⟨_, rfl⟩
     have hY := qY.symm
     have hYl : Y.length = (canL l s a).length + 1 := by rw [qY, rowJ_len]; simp; omega
     have hjY : j < Y.length := by omega
     have hYj : Y[j] = (a : Int) := by subst qY; exact rowJ_at (by omega) _
     replace F := F.add hY |>.add hYl |>.add hjY |>.add hYj
     refine W.seqk fun K7 hK7 => ?_
     by_cases hj0 : j = 0
     ·
      replace F := F.add hj0
      refine wD 14 [] [[], [0], [0, 1], [1, 0, 2], [1, 0, 2], [1, 0, 2], [1, 0, 2], [6, 2, 0, 1, 5], [5, 1, 0, 2, 6, 7], [1, 0, 2], [1, 0, 2], [2, 0, 1, 10], [10, 11, 2, 0, 1, 9], [9, 1, 0, 2, 11, 10, 12], [12, 10, 11, 9, 13, 7, 6, 5, 8, 4, 2, 0, 1, 3], [3, 4, 8, 5, 6, 7, 13, 9, 11, 10, 12, 14, 1, 0, 2]] ?_
      refine dB [([], [], []), ([], [true], []), ([], [true, true], [])] 11 3 ?_
      refine dF [some 44, some 45, some 46, some 47, some 48, some 49, some 50, some 51, some 52, some 53, some 54] 2 43 true 0 ?_
      refine dD ?_
      refine gF ?_
      refine oN 1 ?_
      refine oK [1, 2, 7, 8, 9, 56] ?_
      refine cF ?_
      refine W.exit ?_
      refine hK5 _ ?_
      clear hK7 K7 hK5 K5
      refine rEw ?_
      refine ⟨a + 1, lf ?_ ?_, v0, v0⟩
      ·
       try (simp [Fx.get F])
       all_goals (
        rw [canL_hit ha hcan2]; simp
       )
      ·
       try (simp [Fx.get F])
       all_goals (
        subst qP
        rw [hj0] at hm1
        rw [canL_hit ha hcan2, rank_done (Nat.zero_le _) hm1 (.inl rfl)]
       )
     ·
      replace F := F.add hj0
      obtain ⟨m, rfl⟩ : ∃ m, j = m + 1 := ⟨j - 1, by omega⟩
      have hmP : m < P.length := by omega
      have hmY : m < Y.length := by omega
      have hmx : (m : Int) + 1 < ((canL l s a).length : Int) + 1 := by omega
      have hmx1 : (m : Int) < ((canL l s a).length : Int) + 1 := by omega
      have hm0 : (0 : Int) ≤ (m : Int) + 1 := by omega
      have hmx2 : m < (canL l s a).length + 1 := by omega
      have hmx3 : m + 1 < (canL l s a).length + 1 := by omega
      have hmx4 : m < (canL l s a).length := by omega
      obtain ⟨b, qb, qbl, qbc⟩ := qPm m hmP
      have hYm : Y[m] = (b : Int) := by rw [← qb]; subst qY; exact rowJ_prev hmP _
      have hbl : b < l.apps.length := by omega
      have qab : a ≠ b := by omega
      replace F := F.add hmP |>.add hmY |>.add hmx |>.add hmx1 |>.add hm0 |>.add hmx2 |>.add hmx3 |>.add hmx4 |>.add hYm |>.add hbl
      refine wD 14 [] [[], [0], [0, 1], [1, 0, 2], [1, 0, 2], [1, 0, 2], [1, 0, 2], [6, 2, 0, 1, 5], [5, 1, 0, 2, 6, 7], [1, 0, 2], [1, 0, 2], [2, 0, 1, 10], [10, 11, 2, 0, 1, 9], [9, 1, 0, 2, 11, 10, 12], [12, 10, 11, 9, 13, 7, 6, 5, 8, 4, 2, 0, 1, 3], [3, 4, 8, 5, 6, 7, 13, 9, 11, 10, 12, 14, 1, 0, 2]] ?_
      refine dB [([], [], []), ([], [true], []), ([], [true, true], [])] 11 3 ?_
      refine dT [45, 46, 47, 48, 49, 50, 51, 52, 53, 54] [true, true, true] [] ?_
      refine dT [44, 46, 47, 48, 49, 50, 51, 52, 53, 54] [true, true, true, false] [] ?_
      refine dT [44, 45, 47, 50, 51, 52, 53, 54] [true, true, true, false, false] [] ?_
      refine dT [44, 45, 46, 50, 51, 52, 53, 54] [true, true, true, false, false, false] [] ?_
      refine dT [44, 45, 50, 51, 52, 53, 54] [true, true, true, false, false, true, true] [] ?_
      refine dT [44, 45, 50, 51, 52, 53, 54] [true, true, true, false, false, true, true, true] [] ?_
      refine dT [44, 45, 46, 47, 48, 49, 51, 52] [true, true, true, false, false, false, false, false, false] [] ?_
      refine dT [44, 45, 46, 47, 48, 49, 50] [true, true, true, false, false, false, false, false, false, false] [] ?_
      refine dTw [44, 45, 46, 47, 48, 49, 50] [true, true, true, false, false, false, false, false, false, false, true] [] ?_
      refine dT [44, 45, 46, 47, 48, 49] [true, true, true, false, false, false, false, false, false, true, true, true] [] ?_
      refine dT [44, 45, 46, 47, 48, 49] [true, true, true, false, false, false, false, false, false, true, true, true, true] [] ?_
      refine dD ?_
      refine gC [] ?_
      refine ct (Ahead_ok l hv s a b hs ha hbl (fun _ => ⟨canS_mem hcan2, canS_mem (by rw [← nth_get hbl]; exact qbc)⟩)) ?_
      refine oN 1 ?_
      refine oK [1, 2, 7, 8, 9, 56] ?_
      refine it (fun hc6 => ?_) (fun hc6 => ?_)
      ·
       try simp at hc6
       replace F := F.add hc6
       refine W.skip ?_
       refine hK7 _ ?_
       clear hK7 K7
       refine W.seqk fun K8 hK8 => ?_
       refine W.block ?_
       refine wDe 16 [(15, [9000])] [[], [], [], [], [3], [], [], [6], [6, 7, 5], [5, 7, 6, 8], [], [], [11, 10], [10, 11, 12], [12, 11, 10, 13, 9, 8, 7, 6, 5, 1, 0], [0, 1, 5, 6, 7, 8, 9, 13, 10, 11, 12, 14], [15, 14, 13, 12, 11, 10, 9, 8, 7, 6, 5, 1, 0, 3, 4, 2], [2, 4, 3, 0, 1, 5, 6, 7, 8, 9, 10, 11, 12, 13, 14, 15, 16]] ?_
       refine dBw [([60, 61, 62, 63, 64, 65, 66, 67, 68, 69, 70, 71, 72], [], []), ([59, 61, 62, 63, 64, 65, 66, 67, 68, 69, 70, 71, 72], [false], []), ([59, 60, 62, 63, 64, 65, 66, 67, 68, 69, 70, 71, 72, 73], [false, false], [9000]), ([59, 60, 61, 64, 65, 66, 67, 68, 69, 70, 71, 72, 73], [false, false, false], [9000]), ([59, 60, 61, 64, 65, 66, 67, 68, 69, 70, 71, 72, 73], [false, false, false, true], [9000]), ([59, 60, 61, 62, 63, 65, 66, 69, 70, 71, 72], [false, false, false, false, false], []), ([59, 60, 61, 62, 63, 64, 69, 70, 71, 72], [false, false, false, false, false, false], []), ([59, 60, 61, 62, 63, 64, 69, 70, 71, 72], [false, false, false, false, false, false, true], []), ([59, 60, 61, 62, 63, 69, 70, 71, 72], [false, false, false, false, false, true, true, true], []), ([59, 60, 61, 62, 63, 69, 70, 71, 72], [false, false, false, false, false, true, true, true, true], []), ([59, 60, 61, 62, 63, 64, 65, 66, 67, 68, 70], [false, false, false, false, false, false, false, false, false, false], []), ([59, 60, 61, 62, 63, 64, 65, 66, 67, 68, 69], [false, false, false, false, false, false, false, false, false, false, false], []), ([59, 60, 61, 62, 63, 64, 65, 66, 67, 68], [false, false, false, false, false, false, false, false, false, false, true, true], []), ([59, 60, 61, 62, 63, 64, 65, 66, 67, 68], [false, false, false, false, false, false, false, false, false, false, true, true, true], []), ([61, 62, 63], [true, true, false, false, false, true, true, true, true, true, true, true, true, true], [])] 1 15 ?_
       refine WDraw.upd hΓ [9000] (viewB_eq (L := [61, 62, 63]) (S := [true, true, false, false, false, true, true, true, true, true, true, true, true, true, true]) (O := []) (by kernel_rfl) (by kernel_rfl) (by simp [hs, hck, h8, hs8, hw1, hin, hnil, hI0, hc3, hcan, ha, hcan2, ha, hcl, hP, hPl, hji, hY, hYl, hjY, hYj, hj0, hmP, hmY, hmx, hmx1, hm0, hmx2, hmx3, hmx4, hYm, hbl, hc6]; rfl)) (by first | rfl | simp) (by simp [hs, hck, h8, hs8, hw1, hin, hnil, hI0, hc3, hcan, ha, hcan2, ha, hcl, hP, hPl, hji, hY, hYl, hjY, hYj, hj0, hmP, hmY, hmx, hmx1, hm0, hmx2, hmx3, hmx4, hYm, hbl, hc6]; first | rfl | exact ⟨rfl, rfl⟩) (by simp [hs, hck, h8, hs8, hw1, hin, hnil, hI0, hc3, hcan, ha, hcan2, ha, hcl, hP, hPl, hji, hY, hYl, hjY, hYj, hj0, hmP, hmY, hmx, hmx1, hm0, hmx2, hmx3, hmx4, hYm, hbl, hc6]; first | done | rfl) (.inr (by simp)) (by simp [hs, hck, h8, hs8, hw1, hin, hnil, hI0, hc3, hcan, ha, hcan2, ha, hcl, hP, hPl, hji, hY, hYl, hjY, hYj, hj0, hmP, hmY, hmx, hmx1, hm0, hmx2, hmx3, hmx4, hYm, hbl, hc6]; rfl) ?_
       refine dD ?_
       refine WOps.le Le.dedup rfl rfl ?_
       refine WOps.norm (by simp [hs, hck, h8, hs8, hw1, hin, hnil, hI0, hc3, hcan, ha, hcan2, ha, hcl, hP, hPl, hji, hY, hYl, hjY, hYj, hj0, hmP, hmY, hmx, hmx1, hm0, hmx2, hmx3, hmx4, hYm, hbl, hc6]; rfl) ?_
       refine oN 2 ?_
       refine WOps.endK ?_
       refine hK8 _ ?_
       clear hK8 K8
       refine rEw ?_
       refine ⟨m, lf ?_ ?_, ?_, v0⟩
       ·
        exact v1
       ·
        try (simp [Fx.get F])
        all_goals (
         rw [qY, ← qb, rowJ_swap hmP]
        )
       ·
        exact ⟨by omega, hm1.step hmP (by rw [qb, ltQ_ahead qab]; exact hc6)⟩
      ·
       try simp at hc6
       replace F := F.add hc6
       refine W.exit ?_
       refine hK5 _ ?_
       clear hK7 K7 hK5 K5
       refine rEw ?_
       refine ⟨a + 1, lf ?_ ?_, v0, v0⟩
       ·
        try (simp [Fx.get F])
        all_goals (
         rw [canL_hit ha hcan2]; simp
        )
       ·
        try (simp [Fx.get F])
        all_goals (
         subst qP
         rw [canL_hit ha hcan2, ← rank_done (by omega) hm1 (.inr ⟨m, hmP, rfl, by rw [qb, ltQ_ahead qab]; simpa using hc6⟩), hY]
        )
   ·
    replace F := F.add hcan
    have ha : a < l.apps.length := by omega
    have hcan2 : ¬ canS l.stalls l.apps[a] s = true := by rw [← nth_get ha]; exact hcan
    replace F := F.add ha |>.add hcan2
    have ha : a < l.apps.length := by omega
    have hcl := canL_len l s a
    replace F := F.add ha |>.add hcl
    refine W.seqR ?_
    refine oN 3 ?_
    refine oC [] ?_
    refine ct (Can_ok l hv a s ha hs) ?_
    refine oN 1 ?_
    refine oK [1, 2, 7, 8, 33] ?_
    refine cT ?_
    refine W.exit ?_
    refine hK5 _ ?_
    clear hK6 K6 hK5 K5
    refine rEw ?_
    refine ⟨a + 1, lf ?_ ?_, v0, v0⟩
    ·
     try (simp [Fx.get F])
     all_goals (
      rw [canL_miss ha hcan2]
     )
    ·
     try (simp [Fx.get F])
     all_goals (
      rw [canL_miss ha hcan2]
     )
  ·
   try simp at hc3
   replace F := F.add hc3
   refine W.exit ?_
   refine hK3 _ ?_
   clear hK4 K4 hK3 K3
   have hae : a = l.apps.length := by omega
   have hsl : sortL (ltQ l s) (canL l s l.apps.length) = rankL l s := rfl
   have hrl : (rankL l s).length = (canL l s l.apps.length).length := sortL_len _ _
   have hrt : List.take (canL l s l.apps.length).length ((rankL l s).map I) = (rankL l s).map I := List.take_of_length_le (by rw [List.length_map, hrl]; exact Nat.le_refl _)
   replace F := F.add hae |>.add hsl |>.add hrl |>.add hrt
   refine rK [4, 5] ?_
   refine W.ret ?_
   exact er0 false [9000] []
end Go.Sim
