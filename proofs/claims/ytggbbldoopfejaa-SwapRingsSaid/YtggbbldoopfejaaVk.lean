/- What blocks: the first group. -/
import Derived.Test.YtggbbldoopfejaaVj
namespace Go.Sim
open Go.Proofs Go.Plain
set_option maxRecDepth 100000
set_option linter.unusedSimpArgs false
attribute [-simp] List.map_set List.map_take List.map_drop
attribute [local simp] take_map' drop_map'
def Vg (n many : Nat) (vals : List Value) : Prop := ∃ g : List Nat, vals = g.map natV ∧ g.length = many ∧ ∀ y ∈ g, y < n
theorem groups_call (n many : Nat) (hn8 : n ≤ 8) (hm0 : 0 < many) (hm8 : many ≤ 8) (Z : List Value → Option (List (Nat × Obj))) (stop : List Nat → Bool) (hZ : ∀ g, (Z (g.map natV)).isSome = stop g) :
    ∀ (l : Nat) (J0 : World → (Nat → Prop) → Prop) (JX : List Value → World → (Nat → Prop) → Prop), (∀ vals, Vg n many vals → YieldOk Try.prog l J0 3 vals (fun t J' => (Z vals = none ∧ t = true ∧ J' = J0) ∨ ∃ oX, Z vals = some oX ∧ t = false ∧ J' = JX vals)) →
      ACalls Try.prog 79 (.yld 19999 :: [.ptr 10000 0 0, .ptr 10001 0 0]) ((19999, .ext l J0) :: [(10000, .row false 3 1 [I many]), (10001, .row false 3 1 [I n])]) (fun _ o => o = (19999, .ext l (match (foundG n many stop).map (List.map natV) with | none => J0 | some v => JX v)) :: [(10000, .row false 3 1 [I many]), (10001, .row false 3 1 [I n])]) := by
  intro l J0 JX hy
  refine (groups1_ok n many stop l J0 (fun g => JX (g.map natV)) hn8 hm0 (fun g h1 h2 => (hy (g.map natV) ⟨g, rfl, h1, h2⟩).mono fun t J' h => ?_) hm8).mono fun r o h => ?_
  · rcases h with ⟨h1, h2, h3⟩ | ⟨oX, h1, h2, h3⟩
    · have : stop g = false := by rw [← hZ, h1]; rfl
      rw [this]; exact ⟨h2, h3⟩
    · have : stop g = true := by rw [← hZ, h1]; rfl
      rw [this]; exact ⟨h2, h3⟩
  · rw [h]; cases foundG n many stop <;> rfl
theorem val_natV : AV.val ∘ natV = nI := rfl
attribute [local simp] val_natV
def unV (v : Value) : Nat := match v with | .int _ a => a.toNat | _ => 0
theorem unV_natV (g : List Nat) : (g.map natV).map unV = g := by
  rw [List.map_map]
  conv => rhs; rw [← List.map_id g]
  exact List.map_congr_left fun x _ => by simp [unV, natV]
def Zb (ow : List Turn) (lk : List (List Turn)) (held : List Turn) (vals : List Value) : Option (List (Nat × Obj)) := if blockG ow lk held (vals.map unV) = true then some [(20000, .row true 3 1 ((vals.map unV).map nI)), (11000, .row false 25 2 [trade ow lk]), (11001, .row false 22 1 [turns held]), (11002, .row false 26 1 [.own 20000 0 (vals.map unV).length]), (11003, .row false 36 1 [I 0])] else none
theorem Zb_some {ow : List Turn} {lk : List (List Turn)} {held : List Turn} {g : List Nat} (h : blockG ow lk held g = true) : Zb ow lk held (g.map natV) = some [(20000, .row true 3 1 (g.map nI)), (11000, .row false 25 2 [trade ow lk]), (11001, .row false 22 1 [turns held]), (11002, .row false 26 1 [.own 20000 0 g.length]), (11003, .row false 36 1 [I 0])] := by
  unfold Zb; rw [unV_natV, if_pos h]
theorem Zb_none {ow : List Turn} {lk : List (List Turn)} {held : List Turn} {g : List Nat} (h : blockG ow lk held g = false) : Zb ow lk held (g.map natV) = none := by
  unfold Zb; rw [unV_natV, if_neg (by simp [h])]
theorem Zb_isSome (ow : List Turn) (lk : List (List Turn)) (held : List Turn) (g : List Nat) : (Zb ow lk held (g.map natV)).isSome = blockG ow lk held g := by
  cases h : blockG ow lk held g with
  | true => rw [Zb_some h]; rfl
  | false => rw [Zb_none h]; rfl
/-- the first group that blocks -/
def blockL (n : Nat) (stop : List Nat → Bool) (k : Nat) : List Nat := ((List.range' k (n + 1 - k)).findSome? fun many => foundG n many stop).getD []
def blocksT (ow : List Turn) (lk : List (List Turn)) (held : List Turn) : List Nat := if heldT ow lk held = 0 then blockL ow.length (blockG ow lk held) 1 else []
theorem blockL_hit {n k : Nat} {stop : List Nat → Bool} {g : List Nat} (h : k ≤ n) (hg : foundG n k stop = some g) : blockL n stop k = g := by
  rw [blockL, range'_next (by omega : k < n + 1), List.findSome?_cons, hg]; rfl
theorem blockL_skip {n k : Nat} {stop : List Nat → Bool} (h : k ≤ n) (hg : foundG n k stop = none) : blockL n stop k = blockL n stop (k + 1) := by
  rw [blockL, range'_next (by omega : k < n + 1), List.findSome?_cons, hg]; rfl
theorem blockL_done {n k : Nat} {stop : List Nat → Bool} (h : n < k) : blockL n stop k = [] := by rw [blockL, range'_done (by omega)]; rfl
set_option maxHeartbeats 4000000 in
theorem Blocks_ok (ow : List Turn) (lk : List (List Turn)) (held : List Turn) (hwf : ValidT ow lk → ∀ x ∈ held, WfT x) : ACalls Try.prog 28 [trade ow lk, turns held] [] (fun r o => r = .tup [rgV (blocksT ow lk held), I (heldT ow lk held)] ∧ o = []) := by
  refine ACalls.enter (M := outMode) hΓ Try.func28 rfl (by kernel_rfl) Try.ntmps28 (by rw [Try.results28]) (by simp) (by simp; rfl) ?_
  refine W.regK (M := outMode) hΓ [2, 3, 4, 5, 8, 27] (by simp; rfl) ?_
  refine W.seqk (M := outMode) fun K1 hK1 => ?_
  refine W.seqR (M := outMode) ?_
  refine WOps.n hΓ 2 (by simp; first | rfl | exact ⟨rfl, rfl⟩) rfl ?_
  refine WOps.call rfl rfl rfl rfl [] rfl rfl (by decide) (by simp; first | rfl | exact ⟨rfl, rfl⟩) (by simp; rfl) ?_
  refine CallT.mk (CheckHeld_ok _ _ _ (by assumption)) (by simp) ?_
  refine WOps.norm (by simp; rfl) ?_
  refine WOps.n hΓ 1 (by simp; first | rfl | exact ⟨rfl, rfl⟩) rfl ?_
  refine WOps.endK ?_
  refine W.keep (M := outMode) [2, 3, 4, 5, 6, 8, 27] (by simp; rfl) ?_
  refine W.regK (M := outMode) hΓ [2, 3, 4, 5, 6, 8, 13, 27] (by simp; rfl) ?_
  refine W.ite (M := outMode) (by simp; first | rfl | exact (Bool.not_not _).symm) (fun hc1 => ?_) (fun hc1 => ?_)
  ·
    try simp at hc1
    refine W.regK (M := outMode) hΓ [4, 5] (by simp [hc1]; rfl) ?_
    refine W.ret (M := outMode) ?_
    refine thenQ_r ?_
    clear hK1 K1
    refine EndQ.r true [] [] (by simp [hc1]; first | rfl | exact ⟨rfl, rfl⟩) ?_
    -- 1 end
    exact ⟨by rw [blocksT, if_neg hc1]; rfl, rfl⟩
  ·
    try simp at hc1
    obtain ⟨hv, hh⟩ := heldT_valid (by simpa using hc1)
    have hn8 : ow.length ≤ 8 := hv.most
    have hz : heldT ow lk held = 0 := by simpa using hc1
    refine W.skip (M := outMode) ?_
    refine thenQ_n (hK1 _ ?_)
    clear hK1 K1
    refine W.seqk (M := outMode) fun K2 hK2 => ?_
    refine W.regK (M := outMode) hΓ [2, 3, 4, 5, 7, 8, 27] (by simp [hc1, hn8, hz]; rfl) ?_
    refine W.block (M := outMode) ?_
    refine W.loopU (M := outMode) (α := Nat) [2, 3, 4, 5, 27] [18, 24, 26, 31] [] (fun many => [(7, I many)]) (fun many => []) (fun many => 1 ≤ many ∧ many ≤ ow.length + 1 ∧ blockL ow.length (blockG ow lk held) 1 = blockL ow.length (blockG ow lk held) many) (fun many => ow.length + 1 - many) 1 rfl (by simp [hc1, hn8, hz]; rfl) (by simp [hc1, hn8, hz]; rfl) ?_ ?_ ?_
    ·
      refine Le.fit (by simp [hc1, hn8, hz]; rfl) (by rfl) (by rfl) (by rfl) ?_ ?_
      ·
        try (simp [hc1, hn8, hz])
        all_goals (
          -- 2 init.tmps
          first | done | omega | (simp_all; done) | (simp_all; omega)
        )
      ·
        try (simp [hc1, hn8, hz])
        all_goals (
          -- 3 init.objs
          first | done | omega | (simp_all; done) | (simp_all; omega)
        )
    ·
      -- 4 init.inv
      first | done | omega | (simp_all; done) | (simp_all; omega)
    ·
      intro many hI0
      simp only [List.cons_append, List.nil_append]
      try dsimp only at hI0
      obtain ⟨hm1, hmn, he⟩ := hI0
      refine W.seqk (M := outMode) fun K3 hK3 => ?_
      refine W.regK (M := outMode) hΓ [2, 3, 4, 5, 7, 8, 19, 27] (by simp [hc1, hn8, hz, hm1, hmn]; rfl) ?_
      refine W.ite (M := outMode) (by simp [hc1, hn8, hz, hm1, hmn]; first | rfl | exact (Bool.not_not _).symm) (fun hc2 => ?_) (fun hc2 => ?_)
      ·
        try simp at hc2
        refine W.skip (M := outMode) ?_
        refine thenQ_n (hK3 _ ?_)
        clear hK3 K3
        refine W.seqk (M := outMode) fun K4 hK4 => ?_
        refine W.block (M := outMode) ?_
        refine W.seqR (M := outMode) ?_
        refine WOps.n hΓ 4 (by simp [hc1, hn8, hz, hm1, hmn, hc2]; first | rfl | exact ⟨rfl, rfl⟩) rfl ?_
        refine WOps.call rfl rfl rfl rfl [] rfl rfl (by decide) (by simp [hc1, hn8, hz, hm1, hmn, hc2]; first | rfl | exact ⟨rfl, rfl⟩) (by simp [hc1, hn8, hz, hm1, hmn, hc2]; rfl) ?_
        refine CallT.mk (groups_ok _ _) (by simp [hc1, hn8, hz, hm1, hmn, hc2]) ?_
        refine WOps.norm (by simp [hc1, hn8, hz, hm1, hmn, hc2]; rfl) ?_
        refine WOps.endK ?_
        refine W.keep (M := outMode) [2, 3, 4, 5, 7, 8, 26, 27] (by simp [hc1, hn8, hz, hm1, hmn, hc2]; rfl) ?_
        refine W.block (M := outMode) ?_
        refine W.rangeFunc (by simp [hc1, hn8, hz, hm1, hmn, hc2]; all_goals first | rfl | exact ⟨rfl, rfl⟩ | exact ⟨rfl, rfl, rfl⟩) [(10000, 208), (10001, 209)] [(11000, 16), (11001, 24), (11002, 32), (11003, 40)] rfl rfl rfl (by simp [hc1, hn8, hz, hm1, hmn, hc2]; all_goals first | rfl | exact ⟨rfl, rfl⟩ | exact ⟨rfl, rfl, rfl⟩) rfl (by simp [hc1, hn8, hz, hm1, hmn, hc2]; all_goals first | rfl | exact ⟨rfl, rfl⟩ | exact ⟨rfl, rfl, rfl⟩) (by simp [hc1, hn8, hz, hm1, hmn, hc2]; all_goals first | rfl | exact ⟨rfl, rfl⟩ | exact ⟨rfl, rfl, rfl⟩) (by simp [hc1, hn8, hz, hm1, hmn, hc2]; all_goals first | rfl | exact ⟨rfl, rfl⟩ | exact ⟨rfl, rfl, rfl⟩) (by simp [hc1, hn8, hz, hm1, hmn, hc2]; all_goals first | rfl | exact ⟨rfl, rfl⟩ | exact ⟨rfl, rfl, rfl⟩) [2, 3, 4, 5] (by simp [hc1, hn8, hz, hm1, hmn, hc2]; all_goals first | rfl | exact ⟨rfl, rfl⟩ | exact ⟨rfl, rfl, rfl⟩) (by first | decide | (simp; done) | omega) (3) (Vg ow.length many) (Zb ow lk held) ?_ ((foundG ow.length many (blockG ow lk held)).map (List.map natV)) (groups_call ow.length many (by omega) (by omega) (by omega) _ (blockG ow lk held) (Zb_isSome ow lk held)) 27 (by decide) ?_ ?_
        ·
          intro vals hV
          obtain ⟨g, rfl, rfl, hgn⟩ := hV
          refine W.norm (M := anyMode) (by simp [hc1, hn8, hz, hm1, hmn, hc2, hgn]; rfl) ?_
          refine W.regE (M := anyMode) hΓ (by simp [hc1, hn8, hz, hm1, hmn, hc2, hgn]; rfl) ?_
          refine ⟨rfl, ?_⟩
          refine W.block (M := anyMode) ?_
          refine W.seqR (M := anyMode) ?_
          refine WOps.n hΓ 3 (by simp [hc1, hn8, hz, hm1, hmn, hc2, hgn]; first | rfl | exact ⟨rfl, rfl⟩) rfl ?_
          refine WOps.call rfl rfl rfl rfl [] rfl rfl (by decide) (by simp [hc1, hn8, hz, hm1, hmn, hc2, hgn]; first | rfl | exact ⟨rfl, rfl⟩) (by simp [hc1, hn8, hz, hm1, hmn, hc2, hgn]; rfl) ?_
          refine CallT.mk (blocks_ok ow lk held g hv hh hgn (by omega)) (by simp [hc1, hn8, hz, hm1, hmn, hc2, hgn]) ?_
          refine WOps.norm (by simp [hc1, hn8, hz, hm1, hmn, hc2, hgn]; rfl) ?_
          refine WOps.endK ?_
          refine W.keep (M := anyMode) [2, 3, 4, 5, 7, 8, 27, 31] (by simp [hc1, hn8, hz, hm1, hmn, hc2, hgn]; rfl) ?_
          refine W.ite (M := anyMode) (by simp [hc1, hn8, hz, hm1, hmn, hc2, hgn]; first | rfl | exact (Bool.not_not _).symm) (fun hc3 => ?_) (fun hc3 => ?_)
          ·
            try simp at hc3
            refine W.regK (M := anyMode) hΓ [4, 5] (by simp [hc1, hn8, hz, hm1, hmn, hc2, hgn, hc3]; rfl) ?_
            refine W.ret (M := anyMode) ?_
            refine blockQ_r ?_
            refine ⟨[(20000, .row true 3 1 (g.map nI)), (11000, .row false 25 2 [trade ow lk]), (11001, .row false 22 1 [turns held]), (11002, .row false 26 1 [.own 20000 0 g.length]), (11003, .row false 36 1 [I 0])], ?_, Le.fit (by simp [hc1, hn8, hz, hm1, hmn, hc2, hgn, hc3]; rfl) (by rfl) (by rfl) (by rfl) (by trivial) ?_⟩
            ·
              -- 5 round.z
              exact Zb_some hc3
            ·
              try (simp [hc1, hn8, hz, hm1, hmn, hc2, hgn, hc3])
              all_goals (
                -- 6 round.objs
                first | done | omega | (simp_all; done) | (simp_all; omega)
              )
          ·
            try simp at hc3
            refine W.skip (M := anyMode) ?_
            refine blockQ_n ?_
            refine ⟨?_, Le.fit (by simp [hc1, hn8, hz, hm1, hmn, hc2, hgn, hc3]; rfl) (by rfl) (by rfl) (by rfl) (by trivial) ?_⟩
            ·
              -- 7 round.z
              exact Zb_none hc3
            ·
              try (simp [hc1, hn8, hz, hm1, hmn, hc2, hgn, hc3])
              all_goals (
                -- 8 round.objs
                first | done | omega | (simp_all; done) | (simp_all; omega)
              )
        ·
          intro hres
          have hfg : foundG ow.length many (blockG ow lk held) = none := by simpa using hres
          refine ⟨(by simp [hc1, hn8, hz, hm1, hmn, hc2, hfg]; all_goals first | rfl | exact ⟨rfl, rfl⟩ | exact ⟨rfl, rfl, rfl⟩), ?_⟩
          refine Qnorm (by simp [hc1, hn8, hz, hm1, hmn, hc2, hfg]; rfl) ?_
          refine blockQ_n ?_
          refine blockQ_n ?_
          refine thenQ_n (hK4 _ ?_)
          clear hK4 K4
          refine W.regE (M := outMode) hΓ (by simp [hc1, hn8, hz, hm1, hmn, hc2, hfg]; (try (simp (disch := omega) only [wrap_i64, mul_i64, capOk_of]; (try simp [hc1, hn8, hz, hm1, hmn, hc2, hfg]))); rfl) ?_
          refine ⟨many + 1, Le.fit (by simp [hc1, hn8, hz, hm1, hmn, hc2, hfg]; rfl) (by rfl) (by rfl) (by rfl) ?_ ?_, ?_, ?_⟩
          ·
            try (simp [hc1, hn8, hz, hm1, hmn, hc2, hfg])
            all_goals (
              -- 9 back.tmps
              first | done | omega | (simp_all; done) | (simp_all; omega)
            )
          ·
            try (simp [hc1, hn8, hz, hm1, hmn, hc2, hfg])
            all_goals (
              -- 10 back.objs
              first | done | omega | (simp_all; done) | (simp_all; omega)
            )
          ·
            -- 11 back.inv
            exact ⟨by omega, by omega, by rw [he, blockL_skip hc2 hfg]⟩
          ·
            -- 12 back.meas
            first | done | omega | (simp_all; done) | (simp_all; omega)
        ·
          intro vx hres
          obtain ⟨g, qfg, rfl⟩ := Option.map_eq_some_iff.1 hres
          have hbg : blockG ow lk held g = true := by have := List.find?_some qfg; simpa using this
          refine ⟨[(20000, .row true 3 1 (g.map nI)), (11000, .row false 25 2 [trade ow lk]), (11001, .row false 22 1 [turns held]), (11002, .row false 26 1 [.own 20000 0 g.length]), (11003, .row false 36 1 [I 0])], ?_, (by simp [hc1, hn8, hz, hm1, hmn, hc2, hbg]; all_goals first | rfl | exact ⟨rfl, rfl⟩ | exact ⟨rfl, rfl, rfl⟩), ?_⟩
          ·
            -- 13 range.z
            exact Zb_some hbg
          ·
            refine Qnorm (by simp [hc1, hn8, hz, hm1, hmn, hc2, hbg]; rfl) ?_
            refine blockQ_r ?_
            refine blockQ_r ?_
            refine thenQ_r ?_
            clear hK4 K4
            refine thenQ_r ?_
            refine blockQ_r ?_
            refine thenQ_r ?_
            clear hK2 K2
            refine EndQ.r true [216] [] (by simp [hc1, hn8, hz, hm1, hmn, hc2, hbg]; first | rfl | exact ⟨rfl, rfl⟩) ?_
            -- 14 end
            exact ⟨by rw [blocksT, if_pos hz, he, blockL_hit hc2 qfg, hz], rfl⟩
      ·
        try simp at hc2
        refine W.exit (M := outMode) ?_
        refine thenQ_e ?_
        clear hK3 K3
        refine thenQ_e ?_
        refine blockQ_s ?_
        refine thenQ_n (hK2 _ ?_)
        clear hK2 K2
        refine W.regK (M := outMode) hΓ [4, 5] (by simp [hc1, hn8, hz, hm1, hmn, hc2]; rfl) ?_
        refine W.ret (M := outMode) ?_
        refine EndQ.r true [] [] (by simp [hc1, hn8, hz, hm1, hmn, hc2]; first | rfl | exact ⟨rfl, rfl⟩) ?_
        -- 15 end
        exact ⟨by rw [blocksT, if_pos hz, he, blockL_done hc2, hz]; rfl, rfl⟩
end Go.Sim
